import Derived.Test.YtnimkmkapajnhaaDoorRBW
import Derived.Laws.MakeOwn
import Derived.Laws.CopyOwn
set_option linter.unusedVariables false
namespace Go.Proofs.YtnimkmkapajnhaaDoorW.PrintMore
open Go.RowKit Go.Proofs.YtnimkmkapajnhaaDoorW.PrintWords Go.Proofs.YtnimkmkapajnhaaDoorW.PrintLast
section
variable {P:Program}
theorem cut_to3 (t e:TypeId) (kh:IntKind) {i:TypeInfo} (ht:P.underlying t = some (.slice e)) (hi:P.info? e = some i) (A:Option Addr) (n c:Nat) (j:Int) (h0:0≤j) (hm:j≤n) (hc:n≤c) :
    ∀ W:World,(Instr.slice t (.slice A n c) none (some (.int kh j)) (some (.int kh j))).run P W = .ok (.slice A j.toNat j.toNat) W:=by
  intro W
  have hel:P.elem t = e:=by simp [Program.elem,ht]
  have hu:P.underlying t = some (.slice (P.elem t)):=by rw [hel];exact ht
  have ha:(A.map fun x=>x.add 0) = A:=by cases A <;> simp [Addr.add]
  rw [run_slice_hm W t A n c hu kh kh j j h0 (by omega) (by omega),hel]
  simp [sizeOf,typeInfo,hi,sliced,Result.andThen,ha]
end
namespace Kd
open Go.Proofs.YtnimkmkapajnhaaDoorW.PrintWords.Kd
section
variable {P:Program} {ops:Array Oper} {rest:List Oper} {o:Oper} {a:Act} {Q:Exit→Act→World→Prop} {α:Type}
theorem R_make0 (d:Kd α) {w0 W:World} (base e:Nat) (hgd:o.guard = none) {N:Tmp} (hd:o.dst = some N) (t:TypeId) (x y:Operand) (ho:o.op = .makeSlice t x y) (n:Int) (hx:a.eval x = .int .i64 0) (hy:a.eval y = .int .i64 n)
    (ht:P.underlying t = some (.slice e)) (z:Value) (bytes:Nat) (hinfo:(P.info? e).map (fun i=>(i.zero,i.size,i.bytes)) = some (some z,d.sz,bytes)) (hz:z.cells.size = d.sz) (hs0:0 < d.sz) (hb0:0 < bytes)
    (z0:α) {ok okp:Nat→Prop} (_hzero:True) (hok:∀k,okp k→ok k) (hfresh:ok W.heap.size) (h0:0≤n) (hl:n.toNat * bytes≤281474976710656) (HB:Below base w0 W) (hbase:base≤W.heap.size)
    (h:∀v1 w1,d.R e w1 base ok v1 ([]:List α)→Below base w0 w1→W.grownBy w1 none→(∃ b,v1.ownBlock = some b∧W.heap.size≤b)→wpList P ops Q rest (a.put o.dst v1) w1):wpList P ops Q (o :: rest) a W:=by
  obtain ⟨m,rfl⟩:=Int.eq_ofNat_of_zero_le h0
  simp only [Int.toNat_natCast] at hl
  obtain ⟨i0,hi,hzz⟩:=Option.map_eq_some_iff.1 hinfo
  simp only [Prod.mk.injEq] at hzz
  obtain ⟨hz0,hz1,hz2⟩:=hzz
  have hm:m≤281474976710656:=Nat.le_trans (Nat.le_mul_of_pos_right _ hb0) hl
  have hr:=run_make (P:=P) W t e i0 z ht hi hz0 .i64 .i64 0 (m:Int) (by omega) (by omega)
    (by
      have h3:((i0.bytes * m:Nat):Int)≤281474976710656:=by rw [hz2,Nat.mul_comm];omega
      rwa [Int.natCast_mul] at h3) (by omega)
  simp only [Int.toNat_natCast,Int.toNat_zero] at hr
  rw [hz1] at hr
  refine event_run hgd (v:=.slice (some ⟨W.heap.size,0,none⟩) 0 m) (w1:=W.alloc (.cells (madeCells z.cells (m * d.sz)) e)) (by simp [execOp,ho,hx,hy,hr]) (h _ _ ⟨fun k hk=>?_,[],?_,wZ.none _ _⟩ (HB.alloc hbase _) (World.grownBy_alloc W _ none) ⟨W.heap.size,by simp [Value.ownBlock],Nat.le_refl _⟩)
  · have:W.heap.size = k:=by simpa [Value.ownBlock] using hk
    subst this
    exact hfresh
  · exact World.ownsRow_made W _ m hbase (by simp only [maxLen];omega) (by simp [size_madeCells])
end
end Kd
end Go.Proofs.YtnimkmkapajnhaaDoorW.PrintMore
namespace Go.Proofs.YtnimkmkapajnhaaDoor
set_option linter.unusedVariables false
theorem zz0 {P:Prop} (h:P:=by kernel_rfl):P:=h
theorem zz1 {P:Prop} (h:P:=by omega):P:=h
theorem zz2 {P:Prop} (h:P:=by first | rfl | (simp;done) | (simp [*];done)):P:=h
theorem zz3 {P:Prop} (h:P:=by repeat (first | (with_reducible first | exact HB.out | apply wV | apply wT | apply wS) | exact HB.out)):P:=h
theorem zz4 {P:Prop} (h:P:=by first | (with_reducible assumption) | assumption):P:=h
theorem zz5 {P:Prop} (h:P:=by have:=HK1.out;omega):P:=h
theorem zz6 {P:Prop} (h:P:=by repeat (first | (with_reducible first | exact HB.out | apply wV | apply wT | apply wS | refine wO ?_ h0_.out) | exact HB.out)):P:=h
theorem zz7 {P:Prop} (h:P:=by simp):P:=h
theorem zz8 {P:Prop} (h:P:=by first | rfl | (simp [errW_none,errW_some] <;> rfl) | (simp [*,errW_none,errW_some] <;> rfl)):P:=h
theorem zz9 {P:Prop} (h:P:=by repeat (first | exact yM.refl _ | apply yM.step)):P:=h
theorem zz10 {P:Prop} (h:P:=by first | (rw [h0_] at H;exact H) | (simp only [h0_] at H ⊢;exact H)):P:=h
theorem zz11 {P:Prop} (h:P:=by first | rfl | (simp;done) | (simp only [← h0_] <;> (first | rfl | simp)) | (simp [*];done)):P:=h
theorem zz12 {P:Prop} (h:P:=by have:=World.block_lt_of_cell? _ _ hx105_0;first | rwa [zL] at this | exact this):P:=h
theorem zz13 {P:Prop} (h:P:=by first | (rw [zL];exact hn105_0) | (show (Addr.add _ _).block ≠ _;rw [zL];exact hn105_0) | exact hn105_0):P:=h
theorem zz14 {P:Prop} (h:P:=by first | (rw [zL];exact hn105_1) | (show (Addr.add _ _).block ≠ _;rw [zL];exact hn105_1) | exact hn105_1):P:=h
theorem zz15 {P:Prop} (h:P:=by first | (rw [zL];exact hn105_2) | (show (Addr.add _ _).block ≠ _;rw [zL];exact hn105_2) | exact hn105_2):P:=h
theorem zz16 {P:Prop} (h:P:=by first | rfl | (simp [errW_none,errW_some] <;> rfl) | (simp only [← h0_];first | rfl | (simp [errW_none,errW_some] <;> rfl)) | (simp [*,errW_none,errW_some] <;> rfl)):P:=h
theorem zz17 {P:Prop} (h:P:=by (with_reducible repeat (first | refine wE ?_ _ | refine wG ?_ | refine wD ?_ _));refine wP (cs:=#[.int .i64 ((rd_T26 l0 x43_2).f0),.int .i64 ((rd_T26 l0 x43_2).f1),.slice none 0 0]) ?_ 2 _ rfl;(with_reducible repeat (first | refine wE ?_ _ | refine wG ?_ | refine wD ?_ _));refine wP (cs:=#[.int .i64 ((rd_T26 l0 x43_2).f0),.int .i64 0,.slice none 0 0]) ?_ 1 _ rfl;(with_reducible repeat (first | refine wE ?_ _ | refine wG ?_ | refine wD ?_ _));refine wP (cs:=#[.int .i64 0,.int .i64 0,.slice none 0 0]) ?_ 0 _ rfl;(with_reducible repeat (first | refine wE ?_ _ | refine wG ?_ | refine wD ?_ _));exact h0_.out):P:=h
theorem zz18 {P:Prop} (h:P:=by rw [if_pos rfl] at H;exact H):P:=h
theorem zz19 {P:Prop} (h:P:=by rw [if_neg (show ¬ (false = true) by decide)] at H;exact H):P:=h
theorem zz20 {P:Prop} (h:P:=by (try simp only [List.map_toArray,List.map_cons,List.map_nil]);first | done | rfl | (simp only [List.length_drop,List.length_take];rfl)):P:=h
theorem zz21 {P:Prop} (h:P:=by (with_reducible repeat (first | refine wE ?_ _ | refine wG ?_ | refine wD ?_ _));exact BK105.out):P:=h
theorem zz22 {P:Prop} (h:P:=by repeat (first | (with_reducible first | exact HB.out | apply wV | apply wT | apply wS | refine wO ?_ GE105.out) | exact HB.out)):P:=h
theorem zz23 {P:Prop} (h:P:=by (with_reducible repeat (first | refine wE ?_ _ | refine wG ?_ | refine wD ?_ _));exact h0_.out):P:=h
theorem zz24 {P:Prop} (h:P:=by repeat (first | (with_reducible first | exact HB.out | apply wV | apply wT | apply wS | refine wO ?_ GE105.out | refine wO ?_ GE106.out) | exact HB.out)):P:=h
theorem zz25 {P:Prop} (h:P:=by rfl):P:=h
theorem zz26 {P:Prop} (h:P:=by decide):P:=h
theorem zz27 {P:Prop} (h:P:=by have:=HK1.out;have:=HK2.out;omega):P:=h
theorem zz28 {P:Prop} (h:P:=by first | omega | exact Nat.le_refl _):P:=h
theorem zz29 {P:Prop} (h:P:=by first | exact Kd.R_nil _ _ _ _ _ | exact Kd.N_nil _ _ _ _ _ | exact Kd.V_nil _ _ _ _ _ | exact Kd.Q_nil _ _ _ _ _ | exact Kd.S_nil _ _ _ _ _):P:=h
theorem zz30 {P:Prop} (h:P:=by first | (rw [h0_];with_reducible exact H) | (have H2_:=(Option.bind_some _ _).symm.trans H;rw [h0_];with_reducible exact H2_) | (have H2_:=(Option.bind_some _ _).symm.trans H;with_reducible exact H2_) | with_reducible exact H | (rw [h0_];exact H) | exact H):P:=h
theorem zz31 {P:Prop} (h:P:=by (with_reducible repeat (first | apply Kd.R_alloc | apply Kd.R_drewN | apply Kd.R_drew));exact h0_.out):P:=h
theorem zz32 {P:Prop} (h:P:=by (with_reducible repeat (first | apply Kd.R_alloc | apply Kd.R_drewN | apply Kd.R_drew));exact Kd.R_mono h0_.out (fun _ hk=>hk.2)):P:=h
theorem zz33 {P:Prop} (h:P:=by (with_reducible repeat (first | apply Kd.R_alloc | apply Kd.R_drewN | apply Kd.R_drew));exact HO_10.out):P:=h
theorem zz34 {P:Prop} (h:P:=by (with_reducible repeat (first | apply Kd.R_alloc | apply Kd.R_drewN | apply Kd.R_drew));exact HO_13.out):P:=h
theorem zz35 {P:Prop} (h:P:=by (with_reducible repeat (first | apply Kd.R_alloc | apply Kd.R_drewN | apply Kd.R_drew));exact Kd.R_mono h0_.out (fun _ hk=>trivial)):P:=h
theorem zz36 {P:Prop} (h:P:=by (with_reducible repeat (first | apply Kd.R_alloc | apply Kd.R_drewN | apply Kd.R_drew));exact HO_9.out):P:=h
theorem zz37 {P:Prop} (h:P:=by repeat (first | (with_reducible first | exact HB.out | apply wV | apply wT | apply wS | refine wO ?_ GE206.out) | exact HB.out)):P:=h
theorem zz38 {P:Prop} (h:P:=by (with_reducible repeat (first | apply Kd.R_alloc | apply Kd.R_drewN | apply Kd.R_drew));exact (Kd.R_mono (Kd.R_far (p:=⟨gb206,2,none⟩) (Kd.R_far (p:=⟨gb206,1,none⟩) (Kd.R_far (p:=⟨gb206,0,none⟩) (Kd.R_types HO_9.out BK206.out (by decide)) (fun _ hk=>hk.2) (.int .i64 ((rd_T26 l0 x43_2).f0))) (fun _ hk=>hk.2) (.int .i64 ((rd_T26 l0 x43_2).f1))) (fun _ hk=>hk.2) (.slice A205_2 ((rd_T26 l0 x43_2).f2).length c205_2)) (fun _ h_=>h_.1))):P:=h
theorem zz39 {P:Prop} (h:P:=by first | simpa using h0_ | (simp at h0_ ⊢;omega)):P:=h
theorem zz40 {P:Prop} (h:P:=by (with_reducible repeat (first | apply Kd.V_alloc | apply Kd.V_drewN | apply Kd.V_drew));exact HO0.out):P:=h
theorem zz41 {P:Prop} (h:P:=by (with_reducible repeat (first | apply Kd.V_alloc | apply Kd.V_drewN | apply Kd.V_drew));exact h0_.out):P:=h
theorem zz42 {P:Prop} (h:P:=by (with_reducible repeat (first | refine wE ?_ _ | refine wG ?_ | refine wD ?_ _));refine wP (cs:=#[.bool false,.slice none 0 0,.slice none 0 0]) ?_ 2 _ rfl;(with_reducible repeat (first | refine wE ?_ _ | refine wG ?_ | refine wD ?_ _));refine wP (cs:=#[.bool false,.slice none 0 0,.slice none 0 0]) ?_ 1 _ rfl;(with_reducible repeat (first | refine wE ?_ _ | refine wG ?_ | refine wD ?_ _));refine wP (cs:=#[.bool false,.slice none 0 0,.slice none 0 0]) ?_ 0 _ rfl;(with_reducible repeat (first | refine wE ?_ _ | refine wG ?_ | refine wD ?_ _));exact h0_.out):P:=h
theorem zz43 {P:Prop} (h:P:=by (with_reducible repeat (first | apply Kd.V_alloc | apply Kd.V_drewN | apply Kd.V_drew));exact Kd.V_mono h0_.out (fun _ hk=>⟨trivial,hk⟩)):P:=h
theorem zz44 {P:Prop} (h:P:=by (with_reducible repeat (first | refine wE ?_ _ | refine wG ?_ | refine wD ?_ _));refine wP (cs:=#[.bool false,.slice none 0 0]) ?_ 1 _ rfl;(with_reducible repeat (first | refine wE ?_ _ | refine wG ?_ | refine wD ?_ _));refine wP (cs:=#[.bool false,.slice none 0 0]) ?_ 0 _ rfl;(with_reducible repeat (first | refine wE ?_ _ | refine wG ?_ | refine wD ?_ _));exact h0_.out):P:=h
theorem zz45 {P:Prop} (h:P:=by (with_reducible repeat (first | apply Kd.V_alloc | apply Kd.V_drewN | apply Kd.V_drew));exact HO_6.out):P:=h
theorem zz46 {P:Prop} (h:P:=by (with_reducible repeat (first | apply Kd.R_alloc | apply Kd.R_drewN | apply Kd.R_drew));exact Kd.R_mono h0_.out (fun _ hk=>hk.1)):P:=h
theorem zz47 {P:Prop} (h:P:=by (with_reducible repeat (first | apply Kd.V_alloc | apply Kd.V_drewN | apply Kd.V_drew));exact HO1.out):P:=h
theorem zz48 {P:Prop} (h:P:=by (with_reducible repeat (first | apply Kd.R_alloc | apply Kd.R_drewN | apply Kd.R_drew));exact Kd.R_mono h0_.out (fun _ hk=>hk.1.1)):P:=h
theorem zz49 {P:Prop} (h:P:=by (with_reducible repeat (first | apply Kd.V_alloc | apply Kd.V_drewN | apply Kd.V_drew));exact HO0_1.out):P:=h
theorem zz50 {P:Prop} (h:P:=by (with_reducible repeat (first | refine wE ?_ _ | refine wG ?_ | refine wD ?_ _));exact BK299.out):P:=h
theorem zz51 {P:Prop} (h:P:=by repeat (first | (with_reducible first | exact HB.out | apply wV | apply wT | apply wS | refine wO ?_ GE299.out | refine wO ?_ GE300.out) | exact HB.out)):P:=h
theorem zz52 {P:Prop} (h:P:=by (with_reducible repeat (first | refine wE ?_ _ | refine wG ?_ | refine wD ?_ _));exact BK300.out):P:=h
theorem zz53 {P:Prop} (h:P:=by (with_reducible repeat (first | apply Kd.V_alloc | apply Kd.V_drewN | apply Kd.V_drew));exact Kd.V_mono h0_.out (fun _ hk=>⟨hk.1.1,⟨hk.1.2,hk.2⟩⟩)):P:=h
theorem zz54 {P:Prop} (h:P:=by (with_reducible repeat (first | apply Kd.V_alloc | apply Kd.V_drewN | apply Kd.V_drew));exact HO1_1.out):P:=h
theorem zz55 {P:Prop} (h:P:=by (with_reducible repeat (first | refine wE ?_ _ | refine wG ?_ | refine wD ?_ _));exact BK331.out):P:=h
theorem zz56 {P:Prop} (h:P:=by (with_reducible repeat (first | refine wE ?_ _ | refine wG ?_ | refine wD ?_ _));exact BK332.out):P:=h
theorem zz57 {P:Prop} (h:P:=by repeat (first | (with_reducible first | exact HB.out | apply wV | apply wT | apply wS | refine wO ?_ h0_.out | refine wO ?_ h1_.out) | exact HB.out)):P:=h
theorem zz58 {P:Prop} (h:P:=by repeat (first | (with_reducible first | exact HB.out | apply wV | apply wT | apply wS | refine wO ?_ GE331.out | refine wO ?_ GE332.out | refine wO ?_ GE333.out) | exact HB.out)):P:=h
theorem zz59 {P:Prop} (h:P:=by (with_reducible repeat (first | refine wE ?_ _ | refine wG ?_ | refine wD ?_ _));exact BK404.out):P:=h
theorem zz60 {P:Prop} (h:P:=by (with_reducible repeat (first | refine wE ?_ _ | refine wG ?_ | refine wD ?_ _));exact BK405.out):P:=h
theorem zz61 {P:Prop} (h:P:=by repeat (first | (with_reducible first | exact HB.out | apply wV | apply wT | apply wS | refine wO ?_ GE404.out | refine wO ?_ GE405.out | refine wO ?_ GE406.out) | exact HB.out)):P:=h
theorem zz62 {P:Prop} (h:P:=by (with_reducible repeat (first | apply Kd.R_alloc | apply Kd.R_drewN | apply Kd.R_drew));exact HO_7.out):P:=h
theorem zz63 {P:Prop} (h:P:=by repeat (first | (with_reducible first | exact HB.out | apply wV | apply wT | apply wS | refine wO ?_ GE436.out | refine wO ?_ GE437.out | refine wO ?_ GE438.out) | exact HB.out)):P:=h
theorem zz64 {P:Prop} (h:P:=by (with_reducible repeat (first | refine wE ?_ _ | refine wG ?_ | refine wD ?_ _));exact BK446.out):P:=h
theorem zz65 {P:Prop} (h:P:=by (with_reducible repeat (first | refine wE ?_ _ | refine wG ?_ | refine wD ?_ _));exact BK447.out):P:=h
theorem zz66 {P:Prop} (h:P:=by repeat (first | (with_reducible first | exact HB.out | apply wV | apply wT | apply wS | refine wO ?_ GE446.out | refine wO ?_ GE447.out | refine wO ?_ GE448.out) | exact HB.out)):P:=h
theorem zz67 {P:Prop} (h:P:=by (with_reducible repeat (first | refine wE ?_ _ | refine wG ?_ | refine wD ?_ _));exact BK448.out):P:=h
theorem zz68 {P:Prop} (h:P:=by (with_reducible repeat (first | apply Kd.R_alloc | apply Kd.R_drewN | apply Kd.R_drew));exact HO456.out):P:=h
theorem zz69 {P:Prop} (h:P:=by (with_reducible repeat (first | refine wE ?_ _ | refine wG ?_ | refine wD ?_ _));exact BK457.out):P:=h
theorem zz70 {P:Prop} (h:P:=by repeat (first | (with_reducible first | exact HB.out | apply wV | apply wT | apply wS | refine wO ?_ GE446.out | refine wO ?_ GE447.out | refine wO ?_ GE448.out | refine wO ?_ GE457.out) | exact HB.out)):P:=h
theorem zz71 {P:Prop} (h:P:=by rw [hw];exact (by (with_reducible repeat (first | apply Kd.V_alloc | apply Kd.V_drewN | apply Kd.V_drew));exact Kd.V_mono (Kd.V_far (p:=⟨gb457,1,none⟩) (Kd.V_far (p:=⟨gb457,0,none⟩) (Kd.V_mono h0_.out (fun k_ hk=>(⟨hk,hk.1.2⟩: _∧k_ ≠ gb457))) (fun _ hk=>hk.2) (.bool t449)) (fun _ hk=>hk.2) (.slice Ao22 t450.length co22)) (fun _ hk=>⟨hk.1.1.1.1.1.1.1,⟨hk.1.1.1.2,⟨hk.1.1.1.1.1.1.2,⟨hk.1.1.1.1.1.2,⟨hk.1.1.1.1.2,⟨hk.1.1.2,hk.1.2⟩⟩⟩⟩⟩⟩))):P:=h
theorem zz72 {P:Prop} (h:P:=by repeat (first | (with_reducible first | exact HB.out | apply wV | apply wT | apply wS | refine wO ?_ GE446.out | refine wO ?_ GE447.out | refine wO ?_ GE448.out | refine wO ?_ GE457.out | refine wO ?_ GE458.out) | exact HB.out)):P:=h
theorem zz73 {P:Prop} (h:P:=by rw [hw];exact (by (with_reducible repeat (first | apply Kd.V_alloc | apply Kd.V_drewN | apply Kd.V_drew));exact Kd.V_mono (Kd.V_far (p:=⟨gb458,1,none⟩) (Kd.V_far (p:=⟨gb458,0,none⟩) (Kd.V_mono h0_.out (fun k_ hk=>(⟨hk,hk.2.2.2.2.2.2⟩: _∧k_ ≠ gb458))) (fun _ hk=>hk.2) (.bool t453)) (fun _ hk=>hk.2) (.slice Ao28 t454.length co28)) (fun _ hk=>⟨hk.1.1,⟨hk.1.2.1,⟨hk.1.2.2.1,⟨hk.1.2.2.2.1,⟨hk.1.2.2.2.2.1,⟨hk.1.2.2.2.2.2.1,hk.1.2.2.2.2.2.2⟩⟩⟩⟩⟩⟩))):P:=h
theorem zz74 {P:Prop} (h:P:=by (with_reducible repeat (first | refine wE ?_ _ | refine wG ?_ | refine wD ?_ _));exact BK458.out):P:=h
theorem zz75 {P:Prop} (h:P:=by repeat (first | (with_reducible first | exact HB.out | apply wV | apply wT | apply wS | refine wO ?_ GE446.out | refine wO ?_ GE447.out | refine wO ?_ GE448.out | refine wO ?_ GE457.out | refine wO ?_ GE458.out | refine wO ?_ GE467.out) | exact HB.out)):P:=h
theorem zz76 {P:Prop} (h:P:=by (with_reducible repeat (first | apply Kd.V_alloc | apply Kd.V_drewN | apply Kd.V_drew));exact Kd.V_mono (Kd.V_far (p:=⟨gb468,1,none⟩) (Kd.V_far (p:=⟨gb468,0,none⟩) (Kd.V_far (p:=⟨gb467,1,none⟩) (Kd.V_far (p:=⟨gb467,0,none⟩) (Kd.V_mono (Kd.V_mono h0_.out (fun k_ hk=>(⟨hk,hk.1.2⟩: _∧k_ ≠ gb467))) (fun k_ hk=>(⟨hk,hk.1.2⟩: _∧k_ ≠ gb468))) (fun _ hk=>hk.1.2) (.bool t459)) (fun _ hk=>hk.1.2) (.slice Ao42 t460.length co42)) (fun _ hk=>hk.2) (.bool t463)) (fun _ hk=>hk.2) (.slice Ao49 t464.length co49)) (fun _ hk=>⟨hk.1.1.1.1.1.1,⟨hk.1.1.1.1.1.2.1,⟨hk.1.1.1.1.2,⟨hk.1.1.1.1.1.2.2.1,⟨hk.1.1.1.1.1.2.2.2.1,⟨hk.1.1.1.1.1.2.2.2.2.1,⟨hk.1.1.1.1.1.2.2.2.2.2.1,⟨hk.1.1.1.1.1.2.2.2.2.2.2,⟨hk.1.1.1.2,hk.1.1.2⟩⟩⟩⟩⟩⟩⟩⟩⟩)):P:=h
theorem zz77 {P:Prop} (h:P:=by repeat (first | (with_reducible first | exact HB.out | apply wV | apply wT | apply wS | refine wO ?_ GE446.out | refine wO ?_ GE447.out | refine wO ?_ GE448.out | refine wO ?_ GE457.out | refine wO ?_ GE458.out | refine wO ?_ GE467.out | refine wO ?_ GE468.out) | exact HB.out)):P:=h
theorem zz78 {P:Prop} (h:P:=by (with_reducible repeat (first | apply Kd.V_alloc | apply Kd.V_drewN | apply Kd.V_drew));exact Kd.V_mono h0_.out (fun _ hk=>hk.2)):P:=h
theorem zz79 {P:Prop} (h:P:=by (with_reducible repeat (first | refine wE ?_ _ | refine wG ?_ | refine wD ?_ _));exact BK524.out):P:=h
theorem zz80 {P:Prop} (h:P:=by (with_reducible repeat (first | refine wE ?_ _ | refine wG ?_ | refine wD ?_ _));exact BK525.out):P:=h
theorem zz81 {P:Prop} (h:P:=by repeat (first | (with_reducible first | exact HB.out | apply wV | apply wT | apply wS | refine wO ?_ GE524.out | refine wO ?_ GE525.out) | exact HB.out)):P:=h
theorem zz82 {P:Prop} (h:P:=by repeat (first | (with_reducible first | exact HB.out | apply wV | apply wT | apply wS | refine wO ?_ GE524.out | refine wO ?_ GE525.out | refine wO ?_ GE526.out) | exact HB.out)):P:=h
theorem zz83 {P:Prop} (h:P:=by rw [e_];exact GW524.out):P:=h
theorem zz84 {P:Prop} (h:P:=by rw [e_];exact GW525.out):P:=h
theorem zz85 {P:Prop} (h:P:=by rw [e_];exact GW526.out):P:=h
theorem zz86 {P:Prop} (h:P:=by repeat (first | (with_reducible first | exact HB.out | apply wV | apply wT | apply wS | refine wO ?_ GE556.out | refine wO ?_ GE557.out | refine wO ?_ GE558.out) | exact HB.out)):P:=h
theorem zz87 {P:Prop} (h:P:=by (with_reducible repeat (first | refine wE ?_ _ | refine wG ?_ | refine wD ?_ _));exact BK567.out):P:=h
theorem zz88 {P:Prop} (h:P:=by (with_reducible repeat (first | refine wE ?_ _ | refine wG ?_ | refine wD ?_ _));exact BK568.out):P:=h
theorem zz89 {P:Prop} (h:P:=by repeat (first | (with_reducible first | exact HB.out | apply wV | apply wT | apply wS | refine wO ?_ GE567.out | refine wO ?_ GE568.out | refine wO ?_ GE569.out) | exact HB.out)):P:=h
theorem zz90 {P:Prop} (h:P:=by (with_reducible repeat (first | refine wE ?_ _ | refine wG ?_ | refine wD ?_ _));exact BK569.out):P:=h
theorem zz91 {P:Prop} (h:P:=by (with_reducible repeat (first | apply Kd.R_alloc | apply Kd.R_drewN | apply Kd.R_drew));exact HO577.out):P:=h
theorem zz92 {P:Prop} (h:P:=by (with_reducible repeat (first | refine wE ?_ _ | refine wG ?_ | refine wD ?_ _));exact BK578.out):P:=h
theorem zz93 {P:Prop} (h:P:=by repeat (first | (with_reducible first | exact HB.out | apply wV | apply wT | apply wS | refine wO ?_ GE567.out | refine wO ?_ GE568.out | refine wO ?_ GE569.out | refine wO ?_ GE578.out) | exact HB.out)):P:=h
theorem zz94 {P:Prop} (h:P:=by rw [hw];exact (by (with_reducible repeat (first | apply Kd.V_alloc | apply Kd.V_drewN | apply Kd.V_drew));exact Kd.V_mono (Kd.V_far (p:=⟨gb578,1,none⟩) (Kd.V_far (p:=⟨gb578,0,none⟩) (Kd.V_mono h0_.out (fun k_ hk=>(⟨hk,hk.1.2⟩: _∧k_ ≠ gb578))) (fun _ hk=>hk.2) (.bool t570)) (fun _ hk=>hk.2) (.slice Ao24 t571.length co24)) (fun _ hk=>⟨hk.1.1.1.1.1.1.1,⟨hk.1.1.1.2,⟨hk.1.1.1.1.1.1.2,⟨hk.1.1.1.1.1.2,⟨hk.1.1.1.1.2,⟨hk.1.1.2,hk.1.2⟩⟩⟩⟩⟩⟩))):P:=h
theorem zz95 {P:Prop} (h:P:=by repeat (first | (with_reducible first | exact HB.out | apply wV | apply wT | apply wS | refine wO ?_ GE567.out | refine wO ?_ GE568.out | refine wO ?_ GE569.out | refine wO ?_ GE578.out | refine wO ?_ GE579.out) | exact HB.out)):P:=h
theorem zz96 {P:Prop} (h:P:=by rw [hw];exact (by (with_reducible repeat (first | apply Kd.V_alloc | apply Kd.V_drewN | apply Kd.V_drew));exact Kd.V_mono (Kd.V_far (p:=⟨gb579,1,none⟩) (Kd.V_far (p:=⟨gb579,0,none⟩) (Kd.V_mono h0_.out (fun k_ hk=>(⟨hk,hk.2.2.2.2.2.2⟩: _∧k_ ≠ gb579))) (fun _ hk=>hk.2) (.bool t574)) (fun _ hk=>hk.2) (.slice Ao30 t575.length co30)) (fun _ hk=>⟨hk.1.1,⟨hk.1.2.1,⟨hk.1.2.2.1,⟨hk.1.2.2.2.1,⟨hk.1.2.2.2.2.1,⟨hk.1.2.2.2.2.2.1,hk.1.2.2.2.2.2.2⟩⟩⟩⟩⟩⟩))):P:=h
theorem zz97 {P:Prop} (h:P:=by (with_reducible repeat (first | refine wE ?_ _ | refine wG ?_ | refine wD ?_ _));exact BK579.out):P:=h
theorem zz98 {P:Prop} (h:P:=by (with_reducible repeat (first | apply Kd.R_alloc | apply Kd.R_drewN | apply Kd.R_drew));exact HO587.out):P:=h
theorem zz99 {P:Prop} (h:P:=by repeat (first | (with_reducible first | exact HB.out | apply wV | apply wT | apply wS | refine wO ?_ GE567.out | refine wO ?_ GE568.out | refine wO ?_ GE569.out | refine wO ?_ GE578.out | refine wO ?_ GE579.out | refine wO ?_ GE588.out) | exact HB.out)):P:=h
theorem zz100 {P:Prop} (h:P:=by (with_reducible repeat (first | apply Kd.V_alloc | apply Kd.V_drewN | apply Kd.V_drew));exact Kd.V_mono (Kd.V_far (p:=⟨gb589,1,none⟩) (Kd.V_far (p:=⟨gb589,0,none⟩) (Kd.V_far (p:=⟨gb588,1,none⟩) (Kd.V_far (p:=⟨gb588,0,none⟩) (Kd.V_mono (Kd.V_mono h0_.out (fun k_ hk=>(⟨hk,hk.1.2⟩: _∧k_ ≠ gb588))) (fun k_ hk=>(⟨hk,hk.1.2⟩: _∧k_ ≠ gb589))) (fun _ hk=>hk.1.2) (.bool t580)) (fun _ hk=>hk.1.2) (.slice Ao44 t581.length co44)) (fun _ hk=>hk.2) (.bool t584)) (fun _ hk=>hk.2) (.slice Ao51 t585.length co51)) (fun _ hk=>⟨hk.1.1.1.1.1.1,⟨hk.1.1.1.1.1.2.1,⟨hk.1.1.1.1.2,⟨hk.1.1.1.1.1.2.2.1,⟨hk.1.1.1.1.1.2.2.2.1,⟨hk.1.1.1.1.1.2.2.2.2.1,⟨hk.1.1.1.1.1.2.2.2.2.2.1,⟨hk.1.1.1.1.1.2.2.2.2.2.2,⟨hk.1.1.1.2,hk.1.1.2⟩⟩⟩⟩⟩⟩⟩⟩⟩)):P:=h
theorem zz101 {P:Prop} (h:P:=by repeat (first | (with_reducible first | exact HB.out | apply wV | apply wT | apply wS | refine wO ?_ GE567.out | refine wO ?_ GE568.out | refine wO ?_ GE569.out | refine wO ?_ GE578.out | refine wO ?_ GE579.out | refine wO ?_ GE588.out | refine wO ?_ GE589.out) | exact HB.out)):P:=h
theorem zz102 {P:Prop} (h:P:=by (with_reducible repeat (first | refine wE ?_ _ | refine wG ?_ | refine wD ?_ _));exact BK612.out):P:=h
theorem zz103 {P:Prop} (h:P:=by repeat (first | (with_reducible first | exact HB.out | apply wV | apply wT | apply wS | refine wO ?_ GE612.out) | exact HB.out)):P:=h
theorem zz104 {P:Prop} (h:P:=by (with_reducible repeat (first | apply Kd.R_alloc | apply Kd.R_drewN | apply Kd.R_drew));exact HO619.out):P:=h
theorem zz105 {P:Prop} (h:P:=by (with_reducible repeat (first | apply Kd.V_alloc | apply Kd.V_drewN | apply Kd.V_drew));exact HO622.out):P:=h
theorem zz106 {P:Prop} (h:P:=by (with_reducible repeat (first | apply Kd.R_alloc | apply Kd.R_drewN | apply Kd.R_drew));exact (Kd.R_mono (Kd.R_far (p:=⟨gb624,2,none⟩) (Kd.R_far (p:=⟨gb624,1,none⟩) (Kd.R_far (p:=⟨gb624,0,none⟩) (Kd.R_types HO619.out BK624.out (by decide)) (fun _ hk=>hk.2) (.bool t616)) (fun _ hk=>hk.2) (.slice Ao25 t617.length co25)) (fun _ hk=>hk.2) (.slice Ao26 t620.length co26)) (fun _ h_=>h_.1))):P:=h
theorem zz107 {P:Prop} (h:P:=by (with_reducible repeat (first | apply Kd.R_alloc | apply Kd.R_drewN | apply Kd.R_drew));exact HO628.out):P:=h
theorem zz108 {P:Prop} (h:P:=by (with_reducible repeat (first | apply Kd.V_alloc | apply Kd.V_drewN | apply Kd.V_drew));exact HO631.out):P:=h
theorem zz109 {P:Prop} (h:P:=by (with_reducible repeat (first | refine wE ?_ _ | refine wG ?_ | refine wD ?_ _));exact BK624.out):P:=h
theorem zz110 {P:Prop} (h:P:=by (with_reducible repeat (first | apply Kd.R_alloc | apply Kd.R_drewN | apply Kd.R_drew));exact Kd.R_mono (Kd.R_far (p:=⟨gb632,2,none⟩) (Kd.R_far (p:=⟨gb632,1,none⟩) (Kd.R_far (p:=⟨gb632,0,none⟩) (Kd.R_types h0_.out h1_.out (by decide)) (fun _ hk=>hk.2) (.bool t625)) (fun _ hk=>hk.2) (.slice Ao32 t626.length co32)) (fun _ hk=>hk.2) (.slice Ao33 t629.length co33)) (fun _ hk=>⟨hk.1.1.1,hk.1.2⟩)):P:=h
theorem zz111 {P:Prop} (h:P:=by repeat (first | (with_reducible first | exact HB.out | apply wV | apply wT | apply wS | refine wO ?_ GE612.out | refine wO ?_ GE624.out | refine wO ?_ GE632.out) | exact HB.out)):P:=h
theorem zz112 {P:Prop} (h:P:=by (with_reducible repeat (first | refine wE ?_ _ | refine wG ?_ | refine wD ?_ _));exact BK632.out):P:=h
theorem zz113 {P:Prop} (h:P:=by first | (simp only [zK,Act.put,List.setIfInBounds_toArray,List.set_cons_zero,List.set_cons_succ];done) | (simp only [zK,Act.put,List.setIfInBounds_toArray,List.set_cons_zero,List.set_cons_succ];rfl)):P:=h
theorem zz114 {P:Prop} (h:P:=by (with_reducible repeat (first | apply Kd.R_alloc | apply Kd.R_drewN | apply Kd.R_drew));exact Kd.R_mono h0_.out (fun _ hk=>⟨hk.1.1,⟨hk.1.2,hk.2⟩⟩)):P:=h
theorem zz115 {P:Prop} (h:P:=by (with_reducible repeat (first | apply Kd.V_alloc | apply Kd.V_drewN | apply Kd.V_drew));exact Kd.V_mono h0_.out (fun _ hk=>⟨hk.1.1,⟨hk.1.2.1,⟨hk.1.2.2.1,⟨hk.2,⟨hk.1.2.2.2.1,⟨hk.1.2.2.2.2.1,hk.1.2.2.2.2.2⟩⟩⟩⟩⟩⟩)):P:=h
theorem zz116 {P:Prop} (h:P:=by (with_reducible repeat (first | apply Kd.V_alloc | apply Kd.V_drewN | apply Kd.V_drew));exact HO639.out):P:=h
theorem zz117 {P:Prop} (h:P:=by (with_reducible repeat (first | apply Kd.V_alloc | apply Kd.V_drewN | apply Kd.V_drew));exact Kd.V_mono h0_.out (fun _ hk=>⟨hk.1.1,⟨hk.1.2.1,⟨hk.1.2.2.1,⟨hk.1.2.2.2.1,⟨hk.1.2.2.2.2.1,⟨hk.1.2.2.2.2.2,hk.2⟩⟩⟩⟩⟩⟩)):P:=h
theorem zz118 {P:Prop} (h:P:=by (with_reducible repeat (first | refine wE ?_ _ | refine wG ?_ | refine wD ?_ _));exact BK662.out):P:=h
theorem zz119 {P:Prop} (h:P:=by repeat (first | (with_reducible first | exact HB.out | apply wV | apply wT | apply wS | refine wO ?_ GE612.out | refine wO ?_ GE624.out | refine wO ?_ GE632.out | refine wO ?_ GE662.out) | exact HB.out)):P:=h
theorem zz120 {P:Prop} (h:P:=by (with_reducible repeat (first | apply Kd.V_alloc | apply Kd.V_drewN | apply Kd.V_drew));exact Kd.V_mono h0_.out (fun _ hk=>⟨hk.1.1,⟨hk.1.2.1,⟨hk.1.2.2.1,⟨hk.2,⟨hk.1.2.2.2.1,⟨hk.1.2.2.2.2.1,⟨hk.1.2.2.2.2.2.1,hk.1.2.2.2.2.2.2⟩⟩⟩⟩⟩⟩⟩)):P:=h
theorem zz121 {P:Prop} (h:P:=by (with_reducible repeat (first | apply Kd.R_alloc | apply Kd.R_drewN | apply Kd.R_drew));exact HO636.out):P:=h
theorem zz122 {P:Prop} (h:P:=by (with_reducible repeat (first | apply Kd.R_alloc | apply Kd.R_drewN | apply Kd.R_drew));exact Kd.R_mono h0_.out (fun _ hk=>⟨hk.1.1,⟨hk.1.2.1,⟨hk.1.2.2,hk.2⟩⟩⟩)):P:=h
theorem zz123 {P:Prop} (h:P:=by (with_reducible repeat (first | apply Kd.V_alloc | apply Kd.V_drewN | apply Kd.V_drew));exact Kd.V_mono h0_.out (fun _ hk=>⟨hk.1.1,⟨hk.1.2.1,⟨hk.1.2.2.1,⟨hk.1.2.2.2.1,⟨hk.2,⟨hk.1.2.2.2.2.1,⟨hk.1.2.2.2.2.2.1,hk.1.2.2.2.2.2.2⟩⟩⟩⟩⟩⟩⟩)):P:=h
theorem zz124 {P:Prop} (h:P:=by (with_reducible repeat (first | apply Kd.V_alloc | apply Kd.V_drewN | apply Kd.V_drew));exact Kd.V_mono h0_.out (fun _ hk=>⟨hk.1,⟨hk.2.2.1,⟨hk.2.2.2.1,⟨hk.2.2.2.2.1,⟨hk.2.1,⟨hk.2.2.2.2.2.1,⟨hk.2.2.2.2.2.2.1,hk.2.2.2.2.2.2.2⟩⟩⟩⟩⟩⟩⟩)):P:=h
theorem zz125 {P:Prop} (h:P:=by (with_reducible repeat (first | apply Kd.V_alloc | apply Kd.V_drewN | apply Kd.V_drew));exact Kd.V_mono h0_.out (fun _ hk=>⟨hk.1.1,⟨hk.1.2.1,⟨hk.1.2.2.1,⟨hk.1.2.2.2.1,⟨hk.1.2.2.2.2.1,⟨hk.1.2.2.2.2.2.1,⟨hk.1.2.2.2.2.2.2,hk.2⟩⟩⟩⟩⟩⟩⟩)):P:=h
theorem zz126 {P:Prop} (h:P:=by (with_reducible repeat (first | apply Kd.V_alloc | apply Kd.V_drewN | apply Kd.V_drew));exact Kd.V_mono h0_.out (fun _ hk=>⟨hk.1.1,⟨hk.1.2.1,⟨hk.1.2.2.1,⟨hk.1.2.2.2.1,⟨hk.2,⟨hk.1.2.2.2.2.1,⟨hk.1.2.2.2.2.2.1,⟨hk.1.2.2.2.2.2.2.1,hk.1.2.2.2.2.2.2.2⟩⟩⟩⟩⟩⟩⟩⟩)):P:=h
theorem zz127 {P:Prop} (h:P:=by (with_reducible repeat (first | apply Kd.V_alloc | apply Kd.V_drewN | apply Kd.V_drew));exact Kd.V_mono h0_.out (fun _ hk=>⟨hk.1,⟨hk.2.2.1,⟨hk.2.2.2.1,⟨hk.2.2.2.2.1,⟨hk.2.1,⟨hk.2.2.2.2.2.1,⟨hk.2.2.2.2.2.2.1,⟨hk.2.2.2.2.2.2.2.1,hk.2.2.2.2.2.2.2.2⟩⟩⟩⟩⟩⟩⟩⟩)):P:=h
theorem zz128 {P:Prop} (h:P:=by (with_reducible repeat (first | apply Kd.R_alloc | apply Kd.R_drewN | apply Kd.R_drew));exact HO643.out):P:=h
theorem zz129 {P:Prop} (h:P:=by (with_reducible repeat (first | apply Kd.R_alloc | apply Kd.R_drewN | apply Kd.R_drew));exact Kd.R_mono h0_.out (fun _ hk=>⟨hk.1.1,⟨hk.1.2.1,⟨hk.1.2.2.1,⟨hk.1.2.2.2,hk.2⟩⟩⟩⟩)):P:=h
theorem zz130 {P:Prop} (h:P:=by (with_reducible repeat (first | apply Kd.V_alloc | apply Kd.V_drewN | apply Kd.V_drew));exact Kd.V_mono h0_.out (fun _ hk=>⟨hk.1.1,⟨hk.1.2.1,⟨hk.1.2.2.1,⟨hk.1.2.2.2.1,⟨hk.1.2.2.2.2.1,⟨hk.2,⟨hk.1.2.2.2.2.2.1,⟨hk.1.2.2.2.2.2.2.1,hk.1.2.2.2.2.2.2.2⟩⟩⟩⟩⟩⟩⟩⟩)):P:=h
theorem zz131 {P:Prop} (h:P:=by (with_reducible repeat (first | apply Kd.V_alloc | apply Kd.V_drewN | apply Kd.V_drew));exact Kd.V_mono h0_.out (fun _ hk=>⟨hk.1.1,⟨hk.1.2.1,⟨hk.1.2.2.1,⟨hk.1.2.2.2.1,⟨hk.1.2.2.2.2.1,⟨hk.1.2.2.2.2.2.1,⟨hk.1.2.2.2.2.2.2.1,⟨hk.1.2.2.2.2.2.2.2,hk.2⟩⟩⟩⟩⟩⟩⟩⟩)):P:=h
theorem zz132 {P:Prop} (h:P:=by (with_reducible repeat (first | apply Kd.V_alloc | apply Kd.V_drewN | apply Kd.V_drew));exact Kd.V_mono h0_.out (fun _ hk=>⟨hk.1.1,⟨hk.1.2.1,⟨hk.1.2.2.1,⟨hk.1.2.2.2.1,⟨hk.1.2.2.2.2.1,⟨hk.2,⟨hk.1.2.2.2.2.2.1,⟨hk.1.2.2.2.2.2.2.1,⟨hk.1.2.2.2.2.2.2.2.1,hk.1.2.2.2.2.2.2.2.2⟩⟩⟩⟩⟩⟩⟩⟩⟩)):P:=h
theorem zz133 {P:Prop} (h:P:=by (with_reducible repeat (first | apply Kd.R_alloc | apply Kd.R_drewN | apply Kd.R_drew));exact Kd.R_mono h0_.out (fun _ hk=>⟨hk.1.1,⟨hk.1.2.1,⟨hk.1.2.2.1,⟨hk.1.2.2.2.1,⟨hk.1.2.2.2.2,hk.2⟩⟩⟩⟩⟩)):P:=h
theorem zz134 {P:Prop} (h:P:=by (with_reducible repeat (first | apply Kd.V_alloc | apply Kd.V_drewN | apply Kd.V_drew));exact Kd.V_mono h0_.out (fun _ hk=>⟨hk.1.1,⟨hk.1.2.1,⟨hk.1.2.2.1,⟨hk.1.2.2.2.1,⟨hk.1.2.2.2.2.1,⟨hk.1.2.2.2.2.2.1,⟨hk.2,⟨hk.1.2.2.2.2.2.2.1,⟨hk.1.2.2.2.2.2.2.2.1,hk.1.2.2.2.2.2.2.2.2⟩⟩⟩⟩⟩⟩⟩⟩⟩)):P:=h
theorem zz135 {P:Prop} (h:P:=by (with_reducible repeat (first | apply Kd.V_alloc | apply Kd.V_drewN | apply Kd.V_drew));exact Kd.V_mono h0_.out (fun _ hk=>⟨hk.1.1,⟨hk.1.2.1,⟨hk.1.2.2.1,⟨hk.1.2.2.2.1,⟨hk.1.2.2.2.2.1,⟨hk.1.2.2.2.2.2.1,⟨hk.1.2.2.2.2.2.2.1,⟨hk.1.2.2.2.2.2.2.2.1,⟨hk.1.2.2.2.2.2.2.2.2,hk.2⟩⟩⟩⟩⟩⟩⟩⟩⟩)):P:=h
theorem zz136 {P:Prop} (h:P:=by (with_reducible repeat (first | apply Kd.V_alloc | apply Kd.V_drewN | apply Kd.V_drew));exact Kd.V_mono h0_.out (fun _ hk=>⟨hk.1.1,⟨hk.1.2.1,⟨hk.1.2.2.1,⟨hk.1.2.2.2.1,⟨hk.1.2.2.2.2.1,⟨hk.1.2.2.2.2.2.1,⟨hk.2,⟨hk.1.2.2.2.2.2.2.1,⟨hk.1.2.2.2.2.2.2.2.1,⟨hk.1.2.2.2.2.2.2.2.2.1,hk.1.2.2.2.2.2.2.2.2.2⟩⟩⟩⟩⟩⟩⟩⟩⟩⟩)):P:=h
theorem zz137 {P:Prop} (h:P:=by (with_reducible repeat (first | apply Kd.V_alloc | apply Kd.V_drewN | apply Kd.V_drew));exact Kd.V_mono h0_.out (fun _ hk=>⟨hk.1.1,⟨hk.1.2.1,⟨hk.1.2.2.1,⟨hk.1.2.2.2.1,⟨hk.1.2.2.2.2.1,⟨hk.1.2.2.2.2.2.1,⟨hk.1.2.2.2.2.2.2.1,⟨hk.1.2.2.2.2.2.2.2.1,⟨hk.1.2.2.2.2.2.2.2.2.1,⟨hk.1.2.2.2.2.2.2.2.2.2,hk.2⟩⟩⟩⟩⟩⟩⟩⟩⟩⟩)):P:=h
theorem zz138 {P:Prop} (h:P:=by repeat (first | (with_reducible first | exact HB.out | apply wV | apply wT | apply wS | refine wO ?_ GE663.out) | exact HB.out)):P:=h
theorem zz139 {P:Prop} (h:P:=by (with_reducible repeat (first | apply Kd.R_alloc | apply Kd.R_drewN | apply Kd.R_drew));exact HO_4.out):P:=h
theorem zz140 {P:Prop} (h:P:=by repeat (first | (with_reducible first | exact HB.out | apply wV | apply wT | apply wS | refine wO ?_ GE728.out) | exact HB.out)):P:=h
theorem zz141 {P:Prop} (h:P:=by (with_reducible repeat (first | refine wE ?_ _ | refine wG ?_ | refine wD ?_ _));exact BK728.out):P:=h
theorem zz142 {P:Prop} (h:P:=by repeat (first | (with_reducible first | exact HB.out | apply wV | apply wT | apply wS | refine wO ?_ GE728.out | refine wO ?_ GE736.out) | exact HB.out)):P:=h
theorem zz143 {P:Prop} (h:P:=by (with_reducible repeat (first | apply Kd.N_alloc | apply Kd.N_drewN | apply Kd.N_drew));exact HO_1.out):P:=h
theorem zz144 {P:Prop} (h:P:=by (with_reducible repeat (first | apply Kd.R_alloc | apply Kd.R_drewN | apply Kd.R_drew));exact Kd.R_mono h0_.out (fun _ hk=>(by first | exact hk.2 | (revert hk;(try simp only [and_imp]);intros;repeat' (first | assumption | apply And.intro))))):P:=h
theorem zz145 {P:Prop} (h:P:=by (with_reducible repeat (first | apply Kd.R_alloc | apply Kd.R_drewN | apply Kd.R_drew));exact (Kd.R_mono (Kd.R_far (p:=⟨gb820,2,none⟩) (Kd.R_far (p:=⟨gb820,1,none⟩) (Kd.R_far (p:=⟨gb820,0,none⟩) (Kd.R_types h0_.out h1_.out (by decide)) (fun _ hk=>hk.2) (.bool t812)) (fun _ hk=>hk.2) (.slice Ao102 t813.length co102)) (fun _ hk=>hk.2) (.slice Ao103 t816.length co103)) (fun _ h_=>h_.1))):P:=h
theorem zz146 {P:Prop} (h:P:=by first | exact hk.2 | (revert hk;(try simp only [and_imp]);intros;repeat' (first | assumption | apply And.intro))):P:=h
theorem zz147 {P:Prop} (h:P:=by (with_reducible repeat (first | apply Kd.R_alloc | apply Kd.R_drewN | apply Kd.R_drew));exact (Kd.R_mono (Kd.R_far (p:=⟨gb829,2,none⟩) (Kd.R_far (p:=⟨gb829,1,none⟩) (Kd.R_far (p:=⟨gb829,0,none⟩) (Kd.R_types h0_.out h1_.out (by decide)) (fun _ hk=>hk.2) (.bool t821)) (fun _ hk=>hk.2) (.slice Ao108 t822.length co108)) (fun _ hk=>hk.2) (.slice Ao109 t825.length co109)) (fun _ h_=>h_.1))):P:=h
theorem zz148 {P:Prop} (h:P:=by (with_reducible repeat (first | apply Kd.V_alloc | apply Kd.V_drewN | apply Kd.V_drew));exact (Kd.V_mono (Kd.V_far (p:=⟨gb829,2,none⟩) (Kd.V_far (p:=⟨gb829,1,none⟩) (Kd.V_far (p:=⟨gb829,0,none⟩) (Kd.V_mono h0_.out (fun k_ hk=>(⟨hk,(by first | exact hk.2 | (revert hk;(try simp only [and_imp]);intros;repeat' (first | assumption | apply And.intro)))⟩: _∧k_ ≠ gb829))) (fun _ hk=>hk.2) (.bool t821)) (fun _ hk=>hk.2) (.slice Ao108 t822.length co108)) (fun _ hk=>hk.2) (.slice Ao109 t825.length co109)) (fun _ h_=>h_.1))):P:=h
theorem zz149 {P:Prop} (h:P:=by (with_reducible repeat (first | apply Kd.R_alloc | apply Kd.R_drewN | apply Kd.R_drew));exact (Kd.R_mono (Kd.R_far (p:=⟨gb838,2,none⟩) (Kd.R_far (p:=⟨gb838,1,none⟩) (Kd.R_far (p:=⟨gb838,0,none⟩) (Kd.R_types h0_.out h1_.out (by decide)) (fun _ hk=>hk.2) (.bool t830)) (fun _ hk=>hk.2) (.slice Ao115 t831.length co115)) (fun _ hk=>hk.2) (.slice Ao116 t834.length co116)) (fun _ h_=>h_.1))):P:=h
theorem zz150 {P:Prop} (h:P:=by (with_reducible repeat (first | apply Kd.V_alloc | apply Kd.V_drewN | apply Kd.V_drew));exact (Kd.V_mono (Kd.V_far (p:=⟨gb838,2,none⟩) (Kd.V_far (p:=⟨gb838,1,none⟩) (Kd.V_far (p:=⟨gb838,0,none⟩) (Kd.V_mono h0_.out (fun k_ hk=>(⟨hk,(by first | exact hk.2 | (revert hk;(try simp only [and_imp]);intros;repeat' (first | assumption | apply And.intro)))⟩: _∧k_ ≠ gb838))) (fun _ hk=>hk.2) (.bool t830)) (fun _ hk=>hk.2) (.slice Ao115 t831.length co115)) (fun _ hk=>hk.2) (.slice Ao116 t834.length co116)) (fun _ h_=>h_.1))):P:=h
theorem zz151 {P:Prop} (h:P:=by repeat (first | (with_reducible first | exact HB.out | apply wV | apply wT | apply wS | refine wO ?_ GE820.out | refine wO ?_ GE829.out | refine wO ?_ GE838.out) | exact HB.out)):P:=h
theorem zz152 {P:Prop} (h:P:=by (with_reducible repeat (first | apply Kd.N_alloc | apply Kd.N_drewN | apply Kd.N_drew));exact h0_.out):P:=h
theorem zz153 {P:Prop} (h:P:=by (with_reducible repeat (first | apply Kd.N_alloc | apply Kd.N_drewN | apply Kd.N_drew));exact Kd.N_mono HO_1.out (fun _ hk=>trivial)):P:=h
theorem zz154 {P:Prop} (h:P:=by (with_reducible repeat (first | apply Kd.R_alloc | apply Kd.R_drewN | apply Kd.R_drew));exact HO_2.out):P:=h
theorem zz155 {P:Prop} (h:P:=by repeat (first | (with_reducible exact h0_.out) | (with_reducible refine Kd.C_alloc ?_ _) | (with_reducible refine Kd.C_drewN ?_ _) | (with_reducible refine Kd.C_drew ?_) | exact h0_.out)):P:=h
theorem zz156 {P:Prop} (h:P:=by first | (go_simp;done) | (go_simp;rfl)):P:=h
theorem zz157 {P:Prop} (h:P:=by repeat (first | exact (Kd.C_below h0_.out HB.out) | (with_reducible refine Kd.C_alloc ?_ _) | (with_reducible refine Kd.C_drewN ?_ _) | (with_reducible refine Kd.C_drew ?_))):P:=h
theorem zz158 {P:Prop} (h:P:=by repeat (first | exact HR0.out | (with_reducible refine Kd.C_alloc ?_ _) | (with_reducible refine Kd.C_drewN ?_ _) | (with_reducible refine Kd.C_drew ?_))):P:=h
theorem zz159 {P:Prop} (h:P:=by repeat (first | exact (Kd.C_below HR1.out HB.out) | (with_reducible refine Kd.C_alloc ?_ _) | (with_reducible refine Kd.C_drewN ?_ _) | (with_reducible refine Kd.C_drew ?_))):P:=h
theorem zz160 {P:Prop} (h:P:=by repeat (first | exact (Kd.C_below HR0.out HB.out) | (with_reducible refine Kd.C_alloc ?_ _) | (with_reducible refine Kd.C_drewN ?_ _) | (with_reducible refine Kd.C_drew ?_))):P:=h
theorem zz161 {P:Prop} (h:P:=by repeat (first | exact HR1.out | (with_reducible refine Kd.C_alloc ?_ _) | (with_reducible refine Kd.C_drewN ?_ _) | (with_reducible refine Kd.C_drew ?_))):P:=h
theorem zz162 {P:Prop} (h:P:=by repeat (first | exact (Kd.R_reads' h0_.out).2.2 | (with_reducible refine Kd.C_alloc ?_ _) | (with_reducible refine Kd.C_drewN ?_ _) | (with_reducible refine Kd.C_drew ?_))):P:=h
theorem zz163 {P:Prop} (h:P:=by exact (Kd.R_reads' HO_10.out).2.1):P:=h
theorem zz164 {P:Prop} (h:P:=by exact (Kd.R_reads' h0_.out).2.1):P:=h
theorem zz165 {P:Prop} (h:P:=by exact (wB (zz3))):P:=h
theorem zz166 {P:Prop} (h:P:=by exact (fun _ _=>trivial)):P:=h
theorem zz167 {P:Prop} (h:P:=by exact Kd.C_below HR1.out (zz37)):P:=h
theorem zz168 {P:Prop} (h:P:=by exact (Kd.R_reads' HO_9.out).2.1):P:=h
theorem zz169 {P:Prop} (h:P:=by exact Kd.V_mk HC0.out (Kd.F_below (Kd.C_F (Kd.heap_int .u32) HR0.out) (zz3))):P:=h
theorem zz170 {P:Prop} (h:P:=by repeat (first | exact (Kd.V_reads' h0_.out).2.2 | (with_reducible refine Kd.C_alloc ?_ _) | (with_reducible refine Kd.C_drewN ?_ _) | (with_reducible refine Kd.C_drew ?_))):P:=h
theorem zz171 {P:Prop} (h:P:=by exact Kd.V_mk HC1.out (Kd.F_below (Kd.C_F (Kd.heap_int .u32) HR1.out) (zz3))):P:=h
theorem zz172 {P:Prop} (h:P:=by exact (Kd.V_reads' h0_.out).2.1):P:=h
theorem zz173 {P:Prop} (h:P:=by exact HC0_1.out):P:=h
theorem zz174 {P:Prop} (h:P:=by exact Kd.V_mk h0_.out (Kd.F_below (Kd.C_F (Kd.heap_int .u32) h1_.out) (zz140))):P:=h
theorem zz175 {P:Prop} (h:P:=by exact (wZ.one (show Kd.M (Kd.int .i64) _ _ _ 5 [.int .i64 5] from rfl) (wZ.none _ _))):P:=h
theorem zz176 {P:Prop} (h:P:=by repeat (first | exact (Kd.N_reads' h0_.out).2.2 | (with_reducible refine Kd.C_alloc ?_ _) | (with_reducible refine Kd.C_drewN ?_ _) | (with_reducible refine Kd.C_drew ?_))):P:=h
theorem zz177 {P:Prop} (h:P:=by repeat (first | exact (have h0_:=h0_;zz155) | (with_reducible refine Kd.C_alloc ?_ _) | (with_reducible refine Kd.C_drewN ?_ _) | (with_reducible refine Kd.C_drew ?_))):P:=h
theorem zzi {α:Type} {p:Prop} [d:Decidable p] {a:Option α} {r:α} (h:(if p then a else none) = some r):p∧a = some r:=by by_cases c:p;exact ⟨c,(if_pos c).symm.trans h⟩;rw [if_neg c] at h;cases h
theorem zzj {α:Type} {p:Prop} [d:Decidable p] {a b:Option α} {r:α} (h:(if p then a else b) = some r):(p∧a = some r)∨(¬p∧b = some r):=by by_cases c:p;exact .inl ⟨c,(if_pos c).symm.trans h⟩;exact .inr ⟨c,(if_neg c).symm.trans h⟩
theorem zzb {α β:Type} {a:Option α} {f:α→Option β} {r:β} (h:a.bind f = some r):∃ t,Go.Proofs.YtnimkmkapajnhaaDoorW.PrintWords.wA (a = some t)∧f t = some r:=by obtain ⟨t,h1,h2⟩:=Option.bind_eq_some_iff.mp h;exact ⟨t,⟨h1⟩,h2⟩
theorem zc2 {w:World} {g:Nat} {t:TypeId} {x0 x1:Value} (h:w.heap[g]? = some (.cells #[x0,x1] t (0,0))):w.cell? ⟨g,0,none⟩ = some x0∧w.cell? ⟨g,1,none⟩ = some x1∧w.frozen? ⟨g,0,none⟩ = false∧w.frozen? ⟨g,1,none⟩ = false:=⟨(Go.Proofs.YtnimkmkapajnhaaDoorW.PrintWords.wH h 0).trans rfl,(Go.Proofs.YtnimkmkapajnhaaDoorW.PrintWords.wH h 1).trans rfl,Go.Proofs.YtnimkmkapajnhaaDoorW.PrintWords.yH h 0,Go.Proofs.YtnimkmkapajnhaaDoorW.PrintWords.yH h 1⟩
theorem zc3 {w:World} {g:Nat} {t:TypeId} {x0 x1 x2:Value} (h:w.heap[g]? = some (.cells #[x0,x1,x2] t (0,0))):w.cell? ⟨g,0,none⟩ = some x0∧w.cell? ⟨g,1,none⟩ = some x1∧w.cell? ⟨g,2,none⟩ = some x2∧w.frozen? ⟨g,0,none⟩ = false∧w.frozen? ⟨g,1,none⟩ = false∧w.frozen? ⟨g,2,none⟩ = false:=⟨(Go.Proofs.YtnimkmkapajnhaaDoorW.PrintWords.wH h 0).trans rfl,(Go.Proofs.YtnimkmkapajnhaaDoorW.PrintWords.wH h 1).trans rfl,(Go.Proofs.YtnimkmkapajnhaaDoorW.PrintWords.wH h 2).trans rfl,Go.Proofs.YtnimkmkapajnhaaDoorW.PrintWords.yH h 0,Go.Proofs.YtnimkmkapajnhaaDoorW.PrintWords.yH h 1,Go.Proofs.YtnimkmkapajnhaaDoorW.PrintWords.yH h 2⟩
open Go.Proofs.YtnimkmkapajnhaaDoorW.PrintLast in
theorem zzp {P:Program} {ops:Array Oper} {Q:Exit→Act→World→Prop} {md:Region.Mode} {S:World→Prop} {ds:List Nat} (i:Nat) (N:Tmp) {oi:Oper} (v:Value) {fuel:Nat} {l:Array Bool} {a:Act} {w:World} (l' : Array Bool) (hi:ops[i]? = some oi) (hN:oi.dst = some N) (hc:anyB md ops l l' i = true) (hQ:∀c a w,Q (.panic c) (a.put oi.dst v) w→Q (.panic c) a w) (hy:Yields P ops oi v a) (a' : Act) (ha:a.put (some N) v = a') (h:wW P md ops Q S ds fuel l' a' w):wW P md ops Q S ds (fuel+1) l a w:=yF (N:=some N) l' hi hN hc hQ hy ha h
open Go.Proofs.YtnimkmkapajnhaaDoorW.PrintLast in
theorem zzs:(∀ (a:Act) (v:Value) (d:Tmp),a.put (some d) v = { tmps:=a.tmps.setIfInBounds d v,defers:=a.defers })∧(∀ (a:Act) (v:Value),a.put none v = a)∧(∀ (l:List Value) (i:Nat) (a:Value),l.toArray.setIfInBounds i a = (l.set i a).toArray)∧(∀ (x:Value) (xs:List Value) (a:Value),(x :: xs).set 0 a = a :: xs)∧(∀ (x:Value) (xs:List Value) (i:Nat) (a:Value),(x :: xs).set (i+1) a = x :: xs.set i a)∧(∀ n:Int,IntKind.i64.wrap n = Go.RowKit.wrap64 n)∧(∀ n:Int,IntKind.i32.wrap n = Go.RowKit.wrap32 n):=⟨fun _ _ _=>rfl,fun _ _=>rfl,fun _ _ _=>List.setIfInBounds_toArray ..,fun _ _ _=>rfl,fun _ _ _ _=>rfl,yS,zF⟩
theorem zzh {P:Prop} (h:P:=by first|(rw [hy_];with_reducible exact H)|(have H2_:=(Option.bind_some _ _).symm.trans H;rw [hy_];with_reducible exact H2_)|(have H2_:=(Option.bind_some _ _).symm.trans H;with_reducible exact H2_)|with_reducible exact H|(rw [hy_];exact H)|exact H):P:=h
end Go.Proofs.YtnimkmkapajnhaaDoor
