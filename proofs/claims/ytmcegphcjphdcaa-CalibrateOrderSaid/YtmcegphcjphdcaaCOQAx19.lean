import Derived.Test.YtmcegphcjphdcaaCOQAx0
import Derived.Test.YtmcegphcjphdcaaCOQAx5
import Derived.Test.YtmcegphcjphdcaaCOQAx11
import Derived.Test.YtmcegphcjphdcaaCOQAx15
import Derived.Test.YtmcegphcjphdcaaCOQAx18
namespace Go.Proofs.Ytmcegphcjphdcaa.QA
open Go.RowKit Go.Proofs.YtmcegphcjphdcaaW.PrintWords Go.Proofs.YtmcegphcjphdcaaW.PrintLast Go.Proofs.YtmcegphcjphdcaaW.PrintMore
attribute [local go_sem] max2_int min2_int max_two min_two max_three min_three max_four min_four
set_option linter.unusedVariables false
set_option linter.unusedSimpArgs false
mutual
def examboardlaw28_CalibrateOrder.l0:Nat→List (S56)→Int→List Int→Int→List Int→List Int→List Int→List Int→List (List Int)→List Int→List Int→List (List Int)→Option (Bool)
 | 0,_,_,_,_,_,_,_,_,_,_,_,_=>none
 | k+1,x1,x3,x9,x12,x446000,x446001,x447000,x447001,x447002,x453000,x453001,x453002=>if x12≥0 then (if 0≤x12 then (if x12 < (x447002.length:Int) then (if x453002.length < 5864062014805 then (examboardlaw28_CalibrateOrder.l0 k x1 x3 x9 (wrap64 (x12 - 1)) x446000 x446001 x447000 x447001 x447002 x453000 x453001 (x453002++[rd_L1 x447002 x12])) else (none)) else (none)) else (none)) else ((calibrate_Total.f k x446000 x446001 x1 x453000 x453001 x453002).bind fun bt457=>(if bt457.2 = 0 then ((nat_Bits.f k x9).bind fun t461=>(if t461 = 0 then (examboardlaw28_CalibrateOrder.j1 k x1 x3 x9 bt457.2 bt457.1 true x446000 x446001 x447000 x447001 x447002) else ((examboardlaw28_limbs.f k x9 bt457.1).bind fun t462=>(if t462 = true then (if x3 < 0 then (examboardlaw28_CalibrateOrder.j1 k x1 x3 x9 bt457.2 bt457.1 true x446000 x446001 x447000 x447001 x447002) else (examboardlaw28_CalibrateOrder.j1 k x1 x3 x9 bt457.2 bt457.1 (decide (x3≥(x1.length:Int))) x446000 x446001 x447000 x447001 x447002)) else (examboardlaw28_CalibrateOrder.j1 k x1 x3 x9 bt457.2 bt457.1 true x446000 x446001 x447000 x447001 x447002))))) else (examboardlaw28_CalibrateOrder.j1 k x1 x3 x9 bt457.2 bt457.1 true x446000 x446001 x447000 x447001 x447002)))
def examboardlaw28_CalibrateOrder.j1:Nat→List (S56)→Int→List Int→Int→List Int→Bool→List Int→List Int→List Int→List Int→List (List Int)→Option (Bool)
 | 0,_,_,_,_,_,_,_,_,_,_,_=>none
 | k+1,x1,x3,x9,x10,x13,x87,x446000,x446001,x447000,x447001,x447002=>if x87 = true then (if x10 = 0 then ((nat_Bits.f k x9).bind fun t463=>(if t463 > 0 then ((examboardlaw28_limbs.f k x9 x13).bind fun t464=>(some t464)) else (some false))) else (some false)) else (examboardlaw28_CalibrateOrder.l1 k x1 x3 0 x446000 x446001 x447000 x447001 x447002)
def examboardlaw28_CalibrateOrder.l1:Nat→List (S56)→Int→Int→List Int→List Int→List Int→List Int→List (List Int)→Option (Bool)
 | 0,_,_,_,_,_,_,_,_=>none
 | k+1,x1,x3,x14,x446000,x446001,x447000,x447001,x447002=>if x14 < (x447002.length:Int) then ((some (([]:List Int):List Int)).bind fun y465=>(if 0≤x14 then (if y465.length+(rd_L1 x447002 x14).length < 17592186044416 then ((some (y465++(rd_L1 x447002 x14):List Int)).bind fun y469=>(if x3≥(y469.length:Int) then (some false) else ((calibrate_Weights.f k x446000 x446001 x1 y469 x3).bind fun bt472=>(if 0≤x3 then (if x3 < (y469.length:Int) then ((calibrate_Weights.f k x446000 x446001 x1 (y469.set (x3:Int).toNat (-1)) (-1)).bind fun bt477=>(if bt472.2 = 0 then (if bt477.2 = 0 then (if (bt472.1.length:Int) = (x446000.length:Int) then (examboardlaw28_CalibrateOrder.j3 k x1 x3 x14 bt472.1 bt477.1 ((bt477.1.length:Int) != (bt472.1.length:Int)) x446000 x446001 x447000 x447001 x447002) else (examboardlaw28_CalibrateOrder.j3 k x1 x3 x14 bt472.1 bt477.1 true x446000 x446001 x447000 x447001 x447002)) else (examboardlaw28_CalibrateOrder.j3 k x1 x3 x14 bt472.1 bt477.1 true x446000 x446001 x447000 x447001 x447002)) else (examboardlaw28_CalibrateOrder.j3 k x1 x3 x14 bt472.1 bt477.1 true x446000 x446001 x447000 x447001 x447002))) else (none)) else (none))))) else (none)) else (none))) else (some true)
def examboardlaw28_CalibrateOrder.j3:Nat→List (S56)→Int→Int→List (List Int)→List (List Int)→Bool→List Int→List Int→List Int→List Int→List (List Int)→Option (Bool)
 | 0,_,_,_,_,_,_,_,_,_,_,_=>none
 | k+1,x1,x3,x14,x16,x18,x156,x446000,x446001,x447000,x447001,x447002=>if x156 = true then (some false) else (examboardlaw28_CalibrateOrder.l2 k x1 x3 x14 x16 x18 0 x446000 x446001 x447000 x447001 x447002)
def examboardlaw28_CalibrateOrder.l2:Nat→List (S56)→Int→Int→List (List Int)→List (List Int)→Int→List Int→List Int→List Int→List Int→List (List Int)→Option (Bool)
 | 0,_,_,_,_,_,_,_,_,_,_,_=>none
 | k+1,x1,x3,x14,x16,x18,x20,x446000,x446001,x447000,x447001,x447002=>if x20 < (x16.length:Int) then (if 0≤x20 then (if x20 < (x18.length:Int) then ((examboardlaw28_limbs.f k (rd_L5 x16 x20) (rd_L5 x18 x20)).bind fun t483=>(if t483 = true then (examboardlaw28_CalibrateOrder.l2 k x1 x3 x14 x16 x18 (wrap64 (x20+1)) x446000 x446001 x447000 x447001 x447002) else (some false))) else (none)) else (none)) else (examboardlaw28_CalibrateOrder.l1 k x1 x3 (wrap64 (x14+1)) x446000 x446001 x447000 x447001 x447002)
end
def examboardlaw28_CalibrateOrder.f (k:Nat) (l0_0:List Int) (l0_1:List Int) (l1:List (S56)) (l2_0:List Int) (l2_1:List Int) (l2_2:List (List Int)) (a3:Int):Option (Bool):=(examboardlaw28_heavy.f l2_0 l2_1 l2_2).bind fun t447=>(if t447 = true then (some true) else ((calibrate_Total.f k l0_0 l0_1 l1 l2_0 l2_1 l2_2).bind fun bt448=>(if bt448.2 = 0 then (examboardlaw28_CalibrateOrder.l0 k l1 a3 bt448.1 (wrap64 ((l2_2.length:Int) - 1)) l0_0 l0_1 l2_0 l2_1 l2_2 l2_0 l2_1 ([]:List (List Int))) else (some ((bt448.1.length:Int) == 0)))))
theorem examboardlaw28_CalibrateOrder.mono_l:∀ k,(∀ y0 y1 y2 y3 y4 y5 y6 y7 y8 y9 y10 y11,LeO (examboardlaw28_CalibrateOrder.l0 k y0 y1 y2 y3 y4 y5 y6 y7 y8 y9 y10 y11) (examboardlaw28_CalibrateOrder.l0 (k+1) y0 y1 y2 y3 y4 y5 y6 y7 y8 y9 y10 y11))∧(∀ y0 y1 y2 y3 y4 y5 y6 y7 y8 y9 y10,LeO (examboardlaw28_CalibrateOrder.j1 k y0 y1 y2 y3 y4 y5 y6 y7 y8 y9 y10) (examboardlaw28_CalibrateOrder.j1 (k+1) y0 y1 y2 y3 y4 y5 y6 y7 y8 y9 y10))∧(∀ y0 y1 y2 y3 y4 y5 y6 y7,LeO (examboardlaw28_CalibrateOrder.l1 k y0 y1 y2 y3 y4 y5 y6 y7) (examboardlaw28_CalibrateOrder.l1 (k+1) y0 y1 y2 y3 y4 y5 y6 y7))∧(∀ y0 y1 y2 y3 y4 y5 y6 y7 y8 y9 y10,LeO (examboardlaw28_CalibrateOrder.j3 k y0 y1 y2 y3 y4 y5 y6 y7 y8 y9 y10) (examboardlaw28_CalibrateOrder.j3 (k+1) y0 y1 y2 y3 y4 y5 y6 y7 y8 y9 y10))∧(∀ y0 y1 y2 y3 y4 y5 y6 y7 y8 y9 y10,LeO (examboardlaw28_CalibrateOrder.l2 k y0 y1 y2 y3 y4 y5 y6 y7 y8 y9 y10) (examboardlaw28_CalibrateOrder.l2 (k+1) y0 y1 y2 y3 y4 y5 y6 y7 y8 y9 y10))
 | 0=>⟨fun _ _ _ _ _ _ _ _ _ _ _ _ r h=>by simp [examboardlaw28_CalibrateOrder.l0] at h,fun _ _ _ _ _ _ _ _ _ _ _ r h=>by simp [examboardlaw28_CalibrateOrder.j1] at h,fun _ _ _ _ _ _ _ _ r h=>by simp [examboardlaw28_CalibrateOrder.l1] at h,fun _ _ _ _ _ _ _ _ _ _ _ r h=>by simp [examboardlaw28_CalibrateOrder.j3] at h,fun _ _ _ _ _ _ _ _ _ _ _ r h=>by simp [examboardlaw28_CalibrateOrder.l2] at h⟩
 | k+1=>by
  obtain ⟨ih0,ih1,ih2,ih3,ih4⟩:=examboardlaw28_CalibrateOrder.mono_l k
  refine ⟨?_,?_,?_,?_,?_⟩
  ·intro y0 y1 y2 y3 y4 y5 y6 y7 y8 y9 y10 y11
   unfold examboardlaw28_CalibrateOrder.l0
   repeat' first
   | (with_reducible exact ih0 _ _ _ _ _ _ _ _ _ _ _ _)
   | (with_reducible exact ih1 _ _ _ _ _ _ _ _ _ _ _)
   | (with_reducible exact ih2 _ _ _ _ _ _ _ _)
   | (with_reducible exact ih3 _ _ _ _ _ _ _ _ _ _ _)
   | (with_reducible exact ih4 _ _ _ _ _ _ _ _ _ _ _)
   | (with_reducible exact calibrate_Total.mono _ _ _ _ _ _ _)
   | (with_reducible exact calibrate_Weights.mono _ _ _ _ _ _)
   | (with_reducible exact examboardlaw28_limbs.mono _ _ _)
   | (with_reducible exact nat_Bits.mono _ _)
   | (with_reducible exact LeO.refl _)
   | (with_reducible exact LeO.none _)
   | (with_reducible refine LeO.ite ?_ ?_)
   | (with_reducible refine LeO.bind ?_ (fun _=>?_))
   | exact ih0 _ _ _ _ _ _ _ _ _ _ _ _
   | exact ih1 _ _ _ _ _ _ _ _ _ _ _
   | exact ih2 _ _ _ _ _ _ _ _
   | exact ih3 _ _ _ _ _ _ _ _ _ _ _
   | exact ih4 _ _ _ _ _ _ _ _ _ _ _
   | exact calibrate_Total.mono _ _ _ _ _ _ _
   | exact calibrate_Weights.mono _ _ _ _ _ _
   | exact examboardlaw28_limbs.mono _ _ _
   | exact nat_Bits.mono _ _
   | exact LeO.none _
   | refine LeO.ite ?_ ?_
   | refine LeO.bind ?_ (fun _=>?_)
  ·intro y0 y1 y2 y3 y4 y5 y6 y7 y8 y9 y10
   unfold examboardlaw28_CalibrateOrder.j1
   repeat' first
   | (with_reducible exact ih0 _ _ _ _ _ _ _ _ _ _ _ _)
   | (with_reducible exact ih1 _ _ _ _ _ _ _ _ _ _ _)
   | (with_reducible exact ih2 _ _ _ _ _ _ _ _)
   | (with_reducible exact ih3 _ _ _ _ _ _ _ _ _ _ _)
   | (with_reducible exact ih4 _ _ _ _ _ _ _ _ _ _ _)
   | (with_reducible exact calibrate_Total.mono _ _ _ _ _ _ _)
   | (with_reducible exact calibrate_Weights.mono _ _ _ _ _ _)
   | (with_reducible exact examboardlaw28_limbs.mono _ _ _)
   | (with_reducible exact nat_Bits.mono _ _)
   | (with_reducible exact LeO.refl _)
   | (with_reducible exact LeO.none _)
   | (with_reducible refine LeO.ite ?_ ?_)
   | (with_reducible refine LeO.bind ?_ (fun _=>?_))
   | exact ih0 _ _ _ _ _ _ _ _ _ _ _ _
   | exact ih1 _ _ _ _ _ _ _ _ _ _ _
   | exact ih2 _ _ _ _ _ _ _ _
   | exact ih3 _ _ _ _ _ _ _ _ _ _ _
   | exact ih4 _ _ _ _ _ _ _ _ _ _ _
   | exact calibrate_Total.mono _ _ _ _ _ _ _
   | exact calibrate_Weights.mono _ _ _ _ _ _
   | exact examboardlaw28_limbs.mono _ _ _
   | exact nat_Bits.mono _ _
   | exact LeO.none _
   | refine LeO.ite ?_ ?_
   | refine LeO.bind ?_ (fun _=>?_)
  ·intro y0 y1 y2 y3 y4 y5 y6 y7
   unfold examboardlaw28_CalibrateOrder.l1
   repeat' first
   | (with_reducible exact ih0 _ _ _ _ _ _ _ _ _ _ _ _)
   | (with_reducible exact ih1 _ _ _ _ _ _ _ _ _ _ _)
   | (with_reducible exact ih2 _ _ _ _ _ _ _ _)
   | (with_reducible exact ih3 _ _ _ _ _ _ _ _ _ _ _)
   | (with_reducible exact ih4 _ _ _ _ _ _ _ _ _ _ _)
   | (with_reducible exact calibrate_Total.mono _ _ _ _ _ _ _)
   | (with_reducible exact calibrate_Weights.mono _ _ _ _ _ _)
   | (with_reducible exact examboardlaw28_limbs.mono _ _ _)
   | (with_reducible exact nat_Bits.mono _ _)
   | (with_reducible exact LeO.refl _)
   | (with_reducible exact LeO.none _)
   | (with_reducible refine LeO.ite ?_ ?_)
   | (with_reducible refine LeO.bind ?_ (fun _=>?_))
   | exact ih0 _ _ _ _ _ _ _ _ _ _ _ _
   | exact ih1 _ _ _ _ _ _ _ _ _ _ _
   | exact ih2 _ _ _ _ _ _ _ _
   | exact ih3 _ _ _ _ _ _ _ _ _ _ _
   | exact ih4 _ _ _ _ _ _ _ _ _ _ _
   | exact calibrate_Total.mono _ _ _ _ _ _ _
   | exact calibrate_Weights.mono _ _ _ _ _ _
   | exact examboardlaw28_limbs.mono _ _ _
   | exact nat_Bits.mono _ _
   | exact LeO.none _
   | refine LeO.ite ?_ ?_
   | refine LeO.bind ?_ (fun _=>?_)
  ·intro y0 y1 y2 y3 y4 y5 y6 y7 y8 y9 y10
   unfold examboardlaw28_CalibrateOrder.j3
   repeat' first
   | (with_reducible exact ih0 _ _ _ _ _ _ _ _ _ _ _ _)
   | (with_reducible exact ih1 _ _ _ _ _ _ _ _ _ _ _)
   | (with_reducible exact ih2 _ _ _ _ _ _ _ _)
   | (with_reducible exact ih3 _ _ _ _ _ _ _ _ _ _ _)
   | (with_reducible exact ih4 _ _ _ _ _ _ _ _ _ _ _)
   | (with_reducible exact calibrate_Total.mono _ _ _ _ _ _ _)
   | (with_reducible exact calibrate_Weights.mono _ _ _ _ _ _)
   | (with_reducible exact examboardlaw28_limbs.mono _ _ _)
   | (with_reducible exact nat_Bits.mono _ _)
   | (with_reducible exact LeO.refl _)
   | (with_reducible exact LeO.none _)
   | (with_reducible refine LeO.ite ?_ ?_)
   | (with_reducible refine LeO.bind ?_ (fun _=>?_))
   | exact ih0 _ _ _ _ _ _ _ _ _ _ _ _
   | exact ih1 _ _ _ _ _ _ _ _ _ _ _
   | exact ih2 _ _ _ _ _ _ _ _
   | exact ih3 _ _ _ _ _ _ _ _ _ _ _
   | exact ih4 _ _ _ _ _ _ _ _ _ _ _
   | exact calibrate_Total.mono _ _ _ _ _ _ _
   | exact calibrate_Weights.mono _ _ _ _ _ _
   | exact examboardlaw28_limbs.mono _ _ _
   | exact nat_Bits.mono _ _
   | exact LeO.none _
   | refine LeO.ite ?_ ?_
   | refine LeO.bind ?_ (fun _=>?_)
  ·intro y0 y1 y2 y3 y4 y5 y6 y7 y8 y9 y10
   unfold examboardlaw28_CalibrateOrder.l2
   repeat' first
   | (with_reducible exact ih0 _ _ _ _ _ _ _ _ _ _ _ _)
   | (with_reducible exact ih1 _ _ _ _ _ _ _ _ _ _ _)
   | (with_reducible exact ih2 _ _ _ _ _ _ _ _)
   | (with_reducible exact ih3 _ _ _ _ _ _ _ _ _ _ _)
   | (with_reducible exact ih4 _ _ _ _ _ _ _ _ _ _ _)
   | (with_reducible exact calibrate_Total.mono _ _ _ _ _ _ _)
   | (with_reducible exact calibrate_Weights.mono _ _ _ _ _ _)
   | (with_reducible exact examboardlaw28_limbs.mono _ _ _)
   | (with_reducible exact nat_Bits.mono _ _)
   | (with_reducible exact LeO.refl _)
   | (with_reducible exact LeO.none _)
   | (with_reducible refine LeO.ite ?_ ?_)
   | (with_reducible refine LeO.bind ?_ (fun _=>?_))
   | exact ih0 _ _ _ _ _ _ _ _ _ _ _ _
   | exact ih1 _ _ _ _ _ _ _ _ _ _ _
   | exact ih2 _ _ _ _ _ _ _ _
   | exact ih3 _ _ _ _ _ _ _ _ _ _ _
   | exact ih4 _ _ _ _ _ _ _ _ _ _ _
   | exact calibrate_Total.mono _ _ _ _ _ _ _
   | exact calibrate_Weights.mono _ _ _ _ _ _
   | exact examboardlaw28_limbs.mono _ _ _
   | exact nat_Bits.mono _ _
   | exact LeO.none _
   | refine LeO.ite ?_ ?_
   | refine LeO.bind ?_ (fun _=>?_)
theorem examboardlaw28_CalibrateOrder.mono:∀ a0 a1 a2 a3 a4 a5 a6 k,LeO (examboardlaw28_CalibrateOrder.f k a0 a1 a2 a3 a4 a5 a6) (examboardlaw28_CalibrateOrder.f (k+1) a0 a1 a2 a3 a4 a5 a6):=by
 intro a0 a1 a2 a3 a4 a5 a6 k
 obtain ⟨ih0,ih1,ih2,ih3,ih4⟩:=examboardlaw28_CalibrateOrder.mono_l k
 unfold examboardlaw28_CalibrateOrder.f
 repeat' first
   | (with_reducible exact ih0 _ _ _ _ _ _ _ _ _ _ _ _)
   | (with_reducible exact ih1 _ _ _ _ _ _ _ _ _ _ _)
   | (with_reducible exact ih2 _ _ _ _ _ _ _ _)
   | (with_reducible exact ih3 _ _ _ _ _ _ _ _ _ _ _)
   | (with_reducible exact ih4 _ _ _ _ _ _ _ _ _ _ _)
   | (with_reducible exact calibrate_Total.mono _ _ _ _ _ _ _)
   | (with_reducible exact calibrate_Weights.mono _ _ _ _ _ _)
   | (with_reducible exact examboardlaw28_limbs.mono _ _ _)
   | (with_reducible exact nat_Bits.mono _ _)
   | (with_reducible exact LeO.refl _)
   | (with_reducible exact LeO.none _)
   | (with_reducible refine LeO.ite ?_ ?_)
   | (with_reducible refine LeO.bind ?_ (fun _=>?_))
   | exact ih0 _ _ _ _ _ _ _ _ _ _ _ _
   | exact ih1 _ _ _ _ _ _ _ _ _ _ _
   | exact ih2 _ _ _ _ _ _ _ _
   | exact ih3 _ _ _ _ _ _ _ _ _ _ _
   | exact ih4 _ _ _ _ _ _ _ _ _ _ _
   | exact calibrate_Total.mono _ _ _ _ _ _ _
   | exact calibrate_Weights.mono _ _ _ _ _ _
   | exact examboardlaw28_limbs.mono _ _ _
   | exact nat_Bits.mono _ _
   | exact LeO.none _
   | refine LeO.ite ?_ ?_
   | refine LeO.bind ?_ (fun _=>?_)
def examboardlaw28_CalibrateOrder.T10:Bool × List (List Nat × List Nat):=(true,[([],[]),([0],[0]),([],[]),([2],[2]),([],[]),([3,4],[3,4]),([5],[5]),([6],[6]),([1,7],[1,7]),([0,1,2,3,4,5,6,7,8],[]),([9,8,8,0,1,2,3,4,5,6,7,8],[8,9])])
def examboardlaw28_CalibrateOrder.B10:List Nat:=[0,1,0,4,0,28,60,124,255,511,1023]
theorem examboardlaw28_CalibrateOrder.tab10:rtab .any (opsOf Try.f5 10) = examboardlaw28_CalibrateOrder.T10:=zz0
theorem examboardlaw28_CalibrateOrder.bits10:waitsOk examboardlaw28_CalibrateOrder.T10.2 examboardlaw28_CalibrateOrder.B10 = true:=zz0
def examboardlaw28_CalibrateOrder.T28:Bool × List (List Nat × List Nat):=(true,[([],[]),([],[]),([0,1],[0,1]),([2],[2]),([],[]),([],[]),([4,5],[4,5]),([6],[6]),([3,7],[3,7]),([8],[8])])
def examboardlaw28_CalibrateOrder.B28:List Nat:=[0,0,3,7,0,0,48,112,255,511]
theorem examboardlaw28_CalibrateOrder.tab28:rtab .any (opsOf Try.f5 28) = examboardlaw28_CalibrateOrder.T28:=zz0
theorem examboardlaw28_CalibrateOrder.bits28:waitsOk examboardlaw28_CalibrateOrder.T28.2 examboardlaw28_CalibrateOrder.B28 = true:=zz0
set_option maxHeartbeats 8000000 in
set_option maxRecDepth 100000 in
theorem examboardlaw28_CalibrateOrder.calls (k:Nat) (A0_0:Option Addr) (c0_0:Nat) (l0_0:List Int) (A0_1:Option Addr) (c0_1:Nat) (l0_1:List Int) (A1:Option Addr) (c1:Nat) (l1:List (S56)) (A2_0:Option Addr) (c2_0:Nat) (l2_0:List Int) (A2_1:Option Addr) (c2_1:Nat) (l2_1:List Int) (P2_2_:Nat→Prop) (A2_2:Option Addr) (c2_2:Nat) (l2_2:List (List Int)) (a3:Int) (r:Bool) (w:World) (hr0_0:Kd.C (Kd.int .i64) w A0_0 l0_0.length l0_0) (hc0_0:l0_0.length≤c0_0) (hr0_1:Kd.C (Kd.int .i64) w A0_1 l0_1.length l0_1) (hc0_1:l0_1.length≤c0_1) (hr1:Kd.C k56 w A1 l1.length l1) (hc1:l1.length≤c1) (hr2_0:Kd.C (Kd.int .i64) w A2_0 l2_0.length l2_0) (hc2_0:l2_0.length≤c2_0) (hr2_1:Kd.C (Kd.int .i64) w A2_1 l2_1.length l2_1) (hc2_1:l2_1.length≤c2_1) (hs2_2:Kd.V (Kd.slice 3 (Kd.int .i64)) 22 w w.heap.size (fun k_=>P2_2_ k_) (.slice A2_2 l2_2.length c2_2) l2_2) (h:examboardlaw28_CalibrateOrder.f k l0_0 l0_1 l1 l2_0 l2_1 l2_2 a3 = some r) :
  Calls Try.prog 5 #[.agg #[.slice A0_0 l0_0.length c0_0,.slice A0_1 l0_1.length c0_1],.slice A1 l1.length c1,.agg #[.slice A2_0 l2_0.length c2_0,.slice A2_1 l2_1.length c2_1,.slice A2_2 l2_2.length c2_2],.int .i64 a3] w fun e w'=>e = .returned (.bool r)∧Below w.heap.size w w':=by
 have hu24:=Try.underlying24
 have hu36:=Try.underlying36
 have HR0_0:=Aside0.mk hr0_0
 have HC0_0:=Aside0.mk hc0_0
 clear hr0_0 hc0_0
 have HR0_1:=Aside0.mk hr0_1
 have HC0_1:=Aside0.mk hc0_1
 clear hr0_1 hc0_1
 have HR1:=Aside0.mk hr1
 have HC1:=Aside0.mk hc1
 clear hr1 hc1
 have HR2_0:=Aside0.mk hr2_0
 have HC2_0:=Aside0.mk hc2_0
 clear hr2_0 hc2_0
 have HR2_1:=Aside0.mk hr2_1
 have HC2_1:=Aside0.mk hc2_1
 clear hr2_1 hc2_1
 have HO2_2:=Aside0.mk (show Kd.V (Kd.slice 3 (Kd.int .i64)) 22 w w.heap.size (fun k_=>(P2_2_ k_∨w.heap.size≤k_)) (.slice A2_2 l2_2.length c2_2) l2_2 from Kd.V_mono hs2_2 (fun k_ hk=>.inl hk))
 have HB:=Aside0.mk (Below.refl w.heap.size w)
 have H:((examboardlaw28_heavy.f l2_0 l2_1 l2_2).bind fun t447=>(if t447 = true then (some true) else ((calibrate_Total.f k l0_0 l0_1 l1 l2_0 l2_1 l2_2).bind fun bt448=>(if bt448.2 = 0 then (examboardlaw28_CalibrateOrder.l0 k l1 a3 bt448.1 (wrap64 ((l2_2.length:Int) - 1)) l0_0 l0_1 l2_0 l2_1 l2_2 l2_0 l2_1 ([]:List (List Int))) else (some ((bt448.1.length:Int) == 0)))))) = some r:=h
 clear h
 replace H:=Option.bind_eq_some_iff.mp H
 obtain ⟨t447,A50,H⟩:=H
 replace H:(if t447 = true then (some true) else ((calibrate_Total.f k l0_0 l0_1 l1 l2_0 l2_1 l2_2).bind fun bt448=>(if bt448.2 = 0 then (examboardlaw28_CalibrateOrder.l0 k l1 a3 bt448.1 (wrap64 ((l2_2.length:Int) - 1)) l0_0 l0_1 l2_0 l2_1 l2_2 l2_0 l2_1 ([]:List (List Int))) else (some ((bt448.1.length:Int) == 0))))) = some r:=H
 have A5:=Aside0.mk A50
 clear A50
 by_cases c6:t447 = true
 ·subst c6
  have H1:(some true) = some r:=zz9
  clear H
  have H:=H1
  clear H1
  obtain rfl:=Option.some.inj H
  go_enter Try.func5,Try.ntmps5
  go_wp2_with (first|((with_reducible refine gate_dst (N:=4) rfl ?_);(try (refine gate_guard (zz16) ?_;dsimp only));refine box_event ?hg (N:=4) ?hd (cs:=#[.slice A0_0 l0_0.length c0_0,.slice A0_1 l0_1.length c0_1]) (t:=24) ?hr ?_;(case hd=>rfl);(case hg=>rfl);(case hr=>exact zz122);intro gb445 hg w7 hbox hb;replace HO2_2:=Aside0.mk (Kd.V_below (Kd.V_elderB (zz103) gb445 (Nat.le_of_eq hg.symm)) hb);have BK445:=Aside0.mk (hbox);have GW445:=Aside0.mk ((by rw [hg];exact (below_size (zz4)):w.heap.size≤gb445));have GE445:=Aside0.mk ((by rw [hg];exact (below_size (zz4)):w.heap.size≤gb445));replace HB:=Aside0.mk (below_step (zz4) hb);clear hb hbox hg)|((with_reducible refine gate_dst (N:=6) rfl ?_);(try (refine gate_guard (zz16) ?_;dsimp only));refine box_event ?hg (N:=6) ?hd (cs:=#[.slice A2_0 l2_0.length c2_0,.slice A2_1 l2_1.length c2_1,.slice A2_2 l2_2.length c2_2]) (t:=36) ?hr ?_;(case hd=>rfl);(case hg=>rfl);(case hr=>exact zz122);intro gb446 hg w8 hbox hb;replace HO2_2:=Aside0.mk (Kd.V_below (Kd.V_elderB (zz103) gb446 (Nat.le_of_eq hg.symm)) hb);have BK446:=Aside0.mk (hbox);have GW446:=Aside0.mk ((by rw [hg];exact (below_size (zz105)):w.heap.size≤gb446));have GE446:=Aside0.mk ((by rw [hg];exact (below_size (zz105)):w.heap.size≤gb446));replace HB:=Aside0.mk (below_step (zz105) hb);have NB445_446:=Aside0.mk ((by rw [hg];exact Nat.ne_of_lt (blk_lt (g:=gb445) (o:=.cells #[.slice A0_0 l0_0.length c0_0,.slice A0_1 l0_1.length c0_1] 24 (0,0)) (zz104)):gb445 ≠ gb446));have NB446_445:=Aside0.mk ((by rw [hg];exact Nat.ne_of_gt (blk_lt (g:=gb445) (o:=.cells #[.slice A0_0 l0_0.length c0_0,.slice A0_1 l0_1.length c0_1] 24 (0,0)) (zz104)):gb446 ≠ gb445));replace BK445:=Aside0.mk (blk_below (g:=gb445) (o:=.cells #[.slice A0_0 l0_0.length c0_0,.slice A0_1 l0_1.length c0_1] 24 (0,0)) (zz104) hb);clear hb hbox hg;have hnb9:=NB446_445.out;have hnc9:=NB445_446.out;have hcz10_0:w8.cell? ⟨gb446,0,none⟩ = some (.slice A2_0 l2_0.length c2_0):=(blk_cell BK446.out 0).trans rfl;have hcz10_1:w8.cell? ⟨gb446,1,none⟩ = some (.slice A2_1 l2_1.length c2_1):=(blk_cell BK446.out 1).trans rfl;have hcz10_2:w8.cell? ⟨gb446,2,none⟩ = some (.slice A2_2 l2_2.length c2_2):=(blk_cell BK446.out 2).trans rfl;have hfz10_0:=blk_frozen BK446.out 0;have hfz10_1:=blk_frozen BK446.out 1;have hfz10_2:=blk_frozen BK446.out 2)|((with_reducible refine gate_callee (f:=13) rfl ?_);refine goesL_ (some 22) rfl rfl Try.func13 (zz0) rfl #[.agg #[.slice A2_0 l2_0.length c2_0,.slice A2_1 l2_1.length c2_1,.slice A2_2 l2_2.length c2_2]] rfl (zz15) ?_;(with_reducible refine (examboardlaw28_heavy.calls _ _ l2_0 _ _ l2_1 _ _ l2_2 true _ ?side1 ?side2 ?side3 ?side4 ?side5 ?side6 A5.out).mono ?_);(case side1=>exact zz136);(case side2=>exact HC2_0.out);(case side3=>exact zz137);(case side4=>exact HC2_1.out);(case side5=>exact zz139);(case side6=>exact (Kd.V_reads' HO2_2.out).2.1);rintro e w11 ⟨rfl,hb⟩;refine ⟨_,rfl,?_⟩;replace HO2_2:=Aside0.mk (Kd.V_below (zz103) hb);replace BK445:=Aside0.mk (blk_below (g:=gb445) (o:=.cells #[.slice A0_0 l0_0.length c0_0,.slice A0_1 l0_1.length c0_1] 24 (0,0)) (zz104) hb);replace BK446:=Aside0.mk (blk_below (g:=gb446) (o:=.cells #[.slice A2_0 l2_0.length c2_0,.slice A2_1 l2_1.length c2_1,.slice A2_2 l2_2.length c2_2] 36 (0,0)) (zz106) hb);replace HB:=Aside0.mk (below_step (zz107) hb);(try clear hb);(try clear hb2);(try clear hk);(try clear hi)))
  go_ret
  exact ⟨zz5,zz107⟩
 ·replace c6:=Bool.eq_false_iff.mpr c6
  subst c6
  have H1:((calibrate_Total.f k l0_0 l0_1 l1 l2_0 l2_1 l2_2).bind fun bt448=>(if bt448.2 = 0 then (examboardlaw28_CalibrateOrder.l0 k l1 a3 bt448.1 (wrap64 ((l2_2.length:Int) - 1)) l0_0 l0_1 l2_0 l2_1 l2_2 l2_0 l2_1 ([]:List (List Int))) else (some ((bt448.1.length:Int) == 0)))) = some r:=zz12
  clear H
  have H:=H1
  clear H1
  replace H:=Option.bind_eq_some_iff.mp H
  obtain ⟨⟨t448,t451⟩,A120,H⟩:=H
  replace H:(if t451 = 0 then (examboardlaw28_CalibrateOrder.l0 k l1 a3 t448 (wrap64 ((l2_2.length:Int) - 1)) l0_0 l0_1 l2_0 l2_1 l2_2 l2_0 l2_1 ([]:List (List Int))) else (some ((t448.length:Int) == 0))) = some r:=H
  have A12:=Aside0.mk A120
  clear A120
  by_cases c13:t451 = 0
  ·rw [if_pos c13] at H
   have c13b0:(t451 == 0) = true:=beq_iff_eq.mpr c13
   have c13b1:(t451 != 0) = false:=bne_eq_false_iff_eq.mpr c13
   clear c13
   have H':=Aside0.mk H
   clear H
   go_enter Try.func5,Try.ntmps5
   go_wp2_with (first|((with_reducible refine gate_dst (N:=4) rfl ?_);(try (refine gate_guard (zz16) ?_;dsimp only));refine box_event ?hg (N:=4) ?hd (cs:=#[.slice A0_0 l0_0.length c0_0,.slice A0_1 l0_1.length c0_1]) (t:=24) ?hr ?_;(case hd=>rfl);(case hg=>rfl);(case hr=>exact zz122);intro gb445 hg w14 hbox hb;replace HO2_2:=Aside0.mk (Kd.V_below (Kd.V_elderB (zz103) gb445 (Nat.le_of_eq hg.symm)) hb);have BK445:=Aside0.mk (hbox);have GW445:=Aside0.mk ((by rw [hg];exact (below_size (zz4)):w.heap.size≤gb445));have GE445:=Aside0.mk ((by rw [hg];exact (below_size (zz4)):w.heap.size≤gb445));replace HB:=Aside0.mk (below_step (zz4) hb);clear hb hbox hg)|((with_reducible refine gate_dst (N:=6) rfl ?_);(try (refine gate_guard (zz16) ?_;dsimp only));refine box_event ?hg (N:=6) ?hd (cs:=#[.slice A2_0 l2_0.length c2_0,.slice A2_1 l2_1.length c2_1,.slice A2_2 l2_2.length c2_2]) (t:=36) ?hr ?_;(case hd=>rfl);(case hg=>rfl);(case hr=>exact zz122);intro gb446 hg w15 hbox hb;replace HO2_2:=Aside0.mk (Kd.V_below (Kd.V_elderB (zz103) gb446 (Nat.le_of_eq hg.symm)) hb);have BK446:=Aside0.mk (hbox);have GW446:=Aside0.mk ((by rw [hg];exact (below_size (zz105)):w.heap.size≤gb446));have GE446:=Aside0.mk ((by rw [hg];exact (below_size (zz105)):w.heap.size≤gb446));replace HB:=Aside0.mk (below_step (zz105) hb);have NB445_446:=Aside0.mk ((by rw [hg];exact Nat.ne_of_lt (blk_lt (g:=gb445) (o:=.cells #[.slice A0_0 l0_0.length c0_0,.slice A0_1 l0_1.length c0_1] 24 (0,0)) (zz104)):gb445 ≠ gb446));have NB446_445:=Aside0.mk ((by rw [hg];exact Nat.ne_of_gt (blk_lt (g:=gb445) (o:=.cells #[.slice A0_0 l0_0.length c0_0,.slice A0_1 l0_1.length c0_1] 24 (0,0)) (zz104)):gb446 ≠ gb445));replace BK445:=Aside0.mk (blk_below (g:=gb445) (o:=.cells #[.slice A0_0 l0_0.length c0_0,.slice A0_1 l0_1.length c0_1] 24 (0,0)) (zz104) hb);clear hb hbox hg;have hnb16:=NB446_445.out;have hnc16:=NB445_446.out;have hcz17_0:w15.cell? ⟨gb446,0,none⟩ = some (.slice A2_0 l2_0.length c2_0):=(blk_cell BK446.out 0).trans rfl;have hcz17_1:w15.cell? ⟨gb446,1,none⟩ = some (.slice A2_1 l2_1.length c2_1):=(blk_cell BK446.out 1).trans rfl;have hcz17_2:w15.cell? ⟨gb446,2,none⟩ = some (.slice A2_2 l2_2.length c2_2):=(blk_cell BK446.out 2).trans rfl;have hfz17_0:=blk_frozen BK446.out 0;have hfz17_1:=blk_frozen BK446.out 1;have hfz17_2:=blk_frozen BK446.out 2)|((with_reducible refine gate_callee (f:=13) rfl ?_);refine goesL_ (some 22) rfl rfl Try.func13 (zz0) rfl #[.agg #[.slice A2_0 l2_0.length c2_0,.slice A2_1 l2_1.length c2_1,.slice A2_2 l2_2.length c2_2]] rfl (zz15) ?_;(with_reducible refine (examboardlaw28_heavy.calls _ _ l2_0 _ _ l2_1 _ _ l2_2 false _ ?side1 ?side2 ?side3 ?side4 ?side5 ?side6 A5.out).mono ?_);(case side1=>exact zz136);(case side2=>exact HC2_0.out);(case side3=>exact zz137);(case side4=>exact HC2_1.out);(case side5=>exact zz139);(case side6=>exact (Kd.V_reads' HO2_2.out).2.1);rintro e w18 ⟨rfl,hb⟩;refine ⟨_,rfl,?_⟩;replace HO2_2:=Aside0.mk (Kd.V_below (zz103) hb);replace BK445:=Aside0.mk (blk_below (g:=gb445) (o:=.cells #[.slice A0_0 l0_0.length c0_0,.slice A0_1 l0_1.length c0_1] 24 (0,0)) (zz104) hb);replace BK446:=Aside0.mk (blk_below (g:=gb446) (o:=.cells #[.slice A2_0 l2_0.length c2_0,.slice A2_1 l2_1.length c2_1,.slice A2_2 l2_2.length c2_2] 36 (0,0)) (zz106) hb);replace HB:=Aside0.mk (below_step (zz107) hb);(try clear hb);(try clear hb2);(try clear hk);(try clear hi);have hcz19_0:w18.cell? ⟨gb445,0,none⟩ = some (.slice A0_0 l0_0.length c0_0):=(blk_cell BK445.out 0).trans rfl;have hcz19_1:w18.cell? ⟨gb445,1,none⟩ = some (.slice A0_1 l0_1.length c0_1):=(blk_cell BK445.out 1).trans rfl;have hfz19_0:=blk_frozen BK445.out 0;have hfz19_1:=blk_frozen BK445.out 1;have hcz20_0:w18.cell? ⟨gb446,0,none⟩ = some (.slice A2_0 l2_0.length c2_0):=(blk_cell BK446.out 0).trans rfl;have hcz20_1:w18.cell? ⟨gb446,1,none⟩ = some (.slice A2_1 l2_1.length c2_1):=(blk_cell BK446.out 1).trans rfl;have hcz20_2:w18.cell? ⟨gb446,2,none⟩ = some (.slice A2_2 l2_2.length c2_2):=(blk_cell BK446.out 2).trans rfl;have hfz20_0:=blk_frozen BK446.out 0;have hfz20_1:=blk_frozen BK446.out 1;have hfz20_2:=blk_frozen BK446.out 2)|((with_reducible refine gate_callee (f:=14) rfl ?_);refine goesL_ (some 27) rfl rfl Try.func14 (zz0) rfl #[.agg #[.slice A0_0 l0_0.length c0_0,.slice A0_1 l0_1.length c0_1],.slice A1 l1.length c1,.agg #[.slice A2_0 l2_0.length c2_0,.slice A2_1 l2_1.length c2_1,.slice A2_2 l2_2.length c2_2]] rfl (zz15) ?_;(with_reducible refine (calibrate_Total.calls k _ _ l0_0 _ _ l0_1 _ _ l1 _ _ l2_0 _ _ l2_1 _ _ l2_2 t448 t451 _ ?side1 ?side2 ?side3 ?side4 ?side5 ?side6 ?side7 ?side8 ?side9 ?side10 ?side11 ?side12 A12.out).mono ?_);(case side1=>exact zz123);(case side2=>exact zz124);(case side3=>exact zz125);(case side4=>exact zz126);(case side5=>exact zz129);(case side6=>exact HC1.out);(case side7=>exact zz136);(case side8=>exact HC2_0.out);(case side9=>exact zz137);(case side10=>exact HC2_1.out);(case side11=>exact zz139);(case side12=>exact (Kd.V_reads' HO2_2.out).2.1);rintro e w21 ⟨v449,rfl,ho0,hb⟩;refine ⟨_,rfl,?_⟩;replace HO2_2:=Aside0.mk (Kd.V_below (zz103) hb);have HO450:=Aside0.mk (Kd.V_lower (Kd.V_mono (ok':=fun k_=>(P2_2_ k_∨w.heap.size≤k_)∧k_ ≠ gb445∧k_ ≠ gb446) ho0 (fun k_ hk_=>⟨(.inr (Nat.le_trans (below_size (zz107)) hk_)),(Kd.freshB (g:=gb445) (o:=.cells #[.slice A0_0 l0_0.length c0_0,.slice A0_1 l0_1.length c0_1] 24 (0,0)) (zz104) k_ hk_),(Kd.freshB (g:=gb446) (o:=.cells #[.slice A2_0 l2_0.length c2_0,.slice A2_1 l2_1.length c2_1,.slice A2_2 l2_2.length c2_2] 36 (0,0)) (zz106) k_ hk_)⟩)) (below_size (zz107)));replace BK445:=Aside0.mk (blk_below (g:=gb445) (o:=.cells #[.slice A0_0 l0_0.length c0_0,.slice A0_1 l0_1.length c0_1] 24 (0,0)) (zz104) hb);replace BK446:=Aside0.mk (blk_below (g:=gb446) (o:=.cells #[.slice A2_0 l2_0.length c2_0,.slice A2_1 l2_1.length c2_1,.slice A2_2 l2_2.length c2_2] 36 (0,0)) (zz106) hb);replace HB:=Aside0.mk (below_step (zz107) hb);(try clear hb);(try clear hb2);(try clear hk);(try clear hi);(try clear ho0);have hcz22_0:w21.cell? ⟨gb446,0,none⟩ = some (.slice A2_0 l2_0.length c2_0):=(blk_cell BK446.out 0).trans rfl;have hcz22_1:w21.cell? ⟨gb446,1,none⟩ = some (.slice A2_1 l2_1.length c2_1):=(blk_cell BK446.out 1).trans rfl;have hcz22_2:w21.cell? ⟨gb446,2,none⟩ = some (.slice A2_2 l2_2.length c2_2):=(blk_cell BK446.out 2).trans rfl;have hfz22_0:=blk_frozen BK446.out 0;have hfz22_1:=blk_frozen BK446.out 1;have hfz22_2:=blk_frozen BK446.out 2)|((with_reducible refine gate_dst (N:=11) rfl ?_);(try (refine gate_guard (zz16) ?_;dsimp only));refine box_event ?hg (N:=11) ?hd (cs:=#[.slice none 0 0,.slice none 0 0,.slice none 0 0]) (t:=36) ?hr ?_;(case hd=>rfl);(case hg=>rfl);(case hr=>exact zz122);intro gb452 hg w23 hbox hb;replace HO2_2:=Aside0.mk (Kd.V_below (Kd.V_elderB (zz103) gb452 (Nat.le_of_eq hg.symm)) hb);replace HO450:=Aside0.mk (Kd.V_below (Kd.V_elderB (by (with_reducible repeat (first|apply Kd.V_alloc|apply Kd.V_drewN|apply Kd.V_drew));exact HO450.out) gb452 (Nat.le_of_eq hg.symm)) hb);have BK452:=Aside0.mk (hbox);have GW452:=Aside0.mk ((by rw [hg];exact (below_size (zz107)):w.heap.size≤gb452));have GE452:=Aside0.mk ((by rw [hg];exact (below_size (zz107)):w.heap.size≤gb452));replace HB:=Aside0.mk (below_step (zz107) hb);have NB445_452:=Aside0.mk ((by rw [hg];exact Nat.ne_of_lt (blk_lt (g:=gb445) (o:=.cells #[.slice A0_0 l0_0.length c0_0,.slice A0_1 l0_1.length c0_1] 24 (0,0)) (zz104)):gb445 ≠ gb452));have NB452_445:=Aside0.mk ((by rw [hg];exact Nat.ne_of_gt (blk_lt (g:=gb445) (o:=.cells #[.slice A0_0 l0_0.length c0_0,.slice A0_1 l0_1.length c0_1] 24 (0,0)) (zz104)):gb452 ≠ gb445));replace BK445:=Aside0.mk (blk_below (g:=gb445) (o:=.cells #[.slice A0_0 l0_0.length c0_0,.slice A0_1 l0_1.length c0_1] 24 (0,0)) (zz104) hb);have NB446_452:=Aside0.mk ((by rw [hg];exact Nat.ne_of_lt (blk_lt (g:=gb446) (o:=.cells #[.slice A2_0 l2_0.length c2_0,.slice A2_1 l2_1.length c2_1,.slice A2_2 l2_2.length c2_2] 36 (0,0)) (zz106)):gb446 ≠ gb452));have NB452_446:=Aside0.mk ((by rw [hg];exact Nat.ne_of_gt (blk_lt (g:=gb446) (o:=.cells #[.slice A2_0 l2_0.length c2_0,.slice A2_1 l2_1.length c2_1,.slice A2_2 l2_2.length c2_2] 36 (0,0)) (zz106)):gb452 ≠ gb446));replace BK446:=Aside0.mk (blk_below (g:=gb446) (o:=.cells #[.slice A2_0 l2_0.length c2_0,.slice A2_1 l2_1.length c2_1,.slice A2_2 l2_2.length c2_2] 36 (0,0)) (zz106) hb);clear hb hbox hg;have hnb24:=NB452_445.out;have hnc24:=NB445_452.out;have hnb25:=NB452_446.out;have hnc25:=NB446_452.out;have hcz26_0:w23.cell? ⟨gb452,0,none⟩ = some (.slice none 0 0):=(blk_cell BK452.out 0).trans rfl;have hcz26_1:w23.cell? ⟨gb452,1,none⟩ = some (.slice none 0 0):=(blk_cell BK452.out 1).trans rfl;have hcz26_2:w23.cell? ⟨gb452,2,none⟩ = some (.slice none 0 0):=(blk_cell BK452.out 2).trans rfl;have hfz26_0:=blk_frozen BK452.out 0;have hfz26_1:=blk_frozen BK452.out 1;have hfz26_2:=blk_frozen BK452.out 2;have hcz27_0:w23.cell? ⟨gb446,0,none⟩ = some (.slice A2_0 l2_0.length c2_0):=(blk_cell BK446.out 0).trans rfl;have hcz27_1:w23.cell? ⟨gb446,1,none⟩ = some (.slice A2_1 l2_1.length c2_1):=(blk_cell BK446.out 1).trans rfl;have hcz27_2:w23.cell? ⟨gb446,2,none⟩ = some (.slice A2_2 l2_2.length c2_2):=(blk_cell BK446.out 2).trans rfl;have hfz27_0:=blk_frozen BK446.out 0;have hfz27_1:=blk_frozen BK446.out 1;have hfz27_2:=blk_frozen BK446.out 2))
   go_loopg [12] k (fun kq v12 w'=>∃ (x12_1:Int) (x453002_1:List (List Int)) (u453002:Value),v12 = .int .i64 x12_1∧Aside0 (examboardlaw28_CalibrateOrder.l0 kq l1 a3 t448 x12_1 l0_0 l0_1 l2_0 l2_1 l2_2 l2_0 l2_1 x453002_1 = some r)∧Aside0 (kq≤k)∧Aside0 (Kd.V (Kd.int .u32) 65 w' w.heap.size (fun k_=>(P2_2_ k_∨w.heap.size≤k_)∧some k_ ≠ (u453002:Value).ownBlock∧k_ ≠ gb445∧k_ ≠ gb446∧k_ ≠ gb452) v449 t448)∧Aside0 (Kd.V (Kd.slice 3 (Kd.int .i64)) 22 w' w.heap.size (fun k_=>(P2_2_ k_∨w.heap.size≤k_)∧some k_ ≠ (u453002:Value).ownBlock∧k_ ≠ gb445∧k_ ≠ gb446∧k_ ≠ gb452) (.slice A2_2 l2_2.length c2_2) l2_2)∧Aside0 (Kd.N (Kd.slice 3 (Kd.int .i64)) 22 w' w.heap.size (fun k_=>(P2_2_ k_∨w.heap.size≤k_)∧k_ ≠ gb445∧k_ ≠ gb446∧k_ ≠ gb452) u453002 x453002_1)∧Aside0 (w'.heap[gb445]? = some (.cells #[(.slice A0_0 l0_0.length c0_0),(.slice A0_1 l0_1.length c0_1)] 24 (0,0)))∧Aside0 (w'.heap[gb446]? = some (.cells #[(.slice A2_0 l2_0.length c2_0),(.slice A2_1 l2_1.length c2_1),(.slice A2_2 l2_2.length c2_2)] 36 (0,0)))∧Aside0 (w'.heap[gb452]? = some (.cells #[(.slice A2_0 l2_0.length c2_0),(.slice A2_1 l2_1.length c2_1),u453002] 36 (0,0)))∧Aside0 (Below w.heap.size w w'))
   case atStart=>exact ⟨(wrap64 ((l2_2.length:Int) - 1)),(([]:List (List Int))),(.slice none 0 0),(zz1),H',⟨Nat.le_refl _⟩,⟨by (with_reducible repeat (first|apply Kd.V_alloc|apply Kd.V_drewN|apply Kd.V_drew));exact Kd.V_mono (Kd.V_far (p:=⟨gb452,2,none⟩) (Kd.V_far (p:=⟨gb452,1,none⟩) (Kd.V_far (p:=⟨gb452,0,none⟩) (Kd.V_mono HO450.out (fun k_ hk=>(⟨hk,hk.2⟩:_∧k_ ≠ gb452))) (fun _ hk=>hk.2) (.slice A2_0 l2_0.length c2_0)) (fun _ hk=>hk.2) (.slice A2_1 l2_1.length c2_1)) (fun _ hk=>hk.2) (.slice none 0 0)) (fun _ hk=>⟨hk.1.1.1,⟨(by simp [Value.ownBlock]),⟨hk.1.1.2.1,⟨hk.1.1.2.2,hk.1.2⟩⟩⟩⟩)⟩,⟨by (with_reducible repeat (first|apply Kd.V_alloc|apply Kd.V_drewN|apply Kd.V_drew));exact Kd.V_mono (Kd.V_far (p:=⟨gb452,2,none⟩) (Kd.V_far (p:=⟨gb452,1,none⟩) (Kd.V_far (p:=⟨gb452,0,none⟩) (Kd.V_mono HO2_2.out (fun k_ hk=>(⟨hk,hk.2⟩:_∧k_ ≠ gb452))) (fun _ hk=>hk.2) (.slice A2_0 l2_0.length c2_0)) (fun _ hk=>hk.2) (.slice A2_1 l2_1.length c2_1)) (fun _ hk=>hk.2) (.slice none 0 0)) (fun _ hk=>⟨hk.1.1.1.1,⟨(by simp [Value.ownBlock]),⟨hk.1.1.1.2,⟨hk.1.1.2,hk.1.2⟩⟩⟩⟩)⟩,⟨zz27⟩,⟨by (with_reducible repeat (first|refine blk_drewN ?_ _|refine blk_drew ?_|refine blk_alloc ?_ _));refine blk_far ?_ NB445_452.out _;(with_reducible repeat (first|refine blk_drewN ?_ _|refine blk_drew ?_|refine blk_alloc ?_ _));refine blk_far ?_ NB445_452.out _;(with_reducible repeat (first|refine blk_drewN ?_ _|refine blk_drew ?_|refine blk_alloc ?_ _));refine blk_far ?_ NB445_452.out _;(with_reducible repeat (first|refine blk_drewN ?_ _|refine blk_drew ?_|refine blk_alloc ?_ _));exact BK445.out⟩,⟨by (with_reducible repeat (first|refine blk_drewN ?_ _|refine blk_drew ?_|refine blk_alloc ?_ _));refine blk_far ?_ NB446_452.out _;(with_reducible repeat (first|refine blk_drewN ?_ _|refine blk_drew ?_|refine blk_alloc ?_ _));refine blk_far ?_ NB446_452.out _;(with_reducible repeat (first|refine blk_drewN ?_ _|refine blk_drew ?_|refine blk_alloc ?_ _));refine blk_far ?_ NB446_452.out _;(with_reducible repeat (first|refine blk_drewN ?_ _|refine blk_drew ?_|refine blk_alloc ?_ _));exact BK446.out⟩,⟨by (with_reducible repeat (first|refine blk_drewN ?_ _|refine blk_drew ?_|refine blk_alloc ?_ _));refine blk_put (cs:=#[.slice A2_0 l2_0.length c2_0,.slice A2_1 l2_1.length c2_1,.slice none 0 0]) ?_ 2 _ rfl;(with_reducible repeat (first|refine blk_drewN ?_ _|refine blk_drew ?_|refine blk_alloc ?_ _));refine blk_put (cs:=#[.slice A2_0 l2_0.length c2_0,.slice none 0 0,.slice none 0 0]) ?_ 1 _ rfl;(with_reducible repeat (first|refine blk_drewN ?_ _|refine blk_drew ?_|refine blk_alloc ?_ _));refine blk_put (cs:=#[.slice none 0 0,.slice none 0 0,.slice none 0 0]) ?_ 0 _ rfl;(with_reducible repeat (first|refine blk_drewN ?_ _|refine blk_drew ?_|refine blk_alloc ?_ _));exact BK452.out⟩,⟨zz108⟩⟩
   case round =>
    clear H'
    (try clear c1);(try clear c2);(try clear p2);(try clear c5);(try clear c6);(try clear p6);(try clear c9);(try clear c13);(try clear c13b0);(try clear c13b1);(try clear c14);(try clear c16);(try clear c24);(try clear c25);(try clear hcz10_0);(try clear hcz10_1);(try clear hcz10_2);(try clear hcz17_0);(try clear hcz17_1);(try clear hcz17_2);(try clear hcz19_0);(try clear hcz19_1);(try clear hcz20_0);(try clear hcz20_1);(try clear hcz20_2);(try clear hcz22_0);(try clear hcz22_1);(try clear hcz22_2);(try clear hcz26_0);(try clear hcz26_1);(try clear hcz26_2);(try clear hcz27_0);(try clear hcz27_1);(try clear hcz27_2);(try clear hfz10_0);(try clear hfz10_1);(try clear hfz10_2);(try clear hfz17_0);(try clear hfz17_1);(try clear hfz17_2);(try clear hfz19_0);(try clear hfz19_1);(try clear hfz20_0);(try clear hfz20_1);(try clear hfz20_2);(try clear hfz22_0);(try clear hfz22_1);(try clear hfz22_2);(try clear hfz26_0);(try clear hfz26_1);(try clear hfz26_2);(try clear hfz27_0);(try clear hfz27_1);(try clear hfz27_2)
    obtain ⟨x12_1,x453002_1,u453002,rfl,HA,HK1,HO_9,HO_447002,HO_453002,BK445,BK446,BK452,HB⟩:=hrel
    cases gk with
    | zero=>exact absurd HA.out (by simp [examboardlaw28_CalibrateOrder.l0])
    | succ k1 =>
     have H:=HA.out
     clear HA
     simp only [examboardlaw28_CalibrateOrder.l0] at H
     by_cases c28:x12_1≥0
     ·rw [if_pos c28] at H
      have c28b0:decide (0≤x12_1) = true:=decide_eq_true c28
      clear c28
      by_cases c29:0≤x12_1
      ·rw [if_pos c29] at H
       have c29b0:decide (0≤x12_1) = true:=decide_eq_true c29
       clear c29
       by_cases c30:x12_1 < (l2_2.length:Int)
       ·rw [if_pos c30] at H
        have c30b0:decide (x12_1 < (l2_2.length:Int)) = true:=decide_eq_true c30
        clear c30
        by_cases c31:x453002_1.length < 5864062014805
        ·rw [if_pos c31] at H
         have LMc31:=Aside0.mk c31
         clear c31
         obtain ⟨y454,hy454⟩:∃ y_:List (List Int),y_ = (x453002_1++[rd_L1 l2_2 x12_1]):=⟨_,rfl⟩
         replace H:(examboardlaw28_CalibrateOrder.l0 k1 l1 a3 t448 (wrap64 (x12_1 - 1)) l0_0 l0_1 l2_0 l2_1 l2_2 l2_0 l2_1 y454) = some r:=by first|(rw [hy454];with_reducible exact H)|(have H2_:=(Option.bind_some _ _).symm.trans H;rw [hy454];with_reducible exact H2_)|(have H2_:=(Option.bind_some _ _).symm.trans H;with_reducible exact H2_)|with_reducible exact H|(rw [hy454];exact H)|exact H
         have Ny454:=Aside0.mk hy454
         clear hy454
         have H':=Aside0.mk H
         clear H
         try go_wp2
         have n0_:=Aside0.mk (Kd.V_drew HO_9.out)
         have n1_:=Aside0.mk (Kd.V_drew HO_447002.out)
         have n2_:=Aside0.mk (Kd.N_drew HO_453002.out)
         have n3_:=Aside0.mk (blk_drew BK445.out)
         have n4_:=Aside0.mk (blk_drew BK446.out)
         have n5_:=Aside0.mk (blk_drew BK452.out)
         have n6_:=Aside0.mk (below_drew1 HB.out)
         clear HO_9;clear HO_447002;clear HO_453002;clear BK445;clear BK446;clear BK452;clear HB
         have HO_9:=n0_
         have HO_447002:=n1_
         have HO_453002:=n2_
         have BK445:=n3_
         have BK446:=n4_
         have BK452:=n5_
         have HB:=n6_
         clear n0_ n1_ n2_ n3_ n4_ n5_ n6_
         have p453:0≤(x12_1:Int):=of_decide_eq_true (zz10)
         have q453:x12_1 < (l2_2.length:Int):=of_decide_eq_true (zz10)
         obtain ⟨ad453,A453_0,c453_0,e453,hx453_0,hl453_0,hi453_0⟩:=at_L1 (Kd.V_reads' HO_447002.out).2.2 x12_1 p453 q453
         cases e453
         obtain ⟨ce453,hce453,hMe453,hcc453⟩:=Kd.V_get HO_447002.out [] x12_1 p453 (by first|exact q453|exact of_decide_eq_true (zz10)|(have e_:=(Kd.V_reads' HO_447002.out).1;omega))
         obtain ⟨ua453_0,uc453_0,rfl,ul453_0,ge453_0⟩:=Kd.FK_slice_open hMe453
         have hv453_0:=hcc453 0 _ rfl
         rw [Nat.add_zero,show ((Kd.slice 3 (Kd.int .i64))).sz = 1 from rfl,Nat.mul_one] at hv453_0
         replace hv453_0:=Option.some.inj (hv453_0.symm.trans hx453_0)
         injection hv453_0 with hva_ hvn_ hvc_
         rw [hva_] at ge453_0
         rw [hvc_] at ul453_0
         have HL453_0:=Aside0.mk (show Kd.V (Kd.int .i64) 3 _ w.heap.size _ _ (rd_L1 l2_2 x12_1) from Kd.V_mk ul453_0 ge453_0)
         clear hva_ hvn_ hvc_ ge453_0 ul453_0;clear hcc453 hce453
         have HR453_0:=Aside0.mk hi453_0
         have HC453_0:=Aside0.mk hl453_0
         clear hi453_0 hl453_0
         replace p453:=eq_true p453
         replace q453:=eq_true q453
         refine start_ (n:=11) (S:=fun w'=>w'.cell? ⟨gb452,0,none⟩ = some (.slice A2_0 l2_0.length c2_0)∧w'.cell? ⟨gb452,1,none⟩ = some (.slice A2_1 l2_1.length c2_1)∧w'.cell? ⟨gb452,2,none⟩ = some (u453002)∧w'.cell? ⟨gb446,0,none⟩ = some (.slice A2_0 l2_0.length c2_0)∧w'.cell? ⟨gb446,1,none⟩ = some (.slice A2_1 l2_1.length c2_1)∧w'.cell? ⟨gb446,2,none⟩ = some (.slice (some ad453) l2_2.length c2_2)∧w'.cell? (ad453.add (x12_1).toNat) = some (.slice A453_0 (rd_L1 l2_2 x12_1).length c453_0)) (ds:=[8,10]) #[false,false,false,false,false,false,false,false,false,false,false] (zz0) rfl rfl ⟨(blk_cell BK452.out 0).trans rfl,(blk_cell BK452.out 1).trans rfl,(blk_cell BK452.out 2).trans rfl,(blk_cell BK446.out 0).trans rfl,(blk_cell BK446.out 1).trans rfl,(blk_cell BK446.out 2).trans rfl,hx453_0⟩ (fun hHeld=>?_);refine with_tabW examboardlaw28_CalibrateOrder.tab10 examboardlaw28_CalibrateOrder.bits10 (fun HT_ HW_=>?_)
         generalize wr.drew = w32 at HO_9 HO_447002 HO_453002 BK445 BK446 BK452 HB HL453_0 HR453_0 hx453_0 hHeld ⊢
         refine pure_ (i:=0) (N:=some 48) (v:=?_) (a':=?_) #[true,false,false,false,false,false,false,false,false,false,false] rfl rfl (any_of HT_.out (zz0)) (fun _ _ _ h=>h) (Or.inl ⟨zz16,?_⟩) ?_ ?_
         rotate_left
         ·intro w'
          go_simp
          with_reducible rfl
         rotate_left
         ·simp only [Act.put,List.setIfInBounds_toArray,List.set_cons_zero,List.set_cons_succ,i64_w,i32_w]
          rfl
         refine pure_ (i:=2) (N:=some 50) (v:=?_) (a':=?_) #[true,false,true,false,false,false,false,false,false,false,false] rfl rfl (any_of HT_.out (zz0)) (fun _ _ _ h=>h) (Or.inl ⟨zz16,?_⟩) ?_ ?_
         rotate_left
         ·intro w'
          go_simp
          with_reducible rfl
         rotate_left
         ·simp only [Act.put,List.setIfInBounds_toArray,List.set_cons_zero,List.set_cons_succ,i64_w,i32_w]
          rfl
         refine pure_ (i:=4) (N:=some 52) (v:=?_) (a':=?_) #[true,false,true,false,true,false,false,false,false,false,false] rfl rfl (any_of HT_.out (zz0)) (fun _ _ _ h=>h) (Or.inl ⟨zz16,?_⟩) ?_ ?_
         rotate_left
         ·intro w'
          go_simp
          with_reducible rfl
         rotate_left
         ·simp only [Act.put,List.setIfInBounds_toArray,List.set_cons_zero,List.set_cons_succ,i64_w,i32_w]
          rfl
         refine take_ (i:=1) (N:=some 49) (v:=?_) (a':=?_) #[true,true,true,false,true,false,false,false,false,false,false] rfl rfl (take_ofW HT_.out HW_.out (zz0)) (fun _ _ _ h=>h) (Or.inl ⟨zz16,?_⟩) hHeld ?_ ?_
         rotate_left
         ·rintro w' ⟨s0,s1,s2,s3,s4,s5,s6⟩
          go_simp
          with_reducible rfl
         rotate_left
         ·simp only [Act.put,List.setIfInBounds_toArray,List.set_cons_zero,List.set_cons_succ,i64_w,i32_w]
          rfl
         refine take_ (i:=3) (N:=some 51) (v:=?_) (a':=?_) #[true,true,true,true,true,false,false,false,false,false,false] rfl rfl (take_ofW HT_.out HW_.out (zz0)) (fun _ _ _ h=>h) (Or.inl ⟨zz16,?_⟩) hHeld ?_ ?_
         rotate_left
         ·rintro w' ⟨s0,s1,s2,s3,s4,s5,s6⟩
          go_simp
          with_reducible rfl
         rotate_left
         ·simp only [Act.put,List.setIfInBounds_toArray,List.set_cons_zero,List.set_cons_succ,i64_w,i32_w]
          rfl
         refine pure_ (i:=5) (N:=some 53) (v:=?_) (a':=?_) #[true,true,true,true,true,true,false,false,false,false,false] rfl rfl (any_of HT_.out (zz0)) (fun _ _ _ h=>h) (Or.inl ⟨zz16,?_⟩) ?_ ?_
         rotate_left
         ·intro w'
          go_simp
          with_reducible rfl
         rotate_left
         ·simp only [Act.put,List.setIfInBounds_toArray,List.set_cons_zero,List.set_cons_succ,i64_w,i32_w]
          rfl
         refine take_ (i:=6) (N:=some 54) (v:=?_) (a':=?_) #[true,true,true,true,true,true,true,false,false,false,false] rfl rfl (take_ofW HT_.out HW_.out (zz0)) (fun _ _ _ h=>h) (Or.inl ⟨zz16,?_⟩) hHeld ?_ ?_
         rotate_left
         ·rintro w' ⟨s0,s1,s2,s3,s4,s5,s6⟩
          go_simp
          with_reducible rfl
         rotate_left
         ·simp only [Act.put,List.setIfInBounds_toArray,List.set_cons_zero,List.set_cons_succ,i64_w,i32_w]
          rfl
         refine one_ (i:=7) (N:=some 55) #[true,true,true,true,true,true,true,true,false,false,false] rfl rfl (one_of HT_.out (zz0)) (zz29) (fun K hK=>?_)
         refine value_ (w1:=?_) (v:=?_) (zz16) rfl ?_ ?_
         rotate_left 2
         ·go_simp
          constructor
          ·rfl
          ·rfl
         refine hK.out _ _ ⟨(blk_cell (blk_alloc BK452.out _) 0).trans rfl,(blk_cell (blk_alloc BK452.out _) 1).trans rfl,(blk_cell (blk_alloc BK452.out _) 2).trans rfl,(blk_cell (blk_alloc BK446.out _) 0).trans rfl,(blk_cell (blk_alloc BK446.out _) 1).trans rfl,(blk_cell (blk_alloc BK446.out _) 2).trans rfl,(World.cell?_alloc_lt _ _ _ (World.block_lt_of_cell? _ _ (hHeld.2.2.2.2.2.2))).trans (hHeld.2.2.2.2.2.2)⟩ (fun hHeld=>?_)
         clear hK K
         refine norm_ (a':=?_) ?_ ?_
         rotate_left
         ·show Act.put _ (some 55) _ = _
          simp only [Act.put,List.setIfInBounds_toArray,List.set_cons_zero,List.set_cons_succ,i64_w,i32_w]
          rfl
         refine last_ (i:=8) (N:=some 56) #[true,true,true,true,true,true,true,true,true,false,false] rfl rfl (one_of HT_.out (zz0)) (zz29) (fun K hK=>?_)
         refine Kd.N_append_step (Kd.slice 3 (Kd.int .i64)) (w0:=w) w.heap.size (zz16) (.tmp 49) (.tmp 55) 34 22 (.slice none 0 0) 24 rfl Try.underlying34 info22 rfl (zz29) (zz3) u453002 x453002_1 (rd_L1 l2_2 x12_1) [.slice A453_0 (rd_L1 l2_2 x12_1).length c453_0] (fun k_=>(P2_2_ k_∨w.heap.size≤k_)∧k_ ≠ gb445∧k_ ≠ gb446∧k_ ≠ gb452) (fun k_=>((fun k_=>(P2_2_ k_∨w.heap.size≤k_)∧k_ ≠ gb445∧k_ ≠ gb446∧k_ ≠ gb452)) k_∧some k_ ≠ (u453002:Value).ownBlock) rfl rfl ?aP (fun _ hk=>hk) ?aF ?aO ?aB ?aS ?aL ?_
         (case aP=>exact (Kd.FK_slice_mk (Kd.V_reads' (Kd.V_mono (ok':=(fun k_=>((fun k_=>(P2_2_ k_∨w.heap.size≤k_)∧k_ ≠ gb445∧k_ ≠ gb446∧k_ ≠ gb452)) k_∧some k_ ≠ (u453002:Value).ownBlock)) (HL453_0.out) (fun k_ hk=>⟨⟨hk.1,⟨hk.2.2.1,⟨hk.2.2.2.1,hk.2.2.2.2⟩⟩⟩,hk.2.1⟩))).2.1 (Kd.V_F (Kd.V_mono (ok':=(fun k_=>((fun k_=>(P2_2_ k_∨w.heap.size≤k_)∧k_ ≠ gb445∧k_ ≠ gb446∧k_ ≠ gb452)) k_∧some k_ ≠ (u453002:Value).ownBlock)) (HL453_0.out) (fun k_ hk=>⟨⟨hk.1,⟨hk.2.2.1,⟨hk.2.2.2.1,hk.2.2.2.2⟩⟩⟩,hk.2.1⟩)))))
         (case aB=>exact (zz108))
         (case aF=>exact (fun k_ hk=>⟨(.inr (Nat.le_trans (below_size (zz108)) hk)),Kd.freshB (g:=gb445) (o:=.cells #[.slice A0_0 l0_0.length c0_0,.slice A0_1 l0_1.length c0_1] 24 (0,0)) (zz104) k_ hk,Kd.freshB (g:=gb446) (o:=.cells #[.slice A2_0 l2_0.length c2_0,.slice A2_1 l2_1.length c2_1,.slice (some ad453) l2_2.length c2_2] 36 (0,0)) (zz106) k_ hk,Kd.freshB (g:=gb452) (o:=.cells #[.slice A2_0 l2_0.length c2_0,.slice A2_1 l2_1.length c2_1,u453002] 36 (0,0)) (zz109) k_ hk⟩))
         (case aO=>exact (zz110))
         (case aS=>exact (below_size (zz108)))
         (case aL=>have:=LMc31.out;omega)
         intro v455 w33 ho hb hg hat
         rw [← Ny454.out] at ho
         have n0_:=Aside0.mk (Kd.V_afterv (ok:=(fun k_=>(P2_2_ k_∨w.heap.size≤k_)∧k_ ≠ gb445∧k_ ≠ gb446∧k_ ≠ gb452)) (by (with_reducible repeat (first|apply Kd.V_alloc|apply Kd.V_drewN|apply Kd.V_drew));exact Kd.V_mono HO_9.out (fun _ hk=>⟨⟨hk.1,⟨hk.2.2.1,⟨hk.2.2.2.1,hk.2.2.2.2⟩⟩⟩,hk.2.1⟩)) hg hat)
         have n1_:=Aside0.mk (Kd.V_afterv (ok:=(fun k_=>(P2_2_ k_∨w.heap.size≤k_)∧k_ ≠ gb445∧k_ ≠ gb446∧k_ ≠ gb452)) (by (with_reducible repeat (first|apply Kd.V_alloc|apply Kd.V_drewN|apply Kd.V_drew));exact Kd.V_mono HO_447002.out (fun _ hk=>⟨⟨hk.1,⟨hk.2.2.1,⟨hk.2.2.2.1,hk.2.2.2.2⟩⟩⟩,hk.2.1⟩)) hg hat)
         have n2_:=Aside0.mk (blk_grown (g:=gb445) (o:=.cells #[.slice A0_0 l0_0.length c0_0,.slice A0_1 l0_1.length c0_1] 24 (0,0)) (zz104) hg (Kd.N_ne HO_453002.out BK445.out (zz29)))
         have n3_:=Aside0.mk (blk_grown (g:=gb446) (o:=.cells #[.slice A2_0 l2_0.length c2_0,.slice A2_1 l2_1.length c2_1,.slice (some ad453) l2_2.length c2_2] 36 (0,0)) (zz106) hg (Kd.N_ne HO_453002.out BK446.out (zz29)))
         have n4_:=Aside0.mk (blk_grown (g:=gb452) (o:=.cells #[.slice A2_0 l2_0.length c2_0,.slice A2_1 l2_1.length c2_1,u453002] 36 (0,0)) (zz109) hg (Kd.N_ne HO_453002.out BK452.out (zz29)))
         have n5_:=Aside0.mk (Kd.V_afterv (ok:=(fun k_=>(P2_2_ k_∨w.heap.size≤k_)∧k_ ≠ gb445∧k_ ≠ gb446∧k_ ≠ gb452)) (by (with_reducible repeat (first|apply Kd.V_alloc|apply Kd.V_drewN|apply Kd.V_drew));exact Kd.V_mono HL453_0.out (fun _ hk=>⟨⟨hk.1,⟨hk.2.2.1,⟨hk.2.2.2.1,hk.2.2.2.2⟩⟩⟩,hk.2.1⟩)) hg hat)
         have n6_:=Aside0.mk (hb)
         have n7_:=Aside0.mk (ho)
         clear HO_9;clear HO_447002;clear BK445;clear BK446;clear BK452;clear HL453_0;clear HB;clear HO_453002
         have HO_9:=n0_
         have HO_447002:=n1_
         have BK445:=n2_
         have BK446:=n3_
         have BK452:=n4_
         have HL453_0:=n5_
         have HB:=n6_
         have HO456:=n7_
         clear n0_ n1_ n2_ n3_ n4_ n5_ n6_ n7_;clear ho hb hg hat
         obtain ⟨Ao34,co34,eo34⟩:=Kd.N_slice HO456.out
         (first|subst eo34|(injection eo34 with f1_ f2_ f3_;have f4_:=f1_.symm;have f5_:=f3_.symm;clear f1_ f2_ f3_;subst f4_;subst f5_))
         refine hK.out _ _ ?_
         clear hK K
         refine norm_ (a':=?_) ?_ ?_
         rotate_left
         ·show Act.put _ (some 56) _ = _
          simp only [Act.put,List.setIfInBounds_toArray,List.set_cons_zero,List.set_cons_succ,i64_w,i32_w]
          rfl
         refine pure_ (i:=9) (N:=some 57) (v:=?_) (a':=?_) #[true,true,true,true,true,true,true,true,true,true,false] rfl rfl (any_of HT_.out (zz0)) (fun _ _ _ h=>h) (Or.inl ⟨zz16,?_⟩) ?_ ?_
         rotate_left
         ·intro w'
          go_simp
          with_reducible rfl
         rotate_left
         ·simp only [Act.put,List.setIfInBounds_toArray,List.set_cons_zero,List.set_cons_succ,i64_w,i32_w]
          rfl
         refine last_ (i:=10) (N:=none) #[true,true,true,true,true,true,true,true,true,true,true] rfl rfl (one_of HT_.out (zz0)) (zz29) (fun K hK=>?_)
         have hs35:w33.cell? ⟨gb452,2,none⟩ = some (u453002):=(blk_cell BK452.out 2).trans rfl
         have hfs35:=blk_frozen BK452.out 2
         have hns35_0:=NB445_452.out
         have hns35_1:=NB446_452.out
         have hms35_0:=NB452_445.out
         have hms35_1:=NB452_446.out
         refine skip_ (w1:=?_) (zz16) rfl ?_ ?_
         rotate_left
         ·go_simp
          rfl
         refine hK.out _ _ ?_
         clear hK K
         refine done_ (done_of HT_.out (zz0)) ?_
         try go_wp2
         go_roundg k1
         case measure=>have:=HK1.out;omega
         case rel=>exact ⟨(wrap64 (x12_1 - 1)),(y454),(.slice Ao34 y454.length co34),(zz1),H',⟨zz11⟩,⟨by (with_reducible repeat (first|apply Kd.V_alloc|apply Kd.V_drewN|apply Kd.V_drew));exact Kd.V_mono (Kd.V_far (p:=⟨gb452,2,none⟩) (Kd.V_mono HO_9.out (fun k_ hk=>(⟨hk,hk.1.2.2.2⟩:_∧k_ ≠ gb452))) (fun _ hk=>hk.2) (.slice Ao34 y454.length co34)) (fun _ hk=>⟨hk.1.1.1,⟨hk.1.2,⟨hk.1.1.2.1,⟨hk.1.1.2.2.1,hk.1.1.2.2.2⟩⟩⟩⟩)⟩,⟨by (with_reducible repeat (first|apply Kd.V_alloc|apply Kd.V_drewN|apply Kd.V_drew));exact Kd.V_mono (Kd.V_far (p:=⟨gb452,2,none⟩) (Kd.V_mono HO_447002.out (fun k_ hk=>(⟨hk,hk.1.2.2.2⟩:_∧k_ ≠ gb452))) (fun _ hk=>hk.2) (.slice Ao34 y454.length co34)) (fun _ hk=>⟨hk.1.1.1,⟨hk.1.2,⟨hk.1.1.2.1,⟨hk.1.1.2.2.1,hk.1.1.2.2.2⟩⟩⟩⟩)⟩,⟨by (with_reducible repeat (first|apply Kd.N_alloc|apply Kd.N_drewN|apply Kd.N_drew));exact Kd.N_mono (Kd.N_far (p:=⟨gb452,2,none⟩) (Kd.N_mono HO456.out (fun k_ hk=>(⟨hk,hk.2.2.2⟩:_∧k_ ≠ gb452))) (fun _ hk=>hk.2) (.slice Ao34 y454.length co34)) (fun _ hk=>⟨hk.1.1,⟨hk.1.2.1,⟨hk.1.2.2.1,hk.1.2.2.2⟩⟩⟩)⟩,⟨by (with_reducible repeat (first|refine blk_drewN ?_ _|refine blk_drew ?_|refine blk_alloc ?_ _));refine blk_far ?_ NB445_452.out _;(with_reducible repeat (first|refine blk_drewN ?_ _|refine blk_drew ?_|refine blk_alloc ?_ _));exact BK445.out⟩,⟨by (with_reducible repeat (first|refine blk_drewN ?_ _|refine blk_drew ?_|refine blk_alloc ?_ _));refine blk_far ?_ NB446_452.out _;(with_reducible repeat (first|refine blk_drewN ?_ _|refine blk_drew ?_|refine blk_alloc ?_ _));exact BK446.out⟩,⟨by (with_reducible repeat (first|refine blk_drewN ?_ _|refine blk_drew ?_|refine blk_alloc ?_ _));refine blk_put (cs:=#[.slice A2_0 l2_0.length c2_0,.slice A2_1 l2_1.length c2_1,u453002]) ?_ 2 _ rfl;(with_reducible repeat (first|refine blk_drewN ?_ _|refine blk_drew ?_|refine blk_alloc ?_ _));exact BK452.out⟩,⟨zz108⟩⟩
        ·rw [if_neg c31] at H
         exact absurd H (zz13)
       ·rw [if_neg c30] at H
        exact absurd H (zz13)
      ·rw [if_neg c29] at H
       exact absurd H (zz13)
     ·rw [if_neg c28] at H
      have c28b0:decide (0≤x12_1) = false:=decide_eq_false c28
      clear c28
      replace H:=Option.bind_eq_some_iff.mp H
      obtain ⟨⟨t457,t460⟩,A360,H⟩:=H
      replace H:(if t460 = 0 then ((nat_Bits.f k1 t448).bind fun t461=>(if t461 = 0 then (examboardlaw28_CalibrateOrder.j1 k1 l1 a3 t448 t460 t457 true l0_0 l0_1 l2_0 l2_1 l2_2) else ((examboardlaw28_limbs.f k1 t448 t457).bind fun t462=>(if t462 = true then (if a3 < 0 then (examboardlaw28_CalibrateOrder.j1 k1 l1 a3 t448 t460 t457 true l0_0 l0_1 l2_0 l2_1 l2_2) else (examboardlaw28_CalibrateOrder.j1 k1 l1 a3 t448 t460 t457 (decide (a3≥(l1.length:Int))) l0_0 l0_1 l2_0 l2_1 l2_2)) else (examboardlaw28_CalibrateOrder.j1 k1 l1 a3 t448 t460 t457 true l0_0 l0_1 l2_0 l2_1 l2_2))))) else (examboardlaw28_CalibrateOrder.j1 k1 l1 a3 t448 t460 t457 true l0_0 l0_1 l2_0 l2_1 l2_2)) = some r:=H
      have A36:=Aside0.mk A360
      clear A360
      have HC37:=Aside0.mk H
      clear H
      have hnb38:=NB445_446.out
      have hnc38:=NB446_445.out
      have hnb39:=NB445_452.out
      have hnc39:=NB452_445.out
      have hcz40_0:wr.cell? ⟨gb445,0,none⟩ = some (.slice A0_0 l0_0.length c0_0):=(blk_cell BK445.out 0).trans rfl
      have hcz40_1:wr.cell? ⟨gb445,1,none⟩ = some (.slice A0_1 l0_1.length c0_1):=(blk_cell BK445.out 1).trans rfl
      have hfz40_0:=blk_frozen BK445.out 0
      have hfz40_1:=blk_frozen BK445.out 1
      have hnb41:=NB452_446.out
      have hnc41:=NB446_452.out
      have hcz42_0:wr.cell? ⟨gb452,0,none⟩ = some (.slice A2_0 l2_0.length c2_0):=(blk_cell BK452.out 0).trans rfl
      have hcz42_1:wr.cell? ⟨gb452,1,none⟩ = some (.slice A2_1 l2_1.length c2_1):=(blk_cell BK452.out 1).trans rfl
      have hcz42_2:wr.cell? ⟨gb452,2,none⟩ = some (u453002):=(blk_cell BK452.out 2).trans rfl
      have hfz42_0:=blk_frozen BK452.out 0
      have hfz42_1:=blk_frozen BK452.out 1
      have hfz42_2:=blk_frozen BK452.out 2
      obtain ⟨Ao43,co43,eo43⟩:=Kd.N_slice HO_453002.out
      subst eo43
      go_upto_region 12 with (first|((with_reducible refine gate_callee (f:=14) rfl ?_);refine goesL_ (some 62) rfl rfl Try.func14 (zz0) rfl #[.agg #[.slice A0_0 l0_0.length c0_0,.slice A0_1 l0_1.length c0_1],.slice A1 l1.length c1,.agg #[.slice A2_0 l2_0.length c2_0,.slice A2_1 l2_1.length c2_1,.slice Ao43 x453002_1.length co43]] rfl (zz15) ?_;(with_reducible refine (calibrate_Total.calls k1 _ _ l0_0 _ _ l0_1 _ _ l1 _ _ l2_0 _ _ l2_1 _ _ x453002_1 t457 t460 _ ?side1 ?side2 ?side3 ?side4 ?side5 ?side6 ?side7 ?side8 ?side9 ?side10 ?side11 ?side12 A36.out).mono ?_);(case side1=>exact zz123);(case side2=>exact zz124);(case side3=>exact zz125);(case side4=>exact zz126);(case side5=>exact zz129);(case side6=>exact HC1.out);(case side7=>exact zz136);(case side8=>exact HC2_0.out);(case side9=>exact zz137);(case side10=>exact HC2_1.out);(case side11=>repeat (first|exact (Kd.N_reads' HO_453002.out).2.2|(with_reducible refine Kd.C_alloc ?_ _)|(with_reducible refine Kd.C_drewN ?_ _)|(with_reducible refine Kd.C_drew ?_)));(case side12=>exact (Kd.N_reads' HO_453002.out).2.1);rintro e w44 ⟨v458,rfl,ho0,hb⟩;refine ⟨_,rfl,?_⟩;replace HO_9:=Aside0.mk (Kd.V_below (zz111) hb);replace HO_447002:=Aside0.mk (Kd.V_below (zz112) hb);have HO459:=Aside0.mk (Kd.V_lower (Kd.V_mono (ok':=fun k_=>(P2_2_ k_∨w.heap.size≤k_)∧some k_ ≠ (.slice Ao43 x453002_1.length co43:Value).ownBlock∧k_ ≠ gb445∧k_ ≠ gb446∧k_ ≠ gb452) ho0 (fun k_ hk_=>⟨(.inr (Nat.le_trans (below_size (zz108)) hk_)),(Kd.fresh' (Kd.N_lt (zz110)) k_ hk_),(Kd.freshB (g:=gb445) (o:=.cells #[.slice A0_0 l0_0.length c0_0,.slice A0_1 l0_1.length c0_1] 24 (0,0)) (zz104) k_ hk_),(Kd.freshB (g:=gb446) (o:=.cells #[.slice A2_0 l2_0.length c2_0,.slice A2_1 l2_1.length c2_1,.slice A2_2 l2_2.length c2_2] 36 (0,0)) (zz106) k_ hk_),(Kd.freshB (g:=gb452) (o:=.cells #[.slice A2_0 l2_0.length c2_0,.slice A2_1 l2_1.length c2_1,.slice Ao43 x453002_1.length co43] 36 (0,0)) (zz109) k_ hk_)⟩)) (below_size (zz108)));replace HO_453002:=Aside0.mk (Kd.N_below (zz110) hb);replace BK445:=Aside0.mk (blk_below (g:=gb445) (o:=.cells #[.slice A0_0 l0_0.length c0_0,.slice A0_1 l0_1.length c0_1] 24 (0,0)) (zz104) hb);replace BK446:=Aside0.mk (blk_below (g:=gb446) (o:=.cells #[.slice A2_0 l2_0.length c2_0,.slice A2_1 l2_1.length c2_1,.slice A2_2 l2_2.length c2_2] 36 (0,0)) (zz106) hb);replace BK452:=Aside0.mk (blk_below (g:=gb452) (o:=.cells #[.slice A2_0 l2_0.length c2_0,.slice A2_1 l2_1.length c2_1,.slice Ao43 x453002_1.length co43] 36 (0,0)) (zz109) hb);replace HB:=Aside0.mk (below_step (zz108) hb);(try clear hb);(try clear hb2);(try clear hk);(try clear hi);(try clear ho0)))
      (try simp only [Act.put,List.setIfInBounds_toArray,List.set_cons_zero,List.set_cons_succ])
      go_cut [87] (fun v87 wc=>∃ (kq:Nat) (x87_36:Bool),v87 = .bool x87_36∧Aside0 (examboardlaw28_CalibrateOrder.j1 kq l1 a3 t448 t460 t457 x87_36 l0_0 l0_1 l2_0 l2_1 l2_2 = some r)∧Aside0 (kq≤k1)∧Aside0 (Kd.V (Kd.int .u32) 65 wc w.heap.size (fun k_=>(P2_2_ k_∨w.heap.size≤k_)∧some k_ ≠ ((.slice Ao43 x453002_1.length co43):Value).ownBlock∧k_ ≠ gb445∧k_ ≠ gb446∧k_ ≠ gb452) v449 t448)∧Aside0 (Kd.V (Kd.int .u32) 65 wc w.heap.size (fun k_=>(P2_2_ k_∨w.heap.size≤k_)∧some k_ ≠ ((.slice Ao43 x453002_1.length co43):Value).ownBlock∧k_ ≠ gb445∧k_ ≠ gb446∧k_ ≠ gb452) v458 t457)∧Aside0 (Kd.V (Kd.slice 3 (Kd.int .i64)) 22 wc w.heap.size (fun k_=>(P2_2_ k_∨w.heap.size≤k_)∧some k_ ≠ ((.slice Ao43 x453002_1.length co43):Value).ownBlock∧k_ ≠ gb445∧k_ ≠ gb446∧k_ ≠ gb452) (.slice A2_2 l2_2.length c2_2) l2_2)∧Aside0 (Kd.N (Kd.slice 3 (Kd.int .i64)) 22 wc w.heap.size (fun k_=>(P2_2_ k_∨w.heap.size≤k_)∧k_ ≠ gb445∧k_ ≠ gb446∧k_ ≠ gb452) (.slice Ao43 x453002_1.length co43) x453002_1)∧Aside0 (wc.heap[gb445]? = some (.cells #[(.slice A0_0 l0_0.length c0_0),(.slice A0_1 l0_1.length c0_1)] 24 (0,0)))∧Aside0 (wc.heap[gb446]? = some (.cells #[(.slice A2_0 l2_0.length c2_0),(.slice A2_1 l2_1.length c2_1),(.slice A2_2 l2_2.length c2_2)] 36 (0,0)))∧Aside0 (wc.heap[gb452]? = some (.cells #[(.slice A2_0 l2_0.length c2_0),(.slice A2_1 l2_1.length c2_1),(.slice Ao43 x453002_1.length co43)] 36 (0,0)))∧Aside0 (Below w.heap.size w wc))
      case first =>
       have H:=HC37.out
       clear HC37
       by_cases c45:t460 = 0
       ·rw [if_pos c45] at H
        have c45b0:(t460 == 0) = true:=beq_iff_eq.mpr c45
        have c45b1:(t460 != 0) = false:=bne_eq_false_iff_eq.mpr c45
        clear c45
        (first|rw [c45b0]|rw [c45b1]|(simp only [i64_w,i32_w];rw [c45b0])|skip)
        replace H:=Option.bind_eq_some_iff.mp H
        obtain ⟨t461,A460,H⟩:=H
        replace H:(if t461 = 0 then (examboardlaw28_CalibrateOrder.j1 k1 l1 a3 t448 t460 t457 true l0_0 l0_1 l2_0 l2_1 l2_2) else ((examboardlaw28_limbs.f k1 t448 t457).bind fun t462=>(if t462 = true then (if a3 < 0 then (examboardlaw28_CalibrateOrder.j1 k1 l1 a3 t448 t460 t457 true l0_0 l0_1 l2_0 l2_1 l2_2) else (examboardlaw28_CalibrateOrder.j1 k1 l1 a3 t448 t460 t457 (decide (a3≥(l1.length:Int))) l0_0 l0_1 l2_0 l2_1 l2_2)) else (examboardlaw28_CalibrateOrder.j1 k1 l1 a3 t448 t460 t457 true l0_0 l0_1 l2_0 l2_1 l2_2)))) = some r:=H
        have A46:=Aside0.mk A460
        clear A460
        by_cases c47:t461 = 0
        ·rw [if_pos c47] at H
         have c47b0:(t461 == 0) = true:=beq_iff_eq.mpr c47
         have c47b1:(t461 != 0) = false:=bne_eq_false_iff_eq.mpr c47
         clear c47
         have H':=Aside0.mk H
         clear H
         obtain ⟨Ao48,co48,eo48⟩:=Kd.V_slice HO_9.out
         subst eo48
         go_wp2_with (first|(go_at_call 16;(with_reducible refine (nat_Bits.calls k1 _ _ t448 t461 _ ?side1 ?side2 A46.out).mono ?_);(case side1=>exact zz140);(case side2=>exact zz141);rintro e w49 ⟨rfl,hb⟩;replace HO_9:=Aside0.mk (Kd.V_below (zz111) hb);replace HO_447002:=Aside0.mk (Kd.V_below (zz112) hb);replace HO_453002:=Aside0.mk (Kd.N_below (zz110) hb);replace HO459:=Aside0.mk (Kd.V_below (zz113) hb);replace BK445:=Aside0.mk (blk_below (g:=gb445) (o:=.cells #[.slice A0_0 l0_0.length c0_0,.slice A0_1 l0_1.length c0_1] 24 (0,0)) (zz104) hb);replace BK446:=Aside0.mk (blk_below (g:=gb446) (o:=.cells #[.slice A2_0 l2_0.length c2_0,.slice A2_1 l2_1.length c2_1,.slice A2_2 l2_2.length c2_2] 36 (0,0)) (zz106) hb);replace BK452:=Aside0.mk (blk_below (g:=gb452) (o:=.cells #[.slice A2_0 l2_0.length c2_0,.slice A2_1 l2_1.length c2_1,.slice Ao43 x453002_1.length co43] 36 (0,0)) (zz109) hb);replace HB:=Aside0.mk (below_step (zz108) hb);(try clear hb);(try clear hb2);(try clear hk);(try clear hi)))
         go_meet
         case rel=>exact ⟨_,(true),(zz1),H',⟨zz114⟩,⟨zz111⟩,⟨zz113⟩,⟨zz112⟩,⟨zz110⟩,⟨zz104⟩,⟨zz106⟩,⟨zz109⟩,⟨zz108⟩⟩
        ·rw [if_neg c47] at H
         have c47b0:(t461 == 0) = false:=beq_eq_false_iff_ne.mpr c47
         have c47b1:(t461 != 0) = true:=bne_iff_ne.mpr c47
         replace H:=Option.bind_eq_some_iff.mp H
         obtain ⟨t462,A500,H⟩:=H
         replace H:(if t462 = true then (if a3 < 0 then (examboardlaw28_CalibrateOrder.j1 k1 l1 a3 t448 t460 t457 true l0_0 l0_1 l2_0 l2_1 l2_2) else (examboardlaw28_CalibrateOrder.j1 k1 l1 a3 t448 t460 t457 (decide (a3≥(l1.length:Int))) l0_0 l0_1 l2_0 l2_1 l2_2)) else (examboardlaw28_CalibrateOrder.j1 k1 l1 a3 t448 t460 t457 true l0_0 l0_1 l2_0 l2_1 l2_2)) = some r:=H
         have A50:=Aside0.mk A500
         clear A500
         by_cases c51:t462 = true
         ·subst c51
          have H1:(if a3 < 0 then (examboardlaw28_CalibrateOrder.j1 k1 l1 a3 t448 t460 t457 true l0_0 l0_1 l2_0 l2_1 l2_2) else (examboardlaw28_CalibrateOrder.j1 k1 l1 a3 t448 t460 t457 (decide (a3≥(l1.length:Int))) l0_0 l0_1 l2_0 l2_1 l2_2)) = some r:=zz9
          clear H
          have H:=H1
          clear H1
          by_cases c52:a3 < 0
          ·rw [if_pos c52] at H
           have c52b0:decide (a3 < 0) = true:=decide_eq_true c52
           clear c52
           have H':=Aside0.mk H
           clear H
           obtain ⟨Ao53,co53,eo53⟩:=Kd.V_slice HO_9.out
           subst eo53
           go_wp2_with (first|(go_at_call 16;(with_reducible refine (nat_Bits.calls k1 _ _ t448 t461 _ ?side1 ?side2 A46.out).mono ?_);(case side1=>exact zz140);(case side2=>exact zz141);rintro e w54 ⟨rfl,hb⟩;replace HO_9:=Aside0.mk (Kd.V_below (zz111) hb);replace HO_447002:=Aside0.mk (Kd.V_below (zz112) hb);replace HO_453002:=Aside0.mk (Kd.N_below (zz110) hb);replace HO459:=Aside0.mk (Kd.V_below (zz113) hb);replace BK445:=Aside0.mk (blk_below (g:=gb445) (o:=.cells #[.slice A0_0 l0_0.length c0_0,.slice A0_1 l0_1.length c0_1] 24 (0,0)) (zz104) hb);replace BK446:=Aside0.mk (blk_below (g:=gb446) (o:=.cells #[.slice A2_0 l2_0.length c2_0,.slice A2_1 l2_1.length c2_1,.slice A2_2 l2_2.length c2_2] 36 (0,0)) (zz106) hb);replace BK452:=Aside0.mk (blk_below (g:=gb452) (o:=.cells #[.slice A2_0 l2_0.length c2_0,.slice A2_1 l2_1.length c2_1,.slice Ao43 x453002_1.length co43] 36 (0,0)) (zz109) hb);replace HB:=Aside0.mk (below_step (zz108) hb);(try clear hb);(try clear hb2);(try clear hk);(try clear hi);obtain ⟨Ao55,co55,eo55⟩:=Kd.V_slice HO459.out;subst eo55)|(go_at_call 12;(with_reducible refine (examboardlaw28_limbs.calls k1 _ _ t448 _ _ t457 true _ ?side1 ?side2 ?side3 ?side4 A50.out).mono ?_);(case side1=>exact zz140);(case side2=>exact zz141);(case side3=>exact zz142);(case side4=>exact (Kd.V_reads' HO459.out).2.1);rintro e w' ⟨rfl,⟨nd,rfl⟩⟩))
           go_meet
           case rel=>exact ⟨_,(true),(zz1),H',⟨zz114⟩,⟨zz111⟩,⟨zz113⟩,⟨zz112⟩,⟨zz110⟩,⟨zz104⟩,⟨zz106⟩,⟨zz109⟩,⟨zz108⟩⟩
          ·rw [if_neg c52] at H
           have c52b0:decide (a3 < 0) = false:=decide_eq_false c52
           clear c52
           have H':=Aside0.mk H
           clear H
           obtain ⟨Ao56,co56,eo56⟩:=Kd.V_slice HO_9.out
           subst eo56
           go_wp2_with (first|(go_at_call 16;(with_reducible refine (nat_Bits.calls k1 _ _ t448 t461 _ ?side1 ?side2 A46.out).mono ?_);(case side1=>exact zz140);(case side2=>exact zz141);rintro e w57 ⟨rfl,hb⟩;replace HO_9:=Aside0.mk (Kd.V_below (zz111) hb);replace HO_447002:=Aside0.mk (Kd.V_below (zz112) hb);replace HO_453002:=Aside0.mk (Kd.N_below (zz110) hb);replace HO459:=Aside0.mk (Kd.V_below (zz113) hb);replace BK445:=Aside0.mk (blk_below (g:=gb445) (o:=.cells #[.slice A0_0 l0_0.length c0_0,.slice A0_1 l0_1.length c0_1] 24 (0,0)) (zz104) hb);replace BK446:=Aside0.mk (blk_below (g:=gb446) (o:=.cells #[.slice A2_0 l2_0.length c2_0,.slice A2_1 l2_1.length c2_1,.slice A2_2 l2_2.length c2_2] 36 (0,0)) (zz106) hb);replace BK452:=Aside0.mk (blk_below (g:=gb452) (o:=.cells #[.slice A2_0 l2_0.length c2_0,.slice A2_1 l2_1.length c2_1,.slice Ao43 x453002_1.length co43] 36 (0,0)) (zz109) hb);replace HB:=Aside0.mk (below_step (zz108) hb);(try clear hb);(try clear hb2);(try clear hk);(try clear hi);obtain ⟨Ao58,co58,eo58⟩:=Kd.V_slice HO459.out;subst eo58)|(go_at_call 12;(with_reducible refine (examboardlaw28_limbs.calls k1 _ _ t448 _ _ t457 true _ ?side1 ?side2 ?side3 ?side4 A50.out).mono ?_);(case side1=>exact zz140);(case side2=>exact zz141);(case side3=>exact zz142);(case side4=>exact (Kd.V_reads' HO459.out).2.1);rintro e w' ⟨rfl,⟨nd,rfl⟩⟩))
           go_meet
           case rel=>exact ⟨_,(decide (a3≥(l1.length:Int))),(zz1),H',⟨zz114⟩,⟨zz111⟩,⟨zz113⟩,⟨zz112⟩,⟨zz110⟩,⟨zz104⟩,⟨zz106⟩,⟨zz109⟩,⟨zz108⟩⟩
         ·replace c51:=Bool.eq_false_iff.mpr c51
          subst c51
          have H1:(examboardlaw28_CalibrateOrder.j1 k1 l1 a3 t448 t460 t457 true l0_0 l0_1 l2_0 l2_1 l2_2) = some r:=zz12
          clear H
          have H:=H1
          clear H1
          have H':=Aside0.mk H
          clear H
          obtain ⟨Ao59,co59,eo59⟩:=Kd.V_slice HO_9.out
          subst eo59
          go_wp2_with (first|(go_at_call 16;(with_reducible refine (nat_Bits.calls k1 _ _ t448 t461 _ ?side1 ?side2 A46.out).mono ?_);(case side1=>exact zz140);(case side2=>exact zz141);rintro e w60 ⟨rfl,hb⟩;replace HO_9:=Aside0.mk (Kd.V_below (zz111) hb);replace HO_447002:=Aside0.mk (Kd.V_below (zz112) hb);replace HO_453002:=Aside0.mk (Kd.N_below (zz110) hb);replace HO459:=Aside0.mk (Kd.V_below (zz113) hb);replace BK445:=Aside0.mk (blk_below (g:=gb445) (o:=.cells #[.slice A0_0 l0_0.length c0_0,.slice A0_1 l0_1.length c0_1] 24 (0,0)) (zz104) hb);replace BK446:=Aside0.mk (blk_below (g:=gb446) (o:=.cells #[.slice A2_0 l2_0.length c2_0,.slice A2_1 l2_1.length c2_1,.slice A2_2 l2_2.length c2_2] 36 (0,0)) (zz106) hb);replace BK452:=Aside0.mk (blk_below (g:=gb452) (o:=.cells #[.slice A2_0 l2_0.length c2_0,.slice A2_1 l2_1.length c2_1,.slice Ao43 x453002_1.length co43] 36 (0,0)) (zz109) hb);replace HB:=Aside0.mk (below_step (zz108) hb);(try clear hb);(try clear hb2);(try clear hk);(try clear hi);obtain ⟨Ao61,co61,eo61⟩:=Kd.V_slice HO459.out;subst eo61)|(go_at_call 12;(with_reducible refine (examboardlaw28_limbs.calls k1 _ _ t448 _ _ t457 false _ ?side1 ?side2 ?side3 ?side4 A50.out).mono ?_);(case side1=>exact zz140);(case side2=>exact zz141);(case side3=>exact zz142);(case side4=>exact (Kd.V_reads' HO459.out).2.1);rintro e w' ⟨rfl,⟨nd,rfl⟩⟩))
          go_meet
          case rel=>exact ⟨_,(true),(zz1),H',⟨zz114⟩,⟨zz111⟩,⟨zz113⟩,⟨zz112⟩,⟨zz110⟩,⟨zz104⟩,⟨zz106⟩,⟨zz109⟩,⟨zz108⟩⟩
       ·rw [if_neg c45] at H
        have c45b0:(t460 == 0) = false:=beq_eq_false_iff_ne.mpr c45
        have c45b1:(t460 != 0) = true:=bne_iff_ne.mpr c45
        (first|rw [c45b0]|rw [c45b1]|(simp only [i64_w,i32_w];rw [c45b0])|skip)
        have H':=Aside0.mk H
        clear H
        go_wp2
        go_meet
        case rel=>exact ⟨_,(true),(zz1),H',⟨zz114⟩,⟨zz111⟩,⟨zz113⟩,⟨zz112⟩,⟨zz110⟩,⟨zz104⟩,⟨zz106⟩,⟨zz109⟩,⟨zz108⟩⟩
      case rest =>
       clear HC37;(try clear c1);(try clear c2);(try clear p2);(try clear c3);(try clear c4);(try clear p4);(try clear q4);(try clear hx4);(try clear c5);(try clear c6);(try clear p6);(try clear c9);(try clear c13);(try clear c13b0);(try clear c13b1);(try clear c14);(try clear c16);(try clear c24);(try clear c25);(try clear c28);(try clear c28b0);(try clear c29);(try clear c29b0);(try clear c30);(try clear c30b0);(try clear c31);(try clear c38);(try clear c39);(try clear c41);(try clear c45);(try clear c45b0);(try clear c45b1);(try clear p45);(try clear q45);(try clear hx45);(try clear c47);(try clear c47b0);(try clear c47b1);(try clear c51);(try clear c52);(try clear c52b0);(try clear hcz10_0);(try clear hcz10_1);(try clear hcz10_2);(try clear hcz17_0);(try clear hcz17_1);(try clear hcz17_2);(try clear hcz19_0);(try clear hcz19_1);(try clear hcz20_0);(try clear hcz20_1);(try clear hcz20_2);(try clear hcz22_0);(try clear hcz22_1);(try clear hcz22_2);(try clear hcz26_0);(try clear hcz26_1);(try clear hcz26_2);(try clear hcz27_0);(try clear hcz27_1);(try clear hcz27_2);(try clear hcz40_0);(try clear hcz40_1);(try clear hcz42_0);(try clear hcz42_1);(try clear hcz42_2);(try clear hfz10_0);(try clear hfz10_1);(try clear hfz10_2);(try clear hfz17_0);(try clear hfz17_1);(try clear hfz17_2);(try clear hfz19_0);(try clear hfz19_1);(try clear hfz20_0);(try clear hfz20_1);(try clear hfz20_2);(try clear hfz22_0);(try clear hfz22_1);(try clear hfz22_2);(try clear hfz26_0);(try clear hfz26_1);(try clear hfz26_2);(try clear hfz27_0);(try clear hfz27_1);(try clear hfz27_2);(try clear hfz40_0);(try clear hfz40_1);(try clear hfz42_0);(try clear hfz42_1);(try clear hfz42_2);(try clear hx453_0);(try clear p2);(try clear p453);(try clear p6);(try clear q453)
       obtain ⟨kq,x87_36,rfl,HA,HJ36,HO_9,HO_13,HO_447002,HO_453002,BK445,BK446,BK452,HB⟩:=hcut
       cases kq with
       | zero=>exact absurd HA.out (by simp [examboardlaw28_CalibrateOrder.j1])
       | succ kj36 =>
        have H:=HA.out
        clear HA
        simp only [examboardlaw28_CalibrateOrder.j1] at H
        by_cases c62:x87_36 = true
        ·subst c62
         have H1:(if t460 = 0 then ((nat_Bits.f kj36 t448).bind fun t463=>(if t463 > 0 then ((examboardlaw28_limbs.f kj36 t448 t457).bind fun t464=>(some t464)) else (some false))) else (some false)) = some r:=zz9
         clear H
         have H:=H1
         clear H1
         by_cases c63:t460 = 0
         ·rw [if_pos c63] at H
          have c63b0:(t460 == 0) = true:=beq_iff_eq.mpr c63
          have c63b1:(t460 != 0) = false:=bne_eq_false_iff_eq.mpr c63
          clear c63
          replace H:=Option.bind_eq_some_iff.mp H
          obtain ⟨t463,A640,H⟩:=H
          replace H:(if t463 > 0 then ((examboardlaw28_limbs.f kj36 t448 t457).bind fun t464=>(some t464)) else (some false)) = some r:=H
          have A64:=Aside0.mk A640
          clear A640
          by_cases c65:t463 > 0
          ·rw [if_pos c65] at H
           have c65b0:decide (0 < t463) = true:=decide_eq_true c65
           clear c65
           replace H:=Option.bind_eq_some_iff.mp H
           obtain ⟨t464,A660,H⟩:=H
           replace H:(some t464) = some r:=H
           have A66:=Aside0.mk A660
           clear A660
           obtain rfl:=Option.some.inj H
           obtain ⟨Ao67,co67,eo67⟩:=Kd.V_slice HO_9.out
           subst eo67
           go_wp2_with (first|(go_at_call 16;(with_reducible refine (nat_Bits.calls kj36 _ _ t448 t463 _ ?side1 ?side2 A64.out).mono ?_);(case side1=>exact zz140);(case side2=>exact zz141);rintro e w68 ⟨rfl,hb⟩;replace HO_9:=Aside0.mk (Kd.V_below (zz111) hb);replace HO_13:=Aside0.mk (Kd.V_below (by (with_reducible repeat (first|apply Kd.V_alloc|apply Kd.V_drewN|apply Kd.V_drew));exact HO_13.out) hb);replace HO_447002:=Aside0.mk (Kd.V_below (zz112) hb);replace HO_453002:=Aside0.mk (Kd.N_below (zz110) hb);replace BK445:=Aside0.mk (blk_below (g:=gb445) (o:=.cells #[.slice A0_0 l0_0.length c0_0,.slice A0_1 l0_1.length c0_1] 24 (0,0)) (zz104) hb);replace BK446:=Aside0.mk (blk_below (g:=gb446) (o:=.cells #[.slice A2_0 l2_0.length c2_0,.slice A2_1 l2_1.length c2_1,.slice A2_2 l2_2.length c2_2] 36 (0,0)) (zz106) hb);replace BK452:=Aside0.mk (blk_below (g:=gb452) (o:=.cells #[.slice A2_0 l2_0.length c2_0,.slice A2_1 l2_1.length c2_1,.slice Ao43 x453002_1.length co43] 36 (0,0)) (zz109) hb);replace HB:=Aside0.mk (below_step (zz108) hb);(try clear hb);(try clear hb2);(try clear hk);(try clear hi);obtain ⟨Ao69,co69,eo69⟩:=Kd.V_slice HO_13.out;subst eo69)|(go_at_call 12;(with_reducible refine (examboardlaw28_limbs.calls kj36 _ _ t448 _ _ t457 t464 _ ?side1 ?side2 ?side3 ?side4 A66.out).mono ?_);(case side1=>exact zz140);(case side2=>exact zz141);(case side3=>repeat (first|exact (Kd.V_reads' HO_13.out).2.2|(with_reducible refine Kd.C_alloc ?_ _)|(with_reducible refine Kd.C_drewN ?_ _)|(with_reducible refine Kd.C_drew ?_)));(case side4=>exact (Kd.V_reads' HO_13.out).2.1);rintro e w' ⟨rfl,⟨nd,rfl⟩⟩))
           go_ret
           exact ⟨zz5,zz108⟩
          ·rw [if_neg c65] at H
           have c65b0:decide (0 < t463) = false:=decide_eq_false c65
           clear c65
           obtain rfl:=Option.some.inj H
           obtain ⟨Ao70,co70,eo70⟩:=Kd.V_slice HO_9.out
           subst eo70
           go_wp2_with (first|(go_at_call 16;(with_reducible refine (nat_Bits.calls kj36 _ _ t448 t463 _ ?side1 ?side2 A64.out).mono ?_);(case side1=>exact zz140);(case side2=>exact zz141);rintro e w71 ⟨rfl,hb⟩;replace HO_9:=Aside0.mk (Kd.V_below (zz111) hb);replace HO_13:=Aside0.mk (Kd.V_below (by (with_reducible repeat (first|apply Kd.V_alloc|apply Kd.V_drewN|apply Kd.V_drew));exact HO_13.out) hb);replace HO_447002:=Aside0.mk (Kd.V_below (zz112) hb);replace HO_453002:=Aside0.mk (Kd.N_below (zz110) hb);replace BK445:=Aside0.mk (blk_below (g:=gb445) (o:=.cells #[.slice A0_0 l0_0.length c0_0,.slice A0_1 l0_1.length c0_1] 24 (0,0)) (zz104) hb);replace BK446:=Aside0.mk (blk_below (g:=gb446) (o:=.cells #[.slice A2_0 l2_0.length c2_0,.slice A2_1 l2_1.length c2_1,.slice A2_2 l2_2.length c2_2] 36 (0,0)) (zz106) hb);replace BK452:=Aside0.mk (blk_below (g:=gb452) (o:=.cells #[.slice A2_0 l2_0.length c2_0,.slice A2_1 l2_1.length c2_1,.slice Ao43 x453002_1.length co43] 36 (0,0)) (zz109) hb);replace HB:=Aside0.mk (below_step (zz108) hb);(try clear hb);(try clear hb2);(try clear hk);(try clear hi)))
           go_ret
           exact ⟨zz5,zz108⟩
         ·rw [if_neg c63] at H
          have c63b0:(t460 == 0) = false:=beq_eq_false_iff_ne.mpr c63
          have c63b1:(t460 != 0) = true:=bne_iff_ne.mpr c63
          obtain rfl:=Option.some.inj H
          go_wp2
          go_ret
          exact ⟨zz5,zz108⟩
        ·replace c62:=Bool.eq_false_iff.mpr c62
         subst c62
         have H1:(examboardlaw28_CalibrateOrder.l1 kj36 l1 a3 0 l0_0 l0_1 l2_0 l2_1 l2_2) = some r:=zz12
         clear H
         have H:=H1
         clear H1
         have H':=Aside0.mk H
         clear H
         go_wp2
         go_loopg [14] kj36 (fun kq v14 w'=>∃ (x14_3:Int),v14 = .int .i64 x14_3∧Aside0 (examboardlaw28_CalibrateOrder.l1 kq l1 a3 x14_3 l0_0 l0_1 l2_0 l2_1 l2_2 = some r)∧Aside0 (kq≤kj36)∧Aside0 (Kd.V (Kd.slice 3 (Kd.int .i64)) 22 w' w.heap.size (fun k_=>(P2_2_ k_∨w.heap.size≤k_)∧some k_ ≠ ((.slice Ao43 x453002_1.length co43):Value).ownBlock∧k_ ≠ gb445∧k_ ≠ gb446∧k_ ≠ gb452) (.slice A2_2 l2_2.length c2_2) l2_2)∧Aside0 (Kd.N (Kd.slice 3 (Kd.int .i64)) 22 w' w.heap.size (fun k_=>(P2_2_ k_∨w.heap.size≤k_)∧k_ ≠ gb445∧k_ ≠ gb446∧k_ ≠ gb452) (.slice Ao43 x453002_1.length co43) x453002_1)∧Aside0 (w'.heap[gb445]? = some (.cells #[(.slice A0_0 l0_0.length c0_0),(.slice A0_1 l0_1.length c0_1)] 24 (0,0)))∧Aside0 (w'.heap[gb446]? = some (.cells #[(.slice A2_0 l2_0.length c2_0),(.slice A2_1 l2_1.length c2_1),(.slice A2_2 l2_2.length c2_2)] 36 (0,0)))∧Aside0 (w'.heap[gb452]? = some (.cells #[(.slice A2_0 l2_0.length c2_0),(.slice A2_1 l2_1.length c2_1),(.slice Ao43 x453002_1.length co43)] 36 (0,0)))∧Aside0 (Below w.heap.size w w'))
         case atStart=>exact ⟨(0),(zz1),H',⟨Nat.le_refl _⟩,⟨zz112⟩,⟨zz110⟩,⟨zz104⟩,⟨zz106⟩,⟨zz109⟩,⟨zz108⟩⟩
         case round =>
          clear H'
          (try clear c1);(try clear c2);(try clear p2);(try clear c3);(try clear c4);(try clear p4);(try clear q4);(try clear hx4);(try clear c5);(try clear c6);(try clear p6);(try clear c9);(try clear c13);(try clear c13b0);(try clear c13b1);(try clear c14);(try clear c16);(try clear c24);(try clear c25);(try clear c28);(try clear c28b0);(try clear c29);(try clear c29b0);(try clear c30);(try clear c30b0);(try clear c31);(try clear c38);(try clear c39);(try clear c41);(try clear c45);(try clear c45b0);(try clear c45b1);(try clear p45);(try clear q45);(try clear hx45);(try clear c47);(try clear c47b0);(try clear c47b1);(try clear c51);(try clear c52);(try clear c52b0);(try clear c62);(try clear c63);(try clear c63b0);(try clear c63b1);(try clear p64);(try clear c65);(try clear c65b0);(try clear hcz10_0);(try clear hcz10_1);(try clear hcz10_2);(try clear hcz17_0);(try clear hcz17_1);(try clear hcz17_2);(try clear hcz19_0);(try clear hcz19_1);(try clear hcz20_0);(try clear hcz20_1);(try clear hcz20_2);(try clear hcz22_0);(try clear hcz22_1);(try clear hcz22_2);(try clear hcz26_0);(try clear hcz26_1);(try clear hcz26_2);(try clear hcz27_0);(try clear hcz27_1);(try clear hcz27_2);(try clear hcz40_0);(try clear hcz40_1);(try clear hcz42_0);(try clear hcz42_1);(try clear hcz42_2);(try clear hfz10_0);(try clear hfz10_1);(try clear hfz10_2);(try clear hfz17_0);(try clear hfz17_1);(try clear hfz17_2);(try clear hfz19_0);(try clear hfz19_1);(try clear hfz20_0);(try clear hfz20_1);(try clear hfz20_2);(try clear hfz22_0);(try clear hfz22_1);(try clear hfz22_2);(try clear hfz26_0);(try clear hfz26_1);(try clear hfz26_2);(try clear hfz27_0);(try clear hfz27_1);(try clear hfz27_2);(try clear hfz40_0);(try clear hfz40_1);(try clear hfz42_0);(try clear hfz42_1);(try clear hfz42_2);(try clear hx453_0);(try clear p2);(try clear p4);(try clear p45);(try clear p453);(try clear p6);(try clear q4);(try clear q45);(try clear q453)
          obtain ⟨x14_3,rfl,HA,HK3,HO_447002,HO_453002,BK445,BK446,BK452,HB⟩:=hrel
          cases gk with
          | zero=>exact absurd HA.out (by simp [examboardlaw28_CalibrateOrder.l1])
          | succ k3 =>
           have H:=HA.out
           clear HA
           simp only [examboardlaw28_CalibrateOrder.l1] at H
           by_cases c72:x14_3 < (l2_2.length:Int)
           ·rw [if_pos c72] at H
            have c72b0:decide (x14_3 < (l2_2.length:Int)) = true:=decide_eq_true c72
            clear c72
            obtain ⟨y465,hy465⟩:∃ y_:List Int,y_ = (([]:List Int)):=⟨_,rfl⟩
            replace H:(if 0≤x14_3 then (if y465.length+(rd_L1 l2_2 x14_3).length < 17592186044416 then ((some (y465++(rd_L1 l2_2 x14_3):List Int)).bind fun y469=>(if a3≥(y469.length:Int) then (some false) else ((calibrate_Weights.f k3 l0_0 l0_1 l1 y469 a3).bind fun bt472=>(if 0≤a3 then (if a3 < (y469.length:Int) then ((calibrate_Weights.f k3 l0_0 l0_1 l1 (y469.set (a3:Int).toNat (-1)) (-1)).bind fun bt477=>(if bt472.2 = 0 then (if bt477.2 = 0 then (if (bt472.1.length:Int) = (l0_0.length:Int) then (examboardlaw28_CalibrateOrder.j3 k3 l1 a3 x14_3 bt472.1 bt477.1 ((bt477.1.length:Int) != (bt472.1.length:Int)) l0_0 l0_1 l2_0 l2_1 l2_2) else (examboardlaw28_CalibrateOrder.j3 k3 l1 a3 x14_3 bt472.1 bt477.1 true l0_0 l0_1 l2_0 l2_1 l2_2)) else (examboardlaw28_CalibrateOrder.j3 k3 l1 a3 x14_3 bt472.1 bt477.1 true l0_0 l0_1 l2_0 l2_1 l2_2)) else (examboardlaw28_CalibrateOrder.j3 k3 l1 a3 x14_3 bt472.1 bt477.1 true l0_0 l0_1 l2_0 l2_1 l2_2))) else (none)) else (none))))) else (none)) else (none)) = some r:=by first|(rw [hy465];with_reducible exact H)|(have H2_:=(Option.bind_some _ _).symm.trans H;rw [hy465];with_reducible exact H2_)|(have H2_:=(Option.bind_some _ _).symm.trans H;with_reducible exact H2_)|with_reducible exact H|(rw [hy465];exact H)|exact H
            have Ny465:=Aside0.mk hy465
            clear hy465
            by_cases c73:0≤x14_3
            ·rw [if_pos c73] at H
             have c73b0:decide (0≤x14_3) = true:=decide_eq_true c73
             clear c73
             by_cases c74:y465.length+(rd_L1 l2_2 x14_3).length < 17592186044416
             ·rw [if_pos c74] at H
              have LMc74:=Aside0.mk c74
              clear c74
              obtain ⟨y469,hy469⟩:∃ y_:List Int,y_ = (y465++(rd_L1 l2_2 x14_3)):=⟨_,rfl⟩
              replace H:(if a3≥(y469.length:Int) then (some false) else ((calibrate_Weights.f k3 l0_0 l0_1 l1 y469 a3).bind fun bt472=>(if 0≤a3 then (if a3 < (y469.length:Int) then ((calibrate_Weights.f k3 l0_0 l0_1 l1 (y469.set (a3:Int).toNat (-1)) (-1)).bind fun bt477=>(if bt472.2 = 0 then (if bt477.2 = 0 then (if (bt472.1.length:Int) = (l0_0.length:Int) then (examboardlaw28_CalibrateOrder.j3 k3 l1 a3 x14_3 bt472.1 bt477.1 ((bt477.1.length:Int) != (bt472.1.length:Int)) l0_0 l0_1 l2_0 l2_1 l2_2) else (examboardlaw28_CalibrateOrder.j3 k3 l1 a3 x14_3 bt472.1 bt477.1 true l0_0 l0_1 l2_0 l2_1 l2_2)) else (examboardlaw28_CalibrateOrder.j3 k3 l1 a3 x14_3 bt472.1 bt477.1 true l0_0 l0_1 l2_0 l2_1 l2_2)) else (examboardlaw28_CalibrateOrder.j3 k3 l1 a3 x14_3 bt472.1 bt477.1 true l0_0 l0_1 l2_0 l2_1 l2_2))) else (none)) else (none)))) = some r:=by first|(rw [hy469];with_reducible exact H)|(have H2_:=(Option.bind_some _ _).symm.trans H;rw [hy469];with_reducible exact H2_)|(have H2_:=(Option.bind_some _ _).symm.trans H;with_reducible exact H2_)|with_reducible exact H|(rw [hy469];exact H)|exact H
              have Ny469:=Aside0.mk hy469
              clear hy469
              by_cases c75:a3≥(y469.length:Int)
              ·rw [if_pos c75] at H
               have c75b0:decide ((y469.length:Int)≤a3) = true:=decide_eq_true c75
               clear c75
               obtain rfl:=Option.some.inj H
               have hnb76:=NB446_445.out
               have hnc76:=NB445_446.out
               have hnb77:=NB446_452.out
               have hnc77:=NB452_446.out
               have hcz78_0:wr.cell? ⟨gb446,0,none⟩ = some (.slice A2_0 l2_0.length c2_0):=(blk_cell BK446.out 0).trans rfl
               have hcz78_1:wr.cell? ⟨gb446,1,none⟩ = some (.slice A2_1 l2_1.length c2_1):=(blk_cell BK446.out 1).trans rfl
               have hcz78_2:wr.cell? ⟨gb446,2,none⟩ = some (.slice A2_2 l2_2.length c2_2):=(blk_cell BK446.out 2).trans rfl
               have hfz78_0:=blk_frozen BK446.out 0
               have hfz78_1:=blk_frozen BK446.out 1
               have hfz78_2:=blk_frozen BK446.out 2
               go_wp2_with (first|((with_reducible refine gate_dst (N:=107) rfl ?_);(try (refine gate_guard (zz16) ?_;dsimp only));refine Kd.R_lit (Kd.int .i64) _ 3 ?hg (N:=107) ?hd (xs:=([]:List Int)) (inner:=[]) (ok:=fun _=>True) (okp:=fun _=>True) ?hr ?hp (fun _ hk=>hk) trivial (Below.refl _ _) (Nat.le_refl _) (zz13) ?_;(case hd=>rfl);(case hg=>rfl);(case hr=>exact zz122);(case hp=>exact (Reps.none _ _));intro v466 w79 ho80 hb hg_ hnew_;clear hg_ hnew_;(first|rw [← Ny465.out] at ho80|(simp only [Int.reduceToNat] at ho80;rw [← Ny465.out] at ho80));replace HO_447002:=Aside0.mk (Kd.V_elder' (zz112) (Kd.R_base ho80) hb);replace HO_453002:=Aside0.mk (Kd.N_elder' (zz110) (Kd.R_base ho80) hb);have HO467:=Aside0.mk (Kd.R_lower (Kd.R_newM (M:=fun k_=>(w.heap.size≤k_)) ho80 (below_size (zz108)) (fun k_ h_=>h_)) (below_size (zz108)));replace BK445:=Aside0.mk (blk_below (g:=gb445) (o:=.cells #[.slice A0_0 l0_0.length c0_0,.slice A0_1 l0_1.length c0_1] 24 (0,0)) (zz104) hb);replace BK446:=Aside0.mk (blk_below (g:=gb446) (o:=.cells #[.slice A2_0 l2_0.length c2_0,.slice A2_1 l2_1.length c2_1,.slice A2_2 l2_2.length c2_2] 36 (0,0)) (zz106) hb);replace BK452:=Aside0.mk (blk_below (g:=gb452) (o:=.cells #[.slice A2_0 l2_0.length c2_0,.slice A2_1 l2_1.length c2_1,.slice Ao43 x453002_1.length co43] 36 (0,0)) (zz109) hb);replace HB:=Aside0.mk (below_step (zz108) hb);clear hb ho80;have hcz81_0:w79.cell? ⟨gb446,0,none⟩ = some (.slice A2_0 l2_0.length c2_0):=(blk_cell BK446.out 0).trans rfl;have hcz81_1:w79.cell? ⟨gb446,1,none⟩ = some (.slice A2_1 l2_1.length c2_1):=(blk_cell BK446.out 1).trans rfl;have hcz81_2:w79.cell? ⟨gb446,2,none⟩ = some (.slice A2_2 l2_2.length c2_2):=(blk_cell BK446.out 2).trans rfl;have hfz81_0:=blk_frozen BK446.out 0;have hfz81_1:=blk_frozen BK446.out 1;have hfz81_2:=blk_frozen BK446.out 2;have p468:0≤(x14_3:Int):=of_decide_eq_true (zz10);have q468:x14_3 < (l2_2.length:Int):=of_decide_eq_true (zz10);obtain ⟨ad468,A468_0,c468_0,e468,hx468_0,hl468_0,hi468_0⟩:=at_L1 (Kd.V_reads' HO_447002.out).2.2 x14_3 p468 q468;cases e468;obtain ⟨ce468,hce468,hMe468,hcc468⟩:=Kd.V_get HO_447002.out [] x14_3 p468 (by first|exact q468|exact of_decide_eq_true (zz10)|(have e_:=(Kd.V_reads' HO_447002.out).1;omega));obtain ⟨ua468_0,uc468_0,rfl,ul468_0,ge468_0⟩:=Kd.FK_slice_open hMe468;have hv468_0:=hcc468 0 _ rfl;rw [Nat.add_zero,show ((Kd.slice 3 (Kd.int .i64))).sz = 1 from rfl,Nat.mul_one] at hv468_0;replace hv468_0:=Option.some.inj (hv468_0.symm.trans hx468_0);injection hv468_0 with hva_ hvn_ hvc_;rw [hva_] at ge468_0;rw [hvc_] at ul468_0;have HL468_0:=Aside0.mk (show Kd.V (Kd.int .i64) 3 _ w.heap.size _ _ (rd_L1 l2_2 x14_3) from Kd.V_mk ul468_0 ge468_0);clear hva_ hvn_ hvc_ ge468_0 ul468_0;clear hcc468 hce468;have HR468_0:=Aside0.mk hi468_0;have HC468_0:=Aside0.mk hl468_0;clear hi468_0 hl468_0;replace p468:=eq_true p468;replace q468:=eq_true q468)|((with_reducible refine gate_builtin (b:=.append) (xs:=#[.tmp 107,.tmp 112]) rfl ?_);(try (refine gate_guard (zz16) ?_;dsimp only));at_builtin;refine Kd.R_append_rows (Kd.int .i64) (w0:=w) w.heap.size rfl (.tmp 107) (.tmp 112) 22 3 (.int .i64 0) 8 rfl Try.underlying22 info3 rfl (zz29) (zz3) v466 y465 (rd_L1 l2_2 x14_3) _ _ _ (fun k_=>(w.heap.size≤k_)) (fun _=>False) rfl rfl ?aO ?aR (fun _ _ h=>h) (fun _ h=>h.elim) ?aF ?aB ?aS ?aL ?_;(case aR=>repeat (first|exact (by repeat (first|(with_reducible exact HR468_0.out)|(with_reducible refine Kd.C_alloc ?_ _)|(with_reducible refine Kd.C_drewN ?_ _)|(with_reducible refine Kd.C_drew ?_)|exact HR468_0.out))|(with_reducible refine Kd.C_alloc ?_ _)|(with_reducible refine Kd.C_drewN ?_ _)|(with_reducible refine Kd.C_drew ?_)));(case aB=>exact (zz108));(case aF=>exact (fun k_ hk=>(Nat.le_trans (below_size (zz108)) hk)));(case aO=>exact (by (with_reducible repeat (first|apply Kd.R_alloc|apply Kd.R_drewN|apply Kd.R_drew));exact Kd.R_mono HO467.out (fun _ hk=>hk.1)));(case aS=>exact (below_size (zz108)));(case aL=>have:=LMc74.out;omega);intro v470 w82 ho hb hg hat;rw [← Ny469.out] at ho;have n0_:=Aside0.mk (Kd.V_afterv (ok:=(fun k_=>(P2_2_ k_∨w.heap.size≤k_)∧some k_ ≠ (.slice Ao43 x453002_1.length co43:Value).ownBlock∧k_ ≠ gb445∧k_ ≠ gb446∧k_ ≠ gb452)) (zz112) hg hat);have n1_:=Aside0.mk (Kd.N_afterv (ok:=(fun k_=>(P2_2_ k_∨w.heap.size≤k_)∧k_ ≠ gb445∧k_ ≠ gb446∧k_ ≠ gb452)) (zz110) hg hat);have n2_:=Aside0.mk (blk_grown (g:=gb445) (o:=.cells #[.slice A0_0 l0_0.length c0_0,.slice A0_1 l0_1.length c0_1] 24 (0,0)) (zz104) hg (Kd.R_ne HO467.out BK445.out (zz29)));have n3_:=Aside0.mk (blk_grown (g:=gb446) (o:=.cells #[.slice A2_0 l2_0.length c2_0,.slice A2_1 l2_1.length c2_1,.slice (some ad468) l2_2.length c2_2] 36 (0,0)) (zz106) hg (Kd.R_ne HO467.out BK446.out (zz29)));have n4_:=Aside0.mk (blk_grown (g:=gb452) (o:=.cells #[.slice A2_0 l2_0.length c2_0,.slice A2_1 l2_1.length c2_1,.slice Ao43 x453002_1.length co43] 36 (0,0)) (zz109) hg (Kd.R_ne HO467.out BK452.out (zz29)));have n5_:=Aside0.mk (Kd.V_afterv (ok:=(fun k_=>(P2_2_ k_∨w.heap.size≤k_)∧some k_ ≠ (.slice Ao43 x453002_1.length co43:Value).ownBlock∧k_ ≠ gb445∧k_ ≠ gb446∧k_ ≠ gb452)) (zz115) hg hat);have n6_:=Aside0.mk (hb);have n7_:=Aside0.mk (ho);clear HO_447002;clear HO_453002;clear BK445;clear BK446;clear BK452;clear HL468_0;clear HB;clear HO467;have HO_447002:=n0_;have HO_453002:=n1_;have BK445:=n2_;have BK446:=n3_;have BK452:=n4_;have HL468_0:=n5_;have HB:=n6_;have HO471:=n7_;clear n0_ n1_ n2_ n3_ n4_ n5_ n6_ n7_;clear ho hb hg hat;obtain ⟨Ao83,co83,eo83⟩:=Kd.R_slice HO471.out;subst eo83))
               go_ret
               exact ⟨zz5,zz108⟩
              ·rw [if_neg c75] at H
               have c75b0:decide ((y469.length:Int)≤a3) = false:=decide_eq_false c75
               clear c75
               replace H:=Option.bind_eq_some_iff.mp H
               obtain ⟨⟨t472,t475⟩,A840,H⟩:=H
               replace H:(if 0≤a3 then (if a3 < (y469.length:Int) then ((calibrate_Weights.f k3 l0_0 l0_1 l1 (y469.set (a3:Int).toNat (-1)) (-1)).bind fun bt477=>(if t475 = 0 then (if bt477.2 = 0 then (if (t472.length:Int) = (l0_0.length:Int) then (examboardlaw28_CalibrateOrder.j3 k3 l1 a3 x14_3 t472 bt477.1 ((bt477.1.length:Int) != (t472.length:Int)) l0_0 l0_1 l2_0 l2_1 l2_2) else (examboardlaw28_CalibrateOrder.j3 k3 l1 a3 x14_3 t472 bt477.1 true l0_0 l0_1 l2_0 l2_1 l2_2)) else (examboardlaw28_CalibrateOrder.j3 k3 l1 a3 x14_3 t472 bt477.1 true l0_0 l0_1 l2_0 l2_1 l2_2)) else (examboardlaw28_CalibrateOrder.j3 k3 l1 a3 x14_3 t472 bt477.1 true l0_0 l0_1 l2_0 l2_1 l2_2))) else (none)) else (none)) = some r:=H
               have A84:=Aside0.mk A840
               clear A840
               by_cases c85:0≤a3
               ·rw [if_pos c85] at H
                have c85b0:decide (0≤a3) = true:=decide_eq_true c85
                clear c85
                by_cases c86:a3 < (y469.length:Int)
                ·rw [if_pos c86] at H
                 have c86b0:decide (a3 < (y469.length:Int)) = true:=decide_eq_true c86
                 clear c86
                 obtain ⟨y476,hy476⟩:∃ y_:List Int,y_ = (y469.set (a3:Int).toNat (-1)):=⟨_,rfl⟩
                 replace H:((calibrate_Weights.f k3 l0_0 l0_1 l1 y476 (-1)).bind fun bt477=>(if t475 = 0 then (if bt477.2 = 0 then (if (t472.length:Int) = (l0_0.length:Int) then (examboardlaw28_CalibrateOrder.j3 k3 l1 a3 x14_3 t472 bt477.1 ((bt477.1.length:Int) != (t472.length:Int)) l0_0 l0_1 l2_0 l2_1 l2_2) else (examboardlaw28_CalibrateOrder.j3 k3 l1 a3 x14_3 t472 bt477.1 true l0_0 l0_1 l2_0 l2_1 l2_2)) else (examboardlaw28_CalibrateOrder.j3 k3 l1 a3 x14_3 t472 bt477.1 true l0_0 l0_1 l2_0 l2_1 l2_2)) else (examboardlaw28_CalibrateOrder.j3 k3 l1 a3 x14_3 t472 bt477.1 true l0_0 l0_1 l2_0 l2_1 l2_2))) = some r:=by first|(rw [hy476];with_reducible exact H)|(have H2_:=(Option.bind_some _ _).symm.trans H;rw [hy476];with_reducible exact H2_)|(have H2_:=(Option.bind_some _ _).symm.trans H;with_reducible exact H2_)|with_reducible exact H|(rw [hy476];exact H)|exact H
                 have Ny476:=Aside0.mk hy476
                 clear hy476
                 replace H:=Option.bind_eq_some_iff.mp H
                 obtain ⟨⟨t477,t480⟩,A880,H⟩:=H
                 replace H:(if t475 = 0 then (if t480 = 0 then (if (t472.length:Int) = (l0_0.length:Int) then (examboardlaw28_CalibrateOrder.j3 k3 l1 a3 x14_3 t472 t477 ((t477.length:Int) != (t472.length:Int)) l0_0 l0_1 l2_0 l2_1 l2_2) else (examboardlaw28_CalibrateOrder.j3 k3 l1 a3 x14_3 t472 t477 true l0_0 l0_1 l2_0 l2_1 l2_2)) else (examboardlaw28_CalibrateOrder.j3 k3 l1 a3 x14_3 t472 t477 true l0_0 l0_1 l2_0 l2_1 l2_2)) else (examboardlaw28_CalibrateOrder.j3 k3 l1 a3 x14_3 t472 t477 true l0_0 l0_1 l2_0 l2_1 l2_2)) = some r:=H
                 have A88:=Aside0.mk A880
                 clear A880
                 have HC89:=Aside0.mk H
                 clear H
                 have hnb90:=NB446_445.out
                 have hnc90:=NB445_446.out
                 have hnb91:=NB446_452.out
                 have hnc91:=NB452_446.out
                 have hcz92_0:wr.cell? ⟨gb446,0,none⟩ = some (.slice A2_0 l2_0.length c2_0):=(blk_cell BK446.out 0).trans rfl
                 have hcz92_1:wr.cell? ⟨gb446,1,none⟩ = some (.slice A2_1 l2_1.length c2_1):=(blk_cell BK446.out 1).trans rfl
                 have hcz92_2:wr.cell? ⟨gb446,2,none⟩ = some (.slice A2_2 l2_2.length c2_2):=(blk_cell BK446.out 2).trans rfl
                 have hfz92_0:=blk_frozen BK446.out 0
                 have hfz92_1:=blk_frozen BK446.out 1
                 have hfz92_2:=blk_frozen BK446.out 2
                 go_upto_region 23 with (first|((with_reducible refine gate_dst (N:=107) rfl ?_);(try (refine gate_guard (zz16) ?_;dsimp only));refine Kd.R_lit (Kd.int .i64) _ 3 ?hg (N:=107) ?hd (xs:=([]:List Int)) (inner:=[]) (ok:=fun _=>True) (okp:=fun _=>True) ?hr ?hp (fun _ hk=>hk) trivial (Below.refl _ _) (Nat.le_refl _) (zz13) ?_;(case hd=>rfl);(case hg=>rfl);(case hr=>exact zz122);(case hp=>exact (Reps.none _ _));intro v466 w93 ho94 hb hg_ hnew_;clear hg_ hnew_;(first|rw [← Ny465.out] at ho94|(simp only [Int.reduceToNat] at ho94;rw [← Ny465.out] at ho94));replace HO_447002:=Aside0.mk (Kd.V_elder' (zz112) (Kd.R_base ho94) hb);replace HO_453002:=Aside0.mk (Kd.N_elder' (zz110) (Kd.R_base ho94) hb);have HO467:=Aside0.mk (Kd.R_lower (Kd.R_newM (M:=fun k_=>(w.heap.size≤k_)) ho94 (below_size (zz108)) (fun k_ h_=>h_)) (below_size (zz108)));replace BK445:=Aside0.mk (blk_below (g:=gb445) (o:=.cells #[.slice A0_0 l0_0.length c0_0,.slice A0_1 l0_1.length c0_1] 24 (0,0)) (zz104) hb);replace BK446:=Aside0.mk (blk_below (g:=gb446) (o:=.cells #[.slice A2_0 l2_0.length c2_0,.slice A2_1 l2_1.length c2_1,.slice A2_2 l2_2.length c2_2] 36 (0,0)) (zz106) hb);replace BK452:=Aside0.mk (blk_below (g:=gb452) (o:=.cells #[.slice A2_0 l2_0.length c2_0,.slice A2_1 l2_1.length c2_1,.slice Ao43 x453002_1.length co43] 36 (0,0)) (zz109) hb);replace HB:=Aside0.mk (below_step (zz108) hb);clear hb ho94;have hcz95_0:w93.cell? ⟨gb446,0,none⟩ = some (.slice A2_0 l2_0.length c2_0):=(blk_cell BK446.out 0).trans rfl;have hcz95_1:w93.cell? ⟨gb446,1,none⟩ = some (.slice A2_1 l2_1.length c2_1):=(blk_cell BK446.out 1).trans rfl;have hcz95_2:w93.cell? ⟨gb446,2,none⟩ = some (.slice A2_2 l2_2.length c2_2):=(blk_cell BK446.out 2).trans rfl;have hfz95_0:=blk_frozen BK446.out 0;have hfz95_1:=blk_frozen BK446.out 1;have hfz95_2:=blk_frozen BK446.out 2;have p468:0≤(x14_3:Int):=of_decide_eq_true (zz10);have q468:x14_3 < (l2_2.length:Int):=of_decide_eq_true (zz10);obtain ⟨ad468,A468_0,c468_0,e468,hx468_0,hl468_0,hi468_0⟩:=at_L1 (Kd.V_reads' HO_447002.out).2.2 x14_3 p468 q468;cases e468;obtain ⟨ce468,hce468,hMe468,hcc468⟩:=Kd.V_get HO_447002.out [] x14_3 p468 (by first|exact q468|exact of_decide_eq_true (zz10)|(have e_:=(Kd.V_reads' HO_447002.out).1;omega));obtain ⟨ua468_0,uc468_0,rfl,ul468_0,ge468_0⟩:=Kd.FK_slice_open hMe468;have hv468_0:=hcc468 0 _ rfl;rw [Nat.add_zero,show ((Kd.slice 3 (Kd.int .i64))).sz = 1 from rfl,Nat.mul_one] at hv468_0;replace hv468_0:=Option.some.inj (hv468_0.symm.trans hx468_0);injection hv468_0 with hva_ hvn_ hvc_;rw [hva_] at ge468_0;rw [hvc_] at ul468_0;have HL468_0:=Aside0.mk (show Kd.V (Kd.int .i64) 3 _ w.heap.size _ _ (rd_L1 l2_2 x14_3) from Kd.V_mk ul468_0 ge468_0);clear hva_ hvn_ hvc_ ge468_0 ul468_0;clear hcc468 hce468;have HR468_0:=Aside0.mk hi468_0;have HC468_0:=Aside0.mk hl468_0;clear hi468_0 hl468_0;replace p468:=eq_true p468;replace q468:=eq_true q468)|((with_reducible refine gate_builtin (b:=.append) (xs:=#[.tmp 107,.tmp 112]) rfl ?_);(try (refine gate_guard (zz16) ?_;dsimp only));at_builtin;refine Kd.R_append_rows (Kd.int .i64) (w0:=w) w.heap.size rfl (.tmp 107) (.tmp 112) 22 3 (.int .i64 0) 8 rfl Try.underlying22 info3 rfl (zz29) (zz3) v466 y465 (rd_L1 l2_2 x14_3) _ _ _ (fun k_=>(w.heap.size≤k_)) (fun _=>False) rfl rfl ?aO ?aR (fun _ _ h=>h) (fun _ h=>h.elim) ?aF ?aB ?aS ?aL ?_;(case aR=>repeat (first|exact (by repeat (first|(with_reducible exact HR468_0.out)|(with_reducible refine Kd.C_alloc ?_ _)|(with_reducible refine Kd.C_drewN ?_ _)|(with_reducible refine Kd.C_drew ?_)|exact HR468_0.out))|(with_reducible refine Kd.C_alloc ?_ _)|(with_reducible refine Kd.C_drewN ?_ _)|(with_reducible refine Kd.C_drew ?_)));(case aB=>exact (zz108));(case aF=>exact (fun k_ hk=>(Nat.le_trans (below_size (zz108)) hk)));(case aO=>exact (by (with_reducible repeat (first|apply Kd.R_alloc|apply Kd.R_drewN|apply Kd.R_drew));exact Kd.R_mono HO467.out (fun _ hk=>hk.1)));(case aS=>exact (below_size (zz108)));(case aL=>have:=LMc74.out;omega);intro v470 w96 ho hb hg hat;rw [← Ny469.out] at ho;have n0_:=Aside0.mk (Kd.V_afterv (ok:=(fun k_=>(P2_2_ k_∨w.heap.size≤k_)∧some k_ ≠ (.slice Ao43 x453002_1.length co43:Value).ownBlock∧k_ ≠ gb445∧k_ ≠ gb446∧k_ ≠ gb452)) (zz112) hg hat);have n1_:=Aside0.mk (Kd.N_afterv (ok:=(fun k_=>(P2_2_ k_∨w.heap.size≤k_)∧k_ ≠ gb445∧k_ ≠ gb446∧k_ ≠ gb452)) (zz110) hg hat);have n2_:=Aside0.mk (blk_grown (g:=gb445) (o:=.cells #[.slice A0_0 l0_0.length c0_0,.slice A0_1 l0_1.length c0_1] 24 (0,0)) (zz104) hg (Kd.R_ne HO467.out BK445.out (zz29)));have n3_:=Aside0.mk (blk_grown (g:=gb446) (o:=.cells #[.slice A2_0 l2_0.length c2_0,.slice A2_1 l2_1.length c2_1,.slice (some ad468) l2_2.length c2_2] 36 (0,0)) (zz106) hg (Kd.R_ne HO467.out BK446.out (zz29)));have n4_:=Aside0.mk (blk_grown (g:=gb452) (o:=.cells #[.slice A2_0 l2_0.length c2_0,.slice A2_1 l2_1.length c2_1,.slice Ao43 x453002_1.length co43] 36 (0,0)) (zz109) hg (Kd.R_ne HO467.out BK452.out (zz29)));have n5_:=Aside0.mk (Kd.V_afterv (ok:=(fun k_=>(P2_2_ k_∨w.heap.size≤k_)∧some k_ ≠ (.slice Ao43 x453002_1.length co43:Value).ownBlock∧k_ ≠ gb445∧k_ ≠ gb446∧k_ ≠ gb452)) (zz115) hg hat);have n6_:=Aside0.mk (hb);have n7_:=Aside0.mk (ho);clear HO_447002;clear HO_453002;clear BK445;clear BK446;clear BK452;clear HL468_0;clear HB;clear HO467;have HO_447002:=n0_;have HO_453002:=n1_;have BK445:=n2_;have BK446:=n3_;have BK452:=n4_;have HL468_0:=n5_;have HB:=n6_;have HO471:=n7_;clear n0_ n1_ n2_ n3_ n4_ n5_ n6_ n7_;clear ho hb hg hat;obtain ⟨Ao97,co97,eo97⟩:=Kd.R_slice HO471.out;subst eo97;have hnb98:=NB445_452.out;have hnc98:=NB452_445.out;have hcz99_0:w96.cell? ⟨gb445,0,none⟩ = some (.slice A0_0 l0_0.length c0_0):=(blk_cell BK445.out 0).trans rfl;have hcz99_1:w96.cell? ⟨gb445,1,none⟩ = some (.slice A0_1 l0_1.length c0_1):=(blk_cell BK445.out 1).trans rfl;have hfz99_0:=blk_frozen BK445.out 0;have hfz99_1:=blk_frozen BK445.out 1)|((with_reducible refine gate_callee (f:=10) rfl ?_);refine goesL_ (some 123) rfl rfl Try.func10 (zz0) rfl #[.agg #[.slice A0_0 l0_0.length c0_0,.slice A0_1 l0_1.length c0_1],.slice A1 l1.length c1,.slice Ao97 y469.length co97,.int .i64 a3] rfl (zz15) ?_;(with_reducible refine (calibrate_Weights.calls k3 _ _ l0_0 _ _ l0_1 _ _ l1 _ _ y469 a3 t472 t475 _ ?side1 ?side2 ?side3 ?side4 ?side5 ?side6 ?side7 ?side8 A84.out).mono ?_);(case side1=>exact zz123);(case side2=>exact zz124);(case side3=>exact zz125);(case side4=>exact zz126);(case side5=>exact zz129);(case side6=>exact HC1.out);(case side7=>repeat (first|exact (Kd.R_reads' HO471.out).2.2|(with_reducible refine Kd.C_alloc ?_ _)|(with_reducible refine Kd.C_drewN ?_ _)|(with_reducible refine Kd.C_drew ?_)));(case side8=>exact (Kd.R_reads' HO471.out).2.1);rintro e w100 ⟨v473,rfl,ho0,hb⟩;refine ⟨_,rfl,?_⟩;replace HO_447002:=Aside0.mk (Kd.V_elder' (zz112) (Kd.N_base ho0) hb);replace HL468_0:=Aside0.mk (Kd.V_elder' (zz115) (Kd.N_base ho0) hb);have HO474:=Aside0.mk (Kd.N_lower (Kd.N_mono (ok':=fun k_=>(P2_2_ k_∨w.heap.size≤k_)∧some k_ ≠ (.slice Ao43 x453002_1.length co43:Value).ownBlock∧some k_ ≠ (.slice Ao97 y469.length co97:Value).ownBlock∧k_ ≠ gb445∧k_ ≠ gb446∧k_ ≠ gb452) ho0 (fun k_ hk_=>⟨(.inr (Nat.le_trans (below_size (zz108)) hk_)),(Kd.fresh' (Kd.N_lt (zz110)) k_ hk_),(Kd.fresh' (Kd.R_lt (zz116)) k_ hk_),(Kd.freshB (g:=gb445) (o:=.cells #[.slice A0_0 l0_0.length c0_0,.slice A0_1 l0_1.length c0_1] 24 (0,0)) (zz104) k_ hk_),(Kd.freshB (g:=gb446) (o:=.cells #[.slice A2_0 l2_0.length c2_0,.slice A2_1 l2_1.length c2_1,.slice (some ad468) l2_2.length c2_2] 36 (0,0)) (zz106) k_ hk_),(Kd.freshB (g:=gb452) (o:=.cells #[.slice A2_0 l2_0.length c2_0,.slice A2_1 l2_1.length c2_1,.slice Ao43 x453002_1.length co43] 36 (0,0)) (zz109) k_ hk_)⟩)) (below_size (zz108)));replace HO_453002:=Aside0.mk (Kd.N_elder' (zz110) (Kd.N_base ho0) hb);replace HO471:=Aside0.mk (Kd.R_below (zz116) hb);replace BK445:=Aside0.mk (blk_below (g:=gb445) (o:=.cells #[.slice A0_0 l0_0.length c0_0,.slice A0_1 l0_1.length c0_1] 24 (0,0)) (zz104) hb);replace BK446:=Aside0.mk (blk_below (g:=gb446) (o:=.cells #[.slice A2_0 l2_0.length c2_0,.slice A2_1 l2_1.length c2_1,.slice (some ad468) l2_2.length c2_2] 36 (0,0)) (zz106) hb);replace BK452:=Aside0.mk (blk_below (g:=gb452) (o:=.cells #[.slice A2_0 l2_0.length c2_0,.slice A2_1 l2_1.length c2_1,.slice Ao43 x453002_1.length co43] 36 (0,0)) (zz109) hb);replace HB:=Aside0.mk (below_step (zz108) hb);(try clear hb);(try clear hb2);(try clear hk);(try clear hi);(try clear ho0);have p87:0≤(a3:Int):=of_decide_eq_true (zz10);have q87:(a3:Int) < ((y469.length:Int):Int):=of_decide_eq_true (zz10);obtain ⟨go87,co87,eo87,gb87,gl87,cl87,HG87⟩:=Kd.R_form HO471.out (zz3);(first|cases eo87|(injection eo87 with ea_ en_ ec_;(first|subst ea_|(injection ea_ with ea_;subst ea_));subst ec_;clear en_));have GB87:=Aside0.mk gb87;have GG87:=Aside0.mk HG87;clear gb87 gl87 HG87;obtain ⟨hx87_0,hf87_0⟩:=Kd.R_celln 0 HO471.out (a3:Int) p87 q87;replace p87:=eq_true p87;replace q87:=eq_true q87;obtain ⟨hy101_,hz101_⟩:=Kd.R_celln 0 HO471.out (a3:Int) (of_decide_eq_true (zz10)) (of_decide_eq_true (zz10));have HP101:=Kd.R_putg HO471.out (a3:Int) (-1))|((with_reducible refine gate_store (t:=3) (p:=128) rfl ?_);refine store_event (t:=3) (p:=128) (v:=?vo_w102) (w1:=(w100.setCell ⟨go87,(a3:Int).toNat,none⟩ (.int .i64 (-1)))) ?hg ?ho ?hn ?hr ?_;(case ho=>rfl);(case hg=>rfl);(case hn=>rfl);(case hr=>exact zz122);intro w102 hw;have hg:w100.grownBy w102 (some go87):=(by rw [hw];exact HP101.2);have hp_:Kd.R (Kd.int .i64) 3 w102 w.heap.size (fun k_=>(w.heap.size≤k_)) (.slice (some ⟨go87,0,none⟩) y469.length co97) y476:=(by rw [hw,Ny476.out];exact HP101.1);clear HP101;replace HO_447002:=Aside0.mk (Kd.V_afterv (v:=(.slice (some ⟨go87,0,none⟩) y469.length co97)) (v1:=(.slice (some ⟨go87,0,none⟩) y469.length co97)) (ok:=(fun k_=>(P2_2_ k_∨w.heap.size≤k_)∧some k_ ≠ (.slice Ao43 x453002_1.length co43:Value).ownBlock∧some k_ ≠ (v473:Value).ownBlock∧k_ ≠ gb445∧k_ ≠ gb446∧k_ ≠ gb452)) (by (with_reducible repeat (first|apply Kd.V_alloc|apply Kd.V_drewN|apply Kd.V_drew));exact Kd.V_mono HO_447002.out (fun _ hk=>⟨⟨hk.1.1.1,⟨hk.1.1.2.1,⟨hk.2,⟨hk.1.1.2.2.1,⟨hk.1.1.2.2.2.1,hk.1.1.2.2.2.2⟩⟩⟩⟩⟩,hk.1.2⟩)) hg (.inl rfl));replace HO_453002:=Aside0.mk (Kd.N_afterv (v:=(.slice (some ⟨go87,0,none⟩) y469.length co97)) (v1:=(.slice (some ⟨go87,0,none⟩) y469.length co97)) (ok:=(fun k_=>(P2_2_ k_∨w.heap.size≤k_)∧some k_ ≠ (v473:Value).ownBlock∧k_ ≠ gb445∧k_ ≠ gb446∧k_ ≠ gb452)) (by (with_reducible repeat (first|apply Kd.N_alloc|apply Kd.N_drewN|apply Kd.N_drew));exact Kd.N_mono HO_453002.out (fun _ hk=>⟨⟨hk.1.1.1,⟨hk.2,⟨hk.1.1.2.1,⟨hk.1.1.2.2.1,hk.1.1.2.2.2⟩⟩⟩⟩,hk.1.2⟩)) hg (.inl rfl));replace BK445:=Aside0.mk (blk_grown (g:=gb445) (o:=.cells #[.slice A0_0 l0_0.length c0_0,.slice A0_1 l0_1.length c0_1] 24 (0,0)) (zz104) hg (Kd.R_ne HO471.out BK445.out (zz29)));replace BK446:=Aside0.mk (blk_grown (g:=gb446) (o:=.cells #[.slice A2_0 l2_0.length c2_0,.slice A2_1 l2_1.length c2_1,.slice (some ad468) l2_2.length c2_2] 36 (0,0)) (zz106) hg (Kd.R_ne HO471.out BK446.out (zz29)));replace BK452:=Aside0.mk (blk_grown (g:=gb452) (o:=.cells #[.slice A2_0 l2_0.length c2_0,.slice A2_1 l2_1.length c2_1,.slice Ao43 x453002_1.length co43] 36 (0,0)) (zz109) hg (Kd.R_ne HO471.out BK452.out (zz29)));replace HL468_0:=Aside0.mk (Kd.V_afterv (v:=(.slice (some ⟨go87,0,none⟩) y469.length co97)) (v1:=(.slice (some ⟨go87,0,none⟩) y469.length co97)) (ok:=(fun k_=>(P2_2_ k_∨w.heap.size≤k_)∧some k_ ≠ (.slice Ao43 x453002_1.length co43:Value).ownBlock∧some k_ ≠ (v473:Value).ownBlock∧k_ ≠ gb445∧k_ ≠ gb446∧k_ ≠ gb452)) (by (with_reducible repeat (first|apply Kd.V_alloc|apply Kd.V_drewN|apply Kd.V_drew));exact Kd.V_mono HL468_0.out (fun _ hk=>⟨⟨hk.1.1.1,⟨hk.1.1.2.1,⟨hk.2,⟨hk.1.1.2.2.1,⟨hk.1.1.2.2.2.1,hk.1.1.2.2.2.2⟩⟩⟩⟩⟩,hk.1.2⟩)) hg (.inl rfl));replace HO471:=Aside0.mk (hp_);replace HO474:=Aside0.mk (Kd.N_afterv (v:=(.slice (some ⟨go87,0,none⟩) y469.length co97)) (v1:=(.slice (some ⟨go87,0,none⟩) y469.length co97)) (ok:=(fun k_=>(P2_2_ k_∨w.heap.size≤k_)∧some k_ ≠ (.slice Ao43 x453002_1.length co43:Value).ownBlock∧k_ ≠ gb445∧k_ ≠ gb446∧k_ ≠ gb452)) (by (with_reducible repeat (first|apply Kd.N_alloc|apply Kd.N_drewN|apply Kd.N_drew));exact Kd.N_mono HO474.out (fun _ hk=>⟨⟨hk.1,⟨hk.2.1,⟨hk.2.2.2.1,⟨hk.2.2.2.2.1,hk.2.2.2.2.2⟩⟩⟩⟩,hk.2.2.1⟩)) hg (.inl rfl));replace HB:=Aside0.mk ((by rw [hw];exact below_set (HB.out) GB87.out:Below w.heap.size w w102));clear hg hw hp_;have hcz103_0:w102.cell? ⟨gb445,0,none⟩ = some (.slice A0_0 l0_0.length c0_0):=(blk_cell BK445.out 0).trans rfl;have hcz103_1:w102.cell? ⟨gb445,1,none⟩ = some (.slice A0_1 l0_1.length c0_1):=(blk_cell BK445.out 1).trans rfl;have hfz103_0:=blk_frozen BK445.out 0;have hfz103_1:=blk_frozen BK445.out 1)|((with_reducible refine gate_callee (f:=10) rfl ?_);refine goesL_ (some 133) rfl rfl Try.func10 (zz0) rfl #[.agg #[.slice A0_0 l0_0.length c0_0,.slice A0_1 l0_1.length c0_1],.slice A1 l1.length c1,.slice (some ⟨go87,0,none⟩) y476.length co97,.int .i64 (-1)] rfl (by (try simp only [List.map_toArray,List.map_cons,List.map_nil]);first|done|(rw [show y476.length = y469.length from (Kd.R_reads' HO471.out).1.symm]<;>rfl)|rfl|(simp only [List.length_drop,List.length_take];rfl)) ?_;(with_reducible refine (calibrate_Weights.calls k3 _ _ l0_0 _ _ l0_1 _ _ l1 _ _ y476 (-1) t477 t480 _ ?side1 ?side2 ?side3 ?side4 ?side5 ?side6 ?side7 ?side8 A88.out).mono ?_);(case side1=>exact zz123);(case side2=>exact zz124);(case side3=>exact zz125);(case side4=>exact zz126);(case side5=>exact zz129);(case side6=>exact HC1.out);(case side7=>repeat (first|exact (Kd.R_reads' HO471.out).2.2|(with_reducible refine Kd.C_alloc ?_ _)|(with_reducible refine Kd.C_drewN ?_ _)|(with_reducible refine Kd.C_drew ?_)));(case side8=>rw [show y476.length = y469.length from (Kd.R_reads' HO471.out).1.symm];exact (Kd.R_reads' HO471.out).2.1);rintro e w104 ⟨v478,rfl,ho0,hb⟩;refine ⟨_,rfl,?_⟩;replace HO_447002:=Aside0.mk (Kd.V_elder' (zz112) (Kd.N_base ho0) hb);replace HL468_0:=Aside0.mk (Kd.V_elder' (zz115) (Kd.N_base ho0) hb);have HO479:=Aside0.mk (Kd.N_lower (Kd.N_mono (ok':=fun k_=>(P2_2_ k_∨w.heap.size≤k_)∧some k_ ≠ (.slice Ao43 x453002_1.length co43:Value).ownBlock∧some k_ ≠ (.slice (some ⟨go87,0,none⟩) y469.length co97:Value).ownBlock∧some k_ ≠ (v473:Value).ownBlock∧k_ ≠ gb445∧k_ ≠ gb446∧k_ ≠ gb452) ho0 (fun k_ hk_=>⟨(.inr (Nat.le_trans (below_size (zz108)) hk_)),(Kd.fresh' (Kd.N_lt (zz110)) k_ hk_),(Kd.fresh' (Kd.R_lt (zz116)) k_ hk_),(Kd.fresh' (Kd.N_lt (by (with_reducible repeat (first|apply Kd.N_alloc|apply Kd.N_drewN|apply Kd.N_drew));exact HO474.out)) k_ hk_),(Kd.freshB (g:=gb445) (o:=.cells #[.slice A0_0 l0_0.length c0_0,.slice A0_1 l0_1.length c0_1] 24 (0,0)) (zz104) k_ hk_),(Kd.freshB (g:=gb446) (o:=.cells #[.slice A2_0 l2_0.length c2_0,.slice A2_1 l2_1.length c2_1,.slice (some ad468) l2_2.length c2_2] 36 (0,0)) (zz106) k_ hk_),(Kd.freshB (g:=gb452) (o:=.cells #[.slice A2_0 l2_0.length c2_0,.slice A2_1 l2_1.length c2_1,.slice Ao43 x453002_1.length co43] 36 (0,0)) (zz109) k_ hk_)⟩)) (below_size (zz108)));replace HO_453002:=Aside0.mk (Kd.N_elder' (zz110) (Kd.N_base ho0) hb);replace HO471:=Aside0.mk (Kd.R_below (zz116) hb);replace HO474:=Aside0.mk (Kd.N_elder' (by (with_reducible repeat (first|apply Kd.N_alloc|apply Kd.N_drewN|apply Kd.N_drew));exact HO474.out) (Kd.N_base ho0) hb);replace BK445:=Aside0.mk (blk_below (g:=gb445) (o:=.cells #[.slice A0_0 l0_0.length c0_0,.slice A0_1 l0_1.length c0_1] 24 (0,0)) (zz104) hb);replace BK446:=Aside0.mk (blk_below (g:=gb446) (o:=.cells #[.slice A2_0 l2_0.length c2_0,.slice A2_1 l2_1.length c2_1,.slice (some ad468) l2_2.length c2_2] 36 (0,0)) (zz106) hb);replace BK452:=Aside0.mk (blk_below (g:=gb452) (o:=.cells #[.slice A2_0 l2_0.length c2_0,.slice A2_1 l2_1.length c2_1,.slice Ao43 x453002_1.length co43] 36 (0,0)) (zz109) hb);replace HB:=Aside0.mk (below_step (zz108) hb);(try clear hb);(try clear hb2);(try clear hk);(try clear hi);(try clear ho0)))
                 (try simp only [Act.put,List.setIfInBounds_toArray,List.set_cons_zero,List.set_cons_succ])
                 go_cut [156] (fun v156 wc=>∃ (kq:Nat) (x156_88:Bool),v156 = .bool x156_88∧Aside0 (examboardlaw28_CalibrateOrder.j3 kq l1 a3 x14_3 t472 t477 x156_88 l0_0 l0_1 l2_0 l2_1 l2_2 = some r)∧Aside0 (kq≤k3)∧Aside0 (Kd.N (Kd.slice 65 (Kd.int .u32)) 32 wc w.heap.size (fun k_=>(P2_2_ k_∨w.heap.size≤k_)∧some k_ ≠ (v478:Value).ownBlock∧some k_ ≠ ((.slice Ao43 x453002_1.length co43):Value).ownBlock∧k_ ≠ gb445∧k_ ≠ gb446∧k_ ≠ gb452) v473 t472)∧Aside0 (Kd.N (Kd.slice 65 (Kd.int .u32)) 32 wc w.heap.size (fun k_=>(P2_2_ k_∨w.heap.size≤k_)∧some k_ ≠ (v473:Value).ownBlock∧some k_ ≠ ((.slice Ao43 x453002_1.length co43):Value).ownBlock∧k_ ≠ gb445∧k_ ≠ gb446∧k_ ≠ gb452) v478 t477)∧Aside0 (Kd.V (Kd.slice 3 (Kd.int .i64)) 22 wc w.heap.size (fun k_=>(P2_2_ k_∨w.heap.size≤k_)∧some k_ ≠ (v473:Value).ownBlock∧some k_ ≠ (v478:Value).ownBlock∧some k_ ≠ ((.slice Ao43 x453002_1.length co43):Value).ownBlock∧k_ ≠ gb445∧k_ ≠ gb446∧k_ ≠ gb452) (.slice (some ad468) l2_2.length c2_2) l2_2)∧Aside0 (Kd.N (Kd.slice 3 (Kd.int .i64)) 22 wc w.heap.size (fun k_=>(P2_2_ k_∨w.heap.size≤k_)∧some k_ ≠ (v473:Value).ownBlock∧some k_ ≠ (v478:Value).ownBlock∧k_ ≠ gb445∧k_ ≠ gb446∧k_ ≠ gb452) (.slice Ao43 x453002_1.length co43) x453002_1)∧Aside0 (wc.heap[gb445]? = some (.cells #[(.slice A0_0 l0_0.length c0_0),(.slice A0_1 l0_1.length c0_1)] 24 (0,0)))∧Aside0 (wc.heap[gb446]? = some (.cells #[(.slice A2_0 l2_0.length c2_0),(.slice A2_1 l2_1.length c2_1),(.slice (some ad468) l2_2.length c2_2)] 36 (0,0)))∧Aside0 (wc.heap[gb452]? = some (.cells #[(.slice A2_0 l2_0.length c2_0),(.slice A2_1 l2_1.length c2_1),(.slice Ao43 x453002_1.length co43)] 36 (0,0)))∧Aside0 (Below w.heap.size w wc))
                 case first =>
                  have H:=HC89.out
                  clear HC89
                  by_cases c105:t475 = 0
                  ·rw [if_pos c105] at H
                   have c105b0:(t475 == 0) = true:=beq_iff_eq.mpr c105
                   have c105b1:(t475 != 0) = false:=bne_eq_false_iff_eq.mpr c105
                   clear c105
                   (first|rw [c105b0]|rw [c105b1]|(simp only [i64_w,i32_w];rw [c105b0])|skip)
                   by_cases c106:t480 = 0
                   ·rw [if_pos c106] at H
                    have c106b0:(t480 == 0) = true:=beq_iff_eq.mpr c106
                    have c106b1:(t480 != 0) = false:=bne_eq_false_iff_eq.mpr c106
                    clear c106
                    by_cases c107:(t472.length:Int) = (l0_0.length:Int)
                    ·rw [if_pos c107] at H
                     have c107b0:((t472.length:Int) == (l0_0.length:Int)) = true:=beq_iff_eq.mpr c107
                     have c107b1:((t472.length:Int) != (l0_0.length:Int)) = false:=bne_eq_false_iff_eq.mpr c107
                     have c107b2:(t472.length == l0_0.length) = true:=by first|simpa using c107|(simp at c107 ⊢;omega)
                     clear c107
                     have H':=Aside0.mk H
                     clear H
                     obtain ⟨Ao108,co108,eo108⟩:=Kd.N_slice HO474.out
                     subst eo108
                     have hnb109:=NB445_446.out
                     have hnc109:=NB446_445.out
                     have hnb110:=NB445_452.out
                     have hnc110:=NB452_445.out
                     have hcz111_0:w104.cell? ⟨gb445,0,none⟩ = some (.slice A0_0 l0_0.length c0_0):=(blk_cell BK445.out 0).trans rfl
                     have hcz111_1:w104.cell? ⟨gb445,1,none⟩ = some (.slice A0_1 l0_1.length c0_1):=(blk_cell BK445.out 1).trans rfl
                     have hfz111_0:=blk_frozen BK445.out 0
                     have hfz111_1:=blk_frozen BK445.out 1
                     obtain ⟨Ao112,co112,eo112⟩:=Kd.N_slice HO479.out
                     subst eo112
                     go_wp2
                     go_meet
                     case rel=>exact ⟨_,(((t477.length:Int) != (t472.length:Int))),(zz1),H',⟨zz117⟩,⟨zz118⟩,⟨zz119⟩,⟨zz120⟩,⟨zz121⟩,⟨zz104⟩,⟨zz106⟩,⟨zz109⟩,⟨zz108⟩⟩
                    ·rw [if_neg c107] at H
                     have c107b0:((t472.length:Int) == (l0_0.length:Int)) = false:=beq_eq_false_iff_ne.mpr c107
                     have c107b1:((t472.length:Int) != (l0_0.length:Int)) = true:=bne_iff_ne.mpr c107
                     have c107b2:(t472.length == l0_0.length) = false:=by first|simpa using c107|(simp at c107 ⊢;omega)
                     have H':=Aside0.mk H
                     clear H
                     obtain ⟨Ao113,co113,eo113⟩:=Kd.N_slice HO474.out
                     subst eo113
                     have hnb114:=NB445_446.out
                     have hnc114:=NB446_445.out
                     have hnb115:=NB445_452.out
                     have hnc115:=NB452_445.out
                     have hcz116_0:w104.cell? ⟨gb445,0,none⟩ = some (.slice A0_0 l0_0.length c0_0):=(blk_cell BK445.out 0).trans rfl
                     have hcz116_1:w104.cell? ⟨gb445,1,none⟩ = some (.slice A0_1 l0_1.length c0_1):=(blk_cell BK445.out 1).trans rfl
                     have hfz116_0:=blk_frozen BK445.out 0
                     have hfz116_1:=blk_frozen BK445.out 1
                     go_wp2
                     go_meet
                     case rel=>exact ⟨_,(true),(zz1),H',⟨zz117⟩,⟨zz118⟩,⟨zz119⟩,⟨zz120⟩,⟨zz121⟩,⟨zz104⟩,⟨zz106⟩,⟨zz109⟩,⟨zz108⟩⟩
                   ·rw [if_neg c106] at H
                    have c106b0:(t480 == 0) = false:=beq_eq_false_iff_ne.mpr c106
                    have c106b1:(t480 != 0) = true:=bne_iff_ne.mpr c106
                    have H':=Aside0.mk H
                    clear H
                    go_wp2
                    go_meet
                    case rel=>exact ⟨_,(true),(zz1),H',⟨zz117⟩,⟨zz118⟩,⟨zz119⟩,⟨zz120⟩,⟨zz121⟩,⟨zz104⟩,⟨zz106⟩,⟨zz109⟩,⟨zz108⟩⟩
                  ·rw [if_neg c105] at H
                   have c105b0:(t475 == 0) = false:=beq_eq_false_iff_ne.mpr c105
                   have c105b1:(t475 != 0) = true:=bne_iff_ne.mpr c105
                   (first|rw [c105b0]|rw [c105b1]|(simp only [i64_w,i32_w];rw [c105b0])|skip)
                   have H':=Aside0.mk H
                   clear H
                   go_wp2
                   go_meet
                   case rel=>exact ⟨_,(true),(zz1),H',⟨zz117⟩,⟨zz118⟩,⟨zz119⟩,⟨zz120⟩,⟨zz121⟩,⟨zz104⟩,⟨zz106⟩,⟨zz109⟩,⟨zz108⟩⟩
                 case rest =>
                  clear HC89;(try clear c1);(try clear c2);(try clear p2);(try clear c3);(try clear c4);(try clear p4);(try clear q4);(try clear hx4);(try clear c5);(try clear c6);(try clear p6);(try clear c7);(try clear c8);(try clear p8);(try clear q8);(try clear hx8);(try clear hf8);(try clear c9);(try clear c10);(try clear c11);(try clear c13);(try clear c13b0);(try clear c13b1);(try clear c14);(try clear c16);(try clear c24);(try clear c25);(try clear c28);(try clear c28b0);(try clear c29);(try clear c29b0);(try clear c30);(try clear c30b0);(try clear c31);(try clear c38);(try clear c39);(try clear c41);(try clear c45);(try clear c45b0);(try clear c45b1);(try clear p45);(try clear q45);(try clear hx45);(try clear c46);(try clear p46);(try clear q46);(try clear hx46);(try clear c47);(try clear c47b0);(try clear c47b1);(try clear c51);(try clear c52);(try clear c52b0);(try clear c62);(try clear c63);(try clear c63b0);(try clear c63b1);(try clear p64);(try clear c65);(try clear c65b0);(try clear c72);(try clear c72b0);(try clear c73);(try clear c73b0);(try clear c74);(try clear c75);(try clear c75b0);(try clear c76);(try clear c77);(try clear c85);(try clear c85b0);(try clear c86);(try clear c86b0);(try clear p87);(try clear q87);(try clear hx87);(try clear hf87);(try clear c90);(try clear c91);(try clear c98);(try clear c105);(try clear c105b0);(try clear c105b1);(try clear c106);(try clear c106b0);(try clear c106b1);(try clear c107);(try clear c107b0);(try clear c107b1);(try clear c107b2);(try clear c109);(try clear c110);(try clear c114);(try clear c115);(try clear hcz103_0);(try clear hcz103_1);(try clear hcz10_0);(try clear hcz10_1);(try clear hcz10_2);(try clear hcz111_0);(try clear hcz111_1);(try clear hcz116_0);(try clear hcz116_1);(try clear hcz17_0);(try clear hcz17_1);(try clear hcz17_2);(try clear hcz19_0);(try clear hcz19_1);(try clear hcz20_0);(try clear hcz20_1);(try clear hcz20_2);(try clear hcz22_0);(try clear hcz22_1);(try clear hcz22_2);(try clear hcz26_0);(try clear hcz26_1);(try clear hcz26_2);(try clear hcz27_0);(try clear hcz27_1);(try clear hcz27_2);(try clear hcz40_0);(try clear hcz40_1);(try clear hcz42_0);(try clear hcz42_1);(try clear hcz42_2);(try clear hcz78_0);(try clear hcz78_1);(try clear hcz78_2);(try clear hcz81_0);(try clear hcz81_1);(try clear hcz81_2);(try clear hcz92_0);(try clear hcz92_1);(try clear hcz92_2);(try clear hcz95_0);(try clear hcz95_1);(try clear hcz95_2);(try clear hcz99_0);(try clear hcz99_1);(try clear hfz103_0);(try clear hfz103_1);(try clear hfz10_0);(try clear hfz10_1);(try clear hfz10_2);(try clear hfz111_0);(try clear hfz111_1);(try clear hfz116_0);(try clear hfz116_1);(try clear hfz17_0);(try clear hfz17_1);(try clear hfz17_2);(try clear hfz19_0);(try clear hfz19_1);(try clear hfz20_0);(try clear hfz20_1);(try clear hfz20_2);(try clear hfz22_0);(try clear hfz22_1);(try clear hfz22_2);(try clear hfz26_0);(try clear hfz26_1);(try clear hfz26_2);(try clear hfz27_0);(try clear hfz27_1);(try clear hfz27_2);(try clear hfz40_0);(try clear hfz40_1);(try clear hfz42_0);(try clear hfz42_1);(try clear hfz42_2);(try clear hfz78_0);(try clear hfz78_1);(try clear hfz78_2);(try clear hfz81_0);(try clear hfz81_1);(try clear hfz81_2);(try clear hfz92_0);(try clear hfz92_1);(try clear hfz92_2);(try clear hfz95_0);(try clear hfz95_1);(try clear hfz95_2);(try clear hfz99_0);(try clear hfz99_1);(try clear hx453_0);(try clear hx468_0);(try clear hx87_0);(try clear p2);(try clear p4);(try clear p45);(try clear p453);(try clear p468);(try clear p6);(try clear p64);(try clear p87);(try clear q4);(try clear q45);(try clear q453);(try clear q468);(try clear q87)
                  obtain ⟨kq,x156_88,rfl,HA,HJ88,HO_16,HO_18,HO_447002,HO_453002,BK445,BK446,BK452,HB⟩:=hcut
                  cases kq with
                  | zero=>exact absurd HA.out (by simp [examboardlaw28_CalibrateOrder.j3])
                  | succ kj88 =>
                   have H:=HA.out
                   clear HA
                   simp only [examboardlaw28_CalibrateOrder.j3] at H
                   by_cases c117:x156_88 = true
                   ·subst c117
                    have H1:(some false) = some r:=zz9
                    clear H
                    have H:=H1
                    clear H1
                    obtain rfl:=Option.some.inj H
                    go_wp2
                    go_ret
                    exact ⟨zz5,zz108⟩
                   ·replace c117:=Bool.eq_false_iff.mpr c117
                    subst c117
                    have H1:(examboardlaw28_CalibrateOrder.l2 kj88 l1 a3 x14_3 t472 t477 0 l0_0 l0_1 l2_0 l2_1 l2_2) = some r:=zz12
                    clear H
                    have H:=H1
                    clear H1
                    have H':=Aside0.mk H
                    clear H
                    go_wp2
                    go_loopg [20] kj88 (fun kq v20 w'=>∃ (x20_5:Int),v20 = .int .i64 x20_5∧Aside0 (examboardlaw28_CalibrateOrder.l2 kq l1 a3 x14_3 t472 t477 x20_5 l0_0 l0_1 l2_0 l2_1 l2_2 = some r)∧Aside0 (kq≤kj88)∧Aside0 (Kd.N (Kd.slice 65 (Kd.int .u32)) 32 w' w.heap.size (fun k_=>(P2_2_ k_∨w.heap.size≤k_)∧some k_ ≠ (v478:Value).ownBlock∧some k_ ≠ ((.slice Ao43 x453002_1.length co43):Value).ownBlock∧k_ ≠ gb445∧k_ ≠ gb446∧k_ ≠ gb452) v473 t472)∧Aside0 (Kd.N (Kd.slice 65 (Kd.int .u32)) 32 w' w.heap.size (fun k_=>(P2_2_ k_∨w.heap.size≤k_)∧some k_ ≠ (v473:Value).ownBlock∧some k_ ≠ ((.slice Ao43 x453002_1.length co43):Value).ownBlock∧k_ ≠ gb445∧k_ ≠ gb446∧k_ ≠ gb452) v478 t477)∧Aside0 (Kd.V (Kd.slice 3 (Kd.int .i64)) 22 w' w.heap.size (fun k_=>(P2_2_ k_∨w.heap.size≤k_)∧some k_ ≠ (v473:Value).ownBlock∧some k_ ≠ (v478:Value).ownBlock∧some k_ ≠ ((.slice Ao43 x453002_1.length co43):Value).ownBlock∧k_ ≠ gb445∧k_ ≠ gb446∧k_ ≠ gb452) (.slice (some ad468) l2_2.length c2_2) l2_2)∧Aside0 (Kd.N (Kd.slice 3 (Kd.int .i64)) 22 w' w.heap.size (fun k_=>(P2_2_ k_∨w.heap.size≤k_)∧some k_ ≠ (v473:Value).ownBlock∧some k_ ≠ (v478:Value).ownBlock∧k_ ≠ gb445∧k_ ≠ gb446∧k_ ≠ gb452) (.slice Ao43 x453002_1.length co43) x453002_1)∧Aside0 (w'.heap[gb445]? = some (.cells #[(.slice A0_0 l0_0.length c0_0),(.slice A0_1 l0_1.length c0_1)] 24 (0,0)))∧Aside0 (w'.heap[gb446]? = some (.cells #[(.slice A2_0 l2_0.length c2_0),(.slice A2_1 l2_1.length c2_1),(.slice (some ad468) l2_2.length c2_2)] 36 (0,0)))∧Aside0 (w'.heap[gb452]? = some (.cells #[(.slice A2_0 l2_0.length c2_0),(.slice A2_1 l2_1.length c2_1),(.slice Ao43 x453002_1.length co43)] 36 (0,0)))∧Aside0 (Below w.heap.size w w'))
                    case atStart=>exact ⟨(0),(zz1),H',⟨Nat.le_refl _⟩,⟨by (with_reducible repeat (first|apply Kd.N_alloc|apply Kd.N_drewN|apply Kd.N_drew));exact HO_16.out⟩,⟨by (with_reducible repeat (first|apply Kd.N_alloc|apply Kd.N_drewN|apply Kd.N_drew));exact HO_18.out⟩,⟨zz112⟩,⟨zz110⟩,⟨zz104⟩,⟨zz106⟩,⟨zz109⟩,⟨zz108⟩⟩
                    case round =>
                     clear H'
                     (try clear c1);(try clear c2);(try clear p2);(try clear c3);(try clear c4);(try clear p4);(try clear q4);(try clear hx4);(try clear c5);(try clear c6);(try clear p6);(try clear c7);(try clear c8);(try clear p8);(try clear q8);(try clear hx8);(try clear hf8);(try clear c9);(try clear c10);(try clear c11);(try clear c13);(try clear c13b0);(try clear c13b1);(try clear c14);(try clear c16);(try clear c24);(try clear c25);(try clear c28);(try clear c28b0);(try clear c29);(try clear c29b0);(try clear c30);(try clear c30b0);(try clear c31);(try clear c38);(try clear c39);(try clear c41);(try clear c45);(try clear c45b0);(try clear c45b1);(try clear p45);(try clear q45);(try clear hx45);(try clear c46);(try clear p46);(try clear q46);(try clear hx46);(try clear c47);(try clear c47b0);(try clear c47b1);(try clear c51);(try clear c52);(try clear c52b0);(try clear c62);(try clear c63);(try clear c63b0);(try clear c63b1);(try clear p64);(try clear c65);(try clear c65b0);(try clear c72);(try clear c72b0);(try clear c73);(try clear c73b0);(try clear c74);(try clear c75);(try clear c75b0);(try clear c76);(try clear c77);(try clear c85);(try clear c85b0);(try clear c86);(try clear c86b0);(try clear p87);(try clear q87);(try clear hx87);(try clear hf87);(try clear c90);(try clear c91);(try clear c98);(try clear c105);(try clear c105b0);(try clear c105b1);(try clear c106);(try clear c106b0);(try clear c106b1);(try clear c107);(try clear c107b0);(try clear c107b1);(try clear c107b2);(try clear c109);(try clear c110);(try clear c114);(try clear c115);(try clear c117);(try clear hcz103_0);(try clear hcz103_1);(try clear hcz10_0);(try clear hcz10_1);(try clear hcz10_2);(try clear hcz111_0);(try clear hcz111_1);(try clear hcz116_0);(try clear hcz116_1);(try clear hcz17_0);(try clear hcz17_1);(try clear hcz17_2);(try clear hcz19_0);(try clear hcz19_1);(try clear hcz20_0);(try clear hcz20_1);(try clear hcz20_2);(try clear hcz22_0);(try clear hcz22_1);(try clear hcz22_2);(try clear hcz26_0);(try clear hcz26_1);(try clear hcz26_2);(try clear hcz27_0);(try clear hcz27_1);(try clear hcz27_2);(try clear hcz40_0);(try clear hcz40_1);(try clear hcz42_0);(try clear hcz42_1);(try clear hcz42_2);(try clear hcz78_0);(try clear hcz78_1);(try clear hcz78_2);(try clear hcz81_0);(try clear hcz81_1);(try clear hcz81_2);(try clear hcz92_0);(try clear hcz92_1);(try clear hcz92_2);(try clear hcz95_0);(try clear hcz95_1);(try clear hcz95_2);(try clear hcz99_0);(try clear hcz99_1);(try clear hfz103_0);(try clear hfz103_1);(try clear hfz10_0);(try clear hfz10_1);(try clear hfz10_2);(try clear hfz111_0);(try clear hfz111_1);(try clear hfz116_0);(try clear hfz116_1);(try clear hfz17_0);(try clear hfz17_1);(try clear hfz17_2);(try clear hfz19_0);(try clear hfz19_1);(try clear hfz20_0);(try clear hfz20_1);(try clear hfz20_2);(try clear hfz22_0);(try clear hfz22_1);(try clear hfz22_2);(try clear hfz26_0);(try clear hfz26_1);(try clear hfz26_2);(try clear hfz27_0);(try clear hfz27_1);(try clear hfz27_2);(try clear hfz40_0);(try clear hfz40_1);(try clear hfz42_0);(try clear hfz42_1);(try clear hfz42_2);(try clear hfz78_0);(try clear hfz78_1);(try clear hfz78_2);(try clear hfz81_0);(try clear hfz81_1);(try clear hfz81_2);(try clear hfz92_0);(try clear hfz92_1);(try clear hfz92_2);(try clear hfz95_0);(try clear hfz95_1);(try clear hfz95_2);(try clear hfz99_0);(try clear hfz99_1);(try clear hx453_0);(try clear hx468_0);(try clear hx87_0);(try clear p2);(try clear p4);(try clear p45);(try clear p453);(try clear p46);(try clear p468);(try clear p6);(try clear p64);(try clear p8);(try clear p87);(try clear q4);(try clear q45);(try clear q453);(try clear q46);(try clear q468);(try clear q8);(try clear q87)
                     obtain ⟨x20_5,rfl,HA,HK5,HO_16,HO_18,HO_447002,HO_453002,BK445,BK446,BK452,HB⟩:=hrel
                     cases gk with
                     | zero=>exact absurd HA.out (by simp [examboardlaw28_CalibrateOrder.l2])
                     | succ k5 =>
                      have H:=HA.out
                      clear HA
                      simp only [examboardlaw28_CalibrateOrder.l2] at H
                      by_cases c118:x20_5 < (t472.length:Int)
                      ·rw [if_pos c118] at H
                       have c118b0:decide (x20_5 < (t472.length:Int)) = true:=decide_eq_true c118
                       clear c118
                       by_cases c119:0≤x20_5
                       ·rw [if_pos c119] at H
                        have c119b0:decide (0≤x20_5) = true:=decide_eq_true c119
                        clear c119
                        by_cases c120:x20_5 < (t477.length:Int)
                        ·rw [if_pos c120] at H
                         have c120b0:decide (x20_5 < (t477.length:Int)) = true:=decide_eq_true c120
                         clear c120
                         replace H:=Option.bind_eq_some_iff.mp H
                         obtain ⟨t483,A1210,H⟩:=H
                         replace H:(if t483 = true then (examboardlaw28_CalibrateOrder.l2 k5 l1 a3 x14_3 t472 t477 (wrap64 (x20_5+1)) l0_0 l0_1 l2_0 l2_1 l2_2) else (some false)) = some r:=H
                         have A121:=Aside0.mk A1210
                         clear A1210
                         by_cases c122:t483 = true
                         ·subst c122
                          have H1:(examboardlaw28_CalibrateOrder.l2 k5 l1 a3 x14_3 t472 t477 (wrap64 (x20_5+1)) l0_0 l0_1 l2_0 l2_1 l2_2) = some r:=zz9
                          clear H
                          have H:=H1
                          clear H1
                          have H':=Aside0.mk H
                          clear H
                          obtain ⟨Ao123,co123,eo123⟩:=Kd.N_slice HO_16.out
                          subst eo123
                          try go_wp2
                          have n0_:=Aside0.mk (Kd.N_drew HO_16.out)
                          have n1_:=Aside0.mk (Kd.N_drew HO_18.out)
                          have n2_:=Aside0.mk (Kd.V_drew HO_447002.out)
                          have n3_:=Aside0.mk (Kd.N_drew HO_453002.out)
                          have n4_:=Aside0.mk (blk_drew BK445.out)
                          have n5_:=Aside0.mk (blk_drew BK446.out)
                          have n6_:=Aside0.mk (blk_drew BK452.out)
                          have n7_:=Aside0.mk (below_drew1 HB.out)
                          clear HO_16;clear HO_18;clear HO_447002;clear HO_453002;clear BK445;clear BK446;clear BK452;clear HB
                          have HO_16:=n0_
                          have HO_18:=n1_
                          have HO_447002:=n2_
                          have HO_453002:=n3_
                          have BK445:=n4_
                          have BK446:=n5_
                          have BK452:=n6_
                          have HB:=n7_
                          clear n0_ n1_ n2_ n3_ n4_ n5_ n6_ n7_
                          have p481:0≤(x20_5:Int):=of_decide_eq_true (zz10)
                          have q481:x20_5 < (t472.length:Int):=of_decide_eq_true (zz10)
                          obtain ⟨ad481,A481_0,c481_0,e481,hx481_0,hl481_0,hi481_0⟩:=at_L5 (Kd.N_reads' HO_16.out).2.2 x20_5 p481 q481
                          cases e481
                          obtain ⟨ce481,hce481,hMe481,hcc481⟩:=Kd.N_get HO_16.out [] x20_5 p481 (by first|exact q481|exact of_decide_eq_true (zz10)|(have e_:=(Kd.N_reads' HO_16.out).1;omega))
                          obtain ⟨ua481_0,uc481_0,rfl,ul481_0,ge481_0⟩:=Kd.FK_slice_open hMe481
                          have hv481_0:=hcc481 0 _ rfl
                          rw [Nat.add_zero,show ((Kd.slice 65 (Kd.int .u32))).sz = 1 from rfl,Nat.mul_one] at hv481_0
                          replace hv481_0:=Option.some.inj (hv481_0.symm.trans hx481_0)
                          injection hv481_0 with hva_ hvn_ hvc_
                          rw [hva_] at ge481_0
                          rw [hvc_] at ul481_0
                          have HL481_0:=Aside0.mk (show Kd.V (Kd.int .u32) 65 _ w.heap.size _ _ (rd_L5 t472 x20_5) from Kd.V_mk ul481_0 ge481_0)
                          clear hva_ hvn_ hvc_ ge481_0 ul481_0;clear hcc481 hce481
                          have HR481_0:=Aside0.mk hi481_0
                          have HC481_0:=Aside0.mk hl481_0
                          clear hi481_0 hl481_0
                          replace p481:=eq_true p481
                          replace q481:=eq_true q481
                          obtain ⟨Ao125,co125,eo125⟩:=Kd.N_slice HO_18.out
                          (first|subst eo125|(injection eo125 with f1_ f2_ f3_;have f4_:=f1_.symm;have f5_:=f3_.symm;clear f1_ f2_ f3_;subst f4_;subst f5_))
                          have p482:0≤(x20_5:Int):=of_decide_eq_true (zz10)
                          have q482:x20_5 < (t477.length:Int):=of_decide_eq_true (zz10)
                          obtain ⟨ad482,A482_0,c482_0,e482,hx482_0,hl482_0,hi482_0⟩:=at_L5 (Kd.N_reads' HO_18.out).2.2 x20_5 p482 q482
                          cases e482
                          obtain ⟨ce482,hce482,hMe482,hcc482⟩:=Kd.N_get HO_18.out [] x20_5 p482 (by first|exact q482|exact of_decide_eq_true (zz10)|(have e_:=(Kd.N_reads' HO_18.out).1;omega))
                          obtain ⟨ua482_0,uc482_0,rfl,ul482_0,ge482_0⟩:=Kd.FK_slice_open hMe482
                          have hv482_0:=hcc482 0 _ rfl
                          rw [Nat.add_zero,show ((Kd.slice 65 (Kd.int .u32))).sz = 1 from rfl,Nat.mul_one] at hv482_0
                          replace hv482_0:=Option.some.inj (hv482_0.symm.trans hx482_0)
                          injection hv482_0 with hva_ hvn_ hvc_
                          rw [hva_] at ge482_0
                          rw [hvc_] at ul482_0
                          have HL482_0:=Aside0.mk (show Kd.V (Kd.int .u32) 65 _ w.heap.size _ _ (rd_L5 t477 x20_5) from Kd.V_mk ul482_0 ge482_0)
                          clear hva_ hvn_ hvc_ ge482_0 ul482_0;clear hcc482 hce482
                          have HR482_0:=Aside0.mk hi482_0
                          have HC482_0:=Aside0.mk hl482_0
                          clear hi482_0 hl482_0
                          replace p482:=eq_true p482
                          replace q482:=eq_true q482
                          refine start_ (n:=10) (S:=fun w'=>w'.cell? (ad481.add (x20_5).toNat) = some (.slice A481_0 (rd_L5 t472 x20_5).length c481_0)∧w'.cell? (ad482.add (x20_5).toNat) = some (.slice A482_0 (rd_L5 t477 x20_5).length c482_0)) (ds:=[]) #[false,false,false,false,false,false,false,false,false,false] (zz0) rfl rfl ⟨hx481_0,hx482_0⟩ (fun hHeld=>?_);refine with_tabW examboardlaw28_CalibrateOrder.tab28 examboardlaw28_CalibrateOrder.bits28 (fun HT_ HW_=>?_)
                          generalize wr.drew = w124 at HO_16 HO_18 HO_447002 HO_453002 BK445 BK446 BK452 HB HL481_0 HL482_0 HR481_0 HR482_0 hx481_0 hx482_0 hHeld ⊢
                          refine pure_ (i:=0) (N:=some 163) (v:=?_) (a':=?_) #[true,false,false,false,false,false,false,false,false,false] rfl rfl (any_of HT_.out (zz0)) (fun _ _ _ h=>h) (Or.inl ⟨zz16,?_⟩) ?_ ?_
                          rotate_left
                          ·intro w'
                           go_simp
                           with_reducible rfl
                          rotate_left
                          ·simp only [Act.put,List.setIfInBounds_toArray,List.set_cons_zero,List.set_cons_succ,i64_w,i32_w]
                           rfl
                          refine pure_ (i:=1) (N:=some 164) (v:=?_) (a':=?_) #[true,true,false,false,false,false,false,false,false,false] rfl rfl (any_of HT_.out (zz0)) (fun _ _ _ h=>h) (Or.inl ⟨zz16,?_⟩) ?_ ?_
                          rotate_left
                          ·intro w'
                           go_simp
                           with_reducible rfl
                          rotate_left
                          ·simp only [Act.put,List.setIfInBounds_toArray,List.set_cons_zero,List.set_cons_succ,i64_w,i32_w]
                           rfl
                          refine pure_ (i:=2) (N:=some 165) (v:=?_) (a':=?_) #[true,true,true,false,false,false,false,false,false,false] rfl rfl (any_of HT_.out (zz0)) (fun _ _ _ h=>h) (Or.inl ⟨zz16,?_⟩) ?_ ?_
                          rotate_left
                          ·intro w'
                           go_simp
                           with_reducible rfl
                          rotate_left
                          ·simp only [Act.put,List.setIfInBounds_toArray,List.set_cons_zero,List.set_cons_succ,i64_w,i32_w]
                           rfl
                          refine pure_ (i:=4) (N:=some 167) (v:=?_) (a':=?_) #[true,true,true,false,true,false,false,false,false,false] rfl rfl (any_of HT_.out (zz0)) (fun _ _ _ h=>h) (Or.inl ⟨zz16,?_⟩) ?_ ?_
                          rotate_left
                          ·intro w'
                           go_simp
                           with_reducible rfl
                          rotate_left
                          ·simp only [Act.put,List.setIfInBounds_toArray,List.set_cons_zero,List.set_cons_succ,i64_w,i32_w]
                           rfl
                          refine pure_ (i:=5) (N:=some 168) (v:=?_) (a':=?_) #[true,true,true,false,true,true,false,false,false,false] rfl rfl (any_of HT_.out (zz0)) (fun _ _ _ h=>h) (Or.inl ⟨zz16,?_⟩) ?_ ?_
                          rotate_left
                          ·intro w'
                           go_simp
                           with_reducible rfl
                          rotate_left
                          ·simp only [Act.put,List.setIfInBounds_toArray,List.set_cons_zero,List.set_cons_succ,i64_w,i32_w]
                           rfl
                          refine pure_ (i:=6) (N:=some 169) (v:=?_) (a':=?_) #[true,true,true,false,true,true,true,false,false,false] rfl rfl (any_of HT_.out (zz0)) (fun _ _ _ h=>h) (Or.inl ⟨zz16,?_⟩) ?_ ?_
                          rotate_left
                          ·intro w'
                           go_simp
                           with_reducible rfl
                          rotate_left
                          ·simp only [Act.put,List.setIfInBounds_toArray,List.set_cons_zero,List.set_cons_succ,i64_w,i32_w]
                           rfl
                          refine take_ (i:=3) (N:=some 166) (v:=?_) (a':=?_) #[true,true,true,true,true,true,true,false,false,false] rfl rfl (take_ofW HT_.out HW_.out (zz0)) (fun _ _ _ h=>h) (Or.inl ⟨zz16,?_⟩) hHeld ?_ ?_
                          rotate_left
                          ·rintro w' ⟨s0,s1⟩
                           go_simp
                           with_reducible rfl
                          rotate_left
                          ·simp only [Act.put,List.setIfInBounds_toArray,List.set_cons_zero,List.set_cons_succ,i64_w,i32_w]
                           rfl
                          refine take_ (i:=7) (N:=some 170) (v:=?_) (a':=?_) #[true,true,true,true,true,true,true,true,false,false] rfl rfl (take_ofW HT_.out HW_.out (zz0)) (fun _ _ _ h=>h) (Or.inl ⟨zz16,?_⟩) hHeld ?_ ?_
                          rotate_left
                          ·rintro w' ⟨s0,s1⟩
                           go_simp
                           with_reducible rfl
                          rotate_left
                          ·simp only [Act.put,List.setIfInBounds_toArray,List.set_cons_zero,List.set_cons_succ,i64_w,i32_w]
                           rfl
                          refine one_ (i:=8) (N:=some 171) #[true,true,true,true,true,true,true,true,true,false] rfl rfl (one_of HT_.out (zz0)) (zz29) (fun K hK=>?_)
                          refine goes_ Try.func12 (zz0) rfl #[.slice A481_0 (rd_L5 t472 x20_5).length c481_0,.slice A482_0 (rd_L5 t477 x20_5).length c482_0] (zz16) rfl rfl (zz15) ?_
                          with_reducible refine (examboardlaw28_limbs.calls k5 _ _ (rd_L5 t472 x20_5) _ _ (rd_L5 t477 x20_5) true _ ?side1 ?side2 ?side3 ?side4 A121.out).mono ?_
                          (case side1=>repeat (first|exact (by repeat (first|(with_reducible exact HR481_0.out)|(with_reducible refine Kd.C_alloc ?_ _)|(with_reducible refine Kd.C_drewN ?_ _)|(with_reducible refine Kd.C_drew ?_)|exact HR481_0.out))|(with_reducible refine Kd.C_alloc ?_ _)|(with_reducible refine Kd.C_drewN ?_ _)|(with_reducible refine Kd.C_drew ?_)))
                          (case side2=>exact HC481_0.out)
                          (case side3=>repeat (first|exact (by repeat (first|(with_reducible exact HR482_0.out)|(with_reducible refine Kd.C_alloc ?_ _)|(with_reducible refine Kd.C_drewN ?_ _)|(with_reducible refine Kd.C_drew ?_)|exact HR482_0.out))|(with_reducible refine Kd.C_alloc ?_ _)|(with_reducible refine Kd.C_drewN ?_ _)|(with_reducible refine Kd.C_drew ?_)))
                          (case side4=>exact HC482_0.out)
                          rintro e w' ⟨rfl,⟨nd,rfl⟩⟩
                          refine ⟨_,rfl,?_⟩
                          refine hK.out _ _ ⟨hHeld.1,hHeld.2⟩ (fun hHeld=>?_)
                          clear hK K
                          refine norm_ (a':=?_) ?_ ?_
                          rotate_left
                          ·show Act.put _ (some 171) _ = _
                           simp only [Act.put,List.setIfInBounds_toArray,List.set_cons_zero,List.set_cons_succ,i64_w,i32_w]
                           rfl
                          refine pure_ (i:=9) (N:=some 172) (v:=?_) (a':=?_) #[true,true,true,true,true,true,true,true,true,true] rfl rfl (any_of HT_.out (zz0)) (fun _ _ _ h=>h) (Or.inl ⟨zz16,?_⟩) ?_ ?_
                          rotate_left
                          ·intro w'
                           go_simp
                           with_reducible rfl
                          rotate_left
                          ·simp only [Act.put,List.setIfInBounds_toArray,List.set_cons_zero,List.set_cons_succ,i64_w,i32_w]
                           rfl
                          refine done_ (done_of HT_.out (zz0)) ?_
                          try go_wp2
                          go_roundg k5
                          case measure=>have:=HK1.out;have:=HJ36.out;have:=HK3.out;have:=HJ88.out;have:=HK5.out;omega
                          case rel=>exact ⟨(wrap64 (x20_5+1)),(zz1),H',⟨by have:=HK1.out;have:=HJ36.out;have:=HK3.out;have:=HJ88.out;have:=HK5.out;omega⟩,⟨by (with_reducible repeat (first|apply Kd.N_alloc|apply Kd.N_drewN|apply Kd.N_drew));exact HO_16.out⟩,⟨by (with_reducible repeat (first|apply Kd.N_alloc|apply Kd.N_drewN|apply Kd.N_drew));exact HO_18.out⟩,⟨zz112⟩,⟨zz110⟩,⟨zz104⟩,⟨zz106⟩,⟨zz109⟩,⟨zz108⟩⟩
                         ·replace c122:=Bool.eq_false_iff.mpr c122
                          subst c122
                          have H1:(some false) = some r:=zz12
                          clear H
                          have H:=H1
                          clear H1
                          obtain rfl:=Option.some.inj H
                          obtain ⟨Ao126,co126,eo126⟩:=Kd.N_slice HO_16.out
                          subst eo126
                          try go_wp2
                          have n0_:=Aside0.mk (Kd.N_drew HO_16.out)
                          have n1_:=Aside0.mk (Kd.N_drew HO_18.out)
                          have n2_:=Aside0.mk (Kd.V_drew HO_447002.out)
                          have n3_:=Aside0.mk (Kd.N_drew HO_453002.out)
                          have n4_:=Aside0.mk (blk_drew BK445.out)
                          have n5_:=Aside0.mk (blk_drew BK446.out)
                          have n6_:=Aside0.mk (blk_drew BK452.out)
                          have n7_:=Aside0.mk (below_drew1 HB.out)
                          clear HO_16;clear HO_18;clear HO_447002;clear HO_453002;clear BK445;clear BK446;clear BK452;clear HB
                          have HO_16:=n0_
                          have HO_18:=n1_
                          have HO_447002:=n2_
                          have HO_453002:=n3_
                          have BK445:=n4_
                          have BK446:=n5_
                          have BK452:=n6_
                          have HB:=n7_
                          clear n0_ n1_ n2_ n3_ n4_ n5_ n6_ n7_
                          have p481:0≤(x20_5:Int):=of_decide_eq_true (zz10)
                          have q481:x20_5 < (t472.length:Int):=of_decide_eq_true (zz10)
                          obtain ⟨ad481,A481_0,c481_0,e481,hx481_0,hl481_0,hi481_0⟩:=at_L5 (Kd.N_reads' HO_16.out).2.2 x20_5 p481 q481
                          cases e481
                          obtain ⟨ce481,hce481,hMe481,hcc481⟩:=Kd.N_get HO_16.out [] x20_5 p481 (by first|exact q481|exact of_decide_eq_true (zz10)|(have e_:=(Kd.N_reads' HO_16.out).1;omega))
                          obtain ⟨ua481_0,uc481_0,rfl,ul481_0,ge481_0⟩:=Kd.FK_slice_open hMe481
                          have hv481_0:=hcc481 0 _ rfl
                          rw [Nat.add_zero,show ((Kd.slice 65 (Kd.int .u32))).sz = 1 from rfl,Nat.mul_one] at hv481_0
                          replace hv481_0:=Option.some.inj (hv481_0.symm.trans hx481_0)
                          injection hv481_0 with hva_ hvn_ hvc_
                          rw [hva_] at ge481_0
                          rw [hvc_] at ul481_0
                          have HL481_0:=Aside0.mk (show Kd.V (Kd.int .u32) 65 _ w.heap.size _ _ (rd_L5 t472 x20_5) from Kd.V_mk ul481_0 ge481_0)
                          clear hva_ hvn_ hvc_ ge481_0 ul481_0;clear hcc481 hce481
                          have HR481_0:=Aside0.mk hi481_0
                          have HC481_0:=Aside0.mk hl481_0
                          clear hi481_0 hl481_0
                          replace p481:=eq_true p481
                          replace q481:=eq_true q481
                          obtain ⟨Ao128,co128,eo128⟩:=Kd.N_slice HO_18.out
                          (first|subst eo128|(injection eo128 with f1_ f2_ f3_;have f4_:=f1_.symm;have f5_:=f3_.symm;clear f1_ f2_ f3_;subst f4_;subst f5_))
                          have p482:0≤(x20_5:Int):=of_decide_eq_true (zz10)
                          have q482:x20_5 < (t477.length:Int):=of_decide_eq_true (zz10)
                          obtain ⟨ad482,A482_0,c482_0,e482,hx482_0,hl482_0,hi482_0⟩:=at_L5 (Kd.N_reads' HO_18.out).2.2 x20_5 p482 q482
                          cases e482
                          obtain ⟨ce482,hce482,hMe482,hcc482⟩:=Kd.N_get HO_18.out [] x20_5 p482 (by first|exact q482|exact of_decide_eq_true (zz10)|(have e_:=(Kd.N_reads' HO_18.out).1;omega))
                          obtain ⟨ua482_0,uc482_0,rfl,ul482_0,ge482_0⟩:=Kd.FK_slice_open hMe482
                          have hv482_0:=hcc482 0 _ rfl
                          rw [Nat.add_zero,show ((Kd.slice 65 (Kd.int .u32))).sz = 1 from rfl,Nat.mul_one] at hv482_0
                          replace hv482_0:=Option.some.inj (hv482_0.symm.trans hx482_0)
                          injection hv482_0 with hva_ hvn_ hvc_
                          rw [hva_] at ge482_0
                          rw [hvc_] at ul482_0
                          have HL482_0:=Aside0.mk (show Kd.V (Kd.int .u32) 65 _ w.heap.size _ _ (rd_L5 t477 x20_5) from Kd.V_mk ul482_0 ge482_0)
                          clear hva_ hvn_ hvc_ ge482_0 ul482_0;clear hcc482 hce482
                          have HR482_0:=Aside0.mk hi482_0
                          have HC482_0:=Aside0.mk hl482_0
                          clear hi482_0 hl482_0
                          replace p482:=eq_true p482
                          replace q482:=eq_true q482
                          refine start_ (n:=10) (S:=fun w'=>w'.cell? (ad481.add (x20_5).toNat) = some (.slice A481_0 (rd_L5 t472 x20_5).length c481_0)∧w'.cell? (ad482.add (x20_5).toNat) = some (.slice A482_0 (rd_L5 t477 x20_5).length c482_0)) (ds:=[]) #[false,false,false,false,false,false,false,false,false,false] (zz0) rfl rfl ⟨hx481_0,hx482_0⟩ (fun hHeld=>?_);refine with_tabW examboardlaw28_CalibrateOrder.tab28 examboardlaw28_CalibrateOrder.bits28 (fun HT_ HW_=>?_)
                          generalize wr.drew = w127 at HO_16 HO_18 HO_447002 HO_453002 BK445 BK446 BK452 HB HL481_0 HL482_0 HR481_0 HR482_0 hx481_0 hx482_0 hHeld ⊢
                          refine pure_ (i:=0) (N:=some 163) (v:=?_) (a':=?_) #[true,false,false,false,false,false,false,false,false,false] rfl rfl (any_of HT_.out (zz0)) (fun _ _ _ h=>h) (Or.inl ⟨zz16,?_⟩) ?_ ?_
                          rotate_left
                          ·intro w'
                           go_simp
                           with_reducible rfl
                          rotate_left
                          ·simp only [Act.put,List.setIfInBounds_toArray,List.set_cons_zero,List.set_cons_succ,i64_w,i32_w]
                           rfl
                          refine pure_ (i:=1) (N:=some 164) (v:=?_) (a':=?_) #[true,true,false,false,false,false,false,false,false,false] rfl rfl (any_of HT_.out (zz0)) (fun _ _ _ h=>h) (Or.inl ⟨zz16,?_⟩) ?_ ?_
                          rotate_left
                          ·intro w'
                           go_simp
                           with_reducible rfl
                          rotate_left
                          ·simp only [Act.put,List.setIfInBounds_toArray,List.set_cons_zero,List.set_cons_succ,i64_w,i32_w]
                           rfl
                          refine pure_ (i:=2) (N:=some 165) (v:=?_) (a':=?_) #[true,true,true,false,false,false,false,false,false,false] rfl rfl (any_of HT_.out (zz0)) (fun _ _ _ h=>h) (Or.inl ⟨zz16,?_⟩) ?_ ?_
                          rotate_left
                          ·intro w'
                           go_simp
                           with_reducible rfl
                          rotate_left
                          ·simp only [Act.put,List.setIfInBounds_toArray,List.set_cons_zero,List.set_cons_succ,i64_w,i32_w]
                           rfl
                          refine pure_ (i:=4) (N:=some 167) (v:=?_) (a':=?_) #[true,true,true,false,true,false,false,false,false,false] rfl rfl (any_of HT_.out (zz0)) (fun _ _ _ h=>h) (Or.inl ⟨zz16,?_⟩) ?_ ?_
                          rotate_left
                          ·intro w'
                           go_simp
                           with_reducible rfl
                          rotate_left
                          ·simp only [Act.put,List.setIfInBounds_toArray,List.set_cons_zero,List.set_cons_succ,i64_w,i32_w]
                           rfl
                          refine pure_ (i:=5) (N:=some 168) (v:=?_) (a':=?_) #[true,true,true,false,true,true,false,false,false,false] rfl rfl (any_of HT_.out (zz0)) (fun _ _ _ h=>h) (Or.inl ⟨zz16,?_⟩) ?_ ?_
                          rotate_left
                          ·intro w'
                           go_simp
                           with_reducible rfl
                          rotate_left
                          ·simp only [Act.put,List.setIfInBounds_toArray,List.set_cons_zero,List.set_cons_succ,i64_w,i32_w]
                           rfl
                          refine pure_ (i:=6) (N:=some 169) (v:=?_) (a':=?_) #[true,true,true,false,true,true,true,false,false,false] rfl rfl (any_of HT_.out (zz0)) (fun _ _ _ h=>h) (Or.inl ⟨zz16,?_⟩) ?_ ?_
                          rotate_left
                          ·intro w'
                           go_simp
                           with_reducible rfl
                          rotate_left
                          ·simp only [Act.put,List.setIfInBounds_toArray,List.set_cons_zero,List.set_cons_succ,i64_w,i32_w]
                           rfl
                          refine take_ (i:=3) (N:=some 166) (v:=?_) (a':=?_) #[true,true,true,true,true,true,true,false,false,false] rfl rfl (take_ofW HT_.out HW_.out (zz0)) (fun _ _ _ h=>h) (Or.inl ⟨zz16,?_⟩) hHeld ?_ ?_
                          rotate_left
                          ·rintro w' ⟨s0,s1⟩
                           go_simp
                           with_reducible rfl
                          rotate_left
                          ·simp only [Act.put,List.setIfInBounds_toArray,List.set_cons_zero,List.set_cons_succ,i64_w,i32_w]
                           rfl
                          refine take_ (i:=7) (N:=some 170) (v:=?_) (a':=?_) #[true,true,true,true,true,true,true,true,false,false] rfl rfl (take_ofW HT_.out HW_.out (zz0)) (fun _ _ _ h=>h) (Or.inl ⟨zz16,?_⟩) hHeld ?_ ?_
                          rotate_left
                          ·rintro w' ⟨s0,s1⟩
                           go_simp
                           with_reducible rfl
                          rotate_left
                          ·simp only [Act.put,List.setIfInBounds_toArray,List.set_cons_zero,List.set_cons_succ,i64_w,i32_w]
                           rfl
                          refine one_ (i:=8) (N:=some 171) #[true,true,true,true,true,true,true,true,true,false] rfl rfl (one_of HT_.out (zz0)) (zz29) (fun K hK=>?_)
                          refine goes_ Try.func12 (zz0) rfl #[.slice A481_0 (rd_L5 t472 x20_5).length c481_0,.slice A482_0 (rd_L5 t477 x20_5).length c482_0] (zz16) rfl rfl (zz15) ?_
                          with_reducible refine (examboardlaw28_limbs.calls k5 _ _ (rd_L5 t472 x20_5) _ _ (rd_L5 t477 x20_5) false _ ?side1 ?side2 ?side3 ?side4 A121.out).mono ?_
                          (case side1=>repeat (first|exact (by repeat (first|(with_reducible exact HR481_0.out)|(with_reducible refine Kd.C_alloc ?_ _)|(with_reducible refine Kd.C_drewN ?_ _)|(with_reducible refine Kd.C_drew ?_)|exact HR481_0.out))|(with_reducible refine Kd.C_alloc ?_ _)|(with_reducible refine Kd.C_drewN ?_ _)|(with_reducible refine Kd.C_drew ?_)))
                          (case side2=>exact HC481_0.out)
                          (case side3=>repeat (first|exact (by repeat (first|(with_reducible exact HR482_0.out)|(with_reducible refine Kd.C_alloc ?_ _)|(with_reducible refine Kd.C_drewN ?_ _)|(with_reducible refine Kd.C_drew ?_)|exact HR482_0.out))|(with_reducible refine Kd.C_alloc ?_ _)|(with_reducible refine Kd.C_drewN ?_ _)|(with_reducible refine Kd.C_drew ?_)))
                          (case side4=>exact HC482_0.out)
                          rintro e w' ⟨rfl,⟨nd,rfl⟩⟩
                          refine ⟨_,rfl,?_⟩
                          refine hK.out _ _ ⟨hHeld.1,hHeld.2⟩ (fun hHeld=>?_)
                          clear hK K
                          refine norm_ (a':=?_) ?_ ?_
                          rotate_left
                          ·show Act.put _ (some 171) _ = _
                           simp only [Act.put,List.setIfInBounds_toArray,List.set_cons_zero,List.set_cons_succ,i64_w,i32_w]
                           rfl
                          refine pure_ (i:=9) (N:=some 172) (v:=?_) (a':=?_) #[true,true,true,true,true,true,true,true,true,true] rfl rfl (any_of HT_.out (zz0)) (fun _ _ _ h=>h) (Or.inl ⟨zz16,?_⟩) ?_ ?_
                          rotate_left
                          ·intro w'
                           go_simp
                           with_reducible rfl
                          rotate_left
                          ·simp only [Act.put,List.setIfInBounds_toArray,List.set_cons_zero,List.set_cons_succ,i64_w,i32_w]
                           rfl
                          refine done_ (done_of HT_.out (zz0)) ?_
                          try go_wp2
                          go_ret
                          exact ⟨zz5,zz108⟩
                        ·rw [if_neg c120] at H
                         exact absurd H (zz13)
                       ·rw [if_neg c119] at H
                        exact absurd H (zz13)
                      ·rw [if_neg c118] at H
                       have c118b0:decide (x20_5 < (t472.length:Int)) = false:=decide_eq_false c118
                       clear c118
                       have H':=Aside0.mk H
                       clear H
                       obtain ⟨Ao129,co129,eo129⟩:=Kd.N_slice HO_16.out
                       subst eo129
                       go_wp2
                       go_roundg k5
                       case measure=>have:=HK1.out;have:=HJ36.out;have:=HK3.out;have:=HJ88.out;have:=HK5.out;omega
                       case rel=>exact ⟨(wrap64 (x14_3+1)),(zz1),H',⟨by have:=HK1.out;have:=HJ36.out;have:=HK3.out;have:=HJ88.out;have:=HK5.out;omega⟩,⟨by (with_reducible repeat (first|apply Kd.V_alloc|apply Kd.V_drewN|apply Kd.V_drew));exact Kd.V_mono HO_447002.out (fun _ hk=>⟨hk.1,⟨hk.2.2.2.1,⟨hk.2.2.2.2.1,⟨hk.2.2.2.2.2.1,hk.2.2.2.2.2.2⟩⟩⟩⟩)⟩,⟨by (with_reducible repeat (first|apply Kd.N_alloc|apply Kd.N_drewN|apply Kd.N_drew));exact Kd.N_mono HO_453002.out (fun _ hk=>⟨hk.1,⟨hk.2.2.2.1,⟨hk.2.2.2.2.1,hk.2.2.2.2.2⟩⟩⟩)⟩,⟨zz104⟩,⟨zz106⟩,⟨zz109⟩,⟨zz108⟩⟩
                ·rw [if_neg c86] at H
                 exact absurd H (zz13)
               ·rw [if_neg c85] at H
                exact absurd H (zz13)
             ·rw [if_neg c74] at H
              exact absurd H (zz13)
            ·rw [if_neg c73] at H
             exact absurd H (zz13)
           ·rw [if_neg c72] at H
            have c72b0:decide (x14_3 < (l2_2.length:Int)) = false:=decide_eq_false c72
            clear c72
            obtain rfl:=Option.some.inj H
            have hnb130:=NB446_445.out
            have hnc130:=NB445_446.out
            have hnb131:=NB446_452.out
            have hnc131:=NB452_446.out
            have hcz132_0:wr.cell? ⟨gb446,0,none⟩ = some (.slice A2_0 l2_0.length c2_0):=(blk_cell BK446.out 0).trans rfl
            have hcz132_1:wr.cell? ⟨gb446,1,none⟩ = some (.slice A2_1 l2_1.length c2_1):=(blk_cell BK446.out 1).trans rfl
            have hcz132_2:wr.cell? ⟨gb446,2,none⟩ = some (.slice A2_2 l2_2.length c2_2):=(blk_cell BK446.out 2).trans rfl
            have hfz132_0:=blk_frozen BK446.out 0
            have hfz132_1:=blk_frozen BK446.out 1
            have hfz132_2:=blk_frozen BK446.out 2
            go_wp2
            go_ret
            exact ⟨zz5,zz108⟩
  ·rw [if_neg c13] at H
   have c13b0:(t451 == 0) = false:=beq_eq_false_iff_ne.mpr c13
   have c13b1:(t451 != 0) = true:=bne_iff_ne.mpr c13
   obtain rfl:=Option.some.inj H
   go_enter Try.func5,Try.ntmps5
   go_wp2_with (first|((with_reducible refine gate_dst (N:=4) rfl ?_);(try (refine gate_guard (zz16) ?_;dsimp only));refine box_event ?hg (N:=4) ?hd (cs:=#[.slice A0_0 l0_0.length c0_0,.slice A0_1 l0_1.length c0_1]) (t:=24) ?hr ?_;(case hd=>rfl);(case hg=>rfl);(case hr=>exact zz122);intro gb445 hg w133 hbox hb;replace HO2_2:=Aside0.mk (Kd.V_below (Kd.V_elderB (zz103) gb445 (Nat.le_of_eq hg.symm)) hb);have BK445:=Aside0.mk (hbox);have GW445:=Aside0.mk ((by rw [hg];exact (below_size (zz4)):w.heap.size≤gb445));have GE445:=Aside0.mk ((by rw [hg];exact (below_size (zz4)):w.heap.size≤gb445));replace HB:=Aside0.mk (below_step (zz4) hb);clear hb hbox hg)|((with_reducible refine gate_dst (N:=6) rfl ?_);(try (refine gate_guard (zz16) ?_;dsimp only));refine box_event ?hg (N:=6) ?hd (cs:=#[.slice A2_0 l2_0.length c2_0,.slice A2_1 l2_1.length c2_1,.slice A2_2 l2_2.length c2_2]) (t:=36) ?hr ?_;(case hd=>rfl);(case hg=>rfl);(case hr=>exact zz122);intro gb446 hg w134 hbox hb;replace HO2_2:=Aside0.mk (Kd.V_below (Kd.V_elderB (zz103) gb446 (Nat.le_of_eq hg.symm)) hb);have BK446:=Aside0.mk (hbox);have GW446:=Aside0.mk ((by rw [hg];exact (below_size (zz105)):w.heap.size≤gb446));have GE446:=Aside0.mk ((by rw [hg];exact (below_size (zz105)):w.heap.size≤gb446));replace HB:=Aside0.mk (below_step (zz105) hb);have NB445_446:=Aside0.mk ((by rw [hg];exact Nat.ne_of_lt (blk_lt (g:=gb445) (o:=.cells #[.slice A0_0 l0_0.length c0_0,.slice A0_1 l0_1.length c0_1] 24 (0,0)) (zz104)):gb445 ≠ gb446));have NB446_445:=Aside0.mk ((by rw [hg];exact Nat.ne_of_gt (blk_lt (g:=gb445) (o:=.cells #[.slice A0_0 l0_0.length c0_0,.slice A0_1 l0_1.length c0_1] 24 (0,0)) (zz104)):gb446 ≠ gb445));replace BK445:=Aside0.mk (blk_below (g:=gb445) (o:=.cells #[.slice A0_0 l0_0.length c0_0,.slice A0_1 l0_1.length c0_1] 24 (0,0)) (zz104) hb);clear hb hbox hg;have hnb135:=NB446_445.out;have hnc135:=NB445_446.out;have hcz136_0:w134.cell? ⟨gb446,0,none⟩ = some (.slice A2_0 l2_0.length c2_0):=(blk_cell BK446.out 0).trans rfl;have hcz136_1:w134.cell? ⟨gb446,1,none⟩ = some (.slice A2_1 l2_1.length c2_1):=(blk_cell BK446.out 1).trans rfl;have hcz136_2:w134.cell? ⟨gb446,2,none⟩ = some (.slice A2_2 l2_2.length c2_2):=(blk_cell BK446.out 2).trans rfl;have hfz136_0:=blk_frozen BK446.out 0;have hfz136_1:=blk_frozen BK446.out 1;have hfz136_2:=blk_frozen BK446.out 2)|((with_reducible refine gate_callee (f:=13) rfl ?_);refine goesL_ (some 22) rfl rfl Try.func13 (zz0) rfl #[.agg #[.slice A2_0 l2_0.length c2_0,.slice A2_1 l2_1.length c2_1,.slice A2_2 l2_2.length c2_2]] rfl (zz15) ?_;(with_reducible refine (examboardlaw28_heavy.calls _ _ l2_0 _ _ l2_1 _ _ l2_2 false _ ?side1 ?side2 ?side3 ?side4 ?side5 ?side6 A5.out).mono ?_);(case side1=>exact zz136);(case side2=>exact HC2_0.out);(case side3=>exact zz137);(case side4=>exact HC2_1.out);(case side5=>exact zz139);(case side6=>exact (Kd.V_reads' HO2_2.out).2.1);rintro e w137 ⟨rfl,hb⟩;refine ⟨_,rfl,?_⟩;replace HO2_2:=Aside0.mk (Kd.V_below (zz103) hb);replace BK445:=Aside0.mk (blk_below (g:=gb445) (o:=.cells #[.slice A0_0 l0_0.length c0_0,.slice A0_1 l0_1.length c0_1] 24 (0,0)) (zz104) hb);replace BK446:=Aside0.mk (blk_below (g:=gb446) (o:=.cells #[.slice A2_0 l2_0.length c2_0,.slice A2_1 l2_1.length c2_1,.slice A2_2 l2_2.length c2_2] 36 (0,0)) (zz106) hb);replace HB:=Aside0.mk (below_step (zz107) hb);(try clear hb);(try clear hb2);(try clear hk);(try clear hi);have hcz138_0:w137.cell? ⟨gb445,0,none⟩ = some (.slice A0_0 l0_0.length c0_0):=(blk_cell BK445.out 0).trans rfl;have hcz138_1:w137.cell? ⟨gb445,1,none⟩ = some (.slice A0_1 l0_1.length c0_1):=(blk_cell BK445.out 1).trans rfl;have hfz138_0:=blk_frozen BK445.out 0;have hfz138_1:=blk_frozen BK445.out 1;have hcz139_0:w137.cell? ⟨gb446,0,none⟩ = some (.slice A2_0 l2_0.length c2_0):=(blk_cell BK446.out 0).trans rfl;have hcz139_1:w137.cell? ⟨gb446,1,none⟩ = some (.slice A2_1 l2_1.length c2_1):=(blk_cell BK446.out 1).trans rfl;have hcz139_2:w137.cell? ⟨gb446,2,none⟩ = some (.slice A2_2 l2_2.length c2_2):=(blk_cell BK446.out 2).trans rfl;have hfz139_0:=blk_frozen BK446.out 0;have hfz139_1:=blk_frozen BK446.out 1;have hfz139_2:=blk_frozen BK446.out 2)|((with_reducible refine gate_callee (f:=14) rfl ?_);refine goesL_ (some 27) rfl rfl Try.func14 (zz0) rfl #[.agg #[.slice A0_0 l0_0.length c0_0,.slice A0_1 l0_1.length c0_1],.slice A1 l1.length c1,.agg #[.slice A2_0 l2_0.length c2_0,.slice A2_1 l2_1.length c2_1,.slice A2_2 l2_2.length c2_2]] rfl (zz15) ?_;(with_reducible refine (calibrate_Total.calls k _ _ l0_0 _ _ l0_1 _ _ l1 _ _ l2_0 _ _ l2_1 _ _ l2_2 t448 t451 _ ?side1 ?side2 ?side3 ?side4 ?side5 ?side6 ?side7 ?side8 ?side9 ?side10 ?side11 ?side12 A12.out).mono ?_);(case side1=>exact zz123);(case side2=>exact zz124);(case side3=>exact zz125);(case side4=>exact zz126);(case side5=>exact zz129);(case side6=>exact HC1.out);(case side7=>exact zz136);(case side8=>exact HC2_0.out);(case side9=>exact zz137);(case side10=>exact HC2_1.out);(case side11=>exact zz139);(case side12=>exact (Kd.V_reads' HO2_2.out).2.1);rintro e w140 ⟨v449,rfl,ho0,hb⟩;refine ⟨_,rfl,?_⟩;replace HO2_2:=Aside0.mk (Kd.V_below (zz103) hb);have HO450:=Aside0.mk (Kd.V_lower (Kd.V_mono (ok':=fun k_=>(P2_2_ k_∨w.heap.size≤k_)∧k_ ≠ gb445∧k_ ≠ gb446) ho0 (fun k_ hk_=>⟨(.inr (Nat.le_trans (below_size (zz107)) hk_)),(Kd.freshB (g:=gb445) (o:=.cells #[.slice A0_0 l0_0.length c0_0,.slice A0_1 l0_1.length c0_1] 24 (0,0)) (zz104) k_ hk_),(Kd.freshB (g:=gb446) (o:=.cells #[.slice A2_0 l2_0.length c2_0,.slice A2_1 l2_1.length c2_1,.slice A2_2 l2_2.length c2_2] 36 (0,0)) (zz106) k_ hk_)⟩)) (below_size (zz107)));replace BK445:=Aside0.mk (blk_below (g:=gb445) (o:=.cells #[.slice A0_0 l0_0.length c0_0,.slice A0_1 l0_1.length c0_1] 24 (0,0)) (zz104) hb);replace BK446:=Aside0.mk (blk_below (g:=gb446) (o:=.cells #[.slice A2_0 l2_0.length c2_0,.slice A2_1 l2_1.length c2_1,.slice A2_2 l2_2.length c2_2] 36 (0,0)) (zz106) hb);replace HB:=Aside0.mk (below_step (zz107) hb);(try clear hb);(try clear hb2);(try clear hk);(try clear hi);(try clear ho0);obtain ⟨Ao141,co141,eo141⟩:=Kd.V_slice HO450.out;subst eo141))
   go_ret
   exact ⟨zz5,zz107⟩
end Go.Proofs.Ytmcegphcjphdcaa.QA
