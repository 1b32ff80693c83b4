/- Laid for this claim by a program of this session's (wip/mkprint.py, wip/ext.py); not trusted: Lean checks it. -/
import Derived.Test.YtlcadahihcefnaaPTopAveragex0
import Derived.Test.YtlcadahihcefnaaPTopAveragex3
import Derived.Test.YtlcadahihcefnaaPTopAveragex4
import Derived.Test.YtlcadahihcefnaaPTopAveragex6
import Derived.Test.YtlcadahihcefnaaPTopAveragex7
namespace Go.Proofs.Ytlcadahihcefnaa.PTopAverage
open Go.RowKit Go.Proofs.YtlcadahihcefnaaW.PrintWords Go.Proofs.YtlcadahihcefnaaW.PrintLast Go.Proofs.YtlcadahihcefnaaW.PrintMore
attribute [local go_sem] max2_int min2_int max_two min_two max_three min_three max_four min_four   -- for this text's walks alone
set_option linter.unusedVariables false
set_option linter.unusedSimpArgs false

/-! ### contangotop_TopAverage: function 3 -/
mutual
def contangotop_TopAverage.j0 : Nat → List (S41) → Bool → ByteArray → Int → Int → Int → Int → Int → Bool → Int → List (S43) → Option (Bool)
 | 0, _, _, _, _, _, _, _, _, _, _, _=>none
 | k + 1, x1, x32, x158000, x158001, x158002, x158003, x158004, x158005, x158006, x159000, x159001=>if x32 = true then ((contangotop_goes10.f k).bind fun t159=>(some t159)) else ((giveup_Even.f k x1 x159000 x159001).bind fun bt160=>(if bt160.2.2 = 0 then ((product_Check.f k x158000 x158001 x158002 x158003 x158004 x158005 x158006).bind fun t165=>(if t165 = 0 then (contangotop_TopAverage.j1 k x1 bt160.1 bt160.2.1 bt160.2.2 ((bt160.2.1.length : Int) != (x159001.length : Int)) x158000 x158001 x158002 x158003 x158004 x158005 x158006 x159000 x159001) else (contangotop_TopAverage.j1 k x1 bt160.1 bt160.2.1 bt160.2.2 true x158000 x158001 x158002 x158003 x158004 x158005 x158006 x159000 x159001))) else (contangotop_TopAverage.j1 k x1 bt160.1 bt160.2.1 bt160.2.2 true x158000 x158001 x158002 x158003 x158004 x158005 x158006 x159000 x159001)))
def contangotop_TopAverage.j1 : Nat → List (S41) → Int → List Int → Int → Bool → ByteArray → Int → Int → Int → Int → Int → Bool → Int → List (S43) → Option (Bool)
 | 0, _, _, _, _, _, _, _, _, _, _, _, _, _, _=>none
 | k + 1, x1, x7, x8, x9, x58, x158000, x158001, x158002, x158003, x158004, x158005, x158006, x159000, x159001=>if x58 = true then (if x9 = 0 then ((product_Check.f k x158000 x158001 x158002 x158003 x158004 x158005 x158006).bind fun t166=>(if t166 = 0 then (none) else ((contangotop_goes10.f k).bind fun t167=>(some t167)))) else ((contangotop_goes10.f k).bind fun t168=>(some t168))) else (contangotop_TopAverage.l0 k x1 x7 x8 ([] : List Int) 0 x158000 x158001 x158002 x158003 x158004 x158005 x158006 x159000 x159001)
def contangotop_TopAverage.l0 : Nat → List (S41) → Int → List Int → List Int → Int → ByteArray → Int → Int → Int → Int → Int → Bool → Int → List (S43) → Option (Bool)
 | 0, _, _, _, _, _, _, _, _, _, _, _, _, _, _=>none
 | k + 1, x1, x7, x8, x10, x12, x158000, x158001, x158002, x158003, x158004, x158005, x158006, x159000, x159001=>if x12 < (x1.length : Int) then (if 0 ≤ x12 then ((product_Value.f k x158000 x158001 x158002 x158003 x158004 x158005 x158006 ((rd_T41 x1 x12).f5) ((rd_T41 x1 x12).f4)).bind fun bt171=>(if bt171.2 = 0 then (if x10.length < 17592186044416 then (contangotop_TopAverage.l0 k x1 x7 x8 (x10 ++ [bt171.1]) (wrap64 (x12 + 1)) x158000 x158001 x158002 x158003 x158004 x158005 x158006 x159000 x159001) else (none)) else (none))) else (none)) else (contangotop_TopAverage.l1 k x7 x8 x10 ([] : List Int) 0 x158000 x158001 x158002 x158003 x158004 x158005 x158006 x159000 x159001)
def contangotop_TopAverage.l1 : Nat → Int → List Int → List Int → List Int → Int → ByteArray → Int → Int → Int → Int → Int → Bool → Int → List (S43) → Option (Bool)
 | 0, _, _, _, _, _, _, _, _, _, _, _, _, _, _=>none
 | k + 1, x7, x8, x10, x11, x15, x158000, x158001, x158002, x158003, x158004, x158005, x158006, x159000, x159001=>if x15 < (x159001.length : Int) then (if 0 ≤ x15 then ((product_Value.f k x158000 x158001 x158002 x158003 x158004 x158005 x158006 x7 ((rd_T43 x159001 x15).f1)).bind fun bt182=>(if x15 < (x8.length : Int) then ((cents_Mul.f k (rd x8 x15) x158002).bind fun bt185=>(if bt182.2 = 0 then (if bt185.2 = 0 then ((some (([bt182.1, bt185.1] : List Int) : List Int)).bind fun y187=>(if x11.length + y187.length < 17592186044416 then (contangotop_TopAverage.l1 k x7 x8 x10 (x11 ++ y187) (wrap64 (x15 + 1)) x158000 x158001 x158002 x158003 x158004 x158005 x158006 x159000 x159001) else (none))) else (if bt185.2 = 3 then ((contangotop_goes10.f k).bind fun t193=>(some t193)) else (none))) else (none))) else (none))) else (none)) else ((cents_Sum.f k x10).bind fun bt176=>((cents_Sum.f k x11).bind fun bt178=>(if bt176.2 = bt178.2 then (if bt176.1 = bt178.1 then ((contangotop_goes10.f k).bind fun t180=>(some t180)) else (none)) else (none))))
end
def contangotop_TopAverage.f (k : Nat) (a0_0 : ByteArray) (a0_1 : Int) (a0_2 : Int) (a0_3 : Int) (a0_4 : Int) (a0_5 : Int) (a0_6 : Bool) (l1 : List (S41)) (a2_0 : Int) (l2_1 : List (S43)) : Option (Bool):=if (l1.length : Int) > 60 then (contangotop_TopAverage.j0 k l1 true a0_0 a0_1 a0_2 a0_3 a0_4 a0_5 a0_6 a2_0 l2_1) else (contangotop_TopAverage.j0 k l1 (decide ((l2_1.length : Int) > 60)) a0_0 a0_1 a0_2 a0_3 a0_4 a0_5 a0_6 a2_0 l2_1)
theorem contangotop_TopAverage.mono_l : ∀ k, (∀ y0 y1 y2 y3 y4 y5 y6 y7 y8 y9 y10, LeO (contangotop_TopAverage.j0 k y0 y1 y2 y3 y4 y5 y6 y7 y8 y9 y10) (contangotop_TopAverage.j0 (k + 1) y0 y1 y2 y3 y4 y5 y6 y7 y8 y9 y10)) ∧ (∀ y0 y1 y2 y3 y4 y5 y6 y7 y8 y9 y10 y11 y12 y13, LeO (contangotop_TopAverage.j1 k y0 y1 y2 y3 y4 y5 y6 y7 y8 y9 y10 y11 y12 y13) (contangotop_TopAverage.j1 (k + 1) y0 y1 y2 y3 y4 y5 y6 y7 y8 y9 y10 y11 y12 y13)) ∧ (∀ y0 y1 y2 y3 y4 y5 y6 y7 y8 y9 y10 y11 y12 y13, LeO (contangotop_TopAverage.l0 k y0 y1 y2 y3 y4 y5 y6 y7 y8 y9 y10 y11 y12 y13) (contangotop_TopAverage.l0 (k + 1) y0 y1 y2 y3 y4 y5 y6 y7 y8 y9 y10 y11 y12 y13)) ∧ (∀ y0 y1 y2 y3 y4 y5 y6 y7 y8 y9 y10 y11 y12 y13, LeO (contangotop_TopAverage.l1 k y0 y1 y2 y3 y4 y5 y6 y7 y8 y9 y10 y11 y12 y13) (contangotop_TopAverage.l1 (k + 1) y0 y1 y2 y3 y4 y5 y6 y7 y8 y9 y10 y11 y12 y13))
 | 0=>⟨fun _ _ _ _ _ _ _ _ _ _ _ r h=>by simp [contangotop_TopAverage.j0] at h, fun _ _ _ _ _ _ _ _ _ _ _ _ _ _ r h=>by simp [contangotop_TopAverage.j1] at h, fun _ _ _ _ _ _ _ _ _ _ _ _ _ _ r h=>by simp [contangotop_TopAverage.l0] at h, fun _ _ _ _ _ _ _ _ _ _ _ _ _ _ r h=>by simp [contangotop_TopAverage.l1] at h⟩
 | k + 1=>by
  obtain ⟨ih0, ih1, ih2, ih3⟩:=contangotop_TopAverage.mono_l k
  refine ⟨?_, ?_, ?_, ?_⟩
  ·intro y0 y1 y2 y3 y4 y5 y6 y7 y8 y9 y10
   unfold contangotop_TopAverage.j0
   repeat' first
   | (with_reducible exact ih0 _ _ _ _ _ _ _ _ _ _ _)
   | (with_reducible exact ih1 _ _ _ _ _ _ _ _ _ _ _ _ _ _)
   | (with_reducible exact ih2 _ _ _ _ _ _ _ _ _ _ _ _ _ _)
   | (with_reducible exact ih3 _ _ _ _ _ _ _ _ _ _ _ _ _ _)
   | (with_reducible exact cents_Mul.mono _ _ _)
   | (with_reducible exact cents_Sum.mono _ _)
   | (with_reducible exact contangotop_goes10.mono _)
   | (with_reducible exact giveup_Even.mono _ _ _ _)
   | (with_reducible exact product_Check.mono _ _ _ _ _ _ _ _)
   | (with_reducible exact product_Value.mono _ _ _ _ _ _ _ _ _ _)
   | (with_reducible exact LeO.refl _)
   | (with_reducible exact LeO.none _)
   | (with_reducible refine LeO.ite ?_ ?_)
   | (with_reducible refine LeO.bind ?_ (fun _=>?_))
   | exact ih0 _ _ _ _ _ _ _ _ _ _ _
   | exact ih1 _ _ _ _ _ _ _ _ _ _ _ _ _ _
   | exact ih2 _ _ _ _ _ _ _ _ _ _ _ _ _ _
   | exact ih3 _ _ _ _ _ _ _ _ _ _ _ _ _ _
   | exact cents_Mul.mono _ _ _
   | exact cents_Sum.mono _ _
   | exact contangotop_goes10.mono _
   | exact giveup_Even.mono _ _ _ _
   | exact product_Check.mono _ _ _ _ _ _ _ _
   | exact product_Value.mono _ _ _ _ _ _ _ _ _ _
   | exact LeO.none _
   | refine LeO.ite ?_ ?_
   | refine LeO.bind ?_ (fun _=>?_)
  ·intro y0 y1 y2 y3 y4 y5 y6 y7 y8 y9 y10 y11 y12 y13
   unfold contangotop_TopAverage.j1
   repeat' first
   | (with_reducible exact ih0 _ _ _ _ _ _ _ _ _ _ _)
   | (with_reducible exact ih1 _ _ _ _ _ _ _ _ _ _ _ _ _ _)
   | (with_reducible exact ih2 _ _ _ _ _ _ _ _ _ _ _ _ _ _)
   | (with_reducible exact ih3 _ _ _ _ _ _ _ _ _ _ _ _ _ _)
   | (with_reducible exact cents_Mul.mono _ _ _)
   | (with_reducible exact cents_Sum.mono _ _)
   | (with_reducible exact contangotop_goes10.mono _)
   | (with_reducible exact giveup_Even.mono _ _ _ _)
   | (with_reducible exact product_Check.mono _ _ _ _ _ _ _ _)
   | (with_reducible exact product_Value.mono _ _ _ _ _ _ _ _ _ _)
   | (with_reducible exact LeO.refl _)
   | (with_reducible exact LeO.none _)
   | (with_reducible refine LeO.ite ?_ ?_)
   | (with_reducible refine LeO.bind ?_ (fun _=>?_))
   | exact ih0 _ _ _ _ _ _ _ _ _ _ _
   | exact ih1 _ _ _ _ _ _ _ _ _ _ _ _ _ _
   | exact ih2 _ _ _ _ _ _ _ _ _ _ _ _ _ _
   | exact ih3 _ _ _ _ _ _ _ _ _ _ _ _ _ _
   | exact cents_Mul.mono _ _ _
   | exact cents_Sum.mono _ _
   | exact contangotop_goes10.mono _
   | exact giveup_Even.mono _ _ _ _
   | exact product_Check.mono _ _ _ _ _ _ _ _
   | exact product_Value.mono _ _ _ _ _ _ _ _ _ _
   | exact LeO.none _
   | refine LeO.ite ?_ ?_
   | refine LeO.bind ?_ (fun _=>?_)
  ·intro y0 y1 y2 y3 y4 y5 y6 y7 y8 y9 y10 y11 y12 y13
   unfold contangotop_TopAverage.l0
   repeat' first
   | (with_reducible exact ih0 _ _ _ _ _ _ _ _ _ _ _)
   | (with_reducible exact ih1 _ _ _ _ _ _ _ _ _ _ _ _ _ _)
   | (with_reducible exact ih2 _ _ _ _ _ _ _ _ _ _ _ _ _ _)
   | (with_reducible exact ih3 _ _ _ _ _ _ _ _ _ _ _ _ _ _)
   | (with_reducible exact cents_Mul.mono _ _ _)
   | (with_reducible exact cents_Sum.mono _ _)
   | (with_reducible exact contangotop_goes10.mono _)
   | (with_reducible exact giveup_Even.mono _ _ _ _)
   | (with_reducible exact product_Check.mono _ _ _ _ _ _ _ _)
   | (with_reducible exact product_Value.mono _ _ _ _ _ _ _ _ _ _)
   | (with_reducible exact LeO.refl _)
   | (with_reducible exact LeO.none _)
   | (with_reducible refine LeO.ite ?_ ?_)
   | (with_reducible refine LeO.bind ?_ (fun _=>?_))
   | exact ih0 _ _ _ _ _ _ _ _ _ _ _
   | exact ih1 _ _ _ _ _ _ _ _ _ _ _ _ _ _
   | exact ih2 _ _ _ _ _ _ _ _ _ _ _ _ _ _
   | exact ih3 _ _ _ _ _ _ _ _ _ _ _ _ _ _
   | exact cents_Mul.mono _ _ _
   | exact cents_Sum.mono _ _
   | exact contangotop_goes10.mono _
   | exact giveup_Even.mono _ _ _ _
   | exact product_Check.mono _ _ _ _ _ _ _ _
   | exact product_Value.mono _ _ _ _ _ _ _ _ _ _
   | exact LeO.none _
   | refine LeO.ite ?_ ?_
   | refine LeO.bind ?_ (fun _=>?_)
  ·intro y0 y1 y2 y3 y4 y5 y6 y7 y8 y9 y10 y11 y12 y13
   unfold contangotop_TopAverage.l1
   repeat' first
   | (with_reducible exact ih0 _ _ _ _ _ _ _ _ _ _ _)
   | (with_reducible exact ih1 _ _ _ _ _ _ _ _ _ _ _ _ _ _)
   | (with_reducible exact ih2 _ _ _ _ _ _ _ _ _ _ _ _ _ _)
   | (with_reducible exact ih3 _ _ _ _ _ _ _ _ _ _ _ _ _ _)
   | (with_reducible exact cents_Mul.mono _ _ _)
   | (with_reducible exact cents_Sum.mono _ _)
   | (with_reducible exact contangotop_goes10.mono _)
   | (with_reducible exact giveup_Even.mono _ _ _ _)
   | (with_reducible exact product_Check.mono _ _ _ _ _ _ _ _)
   | (with_reducible exact product_Value.mono _ _ _ _ _ _ _ _ _ _)
   | (with_reducible exact LeO.refl _)
   | (with_reducible exact LeO.none _)
   | (with_reducible refine LeO.ite ?_ ?_)
   | (with_reducible refine LeO.bind ?_ (fun _=>?_))
   | exact ih0 _ _ _ _ _ _ _ _ _ _ _
   | exact ih1 _ _ _ _ _ _ _ _ _ _ _ _ _ _
   | exact ih2 _ _ _ _ _ _ _ _ _ _ _ _ _ _
   | exact ih3 _ _ _ _ _ _ _ _ _ _ _ _ _ _
   | exact cents_Mul.mono _ _ _
   | exact cents_Sum.mono _ _
   | exact contangotop_goes10.mono _
   | exact giveup_Even.mono _ _ _ _
   | exact product_Check.mono _ _ _ _ _ _ _ _
   | exact product_Value.mono _ _ _ _ _ _ _ _ _ _
   | exact LeO.none _
   | refine LeO.ite ?_ ?_
   | refine LeO.bind ?_ (fun _=>?_)
theorem contangotop_TopAverage.mono : ∀ a0 a1 a2 a3 a4 a5 a6 a7 a8 a9 k, LeO (contangotop_TopAverage.f k a0 a1 a2 a3 a4 a5 a6 a7 a8 a9) (contangotop_TopAverage.f (k + 1) a0 a1 a2 a3 a4 a5 a6 a7 a8 a9):=by
 intro a0 a1 a2 a3 a4 a5 a6 a7 a8 a9 k
 obtain ⟨ih0, ih1, ih2, ih3⟩:=contangotop_TopAverage.mono_l k
 unfold contangotop_TopAverage.f
 repeat' first
   | (with_reducible exact ih0 _ _ _ _ _ _ _ _ _ _ _)
   | (with_reducible exact ih1 _ _ _ _ _ _ _ _ _ _ _ _ _ _)
   | (with_reducible exact ih2 _ _ _ _ _ _ _ _ _ _ _ _ _ _)
   | (with_reducible exact ih3 _ _ _ _ _ _ _ _ _ _ _ _ _ _)
   | (with_reducible exact cents_Mul.mono _ _ _)
   | (with_reducible exact cents_Sum.mono _ _)
   | (with_reducible exact contangotop_goes10.mono _)
   | (with_reducible exact giveup_Even.mono _ _ _ _)
   | (with_reducible exact product_Check.mono _ _ _ _ _ _ _ _)
   | (with_reducible exact product_Value.mono _ _ _ _ _ _ _ _ _ _)
   | (with_reducible exact LeO.refl _)
   | (with_reducible exact LeO.none _)
   | (with_reducible refine LeO.ite ?_ ?_)
   | (with_reducible refine LeO.bind ?_ (fun _=>?_))
   | exact ih0 _ _ _ _ _ _ _ _ _ _ _
   | exact ih1 _ _ _ _ _ _ _ _ _ _ _ _ _ _
   | exact ih2 _ _ _ _ _ _ _ _ _ _ _ _ _ _
   | exact ih3 _ _ _ _ _ _ _ _ _ _ _ _ _ _
   | exact cents_Mul.mono _ _ _
   | exact cents_Sum.mono _ _
   | exact contangotop_goes10.mono _
   | exact giveup_Even.mono _ _ _ _
   | exact product_Check.mono _ _ _ _ _ _ _ _
   | exact product_Value.mono _ _ _ _ _ _ _ _ _ _
   | exact LeO.none _
   | refine LeO.ite ?_ ?_
   | refine LeO.bind ?_ (fun _=>?_)
def contangotop_TopAverage.T10 : Bool × List (List Nat × List Nat):=(true, [([], []), ([], []), ([], []), ([1, 2], [1, 2]), ([3], [3]), ([4], [4]), ([], []), ([], []), ([6, 7], [6, 7]), ([8], [8]), ([9], [9]), ([0, 5, 10], [0, 5, 10]), ([11], [11]), ([12], [12]), ([12], [12]), ([13, 11, 0, 1, 2, 3, 4, 5, 6, 7, 8, 9, 10, 11, 12, 13], [13]), ([14, 15, 0, 1, 2, 3, 4, 5, 6, 7, 8, 9, 10, 11, 12, 13, 14, 15], [14])])
def contangotop_TopAverage.B10 : List Nat:=[0, 0, 0, 6, 14, 30, 0, 0, 192, 448, 960, 2047, 4095, 8191, 8191, 16383, 65535]
theorem contangotop_TopAverage.tab10 : rtab .any (opsOf Try.f3 10) = contangotop_TopAverage.T10:=by kernel_rfl
theorem contangotop_TopAverage.bits10 : waitsOk contangotop_TopAverage.T10.2 contangotop_TopAverage.B10 = true:=by kernel_rfl
def contangotop_TopAverage.T17 : Bool × List (List Nat × List Nat):=(true, [([], []), ([], []), ([], []), ([2], [2]), ([], []), ([3, 4], [3, 4]), ([5], [5]), ([6], [6]), ([0, 1, 7], [0, 1, 7]), ([8], [8]), ([9], [9]), ([9], [9]), ([10, 8, 0, 1, 2, 3, 4, 5, 6, 7, 8, 9, 10], [10]), ([11, 12, 0, 1, 2, 3, 4, 5, 6, 7, 8, 9, 10, 11, 12], [11])])
def contangotop_TopAverage.B17 : List Nat:=[0, 0, 0, 4, 0, 28, 60, 124, 255, 511, 1023, 1023, 2047, 8191]
theorem contangotop_TopAverage.tab17 : rtab .any (opsOf Try.f3 17) = contangotop_TopAverage.T17:=by kernel_rfl
theorem contangotop_TopAverage.bits17 : waitsOk contangotop_TopAverage.T17.2 contangotop_TopAverage.B17 = true:=by kernel_rfl
def contangotop_TopAverage.T18 : Bool × List (List Nat × List Nat):=(true, [([], []), ([], []), ([0, 1], [0, 1]), ([2], [2]), ([], []), ([4], [4]), ([3, 5], [3, 5]), ([6], [6]), ([7], [7]), ([7], [7]), ([8, 6, 0, 1, 2, 3, 4, 5, 6, 7, 8], [8]), ([9, 10, 0, 1, 2, 3, 4, 5, 6, 7, 8, 9, 10], [9])])
def contangotop_TopAverage.B18 : List Nat:=[0, 0, 3, 7, 0, 16, 63, 127, 255, 255, 511, 2047]
theorem contangotop_TopAverage.tab18 : rtab .any (opsOf Try.f3 18) = contangotop_TopAverage.T18:=by kernel_rfl
theorem contangotop_TopAverage.bits18 : waitsOk contangotop_TopAverage.T18.2 contangotop_TopAverage.B18 = true:=by kernel_rfl
set_option maxHeartbeats 8000000 in
set_option maxRecDepth 100000 in
theorem contangotop_TopAverage.calls (k : Nat) (a0_0 : ByteArray) (a0_1 : Int) (a0_2 : Int) (a0_3 : Int) (a0_4 : Int) (a0_5 : Int) (a0_6 : Bool) (A1 : Option Addr) (c1 : Nat) (l1 : List (S41)) (a2_0 : Int) (A2_1 : Option Addr) (c2_1 : Nat) (l2_1 : List (S43)) (r : Bool) (w : World) (hr1 : Kd.C k41 w A1 l1.length l1) (hc1 : l1.length ≤ c1) (hr2_1 : Kd.C k43 w A2_1 l2_1.length l2_1) (hc2_1 : l2_1.length ≤ c2_1) (h : contangotop_TopAverage.f k a0_0 a0_1 a0_2 a0_3 a0_4 a0_5 a0_6 l1 a2_0 l2_1 = some r) :
  Calls Try.prog 3 #[.agg #[.string a0_0, .int .i64 a0_1, .int .i64 a0_2, .int .i64 a0_3, .int .i64 a0_4, .int .i64 a0_5, .bool a0_6], .slice A1 l1.length c1, .agg #[.int .i64 a2_0, .slice A2_1 l2_1.length c2_1]] w fun e w'=>e = .returned (.bool r) ∧ Below w.heap.size w w':=by
 have hu23:=Try.underlying23
 have hu27:=Try.underlying27
 have HR1:=Aside0.mk hr1
 have HC1:=Aside0.mk hc1
 clear hr1 hc1
 have HR2_1:=Aside0.mk hr2_1
 have HC2_1:=Aside0.mk hc2_1
 clear hr2_1 hc2_1
 have HB:=Aside0.mk (Below.refl w.heap.size w)
 have H : (if (l1.length : Int) > 60 then (contangotop_TopAverage.j0 k l1 true a0_0 a0_1 a0_2 a0_3 a0_4 a0_5 a0_6 a2_0 l2_1) else (contangotop_TopAverage.j0 k l1 (decide ((l2_1.length : Int) > 60)) a0_0 a0_1 a0_2 a0_3 a0_4 a0_5 a0_6 a2_0 l2_1)) = some r:=h
 clear h
 have HC4:=Aside0.mk H
 clear H
 go_enter Try.func3, Try.ntmps3
 go_upto_region 1 with (first | ((with_reducible refine gate_dst (N:=3) rfl ?_);(try (refine gate_guard (by rfl) ?_;dsimp only));refine box_event ?hg (N:=3) ?hd (cs:=#[.string a0_0, .int .i64 a0_1, .int .i64 a0_2, .int .i64 a0_3, .int .i64 a0_4, .int .i64 a0_5, .bool a0_6]) (t:=23) ?hr ?_;(case hd=>rfl);(case hg=>rfl);(case hr=>first | (go_simp;done) | (go_simp;rfl));intro gb157 hg w5 hbox hb;have n0_:=Aside0.mk (below_step (by repeat (first | (with_reducible first | exact HB.out | apply below_alloc | apply pw_below_drewN | apply below_drew1) | exact HB.out)) hb);have n1_:=Aside0.mk (hbox);have n2_:=Aside0.mk ((by rw [hg];exact (below_size (by repeat (first | (with_reducible first | exact HB.out | apply below_alloc | apply pw_below_drewN | apply below_drew1) | exact HB.out))) : w.heap.size ≤ gb157));have n3_:=Aside0.mk ((by rw [hg];exact (below_size (by repeat (first | (with_reducible first | exact HB.out | apply below_alloc | apply pw_below_drewN | apply below_drew1) | exact HB.out))) : w.heap.size ≤ gb157));clear HB;have HB:=n0_;have BK157:=n1_;have GW157:=n2_;have GE157:=n3_;clear n0_ n1_ n2_ n3_ hb hbox hg) | ((with_reducible refine gate_dst (N:=5) rfl ?_);(try (refine gate_guard (by rfl) ?_;dsimp only));refine box_event ?hg (N:=5) ?hd (cs:=#[.int .i64 a2_0, .slice A2_1 l2_1.length c2_1]) (t:=27) ?hr ?_;(case hd=>rfl);(case hg=>rfl);(case hr=>first | (go_simp;done) | (go_simp;rfl));intro gb158 hg w6 hbox hb;have n0_:=Aside0.mk (blk_below (g:=gb157) (o:=.cells #[.string a0_0, .int .i64 a0_1, .int .i64 a0_2, .int .i64 a0_3, .int .i64 a0_4, .int .i64 a0_5, .bool a0_6] 23 (0, 0)) (by (with_reducible repeat (first | refine blk_drewN ?_ _ | refine blk_drew ?_ | refine blk_alloc ?_ _));exact BK157.out) hb);have n1_:=Aside0.mk (below_step (by repeat (first | (with_reducible first | exact HB.out | apply below_alloc | apply pw_below_drewN | apply below_drew1 | refine below_set ?_ GE157.out) | exact HB.out)) hb);have n2_:=Aside0.mk (hbox);have n3_:=Aside0.mk ((by rw [hg];exact (below_size (by repeat (first | (with_reducible first | exact HB.out | apply below_alloc | apply pw_below_drewN | apply below_drew1 | refine below_set ?_ GE157.out) | exact HB.out))) : w.heap.size ≤ gb158));have n4_:=Aside0.mk ((by rw [hg];exact (below_size (by repeat (first | (with_reducible first | exact HB.out | apply below_alloc | apply pw_below_drewN | apply below_drew1 | refine below_set ?_ GE157.out) | exact HB.out))) : w.heap.size ≤ gb158));have n5_:=Aside0.mk ((by rw [hg];exact Nat.ne_of_lt (blk_lt (g:=gb157) (o:=.cells #[.string a0_0, .int .i64 a0_1, .int .i64 a0_2, .int .i64 a0_3, .int .i64 a0_4, .int .i64 a0_5, .bool a0_6] 23 (0, 0)) (by (with_reducible repeat (first | refine blk_drewN ?_ _ | refine blk_drew ?_ | refine blk_alloc ?_ _));exact BK157.out)) : gb157 ≠ gb158));have n6_:=Aside0.mk ((by rw [hg];exact Nat.ne_of_gt (blk_lt (g:=gb157) (o:=.cells #[.string a0_0, .int .i64 a0_1, .int .i64 a0_2, .int .i64 a0_3, .int .i64 a0_4, .int .i64 a0_5, .bool a0_6] 23 (0, 0)) (by (with_reducible repeat (first | refine blk_drewN ?_ _ | refine blk_drew ?_ | refine blk_alloc ?_ _));exact BK157.out)) : gb158 ≠ gb157));clear BK157 HB;have BK157:=n0_;have HB:=n1_;have BK158:=n2_;have GW158:=n3_;have GE158:=n4_;have NB157_158:=n5_;have NB158_157:=n6_;clear n0_ n1_ n2_ n3_ n4_ n5_ n6_ hb hbox hg))
 (try simp only [Act.put, List.setIfInBounds_toArray, List.set_cons_zero, List.set_cons_succ])
 go_cut [32] (fun v32 wc=>∃ (kq : Nat) (x32_3 : Bool), v32 = .bool x32_3 ∧ Aside0 (contangotop_TopAverage.j0 kq l1 x32_3 a0_0 a0_1 a0_2 a0_3 a0_4 a0_5 a0_6 a2_0 l2_1 = some r) ∧ Aside0 (kq ≤ k) ∧ Aside0 (wc.heap[gb157]? = some (.cells #[.string a0_0, .int .i64 a0_1, .int .i64 a0_2, .int .i64 a0_3, .int .i64 a0_4, .int .i64 a0_5, .bool a0_6] 23 (0, 0))) ∧ Aside0 (wc.heap[gb158]? = some (.cells #[.int .i64 a2_0, (.slice A2_1 l2_1.length c2_1)] 27 (0, 0))) ∧ Aside0 (Below w.heap.size w wc))
 case first =>
  have H:=HC4.out
  clear HC4
  by_cases c7 : (l1.length : Int) > 60
  ·rw [if_pos c7] at H
   have c7b0 : decide (60 < (l1.length : Int)) = true:=decide_eq_true c7
   have c7b1 : decide (60 < l1.length) = true:=decide_eq_true (by omega)
   clear c7
   (first | rw [c7b0] | (simp only [i64_w, i32_w];rw [c7b0]) | rw [c7b1] | skip)
   have H':=Aside0.mk H
   clear H
   go_wp2
   go_meet
   case rel=>exact ⟨_, (true), (by first | rfl | (simp;done) | (simp [*];done)), H', ⟨by first | omega | exact Nat.le_refl _⟩, ⟨by (with_reducible repeat (first | refine blk_drewN ?_ _ | refine blk_drew ?_ | refine blk_alloc ?_ _));exact BK157.out⟩, ⟨by (with_reducible repeat (first | refine blk_drewN ?_ _ | refine blk_drew ?_ | refine blk_alloc ?_ _));exact BK158.out⟩, ⟨by repeat (first | (with_reducible first | exact HB.out | apply below_alloc | apply pw_below_drewN | apply below_drew1 | refine below_set ?_ GE157.out | refine below_set ?_ GE158.out) | exact HB.out)⟩⟩
  ·rw [if_neg c7] at H
   have c7b0 : decide (60 < (l1.length : Int)) = false:=decide_eq_false c7
   have c7b1 : decide (60 < l1.length) = false:=decide_eq_false (by omega)
   clear c7
   (first | rw [c7b0] | (simp only [i64_w, i32_w];rw [c7b0]) | rw [c7b1] | skip)
   have H':=Aside0.mk H
   clear H
   have hnb8:=NB158_157.out
   have hnc8:=NB157_158.out
   have hcz9_0 : w6.cell? ⟨gb158, 0, none⟩ = some (.int .i64 a2_0):=(blk_cell BK158.out 0).trans rfl
   have hcz9_1 : w6.cell? ⟨gb158, 1, none⟩ = some (.slice A2_1 l2_1.length c2_1):=(blk_cell BK158.out 1).trans rfl
   have hfz9_0:=blk_frozen BK158.out 0
   have hfz9_1:=blk_frozen BK158.out 1
   go_wp2
   go_meet
   case rel=>exact ⟨_, (decide ((l2_1.length : Int) > 60)), (by first | rfl | (simp;done) | (simp [*];done)), H', ⟨by first | omega | exact Nat.le_refl _⟩, ⟨by (with_reducible repeat (first | refine blk_drewN ?_ _ | refine blk_drew ?_ | refine blk_alloc ?_ _));exact BK157.out⟩, ⟨by (with_reducible repeat (first | refine blk_drewN ?_ _ | refine blk_drew ?_ | refine blk_alloc ?_ _));exact BK158.out⟩, ⟨by repeat (first | (with_reducible first | exact HB.out | apply below_alloc | apply pw_below_drewN | apply below_drew1 | refine below_set ?_ GE157.out | refine below_set ?_ GE158.out) | exact HB.out)⟩⟩
 case rest =>
  clear HC4
  try clear c1
  try clear c2
  try clear p2
  try clear c3
  try clear c7
  try clear c7b0
  try clear c7b1
  try clear c8
  try clear hcz9_0
  try clear hcz9_1
  try clear hfz9_0
  try clear hfz9_1
  obtain ⟨kq, x32_3, rfl, HA, HJ3, BK157, BK158, HB⟩:=hcut
  cases kq with
  | zero=>exact absurd HA.out (by simp [contangotop_TopAverage.j0])
  | succ kj3 =>
   have H:=HA.out
   clear HA
   simp only [contangotop_TopAverage.j0] at H
   by_cases c10 : x32_3 = true
   ·subst c10
    have H1 : ((contangotop_goes10.f kj3).bind fun t159=>(some t159)) = some r:=by rw [if_pos rfl] at H;exact H
    clear H
    have H:=H1
    clear H1
    replace H:=Option.bind_eq_some_iff.mp H
    obtain ⟨t159, A110, H⟩:=H
    replace H : (some t159) = some r:=H
    have A11:=Aside0.mk A110
    clear A110
    obtain rfl:=Option.some.inj H
    go_wp2_with (first | ((with_reducible refine gate_callee (f:=4) rfl ?_);refine goesL_ (some 33) rfl rfl Try.func4 (by kernel_rfl) rfl #[] rfl (by (try simp only [List.map_toArray, List.map_cons, List.map_nil]);first | done | rfl | (simp only [List.length_drop, List.length_take];rfl)) ?_;(with_reducible refine (contangotop_goes10.calls kj3  t159 _ A11.out).mono ?_);rintro e w12 ⟨rfl, hb⟩;refine ⟨_, rfl, ?_⟩;have n0_:=Aside0.mk (blk_below (g:=gb157) (o:=.cells #[.string a0_0, .int .i64 a0_1, .int .i64 a0_2, .int .i64 a0_3, .int .i64 a0_4, .int .i64 a0_5, .bool a0_6] 23 (0, 0)) (by (with_reducible repeat (first | refine blk_drewN ?_ _ | refine blk_drew ?_ | refine blk_alloc ?_ _));exact BK157.out) hb);have n1_:=Aside0.mk (blk_below (g:=gb158) (o:=.cells #[.int .i64 a2_0, .slice A2_1 l2_1.length c2_1] 27 (0, 0)) (by (with_reducible repeat (first | refine blk_drewN ?_ _ | refine blk_drew ?_ | refine blk_alloc ?_ _));exact BK158.out) hb);have n2_:=Aside0.mk (below_step (by repeat (first | (with_reducible first | exact HB.out | apply below_alloc | apply pw_below_drewN | apply below_drew1 | refine below_set ?_ GE157.out | refine below_set ?_ GE158.out) | exact HB.out)) hb);clear BK157 BK158 HB;have BK157:=n0_;have BK158:=n1_;have HB:=n2_;clear n0_ n1_ n2_;(try clear hb);(try clear hb2);(try clear hk);(try clear hi)))
    go_ret
    exact ⟨by first | rfl | (simp [errW_none, errW_some] <;> rfl) | (simp [*, errW_none, errW_some] <;> rfl), by repeat (first | (with_reducible first | exact HB.out | apply below_alloc | apply pw_below_drewN | apply below_drew1 | refine below_set ?_ GE157.out | refine below_set ?_ GE158.out) | exact HB.out)⟩
   ·replace c10:=Bool.eq_false_iff.mpr c10
    subst c10
    have H1 : ((giveup_Even.f kj3 l1 a2_0 l2_1).bind fun bt160=>(if bt160.2.2 = 0 then ((product_Check.f kj3 a0_0 a0_1 a0_2 a0_3 a0_4 a0_5 a0_6).bind fun t165=>(if t165 = 0 then (contangotop_TopAverage.j1 kj3 l1 bt160.1 bt160.2.1 bt160.2.2 ((bt160.2.1.length : Int) != (l2_1.length : Int)) a0_0 a0_1 a0_2 a0_3 a0_4 a0_5 a0_6 a2_0 l2_1) else (contangotop_TopAverage.j1 kj3 l1 bt160.1 bt160.2.1 bt160.2.2 true a0_0 a0_1 a0_2 a0_3 a0_4 a0_5 a0_6 a2_0 l2_1))) else (contangotop_TopAverage.j1 kj3 l1 bt160.1 bt160.2.1 bt160.2.2 true a0_0 a0_1 a0_2 a0_3 a0_4 a0_5 a0_6 a2_0 l2_1))) = some r:=by rw [if_neg (show ¬ (false = true) by decide)] at H;exact H
    clear H
    have H:=H1
    clear H1
    replace H:=Option.bind_eq_some_iff.mp H
    obtain ⟨⟨t160, t161, t162⟩, A130, H⟩:=H
    replace H : (if t162 = 0 then ((product_Check.f kj3 a0_0 a0_1 a0_2 a0_3 a0_4 a0_5 a0_6).bind fun t165=>(if t165 = 0 then (contangotop_TopAverage.j1 kj3 l1 t160 t161 t162 ((t161.length : Int) != (l2_1.length : Int)) a0_0 a0_1 a0_2 a0_3 a0_4 a0_5 a0_6 a2_0 l2_1) else (contangotop_TopAverage.j1 kj3 l1 t160 t161 t162 true a0_0 a0_1 a0_2 a0_3 a0_4 a0_5 a0_6 a2_0 l2_1))) else (contangotop_TopAverage.j1 kj3 l1 t160 t161 t162 true a0_0 a0_1 a0_2 a0_3 a0_4 a0_5 a0_6 a2_0 l2_1)) = some r:=H
    have A13:=Aside0.mk A130
    clear A130
    have HC14:=Aside0.mk H
    clear H
    have hnb15:=NB158_157.out
    have hnc15:=NB157_158.out
    have hcz16_0 : wc.cell? ⟨gb158, 0, none⟩ = some (.int .i64 a2_0):=(blk_cell BK158.out 0).trans rfl
    have hcz16_1 : wc.cell? ⟨gb158, 1, none⟩ = some (.slice A2_1 l2_1.length c2_1):=(blk_cell BK158.out 1).trans rfl
    have hfz16_0:=blk_frozen BK158.out 0
    have hfz16_1:=blk_frozen BK158.out 1
    go_upto_region 4 with (first | ((with_reducible refine gate_callee (f:=5) rfl ?_);refine goesL_ (some 40) rfl rfl Try.func5 (by kernel_rfl) rfl #[.slice A1 l1.length c1, .int .i64 a2_0, .slice A2_1 l2_1.length c2_1] rfl (by (try simp only [List.map_toArray, List.map_cons, List.map_nil]);first | done | rfl | (simp only [List.length_drop, List.length_take];rfl)) ?_;(with_reducible refine (giveup_Even.calls kj3 _ _ l1 a2_0 _ _ l2_1 t160 t161 t162 _ ?side1 ?side2 ?side3 ?side4 A13.out).mono ?_);(case side1=>repeat (first | exact (Kd.C_below HR1.out HB.out) | (with_reducible refine Kd.C_alloc ?_ _) | (with_reducible refine Kd.C_drewN ?_ _) | (with_reducible refine Kd.C_drew ?_)));(case side2=>exact HC1.out);(case side3=>repeat (first | exact (Kd.C_below HR2_1.out HB.out) | (with_reducible refine Kd.C_alloc ?_ _) | (with_reducible refine Kd.C_drewN ?_ _) | (with_reducible refine Kd.C_drew ?_)));(case side4=>exact HC2_1.out);rintro e w17 ⟨v163, rfl, ho0, hb⟩;refine ⟨_, rfl, ?_⟩;have n0_:=Aside0.mk (Kd.R_lower ho0 (below_size (by repeat (first | (with_reducible first | exact HB.out | apply below_alloc | apply pw_below_drewN | apply below_drew1 | refine below_set ?_ GE157.out | refine below_set ?_ GE158.out) | exact HB.out))));have n1_:=Aside0.mk (blk_below (g:=gb157) (o:=.cells #[.string a0_0, .int .i64 a0_1, .int .i64 a0_2, .int .i64 a0_3, .int .i64 a0_4, .int .i64 a0_5, .bool a0_6] 23 (0, 0)) (by (with_reducible repeat (first | refine blk_drewN ?_ _ | refine blk_drew ?_ | refine blk_alloc ?_ _));exact BK157.out) hb);have n2_:=Aside0.mk (blk_below (g:=gb158) (o:=.cells #[.int .i64 a2_0, .slice A2_1 l2_1.length c2_1] 27 (0, 0)) (by (with_reducible repeat (first | refine blk_drewN ?_ _ | refine blk_drew ?_ | refine blk_alloc ?_ _));exact BK158.out) hb);have n3_:=Aside0.mk (below_step (by repeat (first | (with_reducible first | exact HB.out | apply below_alloc | apply pw_below_drewN | apply below_drew1 | refine below_set ?_ GE157.out | refine below_set ?_ GE158.out) | exact HB.out)) hb);clear BK157 BK158 HB;have HO164:=n0_;have BK157:=n1_;have BK158:=n2_;have HB:=n3_;clear n0_ n1_ n2_ n3_;(try clear hb);(try clear hb2);(try clear hk);(try clear hi);(try clear ho0)))
    (try simp only [Act.put, List.setIfInBounds_toArray, List.set_cons_zero, List.set_cons_succ])
    go_cut [58] (fun v58 wc=>∃ (kq : Nat) (x58_13 : Bool), v58 = .bool x58_13 ∧ Aside0 (contangotop_TopAverage.j1 kq l1 t160 t161 t162 x58_13 a0_0 a0_1 a0_2 a0_3 a0_4 a0_5 a0_6 a2_0 l2_1 = some r) ∧ Aside0 (kq ≤ kj3) ∧ Aside0 (Kd.R (Kd.int .i64) 3 wc w.heap.size (fun _=>True) v163 t161) ∧ Aside0 (wc.heap[gb157]? = some (.cells #[.string a0_0, .int .i64 a0_1, .int .i64 a0_2, .int .i64 a0_3, .int .i64 a0_4, .int .i64 a0_5, .bool a0_6] 23 (0, 0))) ∧ Aside0 (wc.heap[gb158]? = some (.cells #[.int .i64 a2_0, (.slice A2_1 l2_1.length c2_1)] 27 (0, 0))) ∧ Aside0 (Below w.heap.size w wc))
    case first =>
     have H:=HC14.out
     clear HC14
     by_cases c18 : t162 = 0
     ·rw [if_pos c18] at H
      have c18b0 : (t162 == 0) = true:=beq_iff_eq.mpr c18
      have c18b1 : (t162 != 0) = false:=bne_eq_false_iff_eq.mpr c18
      clear c18
      (first | rw [c18b0] | (simp only [i64_w, i32_w];rw [c18b0]) | rw [c18b1] | skip)
      replace H:=Option.bind_eq_some_iff.mp H
      obtain ⟨t165, A190, H⟩:=H
      replace H : (if t165 = 0 then (contangotop_TopAverage.j1 kj3 l1 t160 t161 t162 ((t161.length : Int) != (l2_1.length : Int)) a0_0 a0_1 a0_2 a0_3 a0_4 a0_5 a0_6 a2_0 l2_1) else (contangotop_TopAverage.j1 kj3 l1 t160 t161 t162 true a0_0 a0_1 a0_2 a0_3 a0_4 a0_5 a0_6 a2_0 l2_1)) = some r:=H
      have A19:=Aside0.mk A190
      clear A190
      by_cases c20 : t165 = 0
      ·rw [if_pos c20] at H
       have c20b0 : (t165 == 0) = true:=beq_iff_eq.mpr c20
       have c20b1 : (t165 != 0) = false:=bne_eq_false_iff_eq.mpr c20
       clear c20
       have H':=Aside0.mk H
       clear H
       have hnb21:=NB157_158.out
       have hnc21:=NB158_157.out
       have hcz22_0 : w17.cell? ⟨gb157, 0, none⟩ = some (.string a0_0):=(blk_cell BK157.out 0).trans rfl
       have hcz22_1 : w17.cell? ⟨gb157, 1, none⟩ = some (.int .i64 a0_1):=(blk_cell BK157.out 1).trans rfl
       have hcz22_2 : w17.cell? ⟨gb157, 2, none⟩ = some (.int .i64 a0_2):=(blk_cell BK157.out 2).trans rfl
       have hcz22_3 : w17.cell? ⟨gb157, 3, none⟩ = some (.int .i64 a0_3):=(blk_cell BK157.out 3).trans rfl
       have hcz22_4 : w17.cell? ⟨gb157, 4, none⟩ = some (.int .i64 a0_4):=(blk_cell BK157.out 4).trans rfl
       have hcz22_5 : w17.cell? ⟨gb157, 5, none⟩ = some (.int .i64 a0_5):=(blk_cell BK157.out 5).trans rfl
       have hcz22_6 : w17.cell? ⟨gb157, 6, none⟩ = some (.bool a0_6):=(blk_cell BK157.out 6).trans rfl
       have hfz22_0:=blk_frozen BK157.out 0
       have hfz22_1:=blk_frozen BK157.out 1
       have hfz22_2:=blk_frozen BK157.out 2
       have hfz22_3:=blk_frozen BK157.out 3
       have hfz22_4:=blk_frozen BK157.out 4
       have hfz22_5:=blk_frozen BK157.out 5
       have hfz22_6:=blk_frozen BK157.out 6
       go_wp2_with (first | (go_at_call 6;(with_reducible refine (product_Check.calls kj3 a0_0 a0_1 a0_2 a0_3 a0_4 a0_5 a0_6 t165 _ A19.out).mono ?_);rintro e w23 ⟨rfl, hb⟩;have n0_:=Aside0.mk (Kd.R_below (by (with_reducible repeat (first | apply Kd.R_alloc | apply Kd.R_drewN | apply Kd.R_drew));exact HO164.out) hb);have n1_:=Aside0.mk (blk_below (g:=gb157) (o:=.cells #[.string a0_0, .int .i64 a0_1, .int .i64 a0_2, .int .i64 a0_3, .int .i64 a0_4, .int .i64 a0_5, .bool a0_6] 23 (0, 0)) (by (with_reducible repeat (first | refine blk_drewN ?_ _ | refine blk_drew ?_ | refine blk_alloc ?_ _));exact BK157.out) hb);have n2_:=Aside0.mk (blk_below (g:=gb158) (o:=.cells #[.int .i64 a2_0, .slice A2_1 l2_1.length c2_1] 27 (0, 0)) (by (with_reducible repeat (first | refine blk_drewN ?_ _ | refine blk_drew ?_ | refine blk_alloc ?_ _));exact BK158.out) hb);have n3_:=Aside0.mk (below_step (by repeat (first | (with_reducible first | exact HB.out | apply below_alloc | apply pw_below_drewN | apply below_drew1 | refine below_set ?_ GE157.out | refine below_set ?_ GE158.out) | exact HB.out)) hb);clear HO164 BK157 BK158 HB;have HO164:=n0_;have BK157:=n1_;have BK158:=n2_;have HB:=n3_;clear n0_ n1_ n2_ n3_;(try clear hb);(try clear hb2);(try clear hk);(try clear hi);obtain ⟨Ao24, co24, eo24⟩:=Kd.R_slice HO164.out;subst eo24;have hcz25_0 : w23.cell? ⟨gb158, 0, none⟩ = some (.int .i64 a2_0):=(blk_cell BK158.out 0).trans rfl;have hcz25_1 : w23.cell? ⟨gb158, 1, none⟩ = some (.slice A2_1 l2_1.length c2_1):=(blk_cell BK158.out 1).trans rfl;have hfz25_0:=blk_frozen BK158.out 0;have hfz25_1:=blk_frozen BK158.out 1))
       go_meet
       case rel=>exact ⟨_, (((t161.length : Int) != (l2_1.length : Int))), (by first | rfl | (simp;done) | (simp [*];done)), H', ⟨by have:=HJ3.out;first | omega | exact Nat.le_refl _⟩, ⟨by (with_reducible repeat (first | apply Kd.R_alloc | apply Kd.R_drewN | apply Kd.R_drew));exact HO164.out⟩, ⟨by (with_reducible repeat (first | refine blk_drewN ?_ _ | refine blk_drew ?_ | refine blk_alloc ?_ _));exact BK157.out⟩, ⟨by (with_reducible repeat (first | refine blk_drewN ?_ _ | refine blk_drew ?_ | refine blk_alloc ?_ _));exact BK158.out⟩, ⟨by repeat (first | (with_reducible first | exact HB.out | apply below_alloc | apply pw_below_drewN | apply below_drew1 | refine below_set ?_ GE157.out | refine below_set ?_ GE158.out) | exact HB.out)⟩⟩
      ·rw [if_neg c20] at H
       have c20b0 : (t165 == 0) = false:=beq_eq_false_iff_ne.mpr c20
       have c20b1 : (t165 != 0) = true:=bne_iff_ne.mpr c20
       have H':=Aside0.mk H
       clear H
       have hnb26:=NB157_158.out
       have hnc26:=NB158_157.out
       have hcz27_0 : w17.cell? ⟨gb157, 0, none⟩ = some (.string a0_0):=(blk_cell BK157.out 0).trans rfl
       have hcz27_1 : w17.cell? ⟨gb157, 1, none⟩ = some (.int .i64 a0_1):=(blk_cell BK157.out 1).trans rfl
       have hcz27_2 : w17.cell? ⟨gb157, 2, none⟩ = some (.int .i64 a0_2):=(blk_cell BK157.out 2).trans rfl
       have hcz27_3 : w17.cell? ⟨gb157, 3, none⟩ = some (.int .i64 a0_3):=(blk_cell BK157.out 3).trans rfl
       have hcz27_4 : w17.cell? ⟨gb157, 4, none⟩ = some (.int .i64 a0_4):=(blk_cell BK157.out 4).trans rfl
       have hcz27_5 : w17.cell? ⟨gb157, 5, none⟩ = some (.int .i64 a0_5):=(blk_cell BK157.out 5).trans rfl
       have hcz27_6 : w17.cell? ⟨gb157, 6, none⟩ = some (.bool a0_6):=(blk_cell BK157.out 6).trans rfl
       have hfz27_0:=blk_frozen BK157.out 0
       have hfz27_1:=blk_frozen BK157.out 1
       have hfz27_2:=blk_frozen BK157.out 2
       have hfz27_3:=blk_frozen BK157.out 3
       have hfz27_4:=blk_frozen BK157.out 4
       have hfz27_5:=blk_frozen BK157.out 5
       have hfz27_6:=blk_frozen BK157.out 6
       go_wp2_with (first | (go_at_call 6;(with_reducible refine (product_Check.calls kj3 a0_0 a0_1 a0_2 a0_3 a0_4 a0_5 a0_6 t165 _ A19.out).mono ?_);rintro e w28 ⟨rfl, hb⟩;have n0_:=Aside0.mk (Kd.R_below (by (with_reducible repeat (first | apply Kd.R_alloc | apply Kd.R_drewN | apply Kd.R_drew));exact HO164.out) hb);have n1_:=Aside0.mk (blk_below (g:=gb157) (o:=.cells #[.string a0_0, .int .i64 a0_1, .int .i64 a0_2, .int .i64 a0_3, .int .i64 a0_4, .int .i64 a0_5, .bool a0_6] 23 (0, 0)) (by (with_reducible repeat (first | refine blk_drewN ?_ _ | refine blk_drew ?_ | refine blk_alloc ?_ _));exact BK157.out) hb);have n2_:=Aside0.mk (blk_below (g:=gb158) (o:=.cells #[.int .i64 a2_0, .slice A2_1 l2_1.length c2_1] 27 (0, 0)) (by (with_reducible repeat (first | refine blk_drewN ?_ _ | refine blk_drew ?_ | refine blk_alloc ?_ _));exact BK158.out) hb);have n3_:=Aside0.mk (below_step (by repeat (first | (with_reducible first | exact HB.out | apply below_alloc | apply pw_below_drewN | apply below_drew1 | refine below_set ?_ GE157.out | refine below_set ?_ GE158.out) | exact HB.out)) hb);clear HO164 BK157 BK158 HB;have HO164:=n0_;have BK157:=n1_;have BK158:=n2_;have HB:=n3_;clear n0_ n1_ n2_ n3_;(try clear hb);(try clear hb2);(try clear hk);(try clear hi)))
       go_meet
       case rel=>exact ⟨_, (true), (by first | rfl | (simp;done) | (simp [*];done)), H', ⟨by have:=HJ3.out;first | omega | exact Nat.le_refl _⟩, ⟨by (with_reducible repeat (first | apply Kd.R_alloc | apply Kd.R_drewN | apply Kd.R_drew));exact HO164.out⟩, ⟨by (with_reducible repeat (first | refine blk_drewN ?_ _ | refine blk_drew ?_ | refine blk_alloc ?_ _));exact BK157.out⟩, ⟨by (with_reducible repeat (first | refine blk_drewN ?_ _ | refine blk_drew ?_ | refine blk_alloc ?_ _));exact BK158.out⟩, ⟨by repeat (first | (with_reducible first | exact HB.out | apply below_alloc | apply pw_below_drewN | apply below_drew1 | refine below_set ?_ GE157.out | refine below_set ?_ GE158.out) | exact HB.out)⟩⟩
     ·rw [if_neg c18] at H
      have c18b0 : (t162 == 0) = false:=beq_eq_false_iff_ne.mpr c18
      have c18b1 : (t162 != 0) = true:=bne_iff_ne.mpr c18
      (first | rw [c18b0] | (simp only [i64_w, i32_w];rw [c18b0]) | rw [c18b1] | skip)
      have H':=Aside0.mk H
      clear H
      go_wp2
      go_meet
      case rel=>exact ⟨_, (true), (by first | rfl | (simp;done) | (simp [*];done)), H', ⟨by have:=HJ3.out;first | omega | exact Nat.le_refl _⟩, ⟨by (with_reducible repeat (first | apply Kd.R_alloc | apply Kd.R_drewN | apply Kd.R_drew));exact HO164.out⟩, ⟨by (with_reducible repeat (first | refine blk_drewN ?_ _ | refine blk_drew ?_ | refine blk_alloc ?_ _));exact BK157.out⟩, ⟨by (with_reducible repeat (first | refine blk_drewN ?_ _ | refine blk_drew ?_ | refine blk_alloc ?_ _));exact BK158.out⟩, ⟨by repeat (first | (with_reducible first | exact HB.out | apply below_alloc | apply pw_below_drewN | apply below_drew1 | refine below_set ?_ GE157.out | refine below_set ?_ GE158.out) | exact HB.out)⟩⟩
    case rest =>
     clear HC14
     try clear c1
     try clear c2
     try clear p2
     try clear c3
     try clear c4
     try clear c5
     try clear c7
     try clear c7b0
     try clear c7b1
     try clear c8
     try clear c10
     try clear c15
     try clear c18
     try clear c18b0
     try clear c18b1
     try clear c20
     try clear c20b0
     try clear c20b1
     try clear c21
     try clear c26
     try clear hcz16_0
     try clear hcz16_1
     try clear hcz22_0
     try clear hcz22_1
     try clear hcz22_2
     try clear hcz22_3
     try clear hcz22_4
     try clear hcz22_5
     try clear hcz22_6
     try clear hcz25_0
     try clear hcz25_1
     try clear hcz27_0
     try clear hcz27_1
     try clear hcz27_2
     try clear hcz27_3
     try clear hcz27_4
     try clear hcz27_5
     try clear hcz27_6
     try clear hcz9_0
     try clear hcz9_1
     try clear hfz16_0
     try clear hfz16_1
     try clear hfz22_0
     try clear hfz22_1
     try clear hfz22_2
     try clear hfz22_3
     try clear hfz22_4
     try clear hfz22_5
     try clear hfz22_6
     try clear hfz25_0
     try clear hfz25_1
     try clear hfz27_0
     try clear hfz27_1
     try clear hfz27_2
     try clear hfz27_3
     try clear hfz27_4
     try clear hfz27_5
     try clear hfz27_6
     try clear hfz9_0
     try clear hfz9_1
     try clear p2
     obtain ⟨kq, x58_13, rfl, HA, HJ13, HO_8, BK157, BK158, HB⟩:=hcut
     cases kq with
     | zero=>exact absurd HA.out (by simp [contangotop_TopAverage.j1])
     | succ kj13 =>
      have H:=HA.out
      clear HA
      simp only [contangotop_TopAverage.j1] at H
      by_cases c29 : x58_13 = true
      ·subst c29
       have H1 : (if t162 = 0 then ((product_Check.f kj13 a0_0 a0_1 a0_2 a0_3 a0_4 a0_5 a0_6).bind fun t166=>(if t166 = 0 then (none) else ((contangotop_goes10.f kj13).bind fun t167=>(some t167)))) else ((contangotop_goes10.f kj13).bind fun t168=>(some t168))) = some r:=by rw [if_pos rfl] at H;exact H
       clear H
       have H:=H1
       clear H1
       by_cases c30 : t162 = 0
       ·rw [if_pos c30] at H
        have c30b0 : (t162 == 0) = true:=beq_iff_eq.mpr c30
        have c30b1 : (t162 != 0) = false:=bne_eq_false_iff_eq.mpr c30
        clear c30
        replace H:=Option.bind_eq_some_iff.mp H
        obtain ⟨t166, A310, H⟩:=H
        replace H : (if t166 = 0 then (none) else ((contangotop_goes10.f kj13).bind fun t167=>(some t167))) = some r:=H
        have A31:=Aside0.mk A310
        clear A310
        by_cases c32 : t166 = 0
        ·rw [if_pos c32] at H
         exact absurd H (by simp)
        ·rw [if_neg c32] at H
         have c32b0 : (t166 == 0) = false:=beq_eq_false_iff_ne.mpr c32
         have c32b1 : (t166 != 0) = true:=bne_iff_ne.mpr c32
         replace H:=Option.bind_eq_some_iff.mp H
         obtain ⟨t167, A330, H⟩:=H
         replace H : (some t167) = some r:=H
         have A33:=Aside0.mk A330
         clear A330
         obtain rfl:=Option.some.inj H
         have hnb34:=NB157_158.out
         have hnc34:=NB158_157.out
         have hcz35_0 : wc.cell? ⟨gb157, 0, none⟩ = some (.string a0_0):=(blk_cell BK157.out 0).trans rfl
         have hcz35_1 : wc.cell? ⟨gb157, 1, none⟩ = some (.int .i64 a0_1):=(blk_cell BK157.out 1).trans rfl
         have hcz35_2 : wc.cell? ⟨gb157, 2, none⟩ = some (.int .i64 a0_2):=(blk_cell BK157.out 2).trans rfl
         have hcz35_3 : wc.cell? ⟨gb157, 3, none⟩ = some (.int .i64 a0_3):=(blk_cell BK157.out 3).trans rfl
         have hcz35_4 : wc.cell? ⟨gb157, 4, none⟩ = some (.int .i64 a0_4):=(blk_cell BK157.out 4).trans rfl
         have hcz35_5 : wc.cell? ⟨gb157, 5, none⟩ = some (.int .i64 a0_5):=(blk_cell BK157.out 5).trans rfl
         have hcz35_6 : wc.cell? ⟨gb157, 6, none⟩ = some (.bool a0_6):=(blk_cell BK157.out 6).trans rfl
         have hfz35_0:=blk_frozen BK157.out 0
         have hfz35_1:=blk_frozen BK157.out 1
         have hfz35_2:=blk_frozen BK157.out 2
         have hfz35_3:=blk_frozen BK157.out 3
         have hfz35_4:=blk_frozen BK157.out 4
         have hfz35_5:=blk_frozen BK157.out 5
         have hfz35_6:=blk_frozen BK157.out 6
         go_wp2_with (first | (go_at_call 6;(with_reducible refine (product_Check.calls kj13 a0_0 a0_1 a0_2 a0_3 a0_4 a0_5 a0_6 t166 _ A31.out).mono ?_);rintro e w36 ⟨rfl, hb⟩;have n0_:=Aside0.mk (Kd.R_below (by (with_reducible repeat (first | apply Kd.R_alloc | apply Kd.R_drewN | apply Kd.R_drew));exact HO_8.out) hb);have n1_:=Aside0.mk (blk_below (g:=gb157) (o:=.cells #[.string a0_0, .int .i64 a0_1, .int .i64 a0_2, .int .i64 a0_3, .int .i64 a0_4, .int .i64 a0_5, .bool a0_6] 23 (0, 0)) (by (with_reducible repeat (first | refine blk_drewN ?_ _ | refine blk_drew ?_ | refine blk_alloc ?_ _));exact BK157.out) hb);have n2_:=Aside0.mk (blk_below (g:=gb158) (o:=.cells #[.int .i64 a2_0, .slice A2_1 l2_1.length c2_1] 27 (0, 0)) (by (with_reducible repeat (first | refine blk_drewN ?_ _ | refine blk_drew ?_ | refine blk_alloc ?_ _));exact BK158.out) hb);have n3_:=Aside0.mk (below_step (by repeat (first | (with_reducible first | exact HB.out | apply below_alloc | apply pw_below_drewN | apply below_drew1 | refine below_set ?_ GE157.out | refine below_set ?_ GE158.out) | exact HB.out)) hb);clear HO_8 BK157 BK158 HB;have HO_8:=n0_;have BK157:=n1_;have BK158:=n2_;have HB:=n3_;clear n0_ n1_ n2_ n3_;(try clear hb);(try clear hb2);(try clear hk);(try clear hi)) | (go_at_call 4;(with_reducible refine (contangotop_goes10.calls kj13  t167 _ A33.out).mono ?_);rintro e w37 ⟨rfl, hb⟩;have n0_:=Aside0.mk (Kd.R_below (by (with_reducible repeat (first | apply Kd.R_alloc | apply Kd.R_drewN | apply Kd.R_drew));exact HO_8.out) hb);have n1_:=Aside0.mk (blk_below (g:=gb157) (o:=.cells #[.string a0_0, .int .i64 a0_1, .int .i64 a0_2, .int .i64 a0_3, .int .i64 a0_4, .int .i64 a0_5, .bool a0_6] 23 (0, 0)) (by (with_reducible repeat (first | refine blk_drewN ?_ _ | refine blk_drew ?_ | refine blk_alloc ?_ _));exact BK157.out) hb);have n2_:=Aside0.mk (blk_below (g:=gb158) (o:=.cells #[.int .i64 a2_0, .slice A2_1 l2_1.length c2_1] 27 (0, 0)) (by (with_reducible repeat (first | refine blk_drewN ?_ _ | refine blk_drew ?_ | refine blk_alloc ?_ _));exact BK158.out) hb);have n3_:=Aside0.mk (below_step (by repeat (first | (with_reducible first | exact HB.out | apply below_alloc | apply pw_below_drewN | apply below_drew1 | refine below_set ?_ GE157.out | refine below_set ?_ GE158.out) | exact HB.out)) hb);clear HO_8 BK157 BK158 HB;have HO_8:=n0_;have BK157:=n1_;have BK158:=n2_;have HB:=n3_;clear n0_ n1_ n2_ n3_;(try clear hb);(try clear hb2);(try clear hk);(try clear hi)))
         go_ret
         exact ⟨by first | rfl | (simp [errW_none, errW_some] <;> rfl) | (simp [*, errW_none, errW_some] <;> rfl), by repeat (first | (with_reducible first | exact HB.out | apply below_alloc | apply pw_below_drewN | apply below_drew1 | refine below_set ?_ GE157.out | refine below_set ?_ GE158.out) | exact HB.out)⟩
       ·rw [if_neg c30] at H
        have c30b0 : (t162 == 0) = false:=beq_eq_false_iff_ne.mpr c30
        have c30b1 : (t162 != 0) = true:=bne_iff_ne.mpr c30
        replace H:=Option.bind_eq_some_iff.mp H
        obtain ⟨t168, A380, H⟩:=H
        replace H : (some t168) = some r:=H
        have A38:=Aside0.mk A380
        clear A380
        obtain rfl:=Option.some.inj H
        go_wp2_with (first | (go_at_call 4;(with_reducible refine (contangotop_goes10.calls kj13  t168 _ A38.out).mono ?_);rintro e w39 ⟨rfl, hb⟩;have n0_:=Aside0.mk (Kd.R_below (by (with_reducible repeat (first | apply Kd.R_alloc | apply Kd.R_drewN | apply Kd.R_drew));exact HO_8.out) hb);have n1_:=Aside0.mk (blk_below (g:=gb157) (o:=.cells #[.string a0_0, .int .i64 a0_1, .int .i64 a0_2, .int .i64 a0_3, .int .i64 a0_4, .int .i64 a0_5, .bool a0_6] 23 (0, 0)) (by (with_reducible repeat (first | refine blk_drewN ?_ _ | refine blk_drew ?_ | refine blk_alloc ?_ _));exact BK157.out) hb);have n2_:=Aside0.mk (blk_below (g:=gb158) (o:=.cells #[.int .i64 a2_0, .slice A2_1 l2_1.length c2_1] 27 (0, 0)) (by (with_reducible repeat (first | refine blk_drewN ?_ _ | refine blk_drew ?_ | refine blk_alloc ?_ _));exact BK158.out) hb);have n3_:=Aside0.mk (below_step (by repeat (first | (with_reducible first | exact HB.out | apply below_alloc | apply pw_below_drewN | apply below_drew1 | refine below_set ?_ GE157.out | refine below_set ?_ GE158.out) | exact HB.out)) hb);clear HO_8 BK157 BK158 HB;have HO_8:=n0_;have BK157:=n1_;have BK158:=n2_;have HB:=n3_;clear n0_ n1_ n2_ n3_;(try clear hb);(try clear hb2);(try clear hk);(try clear hi)))
        go_ret
        exact ⟨by first | rfl | (simp [errW_none, errW_some] <;> rfl) | (simp [*, errW_none, errW_some] <;> rfl), by repeat (first | (with_reducible first | exact HB.out | apply below_alloc | apply pw_below_drewN | apply below_drew1 | refine below_set ?_ GE157.out | refine below_set ?_ GE158.out) | exact HB.out)⟩
      ·replace c29:=Bool.eq_false_iff.mpr c29
       subst c29
       have H1 : (contangotop_TopAverage.l0 kj13 l1 t160 t161 ([] : List Int) 0 a0_0 a0_1 a0_2 a0_3 a0_4 a0_5 a0_6 a2_0 l2_1) = some r:=by rw [if_neg (show ¬ (false = true) by decide)] at H;exact H
       clear H
       have H:=H1
       clear H1
       have H':=Aside0.mk H
       clear H
       go_wp2
       go_loopg [10, 12] kj13 (fun kq v10 v12 w'=>∃ (x10_3 : List Int) (x12_3 : Int), v12 = .int .i64 x12_3 ∧ Aside0 (contangotop_TopAverage.l0 kq l1 t160 t161 x10_3 x12_3 a0_0 a0_1 a0_2 a0_3 a0_4 a0_5 a0_6 a2_0 l2_1 = some r) ∧ Aside0 (kq ≤ kj13) ∧ Aside0 (Kd.R (Kd.int .i64) 3 w' w.heap.size (fun k_=>some k_ ≠ (v10 : Value).ownBlock) v163 t161) ∧ Aside0 (Kd.R (Kd.int .i64) 3 w' w.heap.size (fun k_=>some k_ ≠ (v163 : Value).ownBlock) v10 x10_3) ∧ Aside0 (w'.heap[gb157]? = some (.cells #[.string a0_0, .int .i64 a0_1, .int .i64 a0_2, .int .i64 a0_3, .int .i64 a0_4, .int .i64 a0_5, .bool a0_6] 23 (0, 0))) ∧ Aside0 (w'.heap[gb158]? = some (.cells #[.int .i64 a2_0, (.slice A2_1 l2_1.length c2_1)] 27 (0, 0))) ∧ Aside0 (Below w.heap.size w w'))
       case atStart=>exact ⟨(([] : List Int)), (0), (by first | rfl | (simp;done) | (simp [*];done)), H', ⟨Nat.le_refl _⟩, ⟨by (with_reducible repeat (first | apply Kd.R_alloc | apply Kd.R_drewN | apply Kd.R_drew));exact Kd.R_mono HO_8.out (fun _ hk=>(by simp [Value.ownBlock]))⟩, ⟨by first | exact Kd.R_nil _ _ _ _ _ | exact Kd.N_nil _ _ _ _ _ | exact Kd.V_nil _ _ _ _ _ | exact Kd.Q_nil _ _ _ _ _ | exact Kd.S_nil _ _ _ _ _⟩, ⟨by (with_reducible repeat (first | refine blk_drewN ?_ _ | refine blk_drew ?_ | refine blk_alloc ?_ _));exact BK157.out⟩, ⟨by (with_reducible repeat (first | refine blk_drewN ?_ _ | refine blk_drew ?_ | refine blk_alloc ?_ _));exact BK158.out⟩, ⟨by repeat (first | (with_reducible first | exact HB.out | apply below_alloc | apply pw_below_drewN | apply below_drew1 | refine below_set ?_ GE157.out | refine below_set ?_ GE158.out) | exact HB.out)⟩⟩
       case round =>
        clear H'
        try clear c1
        try clear c2
        try clear p2
        try clear c3
        try clear c4
        try clear c5
        try clear c7
        try clear c7b0
        try clear c7b1
        try clear c8
        try clear c10
        try clear c15
        try clear c18
        try clear c18b0
        try clear c18b1
        try clear c20
        try clear c20b0
        try clear c20b1
        try clear c21
        try clear c26
        try clear c29
        try clear c30
        try clear c30b0
        try clear c30b1
        try clear c32
        try clear c32b0
        try clear c32b1
        try clear c34
        try clear hcz16_0
        try clear hcz16_1
        try clear hcz22_0
        try clear hcz22_1
        try clear hcz22_2
        try clear hcz22_3
        try clear hcz22_4
        try clear hcz22_5
        try clear hcz22_6
        try clear hcz25_0
        try clear hcz25_1
        try clear hcz27_0
        try clear hcz27_1
        try clear hcz27_2
        try clear hcz27_3
        try clear hcz27_4
        try clear hcz27_5
        try clear hcz27_6
        try clear hcz35_0
        try clear hcz35_1
        try clear hcz35_2
        try clear hcz35_3
        try clear hcz35_4
        try clear hcz35_5
        try clear hcz35_6
        try clear hcz9_0
        try clear hcz9_1
        try clear hfz16_0
        try clear hfz16_1
        try clear hfz22_0
        try clear hfz22_1
        try clear hfz22_2
        try clear hfz22_3
        try clear hfz22_4
        try clear hfz22_5
        try clear hfz22_6
        try clear hfz25_0
        try clear hfz25_1
        try clear hfz27_0
        try clear hfz27_1
        try clear hfz27_2
        try clear hfz27_3
        try clear hfz27_4
        try clear hfz27_5
        try clear hfz27_6
        try clear hfz35_0
        try clear hfz35_1
        try clear hfz35_2
        try clear hfz35_3
        try clear hfz35_4
        try clear hfz35_5
        try clear hfz35_6
        try clear hfz9_0
        try clear hfz9_1
        try clear p2
        obtain ⟨x10_3, x12_3, rfl, HA, HK3, HO_8, HO_10, BK157, BK158, HB⟩:=hrel
        cases gk with
        | zero=>exact absurd HA.out (by simp [contangotop_TopAverage.l0])
        | succ k3 =>
         have H:=HA.out
         clear HA
         simp only [contangotop_TopAverage.l0] at H
         by_cases c40 : x12_3 < (l1.length : Int)
         ·rw [if_pos c40] at H
          have c40b0 : decide (x12_3 < (l1.length : Int)) = true:=decide_eq_true c40
          clear c40
          by_cases c41 : 0 ≤ x12_3
          ·rw [if_pos c41] at H
           have c41b0 : decide (0 ≤ x12_3) = true:=decide_eq_true c41
           clear c41
           replace H:=Option.bind_eq_some_iff.mp H
           obtain ⟨⟨t171, t172⟩, A420, H⟩:=H
           replace H : (if t172 = 0 then (if x10_3.length < 17592186044416 then (contangotop_TopAverage.l0 k3 l1 t160 t161 (x10_3 ++ [t171]) (wrap64 (x12_3 + 1)) a0_0 a0_1 a0_2 a0_3 a0_4 a0_5 a0_6 a2_0 l2_1) else (none)) else (none)) = some r:=H
           have A42:=Aside0.mk A420
           clear A420
           by_cases c43 : t172 = 0
           ·rw [if_pos c43] at H
            have c43b0 : (t172 == 0) = true:=beq_iff_eq.mpr c43
            have c43b1 : (t172 != 0) = false:=bne_eq_false_iff_eq.mpr c43
            clear c43
            by_cases c44 : x10_3.length < 17592186044416
            ·rw [if_pos c44] at H
             have LMc44:=Aside0.mk c44
             clear c44
             obtain ⟨y173, hy173⟩ : ∃ y_ : List Int, y_ = (x10_3 ++ [t171]):=⟨_, rfl⟩
             replace H : (contangotop_TopAverage.l0 k3 l1 t160 t161 y173 (wrap64 (x12_3 + 1)) a0_0 a0_1 a0_2 a0_3 a0_4 a0_5 a0_6 a2_0 l2_1) = some r:=by first | (rw [hy173];with_reducible exact H) | (have H2_:=(Option.bind_some _ _).symm.trans H;rw [hy173];with_reducible exact H2_) | (have H2_:=(Option.bind_some _ _).symm.trans H;with_reducible exact H2_) | with_reducible exact H | (rw [hy173];exact H) | exact H
             have Ny173:=Aside0.mk hy173
             clear hy173
             have H':=Aside0.mk H
             clear H
             try go_wp2
             have n0_:=Aside0.mk (Kd.R_drew HO_8.out)
             have n1_:=Aside0.mk (Kd.R_drew HO_10.out)
             have n2_:=Aside0.mk (blk_drew BK157.out)
             have n3_:=Aside0.mk (blk_drew BK158.out)
             have n4_:=Aside0.mk (below_drew1 HB.out)
             clear HO_8
             clear HO_10
             clear BK157
             clear BK158
             clear HB
             have HO_8:=n0_
             have HO_10:=n1_
             have BK157:=n2_
             have BK158:=n3_
             have HB:=n4_
             clear n0_ n1_ n2_ n3_ n4_
             have p169 : 0 ≤ (x12_3 : Int):=of_decide_eq_true (by first | (with_reducible assumption) | assumption)
             have q169 : x12_3 < (l1.length : Int):=of_decide_eq_true (by first | (with_reducible assumption) | assumption)
             obtain ⟨ad169, e169, hx169_0, hx169_1, hx169_2, hx169_3, hx169_4, hx169_5, hx169_6, hx169_7, hx169_8, hx169_9, hx169_10, hx169_11, hx169_12⟩:=at_T41 HR1.out x12_3 p169 q169
             have hw169_12:=hx169_12
             have hw169_11:=hx169_11
             have hw169_10:=hx169_10
             have hw169_9:=hx169_9
             have hw169_8:=hx169_8
             have hw169_7:=hx169_7
             have hw169_6:=hx169_6
             have hw169_5:=hx169_5
             have hw169_4:=hx169_4
             have hw169_3:=hx169_3
             have hw169_2:=hx169_2
             have hw169_1:=hx169_1
             have hw169_0:=hx169_0
             cases e169
             replace hx169_0:=(HB.out.cell (World.block_lt_of_cell? w _ hx169_0)).trans hx169_0
             replace hx169_1:=(HB.out.cell (World.block_lt_of_cell? w _ hx169_1)).trans hx169_1
             replace hx169_2:=(HB.out.cell (World.block_lt_of_cell? w _ hx169_2)).trans hx169_2
             replace hx169_3:=(HB.out.cell (World.block_lt_of_cell? w _ hx169_3)).trans hx169_3
             replace hx169_4:=(HB.out.cell (World.block_lt_of_cell? w _ hx169_4)).trans hx169_4
             replace hx169_5:=(HB.out.cell (World.block_lt_of_cell? w _ hx169_5)).trans hx169_5
             replace hx169_6:=(HB.out.cell (World.block_lt_of_cell? w _ hx169_6)).trans hx169_6
             replace hx169_7:=(HB.out.cell (World.block_lt_of_cell? w _ hx169_7)).trans hx169_7
             replace hx169_8:=(HB.out.cell (World.block_lt_of_cell? w _ hx169_8)).trans hx169_8
             replace hx169_9:=(HB.out.cell (World.block_lt_of_cell? w _ hx169_9)).trans hx169_9
             replace hx169_10:=(HB.out.cell (World.block_lt_of_cell? w _ hx169_10)).trans hx169_10
             replace hx169_11:=(HB.out.cell (World.block_lt_of_cell? w _ hx169_11)).trans hx169_11
             replace hx169_12:=(HB.out.cell (World.block_lt_of_cell? w _ hx169_12)).trans hx169_12
             replace p169:=eq_true p169
             replace q169:=eq_true q169
             have p170 : 0 ≤ (x12_3 : Int):=of_decide_eq_true (by first | (with_reducible assumption) | assumption)
             have q170 : x12_3 < (l1.length : Int):=of_decide_eq_true (by first | (with_reducible assumption) | assumption)
             obtain ⟨ad170, e170, hx170_0, hx170_1, hx170_2, hx170_3, hx170_4, hx170_5, hx170_6, hx170_7, hx170_8, hx170_9, hx170_10, hx170_11, hx170_12⟩:=at_T41 HR1.out x12_3 p170 q170
             have hw170_12:=hx170_12
             have hw170_11:=hx170_11
             have hw170_10:=hx170_10
             have hw170_9:=hx170_9
             have hw170_8:=hx170_8
             have hw170_7:=hx170_7
             have hw170_6:=hx170_6
             have hw170_5:=hx170_5
             have hw170_4:=hx170_4
             have hw170_3:=hx170_3
             have hw170_2:=hx170_2
             have hw170_1:=hx170_1
             have hw170_0:=hx170_0
             obtain rfl : ad169 = ad170:=(by injection e170)
             replace hx170_0:=(HB.out.cell (World.block_lt_of_cell? w _ hx170_0)).trans hx170_0
             replace hx170_1:=(HB.out.cell (World.block_lt_of_cell? w _ hx170_1)).trans hx170_1
             replace hx170_2:=(HB.out.cell (World.block_lt_of_cell? w _ hx170_2)).trans hx170_2
             replace hx170_3:=(HB.out.cell (World.block_lt_of_cell? w _ hx170_3)).trans hx170_3
             replace hx170_4:=(HB.out.cell (World.block_lt_of_cell? w _ hx170_4)).trans hx170_4
             replace hx170_5:=(HB.out.cell (World.block_lt_of_cell? w _ hx170_5)).trans hx170_5
             replace hx170_6:=(HB.out.cell (World.block_lt_of_cell? w _ hx170_6)).trans hx170_6
             replace hx170_7:=(HB.out.cell (World.block_lt_of_cell? w _ hx170_7)).trans hx170_7
             replace hx170_8:=(HB.out.cell (World.block_lt_of_cell? w _ hx170_8)).trans hx170_8
             replace hx170_9:=(HB.out.cell (World.block_lt_of_cell? w _ hx170_9)).trans hx170_9
             replace hx170_10:=(HB.out.cell (World.block_lt_of_cell? w _ hx170_10)).trans hx170_10
             replace hx170_11:=(HB.out.cell (World.block_lt_of_cell? w _ hx170_11)).trans hx170_11
             replace hx170_12:=(HB.out.cell (World.block_lt_of_cell? w _ hx170_12)).trans hx170_12
             replace p170:=eq_true p170
             replace q170:=eq_true q170
             refine start_ (n:=17) (S:=fun w'=>w'.cell? ⟨gb157, 0, none⟩ = some (.string a0_0) ∧ w'.cell? ⟨gb157, 1, none⟩ = some (.int .i64 a0_1) ∧ w'.cell? ⟨gb157, 2, none⟩ = some (.int .i64 a0_2) ∧ w'.cell? ⟨gb157, 3, none⟩ = some (.int .i64 a0_3) ∧ w'.cell? ⟨gb157, 4, none⟩ = some (.int .i64 a0_4) ∧ w'.cell? ⟨gb157, 5, none⟩ = some (.int .i64 a0_5) ∧ w'.cell? ⟨gb157, 6, none⟩ = some (.bool a0_6) ∧ w'.cell? (ad169.add ((x12_3).toNat * 13)) = some (.int .i64 ((rd_T41 l1 x12_3).f0)) ∧ w'.cell? ⟨(ad169.add ((x12_3).toNat * 13)).block, (ad169.add ((x12_3).toNat * 13)).off + 1, none⟩ = some (.int .i64 ((rd_T41 l1 x12_3).f1)) ∧ w'.cell? ⟨(ad169.add ((x12_3).toNat * 13)).block, (ad169.add ((x12_3).toNat * 13)).off + 2, none⟩ = some (.int .i64 ((rd_T41 l1 x12_3).f2)) ∧ w'.cell? ⟨(ad169.add ((x12_3).toNat * 13)).block, (ad169.add ((x12_3).toNat * 13)).off + 3, none⟩ = some (.string ((rd_T41 l1 x12_3).f3.f0)) ∧ w'.cell? ⟨(ad169.add ((x12_3).toNat * 13)).block, (ad169.add ((x12_3).toNat * 13)).off + 4, none⟩ = some (.int .i64 ((rd_T41 l1 x12_3).f3.f1)) ∧ w'.cell? ⟨(ad169.add ((x12_3).toNat * 13)).block, (ad169.add ((x12_3).toNat * 13)).off + 5, none⟩ = some (.int .i64 ((rd_T41 l1 x12_3).f3.f2)) ∧ w'.cell? ⟨(ad169.add ((x12_3).toNat * 13)).block, (ad169.add ((x12_3).toNat * 13)).off + 6, none⟩ = some (.int .i64 ((rd_T41 l1 x12_3).f3.f3)) ∧ w'.cell? ⟨(ad169.add ((x12_3).toNat * 13)).block, (ad169.add ((x12_3).toNat * 13)).off + 7, none⟩ = some (.int .i64 ((rd_T41 l1 x12_3).f4)) ∧ w'.cell? ⟨(ad169.add ((x12_3).toNat * 13)).block, (ad169.add ((x12_3).toNat * 13)).off + 8, none⟩ = some (.int .i64 ((rd_T41 l1 x12_3).f5)) ∧ w'.cell? ⟨(ad169.add ((x12_3).toNat * 13)).block, (ad169.add ((x12_3).toNat * 13)).off + 9, none⟩ = some (.string ((rd_T41 l1 x12_3).f6.f0)) ∧ w'.cell? ⟨(ad169.add ((x12_3).toNat * 13)).block, (ad169.add ((x12_3).toNat * 13)).off + 10, none⟩ = some (.string ((rd_T41 l1 x12_3).f6.f1)) ∧ w'.cell? ⟨(ad169.add ((x12_3).toNat * 13)).block, (ad169.add ((x12_3).toNat * 13)).off + 11, none⟩ = some (.string ((rd_T41 l1 x12_3).f7.f0)) ∧ w'.cell? ⟨(ad169.add ((x12_3).toNat * 13)).block, (ad169.add ((x12_3).toNat * 13)).off + 12, none⟩ = some (.string ((rd_T41 l1 x12_3).f7.f1)) ∧ w'.cell? (ad169.add ((x12_3).toNat * 13)) = some (.int .i64 ((rd_T41 l1 x12_3).f0)) ∧ w'.cell? ⟨(ad169.add ((x12_3).toNat * 13)).block, (ad169.add ((x12_3).toNat * 13)).off + 1, none⟩ = some (.int .i64 ((rd_T41 l1 x12_3).f1)) ∧ w'.cell? ⟨(ad169.add ((x12_3).toNat * 13)).block, (ad169.add ((x12_3).toNat * 13)).off + 2, none⟩ = some (.int .i64 ((rd_T41 l1 x12_3).f2)) ∧ w'.cell? ⟨(ad169.add ((x12_3).toNat * 13)).block, (ad169.add ((x12_3).toNat * 13)).off + 3, none⟩ = some (.string ((rd_T41 l1 x12_3).f3.f0)) ∧ w'.cell? ⟨(ad169.add ((x12_3).toNat * 13)).block, (ad169.add ((x12_3).toNat * 13)).off + 4, none⟩ = some (.int .i64 ((rd_T41 l1 x12_3).f3.f1)) ∧ w'.cell? ⟨(ad169.add ((x12_3).toNat * 13)).block, (ad169.add ((x12_3).toNat * 13)).off + 5, none⟩ = some (.int .i64 ((rd_T41 l1 x12_3).f3.f2)) ∧ w'.cell? ⟨(ad169.add ((x12_3).toNat * 13)).block, (ad169.add ((x12_3).toNat * 13)).off + 6, none⟩ = some (.int .i64 ((rd_T41 l1 x12_3).f3.f3)) ∧ w'.cell? ⟨(ad169.add ((x12_3).toNat * 13)).block, (ad169.add ((x12_3).toNat * 13)).off + 7, none⟩ = some (.int .i64 ((rd_T41 l1 x12_3).f4)) ∧ w'.cell? ⟨(ad169.add ((x12_3).toNat * 13)).block, (ad169.add ((x12_3).toNat * 13)).off + 8, none⟩ = some (.int .i64 ((rd_T41 l1 x12_3).f5)) ∧ w'.cell? ⟨(ad169.add ((x12_3).toNat * 13)).block, (ad169.add ((x12_3).toNat * 13)).off + 9, none⟩ = some (.string ((rd_T41 l1 x12_3).f6.f0)) ∧ w'.cell? ⟨(ad169.add ((x12_3).toNat * 13)).block, (ad169.add ((x12_3).toNat * 13)).off + 10, none⟩ = some (.string ((rd_T41 l1 x12_3).f6.f1)) ∧ w'.cell? ⟨(ad169.add ((x12_3).toNat * 13)).block, (ad169.add ((x12_3).toNat * 13)).off + 11, none⟩ = some (.string ((rd_T41 l1 x12_3).f7.f0)) ∧ w'.cell? ⟨(ad169.add ((x12_3).toNat * 13)).block, (ad169.add ((x12_3).toNat * 13)).off + 12, none⟩ = some (.string ((rd_T41 l1 x12_3).f7.f1))) (ds:=[]) #[false, false, false, false, false, false, false, false, false, false, false, false, false, false, false, false, false] (by kernel_rfl) rfl rfl ⟨(blk_cell BK157.out 0).trans rfl, (blk_cell BK157.out 1).trans rfl, (blk_cell BK157.out 2).trans rfl, (blk_cell BK157.out 3).trans rfl, (blk_cell BK157.out 4).trans rfl, (blk_cell BK157.out 5).trans rfl, (blk_cell BK157.out 6).trans rfl, ((HB.out.cell (World.block_lt_of_cell? w _ hw169_0)).trans hw169_0), ((HB.out.cell (World.block_lt_of_cell? w _ hw169_1)).trans hw169_1), ((HB.out.cell (World.block_lt_of_cell? w _ hw169_2)).trans hw169_2), ((HB.out.cell (World.block_lt_of_cell? w _ hw169_3)).trans hw169_3), ((HB.out.cell (World.block_lt_of_cell? w _ hw169_4)).trans hw169_4), ((HB.out.cell (World.block_lt_of_cell? w _ hw169_5)).trans hw169_5), ((HB.out.cell (World.block_lt_of_cell? w _ hw169_6)).trans hw169_6), ((HB.out.cell (World.block_lt_of_cell? w _ hw169_7)).trans hw169_7), ((HB.out.cell (World.block_lt_of_cell? w _ hw169_8)).trans hw169_8), ((HB.out.cell (World.block_lt_of_cell? w _ hw169_9)).trans hw169_9), ((HB.out.cell (World.block_lt_of_cell? w _ hw169_10)).trans hw169_10), ((HB.out.cell (World.block_lt_of_cell? w _ hw169_11)).trans hw169_11), ((HB.out.cell (World.block_lt_of_cell? w _ hw169_12)).trans hw169_12), ((HB.out.cell (World.block_lt_of_cell? w _ hw170_0)).trans hw170_0), ((HB.out.cell (World.block_lt_of_cell? w _ hw170_1)).trans hw170_1), ((HB.out.cell (World.block_lt_of_cell? w _ hw170_2)).trans hw170_2), ((HB.out.cell (World.block_lt_of_cell? w _ hw170_3)).trans hw170_3), ((HB.out.cell (World.block_lt_of_cell? w _ hw170_4)).trans hw170_4), ((HB.out.cell (World.block_lt_of_cell? w _ hw170_5)).trans hw170_5), ((HB.out.cell (World.block_lt_of_cell? w _ hw170_6)).trans hw170_6), ((HB.out.cell (World.block_lt_of_cell? w _ hw170_7)).trans hw170_7), ((HB.out.cell (World.block_lt_of_cell? w _ hw170_8)).trans hw170_8), ((HB.out.cell (World.block_lt_of_cell? w _ hw170_9)).trans hw170_9), ((HB.out.cell (World.block_lt_of_cell? w _ hw170_10)).trans hw170_10), ((HB.out.cell (World.block_lt_of_cell? w _ hw170_11)).trans hw170_11), ((HB.out.cell (World.block_lt_of_cell? w _ hw170_12)).trans hw170_12)⟩ (fun hHeld=>?_);refine with_tabW contangotop_TopAverage.tab10 contangotop_TopAverage.bits10 (fun HT_ HW_=>?_)
             generalize wr.drew = w45 at HO_8 HO_10 BK157 BK158 HB hx169_0 hx169_1 hx169_10 hx169_11 hx169_12 hx169_2 hx169_3 hx169_4 hx169_5 hx169_6 hx169_7 hx169_8 hx169_9 hx170_0 hx170_1 hx170_10 hx170_11 hx170_12 hx170_2 hx170_3 hx170_4 hx170_5 hx170_6 hx170_7 hx170_8 hx170_9 hHeld ⊢
             refine pure_ (i:=1) (N:=some 77) (v:=?_) (a':=?_) #[false, true, false, false, false, false, false, false, false, false, false, false, false, false, false, false, false] rfl rfl (any_of HT_.out (by kernel_rfl)) (fun _ _ _ h=>h) (Or.inl ⟨by rfl, ?_⟩) ?_ ?_
             rotate_left
             ·intro w'
              go_simp
              with_reducible rfl
             rotate_left
             ·simp only [Act.put, List.setIfInBounds_toArray, List.set_cons_zero, List.set_cons_succ, i64_w, i32_w]
              rfl
             refine pure_ (i:=2) (N:=some 78) (v:=?_) (a':=?_) #[false, true, true, false, false, false, false, false, false, false, false, false, false, false, false, false, false] rfl rfl (any_of HT_.out (by kernel_rfl)) (fun _ _ _ h=>h) (Or.inl ⟨by rfl, ?_⟩) ?_ ?_
             rotate_left
             ·intro w'
              go_simp
              with_reducible rfl
             rotate_left
             ·simp only [Act.put, List.setIfInBounds_toArray, List.set_cons_zero, List.set_cons_succ, i64_w, i32_w]
              rfl
             refine pure_ (i:=3) (N:=some 79) (v:=?_) (a':=?_) #[false, true, true, true, false, false, false, false, false, false, false, false, false, false, false, false, false] rfl rfl (any_of HT_.out (by kernel_rfl)) (fun _ _ _ h=>h) (Or.inl ⟨by rfl, ?_⟩) ?_ ?_
             rotate_left
             ·intro w'
              go_simp
              with_reducible rfl
             rotate_left
             ·simp only [Act.put, List.setIfInBounds_toArray, List.set_cons_zero, List.set_cons_succ, i64_w, i32_w]
              rfl
             refine pure_ (i:=4) (N:=some 80) (v:=?_) (a':=?_) #[false, true, true, true, true, false, false, false, false, false, false, false, false, false, false, false, false] rfl rfl (any_of HT_.out (by kernel_rfl)) (fun _ _ _ h=>h) (Or.inl ⟨by rfl, ?_⟩) ?_ ?_
             rotate_left
             ·intro w'
              go_simp
              with_reducible rfl
             rotate_left
             ·simp only [Act.put, List.setIfInBounds_toArray, List.set_cons_zero, List.set_cons_succ, i64_w, i32_w]
              rfl
             refine pure_ (i:=6) (N:=some 82) (v:=?_) (a':=?_) #[false, true, true, true, true, false, true, false, false, false, false, false, false, false, false, false, false] rfl rfl (any_of HT_.out (by kernel_rfl)) (fun _ _ _ h=>h) (Or.inl ⟨by rfl, ?_⟩) ?_ ?_
             rotate_left
             ·intro w'
              go_simp
              with_reducible rfl
             rotate_left
             ·simp only [Act.put, List.setIfInBounds_toArray, List.set_cons_zero, List.set_cons_succ, i64_w, i32_w]
              rfl
             refine pure_ (i:=7) (N:=some 83) (v:=?_) (a':=?_) #[false, true, true, true, true, false, true, true, false, false, false, false, false, false, false, false, false] rfl rfl (any_of HT_.out (by kernel_rfl)) (fun _ _ _ h=>h) (Or.inl ⟨by rfl, ?_⟩) ?_ ?_
             rotate_left
             ·intro w'
              go_simp
              with_reducible rfl
             rotate_left
             ·simp only [Act.put, List.setIfInBounds_toArray, List.set_cons_zero, List.set_cons_succ, i64_w, i32_w]
              rfl
             refine pure_ (i:=8) (N:=some 84) (v:=?_) (a':=?_) #[false, true, true, true, true, false, true, true, true, false, false, false, false, false, false, false, false] rfl rfl (any_of HT_.out (by kernel_rfl)) (fun _ _ _ h=>h) (Or.inl ⟨by rfl, ?_⟩) ?_ ?_
             rotate_left
             ·intro w'
              go_simp
              with_reducible rfl
             rotate_left
             ·simp only [Act.put, List.setIfInBounds_toArray, List.set_cons_zero, List.set_cons_succ, i64_w, i32_w]
              rfl
             refine pure_ (i:=9) (N:=some 85) (v:=?_) (a':=?_) #[false, true, true, true, true, false, true, true, true, true, false, false, false, false, false, false, false] rfl rfl (any_of HT_.out (by kernel_rfl)) (fun _ _ _ h=>h) (Or.inl ⟨by rfl, ?_⟩) ?_ ?_
             rotate_left
             ·intro w'
              go_simp
              with_reducible rfl
             rotate_left
             ·simp only [Act.put, List.setIfInBounds_toArray, List.set_cons_zero, List.set_cons_succ, i64_w, i32_w]
              rfl
             refine take_ (i:=0) (N:=some 76) (v:=?_) (a':=?_) #[true, true, true, true, true, false, true, true, true, true, false, false, false, false, false, false, false] rfl rfl (take_ofW HT_.out HW_.out (by kernel_rfl)) (fun _ _ _ h=>h) (Or.inl ⟨by rfl, ?_⟩) hHeld ?_ ?_
             rotate_left
             ·rintro w' ⟨s0, s1, s2, s3, s4, s5, s6, s7, s8, s9, s10, s11, s12, s13, s14, s15, s16, s17, s18, s19, s20, s21, s22, s23, s24, s25, s26, s27, s28, s29, s30, s31, s32⟩
              go_simp
              with_reducible rfl
             rotate_left
             ·simp only [Act.put, List.setIfInBounds_toArray, List.set_cons_zero, List.set_cons_succ, i64_w, i32_w]
              rfl
             refine take_ (i:=5) (N:=some 81) (v:=?_) (a':=?_) #[true, true, true, true, true, true, true, true, true, true, false, false, false, false, false, false, false] rfl rfl (take_ofW HT_.out HW_.out (by kernel_rfl)) (fun _ _ _ h=>h) (Or.inl ⟨by rfl, ?_⟩) hHeld ?_ ?_
             rotate_left
             ·rintro w' ⟨s0, s1, s2, s3, s4, s5, s6, s7, s8, s9, s10, s11, s12, s13, s14, s15, s16, s17, s18, s19, s20, s21, s22, s23, s24, s25, s26, s27, s28, s29, s30, s31, s32⟩
              go_simp
              with_reducible rfl
             rotate_left
             ·simp only [Act.put, List.setIfInBounds_toArray, List.set_cons_zero, List.set_cons_succ, i64_w, i32_w]
              rfl
             refine take_ (i:=10) (N:=some 86) (v:=?_) (a':=?_) #[true, true, true, true, true, true, true, true, true, true, true, false, false, false, false, false, false] rfl rfl (take_ofW HT_.out HW_.out (by kernel_rfl)) (fun _ _ _ h=>h) (Or.inl ⟨by rfl, ?_⟩) hHeld ?_ ?_
             rotate_left
             ·rintro w' ⟨s0, s1, s2, s3, s4, s5, s6, s7, s8, s9, s10, s11, s12, s13, s14, s15, s16, s17, s18, s19, s20, s21, s22, s23, s24, s25, s26, s27, s28, s29, s30, s31, s32⟩
              go_simp
              with_reducible rfl
             rotate_left
             ·simp only [Act.put, List.setIfInBounds_toArray, List.set_cons_zero, List.set_cons_succ, i64_w, i32_w]
              rfl
             refine one_ (i:=11) (N:=some 87) #[true, true, true, true, true, true, true, true, true, true, true, true, false, false, false, false, false] rfl rfl (one_of HT_.out (by kernel_rfl)) (by decide) (fun K hK=>?_)
             refine goes_ Try.func7 (by kernel_rfl) rfl #[.agg #[.string a0_0, .int .i64 a0_1, .int .i64 a0_2, .int .i64 a0_3, .int .i64 a0_4, .int .i64 a0_5, .bool a0_6], .int .i64 ((rd_T41 l1 x12_3).f5), .int .i64 ((rd_T41 l1 x12_3).f4)] (by rfl) rfl rfl (by (try simp only [List.map_toArray, List.map_cons, List.map_nil]);first | done | rfl | (simp only [List.length_drop, List.length_take];rfl)) ?_
             with_reducible refine (product_Value.calls k3 a0_0 a0_1 a0_2 a0_3 a0_4 a0_5 a0_6 ((rd_T41 l1 x12_3).f5) ((rd_T41 l1 x12_3).f4) t171 t172 _ A42.out).mono ?_
             rintro e w46 ⟨rfl, hb⟩
             refine ⟨_, rfl, ?_⟩
             have n0_:=Aside0.mk (Kd.R_below (by (with_reducible repeat (first | apply Kd.R_alloc | apply Kd.R_drewN | apply Kd.R_drew));exact HO_8.out) hb)
             have n1_:=Aside0.mk (Kd.R_below (by (with_reducible repeat (first | apply Kd.R_alloc | apply Kd.R_drewN | apply Kd.R_drew));exact HO_10.out) hb)
             have n2_:=Aside0.mk (blk_below (g:=gb157) (o:=.cells #[.string a0_0, .int .i64 a0_1, .int .i64 a0_2, .int .i64 a0_3, .int .i64 a0_4, .int .i64 a0_5, .bool a0_6] 23 (0, 0)) (by (with_reducible repeat (first | refine blk_drewN ?_ _ | refine blk_drew ?_ | refine blk_alloc ?_ _));exact BK157.out) hb)
             have n3_:=Aside0.mk (blk_below (g:=gb158) (o:=.cells #[.int .i64 a2_0, .slice A2_1 l2_1.length c2_1] 27 (0, 0)) (by (with_reducible repeat (first | refine blk_drewN ?_ _ | refine blk_drew ?_ | refine blk_alloc ?_ _));exact BK158.out) hb)
             have n4_:=Aside0.mk (below_step (by repeat (first | (with_reducible first | exact HB.out | apply below_alloc | apply pw_below_drewN | apply below_drew1 | refine below_set ?_ GE157.out | refine below_set ?_ GE158.out) | exact HB.out)) hb)
             clear HO_8
             clear HO_10
             clear BK157
             clear BK158
             clear HB
             have HO_8:=n0_
             have HO_10:=n1_
             have BK157:=n2_
             have BK158:=n3_
             have HB:=n4_
             clear n0_ n1_ n2_ n3_ n4_
             (try clear hb)
             (try clear hb2)
             (try clear hk)
             (try clear hi)
             refine hK.out _ _ ⟨(blk_cell BK157.out 0).trans rfl, (blk_cell BK157.out 1).trans rfl, (blk_cell BK157.out 2).trans rfl, (blk_cell BK157.out 3).trans rfl, (blk_cell BK157.out 4).trans rfl, (blk_cell BK157.out 5).trans rfl, (blk_cell BK157.out 6).trans rfl, ((HB.out.cell (World.block_lt_of_cell? w _ hw169_0)).trans hw169_0), ((HB.out.cell (World.block_lt_of_cell? w _ hw169_1)).trans hw169_1), ((HB.out.cell (World.block_lt_of_cell? w _ hw169_2)).trans hw169_2), ((HB.out.cell (World.block_lt_of_cell? w _ hw169_3)).trans hw169_3), ((HB.out.cell (World.block_lt_of_cell? w _ hw169_4)).trans hw169_4), ((HB.out.cell (World.block_lt_of_cell? w _ hw169_5)).trans hw169_5), ((HB.out.cell (World.block_lt_of_cell? w _ hw169_6)).trans hw169_6), ((HB.out.cell (World.block_lt_of_cell? w _ hw169_7)).trans hw169_7), ((HB.out.cell (World.block_lt_of_cell? w _ hw169_8)).trans hw169_8), ((HB.out.cell (World.block_lt_of_cell? w _ hw169_9)).trans hw169_9), ((HB.out.cell (World.block_lt_of_cell? w _ hw169_10)).trans hw169_10), ((HB.out.cell (World.block_lt_of_cell? w _ hw169_11)).trans hw169_11), ((HB.out.cell (World.block_lt_of_cell? w _ hw169_12)).trans hw169_12), ((HB.out.cell (World.block_lt_of_cell? w _ hw170_0)).trans hw170_0), ((HB.out.cell (World.block_lt_of_cell? w _ hw170_1)).trans hw170_1), ((HB.out.cell (World.block_lt_of_cell? w _ hw170_2)).trans hw170_2), ((HB.out.cell (World.block_lt_of_cell? w _ hw170_3)).trans hw170_3), ((HB.out.cell (World.block_lt_of_cell? w _ hw170_4)).trans hw170_4), ((HB.out.cell (World.block_lt_of_cell? w _ hw170_5)).trans hw170_5), ((HB.out.cell (World.block_lt_of_cell? w _ hw170_6)).trans hw170_6), ((HB.out.cell (World.block_lt_of_cell? w _ hw170_7)).trans hw170_7), ((HB.out.cell (World.block_lt_of_cell? w _ hw170_8)).trans hw170_8), ((HB.out.cell (World.block_lt_of_cell? w _ hw170_9)).trans hw170_9), ((HB.out.cell (World.block_lt_of_cell? w _ hw170_10)).trans hw170_10), ((HB.out.cell (World.block_lt_of_cell? w _ hw170_11)).trans hw170_11), ((HB.out.cell (World.block_lt_of_cell? w _ hw170_12)).trans hw170_12)⟩ (fun hHeld=>?_)
             clear hK K
             refine norm_ (a':=?_) ?_ ?_
             rotate_left
             ·show Act.put _ (some 87) _ = _
              simp only [Act.put, List.setIfInBounds_toArray, List.set_cons_zero, List.set_cons_succ, i64_w, i32_w]
              rfl
             refine pure_ (i:=12) (N:=some 75) (v:=?_) (a':=?_) #[true, true, true, true, true, true, true, true, true, true, true, true, true, false, false, false, false] rfl rfl (any_of HT_.out (by kernel_rfl)) (fun _ _ _ h=>h) (Or.inl ⟨by rfl, ?_⟩) ?_ ?_
             rotate_left
             ·intro w'
              go_simp
              with_reducible rfl
             rotate_left
             ·simp only [Act.put, List.setIfInBounds_toArray, List.set_cons_zero, List.set_cons_succ, i64_w, i32_w]
              rfl
             refine pure_ (i:=13) (N:=some 88) (v:=?_) (a':=?_) #[true, true, true, true, true, true, true, true, true, true, true, true, true, true, false, false, false] rfl rfl (any_of HT_.out (by kernel_rfl)) (fun _ _ _ h=>h) (Or.inl ⟨by rfl, ?_⟩) ?_ ?_
             rotate_left
             ·intro w'
              go_simp
              with_reducible rfl
             rotate_left
             ·simp only [Act.put, List.setIfInBounds_toArray, List.set_cons_zero, List.set_cons_succ, i64_w, i32_w]
              rfl
             refine pure_ (i:=14) (N:=some 89) (v:=?_) (a':=?_) #[true, true, true, true, true, true, true, true, true, true, true, true, true, true, true, false, false] rfl rfl (any_of HT_.out (by kernel_rfl)) (fun _ _ _ h=>h) (Or.inl ⟨by rfl, ?_⟩) ?_ ?_
             rotate_left
             ·intro w'
              go_simp
              with_reducible rfl
             rotate_left
             ·simp only [Act.put, List.setIfInBounds_toArray, List.set_cons_zero, List.set_cons_succ, i64_w, i32_w]
              rfl
             refine pure_ (i:=15) (N:=some 13) (v:=?_) (a':=?_) #[true, true, true, true, true, true, true, true, true, true, true, true, true, true, true, true, false] rfl rfl (any_of HT_.out (by kernel_rfl)) (fun _ _ _ h=>h) (Or.inl ⟨by rfl, ?_⟩) ?_ ?_
             rotate_left
             ·intro w'
              go_simp
              with_reducible rfl
             rotate_left
             ·simp only [Act.put, List.setIfInBounds_toArray, List.set_cons_zero, List.set_cons_succ, i64_w, i32_w]
              rfl
             refine pure_ (i:=16) (N:=some 14) (v:=?_) (a':=?_) #[true, true, true, true, true, true, true, true, true, true, true, true, true, true, true, true, true] rfl rfl (any_of HT_.out (by kernel_rfl)) (fun _ _ _ h=>h) (Or.inl ⟨by rfl, ?_⟩) ?_ ?_
             rotate_left
             ·intro w'
              go_simp
              with_reducible rfl
             rotate_left
             ·simp only [Act.put, List.setIfInBounds_toArray, List.set_cons_zero, List.set_cons_succ, i64_w, i32_w]
              rfl
             refine done_ (done_of HT_.out (by kernel_rfl)) ?_
             try go_wp2_with (first | ((with_reducible refine gate_builtin (b:=.append) (xs:=#[.tmp 92, .tmp 94]) rfl ?_);(try (refine gate_guard (by rfl) ?_;dsimp only));at_builtin;refine Kd.R_append (Kd.int .i64) (w0:=w) w.heap.size rfl (.tmp 92) (.tmp 94) 29 3 (.int .i64 0) 8 rfl Try.underlying29 info3 rfl (by decide) (by omega) u10 x10_3 t171 [.int .i64 t171] (fun k_=>some k_ ≠ (v163 : Value).ownBlock) (fun _=>False) rfl rfl ?aP (fun _ hk=>hk.elim) ?aF ?aO ?aB ?aS ?aL ?_;(case aP=>exact rfl);(case aB=>exact (by repeat (first | (with_reducible first | exact HB.out | apply below_alloc | apply pw_below_drewN | apply below_drew1 | refine below_set ?_ GE157.out | refine below_set ?_ GE158.out) | exact HB.out)));(case aF=>exact (fun k_ hk=>Kd.fresh' (Kd.R_lt (by (with_reducible repeat (first | apply Kd.R_alloc | apply Kd.R_drewN | apply Kd.R_drew));exact HO_8.out)) k_ hk));(case aO=>exact (by (with_reducible repeat (first | apply Kd.R_alloc | apply Kd.R_drewN | apply Kd.R_drew));exact HO_10.out));(case aS=>exact (below_size (by repeat (first | (with_reducible first | exact HB.out | apply below_alloc | apply pw_below_drewN | apply below_drew1 | refine below_set ?_ GE157.out | refine below_set ?_ GE158.out) | exact HB.out))));(case aL=>have:=LMc44.out;omega);intro v174 w47 ho hb hg hat;rw [← Ny173.out] at ho;have n0_:=Aside0.mk (Kd.R_after (ok:=(fun _=>True)) (by (with_reducible repeat (first | apply Kd.R_alloc | apply Kd.R_drewN | apply Kd.R_drew));exact Kd.R_mono HO_8.out (fun _ hk=>⟨trivial, hk⟩)) hg hat);have n1_:=Aside0.mk (blk_grown (g:=gb157) (o:=.cells #[.string a0_0, .int .i64 a0_1, .int .i64 a0_2, .int .i64 a0_3, .int .i64 a0_4, .int .i64 a0_5, .bool a0_6] 23 (0, 0)) (by (with_reducible repeat (first | refine blk_drewN ?_ _ | refine blk_drew ?_ | refine blk_alloc ?_ _));exact BK157.out) hg (Kd.R_ne HO_10.out BK157.out (by decide)));have n2_:=Aside0.mk (blk_grown (g:=gb158) (o:=.cells #[.int .i64 a2_0, .slice A2_1 l2_1.length c2_1] 27 (0, 0)) (by (with_reducible repeat (first | refine blk_drewN ?_ _ | refine blk_drew ?_ | refine blk_alloc ?_ _));exact BK158.out) hg (Kd.R_ne HO_10.out BK158.out (by decide)));have n3_:=Aside0.mk (hb);have n4_:=Aside0.mk (ho);clear HO_8 BK157 BK158 HB HO_10;have HO_8:=n0_;have BK157:=n1_;have BK158:=n2_;have HB:=n3_;have HO175:=n4_;clear n0_ n1_ n2_ n3_ n4_ ho hb hg hat))
             go_roundg k3
             case measure=>have:=HJ3.out;have:=HJ13.out;have:=HK3.out;omega
             case rel=>exact ⟨(y173), (wrap64 (x12_3 + 1)), (by first | rfl | (simp;done) | (simp [*];done)), H', ⟨by have:=HJ3.out;have:=HJ13.out;have:=HK3.out;omega⟩, ⟨by (with_reducible repeat (first | apply Kd.R_alloc | apply Kd.R_drewN | apply Kd.R_drew));exact Kd.R_mono HO_8.out (fun _ hk=>hk.2)⟩, ⟨by (with_reducible repeat (first | apply Kd.R_alloc | apply Kd.R_drewN | apply Kd.R_drew));exact HO175.out⟩, ⟨by (with_reducible repeat (first | refine blk_drewN ?_ _ | refine blk_drew ?_ | refine blk_alloc ?_ _));exact BK157.out⟩, ⟨by (with_reducible repeat (first | refine blk_drewN ?_ _ | refine blk_drew ?_ | refine blk_alloc ?_ _));exact BK158.out⟩, ⟨by repeat (first | (with_reducible first | exact HB.out | apply below_alloc | apply pw_below_drewN | apply below_drew1 | refine below_set ?_ GE157.out | refine below_set ?_ GE158.out) | exact HB.out)⟩⟩
            ·rw [if_neg c44] at H
             exact absurd H (by simp)
           ·rw [if_neg c43] at H
            exact absurd H (by simp)
          ·rw [if_neg c41] at H
           exact absurd H (by simp)
         ·rw [if_neg c40] at H
          have c40b0 : decide (x12_3 < (l1.length : Int)) = false:=decide_eq_false c40
          clear c40
          have H':=Aside0.mk H
          clear H
          go_wp2
          go_loopg [11, 15] k3 (fun kq v11 v15 w'=>∃ (x11_4 : List Int) (x15_4 : Int), v15 = .int .i64 x15_4 ∧ Aside0 (contangotop_TopAverage.l1 kq t160 t161 x10_3 x11_4 x15_4 a0_0 a0_1 a0_2 a0_3 a0_4 a0_5 a0_6 a2_0 l2_1 = some r) ∧ Aside0 (kq ≤ k3) ∧ Aside0 (Kd.R (Kd.int .i64) 3 w' w.heap.size (fun k_=>some k_ ≠ (u10 : Value).ownBlock ∧ some k_ ≠ (v11 : Value).ownBlock) v163 t161) ∧ Aside0 (Kd.R (Kd.int .i64) 3 w' w.heap.size (fun k_=>some k_ ≠ (v163 : Value).ownBlock ∧ some k_ ≠ (v11 : Value).ownBlock) u10 x10_3) ∧ Aside0 (Kd.R (Kd.int .i64) 3 w' w.heap.size (fun k_=>some k_ ≠ (v163 : Value).ownBlock ∧ some k_ ≠ (u10 : Value).ownBlock) v11 x11_4) ∧ Aside0 (w'.heap[gb157]? = some (.cells #[.string a0_0, .int .i64 a0_1, .int .i64 a0_2, .int .i64 a0_3, .int .i64 a0_4, .int .i64 a0_5, .bool a0_6] 23 (0, 0))) ∧ Aside0 (w'.heap[gb158]? = some (.cells #[.int .i64 a2_0, (.slice A2_1 l2_1.length c2_1)] 27 (0, 0))) ∧ Aside0 (Below w.heap.size w w'))
          case atStart=>exact ⟨(([] : List Int)), (0), (by first | rfl | (simp;done) | (simp [*];done)), H', ⟨Nat.le_refl _⟩, ⟨by (with_reducible repeat (first | apply Kd.R_alloc | apply Kd.R_drewN | apply Kd.R_drew));exact Kd.R_mono HO_8.out (fun _ hk=>⟨hk, (by simp [Value.ownBlock])⟩)⟩, ⟨by (with_reducible repeat (first | apply Kd.R_alloc | apply Kd.R_drewN | apply Kd.R_drew));exact Kd.R_mono HO_10.out (fun _ hk=>⟨hk, (by simp [Value.ownBlock])⟩)⟩, ⟨by first | exact Kd.R_nil _ _ _ _ _ | exact Kd.N_nil _ _ _ _ _ | exact Kd.V_nil _ _ _ _ _ | exact Kd.Q_nil _ _ _ _ _ | exact Kd.S_nil _ _ _ _ _⟩, ⟨by (with_reducible repeat (first | refine blk_drewN ?_ _ | refine blk_drew ?_ | refine blk_alloc ?_ _));exact BK157.out⟩, ⟨by (with_reducible repeat (first | refine blk_drewN ?_ _ | refine blk_drew ?_ | refine blk_alloc ?_ _));exact BK158.out⟩, ⟨by repeat (first | (with_reducible first | exact HB.out | apply below_alloc | apply pw_below_drewN | apply below_drew1 | refine below_set ?_ GE157.out | refine below_set ?_ GE158.out) | exact HB.out)⟩⟩
          case round =>
           clear H'
           try clear c1
           try clear p1
           try clear q1
           try clear hx1
           try clear c2
           try clear p2
           try clear c3
           try clear c4
           try clear c5
           try clear p6
           try clear c7
           try clear c7b0
           try clear c7b1
           try clear c8
           try clear c10
           try clear c15
           try clear p16
           try clear q16
           try clear hx16
           try clear p17
           try clear q17
           try clear hx17
           try clear c18
           try clear c18b0
           try clear c18b1
           try clear c20
           try clear c20b0
           try clear c20b1
           try clear c21
           try clear c26
           try clear c29
           try clear c30
           try clear c30b0
           try clear c30b1
           try clear c32
           try clear c32b0
           try clear c32b1
           try clear c34
           try clear c40
           try clear c40b0
           try clear c41
           try clear c41b0
           try clear c43
           try clear c43b0
           try clear c43b1
           try clear c44
           try clear hcz16_0
           try clear hcz16_1
           try clear hcz22_0
           try clear hcz22_1
           try clear hcz22_2
           try clear hcz22_3
           try clear hcz22_4
           try clear hcz22_5
           try clear hcz22_6
           try clear hcz25_0
           try clear hcz25_1
           try clear hcz27_0
           try clear hcz27_1
           try clear hcz27_2
           try clear hcz27_3
           try clear hcz27_4
           try clear hcz27_5
           try clear hcz27_6
           try clear hcz35_0
           try clear hcz35_1
           try clear hcz35_2
           try clear hcz35_3
           try clear hcz35_4
           try clear hcz35_5
           try clear hcz35_6
           try clear hcz9_0
           try clear hcz9_1
           try clear hfz16_0
           try clear hfz16_1
           try clear hfz22_0
           try clear hfz22_1
           try clear hfz22_2
           try clear hfz22_3
           try clear hfz22_4
           try clear hfz22_5
           try clear hfz22_6
           try clear hfz25_0
           try clear hfz25_1
           try clear hfz27_0
           try clear hfz27_1
           try clear hfz27_2
           try clear hfz27_3
           try clear hfz27_4
           try clear hfz27_5
           try clear hfz27_6
           try clear hfz35_0
           try clear hfz35_1
           try clear hfz35_2
           try clear hfz35_3
           try clear hfz35_4
           try clear hfz35_5
           try clear hfz35_6
           try clear hfz9_0
           try clear hfz9_1
           try clear hx169_0
           try clear hx169_1
           try clear hx169_10
           try clear hx169_11
           try clear hx169_12
           try clear hx169_2
           try clear hx169_3
           try clear hx169_4
           try clear hx169_5
           try clear hx169_6
           try clear hx169_7
           try clear hx169_8
           try clear hx169_9
           try clear hx170_0
           try clear hx170_1
           try clear hx170_10
           try clear hx170_11
           try clear hx170_12
           try clear hx170_2
           try clear hx170_3
           try clear hx170_4
           try clear hx170_5
           try clear hx170_6
           try clear hx170_7
           try clear hx170_8
           try clear hx170_9
           try clear p169
           try clear p170
           try clear p2
           try clear q169
           try clear q170
           obtain ⟨x11_4, x15_4, rfl, HA, HK4, HO_8, HO_10, HO_11, BK157, BK158, HB⟩:=hrel
           cases gk with
           | zero=>exact absurd HA.out (by simp [contangotop_TopAverage.l1])
           | succ k4 =>
            have H:=HA.out
            clear HA
            simp only [contangotop_TopAverage.l1] at H
            by_cases c48 : x15_4 < (l2_1.length : Int)
            ·rw [if_pos c48] at H
             have c48b0 : decide (x15_4 < (l2_1.length : Int)) = true:=decide_eq_true c48
             clear c48
             by_cases c49 : 0 ≤ x15_4
             ·rw [if_pos c49] at H
              have c49b0 : decide (0 ≤ x15_4) = true:=decide_eq_true c49
              clear c49
              replace H:=Option.bind_eq_some_iff.mp H
              obtain ⟨⟨t182, t183⟩, A500, H⟩:=H
              replace H : (if x15_4 < (t161.length : Int) then ((cents_Mul.f k4 (rd t161 x15_4) a0_2).bind fun bt185=>(if t183 = 0 then (if bt185.2 = 0 then ((some (([t182, bt185.1] : List Int) : List Int)).bind fun y187=>(if x11_4.length + y187.length < 17592186044416 then (contangotop_TopAverage.l1 k4 t160 t161 x10_3 (x11_4 ++ y187) (wrap64 (x15_4 + 1)) a0_0 a0_1 a0_2 a0_3 a0_4 a0_5 a0_6 a2_0 l2_1) else (none))) else (if bt185.2 = 3 then ((contangotop_goes10.f k4).bind fun t193=>(some t193)) else (none))) else (none))) else (none)) = some r:=H
              have A50:=Aside0.mk A500
              clear A500
              by_cases c51 : x15_4 < (t161.length : Int)
              ·rw [if_pos c51] at H
               have c51b0 : decide (x15_4 < (t161.length : Int)) = true:=decide_eq_true c51
               clear c51
               replace H:=Option.bind_eq_some_iff.mp H
               obtain ⟨⟨t185, t186⟩, A520, H⟩:=H
               replace H : (if t183 = 0 then (if t186 = 0 then ((some (([t182, t185] : List Int) : List Int)).bind fun y187=>(if x11_4.length + y187.length < 17592186044416 then (contangotop_TopAverage.l1 k4 t160 t161 x10_3 (x11_4 ++ y187) (wrap64 (x15_4 + 1)) a0_0 a0_1 a0_2 a0_3 a0_4 a0_5 a0_6 a2_0 l2_1) else (none))) else (if t186 = 3 then ((contangotop_goes10.f k4).bind fun t193=>(some t193)) else (none))) else (none)) = some r:=H
               have A52:=Aside0.mk A520
               clear A520
               by_cases c53 : t183 = 0
               ·rw [if_pos c53] at H
                have c53b0 : (t183 == 0) = true:=beq_iff_eq.mpr c53
                have c53b1 : (t183 != 0) = false:=bne_eq_false_iff_eq.mpr c53
                clear c53
                by_cases c54 : t186 = 0
                ·rw [if_pos c54] at H
                 have c54b0 : (t186 == 0) = true:=beq_iff_eq.mpr c54
                 have c54b1 : (t186 != 0) = false:=bne_eq_false_iff_eq.mpr c54
                 clear c54
                 obtain ⟨y187, hy187⟩ : ∃ y_ : List Int, y_ = (([t182, t185] : List Int)):=⟨_, rfl⟩
                 replace H : (if x11_4.length + y187.length < 17592186044416 then (contangotop_TopAverage.l1 k4 t160 t161 x10_3 (x11_4 ++ y187) (wrap64 (x15_4 + 1)) a0_0 a0_1 a0_2 a0_3 a0_4 a0_5 a0_6 a2_0 l2_1) else (none)) = some r:=by first | (rw [hy187];with_reducible exact H) | (have H2_:=(Option.bind_some _ _).symm.trans H;rw [hy187];with_reducible exact H2_) | (have H2_:=(Option.bind_some _ _).symm.trans H;with_reducible exact H2_) | with_reducible exact H | (rw [hy187];exact H) | exact H
                 have Ny187:=Aside0.mk hy187
                 clear hy187
                 by_cases c55 : x11_4.length + y187.length < 17592186044416
                 ·rw [if_pos c55] at H
                  have LMc55:=Aside0.mk c55
                  clear c55
                  obtain ⟨y190, hy190⟩ : ∃ y_ : List Int, y_ = (x11_4 ++ y187):=⟨_, rfl⟩
                  replace H : (contangotop_TopAverage.l1 k4 t160 t161 x10_3 y190 (wrap64 (x15_4 + 1)) a0_0 a0_1 a0_2 a0_3 a0_4 a0_5 a0_6 a2_0 l2_1) = some r:=by first | (rw [hy190];with_reducible exact H) | (have H2_:=(Option.bind_some _ _).symm.trans H;rw [hy190];with_reducible exact H2_) | (have H2_:=(Option.bind_some _ _).symm.trans H;with_reducible exact H2_) | with_reducible exact H | (rw [hy190];exact H) | exact H
                  have Ny190:=Aside0.mk hy190
                  clear hy190
                  have H':=Aside0.mk H
                  clear H
                  have hnb56:=NB158_157.out
                  have hnc56:=NB157_158.out
                  have hcz57_0 : wr.cell? ⟨gb158, 0, none⟩ = some (.int .i64 a2_0):=(blk_cell BK158.out 0).trans rfl
                  have hcz57_1 : wr.cell? ⟨gb158, 1, none⟩ = some (.slice A2_1 l2_1.length c2_1):=(blk_cell BK158.out 1).trans rfl
                  have hfz57_0:=blk_frozen BK158.out 0
                  have hfz57_1:=blk_frozen BK158.out 1
                  try go_wp2
                  have n0_:=Aside0.mk (Kd.R_drew HO_8.out)
                  have n1_:=Aside0.mk (Kd.R_drew HO_10.out)
                  have n2_:=Aside0.mk (Kd.R_drew HO_11.out)
                  have n3_:=Aside0.mk (blk_drew BK157.out)
                  have n4_:=Aside0.mk (blk_drew BK158.out)
                  have n5_:=Aside0.mk (below_drew1 HB.out)
                  clear HO_8
                  clear HO_10
                  clear HO_11
                  clear BK157
                  clear BK158
                  clear HB
                  have HO_8:=n0_
                  have HO_10:=n1_
                  have HO_11:=n2_
                  have BK157:=n3_
                  have BK158:=n4_
                  have HB:=n5_
                  clear n0_ n1_ n2_ n3_ n4_ n5_
                  have p181 : 0 ≤ (x15_4 : Int):=of_decide_eq_true (by first | (with_reducible assumption) | assumption)
                  have q181 : x15_4 < (l2_1.length : Int):=of_decide_eq_true (by first | (with_reducible assumption) | assumption)
                  obtain ⟨ad181, e181, hx181_0, hx181_1, hx181_2⟩:=at_T43 HR2_1.out x15_4 p181 q181
                  have hw181_2:=hx181_2
                  have hw181_1:=hx181_1
                  have hw181_0:=hx181_0
                  cases e181
                  replace hx181_0:=(HB.out.cell (World.block_lt_of_cell? w _ hx181_0)).trans hx181_0
                  replace hx181_1:=(HB.out.cell (World.block_lt_of_cell? w _ hx181_1)).trans hx181_1
                  replace hx181_2:=(HB.out.cell (World.block_lt_of_cell? w _ hx181_2)).trans hx181_2
                  replace p181:=eq_true p181
                  replace q181:=eq_true q181
                  refine start_ (n:=14) (S:=fun w'=>w'.cell? ⟨gb157, 0, none⟩ = some (.string a0_0) ∧ w'.cell? ⟨gb157, 1, none⟩ = some (.int .i64 a0_1) ∧ w'.cell? ⟨gb157, 2, none⟩ = some (.int .i64 a0_2) ∧ w'.cell? ⟨gb157, 3, none⟩ = some (.int .i64 a0_3) ∧ w'.cell? ⟨gb157, 4, none⟩ = some (.int .i64 a0_4) ∧ w'.cell? ⟨gb157, 5, none⟩ = some (.int .i64 a0_5) ∧ w'.cell? ⟨gb157, 6, none⟩ = some (.bool a0_6) ∧ w'.cell? ⟨gb158, 0, none⟩ = some (.int .i64 a2_0) ∧ w'.cell? ⟨gb158, 1, none⟩ = some (.slice (some ad181) l2_1.length c2_1) ∧ w'.cell? (ad181.add ((x15_4).toNat * 3)) = some (.string ((rd_T43 l2_1 x15_4).f0.f0)) ∧ w'.cell? ⟨(ad181.add ((x15_4).toNat * 3)).block, (ad181.add ((x15_4).toNat * 3)).off + 1, none⟩ = some (.string ((rd_T43 l2_1 x15_4).f0.f1)) ∧ w'.cell? ⟨(ad181.add ((x15_4).toNat * 3)).block, (ad181.add ((x15_4).toNat * 3)).off + 2, none⟩ = some (.int .i64 ((rd_T43 l2_1 x15_4).f1))) (ds:=[]) #[false, false, false, false, false, false, false, false, false, false, false, false, false, false] (by kernel_rfl) rfl rfl ⟨(blk_cell BK157.out 0).trans rfl, (blk_cell BK157.out 1).trans rfl, (blk_cell BK157.out 2).trans rfl, (blk_cell BK157.out 3).trans rfl, (blk_cell BK157.out 4).trans rfl, (blk_cell BK157.out 5).trans rfl, (blk_cell BK157.out 6).trans rfl, (blk_cell BK158.out 0).trans rfl, (blk_cell BK158.out 1).trans rfl, ((HB.out.cell (World.block_lt_of_cell? w _ hw181_0)).trans hw181_0), ((HB.out.cell (World.block_lt_of_cell? w _ hw181_1)).trans hw181_1), ((HB.out.cell (World.block_lt_of_cell? w _ hw181_2)).trans hw181_2)⟩ (fun hHeld=>?_);refine with_tabW contangotop_TopAverage.tab17 contangotop_TopAverage.bits17 (fun HT_ HW_=>?_)
                  generalize wr.drew = w58 at HO_8 HO_10 HO_11 BK157 BK158 HB hx181_0 hx181_1 hx181_2 hHeld ⊢
                  refine pure_ (i:=1) (N:=some 105) (v:=?_) (a':=?_) #[false, true, false, false, false, false, false, false, false, false, false, false, false, false] rfl rfl (any_of HT_.out (by kernel_rfl)) (fun _ _ _ h=>h) (Or.inl ⟨by rfl, ?_⟩) ?_ ?_
                  rotate_left
                  ·intro w'
                   go_simp
                   with_reducible rfl
                  rotate_left
                  ·simp only [Act.put, List.setIfInBounds_toArray, List.set_cons_zero, List.set_cons_succ, i64_w, i32_w]
                   rfl
                  refine pure_ (i:=2) (N:=some 106) (v:=?_) (a':=?_) #[false, true, true, false, false, false, false, false, false, false, false, false, false, false] rfl rfl (any_of HT_.out (by kernel_rfl)) (fun _ _ _ h=>h) (Or.inl ⟨by rfl, ?_⟩) ?_ ?_
                  rotate_left
                  ·intro w'
                   go_simp
                   with_reducible rfl
                  rotate_left
                  ·simp only [Act.put, List.setIfInBounds_toArray, List.set_cons_zero, List.set_cons_succ, i64_w, i32_w]
                   rfl
                  refine pure_ (i:=4) (N:=some 108) (v:=?_) (a':=?_) #[false, true, true, false, true, false, false, false, false, false, false, false, false, false] rfl rfl (any_of HT_.out (by kernel_rfl)) (fun _ _ _ h=>h) (Or.inl ⟨by rfl, ?_⟩) ?_ ?_
                  rotate_left
                  ·intro w'
                   go_simp
                   with_reducible rfl
                  rotate_left
                  ·simp only [Act.put, List.setIfInBounds_toArray, List.set_cons_zero, List.set_cons_succ, i64_w, i32_w]
                   rfl
                  refine take_ (i:=0) (N:=some 104) (v:=?_) (a':=?_) #[true, true, true, false, true, false, false, false, false, false, false, false, false, false] rfl rfl (take_ofW HT_.out HW_.out (by kernel_rfl)) (fun _ _ _ h=>h) (Or.inl ⟨by rfl, ?_⟩) hHeld ?_ ?_
                  rotate_left
                  ·rintro w' ⟨s0, s1, s2, s3, s4, s5, s6, s7, s8, s9, s10, s11⟩
                   go_simp
                   with_reducible rfl
                  rotate_left
                  ·simp only [Act.put, List.setIfInBounds_toArray, List.set_cons_zero, List.set_cons_succ, i64_w, i32_w]
                   rfl
                  refine take_ (i:=3) (N:=some 107) (v:=?_) (a':=?_) #[true, true, true, true, true, false, false, false, false, false, false, false, false, false] rfl rfl (take_ofW HT_.out HW_.out (by kernel_rfl)) (fun _ _ _ h=>h) (Or.inl ⟨by rfl, ?_⟩) hHeld ?_ ?_
                  rotate_left
                  ·rintro w' ⟨s0, s1, s2, s3, s4, s5, s6, s7, s8, s9, s10, s11⟩
                   go_simp
                   with_reducible rfl
                  rotate_left
                  ·simp only [Act.put, List.setIfInBounds_toArray, List.set_cons_zero, List.set_cons_succ, i64_w, i32_w]
                   rfl
                  refine pure_ (i:=5) (N:=some 109) (v:=?_) (a':=?_) #[true, true, true, true, true, true, false, false, false, false, false, false, false, false] rfl rfl (any_of HT_.out (by kernel_rfl)) (fun _ _ _ h=>h) (Or.inl ⟨by rfl, ?_⟩) ?_ ?_
                  rotate_left
                  ·intro w'
                   go_simp
                   with_reducible rfl
                  rotate_left
                  ·simp only [Act.put, List.setIfInBounds_toArray, List.set_cons_zero, List.set_cons_succ, i64_w, i32_w]
                   rfl
                  refine pure_ (i:=6) (N:=some 110) (v:=?_) (a':=?_) #[true, true, true, true, true, true, true, false, false, false, false, false, false, false] rfl rfl (any_of HT_.out (by kernel_rfl)) (fun _ _ _ h=>h) (Or.inl ⟨by rfl, ?_⟩) ?_ ?_
                  rotate_left
                  ·intro w'
                   go_simp
                   with_reducible rfl
                  rotate_left
                  ·simp only [Act.put, List.setIfInBounds_toArray, List.set_cons_zero, List.set_cons_succ, i64_w, i32_w]
                   rfl
                  refine take_ (i:=7) (N:=some 111) (v:=?_) (a':=?_) #[true, true, true, true, true, true, true, true, false, false, false, false, false, false] rfl rfl (take_ofW HT_.out HW_.out (by kernel_rfl)) (fun _ _ _ h=>h) (Or.inl ⟨by rfl, ?_⟩) hHeld ?_ ?_
                  rotate_left
                  ·rintro w' ⟨s0, s1, s2, s3, s4, s5, s6, s7, s8, s9, s10, s11⟩
                   go_simp
                   with_reducible rfl
                  rotate_left
                  ·simp only [Act.put, List.setIfInBounds_toArray, List.set_cons_zero, List.set_cons_succ, i64_w, i32_w]
                   rfl
                  refine one_ (i:=8) (N:=some 112) #[true, true, true, true, true, true, true, true, true, false, false, false, false, false] rfl rfl (one_of HT_.out (by kernel_rfl)) (by decide) (fun K hK=>?_)
                  refine goes_ Try.func7 (by kernel_rfl) rfl #[.agg #[.string a0_0, .int .i64 a0_1, .int .i64 a0_2, .int .i64 a0_3, .int .i64 a0_4, .int .i64 a0_5, .bool a0_6], .int .i64 t160, .int .i64 ((rd_T43 l2_1 x15_4).f1)] (by rfl) rfl rfl (by (try simp only [List.map_toArray, List.map_cons, List.map_nil]);first | done | rfl | (simp only [List.length_drop, List.length_take];rfl)) ?_
                  with_reducible refine (product_Value.calls k4 a0_0 a0_1 a0_2 a0_3 a0_4 a0_5 a0_6 t160 ((rd_T43 l2_1 x15_4).f1) t182 t183 _ A50.out).mono ?_
                  rintro e w59 ⟨rfl, hb⟩
                  refine ⟨_, rfl, ?_⟩
                  have n0_:=Aside0.mk (Kd.R_below (by (with_reducible repeat (first | apply Kd.R_alloc | apply Kd.R_drewN | apply Kd.R_drew));exact HO_8.out) hb)
                  have n1_:=Aside0.mk (Kd.R_below (by (with_reducible repeat (first | apply Kd.R_alloc | apply Kd.R_drewN | apply Kd.R_drew));exact HO_10.out) hb)
                  have n2_:=Aside0.mk (Kd.R_below (by (with_reducible repeat (first | apply Kd.R_alloc | apply Kd.R_drewN | apply Kd.R_drew));exact HO_11.out) hb)
                  have n3_:=Aside0.mk (blk_below (g:=gb157) (o:=.cells #[.string a0_0, .int .i64 a0_1, .int .i64 a0_2, .int .i64 a0_3, .int .i64 a0_4, .int .i64 a0_5, .bool a0_6] 23 (0, 0)) (by (with_reducible repeat (first | refine blk_drewN ?_ _ | refine blk_drew ?_ | refine blk_alloc ?_ _));exact BK157.out) hb)
                  have n4_:=Aside0.mk (blk_below (g:=gb158) (o:=.cells #[.int .i64 a2_0, .slice (some ad181) l2_1.length c2_1] 27 (0, 0)) (by (with_reducible repeat (first | refine blk_drewN ?_ _ | refine blk_drew ?_ | refine blk_alloc ?_ _));exact BK158.out) hb)
                  have n5_:=Aside0.mk (below_step (by repeat (first | (with_reducible first | exact HB.out | apply below_alloc | apply pw_below_drewN | apply below_drew1 | refine below_set ?_ GE157.out | refine below_set ?_ GE158.out) | exact HB.out)) hb)
                  clear HO_8
                  clear HO_10
                  clear HO_11
                  clear BK157
                  clear BK158
                  clear HB
                  have HO_8:=n0_
                  have HO_10:=n1_
                  have HO_11:=n2_
                  have BK157:=n3_
                  have BK158:=n4_
                  have HB:=n5_
                  clear n0_ n1_ n2_ n3_ n4_ n5_
                  (try clear hb)
                  (try clear hb2)
                  (try clear hk)
                  (try clear hi)
                  refine hK.out _ _ ⟨(blk_cell BK157.out 0).trans rfl, (blk_cell BK157.out 1).trans rfl, (blk_cell BK157.out 2).trans rfl, (blk_cell BK157.out 3).trans rfl, (blk_cell BK157.out 4).trans rfl, (blk_cell BK157.out 5).trans rfl, (blk_cell BK157.out 6).trans rfl, (blk_cell BK158.out 0).trans rfl, (blk_cell BK158.out 1).trans rfl, ((HB.out.cell (World.block_lt_of_cell? w _ hw181_0)).trans hw181_0), ((HB.out.cell (World.block_lt_of_cell? w _ hw181_1)).trans hw181_1), ((HB.out.cell (World.block_lt_of_cell? w _ hw181_2)).trans hw181_2)⟩ (fun hHeld=>?_)
                  clear hK K
                  refine norm_ (a':=?_) ?_ ?_
                  rotate_left
                  ·show Act.put _ (some 112) _ = _
                   simp only [Act.put, List.setIfInBounds_toArray, List.set_cons_zero, List.set_cons_succ, i64_w, i32_w]
                   rfl
                  refine pure_ (i:=9) (N:=some 103) (v:=?_) (a':=?_) #[true, true, true, true, true, true, true, true, true, true, false, false, false, false] rfl rfl (any_of HT_.out (by kernel_rfl)) (fun _ _ _ h=>h) (Or.inl ⟨by rfl, ?_⟩) ?_ ?_
                  rotate_left
                  ·intro w'
                   go_simp
                   with_reducible rfl
                  rotate_left
                  ·simp only [Act.put, List.setIfInBounds_toArray, List.set_cons_zero, List.set_cons_succ, i64_w, i32_w]
                   rfl
                  refine pure_ (i:=10) (N:=some 113) (v:=?_) (a':=?_) #[true, true, true, true, true, true, true, true, true, true, true, false, false, false] rfl rfl (any_of HT_.out (by kernel_rfl)) (fun _ _ _ h=>h) (Or.inl ⟨by rfl, ?_⟩) ?_ ?_
                  rotate_left
                  ·intro w'
                   go_simp
                   with_reducible rfl
                  rotate_left
                  ·simp only [Act.put, List.setIfInBounds_toArray, List.set_cons_zero, List.set_cons_succ, i64_w, i32_w]
                   rfl
                  refine pure_ (i:=11) (N:=some 114) (v:=?_) (a':=?_) #[true, true, true, true, true, true, true, true, true, true, true, true, false, false] rfl rfl (any_of HT_.out (by kernel_rfl)) (fun _ _ _ h=>h) (Or.inl ⟨by rfl, ?_⟩) ?_ ?_
                  rotate_left
                  ·intro w'
                   go_simp
                   with_reducible rfl
                  rotate_left
                  ·simp only [Act.put, List.setIfInBounds_toArray, List.set_cons_zero, List.set_cons_succ, i64_w, i32_w]
                   rfl
                  refine pure_ (i:=12) (N:=some 16) (v:=?_) (a':=?_) #[true, true, true, true, true, true, true, true, true, true, true, true, true, false] rfl rfl (any_of HT_.out (by kernel_rfl)) (fun _ _ _ h=>h) (Or.inl ⟨by rfl, ?_⟩) ?_ ?_
                  rotate_left
                  ·intro w'
                   go_simp
                   with_reducible rfl
                  rotate_left
                  ·simp only [Act.put, List.setIfInBounds_toArray, List.set_cons_zero, List.set_cons_succ, i64_w, i32_w]
                   rfl
                  refine pure_ (i:=13) (N:=some 17) (v:=?_) (a':=?_) #[true, true, true, true, true, true, true, true, true, true, true, true, true, true] rfl rfl (any_of HT_.out (by kernel_rfl)) (fun _ _ _ h=>h) (Or.inl ⟨by rfl, ?_⟩) ?_ ?_
                  rotate_left
                  ·intro w'
                   go_simp
                   with_reducible rfl
                  rotate_left
                  ·simp only [Act.put, List.setIfInBounds_toArray, List.set_cons_zero, List.set_cons_succ, i64_w, i32_w]
                   rfl
                  refine done_ (done_of HT_.out (by kernel_rfl)) ?_
                  try go_wp2
                  have n0_:=Aside0.mk (Kd.R_drew HO_8.out)
                  have n1_:=Aside0.mk (Kd.R_drew HO_10.out)
                  have n2_:=Aside0.mk (Kd.R_drew HO_11.out)
                  have n3_:=Aside0.mk (blk_drew BK157.out)
                  have n4_:=Aside0.mk (blk_drew BK158.out)
                  have n5_:=Aside0.mk (below_drew1 HB.out)
                  clear HO_8
                  clear HO_10
                  clear HO_11
                  clear BK157
                  clear BK158
                  clear HB
                  have HO_8:=n0_
                  have HO_10:=n1_
                  have HO_11:=n2_
                  have BK157:=n3_
                  have BK158:=n4_
                  have HB:=n5_
                  clear n0_ n1_ n2_ n3_ n4_ n5_
                  obtain ⟨Ao61, co61, eo61⟩:=Kd.R_slice HO_8.out
                  (first | subst eo61 | (injection eo61 with f1_ f2_ f3_;have f4_:=f1_.symm;have f5_:=f3_.symm;clear f1_ f2_ f3_;subst f4_;subst f5_))
                  have p184 : 0 ≤ (x15_4 : Int):=of_decide_eq_true (by first | (with_reducible assumption) | assumption)
                  have q184 : x15_4 < (t161.length : Int):=of_decide_eq_true (by first | (with_reducible assumption) | assumption)
                  obtain ⟨ad184, e184, hx184_0⟩:=Kd.at_int (Kd.R_reads' HO_8.out).2.2 x15_4 p184 q184
                  cases e184
                  replace p184:=eq_true p184
                  replace q184:=eq_true q184
                  refine start_ (n:=12) (S:=fun w'=>w'.cell? ⟨gb157, 0, none⟩ = some (.string a0_0) ∧ w'.cell? ⟨gb157, 1, none⟩ = some (.int .i64 a0_1) ∧ w'.cell? ⟨gb157, 2, none⟩ = some (.int .i64 a0_2) ∧ w'.cell? ⟨gb157, 3, none⟩ = some (.int .i64 a0_3) ∧ w'.cell? ⟨gb157, 4, none⟩ = some (.int .i64 a0_4) ∧ w'.cell? ⟨gb157, 5, none⟩ = some (.int .i64 a0_5) ∧ w'.cell? ⟨gb157, 6, none⟩ = some (.bool a0_6) ∧ w'.cell? (ad184.add (x15_4).toNat) = some (.int .i64 (rd t161 x15_4))) (ds:=[]) #[false, false, false, false, false, false, false, false, false, false, false, false] (by kernel_rfl) rfl rfl ⟨(blk_cell BK157.out 0).trans rfl, (blk_cell BK157.out 1).trans rfl, (blk_cell BK157.out 2).trans rfl, (blk_cell BK157.out 3).trans rfl, (blk_cell BK157.out 4).trans rfl, (blk_cell BK157.out 5).trans rfl, (blk_cell BK157.out 6).trans rfl, hx184_0⟩ (fun hHeld=>?_);refine with_tabW contangotop_TopAverage.tab18 contangotop_TopAverage.bits18 (fun HT_ HW_=>?_)
                  generalize w59.drew = w60 at HO_8 HO_10 HO_11 BK157 BK158 HB hx184_0 hHeld ⊢
                  refine pure_ (i:=0) (N:=some 116) (v:=?_) (a':=?_) #[true, false, false, false, false, false, false, false, false, false, false, false] rfl rfl (any_of HT_.out (by kernel_rfl)) (fun _ _ _ h=>h) (Or.inl ⟨by rfl, ?_⟩) ?_ ?_
                  rotate_left
                  ·intro w'
                   go_simp
                   with_reducible rfl
                  rotate_left
                  ·simp only [Act.put, List.setIfInBounds_toArray, List.set_cons_zero, List.set_cons_succ, i64_w, i32_w]
                   rfl
                  refine pure_ (i:=1) (N:=some 117) (v:=?_) (a':=?_) #[true, true, false, false, false, false, false, false, false, false, false, false] rfl rfl (any_of HT_.out (by kernel_rfl)) (fun _ _ _ h=>h) (Or.inl ⟨by rfl, ?_⟩) ?_ ?_
                  rotate_left
                  ·intro w'
                   go_simp
                   with_reducible rfl
                  rotate_left
                  ·simp only [Act.put, List.setIfInBounds_toArray, List.set_cons_zero, List.set_cons_succ, i64_w, i32_w]
                   rfl
                  refine pure_ (i:=2) (N:=some 118) (v:=?_) (a':=?_) #[true, true, true, false, false, false, false, false, false, false, false, false] rfl rfl (any_of HT_.out (by kernel_rfl)) (fun _ _ _ h=>h) (Or.inl ⟨by rfl, ?_⟩) ?_ ?_
                  rotate_left
                  ·intro w'
                   go_simp
                   with_reducible rfl
                  rotate_left
                  ·simp only [Act.put, List.setIfInBounds_toArray, List.set_cons_zero, List.set_cons_succ, i64_w, i32_w]
                   rfl
                  refine pure_ (i:=4) (N:=some 120) (v:=?_) (a':=?_) #[true, true, true, false, true, false, false, false, false, false, false, false] rfl rfl (any_of HT_.out (by kernel_rfl)) (fun _ _ _ h=>h) (Or.inl ⟨by rfl, ?_⟩) ?_ ?_
                  rotate_left
                  ·intro w'
                   go_simp
                   with_reducible rfl
                  rotate_left
                  ·simp only [Act.put, List.setIfInBounds_toArray, List.set_cons_zero, List.set_cons_succ, i64_w, i32_w]
                   rfl
                  refine take_ (i:=3) (N:=some 119) (v:=?_) (a':=?_) #[true, true, true, true, true, false, false, false, false, false, false, false] rfl rfl (take_ofW HT_.out HW_.out (by kernel_rfl)) (fun _ _ _ h=>h) (Or.inl ⟨by rfl, ?_⟩) hHeld ?_ ?_
                  rotate_left
                  ·rintro w' ⟨s0, s1, s2, s3, s4, s5, s6, s7⟩
                   go_simp
                   with_reducible rfl
                  rotate_left
                  ·simp only [Act.put, List.setIfInBounds_toArray, List.set_cons_zero, List.set_cons_succ, i64_w, i32_w]
                   rfl
                  refine take_ (i:=5) (N:=some 121) (v:=?_) (a':=?_) #[true, true, true, true, true, true, false, false, false, false, false, false] rfl rfl (take_ofW HT_.out HW_.out (by kernel_rfl)) (fun _ _ _ h=>h) (Or.inl ⟨by rfl, ?_⟩) hHeld ?_ ?_
                  rotate_left
                  ·rintro w' ⟨s0, s1, s2, s3, s4, s5, s6, s7⟩
                   go_simp
                   with_reducible rfl
                  rotate_left
                  ·simp only [Act.put, List.setIfInBounds_toArray, List.set_cons_zero, List.set_cons_succ, i64_w, i32_w]
                   rfl
                  refine one_ (i:=6) (N:=some 122) #[true, true, true, true, true, true, true, false, false, false, false, false] rfl rfl (one_of HT_.out (by kernel_rfl)) (by decide) (fun K hK=>?_)
                  refine goes_ Try.func8 (by kernel_rfl) rfl #[.int .i64 (rd t161 x15_4), .int .i64 a0_2] (by rfl) rfl rfl (by (try simp only [List.map_toArray, List.map_cons, List.map_nil]);first | done | rfl | (simp only [List.length_drop, List.length_take];rfl)) ?_
                  with_reducible refine (cents_Mul.calls k4 (rd t161 x15_4) a0_2 t185 t186 _ A52.out).mono ?_
                  rintro e w' ⟨rfl, ⟨nd, rfl⟩⟩
                  refine ⟨_, rfl, ?_⟩
                  refine hK.out _ _ ⟨(blk_cell BK157.out 0).trans rfl, (blk_cell BK157.out 1).trans rfl, (blk_cell BK157.out 2).trans rfl, (blk_cell BK157.out 3).trans rfl, (blk_cell BK157.out 4).trans rfl, (blk_cell BK157.out 5).trans rfl, (blk_cell BK157.out 6).trans rfl, hHeld.2.2.2.2.2.2.2⟩ (fun hHeld=>?_)
                  clear hK K
                  refine norm_ (a':=?_) ?_ ?_
                  rotate_left
                  ·show Act.put _ (some 122) _ = _
                   simp only [Act.put, List.setIfInBounds_toArray, List.set_cons_zero, List.set_cons_succ, i64_w, i32_w]
                   rfl
                  refine pure_ (i:=7) (N:=some 115) (v:=?_) (a':=?_) #[true, true, true, true, true, true, true, true, false, false, false, false] rfl rfl (any_of HT_.out (by kernel_rfl)) (fun _ _ _ h=>h) (Or.inl ⟨by rfl, ?_⟩) ?_ ?_
                  rotate_left
                  ·intro w'
                   go_simp
                   with_reducible rfl
                  rotate_left
                  ·simp only [Act.put, List.setIfInBounds_toArray, List.set_cons_zero, List.set_cons_succ, i64_w, i32_w]
                   rfl
                  refine pure_ (i:=8) (N:=some 123) (v:=?_) (a':=?_) #[true, true, true, true, true, true, true, true, true, false, false, false] rfl rfl (any_of HT_.out (by kernel_rfl)) (fun _ _ _ h=>h) (Or.inl ⟨by rfl, ?_⟩) ?_ ?_
                  rotate_left
                  ·intro w'
                   go_simp
                   with_reducible rfl
                  rotate_left
                  ·simp only [Act.put, List.setIfInBounds_toArray, List.set_cons_zero, List.set_cons_succ, i64_w, i32_w]
                   rfl
                  refine pure_ (i:=9) (N:=some 124) (v:=?_) (a':=?_) #[true, true, true, true, true, true, true, true, true, true, false, false] rfl rfl (any_of HT_.out (by kernel_rfl)) (fun _ _ _ h=>h) (Or.inl ⟨by rfl, ?_⟩) ?_ ?_
                  rotate_left
                  ·intro w'
                   go_simp
                   with_reducible rfl
                  rotate_left
                  ·simp only [Act.put, List.setIfInBounds_toArray, List.set_cons_zero, List.set_cons_succ, i64_w, i32_w]
                   rfl
                  refine pure_ (i:=10) (N:=some 18) (v:=?_) (a':=?_) #[true, true, true, true, true, true, true, true, true, true, true, false] rfl rfl (any_of HT_.out (by kernel_rfl)) (fun _ _ _ h=>h) (Or.inl ⟨by rfl, ?_⟩) ?_ ?_
                  rotate_left
                  ·intro w'
                   go_simp
                   with_reducible rfl
                  rotate_left
                  ·simp only [Act.put, List.setIfInBounds_toArray, List.set_cons_zero, List.set_cons_succ, i64_w, i32_w]
                   rfl
                  refine pure_ (i:=11) (N:=some 19) (v:=?_) (a':=?_) #[true, true, true, true, true, true, true, true, true, true, true, true] rfl rfl (any_of HT_.out (by kernel_rfl)) (fun _ _ _ h=>h) (Or.inl ⟨by rfl, ?_⟩) ?_ ?_
                  rotate_left
                  ·intro w'
                   go_simp
                   with_reducible rfl
                  rotate_left
                  ·simp only [Act.put, List.setIfInBounds_toArray, List.set_cons_zero, List.set_cons_succ, i64_w, i32_w]
                   rfl
                  refine done_ (done_of HT_.out (by kernel_rfl)) ?_
                  try go_wp2_with (first | ((with_reducible refine gate_dst (N:=137) rfl ?_);(try (refine gate_guard (by rfl) ?_;dsimp only));refine Kd.R_lit (Kd.int .i64) _ 3 ?hg (N:=137) ?hd (xs:=([t182, t185] : List Int)) (inner:=[.int .i64 t182, .int .i64 t185]) (ok:=fun _=>True) (okp:=fun _=>True) ?hr ?hp (fun _ hk=>hk) trivial (Below.refl _ _) (Nat.le_refl _) (by simp) ?_;(case hd=>rfl);(case hg=>rfl);(case hr=>first | (go_simp;done) | (go_simp;rfl));(case hp=>exact (Reps.one (show Kd.M (Kd.int .i64) _ _ _ t182 [.int .i64 t182] from rfl) (Reps.one (show Kd.M (Kd.int .i64) _ _ _ t185 [.int .i64 t185] from rfl) (Reps.none _ _))));intro v188 w62 ho63 hb hg_ hnew_;clear hg_ hnew_;(first | rw [← Ny187.out] at ho63 | (simp only [Int.reduceToNat] at ho63;rw [← Ny187.out] at ho63));have n0_:=Aside0.mk (Kd.R_elder' (by (with_reducible repeat (first | apply Kd.R_alloc | apply Kd.R_drewN | apply Kd.R_drew));exact HO_8.out) (Kd.R_base ho63) hb);have n1_:=Aside0.mk (Kd.R_elder' (by (with_reducible repeat (first | apply Kd.R_alloc | apply Kd.R_drewN | apply Kd.R_drew));exact HO_10.out) (Kd.R_base ho63) hb);have n2_:=Aside0.mk (Kd.R_elder' (by (with_reducible repeat (first | apply Kd.R_alloc | apply Kd.R_drewN | apply Kd.R_drew));exact HO_11.out) (Kd.R_base ho63) hb);have n3_:=Aside0.mk (Kd.R_lower (Kd.R_new' (Kd.R_new' (Kd.R_new' ho63 (Kd.R_lt (by (with_reducible repeat (first | apply Kd.R_alloc | apply Kd.R_drewN | apply Kd.R_drew));exact HO_8.out))) (Kd.R_lt (by (with_reducible repeat (first | apply Kd.R_alloc | apply Kd.R_drewN | apply Kd.R_drew));exact HO_10.out))) (Kd.R_lt (by (with_reducible repeat (first | apply Kd.R_alloc | apply Kd.R_drewN | apply Kd.R_drew));exact HO_11.out))) (below_size (by repeat (first | (with_reducible first | exact HB.out | apply below_alloc | apply pw_below_drewN | apply below_drew1 | refine below_set ?_ GE157.out | refine below_set ?_ GE158.out) | exact HB.out))));have n4_:=Aside0.mk (blk_below (g:=gb157) (o:=.cells #[.string a0_0, .int .i64 a0_1, .int .i64 a0_2, .int .i64 a0_3, .int .i64 a0_4, .int .i64 a0_5, .bool a0_6] 23 (0, 0)) (by (with_reducible repeat (first | refine blk_drewN ?_ _ | refine blk_drew ?_ | refine blk_alloc ?_ _));exact BK157.out) hb);have n5_:=Aside0.mk (blk_below (g:=gb158) (o:=.cells #[.int .i64 a2_0, .slice (some ad181) l2_1.length c2_1] 27 (0, 0)) (by (with_reducible repeat (first | refine blk_drewN ?_ _ | refine blk_drew ?_ | refine blk_alloc ?_ _));exact BK158.out) hb);have n6_:=Aside0.mk (below_step (by repeat (first | (with_reducible first | exact HB.out | apply below_alloc | apply pw_below_drewN | apply below_drew1 | refine below_set ?_ GE157.out | refine below_set ?_ GE158.out) | exact HB.out)) hb);clear HO_8 HO_10 HO_11 BK157 BK158 HB;have HO_8:=n0_;have HO_10:=n1_;have HO_11:=n2_;have HO189:=n3_;have BK157:=n4_;have BK158:=n5_;have HB:=n6_;clear n0_ n1_ n2_ n3_ n4_ n5_ n6_ hb ho63;obtain ⟨Ao65, co65, eo65⟩:=Kd.R_slice HO189.out;subst eo65) | ((with_reducible refine gate_builtin (b:=.append) (xs:=#[.tmp 134, .tmp 137]) rfl ?_);(try (refine gate_guard (by rfl) ?_;dsimp only));at_builtin;refine Kd.R_append_rows (Kd.int .i64) (w0:=w) w.heap.size rfl (.tmp 134) (.tmp 137) 29 3 (.int .i64 0) 8 rfl Try.underlying29 info3 rfl (by decide) (by omega) u11 x11_4 y187 _ _ _ (fun k_=>some k_ ≠ (.slice (some ad184) t161.length co61 : Value).ownBlock ∧ some k_ ≠ (u10 : Value).ownBlock ∧ some k_ ≠ (.slice Ao65 y187.length co65 : Value).ownBlock) (fun _=>False) rfl rfl ?aO ?aR (fun _ _ h=>h) (fun _ h=>h.elim) ?aF ?aB ?aS ?aL ?_;(case aR=>repeat (first | exact (Kd.R_reads' HO189.out).2.2 | (with_reducible refine Kd.C_alloc ?_ _) | (with_reducible refine Kd.C_drewN ?_ _) | (with_reducible refine Kd.C_drew ?_)));(case aB=>exact (by repeat (first | (with_reducible first | exact HB.out | apply below_alloc | apply pw_below_drewN | apply below_drew1 | refine below_set ?_ GE157.out | refine below_set ?_ GE158.out) | exact HB.out)));(case aF=>exact (fun k_ hk=>⟨Kd.fresh' (Kd.R_lt (by (with_reducible repeat (first | apply Kd.R_alloc | apply Kd.R_drewN | apply Kd.R_drew));exact HO_8.out)) k_ hk, Kd.fresh' (Kd.R_lt (by (with_reducible repeat (first | apply Kd.R_alloc | apply Kd.R_drewN | apply Kd.R_drew));exact HO_10.out)) k_ hk, Kd.fresh' (Kd.R_lt (by (with_reducible repeat (first | apply Kd.R_alloc | apply Kd.R_drewN | apply Kd.R_drew));exact HO189.out)) k_ hk⟩));(case aO=>exact (by (with_reducible repeat (first | apply Kd.R_alloc | apply Kd.R_drewN | apply Kd.R_drew));exact Kd.R_mono HO_11.out (fun _ hk=>⟨hk.1.1, ⟨hk.1.2, hk.2⟩⟩)));(case aS=>exact (below_size (by repeat (first | (with_reducible first | exact HB.out | apply below_alloc | apply pw_below_drewN | apply below_drew1 | refine below_set ?_ GE157.out | refine below_set ?_ GE158.out) | exact HB.out))));(case aL=>have:=LMc55.out;omega);intro v191 w64 ho hb hg hat;rw [← Ny190.out] at ho;have n0_:=Aside0.mk (Kd.R_after (ok:=(fun k_=>some k_ ≠ (u10 : Value).ownBlock ∧ some k_ ≠ (.slice Ao65 y187.length co65 : Value).ownBlock)) (by (with_reducible repeat (first | apply Kd.R_alloc | apply Kd.R_drewN | apply Kd.R_drew));exact Kd.R_mono HO_8.out (fun _ hk=>⟨⟨hk.1.1, hk.2⟩, hk.1.2⟩)) hg hat);have n1_:=Aside0.mk (Kd.R_after (ok:=(fun k_=>some k_ ≠ (.slice (some ad184) t161.length co61 : Value).ownBlock ∧ some k_ ≠ (.slice Ao65 y187.length co65 : Value).ownBlock)) (by (with_reducible repeat (first | apply Kd.R_alloc | apply Kd.R_drewN | apply Kd.R_drew));exact Kd.R_mono HO_10.out (fun _ hk=>⟨⟨hk.1.1, hk.2⟩, hk.1.2⟩)) hg hat);have n2_:=Aside0.mk (blk_grown (g:=gb157) (o:=.cells #[.string a0_0, .int .i64 a0_1, .int .i64 a0_2, .int .i64 a0_3, .int .i64 a0_4, .int .i64 a0_5, .bool a0_6] 23 (0, 0)) (by (with_reducible repeat (first | refine blk_drewN ?_ _ | refine blk_drew ?_ | refine blk_alloc ?_ _));exact BK157.out) hg (Kd.R_ne HO_11.out BK157.out (by decide)));have n3_:=Aside0.mk (blk_grown (g:=gb158) (o:=.cells #[.int .i64 a2_0, .slice (some ad181) l2_1.length c2_1] 27 (0, 0)) (by (with_reducible repeat (first | refine blk_drewN ?_ _ | refine blk_drew ?_ | refine blk_alloc ?_ _));exact BK158.out) hg (Kd.R_ne HO_11.out BK158.out (by decide)));have n4_:=Aside0.mk (Kd.R_after (ok:=(fun k_=>some k_ ≠ (.slice (some ad184) t161.length co61 : Value).ownBlock ∧ some k_ ≠ (u10 : Value).ownBlock)) (by (with_reducible repeat (first | apply Kd.R_alloc | apply Kd.R_drewN | apply Kd.R_drew));exact Kd.R_mono HO189.out (fun _ hk=>⟨⟨hk.1.1.2, hk.1.2⟩, hk.2⟩)) hg hat);have n5_:=Aside0.mk (hb);have n6_:=Aside0.mk (ho);clear HO_8 HO_10 BK157 BK158 HO189 HB HO_11;have HO_8:=n0_;have HO_10:=n1_;have BK157:=n2_;have BK158:=n3_;have HO189:=n4_;have HB:=n5_;have HO192:=n6_;clear n0_ n1_ n2_ n3_ n4_ n5_ n6_ ho hb hg hat))
                  go_roundg k4
                  case measure=>have:=HJ3.out;have:=HJ13.out;have:=HK3.out;have:=HK4.out;omega
                  case rel=>exact ⟨(y190), (wrap64 (x15_4 + 1)), (by first | rfl | (simp;done) | (simp [*];done)), H', ⟨by have:=HJ3.out;have:=HJ13.out;have:=HK3.out;have:=HK4.out;omega⟩, ⟨by (with_reducible repeat (first | apply Kd.R_alloc | apply Kd.R_drewN | apply Kd.R_drew));exact Kd.R_mono HO_8.out (fun _ hk=>⟨hk.1.1, hk.2⟩)⟩, ⟨by (with_reducible repeat (first | apply Kd.R_alloc | apply Kd.R_drewN | apply Kd.R_drew));exact Kd.R_mono HO_10.out (fun _ hk=>⟨hk.1.1, hk.2⟩)⟩, ⟨by (with_reducible repeat (first | apply Kd.R_alloc | apply Kd.R_drewN | apply Kd.R_drew));exact Kd.R_mono HO192.out (fun _ hk=>⟨hk.1, hk.2.1⟩)⟩, ⟨by (with_reducible repeat (first | refine blk_drewN ?_ _ | refine blk_drew ?_ | refine blk_alloc ?_ _));exact BK157.out⟩, ⟨by (with_reducible repeat (first | refine blk_drewN ?_ _ | refine blk_drew ?_ | refine blk_alloc ?_ _));exact BK158.out⟩, ⟨by repeat (first | (with_reducible first | exact HB.out | apply below_alloc | apply pw_below_drewN | apply below_drew1 | refine below_set ?_ GE157.out | refine below_set ?_ GE158.out) | exact HB.out)⟩⟩
                 ·rw [if_neg c55] at H
                  exact absurd H (by simp)
                ·rw [if_neg c54] at H
                 have c54b0 : (t186 == 0) = false:=beq_eq_false_iff_ne.mpr c54
                 have c54b1 : (t186 != 0) = true:=bne_iff_ne.mpr c54
                 by_cases c66 : t186 = 3
                 ·rw [if_pos c66] at H
                  have c66b0 : (t186 == 3) = true:=beq_iff_eq.mpr c66
                  have c66b1 : (t186 != 3) = false:=bne_eq_false_iff_eq.mpr c66
                  clear c66
                  replace H:=Option.bind_eq_some_iff.mp H
                  obtain ⟨t193, A670, H⟩:=H
                  replace H : (some t193) = some r:=H
                  have A67:=Aside0.mk A670
                  clear A670
                  obtain rfl:=Option.some.inj H
                  have hnb68:=NB158_157.out
                  have hnc68:=NB157_158.out
                  have hcz69_0 : wr.cell? ⟨gb158, 0, none⟩ = some (.int .i64 a2_0):=(blk_cell BK158.out 0).trans rfl
                  have hcz69_1 : wr.cell? ⟨gb158, 1, none⟩ = some (.slice A2_1 l2_1.length c2_1):=(blk_cell BK158.out 1).trans rfl
                  have hfz69_0:=blk_frozen BK158.out 0
                  have hfz69_1:=blk_frozen BK158.out 1
                  try go_wp2
                  have n0_:=Aside0.mk (Kd.R_drew HO_8.out)
                  have n1_:=Aside0.mk (Kd.R_drew HO_10.out)
                  have n2_:=Aside0.mk (Kd.R_drew HO_11.out)
                  have n3_:=Aside0.mk (blk_drew BK157.out)
                  have n4_:=Aside0.mk (blk_drew BK158.out)
                  have n5_:=Aside0.mk (below_drew1 HB.out)
                  clear HO_8
                  clear HO_10
                  clear HO_11
                  clear BK157
                  clear BK158
                  clear HB
                  have HO_8:=n0_
                  have HO_10:=n1_
                  have HO_11:=n2_
                  have BK157:=n3_
                  have BK158:=n4_
                  have HB:=n5_
                  clear n0_ n1_ n2_ n3_ n4_ n5_
                  have p181 : 0 ≤ (x15_4 : Int):=of_decide_eq_true (by first | (with_reducible assumption) | assumption)
                  have q181 : x15_4 < (l2_1.length : Int):=of_decide_eq_true (by first | (with_reducible assumption) | assumption)
                  obtain ⟨ad181, e181, hx181_0, hx181_1, hx181_2⟩:=at_T43 HR2_1.out x15_4 p181 q181
                  have hw181_2:=hx181_2
                  have hw181_1:=hx181_1
                  have hw181_0:=hx181_0
                  cases e181
                  replace hx181_0:=(HB.out.cell (World.block_lt_of_cell? w _ hx181_0)).trans hx181_0
                  replace hx181_1:=(HB.out.cell (World.block_lt_of_cell? w _ hx181_1)).trans hx181_1
                  replace hx181_2:=(HB.out.cell (World.block_lt_of_cell? w _ hx181_2)).trans hx181_2
                  replace p181:=eq_true p181
                  replace q181:=eq_true q181
                  refine start_ (n:=14) (S:=fun w'=>w'.cell? ⟨gb157, 0, none⟩ = some (.string a0_0) ∧ w'.cell? ⟨gb157, 1, none⟩ = some (.int .i64 a0_1) ∧ w'.cell? ⟨gb157, 2, none⟩ = some (.int .i64 a0_2) ∧ w'.cell? ⟨gb157, 3, none⟩ = some (.int .i64 a0_3) ∧ w'.cell? ⟨gb157, 4, none⟩ = some (.int .i64 a0_4) ∧ w'.cell? ⟨gb157, 5, none⟩ = some (.int .i64 a0_5) ∧ w'.cell? ⟨gb157, 6, none⟩ = some (.bool a0_6) ∧ w'.cell? ⟨gb158, 0, none⟩ = some (.int .i64 a2_0) ∧ w'.cell? ⟨gb158, 1, none⟩ = some (.slice (some ad181) l2_1.length c2_1) ∧ w'.cell? (ad181.add ((x15_4).toNat * 3)) = some (.string ((rd_T43 l2_1 x15_4).f0.f0)) ∧ w'.cell? ⟨(ad181.add ((x15_4).toNat * 3)).block, (ad181.add ((x15_4).toNat * 3)).off + 1, none⟩ = some (.string ((rd_T43 l2_1 x15_4).f0.f1)) ∧ w'.cell? ⟨(ad181.add ((x15_4).toNat * 3)).block, (ad181.add ((x15_4).toNat * 3)).off + 2, none⟩ = some (.int .i64 ((rd_T43 l2_1 x15_4).f1))) (ds:=[]) #[false, false, false, false, false, false, false, false, false, false, false, false, false, false] (by kernel_rfl) rfl rfl ⟨(blk_cell BK157.out 0).trans rfl, (blk_cell BK157.out 1).trans rfl, (blk_cell BK157.out 2).trans rfl, (blk_cell BK157.out 3).trans rfl, (blk_cell BK157.out 4).trans rfl, (blk_cell BK157.out 5).trans rfl, (blk_cell BK157.out 6).trans rfl, (blk_cell BK158.out 0).trans rfl, (blk_cell BK158.out 1).trans rfl, ((HB.out.cell (World.block_lt_of_cell? w _ hw181_0)).trans hw181_0), ((HB.out.cell (World.block_lt_of_cell? w _ hw181_1)).trans hw181_1), ((HB.out.cell (World.block_lt_of_cell? w _ hw181_2)).trans hw181_2)⟩ (fun hHeld=>?_);refine with_tabW contangotop_TopAverage.tab17 contangotop_TopAverage.bits17 (fun HT_ HW_=>?_)
                  generalize wr.drew = w70 at HO_8 HO_10 HO_11 BK157 BK158 HB hx181_0 hx181_1 hx181_2 hHeld ⊢
                  refine pure_ (i:=1) (N:=some 105) (v:=?_) (a':=?_) #[false, true, false, false, false, false, false, false, false, false, false, false, false, false] rfl rfl (any_of HT_.out (by kernel_rfl)) (fun _ _ _ h=>h) (Or.inl ⟨by rfl, ?_⟩) ?_ ?_
                  rotate_left
                  ·intro w'
                   go_simp
                   with_reducible rfl
                  rotate_left
                  ·simp only [Act.put, List.setIfInBounds_toArray, List.set_cons_zero, List.set_cons_succ, i64_w, i32_w]
                   rfl
                  refine pure_ (i:=2) (N:=some 106) (v:=?_) (a':=?_) #[false, true, true, false, false, false, false, false, false, false, false, false, false, false] rfl rfl (any_of HT_.out (by kernel_rfl)) (fun _ _ _ h=>h) (Or.inl ⟨by rfl, ?_⟩) ?_ ?_
                  rotate_left
                  ·intro w'
                   go_simp
                   with_reducible rfl
                  rotate_left
                  ·simp only [Act.put, List.setIfInBounds_toArray, List.set_cons_zero, List.set_cons_succ, i64_w, i32_w]
                   rfl
                  refine pure_ (i:=4) (N:=some 108) (v:=?_) (a':=?_) #[false, true, true, false, true, false, false, false, false, false, false, false, false, false] rfl rfl (any_of HT_.out (by kernel_rfl)) (fun _ _ _ h=>h) (Or.inl ⟨by rfl, ?_⟩) ?_ ?_
                  rotate_left
                  ·intro w'
                   go_simp
                   with_reducible rfl
                  rotate_left
                  ·simp only [Act.put, List.setIfInBounds_toArray, List.set_cons_zero, List.set_cons_succ, i64_w, i32_w]
                   rfl
                  refine take_ (i:=0) (N:=some 104) (v:=?_) (a':=?_) #[true, true, true, false, true, false, false, false, false, false, false, false, false, false] rfl rfl (take_ofW HT_.out HW_.out (by kernel_rfl)) (fun _ _ _ h=>h) (Or.inl ⟨by rfl, ?_⟩) hHeld ?_ ?_
                  rotate_left
                  ·rintro w' ⟨s0, s1, s2, s3, s4, s5, s6, s7, s8, s9, s10, s11⟩
                   go_simp
                   with_reducible rfl
                  rotate_left
                  ·simp only [Act.put, List.setIfInBounds_toArray, List.set_cons_zero, List.set_cons_succ, i64_w, i32_w]
                   rfl
                  refine take_ (i:=3) (N:=some 107) (v:=?_) (a':=?_) #[true, true, true, true, true, false, false, false, false, false, false, false, false, false] rfl rfl (take_ofW HT_.out HW_.out (by kernel_rfl)) (fun _ _ _ h=>h) (Or.inl ⟨by rfl, ?_⟩) hHeld ?_ ?_
                  rotate_left
                  ·rintro w' ⟨s0, s1, s2, s3, s4, s5, s6, s7, s8, s9, s10, s11⟩
                   go_simp
                   with_reducible rfl
                  rotate_left
                  ·simp only [Act.put, List.setIfInBounds_toArray, List.set_cons_zero, List.set_cons_succ, i64_w, i32_w]
                   rfl
                  refine pure_ (i:=5) (N:=some 109) (v:=?_) (a':=?_) #[true, true, true, true, true, true, false, false, false, false, false, false, false, false] rfl rfl (any_of HT_.out (by kernel_rfl)) (fun _ _ _ h=>h) (Or.inl ⟨by rfl, ?_⟩) ?_ ?_
                  rotate_left
                  ·intro w'
                   go_simp
                   with_reducible rfl
                  rotate_left
                  ·simp only [Act.put, List.setIfInBounds_toArray, List.set_cons_zero, List.set_cons_succ, i64_w, i32_w]
                   rfl
                  refine pure_ (i:=6) (N:=some 110) (v:=?_) (a':=?_) #[true, true, true, true, true, true, true, false, false, false, false, false, false, false] rfl rfl (any_of HT_.out (by kernel_rfl)) (fun _ _ _ h=>h) (Or.inl ⟨by rfl, ?_⟩) ?_ ?_
                  rotate_left
                  ·intro w'
                   go_simp
                   with_reducible rfl
                  rotate_left
                  ·simp only [Act.put, List.setIfInBounds_toArray, List.set_cons_zero, List.set_cons_succ, i64_w, i32_w]
                   rfl
                  refine take_ (i:=7) (N:=some 111) (v:=?_) (a':=?_) #[true, true, true, true, true, true, true, true, false, false, false, false, false, false] rfl rfl (take_ofW HT_.out HW_.out (by kernel_rfl)) (fun _ _ _ h=>h) (Or.inl ⟨by rfl, ?_⟩) hHeld ?_ ?_
                  rotate_left
                  ·rintro w' ⟨s0, s1, s2, s3, s4, s5, s6, s7, s8, s9, s10, s11⟩
                   go_simp
                   with_reducible rfl
                  rotate_left
                  ·simp only [Act.put, List.setIfInBounds_toArray, List.set_cons_zero, List.set_cons_succ, i64_w, i32_w]
                   rfl
                  refine one_ (i:=8) (N:=some 112) #[true, true, true, true, true, true, true, true, true, false, false, false, false, false] rfl rfl (one_of HT_.out (by kernel_rfl)) (by decide) (fun K hK=>?_)
                  refine goes_ Try.func7 (by kernel_rfl) rfl #[.agg #[.string a0_0, .int .i64 a0_1, .int .i64 a0_2, .int .i64 a0_3, .int .i64 a0_4, .int .i64 a0_5, .bool a0_6], .int .i64 t160, .int .i64 ((rd_T43 l2_1 x15_4).f1)] (by rfl) rfl rfl (by (try simp only [List.map_toArray, List.map_cons, List.map_nil]);first | done | rfl | (simp only [List.length_drop, List.length_take];rfl)) ?_
                  with_reducible refine (product_Value.calls k4 a0_0 a0_1 a0_2 a0_3 a0_4 a0_5 a0_6 t160 ((rd_T43 l2_1 x15_4).f1) t182 t183 _ A50.out).mono ?_
                  rintro e w71 ⟨rfl, hb⟩
                  refine ⟨_, rfl, ?_⟩
                  have n0_:=Aside0.mk (Kd.R_below (by (with_reducible repeat (first | apply Kd.R_alloc | apply Kd.R_drewN | apply Kd.R_drew));exact HO_8.out) hb)
                  have n1_:=Aside0.mk (Kd.R_below (by (with_reducible repeat (first | apply Kd.R_alloc | apply Kd.R_drewN | apply Kd.R_drew));exact HO_10.out) hb)
                  have n2_:=Aside0.mk (Kd.R_below (by (with_reducible repeat (first | apply Kd.R_alloc | apply Kd.R_drewN | apply Kd.R_drew));exact HO_11.out) hb)
                  have n3_:=Aside0.mk (blk_below (g:=gb157) (o:=.cells #[.string a0_0, .int .i64 a0_1, .int .i64 a0_2, .int .i64 a0_3, .int .i64 a0_4, .int .i64 a0_5, .bool a0_6] 23 (0, 0)) (by (with_reducible repeat (first | refine blk_drewN ?_ _ | refine blk_drew ?_ | refine blk_alloc ?_ _));exact BK157.out) hb)
                  have n4_:=Aside0.mk (blk_below (g:=gb158) (o:=.cells #[.int .i64 a2_0, .slice (some ad181) l2_1.length c2_1] 27 (0, 0)) (by (with_reducible repeat (first | refine blk_drewN ?_ _ | refine blk_drew ?_ | refine blk_alloc ?_ _));exact BK158.out) hb)
                  have n5_:=Aside0.mk (below_step (by repeat (first | (with_reducible first | exact HB.out | apply below_alloc | apply pw_below_drewN | apply below_drew1 | refine below_set ?_ GE157.out | refine below_set ?_ GE158.out) | exact HB.out)) hb)
                  clear HO_8
                  clear HO_10
                  clear HO_11
                  clear BK157
                  clear BK158
                  clear HB
                  have HO_8:=n0_
                  have HO_10:=n1_
                  have HO_11:=n2_
                  have BK157:=n3_
                  have BK158:=n4_
                  have HB:=n5_
                  clear n0_ n1_ n2_ n3_ n4_ n5_
                  (try clear hb)
                  (try clear hb2)
                  (try clear hk)
                  (try clear hi)
                  refine hK.out _ _ ⟨(blk_cell BK157.out 0).trans rfl, (blk_cell BK157.out 1).trans rfl, (blk_cell BK157.out 2).trans rfl, (blk_cell BK157.out 3).trans rfl, (blk_cell BK157.out 4).trans rfl, (blk_cell BK157.out 5).trans rfl, (blk_cell BK157.out 6).trans rfl, (blk_cell BK158.out 0).trans rfl, (blk_cell BK158.out 1).trans rfl, ((HB.out.cell (World.block_lt_of_cell? w _ hw181_0)).trans hw181_0), ((HB.out.cell (World.block_lt_of_cell? w _ hw181_1)).trans hw181_1), ((HB.out.cell (World.block_lt_of_cell? w _ hw181_2)).trans hw181_2)⟩ (fun hHeld=>?_)
                  clear hK K
                  refine norm_ (a':=?_) ?_ ?_
                  rotate_left
                  ·show Act.put _ (some 112) _ = _
                   simp only [Act.put, List.setIfInBounds_toArray, List.set_cons_zero, List.set_cons_succ, i64_w, i32_w]
                   rfl
                  refine pure_ (i:=9) (N:=some 103) (v:=?_) (a':=?_) #[true, true, true, true, true, true, true, true, true, true, false, false, false, false] rfl rfl (any_of HT_.out (by kernel_rfl)) (fun _ _ _ h=>h) (Or.inl ⟨by rfl, ?_⟩) ?_ ?_
                  rotate_left
                  ·intro w'
                   go_simp
                   with_reducible rfl
                  rotate_left
                  ·simp only [Act.put, List.setIfInBounds_toArray, List.set_cons_zero, List.set_cons_succ, i64_w, i32_w]
                   rfl
                  refine pure_ (i:=10) (N:=some 113) (v:=?_) (a':=?_) #[true, true, true, true, true, true, true, true, true, true, true, false, false, false] rfl rfl (any_of HT_.out (by kernel_rfl)) (fun _ _ _ h=>h) (Or.inl ⟨by rfl, ?_⟩) ?_ ?_
                  rotate_left
                  ·intro w'
                   go_simp
                   with_reducible rfl
                  rotate_left
                  ·simp only [Act.put, List.setIfInBounds_toArray, List.set_cons_zero, List.set_cons_succ, i64_w, i32_w]
                   rfl
                  refine pure_ (i:=11) (N:=some 114) (v:=?_) (a':=?_) #[true, true, true, true, true, true, true, true, true, true, true, true, false, false] rfl rfl (any_of HT_.out (by kernel_rfl)) (fun _ _ _ h=>h) (Or.inl ⟨by rfl, ?_⟩) ?_ ?_
                  rotate_left
                  ·intro w'
                   go_simp
                   with_reducible rfl
                  rotate_left
                  ·simp only [Act.put, List.setIfInBounds_toArray, List.set_cons_zero, List.set_cons_succ, i64_w, i32_w]
                   rfl
                  refine pure_ (i:=12) (N:=some 16) (v:=?_) (a':=?_) #[true, true, true, true, true, true, true, true, true, true, true, true, true, false] rfl rfl (any_of HT_.out (by kernel_rfl)) (fun _ _ _ h=>h) (Or.inl ⟨by rfl, ?_⟩) ?_ ?_
                  rotate_left
                  ·intro w'
                   go_simp
                   with_reducible rfl
                  rotate_left
                  ·simp only [Act.put, List.setIfInBounds_toArray, List.set_cons_zero, List.set_cons_succ, i64_w, i32_w]
                   rfl
                  refine pure_ (i:=13) (N:=some 17) (v:=?_) (a':=?_) #[true, true, true, true, true, true, true, true, true, true, true, true, true, true] rfl rfl (any_of HT_.out (by kernel_rfl)) (fun _ _ _ h=>h) (Or.inl ⟨by rfl, ?_⟩) ?_ ?_
                  rotate_left
                  ·intro w'
                   go_simp
                   with_reducible rfl
                  rotate_left
                  ·simp only [Act.put, List.setIfInBounds_toArray, List.set_cons_zero, List.set_cons_succ, i64_w, i32_w]
                   rfl
                  refine done_ (done_of HT_.out (by kernel_rfl)) ?_
                  try go_wp2
                  have n0_:=Aside0.mk (Kd.R_drew HO_8.out)
                  have n1_:=Aside0.mk (Kd.R_drew HO_10.out)
                  have n2_:=Aside0.mk (Kd.R_drew HO_11.out)
                  have n3_:=Aside0.mk (blk_drew BK157.out)
                  have n4_:=Aside0.mk (blk_drew BK158.out)
                  have n5_:=Aside0.mk (below_drew1 HB.out)
                  clear HO_8
                  clear HO_10
                  clear HO_11
                  clear BK157
                  clear BK158
                  clear HB
                  have HO_8:=n0_
                  have HO_10:=n1_
                  have HO_11:=n2_
                  have BK157:=n3_
                  have BK158:=n4_
                  have HB:=n5_
                  clear n0_ n1_ n2_ n3_ n4_ n5_
                  obtain ⟨Ao73, co73, eo73⟩:=Kd.R_slice HO_8.out
                  (first | subst eo73 | (injection eo73 with f1_ f2_ f3_;have f4_:=f1_.symm;have f5_:=f3_.symm;clear f1_ f2_ f3_;subst f4_;subst f5_))
                  have p184 : 0 ≤ (x15_4 : Int):=of_decide_eq_true (by first | (with_reducible assumption) | assumption)
                  have q184 : x15_4 < (t161.length : Int):=of_decide_eq_true (by first | (with_reducible assumption) | assumption)
                  obtain ⟨ad184, e184, hx184_0⟩:=Kd.at_int (Kd.R_reads' HO_8.out).2.2 x15_4 p184 q184
                  cases e184
                  replace p184:=eq_true p184
                  replace q184:=eq_true q184
                  refine start_ (n:=12) (S:=fun w'=>w'.cell? ⟨gb157, 0, none⟩ = some (.string a0_0) ∧ w'.cell? ⟨gb157, 1, none⟩ = some (.int .i64 a0_1) ∧ w'.cell? ⟨gb157, 2, none⟩ = some (.int .i64 a0_2) ∧ w'.cell? ⟨gb157, 3, none⟩ = some (.int .i64 a0_3) ∧ w'.cell? ⟨gb157, 4, none⟩ = some (.int .i64 a0_4) ∧ w'.cell? ⟨gb157, 5, none⟩ = some (.int .i64 a0_5) ∧ w'.cell? ⟨gb157, 6, none⟩ = some (.bool a0_6) ∧ w'.cell? (ad184.add (x15_4).toNat) = some (.int .i64 (rd t161 x15_4))) (ds:=[]) #[false, false, false, false, false, false, false, false, false, false, false, false] (by kernel_rfl) rfl rfl ⟨(blk_cell BK157.out 0).trans rfl, (blk_cell BK157.out 1).trans rfl, (blk_cell BK157.out 2).trans rfl, (blk_cell BK157.out 3).trans rfl, (blk_cell BK157.out 4).trans rfl, (blk_cell BK157.out 5).trans rfl, (blk_cell BK157.out 6).trans rfl, hx184_0⟩ (fun hHeld=>?_);refine with_tabW contangotop_TopAverage.tab18 contangotop_TopAverage.bits18 (fun HT_ HW_=>?_)
                  generalize w71.drew = w72 at HO_8 HO_10 HO_11 BK157 BK158 HB hx184_0 hHeld ⊢
                  refine pure_ (i:=0) (N:=some 116) (v:=?_) (a':=?_) #[true, false, false, false, false, false, false, false, false, false, false, false] rfl rfl (any_of HT_.out (by kernel_rfl)) (fun _ _ _ h=>h) (Or.inl ⟨by rfl, ?_⟩) ?_ ?_
                  rotate_left
                  ·intro w'
                   go_simp
                   with_reducible rfl
                  rotate_left
                  ·simp only [Act.put, List.setIfInBounds_toArray, List.set_cons_zero, List.set_cons_succ, i64_w, i32_w]
                   rfl
                  refine pure_ (i:=1) (N:=some 117) (v:=?_) (a':=?_) #[true, true, false, false, false, false, false, false, false, false, false, false] rfl rfl (any_of HT_.out (by kernel_rfl)) (fun _ _ _ h=>h) (Or.inl ⟨by rfl, ?_⟩) ?_ ?_
                  rotate_left
                  ·intro w'
                   go_simp
                   with_reducible rfl
                  rotate_left
                  ·simp only [Act.put, List.setIfInBounds_toArray, List.set_cons_zero, List.set_cons_succ, i64_w, i32_w]
                   rfl
                  refine pure_ (i:=2) (N:=some 118) (v:=?_) (a':=?_) #[true, true, true, false, false, false, false, false, false, false, false, false] rfl rfl (any_of HT_.out (by kernel_rfl)) (fun _ _ _ h=>h) (Or.inl ⟨by rfl, ?_⟩) ?_ ?_
                  rotate_left
                  ·intro w'
                   go_simp
                   with_reducible rfl
                  rotate_left
                  ·simp only [Act.put, List.setIfInBounds_toArray, List.set_cons_zero, List.set_cons_succ, i64_w, i32_w]
                   rfl
                  refine pure_ (i:=4) (N:=some 120) (v:=?_) (a':=?_) #[true, true, true, false, true, false, false, false, false, false, false, false] rfl rfl (any_of HT_.out (by kernel_rfl)) (fun _ _ _ h=>h) (Or.inl ⟨by rfl, ?_⟩) ?_ ?_
                  rotate_left
                  ·intro w'
                   go_simp
                   with_reducible rfl
                  rotate_left
                  ·simp only [Act.put, List.setIfInBounds_toArray, List.set_cons_zero, List.set_cons_succ, i64_w, i32_w]
                   rfl
                  refine take_ (i:=3) (N:=some 119) (v:=?_) (a':=?_) #[true, true, true, true, true, false, false, false, false, false, false, false] rfl rfl (take_ofW HT_.out HW_.out (by kernel_rfl)) (fun _ _ _ h=>h) (Or.inl ⟨by rfl, ?_⟩) hHeld ?_ ?_
                  rotate_left
                  ·rintro w' ⟨s0, s1, s2, s3, s4, s5, s6, s7⟩
                   go_simp
                   with_reducible rfl
                  rotate_left
                  ·simp only [Act.put, List.setIfInBounds_toArray, List.set_cons_zero, List.set_cons_succ, i64_w, i32_w]
                   rfl
                  refine take_ (i:=5) (N:=some 121) (v:=?_) (a':=?_) #[true, true, true, true, true, true, false, false, false, false, false, false] rfl rfl (take_ofW HT_.out HW_.out (by kernel_rfl)) (fun _ _ _ h=>h) (Or.inl ⟨by rfl, ?_⟩) hHeld ?_ ?_
                  rotate_left
                  ·rintro w' ⟨s0, s1, s2, s3, s4, s5, s6, s7⟩
                   go_simp
                   with_reducible rfl
                  rotate_left
                  ·simp only [Act.put, List.setIfInBounds_toArray, List.set_cons_zero, List.set_cons_succ, i64_w, i32_w]
                   rfl
                  refine one_ (i:=6) (N:=some 122) #[true, true, true, true, true, true, true, false, false, false, false, false] rfl rfl (one_of HT_.out (by kernel_rfl)) (by decide) (fun K hK=>?_)
                  refine goes_ Try.func8 (by kernel_rfl) rfl #[.int .i64 (rd t161 x15_4), .int .i64 a0_2] (by rfl) rfl rfl (by (try simp only [List.map_toArray, List.map_cons, List.map_nil]);first | done | rfl | (simp only [List.length_drop, List.length_take];rfl)) ?_
                  with_reducible refine (cents_Mul.calls k4 (rd t161 x15_4) a0_2 t185 t186 _ A52.out).mono ?_
                  rintro e w' ⟨rfl, ⟨nd, rfl⟩⟩
                  refine ⟨_, rfl, ?_⟩
                  refine hK.out _ _ ⟨(blk_cell BK157.out 0).trans rfl, (blk_cell BK157.out 1).trans rfl, (blk_cell BK157.out 2).trans rfl, (blk_cell BK157.out 3).trans rfl, (blk_cell BK157.out 4).trans rfl, (blk_cell BK157.out 5).trans rfl, (blk_cell BK157.out 6).trans rfl, hHeld.2.2.2.2.2.2.2⟩ (fun hHeld=>?_)
                  clear hK K
                  refine norm_ (a':=?_) ?_ ?_
                  rotate_left
                  ·show Act.put _ (some 122) _ = _
                   simp only [Act.put, List.setIfInBounds_toArray, List.set_cons_zero, List.set_cons_succ, i64_w, i32_w]
                   rfl
                  refine pure_ (i:=7) (N:=some 115) (v:=?_) (a':=?_) #[true, true, true, true, true, true, true, true, false, false, false, false] rfl rfl (any_of HT_.out (by kernel_rfl)) (fun _ _ _ h=>h) (Or.inl ⟨by rfl, ?_⟩) ?_ ?_
                  rotate_left
                  ·intro w'
                   go_simp
                   with_reducible rfl
                  rotate_left
                  ·simp only [Act.put, List.setIfInBounds_toArray, List.set_cons_zero, List.set_cons_succ, i64_w, i32_w]
                   rfl
                  refine pure_ (i:=8) (N:=some 123) (v:=?_) (a':=?_) #[true, true, true, true, true, true, true, true, true, false, false, false] rfl rfl (any_of HT_.out (by kernel_rfl)) (fun _ _ _ h=>h) (Or.inl ⟨by rfl, ?_⟩) ?_ ?_
                  rotate_left
                  ·intro w'
                   go_simp
                   with_reducible rfl
                  rotate_left
                  ·simp only [Act.put, List.setIfInBounds_toArray, List.set_cons_zero, List.set_cons_succ, i64_w, i32_w]
                   rfl
                  refine pure_ (i:=9) (N:=some 124) (v:=?_) (a':=?_) #[true, true, true, true, true, true, true, true, true, true, false, false] rfl rfl (any_of HT_.out (by kernel_rfl)) (fun _ _ _ h=>h) (Or.inl ⟨by rfl, ?_⟩) ?_ ?_
                  rotate_left
                  ·intro w'
                   go_simp
                   with_reducible rfl
                  rotate_left
                  ·simp only [Act.put, List.setIfInBounds_toArray, List.set_cons_zero, List.set_cons_succ, i64_w, i32_w]
                   rfl
                  refine pure_ (i:=10) (N:=some 18) (v:=?_) (a':=?_) #[true, true, true, true, true, true, true, true, true, true, true, false] rfl rfl (any_of HT_.out (by kernel_rfl)) (fun _ _ _ h=>h) (Or.inl ⟨by rfl, ?_⟩) ?_ ?_
                  rotate_left
                  ·intro w'
                   go_simp
                   with_reducible rfl
                  rotate_left
                  ·simp only [Act.put, List.setIfInBounds_toArray, List.set_cons_zero, List.set_cons_succ, i64_w, i32_w]
                   rfl
                  refine pure_ (i:=11) (N:=some 19) (v:=?_) (a':=?_) #[true, true, true, true, true, true, true, true, true, true, true, true] rfl rfl (any_of HT_.out (by kernel_rfl)) (fun _ _ _ h=>h) (Or.inl ⟨by rfl, ?_⟩) ?_ ?_
                  rotate_left
                  ·intro w'
                   go_simp
                   with_reducible rfl
                  rotate_left
                  ·simp only [Act.put, List.setIfInBounds_toArray, List.set_cons_zero, List.set_cons_succ, i64_w, i32_w]
                   rfl
                  refine done_ (done_of HT_.out (by kernel_rfl)) ?_
                  try go_wp2_with (first | (go_at_call 4;(with_reducible refine (contangotop_goes10.calls k4  t193 _ A67.out).mono ?_);rintro e w74 ⟨rfl, hb⟩;have n0_:=Aside0.mk (Kd.R_below (by (with_reducible repeat (first | apply Kd.R_alloc | apply Kd.R_drewN | apply Kd.R_drew));exact HO_8.out) hb);have n1_:=Aside0.mk (Kd.R_below (by (with_reducible repeat (first | apply Kd.R_alloc | apply Kd.R_drewN | apply Kd.R_drew));exact HO_10.out) hb);have n2_:=Aside0.mk (Kd.R_below (by (with_reducible repeat (first | apply Kd.R_alloc | apply Kd.R_drewN | apply Kd.R_drew));exact HO_11.out) hb);have n3_:=Aside0.mk (blk_below (g:=gb157) (o:=.cells #[.string a0_0, .int .i64 a0_1, .int .i64 a0_2, .int .i64 a0_3, .int .i64 a0_4, .int .i64 a0_5, .bool a0_6] 23 (0, 0)) (by (with_reducible repeat (first | refine blk_drewN ?_ _ | refine blk_drew ?_ | refine blk_alloc ?_ _));exact BK157.out) hb);have n4_:=Aside0.mk (blk_below (g:=gb158) (o:=.cells #[.int .i64 a2_0, .slice (some ad181) l2_1.length c2_1] 27 (0, 0)) (by (with_reducible repeat (first | refine blk_drewN ?_ _ | refine blk_drew ?_ | refine blk_alloc ?_ _));exact BK158.out) hb);have n5_:=Aside0.mk (below_step (by repeat (first | (with_reducible first | exact HB.out | apply below_alloc | apply pw_below_drewN | apply below_drew1 | refine below_set ?_ GE157.out | refine below_set ?_ GE158.out) | exact HB.out)) hb);clear HO_8 HO_10 HO_11 BK157 BK158 HB;have HO_8:=n0_;have HO_10:=n1_;have HO_11:=n2_;have BK157:=n3_;have BK158:=n4_;have HB:=n5_;clear n0_ n1_ n2_ n3_ n4_ n5_;(try clear hb);(try clear hb2);(try clear hk);(try clear hi)))
                  go_ret
                  exact ⟨by first | rfl | (simp [errW_none, errW_some] <;> rfl) | (simp [*, errW_none, errW_some] <;> rfl), by repeat (first | (with_reducible first | exact HB.out | apply below_alloc | apply pw_below_drewN | apply below_drew1 | refine below_set ?_ GE157.out | refine below_set ?_ GE158.out) | exact HB.out)⟩
                 ·rw [if_neg c66] at H
                  exact absurd H (by simp)
               ·rw [if_neg c53] at H
                exact absurd H (by simp)
              ·rw [if_neg c51] at H
               exact absurd H (by simp)
             ·rw [if_neg c49] at H
              exact absurd H (by simp)
            ·rw [if_neg c48] at H
             have c48b0 : decide (x15_4 < (l2_1.length : Int)) = false:=decide_eq_false c48
             clear c48
             replace H:=Option.bind_eq_some_iff.mp H
             obtain ⟨⟨t176, t177⟩, A750, H⟩:=H
             replace H : ((cents_Sum.f k4 x11_4).bind fun bt178=>(if t177 = bt178.2 then (if t176 = bt178.1 then ((contangotop_goes10.f k4).bind fun t180=>(some t180)) else (none)) else (none))) = some r:=H
             have A75:=Aside0.mk A750
             clear A750
             replace H:=Option.bind_eq_some_iff.mp H
             obtain ⟨⟨t178, t179⟩, A760, H⟩:=H
             replace H : (if t177 = t179 then (if t176 = t178 then ((contangotop_goes10.f k4).bind fun t180=>(some t180)) else (none)) else (none)) = some r:=H
             have A76:=Aside0.mk A760
             clear A760
             by_cases c77 : t177 = t179
             ·rw [if_pos c77] at H
              have c77b0 : (t177 == t179) = true:=beq_iff_eq.mpr c77
              have c77b1 : (t177 != t179) = false:=bne_eq_false_iff_eq.mpr c77
              clear c77
              by_cases c78 : t176 = t178
              ·rw [if_pos c78] at H
               have c78b0 : (t176 == t178) = true:=beq_iff_eq.mpr c78
               have c78b1 : (t176 != t178) = false:=bne_eq_false_iff_eq.mpr c78
               clear c78
               replace H:=Option.bind_eq_some_iff.mp H
               obtain ⟨t180, A790, H⟩:=H
               replace H : (some t180) = some r:=H
               have A79:=Aside0.mk A790
               clear A790
               obtain rfl:=Option.some.inj H
               have hnb80:=NB158_157.out
               have hnc80:=NB157_158.out
               have hcz81_0 : wr.cell? ⟨gb158, 0, none⟩ = some (.int .i64 a2_0):=(blk_cell BK158.out 0).trans rfl
               have hcz81_1 : wr.cell? ⟨gb158, 1, none⟩ = some (.slice A2_1 l2_1.length c2_1):=(blk_cell BK158.out 1).trans rfl
               have hfz81_0:=blk_frozen BK158.out 0
               have hfz81_1:=blk_frozen BK158.out 1
               obtain ⟨Ao82, co82, eo82⟩:=Kd.R_slice HO_10.out
               subst eo82
               go_wp2_with (first | ((with_reducible refine gate_callee (f:=9) rfl ?_);refine goesL_ (some 141) rfl rfl Try.func9 (by kernel_rfl) rfl #[.slice Ao82 x10_3.length co82] rfl (by (try simp only [List.map_toArray, List.map_cons, List.map_nil]);first | done | rfl | (simp only [List.length_drop, List.length_take];rfl)) ?_;(with_reducible refine (cents_Sum.calls k4 _ _ x10_3 t176 t177 _ ?side1 ?side2 A75.out).mono ?_);(case side1=>repeat (first | exact (Kd.R_reads' HO_10.out).2.2 | (with_reducible refine Kd.C_alloc ?_ _) | (with_reducible refine Kd.C_drewN ?_ _) | (with_reducible refine Kd.C_drew ?_)));(case side2=>exact (Kd.R_reads' HO_10.out).2.1);rintro e w' ⟨rfl, ⟨nd, rfl⟩⟩;refine ⟨_, rfl, ?_⟩;obtain ⟨Ao83, co83, eo83⟩:=Kd.R_slice HO_11.out;subst eo83) | ((with_reducible refine gate_callee (f:=9) rfl ?_);refine goesL_ (some 146) rfl rfl Try.func9 (by kernel_rfl) rfl #[.slice Ao83 x11_4.length co83] rfl (by (try simp only [List.map_toArray, List.map_cons, List.map_nil]);first | done | rfl | (simp only [List.length_drop, List.length_take];rfl)) ?_;(with_reducible refine (cents_Sum.calls k4 _ _ x11_4 t178 t179 _ ?side1 ?side2 A76.out).mono ?_);(case side1=>repeat (first | exact (Kd.R_reads' HO_11.out).2.2 | (with_reducible refine Kd.C_alloc ?_ _) | (with_reducible refine Kd.C_drewN ?_ _) | (with_reducible refine Kd.C_drew ?_)));(case side2=>exact (Kd.R_reads' HO_11.out).2.1);rintro e w' ⟨rfl, ⟨nd, rfl⟩⟩;refine ⟨_, rfl, ?_⟩) | (go_at_call 4;(with_reducible refine (contangotop_goes10.calls k4  t180 _ A79.out).mono ?_);rintro e w84 ⟨rfl, hb⟩;have n0_:=Aside0.mk (Kd.R_below (by (with_reducible repeat (first | apply Kd.R_alloc | apply Kd.R_drewN | apply Kd.R_drew));exact HO_8.out) hb);have n1_:=Aside0.mk (Kd.R_below (by (with_reducible repeat (first | apply Kd.R_alloc | apply Kd.R_drewN | apply Kd.R_drew));exact HO_10.out) hb);have n2_:=Aside0.mk (Kd.R_below (by (with_reducible repeat (first | apply Kd.R_alloc | apply Kd.R_drewN | apply Kd.R_drew));exact HO_11.out) hb);have n3_:=Aside0.mk (blk_below (g:=gb157) (o:=.cells #[.string a0_0, .int .i64 a0_1, .int .i64 a0_2, .int .i64 a0_3, .int .i64 a0_4, .int .i64 a0_5, .bool a0_6] 23 (0, 0)) (by (with_reducible repeat (first | refine blk_drewN ?_ _ | refine blk_drew ?_ | refine blk_alloc ?_ _));exact BK157.out) hb);have n4_:=Aside0.mk (blk_below (g:=gb158) (o:=.cells #[.int .i64 a2_0, .slice A2_1 l2_1.length c2_1] 27 (0, 0)) (by (with_reducible repeat (first | refine blk_drewN ?_ _ | refine blk_drew ?_ | refine blk_alloc ?_ _));exact BK158.out) hb);have n5_:=Aside0.mk (below_step (by repeat (first | (with_reducible first | exact HB.out | apply below_alloc | apply pw_below_drewN | apply below_drew1 | refine below_set ?_ GE157.out | refine below_set ?_ GE158.out) | exact HB.out)) hb);clear HO_8 HO_10 HO_11 BK157 BK158 HB;have HO_8:=n0_;have HO_10:=n1_;have HO_11:=n2_;have BK157:=n3_;have BK158:=n4_;have HB:=n5_;clear n0_ n1_ n2_ n3_ n4_ n5_;(try clear hb);(try clear hb2);(try clear hk);(try clear hi)))
               go_ret
               exact ⟨by first | rfl | (simp [errW_none, errW_some] <;> rfl) | (simp [*, errW_none, errW_some] <;> rfl), by repeat (first | (with_reducible first | exact HB.out | apply below_alloc | apply pw_below_drewN | apply below_drew1 | refine below_set ?_ GE157.out | refine below_set ?_ GE158.out) | exact HB.out)⟩
              ·rw [if_neg c78] at H
               exact absurd H (by simp)
             ·rw [if_neg c77] at H
              exact absurd H (by simp)

end Go.Proofs.Ytlcadahihcefnaa.PTopAverage
