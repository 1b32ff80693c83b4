/- Laid for this claim by a program of this session's (wip/mkprint.py, wip/ext.py); not trusted: Lean checks it. -/
import Derived.Test.YtlkdilfheplmhaaPTopLossesx0
import Derived.Test.YtlkdilfheplmhaaPTopLossesx2
import Derived.Test.YtlkdilfheplmhaaPTopLossesx7
import Derived.Test.YtlkdilfheplmhaaPTopLossesx11
import Derived.Test.YtlkdilfheplmhaaPTopLossesx12
namespace Go.Proofs.Ytlkdilfheplmhaa.PTopLosses
open Go.RowKit Go.Proofs.YtlkdilfheplmhaaW.PrintWords Go.Proofs.YtlkdilfheplmhaaW.PrintLast Go.Proofs.YtlkdilfheplmhaaW.PrintMore
attribute [local go_sem] max2_int min2_int max_two min_two max_three min_three max_four min_four   -- for this text's walks alone
set_option linter.unusedVariables false
set_option linter.unusedSimpArgs false

/-! ### contangotop_TopLosses: function 3 -/
mutual
def contangotop_TopLosses.j0 : Nat → List (S33) → Int → Int → Bool → Option (Bool)
 | 0, _, _, _, _=>none
 | k + 1, x0, x1, x2, x28=>if x28 = true then ((contangotop_goes24.f k).bind fun t241=>(some t241)) else ((waterfall_Absorb.f k (wrap64 (Int.tmod (IntKind.u64.wrap (x1)) 576460752303423488)) x0).bind fun bt242=>((waterfall_Left.f k x0 bt242.1).bind fun bt247=>((waterfall_Absorb.f k (wrap64 (Int.tmod (IntKind.u64.wrap (x2)) 576460752303423488)) bt247.1).bind fun bt251=>((waterfall_Absorb.f k (wrap64 ((wrap64 (Int.tmod (IntKind.u64.wrap (x1)) 576460752303423488)) + (wrap64 (Int.tmod (IntKind.u64.wrap (x2)) 576460752303423488)))) x0).bind fun bt256=>(if bt242.2.2 = 0 then (if bt247.2 = 0 then (if bt251.2.2 = 0 then (if bt256.2.2 = 0 then (if (bt242.1.length : Int) = (x0.length : Int) then (if (bt251.1.length : Int) = (bt247.1.length : Int) then (if (bt256.1.length : Int) = (x0.length : Int) then (contangotop_TopLosses.j1 k x0 bt242.1 bt247.1 bt251.1 bt256.1 ((wrap64 (bt242.2.1 + bt251.2.1)) != bt256.2.1)) else (contangotop_TopLosses.j1 k x0 bt242.1 bt247.1 bt251.1 bt256.1 true)) else (contangotop_TopLosses.j1 k x0 bt242.1 bt247.1 bt251.1 bt256.1 true)) else (contangotop_TopLosses.j1 k x0 bt242.1 bt247.1 bt251.1 bt256.1 true)) else (contangotop_TopLosses.j1 k x0 bt242.1 bt247.1 bt251.1 bt256.1 true)) else (contangotop_TopLosses.j1 k x0 bt242.1 bt247.1 bt251.1 bt256.1 true)) else (contangotop_TopLosses.j1 k x0 bt242.1 bt247.1 bt251.1 bt256.1 true)) else (contangotop_TopLosses.j1 k x0 bt242.1 bt247.1 bt251.1 bt256.1 true))))))
def contangotop_TopLosses.j1 : Nat → List (S33) → List Int → List (S33) → List Int → List Int → Bool → Option (Bool)
 | 0, _, _, _, _, _, _=>none
 | k + 1, x0, x7, x10, x12, x15, x108=>if x108 = true then (none) else (contangotop_TopLosses.l0 k x0 x7 x10 x12 x15 0 (x0.length : Int) 0)
def contangotop_TopLosses.l0 : Nat → List (S33) → List Int → List (S33) → List Int → List Int → Int → Int → Int → Option (Bool)
 | 0, _, _, _, _, _, _, _, _=>none
 | k + 1, x0, x7, x10, x12, x15, x18, x110, x111=>if x111 < x110 then (if 0 ≤ x111 then (if x111 < (x7.length : Int) then (if x18 < (x10.length : Int) then (if 0 ≤ x18 then (if x111 < (x0.length : Int) then (if ((rd_T33 x10 x18).f0) = ((rd_T33 x0 x111).f0) then (if ((rd_T33 x10 x18).f1) = ((rd_T33 x0 x111).f1) then (contangotop_TopLosses.j3 k x0 x7 x10 x12 x15 x18 x111 (rd x7 x111) x110 x111 (((rd_T33 x10 x18).f2).toList == ((rd_T33 x0 x111).f2).toList)) else (contangotop_TopLosses.j3 k x0 x7 x10 x12 x15 x18 x111 (rd x7 x111) x110 x111 false)) else (contangotop_TopLosses.j3 k x0 x7 x10 x12 x15 x18 x111 (rd x7 x111) x110 x111 false)) else (none)) else (none)) else (contangotop_TopLosses.j3 k x0 x7 x10 x12 x15 x18 x111 (rd x7 x111) x110 x111 false)) else (none)) else (none)) else (if x18 = (x10.length : Int) then ((contangotop_goes24.f k).bind fun t261=>(some t261)) else (none))
def contangotop_TopLosses.j3 : Nat → List (S33) → List Int → List (S33) → List Int → List Int → Int → Int → Int → Int → Int → Bool → Option (Bool)
 | 0, _, _, _, _, _, _, _, _, _, _, _=>none
 | k + 1, x0, x7, x10, x12, x15, x18, x19, x20, x110, x111, x160=>if x160 = true then (if 0 ≤ x18 then (if x18 < (x10.length : Int) then (if 0 ≤ x19 then (if x19 < (x0.length : Int) then (if ((rd_T33 x10 x18).f3) = (wrap64 (((rd_T33 x0 x19).f3) - x20)) then (if ((rd_T33 x10 x18).f3) < 1 then (none) else (if x18 < (x12.length : Int) then (contangotop_TopLosses.j4 k x0 x7 x10 x12 x15 (wrap64 (x18 + 1)) x19 (wrap64 (x20 + (rd x12 x18))) x110 x111) else (none))) else (none)) else (none)) else (none)) else (none)) else (none)) else (if 0 ≤ x19 then (if x19 < (x0.length : Int) then (if x20 = ((rd_T33 x0 x19).f3) then (contangotop_TopLosses.j4 k x0 x7 x10 x12 x15 x18 x19 x20 x110 x111) else (none)) else (none)) else (none))
def contangotop_TopLosses.j4 : Nat → List (S33) → List Int → List (S33) → List Int → List Int → Int → Int → Int → Int → Int → Option (Bool)
 | 0, _, _, _, _, _, _, _, _, _, _=>none
 | k + 1, x0, x7, x10, x12, x15, x18, x19, x20, x110, x111=>if 0 ≤ x19 then (if x19 < (x0.length : Int) then (if x20 > ((rd_T33 x0 x19).f3) then (none) else (if x20 < 0 then (none) else ((contangotop_turnD.f k x0 x7 ((rd_T33 x0 x19).f0) ((rd_T33 x0 x19).f1)).bind fun t277=>((contangotop_turnD.f k x10 x12 ((rd_T33 x0 x19).f0) ((rd_T33 x0 x19).f1)).bind fun t280=>((contangotop_turnD.f k x0 x15 ((rd_T33 x0 x19).f0) ((rd_T33 x0 x19).f1)).bind fun t283=>(if (wrap64 (t277 + t280)) = t283 then (contangotop_TopLosses.l0 k x0 x7 x10 x12 x15 x18 x110 (wrap64 (x111 + 1))) else (none))))))) else (none)) else (none)
end
def contangotop_TopLosses.f (k : Nat) (l0 : List (S33)) (a1 : Int) (a2 : Int) : Option (Bool):=if (l0.length : Int) > 200 then (contangotop_TopLosses.j0 k l0 a1 a2 true) else ((cr47_Check.f k l0).bind fun t240=>(contangotop_TopLosses.j0 k l0 a1 a2 (t240 != 0)))
theorem contangotop_TopLosses.mono_l : ∀ k, (∀ y0 y1 y2 y3, LeO (contangotop_TopLosses.j0 k y0 y1 y2 y3) (contangotop_TopLosses.j0 (k + 1) y0 y1 y2 y3)) ∧ (∀ y0 y1 y2 y3 y4 y5, LeO (contangotop_TopLosses.j1 k y0 y1 y2 y3 y4 y5) (contangotop_TopLosses.j1 (k + 1) y0 y1 y2 y3 y4 y5)) ∧ (∀ y0 y1 y2 y3 y4 y5 y6 y7, LeO (contangotop_TopLosses.l0 k y0 y1 y2 y3 y4 y5 y6 y7) (contangotop_TopLosses.l0 (k + 1) y0 y1 y2 y3 y4 y5 y6 y7)) ∧ (∀ y0 y1 y2 y3 y4 y5 y6 y7 y8 y9 y10, LeO (contangotop_TopLosses.j3 k y0 y1 y2 y3 y4 y5 y6 y7 y8 y9 y10) (contangotop_TopLosses.j3 (k + 1) y0 y1 y2 y3 y4 y5 y6 y7 y8 y9 y10)) ∧ (∀ y0 y1 y2 y3 y4 y5 y6 y7 y8 y9, LeO (contangotop_TopLosses.j4 k y0 y1 y2 y3 y4 y5 y6 y7 y8 y9) (contangotop_TopLosses.j4 (k + 1) y0 y1 y2 y3 y4 y5 y6 y7 y8 y9))
 | 0=>⟨fun _ _ _ _ r h=>by simp [contangotop_TopLosses.j0] at h, fun _ _ _ _ _ _ r h=>by simp [contangotop_TopLosses.j1] at h, fun _ _ _ _ _ _ _ _ r h=>by simp [contangotop_TopLosses.l0] at h, fun _ _ _ _ _ _ _ _ _ _ _ r h=>by simp [contangotop_TopLosses.j3] at h, fun _ _ _ _ _ _ _ _ _ _ r h=>by simp [contangotop_TopLosses.j4] at h⟩
 | k + 1=>by
  obtain ⟨ih0, ih1, ih2, ih3, ih4⟩:=contangotop_TopLosses.mono_l k
  refine ⟨?_, ?_, ?_, ?_, ?_⟩
  ·intro y0 y1 y2 y3
   unfold contangotop_TopLosses.j0
   repeat' first
   | (with_reducible exact ih0 _ _ _ _)
   | (with_reducible exact ih1 _ _ _ _ _ _)
   | (with_reducible exact ih2 _ _ _ _ _ _ _ _)
   | (with_reducible exact ih3 _ _ _ _ _ _ _ _ _ _ _)
   | (with_reducible exact ih4 _ _ _ _ _ _ _ _ _ _)
   | (with_reducible exact cr47_Check.mono _ _)
   | (with_reducible exact contangotop_goes24.mono _)
   | (with_reducible exact contangotop_turnD.mono _ _ _ _ _)
   | (with_reducible exact waterfall_Absorb.mono _ _ _)
   | (with_reducible exact waterfall_Left.mono _ _ _)
   | (with_reducible exact LeO.refl _)
   | (with_reducible exact LeO.none _)
   | (with_reducible refine LeO.ite ?_ ?_)
   | (with_reducible refine LeO.bind ?_ (fun _=>?_))
   | exact ih0 _ _ _ _
   | exact ih1 _ _ _ _ _ _
   | exact ih2 _ _ _ _ _ _ _ _
   | exact ih3 _ _ _ _ _ _ _ _ _ _ _
   | exact ih4 _ _ _ _ _ _ _ _ _ _
   | exact cr47_Check.mono _ _
   | exact contangotop_goes24.mono _
   | exact contangotop_turnD.mono _ _ _ _ _
   | exact waterfall_Absorb.mono _ _ _
   | exact waterfall_Left.mono _ _ _
   | exact LeO.none _
   | refine LeO.ite ?_ ?_
   | refine LeO.bind ?_ (fun _=>?_)
  ·intro y0 y1 y2 y3 y4 y5
   unfold contangotop_TopLosses.j1
   repeat' first
   | (with_reducible exact ih0 _ _ _ _)
   | (with_reducible exact ih1 _ _ _ _ _ _)
   | (with_reducible exact ih2 _ _ _ _ _ _ _ _)
   | (with_reducible exact ih3 _ _ _ _ _ _ _ _ _ _ _)
   | (with_reducible exact ih4 _ _ _ _ _ _ _ _ _ _)
   | (with_reducible exact cr47_Check.mono _ _)
   | (with_reducible exact contangotop_goes24.mono _)
   | (with_reducible exact contangotop_turnD.mono _ _ _ _ _)
   | (with_reducible exact waterfall_Absorb.mono _ _ _)
   | (with_reducible exact waterfall_Left.mono _ _ _)
   | (with_reducible exact LeO.refl _)
   | (with_reducible exact LeO.none _)
   | (with_reducible refine LeO.ite ?_ ?_)
   | (with_reducible refine LeO.bind ?_ (fun _=>?_))
   | exact ih0 _ _ _ _
   | exact ih1 _ _ _ _ _ _
   | exact ih2 _ _ _ _ _ _ _ _
   | exact ih3 _ _ _ _ _ _ _ _ _ _ _
   | exact ih4 _ _ _ _ _ _ _ _ _ _
   | exact cr47_Check.mono _ _
   | exact contangotop_goes24.mono _
   | exact contangotop_turnD.mono _ _ _ _ _
   | exact waterfall_Absorb.mono _ _ _
   | exact waterfall_Left.mono _ _ _
   | exact LeO.none _
   | refine LeO.ite ?_ ?_
   | refine LeO.bind ?_ (fun _=>?_)
  ·intro y0 y1 y2 y3 y4 y5 y6 y7
   unfold contangotop_TopLosses.l0
   repeat' first
   | (with_reducible exact ih0 _ _ _ _)
   | (with_reducible exact ih1 _ _ _ _ _ _)
   | (with_reducible exact ih2 _ _ _ _ _ _ _ _)
   | (with_reducible exact ih3 _ _ _ _ _ _ _ _ _ _ _)
   | (with_reducible exact ih4 _ _ _ _ _ _ _ _ _ _)
   | (with_reducible exact cr47_Check.mono _ _)
   | (with_reducible exact contangotop_goes24.mono _)
   | (with_reducible exact contangotop_turnD.mono _ _ _ _ _)
   | (with_reducible exact waterfall_Absorb.mono _ _ _)
   | (with_reducible exact waterfall_Left.mono _ _ _)
   | (with_reducible exact LeO.refl _)
   | (with_reducible exact LeO.none _)
   | (with_reducible refine LeO.ite ?_ ?_)
   | (with_reducible refine LeO.bind ?_ (fun _=>?_))
   | exact ih0 _ _ _ _
   | exact ih1 _ _ _ _ _ _
   | exact ih2 _ _ _ _ _ _ _ _
   | exact ih3 _ _ _ _ _ _ _ _ _ _ _
   | exact ih4 _ _ _ _ _ _ _ _ _ _
   | exact cr47_Check.mono _ _
   | exact contangotop_goes24.mono _
   | exact contangotop_turnD.mono _ _ _ _ _
   | exact waterfall_Absorb.mono _ _ _
   | exact waterfall_Left.mono _ _ _
   | exact LeO.none _
   | refine LeO.ite ?_ ?_
   | refine LeO.bind ?_ (fun _=>?_)
  ·intro y0 y1 y2 y3 y4 y5 y6 y7 y8 y9 y10
   unfold contangotop_TopLosses.j3
   repeat' first
   | (with_reducible exact ih0 _ _ _ _)
   | (with_reducible exact ih1 _ _ _ _ _ _)
   | (with_reducible exact ih2 _ _ _ _ _ _ _ _)
   | (with_reducible exact ih3 _ _ _ _ _ _ _ _ _ _ _)
   | (with_reducible exact ih4 _ _ _ _ _ _ _ _ _ _)
   | (with_reducible exact cr47_Check.mono _ _)
   | (with_reducible exact contangotop_goes24.mono _)
   | (with_reducible exact contangotop_turnD.mono _ _ _ _ _)
   | (with_reducible exact waterfall_Absorb.mono _ _ _)
   | (with_reducible exact waterfall_Left.mono _ _ _)
   | (with_reducible exact LeO.refl _)
   | (with_reducible exact LeO.none _)
   | (with_reducible refine LeO.ite ?_ ?_)
   | (with_reducible refine LeO.bind ?_ (fun _=>?_))
   | exact ih0 _ _ _ _
   | exact ih1 _ _ _ _ _ _
   | exact ih2 _ _ _ _ _ _ _ _
   | exact ih3 _ _ _ _ _ _ _ _ _ _ _
   | exact ih4 _ _ _ _ _ _ _ _ _ _
   | exact cr47_Check.mono _ _
   | exact contangotop_goes24.mono _
   | exact contangotop_turnD.mono _ _ _ _ _
   | exact waterfall_Absorb.mono _ _ _
   | exact waterfall_Left.mono _ _ _
   | exact LeO.none _
   | refine LeO.ite ?_ ?_
   | refine LeO.bind ?_ (fun _=>?_)
  ·intro y0 y1 y2 y3 y4 y5 y6 y7 y8 y9
   unfold contangotop_TopLosses.j4
   repeat' first
   | (with_reducible exact ih0 _ _ _ _)
   | (with_reducible exact ih1 _ _ _ _ _ _)
   | (with_reducible exact ih2 _ _ _ _ _ _ _ _)
   | (with_reducible exact ih3 _ _ _ _ _ _ _ _ _ _ _)
   | (with_reducible exact ih4 _ _ _ _ _ _ _ _ _ _)
   | (with_reducible exact cr47_Check.mono _ _)
   | (with_reducible exact contangotop_goes24.mono _)
   | (with_reducible exact contangotop_turnD.mono _ _ _ _ _)
   | (with_reducible exact waterfall_Absorb.mono _ _ _)
   | (with_reducible exact waterfall_Left.mono _ _ _)
   | (with_reducible exact LeO.refl _)
   | (with_reducible exact LeO.none _)
   | (with_reducible refine LeO.ite ?_ ?_)
   | (with_reducible refine LeO.bind ?_ (fun _=>?_))
   | exact ih0 _ _ _ _
   | exact ih1 _ _ _ _ _ _
   | exact ih2 _ _ _ _ _ _ _ _
   | exact ih3 _ _ _ _ _ _ _ _ _ _ _
   | exact ih4 _ _ _ _ _ _ _ _ _ _
   | exact cr47_Check.mono _ _
   | exact contangotop_goes24.mono _
   | exact contangotop_turnD.mono _ _ _ _ _
   | exact waterfall_Absorb.mono _ _ _
   | exact waterfall_Left.mono _ _ _
   | exact LeO.none _
   | refine LeO.ite ?_ ?_
   | refine LeO.bind ?_ (fun _=>?_)
theorem contangotop_TopLosses.mono : ∀ a0 a1 a2 k, LeO (contangotop_TopLosses.f k a0 a1 a2) (contangotop_TopLosses.f (k + 1) a0 a1 a2):=by
 intro a0 a1 a2 k
 obtain ⟨ih0, ih1, ih2, ih3, ih4⟩:=contangotop_TopLosses.mono_l k
 unfold contangotop_TopLosses.f
 repeat' first
   | (with_reducible exact ih0 _ _ _ _)
   | (with_reducible exact ih1 _ _ _ _ _ _)
   | (with_reducible exact ih2 _ _ _ _ _ _ _ _)
   | (with_reducible exact ih3 _ _ _ _ _ _ _ _ _ _ _)
   | (with_reducible exact ih4 _ _ _ _ _ _ _ _ _ _)
   | (with_reducible exact cr47_Check.mono _ _)
   | (with_reducible exact contangotop_goes24.mono _)
   | (with_reducible exact contangotop_turnD.mono _ _ _ _ _)
   | (with_reducible exact waterfall_Absorb.mono _ _ _)
   | (with_reducible exact waterfall_Left.mono _ _ _)
   | (with_reducible exact LeO.refl _)
   | (with_reducible exact LeO.none _)
   | (with_reducible refine LeO.ite ?_ ?_)
   | (with_reducible refine LeO.bind ?_ (fun _=>?_))
   | exact ih0 _ _ _ _
   | exact ih1 _ _ _ _ _ _
   | exact ih2 _ _ _ _ _ _ _ _
   | exact ih3 _ _ _ _ _ _ _ _ _ _ _
   | exact ih4 _ _ _ _ _ _ _ _ _ _
   | exact cr47_Check.mono _ _
   | exact contangotop_goes24.mono _
   | exact contangotop_turnD.mono _ _ _ _ _
   | exact waterfall_Absorb.mono _ _ _
   | exact waterfall_Left.mono _ _ _
   | exact LeO.none _
   | refine LeO.ite ?_ ?_
   | refine LeO.bind ?_ (fun _=>?_)
def contangotop_TopLosses.T15 : Bool × List (List Nat × List Nat):=(true, [([], []), ([], []), ([1], [1]), ([0, 2], [0, 2]), ([3], [3]), ([4], [4]), ([4], [4]), ([5, 6, 4], [4, 5, 6]), ([7, 4], [4, 7]), ([8, 4], [4, 8]), ([4], [4]), ([4], [4]), ([10, 11, 4], [4, 10, 11]), ([12, 4], [4, 12]), ([13, 4], [4, 13]), ([9, 14, 4], [4, 9, 14]), ([4, 15], [4, 15]), ([16, 4], [16]), ([17], [17]), ([17], [17]), ([18, 19, 17], [17, 18, 19]), ([20, 17], [17, 20]), ([21, 17], [17, 21]), ([17], [17]), ([17], [17]), ([23, 24, 17], [17, 23, 24]), ([25, 17], [17, 25]), ([26, 17], [17, 26]), ([22, 27, 17], [17, 22, 27]), ([17, 28], [17, 28]), ([29, 17], [29]), ([30], [30]), ([30], [30]), ([31, 32, 30], [30, 31, 32]), ([33, 30], [30, 33]), ([34, 30], [30, 34]), ([30], [30]), ([30], [30]), ([36, 37, 30], [30, 36, 37]), ([38, 30], [30, 38]), ([39, 30], [30, 39]), ([35, 40, 30], [30, 35, 40]), ([30, 41], [30, 41])])
def contangotop_TopLosses.B15 : List Nat:=[0, 0, 2, 7, 15, 31, 31, 127, 255, 511, 31, 31, 3103, 7199, 15391, 32767, 65535, 131071, 262143, 262143, 1048575, 2097151, 4194303, 262143, 262143, 25427967, 58982399, 126091263, 268435455, 536870911, 1073741823, 2147483647, 2147483647, 8589934591, 17179869183, 34359738367, 2147483647, 2147483647, 208305913855, 483183820799, 1032939634687, 2199023255551, 4398046511103]
theorem contangotop_TopLosses.tab15 : rtab .any (opsOf Try.f3 15) = contangotop_TopLosses.T15:=by kernel_rfl
theorem contangotop_TopLosses.bits15 : waitsOk contangotop_TopLosses.T15.2 contangotop_TopLosses.B15 = true:=by kernel_rfl
def contangotop_TopLosses.T16 : Bool × List (List Nat × List Nat):=(true, [([], []), ([], []), ([0, 1], [0, 1]), ([2], [2]), ([3], [3]), ([], []), ([], []), ([5, 6], [5, 6]), ([7], [7]), ([8], [8]), ([], []), ([9, 10], [9, 10]), ([4, 11], [4, 11]), ([12], [12]), ([13], [13]), ([13], [13]), ([14, 15, 13], [13, 14, 15]), ([16, 13], [13, 16]), ([17, 13], [13, 17]), ([18, 13], [13, 18]), ([13, 19], [13, 19])])
def contangotop_TopLosses.B16 : List Nat:=[0, 0, 3, 7, 15, 0, 0, 96, 224, 480, 0, 2016, 4095, 8191, 16383, 16383, 65535, 131071, 262143, 524287, 1048575]
theorem contangotop_TopLosses.tab16 : rtab .any (opsOf Try.f3 16) = contangotop_TopLosses.T16:=by kernel_rfl
theorem contangotop_TopLosses.bits16 : waitsOk contangotop_TopLosses.T16.2 contangotop_TopLosses.B16 = true:=by kernel_rfl
def contangotop_TopLosses.T22 : Bool × List (List Nat × List Nat):=(true, [([], []), ([], []), ([], []), ([1, 2], [1, 2]), ([3], [3]), ([4], [4]), ([0, 5], [0, 5]), ([6], [6]), ([7], [7]), ([8, 7], [7, 8]), ([7, 9], [7, 9]), ([10, 7], [10]), ([11], [11]), ([11], [11]), ([11], [11]), ([11], [11]), ([14, 15, 11], [11, 14, 15]), ([16, 11], [11, 16]), ([17, 11], [11, 17]), ([11], [11]), ([11], [11]), ([19, 20, 11], [11, 19, 20]), ([21, 11], [11, 21]), ([22, 11], [11, 22]), ([12, 13, 18, 23, 11, 11], [11, 12, 13, 18, 23]), ([11], [11]), ([11], [11]), ([11], [11]), ([11], [11]), ([27, 28, 11], [11, 27, 28]), ([29, 11], [11, 29]), ([30, 11], [11, 30]), ([11], [11]), ([11], [11]), ([32, 33, 11], [11, 32, 33]), ([34, 11], [11, 34]), ([35, 11], [11, 35]), ([25, 26, 31, 36, 24, 11], [11, 25, 26, 31, 36]), ([24, 37, 11], [11, 24, 37]), ([11], [11]), ([11], [11]), ([11], [11]), ([11], [11]), ([41, 42, 11], [11, 41, 42]), ([43, 11], [11, 43]), ([44, 11], [11, 44]), ([11], [11]), ([11], [11]), ([46, 47, 11], [11, 46, 47]), ([48, 11], [11, 48]), ([49, 11], [11, 49]), ([39, 40, 45, 50, 37, 11], [11, 39, 40, 45, 50]), ([38, 51, 11], [11, 38, 51]), ([11, 52], [11, 52])])
def contangotop_TopLosses.B22 : List Nat:=[0, 0, 0, 6, 14, 30, 63, 127, 255, 511, 1023, 2047, 4095, 4095, 4095, 4095, 53247, 118783, 249855, 4095, 4095, 1576959, 3674111, 7868415, 16777215, 4095, 4095, 4095, 4095, 402657279, 939528191, 2013270015, 4095, 4095, 12884905983, 30064775167, 64424513535, 137438953471, 274877906943, 4095, 4095, 4095, 4095, 6597069770751, 15393162792959, 32985348837375, 4095, 4095, 211106232537087, 492581209247743, 1055531162669055, 2251524935778303, 4503599627370495, 9007199254740991]
theorem contangotop_TopLosses.tab22 : rtab .any (opsOf Try.f3 22) = contangotop_TopLosses.T22:=by kernel_rfl
theorem contangotop_TopLosses.bits22 : waitsOk contangotop_TopLosses.T22.2 contangotop_TopLosses.B22 = true:=by kernel_rfl
end Go.Proofs.Ytlkdilfheplmhaa.PTopLosses
