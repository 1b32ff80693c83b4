/- Laid for this claim by a program of this session's (wip/mkprint.py, wip/ext.py); not trusted: Lean checks it. -/
import Derived.Test.YtfogpifjpnonnaaPWaterfallBackx0
import Derived.Test.YtfogpifjpnonnaaPWaterfallBackx4
import Derived.Test.YtfogpifjpnonnaaPWaterfallBackx5
import Derived.Test.YtfogpifjpnonnaaPWaterfallBackx8
import Derived.Test.YtfogpifjpnonnaaPWaterfallBackx9
namespace Go.Proofs.Ytfogpifjpnonnaa.PWaterfallBack
open Go.RowKit Go.Proofs.YtfogpifjpnonnaaW.PrintWords Go.Proofs.YtfogpifjpnonnaaW.PrintLast Go.Proofs.YtfogpifjpnonnaaW.PrintMore
attribute [local go_sem] max2_int min2_int max_two min_two max_three min_three max_four min_four   -- for this text's walks alone
set_option linter.unusedVariables false
set_option linter.unusedSimpArgs false

/-! ### cl47_WaterfallBack: function 6 -/
mutual
def cl47_WaterfallBack.j0 : Nat → Int → Int → List (S37) → List Int → Int → Bool → Option (Bool)
 | 0, _, _, _, _, _, _=>none
 | k + 1, x0, x1, x2, x7, x8, x38=>if x38 = true then ((cl47_goes.f k).bind fun t212=>(some t212)) else ((waterfall_Return.f k (wrap64 (x0 - x8)) x2 x7).bind fun bt213=>(if bt213.2.2 = 0 then (if bt213.2.1 = 0 then ((cr02_Same.f k bt213.1 x7).bind fun t218=>(cl47_WaterfallBack.j1 k x0 x1 x2 x7 x8 (!t218))) else (cl47_WaterfallBack.j1 k x0 x1 x2 x7 x8 true)) else (cl47_WaterfallBack.j1 k x0 x1 x2 x7 x8 true)))
def cl47_WaterfallBack.j1 : Nat → Int → Int → List (S37) → List Int → Int → Bool → Option (Bool)
 | 0, _, _, _, _, _, _=>none
 | k + 1, x0, x1, x2, x7, x8, x61=>if x61 = true then (none) else ((waterfall_Return.f k x1 x2 x7).bind fun bt219=>(if bt219.2.2 = 0 then (if (bt219.1.length : Int) = (x2.length : Int) then (if (x7.length : Int) = (x2.length : Int) then (if bt219.2.1 = (wrap64 (x1 - (mn x1 (wrap64 (x0 - x8))))) then ((cr02_Sum.f k bt219.1).bind fun t224=>(cl47_WaterfallBack.j2 k x2 x7 bt219.1 (t224 != (wrap64 (x1 - bt219.2.1))))) else (cl47_WaterfallBack.j2 k x2 x7 bt219.1 true)) else (cl47_WaterfallBack.j2 k x2 x7 bt219.1 true)) else (cl47_WaterfallBack.j2 k x2 x7 bt219.1 true)) else (cl47_WaterfallBack.j2 k x2 x7 bt219.1 true)))
def cl47_WaterfallBack.j2 : Nat → List (S37) → List Int → List Int → Bool → Option (Bool)
 | 0, _, _, _, _=>none
 | k + 1, x2, x7, x13, x104=>if x104 = true then (none) else (cl47_WaterfallBack.l0 k x2 x7 x13 0)
def cl47_WaterfallBack.l0 : Nat → List (S37) → List Int → List Int → Int → Option (Bool)
 | 0, _, _, _, _=>none
 | k + 1, x2, x7, x13, x16=>if x16 < (x2.length : Int) then (if 0 ≤ x16 then (if x16 < (x13.length : Int) then (if (rd x13 x16) < 0 then (cl47_WaterfallBack.j4 k x2 x7 x13 x16 true) else (if x16 < (x7.length : Int) then (cl47_WaterfallBack.j4 k x2 x7 x13 x16 (decide ((rd x13 x16) > (rd x7 x16)))) else (none))) else (none)) else (none)) else ((cl47_goes.f k).bind fun t225=>(some t225))
def cl47_WaterfallBack.j4 : Nat → List (S37) → List Int → List Int → Int → Bool → Option (Bool)
 | 0, _, _, _, _, _=>none
 | k + 1, x2, x7, x13, x16, x126=>if x126 = true then (none) else (cl47_WaterfallBack.l1 k x2 x7 x13 x16 0)
def cl47_WaterfallBack.l1 : Nat → List (S37) → List Int → List Int → Int → Int → Option (Bool)
 | 0, _, _, _, _, _=>none
 | k + 1, x2, x7, x13, x16, x17=>if x17 < x16 then (if 0 ≤ x16 then (if x16 < (x13.length : Int) then (if x16 < (x7.length : Int) then (if (rd x13 x16) < (rd x7 x16) then (if 0 ≤ x17 then (if x17 < (x13.length : Int) then (if (rd x13 x17) > 0 then (if x17 < (x2.length : Int) then (if x16 < (x2.length : Int) then ((cr47_Turn.f ((rd_T37 x2 x17).f0) ((rd_T37 x2 x17).f1) ((rd_T37 x2 x17).f2) ((rd_T37 x2 x17).f3) ((rd_T37 x2 x16).f0) ((rd_T37 x2 x16).f1) ((rd_T37 x2 x16).f2) ((rd_T37 x2 x16).f3)).bind fun t234=>(if t234 = true then (cl47_WaterfallBack.l1 k x2 x7 x13 x16 (wrap64 (x17 + 1))) else (none))) else (none)) else (none)) else (cl47_WaterfallBack.l1 k x2 x7 x13 x16 (wrap64 (x17 + 1)))) else (none)) else (none)) else (cl47_WaterfallBack.l1 k x2 x7 x13 x16 (wrap64 (x17 + 1)))) else (none)) else (none)) else (none)) else (cl47_WaterfallBack.l0 k x2 x7 x13 (wrap64 (x16 + 1)))
end
def cl47_WaterfallBack.f (k : Nat) (a0 : Int) (a1 : Int) (l2 : List (S37)) : Option (Bool):=if (l2.length : Int) > 100 then ((cl47_goes.f k).bind fun t206=>(some t206)) else ((waterfall_Absorb.f k a0 l2).bind fun bt207=>(if bt207.2.2 = 0 then (if a1 < 0 then (cl47_WaterfallBack.j0 k a0 a1 l2 bt207.1 bt207.2.1 true) else (cl47_WaterfallBack.j0 k a0 a1 l2 bt207.1 bt207.2.1 (decide (a1 > 1152921504606846976)))) else (cl47_WaterfallBack.j0 k a0 a1 l2 bt207.1 bt207.2.1 true)))
theorem cl47_WaterfallBack.mono_l : ∀ k, (∀ y0 y1 y2 y3 y4 y5, LeO (cl47_WaterfallBack.j0 k y0 y1 y2 y3 y4 y5) (cl47_WaterfallBack.j0 (k + 1) y0 y1 y2 y3 y4 y5)) ∧ (∀ y0 y1 y2 y3 y4 y5, LeO (cl47_WaterfallBack.j1 k y0 y1 y2 y3 y4 y5) (cl47_WaterfallBack.j1 (k + 1) y0 y1 y2 y3 y4 y5)) ∧ (∀ y0 y1 y2 y3, LeO (cl47_WaterfallBack.j2 k y0 y1 y2 y3) (cl47_WaterfallBack.j2 (k + 1) y0 y1 y2 y3)) ∧ (∀ y0 y1 y2 y3, LeO (cl47_WaterfallBack.l0 k y0 y1 y2 y3) (cl47_WaterfallBack.l0 (k + 1) y0 y1 y2 y3)) ∧ (∀ y0 y1 y2 y3 y4, LeO (cl47_WaterfallBack.j4 k y0 y1 y2 y3 y4) (cl47_WaterfallBack.j4 (k + 1) y0 y1 y2 y3 y4)) ∧ (∀ y0 y1 y2 y3 y4, LeO (cl47_WaterfallBack.l1 k y0 y1 y2 y3 y4) (cl47_WaterfallBack.l1 (k + 1) y0 y1 y2 y3 y4))
 | 0=>⟨fun _ _ _ _ _ _ r h=>by simp [cl47_WaterfallBack.j0] at h, fun _ _ _ _ _ _ r h=>by simp [cl47_WaterfallBack.j1] at h, fun _ _ _ _ r h=>by simp [cl47_WaterfallBack.j2] at h, fun _ _ _ _ r h=>by simp [cl47_WaterfallBack.l0] at h, fun _ _ _ _ _ r h=>by simp [cl47_WaterfallBack.j4] at h, fun _ _ _ _ _ r h=>by simp [cl47_WaterfallBack.l1] at h⟩
 | k + 1=>by
  obtain ⟨ih0, ih1, ih2, ih3, ih4, ih5⟩:=cl47_WaterfallBack.mono_l k
  refine ⟨?_, ?_, ?_, ?_, ?_, ?_⟩
  ·intro y0 y1 y2 y3 y4 y5
   unfold cl47_WaterfallBack.j0
   repeat' first
   | (with_reducible exact ih0 _ _ _ _ _ _)
   | (with_reducible exact ih1 _ _ _ _ _ _)
   | (with_reducible exact ih2 _ _ _ _)
   | (with_reducible exact ih3 _ _ _ _)
   | (with_reducible exact ih4 _ _ _ _ _)
   | (with_reducible exact ih5 _ _ _ _ _)
   | (with_reducible exact cl47_goes.mono _)
   | (with_reducible exact cr02_Same.mono _ _ _)
   | (with_reducible exact cr02_Sum.mono _ _)
   | (with_reducible exact waterfall_Absorb.mono _ _ _)
   | (with_reducible exact waterfall_Return.mono _ _ _ _)
   | (with_reducible exact LeO.refl _)
   | (with_reducible exact LeO.none _)
   | (with_reducible refine LeO.ite ?_ ?_)
   | (with_reducible refine LeO.bind ?_ (fun _=>?_))
   | exact ih0 _ _ _ _ _ _
   | exact ih1 _ _ _ _ _ _
   | exact ih2 _ _ _ _
   | exact ih3 _ _ _ _
   | exact ih4 _ _ _ _ _
   | exact ih5 _ _ _ _ _
   | exact cl47_goes.mono _
   | exact cr02_Same.mono _ _ _
   | exact cr02_Sum.mono _ _
   | exact waterfall_Absorb.mono _ _ _
   | exact waterfall_Return.mono _ _ _ _
   | exact LeO.none _
   | refine LeO.ite ?_ ?_
   | refine LeO.bind ?_ (fun _=>?_)
  ·intro y0 y1 y2 y3 y4 y5
   unfold cl47_WaterfallBack.j1
   repeat' first
   | (with_reducible exact ih0 _ _ _ _ _ _)
   | (with_reducible exact ih1 _ _ _ _ _ _)
   | (with_reducible exact ih2 _ _ _ _)
   | (with_reducible exact ih3 _ _ _ _)
   | (with_reducible exact ih4 _ _ _ _ _)
   | (with_reducible exact ih5 _ _ _ _ _)
   | (with_reducible exact cl47_goes.mono _)
   | (with_reducible exact cr02_Same.mono _ _ _)
   | (with_reducible exact cr02_Sum.mono _ _)
   | (with_reducible exact waterfall_Absorb.mono _ _ _)
   | (with_reducible exact waterfall_Return.mono _ _ _ _)
   | (with_reducible exact LeO.refl _)
   | (with_reducible exact LeO.none _)
   | (with_reducible refine LeO.ite ?_ ?_)
   | (with_reducible refine LeO.bind ?_ (fun _=>?_))
   | exact ih0 _ _ _ _ _ _
   | exact ih1 _ _ _ _ _ _
   | exact ih2 _ _ _ _
   | exact ih3 _ _ _ _
   | exact ih4 _ _ _ _ _
   | exact ih5 _ _ _ _ _
   | exact cl47_goes.mono _
   | exact cr02_Same.mono _ _ _
   | exact cr02_Sum.mono _ _
   | exact waterfall_Absorb.mono _ _ _
   | exact waterfall_Return.mono _ _ _ _
   | exact LeO.none _
   | refine LeO.ite ?_ ?_
   | refine LeO.bind ?_ (fun _=>?_)
  ·intro y0 y1 y2 y3
   unfold cl47_WaterfallBack.j2
   repeat' first
   | (with_reducible exact ih0 _ _ _ _ _ _)
   | (with_reducible exact ih1 _ _ _ _ _ _)
   | (with_reducible exact ih2 _ _ _ _)
   | (with_reducible exact ih3 _ _ _ _)
   | (with_reducible exact ih4 _ _ _ _ _)
   | (with_reducible exact ih5 _ _ _ _ _)
   | (with_reducible exact cl47_goes.mono _)
   | (with_reducible exact cr02_Same.mono _ _ _)
   | (with_reducible exact cr02_Sum.mono _ _)
   | (with_reducible exact waterfall_Absorb.mono _ _ _)
   | (with_reducible exact waterfall_Return.mono _ _ _ _)
   | (with_reducible exact LeO.refl _)
   | (with_reducible exact LeO.none _)
   | (with_reducible refine LeO.ite ?_ ?_)
   | (with_reducible refine LeO.bind ?_ (fun _=>?_))
   | exact ih0 _ _ _ _ _ _
   | exact ih1 _ _ _ _ _ _
   | exact ih2 _ _ _ _
   | exact ih3 _ _ _ _
   | exact ih4 _ _ _ _ _
   | exact ih5 _ _ _ _ _
   | exact cl47_goes.mono _
   | exact cr02_Same.mono _ _ _
   | exact cr02_Sum.mono _ _
   | exact waterfall_Absorb.mono _ _ _
   | exact waterfall_Return.mono _ _ _ _
   | exact LeO.none _
   | refine LeO.ite ?_ ?_
   | refine LeO.bind ?_ (fun _=>?_)
  ·intro y0 y1 y2 y3
   unfold cl47_WaterfallBack.l0
   repeat' first
   | (with_reducible exact ih0 _ _ _ _ _ _)
   | (with_reducible exact ih1 _ _ _ _ _ _)
   | (with_reducible exact ih2 _ _ _ _)
   | (with_reducible exact ih3 _ _ _ _)
   | (with_reducible exact ih4 _ _ _ _ _)
   | (with_reducible exact ih5 _ _ _ _ _)
   | (with_reducible exact cl47_goes.mono _)
   | (with_reducible exact cr02_Same.mono _ _ _)
   | (with_reducible exact cr02_Sum.mono _ _)
   | (with_reducible exact waterfall_Absorb.mono _ _ _)
   | (with_reducible exact waterfall_Return.mono _ _ _ _)
   | (with_reducible exact LeO.refl _)
   | (with_reducible exact LeO.none _)
   | (with_reducible refine LeO.ite ?_ ?_)
   | (with_reducible refine LeO.bind ?_ (fun _=>?_))
   | exact ih0 _ _ _ _ _ _
   | exact ih1 _ _ _ _ _ _
   | exact ih2 _ _ _ _
   | exact ih3 _ _ _ _
   | exact ih4 _ _ _ _ _
   | exact ih5 _ _ _ _ _
   | exact cl47_goes.mono _
   | exact cr02_Same.mono _ _ _
   | exact cr02_Sum.mono _ _
   | exact waterfall_Absorb.mono _ _ _
   | exact waterfall_Return.mono _ _ _ _
   | exact LeO.none _
   | refine LeO.ite ?_ ?_
   | refine LeO.bind ?_ (fun _=>?_)
  ·intro y0 y1 y2 y3 y4
   unfold cl47_WaterfallBack.j4
   repeat' first
   | (with_reducible exact ih0 _ _ _ _ _ _)
   | (with_reducible exact ih1 _ _ _ _ _ _)
   | (with_reducible exact ih2 _ _ _ _)
   | (with_reducible exact ih3 _ _ _ _)
   | (with_reducible exact ih4 _ _ _ _ _)
   | (with_reducible exact ih5 _ _ _ _ _)
   | (with_reducible exact cl47_goes.mono _)
   | (with_reducible exact cr02_Same.mono _ _ _)
   | (with_reducible exact cr02_Sum.mono _ _)
   | (with_reducible exact waterfall_Absorb.mono _ _ _)
   | (with_reducible exact waterfall_Return.mono _ _ _ _)
   | (with_reducible exact LeO.refl _)
   | (with_reducible exact LeO.none _)
   | (with_reducible refine LeO.ite ?_ ?_)
   | (with_reducible refine LeO.bind ?_ (fun _=>?_))
   | exact ih0 _ _ _ _ _ _
   | exact ih1 _ _ _ _ _ _
   | exact ih2 _ _ _ _
   | exact ih3 _ _ _ _
   | exact ih4 _ _ _ _ _
   | exact ih5 _ _ _ _ _
   | exact cl47_goes.mono _
   | exact cr02_Same.mono _ _ _
   | exact cr02_Sum.mono _ _
   | exact waterfall_Absorb.mono _ _ _
   | exact waterfall_Return.mono _ _ _ _
   | exact LeO.none _
   | refine LeO.ite ?_ ?_
   | refine LeO.bind ?_ (fun _=>?_)
  ·intro y0 y1 y2 y3 y4
   unfold cl47_WaterfallBack.l1
   repeat' first
   | (with_reducible exact ih0 _ _ _ _ _ _)
   | (with_reducible exact ih1 _ _ _ _ _ _)
   | (with_reducible exact ih2 _ _ _ _)
   | (with_reducible exact ih3 _ _ _ _)
   | (with_reducible exact ih4 _ _ _ _ _)
   | (with_reducible exact ih5 _ _ _ _ _)
   | (with_reducible exact cl47_goes.mono _)
   | (with_reducible exact cr02_Same.mono _ _ _)
   | (with_reducible exact cr02_Sum.mono _ _)
   | (with_reducible exact waterfall_Absorb.mono _ _ _)
   | (with_reducible exact waterfall_Return.mono _ _ _ _)
   | (with_reducible exact LeO.refl _)
   | (with_reducible exact LeO.none _)
   | (with_reducible refine LeO.ite ?_ ?_)
   | (with_reducible refine LeO.bind ?_ (fun _=>?_))
   | exact ih0 _ _ _ _ _ _
   | exact ih1 _ _ _ _ _ _
   | exact ih2 _ _ _ _
   | exact ih3 _ _ _ _
   | exact ih4 _ _ _ _ _
   | exact ih5 _ _ _ _ _
   | exact cl47_goes.mono _
   | exact cr02_Same.mono _ _ _
   | exact cr02_Sum.mono _ _
   | exact waterfall_Absorb.mono _ _ _
   | exact waterfall_Return.mono _ _ _ _
   | exact LeO.none _
   | refine LeO.ite ?_ ?_
   | refine LeO.bind ?_ (fun _=>?_)
theorem cl47_WaterfallBack.mono : ∀ a0 a1 a2 k, LeO (cl47_WaterfallBack.f k a0 a1 a2) (cl47_WaterfallBack.f (k + 1) a0 a1 a2):=by
 intro a0 a1 a2 k
 obtain ⟨ih0, ih1, ih2, ih3, ih4, ih5⟩:=cl47_WaterfallBack.mono_l k
 unfold cl47_WaterfallBack.f
 repeat' first
   | (with_reducible exact ih0 _ _ _ _ _ _)
   | (with_reducible exact ih1 _ _ _ _ _ _)
   | (with_reducible exact ih2 _ _ _ _)
   | (with_reducible exact ih3 _ _ _ _)
   | (with_reducible exact ih4 _ _ _ _ _)
   | (with_reducible exact ih5 _ _ _ _ _)
   | (with_reducible exact cl47_goes.mono _)
   | (with_reducible exact cr02_Same.mono _ _ _)
   | (with_reducible exact cr02_Sum.mono _ _)
   | (with_reducible exact waterfall_Absorb.mono _ _ _)
   | (with_reducible exact waterfall_Return.mono _ _ _ _)
   | (with_reducible exact LeO.refl _)
   | (with_reducible exact LeO.none _)
   | (with_reducible refine LeO.ite ?_ ?_)
   | (with_reducible refine LeO.bind ?_ (fun _=>?_))
   | exact ih0 _ _ _ _ _ _
   | exact ih1 _ _ _ _ _ _
   | exact ih2 _ _ _ _
   | exact ih3 _ _ _ _
   | exact ih4 _ _ _ _ _
   | exact ih5 _ _ _ _ _
   | exact cl47_goes.mono _
   | exact cr02_Same.mono _ _ _
   | exact cr02_Sum.mono _ _
   | exact waterfall_Absorb.mono _ _ _
   | exact waterfall_Return.mono _ _ _ _
   | exact LeO.none _
   | refine LeO.ite ?_ ?_
   | refine LeO.bind ?_ (fun _=>?_)
def cl47_WaterfallBack.T15 : Bool × List (List Nat × List Nat):=(true, [([], []), ([], []), ([0, 1], [0, 1]), ([2], [2]), ([3], [3]), ([4], [4]), ([5], [5]), ([5], [5]), ([6, 7, 5], [5, 6, 7]), ([8, 5], [5, 8]), ([5], [5]), ([5], [5]), ([10, 11, 5], [5, 10, 11]), ([12, 5], [5, 12]), ([9, 13, 5], [5, 9, 13]), ([5, 14], [5, 14])])
def cl47_WaterfallBack.B15 : List Nat:=[0, 0, 3, 7, 15, 31, 63, 63, 255, 511, 63, 63, 3135, 7231, 16383, 32767]
theorem cl47_WaterfallBack.tab15 : rtab .any (opsOf Try.f6 15) = cl47_WaterfallBack.T15:=by kernel_rfl
theorem cl47_WaterfallBack.bits15 : waitsOk cl47_WaterfallBack.T15.2 cl47_WaterfallBack.B15 = true:=by kernel_rfl
def cl47_WaterfallBack.T20 : Bool × List (List Nat × List Nat):=(true, [([], []), ([], []), ([0, 1], [0, 1]), ([2], [2]), ([], []), ([], []), ([4, 5], [4, 5]), ([6], [6]), ([3, 7], [3, 7]), ([8], [8]), ([9], [9]), ([9], [9]), ([10, 11, 9], [9, 10, 11]), ([12, 9], [9, 12]), ([13, 9], [9, 13]), ([9, 14], [9, 14]), ([15, 9], [15]), ([16], [16]), ([16], [16]), ([17, 18, 16], [16, 17, 18]), ([19, 16], [16, 19]), ([16], [16]), ([16], [16]), ([21, 22, 16], [16, 21, 22]), ([23, 16], [16, 23]), ([20, 24, 16, 16], [16, 20, 24]), ([25, 16], [16, 25]), ([16, 26], [16, 26])])
def cl47_WaterfallBack.B20 : List Nat:=[0, 0, 3, 7, 0, 0, 48, 112, 255, 511, 1023, 1023, 4095, 8191, 16383, 32767, 65535, 131071, 131071, 524287, 1048575, 131071, 131071, 6422527, 14811135, 33554431, 67108863, 134217727]
theorem cl47_WaterfallBack.tab20 : rtab .any (opsOf Try.f6 20) = cl47_WaterfallBack.T20:=by kernel_rfl
theorem cl47_WaterfallBack.bits20 : waitsOk cl47_WaterfallBack.T20.2 cl47_WaterfallBack.B20 = true:=by kernel_rfl
set_option maxHeartbeats 8000000 in
set_option maxRecDepth 100000 in
theorem cl47_WaterfallBack.calls (k : Nat) (a0 : Int) (a1 : Int) (A2 : Option Addr) (c2 : Nat) (l2 : List (S37)) (r : Bool) (w : World) (hr2 : Kd.C k37 w A2 l2.length l2) (hc2 : l2.length ≤ c2) (h : cl47_WaterfallBack.f k a0 a1 l2 = some r) :
  Calls Try.prog 6 #[.int .i64 a0, .int .i64 a1, .slice A2 l2.length c2] w fun e w'=>e = .returned (.bool r) ∧ Below w.heap.size w w':=by
 have hu37:=Try.underlying37
 have HR2:=Aside0.mk hr2
 have HC2:=Aside0.mk hc2
 clear hr2 hc2
 have HB:=Aside0.mk (Below.refl w.heap.size w)
 have H : (if (l2.length : Int) > 100 then ((cl47_goes.f k).bind fun t206=>(some t206)) else ((waterfall_Absorb.f k a0 l2).bind fun bt207=>(if bt207.2.2 = 0 then (if a1 < 0 then (cl47_WaterfallBack.j0 k a0 a1 l2 bt207.1 bt207.2.1 true) else (cl47_WaterfallBack.j0 k a0 a1 l2 bt207.1 bt207.2.1 (decide (a1 > 1152921504606846976)))) else (cl47_WaterfallBack.j0 k a0 a1 l2 bt207.1 bt207.2.1 true)))) = some r:=h
 clear h
 by_cases c4 : (l2.length : Int) > 100
 ·rw [if_pos c4] at H
  have c4b0 : decide (100 < (l2.length : Int)) = true:=decide_eq_true c4
  have c4b1 : decide (100 < l2.length) = true:=decide_eq_true (by omega)
  clear c4
  replace H:=Option.bind_eq_some_iff.mp H
  obtain ⟨t206, A50, H⟩:=H
  replace H : (some t206) = some r:=H
  have A5:=Aside0.mk A50
  clear A50
  obtain rfl:=Option.some.inj H
  go_enter Try.func6, Try.ntmps6
  go_wp2_with (first | ((with_reducible refine gate_callee (f:=10) rfl ?_);refine goesL_ (some 21) rfl rfl Try.func10 (by kernel_rfl) rfl #[] rfl (by (try simp only [List.map_toArray, List.map_cons, List.map_nil]);first | done | rfl | (simp only [List.length_drop, List.length_take];rfl)) ?_;(with_reducible refine (cl47_goes.calls k  t206 _ A5.out).mono ?_);rintro e w6 ⟨rfl, hb⟩;refine ⟨_, rfl, ?_⟩;have n0_:=Aside0.mk (below_step (by repeat (first | (with_reducible first | exact HB.out | apply below_alloc | apply pw_below_drewN | apply below_drew1) | exact HB.out)) hb);clear HB;have HB:=n0_;clear n0_;(try clear hb);(try clear hb2);(try clear hk);(try clear hi)))
  go_ret
  exact ⟨by first | rfl | (simp [errW_none, errW_some] <;> rfl) | (simp [*, errW_none, errW_some] <;> rfl), by repeat (first | (with_reducible first | exact HB.out | apply below_alloc | apply pw_below_drewN | apply below_drew1) | exact HB.out)⟩
 ·rw [if_neg c4] at H
  have c4b0 : decide (100 < (l2.length : Int)) = false:=decide_eq_false c4
  have c4b1 : decide (100 < l2.length) = false:=decide_eq_false (by omega)
  clear c4
  replace H:=Option.bind_eq_some_iff.mp H
  obtain ⟨⟨t207, t208, t209⟩, A70, H⟩:=H
  replace H : (if t209 = 0 then (if a1 < 0 then (cl47_WaterfallBack.j0 k a0 a1 l2 t207 t208 true) else (cl47_WaterfallBack.j0 k a0 a1 l2 t207 t208 (decide (a1 > 1152921504606846976)))) else (cl47_WaterfallBack.j0 k a0 a1 l2 t207 t208 true)) = some r:=H
  have A7:=Aside0.mk A70
  clear A70
  have HC8:=Aside0.mk H
  clear H
  go_enter Try.func6, Try.ntmps6
  go_upto_region 4 with (first | ((with_reducible refine gate_callee (f:=11) rfl ?_);refine goesL_ (some 25) rfl rfl Try.func11 (by kernel_rfl) rfl #[.int .i64 a0, .slice A2 l2.length c2] rfl (by (try simp only [List.map_toArray, List.map_cons, List.map_nil]);first | done | rfl | (simp only [List.length_drop, List.length_take];rfl)) ?_;(with_reducible refine (waterfall_Absorb.calls k a0 _ _ l2 t207 t208 t209 _ ?side1 ?side2 A7.out).mono ?_);(case side1=>repeat (first | exact HR2.out | (with_reducible refine Kd.C_alloc ?_ _) | (with_reducible refine Kd.C_drewN ?_ _) | (with_reducible refine Kd.C_drew ?_)));(case side2=>exact HC2.out);rintro e w9 ⟨v210, rfl, ho0, hb⟩;refine ⟨_, rfl, ?_⟩;have n0_:=Aside0.mk (Kd.R_lower ho0 (below_size (by repeat (first | (with_reducible first | exact HB.out | apply below_alloc | apply pw_below_drewN | apply below_drew1) | exact HB.out))));have n1_:=Aside0.mk (below_step (by repeat (first | (with_reducible first | exact HB.out | apply below_alloc | apply pw_below_drewN | apply below_drew1) | exact HB.out)) hb);clear HB;have HO211:=n0_;have HB:=n1_;clear n0_ n1_;(try clear hb);(try clear hb2);(try clear hk);(try clear hi);(try clear ho0)))
  (try simp only [Act.put, List.setIfInBounds_toArray, List.set_cons_zero, List.set_cons_succ])
  go_cut [38] (fun v38 wc=>∃ (kq : Nat) (x38_7 : Bool), v38 = .bool x38_7 ∧ Aside0 (cl47_WaterfallBack.j0 kq a0 a1 l2 t207 t208 x38_7 = some r) ∧ Aside0 (kq ≤ k) ∧ Aside0 (Kd.R (Kd.int .i64) 3 wc w.heap.size (fun _=>True) v210 t207) ∧ Aside0 (Below w.heap.size w wc))
  case first =>
   have H:=HC8.out
   clear HC8
   by_cases c10 : t209 = 0
   ·rw [if_pos c10] at H
    have c10b0 : (t209 == 0) = true:=beq_iff_eq.mpr c10
    have c10b1 : (t209 != 0) = false:=bne_eq_false_iff_eq.mpr c10
    clear c10
    (first | rw [c10b0] | (simp only [i64_w, i32_w];rw [c10b0]) | rw [c10b1] | skip)
    by_cases c11 : a1 < 0
    ·rw [if_pos c11] at H
     have c11b0 : decide (a1 < 0) = true:=decide_eq_true c11
     clear c11
     have H':=Aside0.mk H
     clear H
     go_wp2
     go_meet
     case rel=>exact ⟨_, (true), (by first | rfl | (simp;done) | (simp [*];done)), H', ⟨by first | omega | exact Nat.le_refl _⟩, ⟨by (with_reducible repeat (first | apply Kd.R_alloc | apply Kd.R_drewN | apply Kd.R_drew));exact HO211.out⟩, ⟨by repeat (first | (with_reducible first | exact HB.out | apply below_alloc | apply pw_below_drewN | apply below_drew1) | exact HB.out)⟩⟩
    ·rw [if_neg c11] at H
     have c11b0 : decide (a1 < 0) = false:=decide_eq_false c11
     clear c11
     have H':=Aside0.mk H
     clear H
     go_wp2
     go_meet
     case rel=>exact ⟨_, (decide (a1 > 1152921504606846976)), (by first | rfl | (simp;done) | (simp [*];done)), H', ⟨by first | omega | exact Nat.le_refl _⟩, ⟨by (with_reducible repeat (first | apply Kd.R_alloc | apply Kd.R_drewN | apply Kd.R_drew));exact HO211.out⟩, ⟨by repeat (first | (with_reducible first | exact HB.out | apply below_alloc | apply pw_below_drewN | apply below_drew1) | exact HB.out)⟩⟩
   ·rw [if_neg c10] at H
    have c10b0 : (t209 == 0) = false:=beq_eq_false_iff_ne.mpr c10
    have c10b1 : (t209 != 0) = true:=bne_iff_ne.mpr c10
    (first | rw [c10b0] | (simp only [i64_w, i32_w];rw [c10b0]) | rw [c10b1] | skip)
    have H':=Aside0.mk H
    clear H
    go_wp2
    go_meet
    case rel=>exact ⟨_, (true), (by first | rfl | (simp;done) | (simp [*];done)), H', ⟨by first | omega | exact Nat.le_refl _⟩, ⟨by (with_reducible repeat (first | apply Kd.R_alloc | apply Kd.R_drewN | apply Kd.R_drew));exact HO211.out⟩, ⟨by repeat (first | (with_reducible first | exact HB.out | apply below_alloc | apply pw_below_drewN | apply below_drew1) | exact HB.out)⟩⟩
  case rest =>
   clear HC8
   try clear c1
   try clear c2
   try clear p2
   try clear c4
   try clear c4b0
   try clear c4b1
   try clear c6
   try clear c10
   try clear c10b0
   try clear c10b1
   try clear c11
   try clear c11b0
   obtain ⟨kq, x38_7, rfl, HA, HJ7, HO_7, HB⟩:=hcut
   cases kq with
   | zero=>exact absurd HA.out (by simp [cl47_WaterfallBack.j0])
   | succ kj7 =>
    have H:=HA.out
    clear HA
    simp only [cl47_WaterfallBack.j0] at H
    by_cases c12 : x38_7 = true
    ·subst c12
     have H1 : ((cl47_goes.f kj7).bind fun t212=>(some t212)) = some r:=by rw [if_pos rfl] at H;exact H
     clear H
     have H:=H1
     clear H1
     replace H:=Option.bind_eq_some_iff.mp H
     obtain ⟨t212, A130, H⟩:=H
     replace H : (some t212) = some r:=H
     have A13:=Aside0.mk A130
     clear A130
     obtain rfl:=Option.some.inj H
     go_wp2_with (first | ((with_reducible refine gate_callee (f:=10) rfl ?_);refine goesL_ (some 39) rfl rfl Try.func10 (by kernel_rfl) rfl #[] rfl (by (try simp only [List.map_toArray, List.map_cons, List.map_nil]);first | done | rfl | (simp only [List.length_drop, List.length_take];rfl)) ?_;(with_reducible refine (cl47_goes.calls kj7  t212 _ A13.out).mono ?_);rintro e w14 ⟨rfl, hb⟩;refine ⟨_, rfl, ?_⟩;have n0_:=Aside0.mk (Kd.R_below (by (with_reducible repeat (first | apply Kd.R_alloc | apply Kd.R_drewN | apply Kd.R_drew));exact HO_7.out) hb);have n1_:=Aside0.mk (below_step (by repeat (first | (with_reducible first | exact HB.out | apply below_alloc | apply pw_below_drewN | apply below_drew1) | exact HB.out)) hb);clear HO_7 HB;have HO_7:=n0_;have HB:=n1_;clear n0_ n1_;(try clear hb);(try clear hb2);(try clear hk);(try clear hi)))
     go_ret
     exact ⟨by first | rfl | (simp [errW_none, errW_some] <;> rfl) | (simp [*, errW_none, errW_some] <;> rfl), by repeat (first | (with_reducible first | exact HB.out | apply below_alloc | apply pw_below_drewN | apply below_drew1) | exact HB.out)⟩
    ·replace c12:=Bool.eq_false_iff.mpr c12
     subst c12
     have H1 : ((waterfall_Return.f kj7 (wrap64 (a0 - t208)) l2 t207).bind fun bt213=>(if bt213.2.2 = 0 then (if bt213.2.1 = 0 then ((cr02_Same.f kj7 bt213.1 t207).bind fun t218=>(cl47_WaterfallBack.j1 kj7 a0 a1 l2 t207 t208 (!t218))) else (cl47_WaterfallBack.j1 kj7 a0 a1 l2 t207 t208 true)) else (cl47_WaterfallBack.j1 kj7 a0 a1 l2 t207 t208 true))) = some r:=by rw [if_neg (show ¬ (false = true) by decide)] at H;exact H
     clear H
     have H:=H1
     clear H1
     replace H:=Option.bind_eq_some_iff.mp H
     obtain ⟨⟨t213, t214, t215⟩, A150, H⟩:=H
     replace H : (if t215 = 0 then (if t214 = 0 then ((cr02_Same.f kj7 t213 t207).bind fun t218=>(cl47_WaterfallBack.j1 kj7 a0 a1 l2 t207 t208 (!t218))) else (cl47_WaterfallBack.j1 kj7 a0 a1 l2 t207 t208 true)) else (cl47_WaterfallBack.j1 kj7 a0 a1 l2 t207 t208 true)) = some r:=H
     have A15:=Aside0.mk A150
     clear A150
     have HC16:=Aside0.mk H
     clear H
     obtain ⟨Ao17, co17, eo17⟩:=Kd.R_slice HO_7.out
     subst eo17
     go_upto_region 7 with (first | ((with_reducible refine gate_callee (f:=20) rfl ?_);refine goesL_ (some 46) rfl rfl Try.func20 (by kernel_rfl) rfl #[.int .i64 (wrap64 (a0 - t208)), .slice A2 l2.length c2, .slice Ao17 t207.length co17] rfl (by (try simp only [List.map_toArray, List.map_cons, List.map_nil]);first | done | rfl | (simp only [List.length_drop, List.length_take];rfl)) ?_;(with_reducible refine (waterfall_Return.calls kj7 (wrap64 (a0 - t208)) _ _ l2 _ _ t207 t213 t214 t215 _ ?side1 ?side2 ?side3 ?side4 A15.out).mono ?_);(case side1=>repeat (first | exact (Kd.C_below HR2.out HB.out) | (with_reducible refine Kd.C_alloc ?_ _) | (with_reducible refine Kd.C_drewN ?_ _) | (with_reducible refine Kd.C_drew ?_)));(case side2=>exact HC2.out);(case side3=>repeat (first | exact (Kd.R_reads' HO_7.out).2.2 | (with_reducible refine Kd.C_alloc ?_ _) | (with_reducible refine Kd.C_drewN ?_ _) | (with_reducible refine Kd.C_drew ?_)));(case side4=>exact (Kd.R_reads' HO_7.out).2.1);rintro e w18 ⟨v216, rfl, ho0, hb⟩;refine ⟨_, rfl, ?_⟩;have n0_:=Aside0.mk (Kd.R_elder' (by (with_reducible repeat (first | apply Kd.R_alloc | apply Kd.R_drewN | apply Kd.R_drew));exact HO_7.out) (Kd.R_base ho0) hb);have n1_:=Aside0.mk (Kd.R_lower (Kd.R_new' ho0 (Kd.R_lt (by (with_reducible repeat (first | apply Kd.R_alloc | apply Kd.R_drewN | apply Kd.R_drew));exact HO_7.out))) (below_size (by repeat (first | (with_reducible first | exact HB.out | apply below_alloc | apply pw_below_drewN | apply below_drew1) | exact HB.out))));have n2_:=Aside0.mk (below_step (by repeat (first | (with_reducible first | exact HB.out | apply below_alloc | apply pw_below_drewN | apply below_drew1) | exact HB.out)) hb);clear HO_7 HB;have HO_7:=n0_;have HO217:=n1_;have HB:=n2_;clear n0_ n1_ n2_;(try clear hb);(try clear hb2);(try clear hk);(try clear hi);(try clear ho0)))
     (try simp only [Act.put, List.setIfInBounds_toArray, List.set_cons_zero, List.set_cons_succ])
     go_cut [61] (fun v61 wc=>∃ (kq : Nat) (x61_15 : Bool), v61 = .bool x61_15 ∧ Aside0 (cl47_WaterfallBack.j1 kq a0 a1 l2 t207 t208 x61_15 = some r) ∧ Aside0 (kq ≤ kj7) ∧ Aside0 (Kd.R (Kd.int .i64) 3 wc w.heap.size (fun _=>True) (.slice Ao17 t207.length co17) t207) ∧ Aside0 (Below w.heap.size w wc))
     case first =>
      have H:=HC16.out
      clear HC16
      by_cases c19 : t215 = 0
      ·rw [if_pos c19] at H
       have c19b0 : (t215 == 0) = true:=beq_iff_eq.mpr c19
       have c19b1 : (t215 != 0) = false:=bne_eq_false_iff_eq.mpr c19
       clear c19
       (first | rw [c19b0] | (simp only [i64_w, i32_w];rw [c19b0]) | rw [c19b1] | skip)
       by_cases c20 : t214 = 0
       ·rw [if_pos c20] at H
        have c20b0 : (t214 == 0) = true:=beq_iff_eq.mpr c20
        have c20b1 : (t214 != 0) = false:=bne_eq_false_iff_eq.mpr c20
        clear c20
        replace H:=Option.bind_eq_some_iff.mp H
        obtain ⟨t218, A210, H⟩:=H
        replace H : (cl47_WaterfallBack.j1 kj7 a0 a1 l2 t207 t208 (!t218)) = some r:=H
        have A21:=Aside0.mk A210
        clear A210
        have H':=Aside0.mk H
        clear H
        obtain ⟨Ao22, co22, eo22⟩:=Kd.R_slice HO217.out
        subst eo22
        go_wp2_with (first | (go_at_call 13;(with_reducible refine (cr02_Same.calls kj7 _ _ t213 _ _ t207 t218 _ ?side1 ?side2 ?side3 ?side4 A21.out).mono ?_);(case side1=>repeat (first | exact (Kd.R_reads' HO217.out).2.2 | (with_reducible refine Kd.C_alloc ?_ _) | (with_reducible refine Kd.C_drewN ?_ _) | (with_reducible refine Kd.C_drew ?_)));(case side2=>exact (Kd.R_reads' HO217.out).2.1);(case side3=>repeat (first | exact (Kd.R_reads' HO_7.out).2.2 | (with_reducible refine Kd.C_alloc ?_ _) | (with_reducible refine Kd.C_drewN ?_ _) | (with_reducible refine Kd.C_drew ?_)));(case side4=>exact (Kd.R_reads' HO_7.out).2.1);rintro e w' ⟨rfl, ⟨nd, rfl⟩⟩))
        go_meet
        case rel=>exact ⟨_, (!t218), (by first | rfl | (simp;done) | (simp [*];done)), H', ⟨by have:=HJ7.out;first | omega | exact Nat.le_refl _⟩, ⟨by (with_reducible repeat (first | apply Kd.R_alloc | apply Kd.R_drewN | apply Kd.R_drew));exact Kd.R_mono HO_7.out (fun _ hk=>trivial)⟩, ⟨by repeat (first | (with_reducible first | exact HB.out | apply below_alloc | apply pw_below_drewN | apply below_drew1) | exact HB.out)⟩⟩
       ·rw [if_neg c20] at H
        have c20b0 : (t214 == 0) = false:=beq_eq_false_iff_ne.mpr c20
        have c20b1 : (t214 != 0) = true:=bne_iff_ne.mpr c20
        have H':=Aside0.mk H
        clear H
        go_wp2
        go_meet
        case rel=>exact ⟨_, (true), (by first | rfl | (simp;done) | (simp [*];done)), H', ⟨by have:=HJ7.out;first | omega | exact Nat.le_refl _⟩, ⟨by (with_reducible repeat (first | apply Kd.R_alloc | apply Kd.R_drewN | apply Kd.R_drew));exact Kd.R_mono HO_7.out (fun _ hk=>trivial)⟩, ⟨by repeat (first | (with_reducible first | exact HB.out | apply below_alloc | apply pw_below_drewN | apply below_drew1) | exact HB.out)⟩⟩
      ·rw [if_neg c19] at H
       have c19b0 : (t215 == 0) = false:=beq_eq_false_iff_ne.mpr c19
       have c19b1 : (t215 != 0) = true:=bne_iff_ne.mpr c19
       (first | rw [c19b0] | (simp only [i64_w, i32_w];rw [c19b0]) | rw [c19b1] | skip)
       have H':=Aside0.mk H
       clear H
       go_wp2
       go_meet
       case rel=>exact ⟨_, (true), (by first | rfl | (simp;done) | (simp [*];done)), H', ⟨by have:=HJ7.out;first | omega | exact Nat.le_refl _⟩, ⟨by (with_reducible repeat (first | apply Kd.R_alloc | apply Kd.R_drewN | apply Kd.R_drew));exact Kd.R_mono HO_7.out (fun _ hk=>trivial)⟩, ⟨by repeat (first | (with_reducible first | exact HB.out | apply below_alloc | apply pw_below_drewN | apply below_drew1) | exact HB.out)⟩⟩
     case rest =>
      clear HC16
      try clear c1
      try clear c2
      try clear p2
      try clear c4
      try clear c4b0
      try clear c4b1
      try clear c6
      try clear p6
      try clear c10
      try clear c10b0
      try clear c10b1
      try clear c11
      try clear c11b0
      try clear c12
      try clear c19
      try clear c19b0
      try clear c19b1
      try clear c20
      try clear c20b0
      try clear c20b1
      try clear p2
      obtain ⟨kq, x61_15, rfl, HA, HJ15, HO_7, HB⟩:=hcut
      cases kq with
      | zero=>exact absurd HA.out (by simp [cl47_WaterfallBack.j1])
      | succ kj15 =>
       have H:=HA.out
       clear HA
       simp only [cl47_WaterfallBack.j1] at H
       by_cases c23 : x61_15 = true
       ·subst c23
        have H1 : (none) = some r:=by rw [if_pos rfl] at H;exact H
        clear H
        have H:=H1
        clear H1
        exact absurd H (by simp)
       ·replace c23:=Bool.eq_false_iff.mpr c23
        subst c23
        have H1 : ((waterfall_Return.f kj15 a1 l2 t207).bind fun bt219=>(if bt219.2.2 = 0 then (if (bt219.1.length : Int) = (l2.length : Int) then (if (t207.length : Int) = (l2.length : Int) then (if bt219.2.1 = (wrap64 (a1 - (mn a1 (wrap64 (a0 - t208))))) then ((cr02_Sum.f kj15 bt219.1).bind fun t224=>(cl47_WaterfallBack.j2 kj15 l2 t207 bt219.1 (t224 != (wrap64 (a1 - bt219.2.1))))) else (cl47_WaterfallBack.j2 kj15 l2 t207 bt219.1 true)) else (cl47_WaterfallBack.j2 kj15 l2 t207 bt219.1 true)) else (cl47_WaterfallBack.j2 kj15 l2 t207 bt219.1 true)) else (cl47_WaterfallBack.j2 kj15 l2 t207 bt219.1 true))) = some r:=by rw [if_neg (show ¬ (false = true) by decide)] at H;exact H
        clear H
        have H:=H1
        clear H1
        replace H:=Option.bind_eq_some_iff.mp H
        obtain ⟨⟨t219, t220, t221⟩, A240, H⟩:=H
        replace H : (if t221 = 0 then (if (t219.length : Int) = (l2.length : Int) then (if (t207.length : Int) = (l2.length : Int) then (if t220 = (wrap64 (a1 - (mn a1 (wrap64 (a0 - t208))))) then ((cr02_Sum.f kj15 t219).bind fun t224=>(cl47_WaterfallBack.j2 kj15 l2 t207 t219 (t224 != (wrap64 (a1 - t220))))) else (cl47_WaterfallBack.j2 kj15 l2 t207 t219 true)) else (cl47_WaterfallBack.j2 kj15 l2 t207 t219 true)) else (cl47_WaterfallBack.j2 kj15 l2 t207 t219 true)) else (cl47_WaterfallBack.j2 kj15 l2 t207 t219 true)) = some r:=H
        have A24:=Aside0.mk A240
        clear A240
        have HC25:=Aside0.mk H
        clear H
        go_upto_region 10 with (first | ((with_reducible refine gate_callee (f:=20) rfl ?_);refine goesL_ (some 66) rfl rfl Try.func20 (by kernel_rfl) rfl #[.int .i64 a1, .slice A2 l2.length c2, .slice Ao17 t207.length co17] rfl (by (try simp only [List.map_toArray, List.map_cons, List.map_nil]);first | done | rfl | (simp only [List.length_drop, List.length_take];rfl)) ?_;(with_reducible refine (waterfall_Return.calls kj15 a1 _ _ l2 _ _ t207 t219 t220 t221 _ ?side1 ?side2 ?side3 ?side4 A24.out).mono ?_);(case side1=>repeat (first | exact (Kd.C_below HR2.out HB.out) | (with_reducible refine Kd.C_alloc ?_ _) | (with_reducible refine Kd.C_drewN ?_ _) | (with_reducible refine Kd.C_drew ?_)));(case side2=>exact HC2.out);(case side3=>repeat (first | exact (Kd.R_reads' HO_7.out).2.2 | (with_reducible refine Kd.C_alloc ?_ _) | (with_reducible refine Kd.C_drewN ?_ _) | (with_reducible refine Kd.C_drew ?_)));(case side4=>exact (Kd.R_reads' HO_7.out).2.1);rintro e w26 ⟨v222, rfl, ho0, hb⟩;refine ⟨_, rfl, ?_⟩;have n0_:=Aside0.mk (Kd.R_elder' (by (with_reducible repeat (first | apply Kd.R_alloc | apply Kd.R_drewN | apply Kd.R_drew));exact HO_7.out) (Kd.R_base ho0) hb);have n1_:=Aside0.mk (Kd.R_lower (Kd.R_new' ho0 (Kd.R_lt (by (with_reducible repeat (first | apply Kd.R_alloc | apply Kd.R_drewN | apply Kd.R_drew));exact HO_7.out))) (below_size (by repeat (first | (with_reducible first | exact HB.out | apply below_alloc | apply pw_below_drewN | apply below_drew1) | exact HB.out))));have n2_:=Aside0.mk (below_step (by repeat (first | (with_reducible first | exact HB.out | apply below_alloc | apply pw_below_drewN | apply below_drew1) | exact HB.out)) hb);clear HO_7 HB;have HO_7:=n0_;have HO223:=n1_;have HB:=n2_;clear n0_ n1_ n2_;(try clear hb);(try clear hb2);(try clear hk);(try clear hi);(try clear ho0)))
        (try simp only [Act.put, List.setIfInBounds_toArray, List.set_cons_zero, List.set_cons_succ])
        go_cut [104] (fun v104 wc=>∃ (kq : Nat) (x104_24 : Bool), v104 = .bool x104_24 ∧ Aside0 (cl47_WaterfallBack.j2 kq l2 t207 t219 x104_24 = some r) ∧ Aside0 (kq ≤ kj15) ∧ Aside0 (Kd.R (Kd.int .i64) 3 wc w.heap.size (fun k_=>some k_ ≠ (v222 : Value).ownBlock) (.slice Ao17 t207.length co17) t207) ∧ Aside0 (Kd.R (Kd.int .i64) 3 wc w.heap.size (fun k_=>some k_ ≠ ((.slice Ao17 t207.length co17) : Value).ownBlock) v222 t219) ∧ Aside0 (Below w.heap.size w wc))
        case first =>
         have H:=HC25.out
         clear HC25
         by_cases c27 : t221 = 0
         ·rw [if_pos c27] at H
          have c27b0 : (t221 == 0) = true:=beq_iff_eq.mpr c27
          have c27b1 : (t221 != 0) = false:=bne_eq_false_iff_eq.mpr c27
          clear c27
          (first | rw [c27b0] | (simp only [i64_w, i32_w];rw [c27b0]) | rw [c27b1] | skip)
          by_cases c28 : (t219.length : Int) = (l2.length : Int)
          ·rw [if_pos c28] at H
           have c28b0 : ((t219.length : Int) == (l2.length : Int)) = true:=beq_iff_eq.mpr c28
           have c28b1 : ((t219.length : Int) != (l2.length : Int)) = false:=bne_eq_false_iff_eq.mpr c28
           have c28b2 : (t219.length == l2.length) = true:=by first | simpa using c28 | (simp at c28 ⊢;omega)
           clear c28
           by_cases c29 : (t207.length : Int) = (l2.length : Int)
           ·rw [if_pos c29] at H
            have c29b0 : ((t207.length : Int) == (l2.length : Int)) = true:=beq_iff_eq.mpr c29
            have c29b1 : ((t207.length : Int) != (l2.length : Int)) = false:=bne_eq_false_iff_eq.mpr c29
            have c29b2 : (t207.length == l2.length) = true:=by first | simpa using c29 | (simp at c29 ⊢;omega)
            clear c29
            obtain ⟨ji30, hji30⟩ : ∃ j_ : Int, (mn a1 (wrap64 (a0 - t208))) = j_:=⟨_, rfl⟩
            replace H : (if t220 = (wrap64 (a1 - (ji30))) then ((cr02_Sum.f kj15 t219).bind fun t224=>(cl47_WaterfallBack.j2 kj15 l2 t207 t219 (t224 != (wrap64 (a1 - t220))))) else (cl47_WaterfallBack.j2 kj15 l2 t207 t219 true)) = some r:=by first | (rw [hji30] at H;exact H) | (simp only [hji30] at H ⊢;exact H)
            have hji30_ : (if (wrap64 (a0 - t208)) < a1 then (wrap64 (a0 - t208)) else a1) = ji30:=hji30
            by_cases c31 : t220 = (wrap64 (a1 - (ji30)))
            ·rw [if_pos c31] at H
             have c31b0 : (t220 == (wrap64 (a1 - (ji30)))) = true:=beq_iff_eq.mpr c31
             have c31b1 : (t220 != (wrap64 (a1 - (ji30)))) = false:=bne_eq_false_iff_eq.mpr c31
             clear c31
             replace H:=Option.bind_eq_some_iff.mp H
             obtain ⟨t224, A320, H⟩:=H
             replace H : (cl47_WaterfallBack.j2 kj15 l2 t207 t219 (t224 != (wrap64 (a1 - t220)))) = some r:=H
             have A32:=Aside0.mk A320
             clear A320
             have H':=Aside0.mk H
             clear H
             obtain ⟨Ao33, co33, eo33⟩:=Kd.R_slice HO223.out
             subst eo33
             go_wp2_with (first | (go_at_call 21;(with_reducible refine (cr02_Sum.calls kj15 _ _ t219 t224 _ ?side1 ?side2 A32.out).mono ?_);(case side1=>repeat (first | exact (Kd.R_reads' HO223.out).2.2 | (with_reducible refine Kd.C_alloc ?_ _) | (with_reducible refine Kd.C_drewN ?_ _) | (with_reducible refine Kd.C_drew ?_)));(case side2=>exact (Kd.R_reads' HO223.out).2.1);rintro e w' ⟨rfl, ⟨nd, rfl⟩⟩))
             go_meet
             case rel=>exact ⟨_, ((t224 != (wrap64 (a1 - t220)))), (by first | rfl | (simp;done) | (simp [*];done)), H', ⟨by have:=HJ7.out;have:=HJ15.out;first | omega | exact Nat.le_refl _⟩, ⟨by (with_reducible repeat (first | apply Kd.R_alloc | apply Kd.R_drewN | apply Kd.R_drew));exact Kd.R_mono HO_7.out (fun _ hk=>hk.2)⟩, ⟨by (with_reducible repeat (first | apply Kd.R_alloc | apply Kd.R_drewN | apply Kd.R_drew));exact Kd.R_mono HO223.out (fun _ hk=>hk.2)⟩, ⟨by repeat (first | (with_reducible first | exact HB.out | apply below_alloc | apply pw_below_drewN | apply below_drew1) | exact HB.out)⟩⟩
            ·rw [if_neg c31] at H
             have c31b0 : (t220 == (wrap64 (a1 - (ji30)))) = false:=beq_eq_false_iff_ne.mpr c31
             have c31b1 : (t220 != (wrap64 (a1 - (ji30)))) = true:=bne_iff_ne.mpr c31
             have H':=Aside0.mk H
             clear H
             obtain ⟨Ao34, co34, eo34⟩:=Kd.R_slice HO223.out
             subst eo34
             go_wp2
             go_meet
             case rel=>exact ⟨_, (true), (by first | rfl | (simp;done) | (simp [*];done)), H', ⟨by have:=HJ7.out;have:=HJ15.out;first | omega | exact Nat.le_refl _⟩, ⟨by (with_reducible repeat (first | apply Kd.R_alloc | apply Kd.R_drewN | apply Kd.R_drew));exact Kd.R_mono HO_7.out (fun _ hk=>hk.2)⟩, ⟨by (with_reducible repeat (first | apply Kd.R_alloc | apply Kd.R_drewN | apply Kd.R_drew));exact Kd.R_mono HO223.out (fun _ hk=>hk.2)⟩, ⟨by repeat (first | (with_reducible first | exact HB.out | apply below_alloc | apply pw_below_drewN | apply below_drew1) | exact HB.out)⟩⟩
           ·rw [if_neg c29] at H
            have c29b0 : ((t207.length : Int) == (l2.length : Int)) = false:=beq_eq_false_iff_ne.mpr c29
            have c29b1 : ((t207.length : Int) != (l2.length : Int)) = true:=bne_iff_ne.mpr c29
            have c29b2 : (t207.length == l2.length) = false:=by first | simpa using c29 | (simp at c29 ⊢;omega)
            have H':=Aside0.mk H
            clear H
            obtain ⟨Ao35, co35, eo35⟩:=Kd.R_slice HO223.out
            subst eo35
            go_wp2
            go_meet
            case rel=>exact ⟨_, (true), (by first | rfl | (simp;done) | (simp [*];done)), H', ⟨by have:=HJ7.out;have:=HJ15.out;first | omega | exact Nat.le_refl _⟩, ⟨by (with_reducible repeat (first | apply Kd.R_alloc | apply Kd.R_drewN | apply Kd.R_drew));exact Kd.R_mono HO_7.out (fun _ hk=>hk.2)⟩, ⟨by (with_reducible repeat (first | apply Kd.R_alloc | apply Kd.R_drewN | apply Kd.R_drew));exact Kd.R_mono HO223.out (fun _ hk=>hk.2)⟩, ⟨by repeat (first | (with_reducible first | exact HB.out | apply below_alloc | apply pw_below_drewN | apply below_drew1) | exact HB.out)⟩⟩
          ·rw [if_neg c28] at H
           have c28b0 : ((t219.length : Int) == (l2.length : Int)) = false:=beq_eq_false_iff_ne.mpr c28
           have c28b1 : ((t219.length : Int) != (l2.length : Int)) = true:=bne_iff_ne.mpr c28
           have c28b2 : (t219.length == l2.length) = false:=by first | simpa using c28 | (simp at c28 ⊢;omega)
           have H':=Aside0.mk H
           clear H
           obtain ⟨Ao36, co36, eo36⟩:=Kd.R_slice HO223.out
           subst eo36
           go_wp2
           go_meet
           case rel=>exact ⟨_, (true), (by first | rfl | (simp;done) | (simp [*];done)), H', ⟨by have:=HJ7.out;have:=HJ15.out;first | omega | exact Nat.le_refl _⟩, ⟨by (with_reducible repeat (first | apply Kd.R_alloc | apply Kd.R_drewN | apply Kd.R_drew));exact Kd.R_mono HO_7.out (fun _ hk=>hk.2)⟩, ⟨by (with_reducible repeat (first | apply Kd.R_alloc | apply Kd.R_drewN | apply Kd.R_drew));exact Kd.R_mono HO223.out (fun _ hk=>hk.2)⟩, ⟨by repeat (first | (with_reducible first | exact HB.out | apply below_alloc | apply pw_below_drewN | apply below_drew1) | exact HB.out)⟩⟩
         ·rw [if_neg c27] at H
          have c27b0 : (t221 == 0) = false:=beq_eq_false_iff_ne.mpr c27
          have c27b1 : (t221 != 0) = true:=bne_iff_ne.mpr c27
          (first | rw [c27b0] | (simp only [i64_w, i32_w];rw [c27b0]) | rw [c27b1] | skip)
          have H':=Aside0.mk H
          clear H
          go_wp2
          go_meet
          case rel=>exact ⟨_, (true), (by first | rfl | (simp;done) | (simp [*];done)), H', ⟨by have:=HJ7.out;have:=HJ15.out;first | omega | exact Nat.le_refl _⟩, ⟨by (with_reducible repeat (first | apply Kd.R_alloc | apply Kd.R_drewN | apply Kd.R_drew));exact Kd.R_mono HO_7.out (fun _ hk=>hk.2)⟩, ⟨by (with_reducible repeat (first | apply Kd.R_alloc | apply Kd.R_drewN | apply Kd.R_drew));exact Kd.R_mono HO223.out (fun _ hk=>hk.2)⟩, ⟨by repeat (first | (with_reducible first | exact HB.out | apply below_alloc | apply pw_below_drewN | apply below_drew1) | exact HB.out)⟩⟩
        case rest =>
         clear HC25
         try clear c1
         try clear c2
         try clear p2
         try clear c3
         try clear c4
         try clear c4b0
         try clear c4b1
         try clear c6
         try clear p6
         try clear c10
         try clear c10b0
         try clear c10b1
         try clear c11
         try clear c11b0
         try clear c12
         try clear c19
         try clear c19b0
         try clear c19b1
         try clear c20
         try clear c20b0
         try clear c20b1
         try clear c23
         try clear c27
         try clear c27b0
         try clear c27b1
         try clear c28
         try clear c28b0
         try clear c28b1
         try clear c28b2
         try clear c29
         try clear c29b0
         try clear c29b1
         try clear c29b2
         try clear c31
         try clear c31b0
         try clear c31b1
         try clear p2
         try clear p6
         obtain ⟨kq, x104_24, rfl, HA, HJ24, HO_7, HO_13, HB⟩:=hcut
         cases kq with
         | zero=>exact absurd HA.out (by simp [cl47_WaterfallBack.j2])
         | succ kj24 =>
          have H:=HA.out
          clear HA
          simp only [cl47_WaterfallBack.j2] at H
          by_cases c37 : x104_24 = true
          ·subst c37
           have H1 : (none) = some r:=by rw [if_pos rfl] at H;exact H
           clear H
           have H:=H1
           clear H1
           exact absurd H (by simp)
          ·replace c37:=Bool.eq_false_iff.mpr c37
           subst c37
           have H1 : (cl47_WaterfallBack.l0 kj24 l2 t207 t219 0) = some r:=by rw [if_neg (show ¬ (false = true) by decide)] at H;exact H
           clear H
           have H:=H1
           clear H1
           have H':=Aside0.mk H
           clear H
           go_wp2
           go_loopg [16] kj24 (fun kq v16 w'=>∃ (x16_4 : Int), v16 = .int .i64 x16_4 ∧ Aside0 (cl47_WaterfallBack.l0 kq l2 t207 t219 x16_4 = some r) ∧ Aside0 (kq ≤ kj24) ∧ Aside0 (Kd.R (Kd.int .i64) 3 w' w.heap.size (fun k_=>some k_ ≠ (v222 : Value).ownBlock) (.slice Ao17 t207.length co17) t207) ∧ Aside0 (Kd.R (Kd.int .i64) 3 w' w.heap.size (fun k_=>some k_ ≠ ((.slice Ao17 t207.length co17) : Value).ownBlock) v222 t219) ∧ Aside0 (Below w.heap.size w w'))
           case atStart=>exact ⟨(0), (by first | rfl | (simp;done) | (simp [*];done)), H', ⟨Nat.le_refl _⟩, ⟨by (with_reducible repeat (first | apply Kd.R_alloc | apply Kd.R_drewN | apply Kd.R_drew));exact HO_7.out⟩, ⟨by (with_reducible repeat (first | apply Kd.R_alloc | apply Kd.R_drewN | apply Kd.R_drew));exact HO_13.out⟩, ⟨by repeat (first | (with_reducible first | exact HB.out | apply below_alloc | apply pw_below_drewN | apply below_drew1) | exact HB.out)⟩⟩
           case round =>
            clear H'
            try clear c1
            try clear c2
            try clear p2
            try clear c3
            try clear c4
            try clear c4b0
            try clear c4b1
            try clear c6
            try clear p6
            try clear c10
            try clear c10b0
            try clear c10b1
            try clear c11
            try clear c11b0
            try clear c12
            try clear c19
            try clear c19b0
            try clear c19b1
            try clear c20
            try clear c20b0
            try clear c20b1
            try clear c23
            try clear c27
            try clear c27b0
            try clear c27b1
            try clear c28
            try clear c28b0
            try clear c28b1
            try clear c28b2
            try clear c29
            try clear c29b0
            try clear c29b1
            try clear c29b2
            try clear c31
            try clear c31b0
            try clear c31b1
            try clear c37
            try clear p2
            try clear p6
            obtain ⟨x16_4, rfl, HA, HK4, HO_7, HO_13, HB⟩:=hrel
            cases gk with
            | zero=>exact absurd HA.out (by simp [cl47_WaterfallBack.l0])
            | succ k4 =>
             have H:=HA.out
             clear HA
             simp only [cl47_WaterfallBack.l0] at H
             by_cases c38 : x16_4 < (l2.length : Int)
             ·rw [if_pos c38] at H
              have c38b0 : decide (x16_4 < (l2.length : Int)) = true:=decide_eq_true c38
              clear c38
              have HC39:=Aside0.mk H
              clear H
              go_upto_region 15 with (fail)
              go_cut [126] (fun v126 wc=>∃ (kq : Nat) (x126_38 : Bool), v126 = .bool x126_38 ∧ Aside0 (cl47_WaterfallBack.j4 kq l2 t207 t219 x16_4 x126_38 = some r) ∧ Aside0 (kq ≤ k4) ∧ Aside0 (Kd.R (Kd.int .i64) 3 wc w.heap.size (fun k_=>some k_ ≠ (v222 : Value).ownBlock) (.slice Ao17 t207.length co17) t207) ∧ Aside0 (Kd.R (Kd.int .i64) 3 wc w.heap.size (fun k_=>some k_ ≠ ((.slice Ao17 t207.length co17) : Value).ownBlock) v222 t219) ∧ Aside0 (Below w.heap.size w wc))
              case first =>
               have H:=HC39.out
               clear HC39
               by_cases c40 : 0 ≤ x16_4
               ·rw [if_pos c40] at H
                have c40b0 : decide (0 ≤ x16_4) = true:=decide_eq_true c40
                clear c40
                (first | rw [c40b0] | (simp only [i64_w, i32_w];rw [c40b0]) | skip)
                by_cases c41 : x16_4 < (t219.length : Int)
                ·rw [if_pos c41] at H
                 have c41b0 : decide (x16_4 < (t219.length : Int)) = true:=decide_eq_true c41
                 clear c41
                 by_cases c42 : (rd t219 x16_4) < 0
                 ·rw [if_pos c42] at H
                  have c42b0 : decide ((rd t219 x16_4) < 0) = true:=decide_eq_true c42
                  clear c42
                  have H':=Aside0.mk H
                  clear H
                  try go_wp2
                  have n0_:=Aside0.mk (Kd.R_drew HO_7.out)
                  have n1_:=Aside0.mk (Kd.R_drew HO_13.out)
                  have n2_:=Aside0.mk (below_drew1 HB.out)
                  clear HO_7
                  clear HO_13
                  clear HB
                  have HO_7:=n0_
                  have HO_13:=n1_
                  have HB:=n2_
                  clear n0_ n1_ n2_
                  obtain ⟨Ao44, co44, eo44⟩:=Kd.R_slice HO_13.out
                  (first | subst eo44 | (injection eo44 with f1_ f2_ f3_;have f4_:=f1_.symm;have f5_:=f3_.symm;clear f1_ f2_ f3_;subst f4_;subst f5_))
                  have p226 : 0 ≤ (x16_4 : Int):=of_decide_eq_true (by first | (with_reducible assumption) | assumption)
                  have q226 : x16_4 < (t219.length : Int):=of_decide_eq_true (by first | (with_reducible assumption) | assumption)
                  obtain ⟨ad226, e226, hx226_0⟩:=Kd.at_int (Kd.R_reads' HO_13.out).2.2 x16_4 p226 q226
                  cases e226
                  replace p226:=eq_true p226
                  replace q226:=eq_true q226
                  refine start_ (n:=16) (S:=fun w'=>w'.cell? (ad226.add (x16_4).toNat) = some (.int .i64 (rd t219 x16_4))) (ds:=[]) #[false, false, false, false, false, false, false, false, false, false, false, false, false, false, false, false] (by kernel_rfl) rfl rfl (hx226_0) (fun hHeld=>?_);refine with_tabW cl47_WaterfallBack.tab15 cl47_WaterfallBack.bits15 (fun HT_ HW_=>?_)
                  generalize wr.drew = w43 at HO_7 HO_13 HB hx226_0 hHeld ⊢
                  refine pure_ (i:=0) (N:=some 111) (v:=?_) (a':=?_) #[true, false, false, false, false, false, false, false, false, false, false, false, false, false, false, false] rfl rfl (any_of HT_.out (by kernel_rfl)) (fun _ _ _ h=>h) (Or.inl ⟨by rfl, ?_⟩) ?_ ?_
                  rotate_left
                  ·intro w'
                   go_simp
                   with_reducible rfl
                  rotate_left
                  ·simp only [Act.put, List.setIfInBounds_toArray, List.set_cons_zero, List.set_cons_succ, i64_w, i32_w]
                   rfl
                  refine pure_ (i:=1) (N:=some 112) (v:=?_) (a':=?_) #[true, true, false, false, false, false, false, false, false, false, false, false, false, false, false, false] rfl rfl (any_of HT_.out (by kernel_rfl)) (fun _ _ _ h=>h) (Or.inl ⟨by rfl, ?_⟩) ?_ ?_
                  rotate_left
                  ·intro w'
                   go_simp
                   with_reducible rfl
                  rotate_left
                  ·simp only [Act.put, List.setIfInBounds_toArray, List.set_cons_zero, List.set_cons_succ, i64_w, i32_w]
                   rfl
                  refine pure_ (i:=2) (N:=some 113) (v:=?_) (a':=?_) #[true, true, true, false, false, false, false, false, false, false, false, false, false, false, false, false] rfl rfl (any_of HT_.out (by kernel_rfl)) (fun _ _ _ h=>h) (Or.inl ⟨by rfl, ?_⟩) ?_ ?_
                  rotate_left
                  ·intro w'
                   go_simp
                   with_reducible rfl
                  rotate_left
                  ·simp only [Act.put, List.setIfInBounds_toArray, List.set_cons_zero, List.set_cons_succ, i64_w, i32_w]
                   rfl
                  refine take_ (i:=3) (N:=some 114) (v:=?_) (a':=?_) #[true, true, true, true, false, false, false, false, false, false, false, false, false, false, false, false] rfl rfl (take_ofW HT_.out HW_.out (by kernel_rfl)) (fun _ _ _ h=>h) (Or.inl ⟨by rfl, ?_⟩) hHeld ?_ ?_
                  rotate_left
                  ·intro w' s0
                   go_simp
                   with_reducible rfl
                  rotate_left
                  ·simp only [Act.put, List.setIfInBounds_toArray, List.set_cons_zero, List.set_cons_succ, i64_w, i32_w]
                   rfl
                  refine pure_ (i:=4) (N:=some 115) (v:=?_) (a':=?_) #[true, true, true, true, true, false, false, false, false, false, false, false, false, false, false, false] rfl rfl (any_of HT_.out (by kernel_rfl)) (fun _ _ _ h=>h) (Or.inl ⟨by rfl, ?_⟩) ?_ ?_
                  rotate_left
                  ·intro w'
                   go_simp
                   with_reducible rfl
                  rotate_left
                  ·simp only [Act.put, List.setIfInBounds_toArray, List.set_cons_zero, List.set_cons_succ, i64_w, i32_w]
                   rfl
                  refine pure_ (i:=5) (N:=some 116) (v:=?_) (a':=?_) #[true, true, true, true, true, true, false, false, false, false, false, false, false, false, false, false] rfl rfl (any_of HT_.out (by kernel_rfl)) (fun _ _ _ h=>h) (Or.inl ⟨by rfl, ?_⟩) ?_ ?_
                  rotate_left
                  ·intro w'
                   go_simp
                   with_reducible rfl
                  rotate_left
                  ·simp only [Act.put, List.setIfInBounds_toArray, List.set_cons_zero, List.set_cons_succ, i64_w, i32_w]
                   rfl
                  refine pure_ (i:=6) (N:=some 117) (v:=undef) (a':=?_) #[true, true, true, true, true, true, true, false, false, false, false, false, false, false, false, false] rfl rfl (any_of HT_.out (by kernel_rfl)) (fun _ _ _ h=>h) (Or.inr ⟨by rfl, rfl⟩) ?_ ?_
                  rotate_left
                  ·simp only [Act.put, List.setIfInBounds_toArray, List.set_cons_zero, List.set_cons_succ, i64_w, i32_w]
                   rfl
                  refine pure_ (i:=7) (N:=some 118) (v:=undef) (a':=?_) #[true, true, true, true, true, true, true, true, false, false, false, false, false, false, false, false] rfl rfl (any_of HT_.out (by kernel_rfl)) (fun _ _ _ h=>h) (Or.inr ⟨by rfl, rfl⟩) ?_ ?_
                  rotate_left
                  ·simp only [Act.put, List.setIfInBounds_toArray, List.set_cons_zero, List.set_cons_succ, i64_w, i32_w]
                   rfl
                  refine pure_ (i:=8) (N:=some 119) (v:=undef) (a':=?_) #[true, true, true, true, true, true, true, true, true, false, false, false, false, false, false, false] rfl rfl (any_of HT_.out (by kernel_rfl)) (fun _ _ _ h=>h) (Or.inr ⟨by rfl, rfl⟩) ?_ ?_
                  rotate_left
                  ·simp only [Act.put, List.setIfInBounds_toArray, List.set_cons_zero, List.set_cons_succ, i64_w, i32_w]
                   rfl
                  refine pure_ (i:=9) (N:=some 120) (v:=undef) (a':=?_) #[true, true, true, true, true, true, true, true, true, true, false, false, false, false, false, false] rfl rfl (any_of HT_.out (by kernel_rfl)) (fun _ _ _ h=>h) (Or.inr ⟨by rfl, rfl⟩) ?_ ?_
                  rotate_left
                  ·simp only [Act.put, List.setIfInBounds_toArray, List.set_cons_zero, List.set_cons_succ, i64_w, i32_w]
                   rfl
                  refine pure_ (i:=10) (N:=some 121) (v:=undef) (a':=?_) #[true, true, true, true, true, true, true, true, true, true, true, false, false, false, false, false] rfl rfl (any_of HT_.out (by kernel_rfl)) (fun _ _ _ h=>h) (Or.inr ⟨by rfl, rfl⟩) ?_ ?_
                  rotate_left
                  ·simp only [Act.put, List.setIfInBounds_toArray, List.set_cons_zero, List.set_cons_succ, i64_w, i32_w]
                   rfl
                  refine pure_ (i:=11) (N:=some 122) (v:=undef) (a':=?_) #[true, true, true, true, true, true, true, true, true, true, true, true, false, false, false, false] rfl rfl (any_of HT_.out (by kernel_rfl)) (fun _ _ _ h=>h) (Or.inr ⟨by rfl, rfl⟩) ?_ ?_
                  rotate_left
                  ·simp only [Act.put, List.setIfInBounds_toArray, List.set_cons_zero, List.set_cons_succ, i64_w, i32_w]
                   rfl
                  refine pure_ (i:=12) (N:=some 123) (v:=undef) (a':=?_) #[true, true, true, true, true, true, true, true, true, true, true, true, true, false, false, false] rfl rfl (any_of HT_.out (by kernel_rfl)) (fun _ _ _ h=>h) (Or.inr ⟨by rfl, rfl⟩) ?_ ?_
                  rotate_left
                  ·simp only [Act.put, List.setIfInBounds_toArray, List.set_cons_zero, List.set_cons_succ, i64_w, i32_w]
                   rfl
                  refine pure_ (i:=13) (N:=some 124) (v:=undef) (a':=?_) #[true, true, true, true, true, true, true, true, true, true, true, true, true, true, false, false] rfl rfl (any_of HT_.out (by kernel_rfl)) (fun _ _ _ h=>h) (Or.inr ⟨by rfl, rfl⟩) ?_ ?_
                  rotate_left
                  ·simp only [Act.put, List.setIfInBounds_toArray, List.set_cons_zero, List.set_cons_succ, i64_w, i32_w]
                   rfl
                  refine pure_ (i:=14) (N:=some 125) (v:=undef) (a':=?_) #[true, true, true, true, true, true, true, true, true, true, true, true, true, true, true, false] rfl rfl (any_of HT_.out (by kernel_rfl)) (fun _ _ _ h=>h) (Or.inr ⟨by rfl, rfl⟩) ?_ ?_
                  rotate_left
                  ·simp only [Act.put, List.setIfInBounds_toArray, List.set_cons_zero, List.set_cons_succ, i64_w, i32_w]
                   rfl
                  refine pure_ (i:=15) (N:=some 126) (v:=?_) (a':=?_) #[true, true, true, true, true, true, true, true, true, true, true, true, true, true, true, true] rfl rfl (any_of HT_.out (by kernel_rfl)) (fun _ _ _ h=>h) (Or.inl ⟨by rfl, ?_⟩) ?_ ?_
                  rotate_left
                  ·intro w'
                   go_simp
                   with_reducible rfl
                  rotate_left
                  ·simp only [Act.put, List.setIfInBounds_toArray, List.set_cons_zero, List.set_cons_succ, i64_w, i32_w]
                   rfl
                  refine done_ (done_of HT_.out (by kernel_rfl)) ?_
                  try go_wp2
                  go_meet
                  case rel=>exact ⟨_, (true), (by first | rfl | (simp;done) | (simp [*];done)), H', ⟨by have:=HJ7.out;have:=HJ15.out;have:=HJ24.out;have:=HK4.out;first | omega | exact Nat.le_refl _⟩, ⟨by (with_reducible repeat (first | apply Kd.R_alloc | apply Kd.R_drewN | apply Kd.R_drew));exact HO_7.out⟩, ⟨by (with_reducible repeat (first | apply Kd.R_alloc | apply Kd.R_drewN | apply Kd.R_drew));exact HO_13.out⟩, ⟨by repeat (first | (with_reducible first | exact HB.out | apply below_alloc | apply pw_below_drewN | apply below_drew1) | exact HB.out)⟩⟩
                 ·rw [if_neg c42] at H
                  have c42b0 : decide ((rd t219 x16_4) < 0) = false:=decide_eq_false c42
                  clear c42
                  by_cases c45 : x16_4 < (t207.length : Int)
                  ·rw [if_pos c45] at H
                   have c45b0 : decide (x16_4 < (t207.length : Int)) = true:=decide_eq_true c45
                   clear c45
                   have H':=Aside0.mk H
                   clear H
                   try go_wp2
                   have n0_:=Aside0.mk (Kd.R_drew HO_7.out)
                   have n1_:=Aside0.mk (Kd.R_drew HO_13.out)
                   have n2_:=Aside0.mk (below_drew1 HB.out)
                   clear HO_7
                   clear HO_13
                   clear HB
                   have HO_7:=n0_
                   have HO_13:=n1_
                   have HB:=n2_
                   clear n0_ n1_ n2_
                   obtain ⟨Ao47, co47, eo47⟩:=Kd.R_slice HO_13.out
                   (first | subst eo47 | (injection eo47 with f1_ f2_ f3_;have f4_:=f1_.symm;have f5_:=f3_.symm;clear f1_ f2_ f3_;subst f4_;subst f5_))
                   have p226 : 0 ≤ (x16_4 : Int):=of_decide_eq_true (by first | (with_reducible assumption) | assumption)
                   have q226 : x16_4 < (t219.length : Int):=of_decide_eq_true (by first | (with_reducible assumption) | assumption)
                   obtain ⟨ad226, e226, hx226_0⟩:=Kd.at_int (Kd.R_reads' HO_13.out).2.2 x16_4 p226 q226
                   cases e226
                   replace p226:=eq_true p226
                   replace q226:=eq_true q226
                   have p227 : 0 ≤ (x16_4 : Int):=of_decide_eq_true (by first | (with_reducible assumption) | assumption)
                   have q227 : x16_4 < (t219.length : Int):=of_decide_eq_true (by first | (with_reducible assumption) | assumption)
                   obtain ⟨ad227, e227, hx227_0⟩:=Kd.at_int (Kd.R_reads' HO_13.out).2.2 x16_4 p227 q227
                   obtain rfl : ad226 = ad227:=(by injection e227)
                   replace p227:=eq_true p227
                   replace q227:=eq_true q227
                   have p228 : 0 ≤ (x16_4 : Int):=of_decide_eq_true (by first | (with_reducible assumption) | assumption)
                   have q228 : x16_4 < (t207.length : Int):=of_decide_eq_true (by first | (with_reducible assumption) | assumption)
                   obtain ⟨ad228, e228, hx228_0⟩:=Kd.at_int (Kd.R_reads' HO_7.out).2.2 x16_4 p228 q228
                   cases e228
                   replace p228:=eq_true p228
                   replace q228:=eq_true q228
                   refine start_ (n:=16) (S:=fun w'=>w'.cell? (ad226.add (x16_4).toNat) = some (.int .i64 (rd t219 x16_4)) ∧ w'.cell? (ad226.add (x16_4).toNat) = some (.int .i64 (rd t219 x16_4)) ∧ w'.cell? (ad228.add (x16_4).toNat) = some (.int .i64 (rd t207 x16_4))) (ds:=[]) #[false, false, false, false, false, false, false, false, false, false, false, false, false, false, false, false] (by kernel_rfl) rfl rfl ⟨hx226_0, hx227_0, hx228_0⟩ (fun hHeld=>?_);refine with_tabW cl47_WaterfallBack.tab15 cl47_WaterfallBack.bits15 (fun HT_ HW_=>?_)
                   generalize wr.drew = w46 at HO_7 HO_13 HB hx226_0 hx227_0 hx228_0 hHeld ⊢
                   refine pure_ (i:=0) (N:=some 111) (v:=?_) (a':=?_) #[true, false, false, false, false, false, false, false, false, false, false, false, false, false, false, false] rfl rfl (any_of HT_.out (by kernel_rfl)) (fun _ _ _ h=>h) (Or.inl ⟨by rfl, ?_⟩) ?_ ?_
                   rotate_left
                   ·intro w'
                    go_simp
                    with_reducible rfl
                   rotate_left
                   ·simp only [Act.put, List.setIfInBounds_toArray, List.set_cons_zero, List.set_cons_succ, i64_w, i32_w]
                    rfl
                   refine pure_ (i:=1) (N:=some 112) (v:=?_) (a':=?_) #[true, true, false, false, false, false, false, false, false, false, false, false, false, false, false, false] rfl rfl (any_of HT_.out (by kernel_rfl)) (fun _ _ _ h=>h) (Or.inl ⟨by rfl, ?_⟩) ?_ ?_
                   rotate_left
                   ·intro w'
                    go_simp
                    with_reducible rfl
                   rotate_left
                   ·simp only [Act.put, List.setIfInBounds_toArray, List.set_cons_zero, List.set_cons_succ, i64_w, i32_w]
                    rfl
                   refine pure_ (i:=2) (N:=some 113) (v:=?_) (a':=?_) #[true, true, true, false, false, false, false, false, false, false, false, false, false, false, false, false] rfl rfl (any_of HT_.out (by kernel_rfl)) (fun _ _ _ h=>h) (Or.inl ⟨by rfl, ?_⟩) ?_ ?_
                   rotate_left
                   ·intro w'
                    go_simp
                    with_reducible rfl
                   rotate_left
                   ·simp only [Act.put, List.setIfInBounds_toArray, List.set_cons_zero, List.set_cons_succ, i64_w, i32_w]
                    rfl
                   refine take_ (i:=3) (N:=some 114) (v:=?_) (a':=?_) #[true, true, true, true, false, false, false, false, false, false, false, false, false, false, false, false] rfl rfl (take_ofW HT_.out HW_.out (by kernel_rfl)) (fun _ _ _ h=>h) (Or.inl ⟨by rfl, ?_⟩) hHeld ?_ ?_
                   rotate_left
                   ·rintro w' ⟨s0, s1, s2⟩
                    go_simp
                    with_reducible rfl
                   rotate_left
                   ·simp only [Act.put, List.setIfInBounds_toArray, List.set_cons_zero, List.set_cons_succ, i64_w, i32_w]
                    rfl
                   refine pure_ (i:=4) (N:=some 115) (v:=?_) (a':=?_) #[true, true, true, true, true, false, false, false, false, false, false, false, false, false, false, false] rfl rfl (any_of HT_.out (by kernel_rfl)) (fun _ _ _ h=>h) (Or.inl ⟨by rfl, ?_⟩) ?_ ?_
                   rotate_left
                   ·intro w'
                    go_simp
                    with_reducible rfl
                   rotate_left
                   ·simp only [Act.put, List.setIfInBounds_toArray, List.set_cons_zero, List.set_cons_succ, i64_w, i32_w]
                    rfl
                   refine pure_ (i:=5) (N:=some 116) (v:=?_) (a':=?_) #[true, true, true, true, true, true, false, false, false, false, false, false, false, false, false, false] rfl rfl (any_of HT_.out (by kernel_rfl)) (fun _ _ _ h=>h) (Or.inl ⟨by rfl, ?_⟩) ?_ ?_
                   rotate_left
                   ·intro w'
                    go_simp
                    with_reducible rfl
                   rotate_left
                   ·simp only [Act.put, List.setIfInBounds_toArray, List.set_cons_zero, List.set_cons_succ, i64_w, i32_w]
                    rfl
                   refine pure_ (i:=6) (N:=some 117) (v:=?_) (a':=?_) #[true, true, true, true, true, true, true, false, false, false, false, false, false, false, false, false] rfl rfl (any_of HT_.out (by kernel_rfl)) (fun _ _ _ h=>h) (Or.inl ⟨by rfl, ?_⟩) ?_ ?_
                   rotate_left
                   ·intro w'
                    go_simp
                    with_reducible rfl
                   rotate_left
                   ·simp only [Act.put, List.setIfInBounds_toArray, List.set_cons_zero, List.set_cons_succ, i64_w, i32_w]
                    rfl
                   refine pure_ (i:=7) (N:=some 118) (v:=?_) (a':=?_) #[true, true, true, true, true, true, true, true, false, false, false, false, false, false, false, false] rfl rfl (any_of HT_.out (by kernel_rfl)) (fun _ _ _ h=>h) (Or.inl ⟨by rfl, ?_⟩) ?_ ?_
                   rotate_left
                   ·intro w'
                    go_simp
                    with_reducible rfl
                   rotate_left
                   ·simp only [Act.put, List.setIfInBounds_toArray, List.set_cons_zero, List.set_cons_succ, i64_w, i32_w]
                    rfl
                   refine pure_ (i:=8) (N:=some 119) (v:=?_) (a':=?_) #[true, true, true, true, true, true, true, true, true, false, false, false, false, false, false, false] rfl rfl (any_of HT_.out (by kernel_rfl)) (fun _ _ _ h=>h) (Or.inl ⟨by rfl, ?_⟩) ?_ ?_
                   rotate_left
                   ·intro w'
                    go_simp
                    with_reducible rfl
                   rotate_left
                   ·simp only [Act.put, List.setIfInBounds_toArray, List.set_cons_zero, List.set_cons_succ, i64_w, i32_w]
                    rfl
                   refine pure_ (i:=10) (N:=some 121) (v:=?_) (a':=?_) #[true, true, true, true, true, true, true, true, true, false, true, false, false, false, false, false] rfl rfl (any_of HT_.out (by kernel_rfl)) (fun _ _ _ h=>h) (Or.inl ⟨by rfl, ?_⟩) ?_ ?_
                   rotate_left
                   ·intro w'
                    go_simp
                    with_reducible rfl
                   rotate_left
                   ·simp only [Act.put, List.setIfInBounds_toArray, List.set_cons_zero, List.set_cons_succ, i64_w, i32_w]
                    rfl
                   refine pure_ (i:=11) (N:=some 122) (v:=?_) (a':=?_) #[true, true, true, true, true, true, true, true, true, false, true, true, false, false, false, false] rfl rfl (any_of HT_.out (by kernel_rfl)) (fun _ _ _ h=>h) (Or.inl ⟨by rfl, ?_⟩) ?_ ?_
                   rotate_left
                   ·intro w'
                    go_simp
                    with_reducible rfl
                   rotate_left
                   ·simp only [Act.put, List.setIfInBounds_toArray, List.set_cons_zero, List.set_cons_succ, i64_w, i32_w]
                    rfl
                   refine pure_ (i:=12) (N:=some 123) (v:=?_) (a':=?_) #[true, true, true, true, true, true, true, true, true, false, true, true, true, false, false, false] rfl rfl (any_of HT_.out (by kernel_rfl)) (fun _ _ _ h=>h) (Or.inl ⟨by rfl, ?_⟩) ?_ ?_
                   rotate_left
                   ·intro w'
                    go_simp
                    with_reducible rfl
                   rotate_left
                   ·simp only [Act.put, List.setIfInBounds_toArray, List.set_cons_zero, List.set_cons_succ, i64_w, i32_w]
                    rfl
                   refine take_ (i:=9) (N:=some 120) (v:=?_) (a':=?_) #[true, true, true, true, true, true, true, true, true, true, true, true, true, false, false, false] rfl rfl (take_ofW HT_.out HW_.out (by kernel_rfl)) (fun _ _ _ h=>h) (Or.inl ⟨by rfl, ?_⟩) hHeld ?_ ?_
                   rotate_left
                   ·rintro w' ⟨s0, s1, s2⟩
                    go_simp
                    with_reducible rfl
                   rotate_left
                   ·simp only [Act.put, List.setIfInBounds_toArray, List.set_cons_zero, List.set_cons_succ, i64_w, i32_w]
                    rfl
                   refine take_ (i:=13) (N:=some 124) (v:=?_) (a':=?_) #[true, true, true, true, true, true, true, true, true, true, true, true, true, true, false, false] rfl rfl (take_ofW HT_.out HW_.out (by kernel_rfl)) (fun _ _ _ h=>h) (Or.inl ⟨by rfl, ?_⟩) hHeld ?_ ?_
                   rotate_left
                   ·rintro w' ⟨s0, s1, s2⟩
                    go_simp
                    with_reducible rfl
                   rotate_left
                   ·simp only [Act.put, List.setIfInBounds_toArray, List.set_cons_zero, List.set_cons_succ, i64_w, i32_w]
                    rfl
                   refine pure_ (i:=14) (N:=some 125) (v:=?_) (a':=?_) #[true, true, true, true, true, true, true, true, true, true, true, true, true, true, true, false] rfl rfl (any_of HT_.out (by kernel_rfl)) (fun _ _ _ h=>h) (Or.inl ⟨by rfl, ?_⟩) ?_ ?_
                   rotate_left
                   ·intro w'
                    go_simp
                    with_reducible rfl
                   rotate_left
                   ·simp only [Act.put, List.setIfInBounds_toArray, List.set_cons_zero, List.set_cons_succ, i64_w, i32_w]
                    rfl
                   refine pure_ (i:=15) (N:=some 126) (v:=?_) (a':=?_) #[true, true, true, true, true, true, true, true, true, true, true, true, true, true, true, true] rfl rfl (any_of HT_.out (by kernel_rfl)) (fun _ _ _ h=>h) (Or.inl ⟨by rfl, ?_⟩) ?_ ?_
                   rotate_left
                   ·intro w'
                    go_simp
                    with_reducible rfl
                   rotate_left
                   ·simp only [Act.put, List.setIfInBounds_toArray, List.set_cons_zero, List.set_cons_succ, i64_w, i32_w]
                    rfl
                   refine done_ (done_of HT_.out (by kernel_rfl)) ?_
                   try go_wp2
                   go_meet
                   case rel=>exact ⟨_, (decide ((rd t219 x16_4) > (rd t207 x16_4))), (by first | rfl | (simp;done) | (simp [*];done)), H', ⟨by have:=HJ7.out;have:=HJ15.out;have:=HJ24.out;have:=HK4.out;first | omega | exact Nat.le_refl _⟩, ⟨by (with_reducible repeat (first | apply Kd.R_alloc | apply Kd.R_drewN | apply Kd.R_drew));exact HO_7.out⟩, ⟨by (with_reducible repeat (first | apply Kd.R_alloc | apply Kd.R_drewN | apply Kd.R_drew));exact HO_13.out⟩, ⟨by repeat (first | (with_reducible first | exact HB.out | apply below_alloc | apply pw_below_drewN | apply below_drew1) | exact HB.out)⟩⟩
                  ·rw [if_neg c45] at H
                   exact absurd H (by simp)
                ·rw [if_neg c41] at H
                 exact absurd H (by simp)
               ·rw [if_neg c40] at H
                exact absurd H (by simp)
              case rest =>
               clear HC39
               try clear c1
               try clear c2
               try clear p2
               try clear q2
               try clear hx2
               try clear c3
               try clear c4
               try clear c4b0
               try clear c4b1
               try clear c6
               try clear p6
               try clear c10
               try clear c10b0
               try clear c10b1
               try clear c11
               try clear c11b0
               try clear c12
               try clear c19
               try clear c19b0
               try clear c19b1
               try clear c20
               try clear c20b0
               try clear c20b1
               try clear p22
               try clear q22
               try clear hx22
               try clear c23
               try clear c27
               try clear c27b0
               try clear c27b1
               try clear c28
               try clear c28b0
               try clear c28b1
               try clear c28b2
               try clear c29
               try clear c29b0
               try clear c29b1
               try clear c29b2
               try clear c31
               try clear c31b0
               try clear c31b1
               try clear c37
               try clear c38
               try clear c38b0
               try clear c40
               try clear c40b0
               try clear c41
               try clear c41b0
               try clear c42
               try clear c42b0
               try clear c45
               try clear c45b0
               try clear hx226_0
               try clear hx227_0
               try clear hx228_0
               try clear p2
               try clear p226
               try clear p227
               try clear p228
               try clear p6
               try clear q226
               try clear q227
               try clear q228
               obtain ⟨kq, x126_38, rfl, HA, HJ38, HO_7, HO_13, HB⟩:=hcut
               cases kq with
               | zero=>exact absurd HA.out (by simp [cl47_WaterfallBack.j4])
               | succ kj38 =>
                have H:=HA.out
                clear HA
                simp only [cl47_WaterfallBack.j4] at H
                by_cases c48 : x126_38 = true
                ·subst c48
                 have H1 : (none) = some r:=by rw [if_pos rfl] at H;exact H
                 clear H
                 have H:=H1
                 clear H1
                 exact absurd H (by simp)
                ·replace c48:=Bool.eq_false_iff.mpr c48
                 subst c48
                 have H1 : (cl47_WaterfallBack.l1 kj38 l2 t207 t219 x16_4 0) = some r:=by rw [if_neg (show ¬ (false = true) by decide)] at H;exact H
                 clear H
                 have H:=H1
                 clear H1
                 have H':=Aside0.mk H
                 clear H
                 go_wp2
                 go_loopg [17] kj38 (fun kq v17 w'=>∃ (x17_6 : Int), v17 = .int .i64 x17_6 ∧ Aside0 (cl47_WaterfallBack.l1 kq l2 t207 t219 x16_4 x17_6 = some r) ∧ Aside0 (kq ≤ kj38) ∧ Aside0 (Kd.R (Kd.int .i64) 3 w' w.heap.size (fun k_=>some k_ ≠ (v222 : Value).ownBlock) (.slice Ao17 t207.length co17) t207) ∧ Aside0 (Kd.R (Kd.int .i64) 3 w' w.heap.size (fun k_=>some k_ ≠ ((.slice Ao17 t207.length co17) : Value).ownBlock) v222 t219) ∧ Aside0 (Below w.heap.size w w'))
                 case atStart=>exact ⟨(0), (by first | rfl | (simp;done) | (simp [*];done)), H', ⟨Nat.le_refl _⟩, ⟨by (with_reducible repeat (first | apply Kd.R_alloc | apply Kd.R_drewN | apply Kd.R_drew));exact HO_7.out⟩, ⟨by (with_reducible repeat (first | apply Kd.R_alloc | apply Kd.R_drewN | apply Kd.R_drew));exact HO_13.out⟩, ⟨by repeat (first | (with_reducible first | exact HB.out | apply below_alloc | apply pw_below_drewN | apply below_drew1) | exact HB.out)⟩⟩
                 case round =>
                  clear H'
                  try clear c1
                  try clear c2
                  try clear p2
                  try clear q2
                  try clear hx2
                  try clear c3
                  try clear c4
                  try clear c4b0
                  try clear c4b1
                  try clear c6
                  try clear p6
                  try clear c10
                  try clear c10b0
                  try clear c10b1
                  try clear c11
                  try clear c11b0
                  try clear c12
                  try clear c19
                  try clear c19b0
                  try clear c19b1
                  try clear c20
                  try clear c20b0
                  try clear c20b1
                  try clear p22
                  try clear q22
                  try clear hx22
                  try clear c23
                  try clear c27
                  try clear c27b0
                  try clear c27b1
                  try clear c28
                  try clear c28b0
                  try clear c28b1
                  try clear c28b2
                  try clear c29
                  try clear c29b0
                  try clear c29b1
                  try clear c29b2
                  try clear c31
                  try clear c31b0
                  try clear c31b1
                  try clear c37
                  try clear c38
                  try clear c38b0
                  try clear c40
                  try clear c40b0
                  try clear c41
                  try clear c41b0
                  try clear c42
                  try clear c42b0
                  try clear c45
                  try clear c45b0
                  try clear c48
                  try clear hx226_0
                  try clear hx227_0
                  try clear hx228_0
                  try clear p2
                  try clear p22
                  try clear p226
                  try clear p227
                  try clear p228
                  try clear p6
                  try clear q2
                  try clear q22
                  try clear q226
                  try clear q227
                  try clear q228
                  obtain ⟨x17_6, rfl, HA, HK6, HO_7, HO_13, HB⟩:=hrel
                  cases gk with
                  | zero=>exact absurd HA.out (by simp [cl47_WaterfallBack.l1])
                  | succ k6 =>
                   have H:=HA.out
                   clear HA
                   simp only [cl47_WaterfallBack.l1] at H
                   by_cases c49 : x17_6 < x16_4
                   ·rw [if_pos c49] at H
                    have c49b0 : decide (x17_6 < x16_4) = true:=decide_eq_true c49
                    clear c49
                    by_cases c50 : 0 ≤ x16_4
                    ·rw [if_pos c50] at H
                     have c50b0 : decide (0 ≤ x16_4) = true:=decide_eq_true c50
                     clear c50
                     by_cases c51 : x16_4 < (t219.length : Int)
                     ·rw [if_pos c51] at H
                      have c51b0 : decide (x16_4 < (t219.length : Int)) = true:=decide_eq_true c51
                      clear c51
                      by_cases c52 : x16_4 < (t207.length : Int)
                      ·rw [if_pos c52] at H
                       have c52b0 : decide (x16_4 < (t207.length : Int)) = true:=decide_eq_true c52
                       clear c52
                       by_cases c53 : (rd t219 x16_4) < (rd t207 x16_4)
                       ·rw [if_pos c53] at H
                        have c53b0 : decide ((rd t219 x16_4) < (rd t207 x16_4)) = true:=decide_eq_true c53
                        clear c53
                        by_cases c54 : 0 ≤ x17_6
                        ·rw [if_pos c54] at H
                         have c54b0 : decide (0 ≤ x17_6) = true:=decide_eq_true c54
                         clear c54
                         by_cases c55 : x17_6 < (t219.length : Int)
                         ·rw [if_pos c55] at H
                          have c55b0 : decide (x17_6 < (t219.length : Int)) = true:=decide_eq_true c55
                          clear c55
                          by_cases c56 : (rd t219 x17_6) > 0
                          ·rw [if_pos c56] at H
                           have c56b0 : decide (0 < (rd t219 x17_6)) = true:=decide_eq_true c56
                           clear c56
                           by_cases c57 : x17_6 < (l2.length : Int)
                           ·rw [if_pos c57] at H
                            have c57b0 : decide (x17_6 < (l2.length : Int)) = true:=decide_eq_true c57
                            clear c57
                            by_cases c58 : x16_4 < (l2.length : Int)
                            ·rw [if_pos c58] at H
                             have c58b0 : decide (x16_4 < (l2.length : Int)) = true:=decide_eq_true c58
                             clear c58
                             replace H:=Option.bind_eq_some_iff.mp H
                             obtain ⟨t234, A590, H⟩:=H
                             replace H : (if t234 = true then (cl47_WaterfallBack.l1 k6 l2 t207 t219 x16_4 (wrap64 (x17_6 + 1))) else (none)) = some r:=H
                             have A59:=Aside0.mk A590
                             clear A590
                             by_cases c60 : t234 = true
                             ·subst c60
                              have H1 : (cl47_WaterfallBack.l1 k6 l2 t207 t219 x16_4 (wrap64 (x17_6 + 1))) = some r:=by rw [if_pos rfl] at H;exact H
                              clear H
                              have H:=H1
                              clear H1
                              have H':=Aside0.mk H
                              clear H
                              try go_wp2
                              have n0_:=Aside0.mk (Kd.R_drew HO_7.out)
                              have n1_:=Aside0.mk (Kd.R_drew HO_13.out)
                              have n2_:=Aside0.mk (below_drew1 HB.out)
                              clear HO_7
                              clear HO_13
                              clear HB
                              have HO_7:=n0_
                              have HO_13:=n1_
                              have HB:=n2_
                              clear n0_ n1_ n2_
                              obtain ⟨Ao62, co62, eo62⟩:=Kd.R_slice HO_13.out
                              (first | subst eo62 | (injection eo62 with f1_ f2_ f3_;have f4_:=f1_.symm;have f5_:=f3_.symm;clear f1_ f2_ f3_;subst f4_;subst f5_))
                              have p229 : 0 ≤ (x16_4 : Int):=of_decide_eq_true (by first | (with_reducible assumption) | assumption)
                              have q229 : x16_4 < (t219.length : Int):=of_decide_eq_true (by first | (with_reducible assumption) | assumption)
                              obtain ⟨ad229, e229, hx229_0⟩:=Kd.at_int (Kd.R_reads' HO_13.out).2.2 x16_4 p229 q229
                              cases e229
                              replace p229:=eq_true p229
                              replace q229:=eq_true q229
                              have p230 : 0 ≤ (x16_4 : Int):=of_decide_eq_true (by first | (with_reducible assumption) | assumption)
                              have q230 : x16_4 < (t207.length : Int):=of_decide_eq_true (by first | (with_reducible assumption) | assumption)
                              obtain ⟨ad230, e230, hx230_0⟩:=Kd.at_int (Kd.R_reads' HO_7.out).2.2 x16_4 p230 q230
                              cases e230
                              replace p230:=eq_true p230
                              replace q230:=eq_true q230
                              have p231 : 0 ≤ (x17_6 : Int):=of_decide_eq_true (by first | (with_reducible assumption) | assumption)
                              have q231 : x17_6 < (t219.length : Int):=of_decide_eq_true (by first | (with_reducible assumption) | assumption)
                              obtain ⟨ad231, e231, hx231_0⟩:=Kd.at_int (Kd.R_reads' HO_13.out).2.2 x17_6 p231 q231
                              obtain rfl : ad229 = ad231:=(by injection e231)
                              replace p231:=eq_true p231
                              replace q231:=eq_true q231
                              have p232 : 0 ≤ (x17_6 : Int):=of_decide_eq_true (by first | (with_reducible assumption) | assumption)
                              have q232 : x17_6 < (l2.length : Int):=of_decide_eq_true (by first | (with_reducible assumption) | assumption)
                              obtain ⟨ad232, e232, hx232_0, hx232_1, hx232_2, hx232_3⟩:=at_T37 HR2.out x17_6 p232 q232
                              have hw232_3:=hx232_3
                              have hw232_2:=hx232_2
                              have hw232_1:=hx232_1
                              have hw232_0:=hx232_0
                              cases e232
                              replace hx232_0:=(HB.out.cell (World.block_lt_of_cell? w _ hx232_0)).trans hx232_0
                              replace hx232_1:=(HB.out.cell (World.block_lt_of_cell? w _ hx232_1)).trans hx232_1
                              replace hx232_2:=(HB.out.cell (World.block_lt_of_cell? w _ hx232_2)).trans hx232_2
                              replace hx232_3:=(HB.out.cell (World.block_lt_of_cell? w _ hx232_3)).trans hx232_3
                              replace p232:=eq_true p232
                              replace q232:=eq_true q232
                              have p233 : 0 ≤ (x16_4 : Int):=of_decide_eq_true (by first | (with_reducible assumption) | assumption)
                              have q233 : x16_4 < (l2.length : Int):=of_decide_eq_true (by first | (with_reducible assumption) | assumption)
                              obtain ⟨ad233, e233, hx233_0, hx233_1, hx233_2, hx233_3⟩:=at_T37 HR2.out x16_4 p233 q233
                              have hw233_3:=hx233_3
                              have hw233_2:=hx233_2
                              have hw233_1:=hx233_1
                              have hw233_0:=hx233_0
                              obtain rfl : ad232 = ad233:=(by injection e233)
                              replace hx233_0:=(HB.out.cell (World.block_lt_of_cell? w _ hx233_0)).trans hx233_0
                              replace hx233_1:=(HB.out.cell (World.block_lt_of_cell? w _ hx233_1)).trans hx233_1
                              replace hx233_2:=(HB.out.cell (World.block_lt_of_cell? w _ hx233_2)).trans hx233_2
                              replace hx233_3:=(HB.out.cell (World.block_lt_of_cell? w _ hx233_3)).trans hx233_3
                              replace p233:=eq_true p233
                              replace q233:=eq_true q233
                              refine start_ (n:=28) (S:=fun w'=>w'.cell? (ad229.add (x16_4).toNat) = some (.int .i64 (rd t219 x16_4)) ∧ w'.cell? (ad230.add (x16_4).toNat) = some (.int .i64 (rd t207 x16_4)) ∧ w'.cell? (ad229.add (x17_6).toNat) = some (.int .i64 (rd t219 x17_6)) ∧ w'.cell? (ad232.add ((x17_6).toNat * 4)) = some (.int .i64 ((rd_T37 l2 x17_6).f0)) ∧ w'.cell? ⟨(ad232.add ((x17_6).toNat * 4)).block, (ad232.add ((x17_6).toNat * 4)).off + 1, none⟩ = some (.int .i64 ((rd_T37 l2 x17_6).f1)) ∧ w'.cell? ⟨(ad232.add ((x17_6).toNat * 4)).block, (ad232.add ((x17_6).toNat * 4)).off + 2, none⟩ = some (.string ((rd_T37 l2 x17_6).f2)) ∧ w'.cell? ⟨(ad232.add ((x17_6).toNat * 4)).block, (ad232.add ((x17_6).toNat * 4)).off + 3, none⟩ = some (.int .i64 ((rd_T37 l2 x17_6).f3)) ∧ w'.cell? (ad232.add ((x16_4).toNat * 4)) = some (.int .i64 ((rd_T37 l2 x16_4).f0)) ∧ w'.cell? ⟨(ad232.add ((x16_4).toNat * 4)).block, (ad232.add ((x16_4).toNat * 4)).off + 1, none⟩ = some (.int .i64 ((rd_T37 l2 x16_4).f1)) ∧ w'.cell? ⟨(ad232.add ((x16_4).toNat * 4)).block, (ad232.add ((x16_4).toNat * 4)).off + 2, none⟩ = some (.string ((rd_T37 l2 x16_4).f2)) ∧ w'.cell? ⟨(ad232.add ((x16_4).toNat * 4)).block, (ad232.add ((x16_4).toNat * 4)).off + 3, none⟩ = some (.int .i64 ((rd_T37 l2 x16_4).f3))) (ds:=[]) #[false, false, false, false, false, false, false, false, false, false, false, false, false, false, false, false, false, false, false, false, false, false, false, false, false, false, false, false] (by kernel_rfl) rfl rfl ⟨hx229_0, hx230_0, hx231_0, ((HB.out.cell (World.block_lt_of_cell? w _ hw232_0)).trans hw232_0), ((HB.out.cell (World.block_lt_of_cell? w _ hw232_1)).trans hw232_1), ((HB.out.cell (World.block_lt_of_cell? w _ hw232_2)).trans hw232_2), ((HB.out.cell (World.block_lt_of_cell? w _ hw232_3)).trans hw232_3), ((HB.out.cell (World.block_lt_of_cell? w _ hw233_0)).trans hw233_0), ((HB.out.cell (World.block_lt_of_cell? w _ hw233_1)).trans hw233_1), ((HB.out.cell (World.block_lt_of_cell? w _ hw233_2)).trans hw233_2), ((HB.out.cell (World.block_lt_of_cell? w _ hw233_3)).trans hw233_3)⟩ (fun hHeld=>?_);refine with_tabW cl47_WaterfallBack.tab20 cl47_WaterfallBack.bits20 (fun HT_ HW_=>?_)
                              generalize wr.drew = w61 at HO_7 HO_13 HB hx229_0 hx230_0 hx231_0 hx232_0 hx232_1 hx232_2 hx232_3 hx233_0 hx233_1 hx233_2 hx233_3 hHeld ⊢
                              refine pure_ (i:=0) (N:=some 132) (v:=?_) (a':=?_) #[true, false, false, false, false, false, false, false, false, false, false, false, false, false, false, false, false, false, false, false, false, false, false, false, false, false, false, false] rfl rfl (any_of HT_.out (by kernel_rfl)) (fun _ _ _ h=>h) (Or.inl ⟨by rfl, ?_⟩) ?_ ?_
                              rotate_left
                              ·intro w'
                               go_simp
                               with_reducible rfl
                              rotate_left
                              ·simp only [Act.put, List.setIfInBounds_toArray, List.set_cons_zero, List.set_cons_succ, i64_w, i32_w]
                               rfl
                              refine pure_ (i:=1) (N:=some 133) (v:=?_) (a':=?_) #[true, true, false, false, false, false, false, false, false, false, false, false, false, false, false, false, false, false, false, false, false, false, false, false, false, false, false, false] rfl rfl (any_of HT_.out (by kernel_rfl)) (fun _ _ _ h=>h) (Or.inl ⟨by rfl, ?_⟩) ?_ ?_
                              rotate_left
                              ·intro w'
                               go_simp
                               with_reducible rfl
                              rotate_left
                              ·simp only [Act.put, List.setIfInBounds_toArray, List.set_cons_zero, List.set_cons_succ, i64_w, i32_w]
                               rfl
                              refine pure_ (i:=2) (N:=some 134) (v:=?_) (a':=?_) #[true, true, true, false, false, false, false, false, false, false, false, false, false, false, false, false, false, false, false, false, false, false, false, false, false, false, false, false] rfl rfl (any_of HT_.out (by kernel_rfl)) (fun _ _ _ h=>h) (Or.inl ⟨by rfl, ?_⟩) ?_ ?_
                              rotate_left
                              ·intro w'
                               go_simp
                               with_reducible rfl
                              rotate_left
                              ·simp only [Act.put, List.setIfInBounds_toArray, List.set_cons_zero, List.set_cons_succ, i64_w, i32_w]
                               rfl
                              refine pure_ (i:=4) (N:=some 136) (v:=?_) (a':=?_) #[true, true, true, false, true, false, false, false, false, false, false, false, false, false, false, false, false, false, false, false, false, false, false, false, false, false, false, false] rfl rfl (any_of HT_.out (by kernel_rfl)) (fun _ _ _ h=>h) (Or.inl ⟨by rfl, ?_⟩) ?_ ?_
                              rotate_left
                              ·intro w'
                               go_simp
                               with_reducible rfl
                              rotate_left
                              ·simp only [Act.put, List.setIfInBounds_toArray, List.set_cons_zero, List.set_cons_succ, i64_w, i32_w]
                               rfl
                              refine pure_ (i:=5) (N:=some 137) (v:=?_) (a':=?_) #[true, true, true, false, true, true, false, false, false, false, false, false, false, false, false, false, false, false, false, false, false, false, false, false, false, false, false, false] rfl rfl (any_of HT_.out (by kernel_rfl)) (fun _ _ _ h=>h) (Or.inl ⟨by rfl, ?_⟩) ?_ ?_
                              rotate_left
                              ·intro w'
                               go_simp
                               with_reducible rfl
                              rotate_left
                              ·simp only [Act.put, List.setIfInBounds_toArray, List.set_cons_zero, List.set_cons_succ, i64_w, i32_w]
                               rfl
                              refine pure_ (i:=6) (N:=some 138) (v:=?_) (a':=?_) #[true, true, true, false, true, true, true, false, false, false, false, false, false, false, false, false, false, false, false, false, false, false, false, false, false, false, false, false] rfl rfl (any_of HT_.out (by kernel_rfl)) (fun _ _ _ h=>h) (Or.inl ⟨by rfl, ?_⟩) ?_ ?_
                              rotate_left
                              ·intro w'
                               go_simp
                               with_reducible rfl
                              rotate_left
                              ·simp only [Act.put, List.setIfInBounds_toArray, List.set_cons_zero, List.set_cons_succ, i64_w, i32_w]
                               rfl
                              refine take_ (i:=3) (N:=some 135) (v:=?_) (a':=?_) #[true, true, true, true, true, true, true, false, false, false, false, false, false, false, false, false, false, false, false, false, false, false, false, false, false, false, false, false] rfl rfl (take_ofW HT_.out HW_.out (by kernel_rfl)) (fun _ _ _ h=>h) (Or.inl ⟨by rfl, ?_⟩) hHeld ?_ ?_
                              rotate_left
                              ·rintro w' ⟨s0, s1, s2, s3, s4, s5, s6, s7, s8, s9, s10⟩
                               go_simp
                               with_reducible rfl
                              rotate_left
                              ·simp only [Act.put, List.setIfInBounds_toArray, List.set_cons_zero, List.set_cons_succ, i64_w, i32_w]
                               rfl
                              refine take_ (i:=7) (N:=some 139) (v:=?_) (a':=?_) #[true, true, true, true, true, true, true, true, false, false, false, false, false, false, false, false, false, false, false, false, false, false, false, false, false, false, false, false] rfl rfl (take_ofW HT_.out HW_.out (by kernel_rfl)) (fun _ _ _ h=>h) (Or.inl ⟨by rfl, ?_⟩) hHeld ?_ ?_
                              rotate_left
                              ·rintro w' ⟨s0, s1, s2, s3, s4, s5, s6, s7, s8, s9, s10⟩
                               go_simp
                               with_reducible rfl
                              rotate_left
                              ·simp only [Act.put, List.setIfInBounds_toArray, List.set_cons_zero, List.set_cons_succ, i64_w, i32_w]
                               rfl
                              refine pure_ (i:=8) (N:=some 140) (v:=?_) (a':=?_) #[true, true, true, true, true, true, true, true, true, false, false, false, false, false, false, false, false, false, false, false, false, false, false, false, false, false, false, false] rfl rfl (any_of HT_.out (by kernel_rfl)) (fun _ _ _ h=>h) (Or.inl ⟨by rfl, ?_⟩) ?_ ?_
                              rotate_left
                              ·intro w'
                               go_simp
                               with_reducible rfl
                              rotate_left
                              ·simp only [Act.put, List.setIfInBounds_toArray, List.set_cons_zero, List.set_cons_succ, i64_w, i32_w]
                               rfl
                              refine pure_ (i:=9) (N:=some 141) (v:=?_) (a':=?_) #[true, true, true, true, true, true, true, true, true, true, false, false, false, false, false, false, false, false, false, false, false, false, false, false, false, false, false, false] rfl rfl (any_of HT_.out (by kernel_rfl)) (fun _ _ _ h=>h) (Or.inl ⟨by rfl, ?_⟩) ?_ ?_
                              rotate_left
                              ·intro w'
                               go_simp
                               with_reducible rfl
                              rotate_left
                              ·simp only [Act.put, List.setIfInBounds_toArray, List.set_cons_zero, List.set_cons_succ, i64_w, i32_w]
                               rfl
                              refine pure_ (i:=10) (N:=some 142) (v:=?_) (a':=?_) #[true, true, true, true, true, true, true, true, true, true, true, false, false, false, false, false, false, false, false, false, false, false, false, false, false, false, false, false] rfl rfl (any_of HT_.out (by kernel_rfl)) (fun _ _ _ h=>h) (Or.inl ⟨by rfl, ?_⟩) ?_ ?_
                              rotate_left
                              ·intro w'
                               go_simp
                               with_reducible rfl
                              rotate_left
                              ·simp only [Act.put, List.setIfInBounds_toArray, List.set_cons_zero, List.set_cons_succ, i64_w, i32_w]
                               rfl
                              refine pure_ (i:=11) (N:=some 143) (v:=?_) (a':=?_) #[true, true, true, true, true, true, true, true, true, true, true, true, false, false, false, false, false, false, false, false, false, false, false, false, false, false, false, false] rfl rfl (any_of HT_.out (by kernel_rfl)) (fun _ _ _ h=>h) (Or.inl ⟨by rfl, ?_⟩) ?_ ?_
                              rotate_left
                              ·intro w'
                               go_simp
                               with_reducible rfl
                              rotate_left
                              ·simp only [Act.put, List.setIfInBounds_toArray, List.set_cons_zero, List.set_cons_succ, i64_w, i32_w]
                               rfl
                              refine pure_ (i:=12) (N:=some 144) (v:=?_) (a':=?_) #[true, true, true, true, true, true, true, true, true, true, true, true, true, false, false, false, false, false, false, false, false, false, false, false, false, false, false, false] rfl rfl (any_of HT_.out (by kernel_rfl)) (fun _ _ _ h=>h) (Or.inl ⟨by rfl, ?_⟩) ?_ ?_
                              rotate_left
                              ·intro w'
                               go_simp
                               with_reducible rfl
                              rotate_left
                              ·simp only [Act.put, List.setIfInBounds_toArray, List.set_cons_zero, List.set_cons_succ, i64_w, i32_w]
                               rfl
                              refine take_ (i:=13) (N:=some 145) (v:=?_) (a':=?_) #[true, true, true, true, true, true, true, true, true, true, true, true, true, true, false, false, false, false, false, false, false, false, false, false, false, false, false, false] rfl rfl (take_ofW HT_.out HW_.out (by kernel_rfl)) (fun _ _ _ h=>h) (Or.inl ⟨by rfl, ?_⟩) hHeld ?_ ?_
                              rotate_left
                              ·rintro w' ⟨s0, s1, s2, s3, s4, s5, s6, s7, s8, s9, s10⟩
                               go_simp
                               with_reducible rfl
                              rotate_left
                              ·simp only [Act.put, List.setIfInBounds_toArray, List.set_cons_zero, List.set_cons_succ, i64_w, i32_w]
                               rfl
                              refine pure_ (i:=14) (N:=some 146) (v:=?_) (a':=?_) #[true, true, true, true, true, true, true, true, true, true, true, true, true, true, true, false, false, false, false, false, false, false, false, false, false, false, false, false] rfl rfl (any_of HT_.out (by kernel_rfl)) (fun _ _ _ h=>h) (Or.inl ⟨by rfl, ?_⟩) ?_ ?_
                              rotate_left
                              ·intro w'
                               go_simp
                               with_reducible rfl
                              rotate_left
                              ·simp only [Act.put, List.setIfInBounds_toArray, List.set_cons_zero, List.set_cons_succ, i64_w, i32_w]
                               rfl
                              refine pure_ (i:=15) (N:=some 147) (v:=?_) (a':=?_) #[true, true, true, true, true, true, true, true, true, true, true, true, true, true, true, true, false, false, false, false, false, false, false, false, false, false, false, false] rfl rfl (any_of HT_.out (by kernel_rfl)) (fun _ _ _ h=>h) (Or.inl ⟨by rfl, ?_⟩) ?_ ?_
                              rotate_left
                              ·intro w'
                               go_simp
                               with_reducible rfl
                              rotate_left
                              ·simp only [Act.put, List.setIfInBounds_toArray, List.set_cons_zero, List.set_cons_succ, i64_w, i32_w]
                               rfl
                              refine pure_ (i:=16) (N:=some 148) (v:=?_) (a':=?_) #[true, true, true, true, true, true, true, true, true, true, true, true, true, true, true, true, true, false, false, false, false, false, false, false, false, false, false, false] rfl rfl (any_of HT_.out (by kernel_rfl)) (fun _ _ _ h=>h) (Or.inl ⟨by rfl, ?_⟩) ?_ ?_
                              rotate_left
                              ·intro w'
                               go_simp
                               with_reducible rfl
                              rotate_left
                              ·simp only [Act.put, List.setIfInBounds_toArray, List.set_cons_zero, List.set_cons_succ, i64_w, i32_w]
                               rfl
                              refine pure_ (i:=17) (N:=some 149) (v:=?_) (a':=?_) #[true, true, true, true, true, true, true, true, true, true, true, true, true, true, true, true, true, true, false, false, false, false, false, false, false, false, false, false] rfl rfl (any_of HT_.out (by kernel_rfl)) (fun _ _ _ h=>h) (Or.inl ⟨by rfl, ?_⟩) ?_ ?_
                              rotate_left
                              ·intro w'
                               go_simp
                               with_reducible rfl
                              rotate_left
                              ·simp only [Act.put, List.setIfInBounds_toArray, List.set_cons_zero, List.set_cons_succ, i64_w, i32_w]
                               rfl
                              refine pure_ (i:=18) (N:=some 150) (v:=?_) (a':=?_) #[true, true, true, true, true, true, true, true, true, true, true, true, true, true, true, true, true, true, true, false, false, false, false, false, false, false, false, false] rfl rfl (any_of HT_.out (by kernel_rfl)) (fun _ _ _ h=>h) (Or.inl ⟨by rfl, ?_⟩) ?_ ?_
                              rotate_left
                              ·intro w'
                               go_simp
                               with_reducible rfl
                              rotate_left
                              ·simp only [Act.put, List.setIfInBounds_toArray, List.set_cons_zero, List.set_cons_succ, i64_w, i32_w]
                               rfl
                              refine pure_ (i:=19) (N:=some 151) (v:=?_) (a':=?_) #[true, true, true, true, true, true, true, true, true, true, true, true, true, true, true, true, true, true, true, true, false, false, false, false, false, false, false, false] rfl rfl (any_of HT_.out (by kernel_rfl)) (fun _ _ _ h=>h) (Or.inl ⟨by rfl, ?_⟩) ?_ ?_
                              rotate_left
                              ·intro w'
                               go_simp
                               with_reducible rfl
                              rotate_left
                              ·simp only [Act.put, List.setIfInBounds_toArray, List.set_cons_zero, List.set_cons_succ, i64_w, i32_w]
                               rfl
                              refine pure_ (i:=21) (N:=some 153) (v:=?_) (a':=?_) #[true, true, true, true, true, true, true, true, true, true, true, true, true, true, true, true, true, true, true, true, false, true, false, false, false, false, false, false] rfl rfl (any_of HT_.out (by kernel_rfl)) (fun _ _ _ h=>h) (Or.inl ⟨by rfl, ?_⟩) ?_ ?_
                              rotate_left
                              ·intro w'
                               go_simp
                               with_reducible rfl
                              rotate_left
                              ·simp only [Act.put, List.setIfInBounds_toArray, List.set_cons_zero, List.set_cons_succ, i64_w, i32_w]
                               rfl
                              refine pure_ (i:=22) (N:=some 154) (v:=?_) (a':=?_) #[true, true, true, true, true, true, true, true, true, true, true, true, true, true, true, true, true, true, true, true, false, true, true, false, false, false, false, false] rfl rfl (any_of HT_.out (by kernel_rfl)) (fun _ _ _ h=>h) (Or.inl ⟨by rfl, ?_⟩) ?_ ?_
                              rotate_left
                              ·intro w'
                               go_simp
                               with_reducible rfl
                              rotate_left
                              ·simp only [Act.put, List.setIfInBounds_toArray, List.set_cons_zero, List.set_cons_succ, i64_w, i32_w]
                               rfl
                              refine pure_ (i:=23) (N:=some 155) (v:=?_) (a':=?_) #[true, true, true, true, true, true, true, true, true, true, true, true, true, true, true, true, true, true, true, true, false, true, true, true, false, false, false, false] rfl rfl (any_of HT_.out (by kernel_rfl)) (fun _ _ _ h=>h) (Or.inl ⟨by rfl, ?_⟩) ?_ ?_
                              rotate_left
                              ·intro w'
                               go_simp
                               with_reducible rfl
                              rotate_left
                              ·simp only [Act.put, List.setIfInBounds_toArray, List.set_cons_zero, List.set_cons_succ, i64_w, i32_w]
                               rfl
                              refine take_ (i:=20) (N:=some 152) (v:=?_) (a':=?_) #[true, true, true, true, true, true, true, true, true, true, true, true, true, true, true, true, true, true, true, true, true, true, true, true, false, false, false, false] rfl rfl (take_ofW HT_.out HW_.out (by kernel_rfl)) (fun _ _ _ h=>h) (Or.inl ⟨by rfl, ?_⟩) hHeld ?_ ?_
                              rotate_left
                              ·rintro w' ⟨s0, s1, s2, s3, s4, s5, s6, s7, s8, s9, s10⟩
                               go_simp
                               with_reducible rfl
                              rotate_left
                              ·simp only [Act.put, List.setIfInBounds_toArray, List.set_cons_zero, List.set_cons_succ, i64_w, i32_w]
                               rfl
                              refine take_ (i:=24) (N:=some 156) (v:=?_) (a':=?_) #[true, true, true, true, true, true, true, true, true, true, true, true, true, true, true, true, true, true, true, true, true, true, true, true, true, false, false, false] rfl rfl (take_ofW HT_.out HW_.out (by kernel_rfl)) (fun _ _ _ h=>h) (Or.inl ⟨by rfl, ?_⟩) hHeld ?_ ?_
                              rotate_left
                              ·rintro w' ⟨s0, s1, s2, s3, s4, s5, s6, s7, s8, s9, s10⟩
                               go_simp
                               with_reducible rfl
                              rotate_left
                              ·simp only [Act.put, List.setIfInBounds_toArray, List.set_cons_zero, List.set_cons_succ, i64_w, i32_w]
                               rfl
                              refine one_ (i:=25) (N:=some 157) #[true, true, true, true, true, true, true, true, true, true, true, true, true, true, true, true, true, true, true, true, true, true, true, true, true, true, false, false] rfl rfl (one_of HT_.out (by kernel_rfl)) (by decide) (fun K hK=>?_)
                              refine goes_ Try.func17 (by kernel_rfl) rfl #[.agg #[.int .i64 ((rd_T37 l2 x17_6).f0), .int .i64 ((rd_T37 l2 x17_6).f1), .string ((rd_T37 l2 x17_6).f2), .int .i64 ((rd_T37 l2 x17_6).f3)], .agg #[.int .i64 ((rd_T37 l2 x16_4).f0), .int .i64 ((rd_T37 l2 x16_4).f1), .string ((rd_T37 l2 x16_4).f2), .int .i64 ((rd_T37 l2 x16_4).f3)]] (by rfl) rfl rfl (by (try simp only [List.map_toArray, List.map_cons, List.map_nil]);first | done | rfl | (simp only [List.length_drop, List.length_take];rfl)) ?_
                              with_reducible refine (cr47_Turn.calls ((rd_T37 l2 x17_6).f0) ((rd_T37 l2 x17_6).f1) ((rd_T37 l2 x17_6).f2) ((rd_T37 l2 x17_6).f3) ((rd_T37 l2 x16_4).f0) ((rd_T37 l2 x16_4).f1) ((rd_T37 l2 x16_4).f2) ((rd_T37 l2 x16_4).f3) true _ A59.out).mono ?_
                              rintro e w63 ⟨rfl, hb⟩
                              have HS0_:=(hb.cell (World.block_lt_of_cell? _ _ (hHeld.1))).trans (hHeld.1)
                              have HS1_:=(hb.cell (World.block_lt_of_cell? _ _ (hHeld.2.1))).trans (hHeld.2.1)
                              have HS2_:=(hb.cell (World.block_lt_of_cell? _ _ (hHeld.2.2.1))).trans (hHeld.2.2.1)
                              refine ⟨_, rfl, ?_⟩
                              have n0_:=Aside0.mk (Kd.R_below (by (with_reducible repeat (first | apply Kd.R_alloc | apply Kd.R_drewN | apply Kd.R_drew));exact HO_7.out) hb)
                              have n1_:=Aside0.mk (Kd.R_below (by (with_reducible repeat (first | apply Kd.R_alloc | apply Kd.R_drewN | apply Kd.R_drew));exact HO_13.out) hb)
                              have n2_:=Aside0.mk (below_step (by repeat (first | (with_reducible first | exact HB.out | apply below_alloc | apply pw_below_drewN | apply below_drew1) | exact HB.out)) hb)
                              clear HO_7
                              clear HO_13
                              clear HB
                              have HO_7:=n0_
                              have HO_13:=n1_
                              have HB:=n2_
                              clear n0_ n1_ n2_
                              (try clear hb)
                              (try clear hb2)
                              (try clear hk)
                              (try clear hi)
                              refine hK.out _ _ ⟨HS0_, HS1_, HS2_, ((HB.out.cell (World.block_lt_of_cell? w _ hw232_0)).trans hw232_0), ((HB.out.cell (World.block_lt_of_cell? w _ hw232_1)).trans hw232_1), ((HB.out.cell (World.block_lt_of_cell? w _ hw232_2)).trans hw232_2), ((HB.out.cell (World.block_lt_of_cell? w _ hw232_3)).trans hw232_3), ((HB.out.cell (World.block_lt_of_cell? w _ hw233_0)).trans hw233_0), ((HB.out.cell (World.block_lt_of_cell? w _ hw233_1)).trans hw233_1), ((HB.out.cell (World.block_lt_of_cell? w _ hw233_2)).trans hw233_2), ((HB.out.cell (World.block_lt_of_cell? w _ hw233_3)).trans hw233_3)⟩ (fun hHeld=>?_)
                              clear hK K
                              refine norm_ (a':=?_) ?_ ?_
                              rotate_left
                              ·show Act.put _ (some 157) _ = _
                               simp only [Act.put, List.setIfInBounds_toArray, List.set_cons_zero, List.set_cons_succ, i64_w, i32_w]
                               rfl
                              refine pure_ (i:=26) (N:=some 158) (v:=?_) (a':=?_) #[true, true, true, true, true, true, true, true, true, true, true, true, true, true, true, true, true, true, true, true, true, true, true, true, true, true, true, false] rfl rfl (any_of HT_.out (by kernel_rfl)) (fun _ _ _ h=>h) (Or.inl ⟨by rfl, ?_⟩) ?_ ?_
                              rotate_left
                              ·intro w'
                               go_simp
                               with_reducible rfl
                              rotate_left
                              ·simp only [Act.put, List.setIfInBounds_toArray, List.set_cons_zero, List.set_cons_succ, i64_w, i32_w]
                               rfl
                              refine pure_ (i:=27) (N:=some 159) (v:=?_) (a':=?_) #[true, true, true, true, true, true, true, true, true, true, true, true, true, true, true, true, true, true, true, true, true, true, true, true, true, true, true, true] rfl rfl (any_of HT_.out (by kernel_rfl)) (fun _ _ _ h=>h) (Or.inl ⟨by rfl, ?_⟩) ?_ ?_
                              rotate_left
                              ·intro w'
                               go_simp
                               with_reducible rfl
                              rotate_left
                              ·simp only [Act.put, List.setIfInBounds_toArray, List.set_cons_zero, List.set_cons_succ, i64_w, i32_w]
                               rfl
                              refine done_ (done_of HT_.out (by kernel_rfl)) ?_
                              try go_wp2
                              go_roundg k6
                              case measure=>have:=HJ7.out;have:=HJ15.out;have:=HJ24.out;have:=HK4.out;have:=HJ38.out;have:=HK6.out;omega
                              case rel=>exact ⟨(wrap64 (x17_6 + 1)), (by first | rfl | (simp;done) | (simp [*];done)), H', ⟨by have:=HJ7.out;have:=HJ15.out;have:=HJ24.out;have:=HK4.out;have:=HJ38.out;have:=HK6.out;omega⟩, ⟨by (with_reducible repeat (first | apply Kd.R_alloc | apply Kd.R_drewN | apply Kd.R_drew));exact HO_7.out⟩, ⟨by (with_reducible repeat (first | apply Kd.R_alloc | apply Kd.R_drewN | apply Kd.R_drew));exact HO_13.out⟩, ⟨by repeat (first | (with_reducible first | exact HB.out | apply below_alloc | apply pw_below_drewN | apply below_drew1) | exact HB.out)⟩⟩
                             ·replace c60:=Bool.eq_false_iff.mpr c60
                              subst c60
                              have H1 : (none) = some r:=by rw [if_neg (show ¬ (false = true) by decide)] at H;exact H
                              clear H
                              have H:=H1
                              clear H1
                              exact absurd H (by simp)
                            ·rw [if_neg c58] at H
                             exact absurd H (by simp)
                           ·rw [if_neg c57] at H
                            exact absurd H (by simp)
                          ·rw [if_neg c56] at H
                           have c56b0 : decide (0 < (rd t219 x17_6)) = false:=decide_eq_false c56
                           clear c56
                           have H':=Aside0.mk H
                           clear H
                           try go_wp2
                           have n0_:=Aside0.mk (Kd.R_drew HO_7.out)
                           have n1_:=Aside0.mk (Kd.R_drew HO_13.out)
                           have n2_:=Aside0.mk (below_drew1 HB.out)
                           clear HO_7
                           clear HO_13
                           clear HB
                           have HO_7:=n0_
                           have HO_13:=n1_
                           have HB:=n2_
                           clear n0_ n1_ n2_
                           obtain ⟨Ao65, co65, eo65⟩:=Kd.R_slice HO_13.out
                           (first | subst eo65 | (injection eo65 with f1_ f2_ f3_;have f4_:=f1_.symm;have f5_:=f3_.symm;clear f1_ f2_ f3_;subst f4_;subst f5_))
                           have p229 : 0 ≤ (x16_4 : Int):=of_decide_eq_true (by first | (with_reducible assumption) | assumption)
                           have q229 : x16_4 < (t219.length : Int):=of_decide_eq_true (by first | (with_reducible assumption) | assumption)
                           obtain ⟨ad229, e229, hx229_0⟩:=Kd.at_int (Kd.R_reads' HO_13.out).2.2 x16_4 p229 q229
                           cases e229
                           replace p229:=eq_true p229
                           replace q229:=eq_true q229
                           have p230 : 0 ≤ (x16_4 : Int):=of_decide_eq_true (by first | (with_reducible assumption) | assumption)
                           have q230 : x16_4 < (t207.length : Int):=of_decide_eq_true (by first | (with_reducible assumption) | assumption)
                           obtain ⟨ad230, e230, hx230_0⟩:=Kd.at_int (Kd.R_reads' HO_7.out).2.2 x16_4 p230 q230
                           cases e230
                           replace p230:=eq_true p230
                           replace q230:=eq_true q230
                           have p231 : 0 ≤ (x17_6 : Int):=of_decide_eq_true (by first | (with_reducible assumption) | assumption)
                           have q231 : x17_6 < (t219.length : Int):=of_decide_eq_true (by first | (with_reducible assumption) | assumption)
                           obtain ⟨ad231, e231, hx231_0⟩:=Kd.at_int (Kd.R_reads' HO_13.out).2.2 x17_6 p231 q231
                           obtain rfl : ad229 = ad231:=(by injection e231)
                           replace p231:=eq_true p231
                           replace q231:=eq_true q231
                           refine start_ (n:=28) (S:=fun w'=>w'.cell? (ad229.add (x16_4).toNat) = some (.int .i64 (rd t219 x16_4)) ∧ w'.cell? (ad230.add (x16_4).toNat) = some (.int .i64 (rd t207 x16_4)) ∧ w'.cell? (ad229.add (x17_6).toNat) = some (.int .i64 (rd t219 x17_6))) (ds:=[]) #[false, false, false, false, false, false, false, false, false, false, false, false, false, false, false, false, false, false, false, false, false, false, false, false, false, false, false, false] (by kernel_rfl) rfl rfl ⟨hx229_0, hx230_0, hx231_0⟩ (fun hHeld=>?_);refine with_tabW cl47_WaterfallBack.tab20 cl47_WaterfallBack.bits20 (fun HT_ HW_=>?_)
                           generalize wr.drew = w64 at HO_7 HO_13 HB hx229_0 hx230_0 hx231_0 hHeld ⊢
                           refine pure_ (i:=0) (N:=some 132) (v:=?_) (a':=?_) #[true, false, false, false, false, false, false, false, false, false, false, false, false, false, false, false, false, false, false, false, false, false, false, false, false, false, false, false] rfl rfl (any_of HT_.out (by kernel_rfl)) (fun _ _ _ h=>h) (Or.inl ⟨by rfl, ?_⟩) ?_ ?_
                           rotate_left
                           ·intro w'
                            go_simp
                            with_reducible rfl
                           rotate_left
                           ·simp only [Act.put, List.setIfInBounds_toArray, List.set_cons_zero, List.set_cons_succ, i64_w, i32_w]
                            rfl
                           refine pure_ (i:=1) (N:=some 133) (v:=?_) (a':=?_) #[true, true, false, false, false, false, false, false, false, false, false, false, false, false, false, false, false, false, false, false, false, false, false, false, false, false, false, false] rfl rfl (any_of HT_.out (by kernel_rfl)) (fun _ _ _ h=>h) (Or.inl ⟨by rfl, ?_⟩) ?_ ?_
                           rotate_left
                           ·intro w'
                            go_simp
                            with_reducible rfl
                           rotate_left
                           ·simp only [Act.put, List.setIfInBounds_toArray, List.set_cons_zero, List.set_cons_succ, i64_w, i32_w]
                            rfl
                           refine pure_ (i:=2) (N:=some 134) (v:=?_) (a':=?_) #[true, true, true, false, false, false, false, false, false, false, false, false, false, false, false, false, false, false, false, false, false, false, false, false, false, false, false, false] rfl rfl (any_of HT_.out (by kernel_rfl)) (fun _ _ _ h=>h) (Or.inl ⟨by rfl, ?_⟩) ?_ ?_
                           rotate_left
                           ·intro w'
                            go_simp
                            with_reducible rfl
                           rotate_left
                           ·simp only [Act.put, List.setIfInBounds_toArray, List.set_cons_zero, List.set_cons_succ, i64_w, i32_w]
                            rfl
                           refine pure_ (i:=4) (N:=some 136) (v:=?_) (a':=?_) #[true, true, true, false, true, false, false, false, false, false, false, false, false, false, false, false, false, false, false, false, false, false, false, false, false, false, false, false] rfl rfl (any_of HT_.out (by kernel_rfl)) (fun _ _ _ h=>h) (Or.inl ⟨by rfl, ?_⟩) ?_ ?_
                           rotate_left
                           ·intro w'
                            go_simp
                            with_reducible rfl
                           rotate_left
                           ·simp only [Act.put, List.setIfInBounds_toArray, List.set_cons_zero, List.set_cons_succ, i64_w, i32_w]
                            rfl
                           refine pure_ (i:=5) (N:=some 137) (v:=?_) (a':=?_) #[true, true, true, false, true, true, false, false, false, false, false, false, false, false, false, false, false, false, false, false, false, false, false, false, false, false, false, false] rfl rfl (any_of HT_.out (by kernel_rfl)) (fun _ _ _ h=>h) (Or.inl ⟨by rfl, ?_⟩) ?_ ?_
                           rotate_left
                           ·intro w'
                            go_simp
                            with_reducible rfl
                           rotate_left
                           ·simp only [Act.put, List.setIfInBounds_toArray, List.set_cons_zero, List.set_cons_succ, i64_w, i32_w]
                            rfl
                           refine pure_ (i:=6) (N:=some 138) (v:=?_) (a':=?_) #[true, true, true, false, true, true, true, false, false, false, false, false, false, false, false, false, false, false, false, false, false, false, false, false, false, false, false, false] rfl rfl (any_of HT_.out (by kernel_rfl)) (fun _ _ _ h=>h) (Or.inl ⟨by rfl, ?_⟩) ?_ ?_
                           rotate_left
                           ·intro w'
                            go_simp
                            with_reducible rfl
                           rotate_left
                           ·simp only [Act.put, List.setIfInBounds_toArray, List.set_cons_zero, List.set_cons_succ, i64_w, i32_w]
                            rfl
                           refine take_ (i:=3) (N:=some 135) (v:=?_) (a':=?_) #[true, true, true, true, true, true, true, false, false, false, false, false, false, false, false, false, false, false, false, false, false, false, false, false, false, false, false, false] rfl rfl (take_ofW HT_.out HW_.out (by kernel_rfl)) (fun _ _ _ h=>h) (Or.inl ⟨by rfl, ?_⟩) hHeld ?_ ?_
                           rotate_left
                           ·rintro w' ⟨s0, s1, s2⟩
                            go_simp
                            with_reducible rfl
                           rotate_left
                           ·simp only [Act.put, List.setIfInBounds_toArray, List.set_cons_zero, List.set_cons_succ, i64_w, i32_w]
                            rfl
                           refine take_ (i:=7) (N:=some 139) (v:=?_) (a':=?_) #[true, true, true, true, true, true, true, true, false, false, false, false, false, false, false, false, false, false, false, false, false, false, false, false, false, false, false, false] rfl rfl (take_ofW HT_.out HW_.out (by kernel_rfl)) (fun _ _ _ h=>h) (Or.inl ⟨by rfl, ?_⟩) hHeld ?_ ?_
                           rotate_left
                           ·rintro w' ⟨s0, s1, s2⟩
                            go_simp
                            with_reducible rfl
                           rotate_left
                           ·simp only [Act.put, List.setIfInBounds_toArray, List.set_cons_zero, List.set_cons_succ, i64_w, i32_w]
                            rfl
                           refine pure_ (i:=8) (N:=some 140) (v:=?_) (a':=?_) #[true, true, true, true, true, true, true, true, true, false, false, false, false, false, false, false, false, false, false, false, false, false, false, false, false, false, false, false] rfl rfl (any_of HT_.out (by kernel_rfl)) (fun _ _ _ h=>h) (Or.inl ⟨by rfl, ?_⟩) ?_ ?_
                           rotate_left
                           ·intro w'
                            go_simp
                            with_reducible rfl
                           rotate_left
                           ·simp only [Act.put, List.setIfInBounds_toArray, List.set_cons_zero, List.set_cons_succ, i64_w, i32_w]
                            rfl
                           refine pure_ (i:=9) (N:=some 141) (v:=?_) (a':=?_) #[true, true, true, true, true, true, true, true, true, true, false, false, false, false, false, false, false, false, false, false, false, false, false, false, false, false, false, false] rfl rfl (any_of HT_.out (by kernel_rfl)) (fun _ _ _ h=>h) (Or.inl ⟨by rfl, ?_⟩) ?_ ?_
                           rotate_left
                           ·intro w'
                            go_simp
                            with_reducible rfl
                           rotate_left
                           ·simp only [Act.put, List.setIfInBounds_toArray, List.set_cons_zero, List.set_cons_succ, i64_w, i32_w]
                            rfl
                           refine pure_ (i:=10) (N:=some 142) (v:=?_) (a':=?_) #[true, true, true, true, true, true, true, true, true, true, true, false, false, false, false, false, false, false, false, false, false, false, false, false, false, false, false, false] rfl rfl (any_of HT_.out (by kernel_rfl)) (fun _ _ _ h=>h) (Or.inl ⟨by rfl, ?_⟩) ?_ ?_
                           rotate_left
                           ·intro w'
                            go_simp
                            with_reducible rfl
                           rotate_left
                           ·simp only [Act.put, List.setIfInBounds_toArray, List.set_cons_zero, List.set_cons_succ, i64_w, i32_w]
                            rfl
                           refine pure_ (i:=11) (N:=some 143) (v:=?_) (a':=?_) #[true, true, true, true, true, true, true, true, true, true, true, true, false, false, false, false, false, false, false, false, false, false, false, false, false, false, false, false] rfl rfl (any_of HT_.out (by kernel_rfl)) (fun _ _ _ h=>h) (Or.inl ⟨by rfl, ?_⟩) ?_ ?_
                           rotate_left
                           ·intro w'
                            go_simp
                            with_reducible rfl
                           rotate_left
                           ·simp only [Act.put, List.setIfInBounds_toArray, List.set_cons_zero, List.set_cons_succ, i64_w, i32_w]
                            rfl
                           refine pure_ (i:=12) (N:=some 144) (v:=?_) (a':=?_) #[true, true, true, true, true, true, true, true, true, true, true, true, true, false, false, false, false, false, false, false, false, false, false, false, false, false, false, false] rfl rfl (any_of HT_.out (by kernel_rfl)) (fun _ _ _ h=>h) (Or.inl ⟨by rfl, ?_⟩) ?_ ?_
                           rotate_left
                           ·intro w'
                            go_simp
                            with_reducible rfl
                           rotate_left
                           ·simp only [Act.put, List.setIfInBounds_toArray, List.set_cons_zero, List.set_cons_succ, i64_w, i32_w]
                            rfl
                           refine take_ (i:=13) (N:=some 145) (v:=?_) (a':=?_) #[true, true, true, true, true, true, true, true, true, true, true, true, true, true, false, false, false, false, false, false, false, false, false, false, false, false, false, false] rfl rfl (take_ofW HT_.out HW_.out (by kernel_rfl)) (fun _ _ _ h=>h) (Or.inl ⟨by rfl, ?_⟩) hHeld ?_ ?_
                           rotate_left
                           ·rintro w' ⟨s0, s1, s2⟩
                            go_simp
                            with_reducible rfl
                           rotate_left
                           ·simp only [Act.put, List.setIfInBounds_toArray, List.set_cons_zero, List.set_cons_succ, i64_w, i32_w]
                            rfl
                           refine pure_ (i:=14) (N:=some 146) (v:=?_) (a':=?_) #[true, true, true, true, true, true, true, true, true, true, true, true, true, true, true, false, false, false, false, false, false, false, false, false, false, false, false, false] rfl rfl (any_of HT_.out (by kernel_rfl)) (fun _ _ _ h=>h) (Or.inl ⟨by rfl, ?_⟩) ?_ ?_
                           rotate_left
                           ·intro w'
                            go_simp
                            with_reducible rfl
                           rotate_left
                           ·simp only [Act.put, List.setIfInBounds_toArray, List.set_cons_zero, List.set_cons_succ, i64_w, i32_w]
                            rfl
                           refine pure_ (i:=15) (N:=some 147) (v:=?_) (a':=?_) #[true, true, true, true, true, true, true, true, true, true, true, true, true, true, true, true, false, false, false, false, false, false, false, false, false, false, false, false] rfl rfl (any_of HT_.out (by kernel_rfl)) (fun _ _ _ h=>h) (Or.inl ⟨by rfl, ?_⟩) ?_ ?_
                           rotate_left
                           ·intro w'
                            go_simp
                            with_reducible rfl
                           rotate_left
                           ·simp only [Act.put, List.setIfInBounds_toArray, List.set_cons_zero, List.set_cons_succ, i64_w, i32_w]
                            rfl
                           refine pure_ (i:=16) (N:=some 148) (v:=?_) (a':=?_) #[true, true, true, true, true, true, true, true, true, true, true, true, true, true, true, true, true, false, false, false, false, false, false, false, false, false, false, false] rfl rfl (any_of HT_.out (by kernel_rfl)) (fun _ _ _ h=>h) (Or.inl ⟨by rfl, ?_⟩) ?_ ?_
                           rotate_left
                           ·intro w'
                            go_simp
                            with_reducible rfl
                           rotate_left
                           ·simp only [Act.put, List.setIfInBounds_toArray, List.set_cons_zero, List.set_cons_succ, i64_w, i32_w]
                            rfl
                           refine pure_ (i:=17) (N:=some 149) (v:=undef) (a':=?_) #[true, true, true, true, true, true, true, true, true, true, true, true, true, true, true, true, true, true, false, false, false, false, false, false, false, false, false, false] rfl rfl (any_of HT_.out (by kernel_rfl)) (fun _ _ _ h=>h) (Or.inr ⟨by rfl, rfl⟩) ?_ ?_
                           rotate_left
                           ·simp only [Act.put, List.setIfInBounds_toArray, List.set_cons_zero, List.set_cons_succ, i64_w, i32_w]
                            rfl
                           refine pure_ (i:=18) (N:=some 150) (v:=undef) (a':=?_) #[true, true, true, true, true, true, true, true, true, true, true, true, true, true, true, true, true, true, true, false, false, false, false, false, false, false, false, false] rfl rfl (any_of HT_.out (by kernel_rfl)) (fun _ _ _ h=>h) (Or.inr ⟨by rfl, rfl⟩) ?_ ?_
                           rotate_left
                           ·simp only [Act.put, List.setIfInBounds_toArray, List.set_cons_zero, List.set_cons_succ, i64_w, i32_w]
                            rfl
                           refine pure_ (i:=19) (N:=some 151) (v:=undef) (a':=?_) #[true, true, true, true, true, true, true, true, true, true, true, true, true, true, true, true, true, true, true, true, false, false, false, false, false, false, false, false] rfl rfl (any_of HT_.out (by kernel_rfl)) (fun _ _ _ h=>h) (Or.inr ⟨by rfl, rfl⟩) ?_ ?_
                           rotate_left
                           ·simp only [Act.put, List.setIfInBounds_toArray, List.set_cons_zero, List.set_cons_succ, i64_w, i32_w]
                            rfl
                           refine pure_ (i:=20) (N:=some 152) (v:=undef) (a':=?_) #[true, true, true, true, true, true, true, true, true, true, true, true, true, true, true, true, true, true, true, true, true, false, false, false, false, false, false, false] rfl rfl (any_of HT_.out (by kernel_rfl)) (fun _ _ _ h=>h) (Or.inr ⟨by rfl, rfl⟩) ?_ ?_
                           rotate_left
                           ·simp only [Act.put, List.setIfInBounds_toArray, List.set_cons_zero, List.set_cons_succ, i64_w, i32_w]
                            rfl
                           refine pure_ (i:=21) (N:=some 153) (v:=undef) (a':=?_) #[true, true, true, true, true, true, true, true, true, true, true, true, true, true, true, true, true, true, true, true, true, true, false, false, false, false, false, false] rfl rfl (any_of HT_.out (by kernel_rfl)) (fun _ _ _ h=>h) (Or.inr ⟨by rfl, rfl⟩) ?_ ?_
                           rotate_left
                           ·simp only [Act.put, List.setIfInBounds_toArray, List.set_cons_zero, List.set_cons_succ, i64_w, i32_w]
                            rfl
                           refine pure_ (i:=22) (N:=some 154) (v:=undef) (a':=?_) #[true, true, true, true, true, true, true, true, true, true, true, true, true, true, true, true, true, true, true, true, true, true, true, false, false, false, false, false] rfl rfl (any_of HT_.out (by kernel_rfl)) (fun _ _ _ h=>h) (Or.inr ⟨by rfl, rfl⟩) ?_ ?_
                           rotate_left
                           ·simp only [Act.put, List.setIfInBounds_toArray, List.set_cons_zero, List.set_cons_succ, i64_w, i32_w]
                            rfl
                           refine pure_ (i:=23) (N:=some 155) (v:=undef) (a':=?_) #[true, true, true, true, true, true, true, true, true, true, true, true, true, true, true, true, true, true, true, true, true, true, true, true, false, false, false, false] rfl rfl (any_of HT_.out (by kernel_rfl)) (fun _ _ _ h=>h) (Or.inr ⟨by rfl, rfl⟩) ?_ ?_
                           rotate_left
                           ·simp only [Act.put, List.setIfInBounds_toArray, List.set_cons_zero, List.set_cons_succ, i64_w, i32_w]
                            rfl
                           refine pure_ (i:=24) (N:=some 156) (v:=undef) (a':=?_) #[true, true, true, true, true, true, true, true, true, true, true, true, true, true, true, true, true, true, true, true, true, true, true, true, true, false, false, false] rfl rfl (any_of HT_.out (by kernel_rfl)) (fun _ _ _ h=>h) (Or.inr ⟨by rfl, rfl⟩) ?_ ?_
                           rotate_left
                           ·simp only [Act.put, List.setIfInBounds_toArray, List.set_cons_zero, List.set_cons_succ, i64_w, i32_w]
                            rfl
                           refine pure_ (i:=25) (N:=some 157) (v:=undef) (a':=?_) #[true, true, true, true, true, true, true, true, true, true, true, true, true, true, true, true, true, true, true, true, true, true, true, true, true, true, false, false] rfl rfl (any_of HT_.out (by kernel_rfl)) (fun _ _ _ h=>h) (Or.inr ⟨by rfl, rfl⟩) ?_ ?_
                           rotate_left
                           ·simp only [Act.put, List.setIfInBounds_toArray, List.set_cons_zero, List.set_cons_succ, i64_w, i32_w]
                            rfl
                           refine pure_ (i:=26) (N:=some 158) (v:=undef) (a':=?_) #[true, true, true, true, true, true, true, true, true, true, true, true, true, true, true, true, true, true, true, true, true, true, true, true, true, true, true, false] rfl rfl (any_of HT_.out (by kernel_rfl)) (fun _ _ _ h=>h) (Or.inr ⟨by rfl, rfl⟩) ?_ ?_
                           rotate_left
                           ·simp only [Act.put, List.setIfInBounds_toArray, List.set_cons_zero, List.set_cons_succ, i64_w, i32_w]
                            rfl
                           refine pure_ (i:=27) (N:=some 159) (v:=?_) (a':=?_) #[true, true, true, true, true, true, true, true, true, true, true, true, true, true, true, true, true, true, true, true, true, true, true, true, true, true, true, true] rfl rfl (any_of HT_.out (by kernel_rfl)) (fun _ _ _ h=>h) (Or.inl ⟨by rfl, ?_⟩) ?_ ?_
                           rotate_left
                           ·intro w'
                            go_simp
                            with_reducible rfl
                           rotate_left
                           ·simp only [Act.put, List.setIfInBounds_toArray, List.set_cons_zero, List.set_cons_succ, i64_w, i32_w]
                            rfl
                           refine done_ (done_of HT_.out (by kernel_rfl)) ?_
                           try go_wp2
                           go_roundg k6
                           case measure=>have:=HJ7.out;have:=HJ15.out;have:=HJ24.out;have:=HK4.out;have:=HJ38.out;have:=HK6.out;omega
                           case rel=>exact ⟨(wrap64 (x17_6 + 1)), (by first | rfl | (simp;done) | (simp [*];done)), H', ⟨by have:=HJ7.out;have:=HJ15.out;have:=HJ24.out;have:=HK4.out;have:=HJ38.out;have:=HK6.out;omega⟩, ⟨by (with_reducible repeat (first | apply Kd.R_alloc | apply Kd.R_drewN | apply Kd.R_drew));exact HO_7.out⟩, ⟨by (with_reducible repeat (first | apply Kd.R_alloc | apply Kd.R_drewN | apply Kd.R_drew));exact HO_13.out⟩, ⟨by repeat (first | (with_reducible first | exact HB.out | apply below_alloc | apply pw_below_drewN | apply below_drew1) | exact HB.out)⟩⟩
                         ·rw [if_neg c55] at H
                          exact absurd H (by simp)
                        ·rw [if_neg c54] at H
                         exact absurd H (by simp)
                       ·rw [if_neg c53] at H
                        have c53b0 : decide ((rd t219 x16_4) < (rd t207 x16_4)) = false:=decide_eq_false c53
                        clear c53
                        have H':=Aside0.mk H
                        clear H
                        try go_wp2
                        have n0_:=Aside0.mk (Kd.R_drew HO_7.out)
                        have n1_:=Aside0.mk (Kd.R_drew HO_13.out)
                        have n2_:=Aside0.mk (below_drew1 HB.out)
                        clear HO_7
                        clear HO_13
                        clear HB
                        have HO_7:=n0_
                        have HO_13:=n1_
                        have HB:=n2_
                        clear n0_ n1_ n2_
                        obtain ⟨Ao67, co67, eo67⟩:=Kd.R_slice HO_13.out
                        (first | subst eo67 | (injection eo67 with f1_ f2_ f3_;have f4_:=f1_.symm;have f5_:=f3_.symm;clear f1_ f2_ f3_;subst f4_;subst f5_))
                        have p229 : 0 ≤ (x16_4 : Int):=of_decide_eq_true (by first | (with_reducible assumption) | assumption)
                        have q229 : x16_4 < (t219.length : Int):=of_decide_eq_true (by first | (with_reducible assumption) | assumption)
                        obtain ⟨ad229, e229, hx229_0⟩:=Kd.at_int (Kd.R_reads' HO_13.out).2.2 x16_4 p229 q229
                        cases e229
                        replace p229:=eq_true p229
                        replace q229:=eq_true q229
                        have p230 : 0 ≤ (x16_4 : Int):=of_decide_eq_true (by first | (with_reducible assumption) | assumption)
                        have q230 : x16_4 < (t207.length : Int):=of_decide_eq_true (by first | (with_reducible assumption) | assumption)
                        obtain ⟨ad230, e230, hx230_0⟩:=Kd.at_int (Kd.R_reads' HO_7.out).2.2 x16_4 p230 q230
                        cases e230
                        replace p230:=eq_true p230
                        replace q230:=eq_true q230
                        refine start_ (n:=28) (S:=fun w'=>w'.cell? (ad229.add (x16_4).toNat) = some (.int .i64 (rd t219 x16_4)) ∧ w'.cell? (ad230.add (x16_4).toNat) = some (.int .i64 (rd t207 x16_4))) (ds:=[]) #[false, false, false, false, false, false, false, false, false, false, false, false, false, false, false, false, false, false, false, false, false, false, false, false, false, false, false, false] (by kernel_rfl) rfl rfl ⟨hx229_0, hx230_0⟩ (fun hHeld=>?_);refine with_tabW cl47_WaterfallBack.tab20 cl47_WaterfallBack.bits20 (fun HT_ HW_=>?_)
                        generalize wr.drew = w66 at HO_7 HO_13 HB hx229_0 hx230_0 hHeld ⊢
                        refine pure_ (i:=0) (N:=some 132) (v:=?_) (a':=?_) #[true, false, false, false, false, false, false, false, false, false, false, false, false, false, false, false, false, false, false, false, false, false, false, false, false, false, false, false] rfl rfl (any_of HT_.out (by kernel_rfl)) (fun _ _ _ h=>h) (Or.inl ⟨by rfl, ?_⟩) ?_ ?_
                        rotate_left
                        ·intro w'
                         go_simp
                         with_reducible rfl
                        rotate_left
                        ·simp only [Act.put, List.setIfInBounds_toArray, List.set_cons_zero, List.set_cons_succ, i64_w, i32_w]
                         rfl
                        refine pure_ (i:=1) (N:=some 133) (v:=?_) (a':=?_) #[true, true, false, false, false, false, false, false, false, false, false, false, false, false, false, false, false, false, false, false, false, false, false, false, false, false, false, false] rfl rfl (any_of HT_.out (by kernel_rfl)) (fun _ _ _ h=>h) (Or.inl ⟨by rfl, ?_⟩) ?_ ?_
                        rotate_left
                        ·intro w'
                         go_simp
                         with_reducible rfl
                        rotate_left
                        ·simp only [Act.put, List.setIfInBounds_toArray, List.set_cons_zero, List.set_cons_succ, i64_w, i32_w]
                         rfl
                        refine pure_ (i:=2) (N:=some 134) (v:=?_) (a':=?_) #[true, true, true, false, false, false, false, false, false, false, false, false, false, false, false, false, false, false, false, false, false, false, false, false, false, false, false, false] rfl rfl (any_of HT_.out (by kernel_rfl)) (fun _ _ _ h=>h) (Or.inl ⟨by rfl, ?_⟩) ?_ ?_
                        rotate_left
                        ·intro w'
                         go_simp
                         with_reducible rfl
                        rotate_left
                        ·simp only [Act.put, List.setIfInBounds_toArray, List.set_cons_zero, List.set_cons_succ, i64_w, i32_w]
                         rfl
                        refine pure_ (i:=4) (N:=some 136) (v:=?_) (a':=?_) #[true, true, true, false, true, false, false, false, false, false, false, false, false, false, false, false, false, false, false, false, false, false, false, false, false, false, false, false] rfl rfl (any_of HT_.out (by kernel_rfl)) (fun _ _ _ h=>h) (Or.inl ⟨by rfl, ?_⟩) ?_ ?_
                        rotate_left
                        ·intro w'
                         go_simp
                         with_reducible rfl
                        rotate_left
                        ·simp only [Act.put, List.setIfInBounds_toArray, List.set_cons_zero, List.set_cons_succ, i64_w, i32_w]
                         rfl
                        refine pure_ (i:=5) (N:=some 137) (v:=?_) (a':=?_) #[true, true, true, false, true, true, false, false, false, false, false, false, false, false, false, false, false, false, false, false, false, false, false, false, false, false, false, false] rfl rfl (any_of HT_.out (by kernel_rfl)) (fun _ _ _ h=>h) (Or.inl ⟨by rfl, ?_⟩) ?_ ?_
                        rotate_left
                        ·intro w'
                         go_simp
                         with_reducible rfl
                        rotate_left
                        ·simp only [Act.put, List.setIfInBounds_toArray, List.set_cons_zero, List.set_cons_succ, i64_w, i32_w]
                         rfl
                        refine pure_ (i:=6) (N:=some 138) (v:=?_) (a':=?_) #[true, true, true, false, true, true, true, false, false, false, false, false, false, false, false, false, false, false, false, false, false, false, false, false, false, false, false, false] rfl rfl (any_of HT_.out (by kernel_rfl)) (fun _ _ _ h=>h) (Or.inl ⟨by rfl, ?_⟩) ?_ ?_
                        rotate_left
                        ·intro w'
                         go_simp
                         with_reducible rfl
                        rotate_left
                        ·simp only [Act.put, List.setIfInBounds_toArray, List.set_cons_zero, List.set_cons_succ, i64_w, i32_w]
                         rfl
                        refine take_ (i:=3) (N:=some 135) (v:=?_) (a':=?_) #[true, true, true, true, true, true, true, false, false, false, false, false, false, false, false, false, false, false, false, false, false, false, false, false, false, false, false, false] rfl rfl (take_ofW HT_.out HW_.out (by kernel_rfl)) (fun _ _ _ h=>h) (Or.inl ⟨by rfl, ?_⟩) hHeld ?_ ?_
                        rotate_left
                        ·rintro w' ⟨s0, s1⟩
                         go_simp
                         with_reducible rfl
                        rotate_left
                        ·simp only [Act.put, List.setIfInBounds_toArray, List.set_cons_zero, List.set_cons_succ, i64_w, i32_w]
                         rfl
                        refine take_ (i:=7) (N:=some 139) (v:=?_) (a':=?_) #[true, true, true, true, true, true, true, true, false, false, false, false, false, false, false, false, false, false, false, false, false, false, false, false, false, false, false, false] rfl rfl (take_ofW HT_.out HW_.out (by kernel_rfl)) (fun _ _ _ h=>h) (Or.inl ⟨by rfl, ?_⟩) hHeld ?_ ?_
                        rotate_left
                        ·rintro w' ⟨s0, s1⟩
                         go_simp
                         with_reducible rfl
                        rotate_left
                        ·simp only [Act.put, List.setIfInBounds_toArray, List.set_cons_zero, List.set_cons_succ, i64_w, i32_w]
                         rfl
                        refine pure_ (i:=8) (N:=some 140) (v:=?_) (a':=?_) #[true, true, true, true, true, true, true, true, true, false, false, false, false, false, false, false, false, false, false, false, false, false, false, false, false, false, false, false] rfl rfl (any_of HT_.out (by kernel_rfl)) (fun _ _ _ h=>h) (Or.inl ⟨by rfl, ?_⟩) ?_ ?_
                        rotate_left
                        ·intro w'
                         go_simp
                         with_reducible rfl
                        rotate_left
                        ·simp only [Act.put, List.setIfInBounds_toArray, List.set_cons_zero, List.set_cons_succ, i64_w, i32_w]
                         rfl
                        refine pure_ (i:=9) (N:=some 141) (v:=?_) (a':=?_) #[true, true, true, true, true, true, true, true, true, true, false, false, false, false, false, false, false, false, false, false, false, false, false, false, false, false, false, false] rfl rfl (any_of HT_.out (by kernel_rfl)) (fun _ _ _ h=>h) (Or.inl ⟨by rfl, ?_⟩) ?_ ?_
                        rotate_left
                        ·intro w'
                         go_simp
                         with_reducible rfl
                        rotate_left
                        ·simp only [Act.put, List.setIfInBounds_toArray, List.set_cons_zero, List.set_cons_succ, i64_w, i32_w]
                         rfl
                        refine pure_ (i:=10) (N:=some 142) (v:=undef) (a':=?_) #[true, true, true, true, true, true, true, true, true, true, true, false, false, false, false, false, false, false, false, false, false, false, false, false, false, false, false, false] rfl rfl (any_of HT_.out (by kernel_rfl)) (fun _ _ _ h=>h) (Or.inr ⟨by rfl, rfl⟩) ?_ ?_
                        rotate_left
                        ·simp only [Act.put, List.setIfInBounds_toArray, List.set_cons_zero, List.set_cons_succ, i64_w, i32_w]
                         rfl
                        refine pure_ (i:=11) (N:=some 143) (v:=undef) (a':=?_) #[true, true, true, true, true, true, true, true, true, true, true, true, false, false, false, false, false, false, false, false, false, false, false, false, false, false, false, false] rfl rfl (any_of HT_.out (by kernel_rfl)) (fun _ _ _ h=>h) (Or.inr ⟨by rfl, rfl⟩) ?_ ?_
                        rotate_left
                        ·simp only [Act.put, List.setIfInBounds_toArray, List.set_cons_zero, List.set_cons_succ, i64_w, i32_w]
                         rfl
                        refine pure_ (i:=12) (N:=some 144) (v:=undef) (a':=?_) #[true, true, true, true, true, true, true, true, true, true, true, true, true, false, false, false, false, false, false, false, false, false, false, false, false, false, false, false] rfl rfl (any_of HT_.out (by kernel_rfl)) (fun _ _ _ h=>h) (Or.inr ⟨by rfl, rfl⟩) ?_ ?_
                        rotate_left
                        ·simp only [Act.put, List.setIfInBounds_toArray, List.set_cons_zero, List.set_cons_succ, i64_w, i32_w]
                         rfl
                        refine pure_ (i:=13) (N:=some 145) (v:=undef) (a':=?_) #[true, true, true, true, true, true, true, true, true, true, true, true, true, true, false, false, false, false, false, false, false, false, false, false, false, false, false, false] rfl rfl (any_of HT_.out (by kernel_rfl)) (fun _ _ _ h=>h) (Or.inr ⟨by rfl, rfl⟩) ?_ ?_
                        rotate_left
                        ·simp only [Act.put, List.setIfInBounds_toArray, List.set_cons_zero, List.set_cons_succ, i64_w, i32_w]
                         rfl
                        refine pure_ (i:=14) (N:=some 146) (v:=undef) (a':=?_) #[true, true, true, true, true, true, true, true, true, true, true, true, true, true, true, false, false, false, false, false, false, false, false, false, false, false, false, false] rfl rfl (any_of HT_.out (by kernel_rfl)) (fun _ _ _ h=>h) (Or.inr ⟨by rfl, rfl⟩) ?_ ?_
                        rotate_left
                        ·simp only [Act.put, List.setIfInBounds_toArray, List.set_cons_zero, List.set_cons_succ, i64_w, i32_w]
                         rfl
                        refine pure_ (i:=15) (N:=some 147) (v:=?_) (a':=?_) #[true, true, true, true, true, true, true, true, true, true, true, true, true, true, true, true, false, false, false, false, false, false, false, false, false, false, false, false] rfl rfl (any_of HT_.out (by kernel_rfl)) (fun _ _ _ h=>h) (Or.inl ⟨by rfl, ?_⟩) ?_ ?_
                        rotate_left
                        ·intro w'
                         go_simp
                         with_reducible rfl
                        rotate_left
                        ·simp only [Act.put, List.setIfInBounds_toArray, List.set_cons_zero, List.set_cons_succ, i64_w, i32_w]
                         rfl
                        refine pure_ (i:=16) (N:=some 148) (v:=?_) (a':=?_) #[true, true, true, true, true, true, true, true, true, true, true, true, true, true, true, true, true, false, false, false, false, false, false, false, false, false, false, false] rfl rfl (any_of HT_.out (by kernel_rfl)) (fun _ _ _ h=>h) (Or.inl ⟨by rfl, ?_⟩) ?_ ?_
                        rotate_left
                        ·intro w'
                         go_simp
                         with_reducible rfl
                        rotate_left
                        ·simp only [Act.put, List.setIfInBounds_toArray, List.set_cons_zero, List.set_cons_succ, i64_w, i32_w]
                         rfl
                        refine pure_ (i:=17) (N:=some 149) (v:=undef) (a':=?_) #[true, true, true, true, true, true, true, true, true, true, true, true, true, true, true, true, true, true, false, false, false, false, false, false, false, false, false, false] rfl rfl (any_of HT_.out (by kernel_rfl)) (fun _ _ _ h=>h) (Or.inr ⟨by rfl, rfl⟩) ?_ ?_
                        rotate_left
                        ·simp only [Act.put, List.setIfInBounds_toArray, List.set_cons_zero, List.set_cons_succ, i64_w, i32_w]
                         rfl
                        refine pure_ (i:=18) (N:=some 150) (v:=undef) (a':=?_) #[true, true, true, true, true, true, true, true, true, true, true, true, true, true, true, true, true, true, true, false, false, false, false, false, false, false, false, false] rfl rfl (any_of HT_.out (by kernel_rfl)) (fun _ _ _ h=>h) (Or.inr ⟨by rfl, rfl⟩) ?_ ?_
                        rotate_left
                        ·simp only [Act.put, List.setIfInBounds_toArray, List.set_cons_zero, List.set_cons_succ, i64_w, i32_w]
                         rfl
                        refine pure_ (i:=19) (N:=some 151) (v:=undef) (a':=?_) #[true, true, true, true, true, true, true, true, true, true, true, true, true, true, true, true, true, true, true, true, false, false, false, false, false, false, false, false] rfl rfl (any_of HT_.out (by kernel_rfl)) (fun _ _ _ h=>h) (Or.inr ⟨by rfl, rfl⟩) ?_ ?_
                        rotate_left
                        ·simp only [Act.put, List.setIfInBounds_toArray, List.set_cons_zero, List.set_cons_succ, i64_w, i32_w]
                         rfl
                        refine pure_ (i:=20) (N:=some 152) (v:=undef) (a':=?_) #[true, true, true, true, true, true, true, true, true, true, true, true, true, true, true, true, true, true, true, true, true, false, false, false, false, false, false, false] rfl rfl (any_of HT_.out (by kernel_rfl)) (fun _ _ _ h=>h) (Or.inr ⟨by rfl, rfl⟩) ?_ ?_
                        rotate_left
                        ·simp only [Act.put, List.setIfInBounds_toArray, List.set_cons_zero, List.set_cons_succ, i64_w, i32_w]
                         rfl
                        refine pure_ (i:=21) (N:=some 153) (v:=undef) (a':=?_) #[true, true, true, true, true, true, true, true, true, true, true, true, true, true, true, true, true, true, true, true, true, true, false, false, false, false, false, false] rfl rfl (any_of HT_.out (by kernel_rfl)) (fun _ _ _ h=>h) (Or.inr ⟨by rfl, rfl⟩) ?_ ?_
                        rotate_left
                        ·simp only [Act.put, List.setIfInBounds_toArray, List.set_cons_zero, List.set_cons_succ, i64_w, i32_w]
                         rfl
                        refine pure_ (i:=22) (N:=some 154) (v:=undef) (a':=?_) #[true, true, true, true, true, true, true, true, true, true, true, true, true, true, true, true, true, true, true, true, true, true, true, false, false, false, false, false] rfl rfl (any_of HT_.out (by kernel_rfl)) (fun _ _ _ h=>h) (Or.inr ⟨by rfl, rfl⟩) ?_ ?_
                        rotate_left
                        ·simp only [Act.put, List.setIfInBounds_toArray, List.set_cons_zero, List.set_cons_succ, i64_w, i32_w]
                         rfl
                        refine pure_ (i:=23) (N:=some 155) (v:=undef) (a':=?_) #[true, true, true, true, true, true, true, true, true, true, true, true, true, true, true, true, true, true, true, true, true, true, true, true, false, false, false, false] rfl rfl (any_of HT_.out (by kernel_rfl)) (fun _ _ _ h=>h) (Or.inr ⟨by rfl, rfl⟩) ?_ ?_
                        rotate_left
                        ·simp only [Act.put, List.setIfInBounds_toArray, List.set_cons_zero, List.set_cons_succ, i64_w, i32_w]
                         rfl
                        refine pure_ (i:=24) (N:=some 156) (v:=undef) (a':=?_) #[true, true, true, true, true, true, true, true, true, true, true, true, true, true, true, true, true, true, true, true, true, true, true, true, true, false, false, false] rfl rfl (any_of HT_.out (by kernel_rfl)) (fun _ _ _ h=>h) (Or.inr ⟨by rfl, rfl⟩) ?_ ?_
                        rotate_left
                        ·simp only [Act.put, List.setIfInBounds_toArray, List.set_cons_zero, List.set_cons_succ, i64_w, i32_w]
                         rfl
                        refine pure_ (i:=25) (N:=some 157) (v:=undef) (a':=?_) #[true, true, true, true, true, true, true, true, true, true, true, true, true, true, true, true, true, true, true, true, true, true, true, true, true, true, false, false] rfl rfl (any_of HT_.out (by kernel_rfl)) (fun _ _ _ h=>h) (Or.inr ⟨by rfl, rfl⟩) ?_ ?_
                        rotate_left
                        ·simp only [Act.put, List.setIfInBounds_toArray, List.set_cons_zero, List.set_cons_succ, i64_w, i32_w]
                         rfl
                        refine pure_ (i:=26) (N:=some 158) (v:=undef) (a':=?_) #[true, true, true, true, true, true, true, true, true, true, true, true, true, true, true, true, true, true, true, true, true, true, true, true, true, true, true, false] rfl rfl (any_of HT_.out (by kernel_rfl)) (fun _ _ _ h=>h) (Or.inr ⟨by rfl, rfl⟩) ?_ ?_
                        rotate_left
                        ·simp only [Act.put, List.setIfInBounds_toArray, List.set_cons_zero, List.set_cons_succ, i64_w, i32_w]
                         rfl
                        refine pure_ (i:=27) (N:=some 159) (v:=?_) (a':=?_) #[true, true, true, true, true, true, true, true, true, true, true, true, true, true, true, true, true, true, true, true, true, true, true, true, true, true, true, true] rfl rfl (any_of HT_.out (by kernel_rfl)) (fun _ _ _ h=>h) (Or.inl ⟨by rfl, ?_⟩) ?_ ?_
                        rotate_left
                        ·intro w'
                         go_simp
                         with_reducible rfl
                        rotate_left
                        ·simp only [Act.put, List.setIfInBounds_toArray, List.set_cons_zero, List.set_cons_succ, i64_w, i32_w]
                         rfl
                        refine done_ (done_of HT_.out (by kernel_rfl)) ?_
                        try go_wp2
                        go_roundg k6
                        case measure=>have:=HJ7.out;have:=HJ15.out;have:=HJ24.out;have:=HK4.out;have:=HJ38.out;have:=HK6.out;omega
                        case rel=>exact ⟨(wrap64 (x17_6 + 1)), (by first | rfl | (simp;done) | (simp [*];done)), H', ⟨by have:=HJ7.out;have:=HJ15.out;have:=HJ24.out;have:=HK4.out;have:=HJ38.out;have:=HK6.out;omega⟩, ⟨by (with_reducible repeat (first | apply Kd.R_alloc | apply Kd.R_drewN | apply Kd.R_drew));exact HO_7.out⟩, ⟨by (with_reducible repeat (first | apply Kd.R_alloc | apply Kd.R_drewN | apply Kd.R_drew));exact HO_13.out⟩, ⟨by repeat (first | (with_reducible first | exact HB.out | apply below_alloc | apply pw_below_drewN | apply below_drew1) | exact HB.out)⟩⟩
                      ·rw [if_neg c52] at H
                       exact absurd H (by simp)
                     ·rw [if_neg c51] at H
                      exact absurd H (by simp)
                    ·rw [if_neg c50] at H
                     exact absurd H (by simp)
                   ·rw [if_neg c49] at H
                    have c49b0 : decide (x17_6 < x16_4) = false:=decide_eq_false c49
                    clear c49
                    have H':=Aside0.mk H
                    clear H
                    go_wp2
                    go_roundg k6
                    case measure=>have:=HJ7.out;have:=HJ15.out;have:=HJ24.out;have:=HK4.out;have:=HJ38.out;have:=HK6.out;omega
                    case rel=>exact ⟨(wrap64 (x16_4 + 1)), (by first | rfl | (simp;done) | (simp [*];done)), H', ⟨by have:=HJ7.out;have:=HJ15.out;have:=HJ24.out;have:=HK4.out;have:=HJ38.out;have:=HK6.out;omega⟩, ⟨by (with_reducible repeat (first | apply Kd.R_alloc | apply Kd.R_drewN | apply Kd.R_drew));exact HO_7.out⟩, ⟨by (with_reducible repeat (first | apply Kd.R_alloc | apply Kd.R_drewN | apply Kd.R_drew));exact HO_13.out⟩, ⟨by repeat (first | (with_reducible first | exact HB.out | apply below_alloc | apply pw_below_drewN | apply below_drew1) | exact HB.out)⟩⟩
             ·rw [if_neg c38] at H
              have c38b0 : decide (x16_4 < (l2.length : Int)) = false:=decide_eq_false c38
              clear c38
              replace H:=Option.bind_eq_some_iff.mp H
              obtain ⟨t225, A680, H⟩:=H
              replace H : (some t225) = some r:=H
              have A68:=Aside0.mk A680
              clear A680
              obtain rfl:=Option.some.inj H
              go_wp2_with (first | ((with_reducible refine gate_callee (f:=10) rfl ?_);refine goesL_ (some 160) rfl rfl Try.func10 (by kernel_rfl) rfl #[] rfl (by (try simp only [List.map_toArray, List.map_cons, List.map_nil]);first | done | rfl | (simp only [List.length_drop, List.length_take];rfl)) ?_;(with_reducible refine (cl47_goes.calls k4  t225 _ A68.out).mono ?_);rintro e w69 ⟨rfl, hb⟩;refine ⟨_, rfl, ?_⟩;have n0_:=Aside0.mk (Kd.R_below (by (with_reducible repeat (first | apply Kd.R_alloc | apply Kd.R_drewN | apply Kd.R_drew));exact HO_7.out) hb);have n1_:=Aside0.mk (Kd.R_below (by (with_reducible repeat (first | apply Kd.R_alloc | apply Kd.R_drewN | apply Kd.R_drew));exact HO_13.out) hb);have n2_:=Aside0.mk (below_step (by repeat (first | (with_reducible first | exact HB.out | apply below_alloc | apply pw_below_drewN | apply below_drew1) | exact HB.out)) hb);clear HO_7 HO_13 HB;have HO_7:=n0_;have HO_13:=n1_;have HB:=n2_;clear n0_ n1_ n2_;(try clear hb);(try clear hb2);(try clear hk);(try clear hi)))
              go_ret
              exact ⟨by first | rfl | (simp [errW_none, errW_some] <;> rfl) | (simp [*, errW_none, errW_some] <;> rfl), by repeat (first | (with_reducible first | exact HB.out | apply below_alloc | apply pw_below_drewN | apply below_drew1) | exact HB.out)⟩

end Go.Proofs.Ytfogpifjpnonnaa.PWaterfallBack
