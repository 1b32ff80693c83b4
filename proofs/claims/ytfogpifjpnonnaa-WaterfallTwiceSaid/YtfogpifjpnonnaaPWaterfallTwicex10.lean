/- Laid for this claim by a program of this session's (wip/mkprint.py, wip/ext.py); not trusted: Lean checks it. -/
import Derived.Test.YtfogpifjpnonnaaPWaterfallTwicex0
import Derived.Test.YtfogpifjpnonnaaPWaterfallTwicex5
import Derived.Test.YtfogpifjpnonnaaPWaterfallTwicex8
import Derived.Test.YtfogpifjpnonnaaPWaterfallTwicex9
namespace Go.Proofs.Ytfogpifjpnonnaa.PWaterfallTwice
open Go.RowKit Go.Proofs.YtfogpifjpnonnaaW.PrintWords Go.Proofs.YtfogpifjpnonnaaW.PrintLast Go.Proofs.YtfogpifjpnonnaaW.PrintMore
attribute [local go_sem] max2_int min2_int max_two min_two max_three min_three max_four min_four   -- for this text's walks alone
set_option linter.unusedVariables false
set_option linter.unusedSimpArgs false

/-! ### cl47_WaterfallTwice: function 5 -/
mutual
def cl47_WaterfallTwice.j0 : Nat → Int → Int → List (S37) → Bool → Option (Bool)
 | 0, _, _, _, _=>none
 | k + 1, x0, x1, x2, x39=>if x39 = true then ((cl47_goes.f k).bind fun t209=>(some t209)) else ((waterfall_Absorb.f k (wrap64 (x0 + x1)) x2).bind fun bt210=>((waterfall_Absorb.f k x0 x2).bind fun bt215=>(if bt210.2.2 = 0 then (cl47_WaterfallTwice.j1 k x1 x2 bt210.1 bt210.2.1 bt210.2.2 bt215.1 bt215.2.1 bt215.2.2 (bt215.2.2 != 0)) else (cl47_WaterfallTwice.j1 k x1 x2 bt210.1 bt210.2.1 bt210.2.2 bt215.1 bt215.2.1 bt215.2.2 true))))
def cl47_WaterfallTwice.j1 : Nat → Int → List (S37) → List Int → Int → Int → List Int → Int → Int → Bool → Option (Bool)
 | 0, _, _, _, _, _, _, _, _, _=>none
 | k + 1, x1, x2, x7, x8, x9, x10, x11, x12, x62=>if x62 = true then (if x9 = x12 then (if (x7.length : Int) = 0 then (if (x10.length : Int) = 0 then ((cl47_goes.f k).bind fun t220=>(some t220)) else (none)) else (none)) else (none)) else (if (x10.length : Int) = (x2.length : Int) then (cl47_WaterfallTwice.j2 k x1 x2 x7 x8 x10 x11 ((x7.length : Int) != (x2.length : Int))) else (cl47_WaterfallTwice.j2 k x1 x2 x7 x8 x10 x11 true))
def cl47_WaterfallTwice.j2 : Nat → Int → List (S37) → List Int → Int → List Int → Int → Bool → Option (Bool)
 | 0, _, _, _, _, _, _, _=>none
 | k + 1, x1, x2, x7, x8, x10, x11, x90=>if x90 = true then (none) else ((some (([] : List (S37)) : List (S37))).bind fun y221=>(if y221.length + x2.length < 3518437208883 then (cl47_WaterfallTwice.l0 k x1 x2 x7 x8 x10 x11 (y221 ++ x2) 0) else (none)))
def cl47_WaterfallTwice.l0 : Nat → Int → List (S37) → List Int → Int → List Int → Int → List (S37) → Int → Option (Bool)
 | 0, _, _, _, _, _, _, _, _=>none
 | k + 1, x1, x2, x7, x8, x10, x11, x13, x14=>if x14 < (x13.length : Int) then (if 0 ≤ x14 then (if x14 < (x10.length : Int) then (cl47_WaterfallTwice.l0 k x1 x2 x7 x8 x10 x11 (x13.set (x14 : Int).toNat (⟨(rd_T37 x13 x14).f0, (rd_T37 x13 x14).f1, (rd_T37 x13 x14).f2, wrap64 (((rd_T37 x13 x14).f3) - (rd x10 x14))⟩ : S37)) (wrap64 (x14 + 1))) else (none)) else (none)) else ((waterfall_Absorb.f k x1 x13).bind fun bt230=>(if bt230.2.2 = 0 then (if (bt230.1.length : Int) = (x2.length : Int) then (cl47_WaterfallTwice.j4 k x2 x7 x10 bt230.1 ((wrap64 (x11 + bt230.2.1)) != x8)) else (cl47_WaterfallTwice.j4 k x2 x7 x10 bt230.1 true)) else (cl47_WaterfallTwice.j4 k x2 x7 x10 bt230.1 true)))
def cl47_WaterfallTwice.j4 : Nat → List (S37) → List Int → List Int → List Int → Bool → Option (Bool)
 | 0, _, _, _, _, _=>none
 | k + 1, x2, x7, x10, x15, x136=>if x136 = true then (none) else (cl47_WaterfallTwice.l1 k x2 x7 x10 x15 0)
def cl47_WaterfallTwice.l1 : Nat → List (S37) → List Int → List Int → List Int → Int → Option (Bool)
 | 0, _, _, _, _, _=>none
 | k + 1, x2, x7, x10, x15, x18=>if x18 < (x2.length : Int) then ((cl47_turn.f k x2 x10 x18).bind fun t236=>((cl47_turn.f k x2 x15 x18).bind fun t237=>((cl47_turn.f k x2 x7 x18).bind fun t238=>(if (wrap64 (t236 + t237)) = t238 then (cl47_WaterfallTwice.l1 k x2 x7 x10 x15 (wrap64 (x18 + 1))) else (none))))) else ((cl47_goes.f k).bind fun t235=>(some t235))
end
def cl47_WaterfallTwice.f (k : Nat) (a0 : Int) (a1 : Int) (l2 : List (S37)) : Option (Bool):=if (l2.length : Int) > 60 then (cl47_WaterfallTwice.j0 k a0 a1 l2 true) else (if a0 < 0 then (cl47_WaterfallTwice.j0 k a0 a1 l2 true) else (if a1 < 0 then (cl47_WaterfallTwice.j0 k a0 a1 l2 true) else (if a0 > (wrap64 (1152921504606846976 - a1)) then (cl47_WaterfallTwice.j0 k a0 a1 l2 true) else (cl47_WaterfallTwice.j0 k a0 a1 l2 (decide (a1 > 1152921504606846976))))))
theorem cl47_WaterfallTwice.mono_l : ∀ k, (∀ y0 y1 y2 y3, LeO (cl47_WaterfallTwice.j0 k y0 y1 y2 y3) (cl47_WaterfallTwice.j0 (k + 1) y0 y1 y2 y3)) ∧ (∀ y0 y1 y2 y3 y4 y5 y6 y7 y8, LeO (cl47_WaterfallTwice.j1 k y0 y1 y2 y3 y4 y5 y6 y7 y8) (cl47_WaterfallTwice.j1 (k + 1) y0 y1 y2 y3 y4 y5 y6 y7 y8)) ∧ (∀ y0 y1 y2 y3 y4 y5 y6, LeO (cl47_WaterfallTwice.j2 k y0 y1 y2 y3 y4 y5 y6) (cl47_WaterfallTwice.j2 (k + 1) y0 y1 y2 y3 y4 y5 y6)) ∧ (∀ y0 y1 y2 y3 y4 y5 y6 y7, LeO (cl47_WaterfallTwice.l0 k y0 y1 y2 y3 y4 y5 y6 y7) (cl47_WaterfallTwice.l0 (k + 1) y0 y1 y2 y3 y4 y5 y6 y7)) ∧ (∀ y0 y1 y2 y3 y4, LeO (cl47_WaterfallTwice.j4 k y0 y1 y2 y3 y4) (cl47_WaterfallTwice.j4 (k + 1) y0 y1 y2 y3 y4)) ∧ (∀ y0 y1 y2 y3 y4, LeO (cl47_WaterfallTwice.l1 k y0 y1 y2 y3 y4) (cl47_WaterfallTwice.l1 (k + 1) y0 y1 y2 y3 y4))
 | 0=>⟨fun _ _ _ _ r h=>by simp [cl47_WaterfallTwice.j0] at h, fun _ _ _ _ _ _ _ _ _ r h=>by simp [cl47_WaterfallTwice.j1] at h, fun _ _ _ _ _ _ _ r h=>by simp [cl47_WaterfallTwice.j2] at h, fun _ _ _ _ _ _ _ _ r h=>by simp [cl47_WaterfallTwice.l0] at h, fun _ _ _ _ _ r h=>by simp [cl47_WaterfallTwice.j4] at h, fun _ _ _ _ _ r h=>by simp [cl47_WaterfallTwice.l1] at h⟩
 | k + 1=>by
  obtain ⟨ih0, ih1, ih2, ih3, ih4, ih5⟩:=cl47_WaterfallTwice.mono_l k
  refine ⟨?_, ?_, ?_, ?_, ?_, ?_⟩
  ·intro y0 y1 y2 y3
   unfold cl47_WaterfallTwice.j0
   repeat' first
   | (with_reducible exact ih0 _ _ _ _)
   | (with_reducible exact ih1 _ _ _ _ _ _ _ _ _)
   | (with_reducible exact ih2 _ _ _ _ _ _ _)
   | (with_reducible exact ih3 _ _ _ _ _ _ _ _)
   | (with_reducible exact ih4 _ _ _ _ _)
   | (with_reducible exact ih5 _ _ _ _ _)
   | (with_reducible exact cl47_goes.mono _)
   | (with_reducible exact cl47_turn.mono _ _ _ _)
   | (with_reducible exact waterfall_Absorb.mono _ _ _)
   | (with_reducible exact LeO.refl _)
   | (with_reducible exact LeO.none _)
   | (with_reducible refine LeO.ite ?_ ?_)
   | (with_reducible refine LeO.bind ?_ (fun _=>?_))
   | exact ih0 _ _ _ _
   | exact ih1 _ _ _ _ _ _ _ _ _
   | exact ih2 _ _ _ _ _ _ _
   | exact ih3 _ _ _ _ _ _ _ _
   | exact ih4 _ _ _ _ _
   | exact ih5 _ _ _ _ _
   | exact cl47_goes.mono _
   | exact cl47_turn.mono _ _ _ _
   | exact waterfall_Absorb.mono _ _ _
   | exact LeO.none _
   | refine LeO.ite ?_ ?_
   | refine LeO.bind ?_ (fun _=>?_)
  ·intro y0 y1 y2 y3 y4 y5 y6 y7 y8
   unfold cl47_WaterfallTwice.j1
   repeat' first
   | (with_reducible exact ih0 _ _ _ _)
   | (with_reducible exact ih1 _ _ _ _ _ _ _ _ _)
   | (with_reducible exact ih2 _ _ _ _ _ _ _)
   | (with_reducible exact ih3 _ _ _ _ _ _ _ _)
   | (with_reducible exact ih4 _ _ _ _ _)
   | (with_reducible exact ih5 _ _ _ _ _)
   | (with_reducible exact cl47_goes.mono _)
   | (with_reducible exact cl47_turn.mono _ _ _ _)
   | (with_reducible exact waterfall_Absorb.mono _ _ _)
   | (with_reducible exact LeO.refl _)
   | (with_reducible exact LeO.none _)
   | (with_reducible refine LeO.ite ?_ ?_)
   | (with_reducible refine LeO.bind ?_ (fun _=>?_))
   | exact ih0 _ _ _ _
   | exact ih1 _ _ _ _ _ _ _ _ _
   | exact ih2 _ _ _ _ _ _ _
   | exact ih3 _ _ _ _ _ _ _ _
   | exact ih4 _ _ _ _ _
   | exact ih5 _ _ _ _ _
   | exact cl47_goes.mono _
   | exact cl47_turn.mono _ _ _ _
   | exact waterfall_Absorb.mono _ _ _
   | exact LeO.none _
   | refine LeO.ite ?_ ?_
   | refine LeO.bind ?_ (fun _=>?_)
  ·intro y0 y1 y2 y3 y4 y5 y6
   unfold cl47_WaterfallTwice.j2
   repeat' first
   | (with_reducible exact ih0 _ _ _ _)
   | (with_reducible exact ih1 _ _ _ _ _ _ _ _ _)
   | (with_reducible exact ih2 _ _ _ _ _ _ _)
   | (with_reducible exact ih3 _ _ _ _ _ _ _ _)
   | (with_reducible exact ih4 _ _ _ _ _)
   | (with_reducible exact ih5 _ _ _ _ _)
   | (with_reducible exact cl47_goes.mono _)
   | (with_reducible exact cl47_turn.mono _ _ _ _)
   | (with_reducible exact waterfall_Absorb.mono _ _ _)
   | (with_reducible exact LeO.refl _)
   | (with_reducible exact LeO.none _)
   | (with_reducible refine LeO.ite ?_ ?_)
   | (with_reducible refine LeO.bind ?_ (fun _=>?_))
   | exact ih0 _ _ _ _
   | exact ih1 _ _ _ _ _ _ _ _ _
   | exact ih2 _ _ _ _ _ _ _
   | exact ih3 _ _ _ _ _ _ _ _
   | exact ih4 _ _ _ _ _
   | exact ih5 _ _ _ _ _
   | exact cl47_goes.mono _
   | exact cl47_turn.mono _ _ _ _
   | exact waterfall_Absorb.mono _ _ _
   | exact LeO.none _
   | refine LeO.ite ?_ ?_
   | refine LeO.bind ?_ (fun _=>?_)
  ·intro y0 y1 y2 y3 y4 y5 y6 y7
   unfold cl47_WaterfallTwice.l0
   repeat' first
   | (with_reducible exact ih0 _ _ _ _)
   | (with_reducible exact ih1 _ _ _ _ _ _ _ _ _)
   | (with_reducible exact ih2 _ _ _ _ _ _ _)
   | (with_reducible exact ih3 _ _ _ _ _ _ _ _)
   | (with_reducible exact ih4 _ _ _ _ _)
   | (with_reducible exact ih5 _ _ _ _ _)
   | (with_reducible exact cl47_goes.mono _)
   | (with_reducible exact cl47_turn.mono _ _ _ _)
   | (with_reducible exact waterfall_Absorb.mono _ _ _)
   | (with_reducible exact LeO.refl _)
   | (with_reducible exact LeO.none _)
   | (with_reducible refine LeO.ite ?_ ?_)
   | (with_reducible refine LeO.bind ?_ (fun _=>?_))
   | exact ih0 _ _ _ _
   | exact ih1 _ _ _ _ _ _ _ _ _
   | exact ih2 _ _ _ _ _ _ _
   | exact ih3 _ _ _ _ _ _ _ _
   | exact ih4 _ _ _ _ _
   | exact ih5 _ _ _ _ _
   | exact cl47_goes.mono _
   | exact cl47_turn.mono _ _ _ _
   | exact waterfall_Absorb.mono _ _ _
   | exact LeO.none _
   | refine LeO.ite ?_ ?_
   | refine LeO.bind ?_ (fun _=>?_)
  ·intro y0 y1 y2 y3 y4
   unfold cl47_WaterfallTwice.j4
   repeat' first
   | (with_reducible exact ih0 _ _ _ _)
   | (with_reducible exact ih1 _ _ _ _ _ _ _ _ _)
   | (with_reducible exact ih2 _ _ _ _ _ _ _)
   | (with_reducible exact ih3 _ _ _ _ _ _ _ _)
   | (with_reducible exact ih4 _ _ _ _ _)
   | (with_reducible exact ih5 _ _ _ _ _)
   | (with_reducible exact cl47_goes.mono _)
   | (with_reducible exact cl47_turn.mono _ _ _ _)
   | (with_reducible exact waterfall_Absorb.mono _ _ _)
   | (with_reducible exact LeO.refl _)
   | (with_reducible exact LeO.none _)
   | (with_reducible refine LeO.ite ?_ ?_)
   | (with_reducible refine LeO.bind ?_ (fun _=>?_))
   | exact ih0 _ _ _ _
   | exact ih1 _ _ _ _ _ _ _ _ _
   | exact ih2 _ _ _ _ _ _ _
   | exact ih3 _ _ _ _ _ _ _ _
   | exact ih4 _ _ _ _ _
   | exact ih5 _ _ _ _ _
   | exact cl47_goes.mono _
   | exact cl47_turn.mono _ _ _ _
   | exact waterfall_Absorb.mono _ _ _
   | exact LeO.none _
   | refine LeO.ite ?_ ?_
   | refine LeO.bind ?_ (fun _=>?_)
  ·intro y0 y1 y2 y3 y4
   unfold cl47_WaterfallTwice.l1
   repeat' first
   | (with_reducible exact ih0 _ _ _ _)
   | (with_reducible exact ih1 _ _ _ _ _ _ _ _ _)
   | (with_reducible exact ih2 _ _ _ _ _ _ _)
   | (with_reducible exact ih3 _ _ _ _ _ _ _ _)
   | (with_reducible exact ih4 _ _ _ _ _)
   | (with_reducible exact ih5 _ _ _ _ _)
   | (with_reducible exact cl47_goes.mono _)
   | (with_reducible exact cl47_turn.mono _ _ _ _)
   | (with_reducible exact waterfall_Absorb.mono _ _ _)
   | (with_reducible exact LeO.refl _)
   | (with_reducible exact LeO.none _)
   | (with_reducible refine LeO.ite ?_ ?_)
   | (with_reducible refine LeO.bind ?_ (fun _=>?_))
   | exact ih0 _ _ _ _
   | exact ih1 _ _ _ _ _ _ _ _ _
   | exact ih2 _ _ _ _ _ _ _
   | exact ih3 _ _ _ _ _ _ _ _
   | exact ih4 _ _ _ _ _
   | exact ih5 _ _ _ _ _
   | exact cl47_goes.mono _
   | exact cl47_turn.mono _ _ _ _
   | exact waterfall_Absorb.mono _ _ _
   | exact LeO.none _
   | refine LeO.ite ?_ ?_
   | refine LeO.bind ?_ (fun _=>?_)
theorem cl47_WaterfallTwice.mono : ∀ a0 a1 a2 k, LeO (cl47_WaterfallTwice.f k a0 a1 a2) (cl47_WaterfallTwice.f (k + 1) a0 a1 a2):=by
 intro a0 a1 a2 k
 obtain ⟨ih0, ih1, ih2, ih3, ih4, ih5⟩:=cl47_WaterfallTwice.mono_l k
 unfold cl47_WaterfallTwice.f
 repeat' first
   | (with_reducible exact ih0 _ _ _ _)
   | (with_reducible exact ih1 _ _ _ _ _ _ _ _ _)
   | (with_reducible exact ih2 _ _ _ _ _ _ _)
   | (with_reducible exact ih3 _ _ _ _ _ _ _ _)
   | (with_reducible exact ih4 _ _ _ _ _)
   | (with_reducible exact ih5 _ _ _ _ _)
   | (with_reducible exact cl47_goes.mono _)
   | (with_reducible exact cl47_turn.mono _ _ _ _)
   | (with_reducible exact waterfall_Absorb.mono _ _ _)
   | (with_reducible exact LeO.refl _)
   | (with_reducible exact LeO.none _)
   | (with_reducible refine LeO.ite ?_ ?_)
   | (with_reducible refine LeO.bind ?_ (fun _=>?_))
   | exact ih0 _ _ _ _
   | exact ih1 _ _ _ _ _ _ _ _ _
   | exact ih2 _ _ _ _ _ _ _
   | exact ih3 _ _ _ _ _ _ _ _
   | exact ih4 _ _ _ _ _
   | exact ih5 _ _ _ _ _
   | exact cl47_goes.mono _
   | exact cl47_turn.mono _ _ _ _
   | exact waterfall_Absorb.mono _ _ _
   | exact LeO.none _
   | refine LeO.ite ?_ ?_
   | refine LeO.bind ?_ (fun _=>?_)
def cl47_WaterfallTwice.T13 : Bool × List (List Nat × List Nat):=(true, [([], []), ([], []), ([], []), ([], []), ([2, 3], [2, 3]), ([4], [4]), ([5], [5]), ([], []), ([], []), ([7, 8], [7, 8]), ([9], [9]), ([6, 10], [6, 10]), ([0, 1, 0, 1, 2, 3, 4, 5, 6, 7, 8, 9, 10, 11], [0, 1]), ([12, 0, 1, 2, 3, 4, 5, 6, 7, 8, 9, 10, 11], [12]), ([13, 11, 0, 1, 2, 3, 4, 5, 6, 7, 8, 9, 10, 11], [11, 13])])
def cl47_WaterfallTwice.B13 : List Nat:=[0, 0, 0, 0, 12, 28, 60, 0, 0, 384, 896, 2044, 4095, 8191, 16383]
theorem cl47_WaterfallTwice.tab13 : rtab .any (opsOf Try.f5 13) = cl47_WaterfallTwice.T13:=by kernel_rfl
theorem cl47_WaterfallTwice.bits13 : waitsOk cl47_WaterfallTwice.T13.2 cl47_WaterfallTwice.B13 = true:=by kernel_rfl
set_option maxHeartbeats 8000000 in
set_option maxRecDepth 100000 in
theorem cl47_WaterfallTwice.calls (k : Nat) (a0 : Int) (a1 : Int) (A2 : Option Addr) (c2 : Nat) (l2 : List (S37)) (r : Bool) (w : World) (hr2 : Kd.C k37 w A2 l2.length l2) (hc2 : l2.length ≤ c2) (h : cl47_WaterfallTwice.f k a0 a1 l2 = some r) :
  Calls Try.prog 5 #[.int .i64 a0, .int .i64 a1, .slice A2 l2.length c2] w fun e w'=>e = .returned (.bool r) ∧ Below w.heap.size w w':=by
 have HR2:=Aside0.mk hr2
 have HC2:=Aside0.mk hc2
 clear hr2 hc2
 have HB:=Aside0.mk (Below.refl w.heap.size w)
 have H : (if (l2.length : Int) > 60 then (cl47_WaterfallTwice.j0 k a0 a1 l2 true) else (if a0 < 0 then (cl47_WaterfallTwice.j0 k a0 a1 l2 true) else (if a1 < 0 then (cl47_WaterfallTwice.j0 k a0 a1 l2 true) else (if a0 > (wrap64 (1152921504606846976 - a1)) then (cl47_WaterfallTwice.j0 k a0 a1 l2 true) else (cl47_WaterfallTwice.j0 k a0 a1 l2 (decide (a1 > 1152921504606846976))))))) = some r:=h
 clear h
 have HC4:=Aside0.mk H
 clear H
 go_enter Try.func5, Try.ntmps5
 go_upto_region 1 with (fail)
 go_cut [39] (fun v39 wc=>∃ (kq : Nat) (x39_3 : Bool), v39 = .bool x39_3 ∧ Aside0 (cl47_WaterfallTwice.j0 kq a0 a1 l2 x39_3 = some r) ∧ Aside0 (kq ≤ k) ∧ Aside0 (Below w.heap.size w wc))
 case first =>
  have H:=HC4.out
  clear HC4
  by_cases c5 : (l2.length : Int) > 60
  ·rw [if_pos c5] at H
   have c5b0 : decide (60 < (l2.length : Int)) = true:=decide_eq_true c5
   have c5b1 : decide (60 < l2.length) = true:=decide_eq_true (by omega)
   clear c5
   (first | rw [c5b0] | (simp only [i64_w, i32_w];rw [c5b0]) | rw [c5b1] | skip)
   have H':=Aside0.mk H
   clear H
   go_wp2
   go_meet
   case rel=>exact ⟨_, (true), (by first | rfl | (simp;done) | (simp [*];done)), H', ⟨by first | omega | exact Nat.le_refl _⟩, ⟨by repeat (first | (with_reducible first | exact HB.out | apply below_alloc | apply pw_below_drewN | apply below_drew1) | exact HB.out)⟩⟩
  ·rw [if_neg c5] at H
   have c5b0 : decide (60 < (l2.length : Int)) = false:=decide_eq_false c5
   have c5b1 : decide (60 < l2.length) = false:=decide_eq_false (by omega)
   clear c5
   (first | rw [c5b0] | (simp only [i64_w, i32_w];rw [c5b0]) | rw [c5b1] | skip)
   by_cases c6 : a0 < 0
   ·rw [if_pos c6] at H
    have c6b0 : decide (a0 < 0) = true:=decide_eq_true c6
    clear c6
    have H':=Aside0.mk H
    clear H
    go_wp2
    go_meet
    case rel=>exact ⟨_, (true), (by first | rfl | (simp;done) | (simp [*];done)), H', ⟨by first | omega | exact Nat.le_refl _⟩, ⟨by repeat (first | (with_reducible first | exact HB.out | apply below_alloc | apply pw_below_drewN | apply below_drew1) | exact HB.out)⟩⟩
   ·rw [if_neg c6] at H
    have c6b0 : decide (a0 < 0) = false:=decide_eq_false c6
    clear c6
    by_cases c7 : a1 < 0
    ·rw [if_pos c7] at H
     have c7b0 : decide (a1 < 0) = true:=decide_eq_true c7
     clear c7
     have H':=Aside0.mk H
     clear H
     go_wp2
     go_meet
     case rel=>exact ⟨_, (true), (by first | rfl | (simp;done) | (simp [*];done)), H', ⟨by first | omega | exact Nat.le_refl _⟩, ⟨by repeat (first | (with_reducible first | exact HB.out | apply below_alloc | apply pw_below_drewN | apply below_drew1) | exact HB.out)⟩⟩
    ·rw [if_neg c7] at H
     have c7b0 : decide (a1 < 0) = false:=decide_eq_false c7
     clear c7
     by_cases c8 : a0 > (wrap64 (1152921504606846976 - a1))
     ·rw [if_pos c8] at H
      have c8b0 : decide ((wrap64 (1152921504606846976 - a1)) < a0) = true:=decide_eq_true c8
      clear c8
      have H':=Aside0.mk H
      clear H
      go_wp2
      go_meet
      case rel=>exact ⟨_, (true), (by first | rfl | (simp;done) | (simp [*];done)), H', ⟨by first | omega | exact Nat.le_refl _⟩, ⟨by repeat (first | (with_reducible first | exact HB.out | apply below_alloc | apply pw_below_drewN | apply below_drew1) | exact HB.out)⟩⟩
     ·rw [if_neg c8] at H
      have c8b0 : decide ((wrap64 (1152921504606846976 - a1)) < a0) = false:=decide_eq_false c8
      clear c8
      have H':=Aside0.mk H
      clear H
      go_wp2
      go_meet
      case rel=>exact ⟨_, (decide (a1 > 1152921504606846976)), (by first | rfl | (simp;done) | (simp [*];done)), H', ⟨by first | omega | exact Nat.le_refl _⟩, ⟨by repeat (first | (with_reducible first | exact HB.out | apply below_alloc | apply pw_below_drewN | apply below_drew1) | exact HB.out)⟩⟩
 case rest =>
  clear HC4
  try clear c2
  try clear p2
  try clear c5
  try clear c5b0
  try clear c5b1
  try clear c6
  try clear c6b0
  try clear p6
  try clear c7
  try clear c7b0
  try clear c8
  try clear c8b0
  obtain ⟨kq, x39_3, rfl, HA, HJ3, HB⟩:=hcut
  cases kq with
  | zero=>exact absurd HA.out (by simp [cl47_WaterfallTwice.j0])
  | succ kj3 =>
   have H:=HA.out
   clear HA
   simp only [cl47_WaterfallTwice.j0] at H
   by_cases c9 : x39_3 = true
   ·subst c9
    have H1 : ((cl47_goes.f kj3).bind fun t209=>(some t209)) = some r:=by rw [if_pos rfl] at H;exact H
    clear H
    have H:=H1
    clear H1
    replace H:=Option.bind_eq_some_iff.mp H
    obtain ⟨t209, A100, H⟩:=H
    replace H : (some t209) = some r:=H
    have A10:=Aside0.mk A100
    clear A100
    obtain rfl:=Option.some.inj H
    go_wp2_with (first | ((with_reducible refine gate_callee (f:=10) rfl ?_);refine goesL_ (some 40) rfl rfl Try.func10 (by kernel_rfl) rfl #[] rfl (by (try simp only [List.map_toArray, List.map_cons, List.map_nil]);first | done | rfl | (simp only [List.length_drop, List.length_take];rfl)) ?_;(with_reducible refine (cl47_goes.calls kj3  t209 _ A10.out).mono ?_);rintro e w11 ⟨rfl, hb⟩;refine ⟨_, rfl, ?_⟩;have n0_:=Aside0.mk (below_step (by repeat (first | (with_reducible first | exact HB.out | apply below_alloc | apply pw_below_drewN | apply below_drew1) | exact HB.out)) hb);clear HB;have HB:=n0_;clear n0_;(try clear hb);(try clear hb2);(try clear hk);(try clear hi)))
    go_ret
    exact ⟨by first | rfl | (simp [errW_none, errW_some] <;> rfl) | (simp [*, errW_none, errW_some] <;> rfl), by repeat (first | (with_reducible first | exact HB.out | apply below_alloc | apply pw_below_drewN | apply below_drew1) | exact HB.out)⟩
   ·replace c9:=Bool.eq_false_iff.mpr c9
    subst c9
    have H1 : ((waterfall_Absorb.f kj3 (wrap64 (a0 + a1)) l2).bind fun bt210=>((waterfall_Absorb.f kj3 a0 l2).bind fun bt215=>(if bt210.2.2 = 0 then (cl47_WaterfallTwice.j1 kj3 a1 l2 bt210.1 bt210.2.1 bt210.2.2 bt215.1 bt215.2.1 bt215.2.2 (bt215.2.2 != 0)) else (cl47_WaterfallTwice.j1 kj3 a1 l2 bt210.1 bt210.2.1 bt210.2.2 bt215.1 bt215.2.1 bt215.2.2 true)))) = some r:=by rw [if_neg (show ¬ (false = true) by decide)] at H;exact H
    clear H
    have H:=H1
    clear H1
    replace H:=Option.bind_eq_some_iff.mp H
    obtain ⟨⟨t210, t211, t212⟩, A120, H⟩:=H
    replace H : ((waterfall_Absorb.f kj3 a0 l2).bind fun bt215=>(if t212 = 0 then (cl47_WaterfallTwice.j1 kj3 a1 l2 t210 t211 t212 bt215.1 bt215.2.1 bt215.2.2 (bt215.2.2 != 0)) else (cl47_WaterfallTwice.j1 kj3 a1 l2 t210 t211 t212 bt215.1 bt215.2.1 bt215.2.2 true))) = some r:=H
    have A12:=Aside0.mk A120
    clear A120
    replace H:=Option.bind_eq_some_iff.mp H
    obtain ⟨⟨t215, t216, t217⟩, A130, H⟩:=H
    replace H : (if t212 = 0 then (cl47_WaterfallTwice.j1 kj3 a1 l2 t210 t211 t212 t215 t216 t217 (t217 != 0)) else (cl47_WaterfallTwice.j1 kj3 a1 l2 t210 t211 t212 t215 t216 t217 true)) = some r:=H
    have A13:=Aside0.mk A130
    clear A130
    have HC14:=Aside0.mk H
    clear H
    go_upto_region 5 with (first | ((with_reducible refine gate_callee (f:=11) rfl ?_);refine goesL_ (some 46) rfl rfl Try.func11 (by kernel_rfl) rfl #[.int .i64 (wrap64 (a0 + a1)), .slice A2 l2.length c2] rfl (by (try simp only [List.map_toArray, List.map_cons, List.map_nil]);first | done | rfl | (simp only [List.length_drop, List.length_take];rfl)) ?_;(with_reducible refine (waterfall_Absorb.calls kj3 (wrap64 (a0 + a1)) _ _ l2 t210 t211 t212 _ ?side1 ?side2 A12.out).mono ?_);(case side1=>repeat (first | exact (Kd.C_below HR2.out HB.out) | (with_reducible refine Kd.C_alloc ?_ _) | (with_reducible refine Kd.C_drewN ?_ _) | (with_reducible refine Kd.C_drew ?_)));(case side2=>exact HC2.out);rintro e w15 ⟨v213, rfl, ho0, hb⟩;refine ⟨_, rfl, ?_⟩;have n0_:=Aside0.mk (Kd.R_lower ho0 (below_size (by repeat (first | (with_reducible first | exact HB.out | apply below_alloc | apply pw_below_drewN | apply below_drew1) | exact HB.out))));have n1_:=Aside0.mk (below_step (by repeat (first | (with_reducible first | exact HB.out | apply below_alloc | apply pw_below_drewN | apply below_drew1) | exact HB.out)) hb);clear HB;have HO214:=n0_;have HB:=n1_;clear n0_ n1_;(try clear hb);(try clear hb2);(try clear hk);(try clear hi);(try clear ho0)) | ((with_reducible refine gate_callee (f:=11) rfl ?_);refine goesL_ (some 53) rfl rfl Try.func11 (by kernel_rfl) rfl #[.int .i64 a0, .slice A2 l2.length c2] rfl (by (try simp only [List.map_toArray, List.map_cons, List.map_nil]);first | done | rfl | (simp only [List.length_drop, List.length_take];rfl)) ?_;(with_reducible refine (waterfall_Absorb.calls kj3 a0 _ _ l2 t215 t216 t217 _ ?side1 ?side2 A13.out).mono ?_);(case side1=>repeat (first | exact (Kd.C_below HR2.out HB.out) | (with_reducible refine Kd.C_alloc ?_ _) | (with_reducible refine Kd.C_drewN ?_ _) | (with_reducible refine Kd.C_drew ?_)));(case side2=>exact HC2.out);rintro e w16 ⟨v218, rfl, ho0, hb⟩;refine ⟨_, rfl, ?_⟩;have n0_:=Aside0.mk (Kd.R_elder' (by (with_reducible repeat (first | apply Kd.R_alloc | apply Kd.R_drewN | apply Kd.R_drew));exact HO214.out) (Kd.R_base ho0) hb);have n1_:=Aside0.mk (Kd.R_lower (Kd.R_new' ho0 (Kd.R_lt (by (with_reducible repeat (first | apply Kd.R_alloc | apply Kd.R_drewN | apply Kd.R_drew));exact HO214.out))) (below_size (by repeat (first | (with_reducible first | exact HB.out | apply below_alloc | apply pw_below_drewN | apply below_drew1) | exact HB.out))));have n2_:=Aside0.mk (below_step (by repeat (first | (with_reducible first | exact HB.out | apply below_alloc | apply pw_below_drewN | apply below_drew1) | exact HB.out)) hb);clear HO214 HB;have HO214:=n0_;have HO219:=n1_;have HB:=n2_;clear n0_ n1_ n2_;(try clear hb);(try clear hb2);(try clear hk);(try clear hi);(try clear ho0)))
    (try simp only [Act.put, List.setIfInBounds_toArray, List.set_cons_zero, List.set_cons_succ])
    go_cut [62] (fun v62 wc=>∃ (kq : Nat) (x62_13 : Bool), v62 = .bool x62_13 ∧ Aside0 (cl47_WaterfallTwice.j1 kq a1 l2 t210 t211 t212 t215 t216 t217 x62_13 = some r) ∧ Aside0 (kq ≤ kj3) ∧ Aside0 (Kd.R (Kd.int .i64) 3 wc w.heap.size (fun k_=>some k_ ≠ (v218 : Value).ownBlock) v213 t210) ∧ Aside0 (Kd.R (Kd.int .i64) 3 wc w.heap.size (fun k_=>some k_ ≠ (v213 : Value).ownBlock) v218 t215) ∧ Aside0 (Below w.heap.size w wc))
    case first =>
     have H:=HC14.out
     clear HC14
     by_cases c17 : t212 = 0
     ·rw [if_pos c17] at H
      have c17b0 : (t212 == 0) = true:=beq_iff_eq.mpr c17
      have c17b1 : (t212 != 0) = false:=bne_eq_false_iff_eq.mpr c17
      clear c17
      (first | rw [c17b0] | (simp only [i64_w, i32_w];rw [c17b0]) | rw [c17b1] | skip)
      have H':=Aside0.mk H
      clear H
      go_wp2
      go_meet
      case rel=>exact ⟨_, ((t217 != 0)), (by first | rfl | (simp;done) | (simp [*];done)), H', ⟨by have:=HJ3.out;first | omega | exact Nat.le_refl _⟩, ⟨by (with_reducible repeat (first | apply Kd.R_alloc | apply Kd.R_drewN | apply Kd.R_drew));exact Kd.R_mono HO214.out (fun _ hk=>hk.2)⟩, ⟨by (with_reducible repeat (first | apply Kd.R_alloc | apply Kd.R_drewN | apply Kd.R_drew));exact Kd.R_mono HO219.out (fun _ hk=>hk.2)⟩, ⟨by repeat (first | (with_reducible first | exact HB.out | apply below_alloc | apply pw_below_drewN | apply below_drew1) | exact HB.out)⟩⟩
     ·rw [if_neg c17] at H
      have c17b0 : (t212 == 0) = false:=beq_eq_false_iff_ne.mpr c17
      have c17b1 : (t212 != 0) = true:=bne_iff_ne.mpr c17
      (first | rw [c17b0] | (simp only [i64_w, i32_w];rw [c17b0]) | rw [c17b1] | skip)
      have H':=Aside0.mk H
      clear H
      go_wp2
      go_meet
      case rel=>exact ⟨_, (true), (by first | rfl | (simp;done) | (simp [*];done)), H', ⟨by have:=HJ3.out;first | omega | exact Nat.le_refl _⟩, ⟨by (with_reducible repeat (first | apply Kd.R_alloc | apply Kd.R_drewN | apply Kd.R_drew));exact Kd.R_mono HO214.out (fun _ hk=>hk.2)⟩, ⟨by (with_reducible repeat (first | apply Kd.R_alloc | apply Kd.R_drewN | apply Kd.R_drew));exact Kd.R_mono HO219.out (fun _ hk=>hk.2)⟩, ⟨by repeat (first | (with_reducible first | exact HB.out | apply below_alloc | apply pw_below_drewN | apply below_drew1) | exact HB.out)⟩⟩
    case rest =>
     clear HC14
     try clear c1
     try clear c2
     try clear p2
     try clear c5
     try clear c5b0
     try clear c5b1
     try clear c6
     try clear c6b0
     try clear p6
     try clear c7
     try clear c7b0
     try clear c8
     try clear c8b0
     try clear c9
     try clear c10
     try clear c11
     try clear c17
     try clear c17b0
     try clear c17b1
     try clear p2
     try clear p6
     obtain ⟨kq, x62_13, rfl, HA, HJ13, HO_7, HO_10, HB⟩:=hcut
     cases kq with
     | zero=>exact absurd HA.out (by simp [cl47_WaterfallTwice.j1])
     | succ kj13 =>
      have H:=HA.out
      clear HA
      simp only [cl47_WaterfallTwice.j1] at H
      by_cases c18 : x62_13 = true
      ·subst c18
       have H1 : (if t212 = t217 then (if (t210.length : Int) = 0 then (if (t215.length : Int) = 0 then ((cl47_goes.f kj13).bind fun t220=>(some t220)) else (none)) else (none)) else (none)) = some r:=by rw [if_pos rfl] at H;exact H
       clear H
       have H:=H1
       clear H1
       by_cases c19 : t212 = t217
       ·rw [if_pos c19] at H
        have c19b0 : (t212 == t217) = true:=beq_iff_eq.mpr c19
        have c19b1 : (t212 != t217) = false:=bne_eq_false_iff_eq.mpr c19
        clear c19
        by_cases c20 : (t210.length : Int) = 0
        ·rw [if_pos c20] at H
         have c20b0 : ((t210.length : Int) == 0) = true:=beq_iff_eq.mpr c20
         have c20b1 : ((t210.length : Int) != 0) = false:=bne_eq_false_iff_eq.mpr c20
         clear c20
         by_cases c21 : (t215.length : Int) = 0
         ·rw [if_pos c21] at H
          have c21b0 : ((t215.length : Int) == 0) = true:=beq_iff_eq.mpr c21
          have c21b1 : ((t215.length : Int) != 0) = false:=bne_eq_false_iff_eq.mpr c21
          clear c21
          replace H:=Option.bind_eq_some_iff.mp H
          obtain ⟨t220, A220, H⟩:=H
          replace H : (some t220) = some r:=H
          have A22:=Aside0.mk A220
          clear A220
          obtain rfl:=Option.some.inj H
          obtain ⟨Ao23, co23, eo23⟩:=Kd.R_slice HO_7.out
          subst eo23
          obtain ⟨Ao24, co24, eo24⟩:=Kd.R_slice HO_10.out
          subst eo24
          go_wp2_with (first | (go_at_call 10;(with_reducible refine (cl47_goes.calls kj13  t220 _ A22.out).mono ?_);rintro e w25 ⟨rfl, hb⟩;have n0_:=Aside0.mk (Kd.R_below (by (with_reducible repeat (first | apply Kd.R_alloc | apply Kd.R_drewN | apply Kd.R_drew));exact HO_7.out) hb);have n1_:=Aside0.mk (Kd.R_below (by (with_reducible repeat (first | apply Kd.R_alloc | apply Kd.R_drewN | apply Kd.R_drew));exact HO_10.out) hb);have n2_:=Aside0.mk (below_step (by repeat (first | (with_reducible first | exact HB.out | apply below_alloc | apply pw_below_drewN | apply below_drew1) | exact HB.out)) hb);clear HO_7 HO_10 HB;have HO_7:=n0_;have HO_10:=n1_;have HB:=n2_;clear n0_ n1_ n2_;(try clear hb);(try clear hb2);(try clear hk);(try clear hi)))
          go_ret
          exact ⟨by first | rfl | (simp [errW_none, errW_some] <;> rfl) | (simp [*, errW_none, errW_some] <;> rfl), by repeat (first | (with_reducible first | exact HB.out | apply below_alloc | apply pw_below_drewN | apply below_drew1) | exact HB.out)⟩
         ·rw [if_neg c21] at H
          exact absurd H (by simp)
        ·rw [if_neg c20] at H
         exact absurd H (by simp)
       ·rw [if_neg c19] at H
        exact absurd H (by simp)
      ·replace c18:=Bool.eq_false_iff.mpr c18
       subst c18
       have H1 : (if (t215.length : Int) = (l2.length : Int) then (cl47_WaterfallTwice.j2 kj13 a1 l2 t210 t211 t215 t216 ((t210.length : Int) != (l2.length : Int))) else (cl47_WaterfallTwice.j2 kj13 a1 l2 t210 t211 t215 t216 true)) = some r:=by rw [if_neg (show ¬ (false = true) by decide)] at H;exact H
       clear H
       have H:=H1
       clear H1
       have HC26:=Aside0.mk H
       clear H
       go_upto_region 7 with (fail)
       go_cut [90] (fun v90 wc=>∃ (kq : Nat) (x90_25 : Bool), v90 = .bool x90_25 ∧ Aside0 (cl47_WaterfallTwice.j2 kq a1 l2 t210 t211 t215 t216 x90_25 = some r) ∧ Aside0 (kq ≤ kj13) ∧ Aside0 (Kd.R (Kd.int .i64) 3 wc w.heap.size (fun k_=>some k_ ≠ (v218 : Value).ownBlock) v213 t210) ∧ Aside0 (Kd.R (Kd.int .i64) 3 wc w.heap.size (fun k_=>some k_ ≠ (v213 : Value).ownBlock) v218 t215) ∧ Aside0 (Below w.heap.size w wc))
       case first =>
        have H:=HC26.out
        clear HC26
        by_cases c27 : (t215.length : Int) = (l2.length : Int)
        ·rw [if_pos c27] at H
         have c27b0 : ((t215.length : Int) == (l2.length : Int)) = true:=beq_iff_eq.mpr c27
         have c27b1 : ((t215.length : Int) != (l2.length : Int)) = false:=bne_eq_false_iff_eq.mpr c27
         have c27b2 : (t215.length == l2.length) = true:=by first | simpa using c27 | (simp at c27 ⊢;omega)
         clear c27
         (first | rw [c27b0] | (simp only [i64_w, i32_w];rw [c27b0]) | rw [c27b1] | rw [c27b2] | skip)
         have H':=Aside0.mk H
         clear H
         obtain ⟨Ao28, co28, eo28⟩:=Kd.R_slice HO_10.out
         subst eo28
         obtain ⟨Ao29, co29, eo29⟩:=Kd.R_slice HO_7.out
         subst eo29
         go_wp2
         go_meet
         case rel=>exact ⟨_, (((t210.length : Int) != (l2.length : Int))), (by first | rfl | (simp;done) | (simp [*];done)), H', ⟨by have:=HJ3.out;have:=HJ13.out;first | omega | exact Nat.le_refl _⟩, ⟨by (with_reducible repeat (first | apply Kd.R_alloc | apply Kd.R_drewN | apply Kd.R_drew));exact HO_7.out⟩, ⟨by (with_reducible repeat (first | apply Kd.R_alloc | apply Kd.R_drewN | apply Kd.R_drew));exact HO_10.out⟩, ⟨by repeat (first | (with_reducible first | exact HB.out | apply below_alloc | apply pw_below_drewN | apply below_drew1) | exact HB.out)⟩⟩
        ·rw [if_neg c27] at H
         have c27b0 : ((t215.length : Int) == (l2.length : Int)) = false:=beq_eq_false_iff_ne.mpr c27
         have c27b1 : ((t215.length : Int) != (l2.length : Int)) = true:=bne_iff_ne.mpr c27
         have c27b2 : (t215.length == l2.length) = false:=by first | simpa using c27 | (simp at c27 ⊢;omega)
         (first | rw [c27b0] | (simp only [i64_w, i32_w];rw [c27b0]) | rw [c27b1] | rw [c27b2] | skip)
         have H':=Aside0.mk H
         clear H
         obtain ⟨Ao30, co30, eo30⟩:=Kd.R_slice HO_10.out
         subst eo30
         go_wp2
         go_meet
         case rel=>exact ⟨_, (true), (by first | rfl | (simp;done) | (simp [*];done)), H', ⟨by have:=HJ3.out;have:=HJ13.out;first | omega | exact Nat.le_refl _⟩, ⟨by (with_reducible repeat (first | apply Kd.R_alloc | apply Kd.R_drewN | apply Kd.R_drew));exact HO_7.out⟩, ⟨by (with_reducible repeat (first | apply Kd.R_alloc | apply Kd.R_drewN | apply Kd.R_drew));exact HO_10.out⟩, ⟨by repeat (first | (with_reducible first | exact HB.out | apply below_alloc | apply pw_below_drewN | apply below_drew1) | exact HB.out)⟩⟩
       case rest =>
        clear HC26
        try clear c1
        try clear c2
        try clear p2
        try clear c5
        try clear c5b0
        try clear c5b1
        try clear c6
        try clear c6b0
        try clear p6
        try clear c7
        try clear c7b0
        try clear c8
        try clear c8b0
        try clear c9
        try clear c10
        try clear c11
        try clear c17
        try clear c17b0
        try clear c17b1
        try clear c18
        try clear c19
        try clear c19b0
        try clear c19b1
        try clear c20
        try clear c20b0
        try clear c20b1
        try clear c21
        try clear c21b0
        try clear c21b1
        try clear c27
        try clear c27b0
        try clear c27b1
        try clear c27b2
        try clear p2
        try clear p6
        obtain ⟨kq, x90_25, rfl, HA, HJ25, HO_7, HO_10, HB⟩:=hcut
        cases kq with
        | zero=>exact absurd HA.out (by simp [cl47_WaterfallTwice.j2])
        | succ kj25 =>
         have H:=HA.out
         clear HA
         simp only [cl47_WaterfallTwice.j2] at H
         by_cases c31 : x90_25 = true
         ·subst c31
          have H1 : (none) = some r:=by rw [if_pos rfl] at H;exact H
          clear H
          have H:=H1
          clear H1
          exact absurd H (by simp)
         ·replace c31:=Bool.eq_false_iff.mpr c31
          subst c31
          have H1 : ((some (([] : List (S37)) : List (S37))).bind fun y221=>(if y221.length + l2.length < 3518437208883 then (cl47_WaterfallTwice.l0 kj25 a1 l2 t210 t211 t215 t216 (y221 ++ l2) 0) else (none))) = some r:=by rw [if_neg (show ¬ (false = true) by decide)] at H;exact H
          clear H
          have H:=H1
          clear H1
          obtain ⟨y221, hy221⟩ : ∃ y_ : List (S37), y_ = (([] : List (S37))):=⟨_, rfl⟩
          replace H : (if y221.length + l2.length < 3518437208883 then (cl47_WaterfallTwice.l0 kj25 a1 l2 t210 t211 t215 t216 (y221 ++ l2) 0) else (none)) = some r:=by first | (rw [hy221];with_reducible exact H) | (have H2_:=(Option.bind_some _ _).symm.trans H;rw [hy221];with_reducible exact H2_) | (have H2_:=(Option.bind_some _ _).symm.trans H;with_reducible exact H2_) | with_reducible exact H | (rw [hy221];exact H) | exact H
          have Ny221:=Aside0.mk hy221
          clear hy221
          by_cases c32 : y221.length + l2.length < 3518437208883
          ·rw [if_pos c32] at H
           have LMc32:=Aside0.mk c32
           clear c32
           obtain ⟨y224, hy224⟩ : ∃ y_ : List (S37), y_ = (y221 ++ l2):=⟨_, rfl⟩
           replace H : (cl47_WaterfallTwice.l0 kj25 a1 l2 t210 t211 t215 t216 y224 0) = some r:=by first | (rw [hy224];with_reducible exact H) | (have H2_:=(Option.bind_some _ _).symm.trans H;rw [hy224];with_reducible exact H2_) | (have H2_:=(Option.bind_some _ _).symm.trans H;with_reducible exact H2_) | with_reducible exact H | (rw [hy224];exact H) | exact H
           have Ny224:=Aside0.mk hy224
           clear hy224
           have H':=Aside0.mk H
           clear H
           go_wp2_with (first | ((with_reducible refine gate_dst (N:=91) rfl ?_);(try (refine gate_guard (by rfl) ?_;dsimp only));refine Kd.R_lit k37 _ 37 ?hg (N:=91) ?hd (xs:=([] : List (S37))) (inner:=[]) (ok:=fun _=>True) (okp:=fun _=>True) ?hr ?hp (fun _ hk=>hk) trivial (Below.refl _ _) (Nat.le_refl _) (by simp) ?_;(case hd=>rfl);(case hg=>rfl);(case hr=>first | (go_simp;done) | (go_simp;rfl));(case hp=>exact (Reps.none _ _));intro v222 w33 ho34 hb hg_ hnew_;clear hg_ hnew_;(first | rw [← Ny221.out] at ho34 | (simp only [Int.reduceToNat] at ho34;rw [← Ny221.out] at ho34));have n0_:=Aside0.mk (Kd.R_below (by (with_reducible repeat (first | apply Kd.R_alloc | apply Kd.R_drewN | apply Kd.R_drew));exact HO_7.out) hb);have n1_:=Aside0.mk (Kd.R_below (by (with_reducible repeat (first | apply Kd.R_alloc | apply Kd.R_drewN | apply Kd.R_drew));exact HO_10.out) hb);have n2_:=Aside0.mk (Kd.R_lower ho34 (below_size (by repeat (first | (with_reducible first | exact HB.out | apply below_alloc | apply pw_below_drewN | apply below_drew1) | exact HB.out))));have n3_:=Aside0.mk (below_step (by repeat (first | (with_reducible first | exact HB.out | apply below_alloc | apply pw_below_drewN | apply below_drew1) | exact HB.out)) hb);clear HO_7 HO_10 HB;have HO_7:=n0_;have HO_10:=n1_;have HO223:=n2_;have HB:=n3_;clear n0_ n1_ n2_ n3_ hb ho34) | ((with_reducible refine gate_builtin (b:=.append) (xs:=#[.tmp 91, .tmp 92]) rfl ?_);(try (refine gate_guard (by rfl) ?_;dsimp only));at_builtin;refine Kd.R_append_rows k37 (w0:=w) w.heap.size rfl (.tmp 91) (.tmp 92) 22 37 (.agg #[(.int .i64 0), (.int .i64 0), (.string ⟨#[]⟩), (.int .i64 0)]) 40 rfl Try.underlying22 info37 rfl (by decide) (by omega) v222 y221 l2 _ _ _ (fun _=>True) (fun _=>False) rfl rfl ?aO ?aR (fun _ _ h=>h) (fun _ h=>h.elim) ?aF ?aB ?aS ?aL ?_;(case aR=>repeat (first | exact (Kd.C_below HR2.out HB.out) | (with_reducible refine Kd.C_alloc ?_ _) | (with_reducible refine Kd.C_drewN ?_ _) | (with_reducible refine Kd.C_drew ?_)));(case aB=>exact (by repeat (first | (with_reducible first | exact HB.out | apply below_alloc | apply pw_below_drewN | apply below_drew1) | exact HB.out)));(case aF=>exact (fun _ _=>trivial));(case aO=>exact (by (with_reducible repeat (first | apply Kd.R_alloc | apply Kd.R_drewN | apply Kd.R_drew));exact HO223.out));(case aS=>exact (below_size (by repeat (first | (with_reducible first | exact HB.out | apply below_alloc | apply pw_below_drewN | apply below_drew1) | exact HB.out))));(case aL=>have:=LMc32.out;omega);intro v225 w35 ho hb hg hat;rw [← Ny224.out] at ho;have n0_:=Aside0.mk (Kd.R_over' (by (with_reducible repeat (first | apply Kd.R_alloc | apply Kd.R_drewN | apply Kd.R_drew));exact HO_7.out) (Kd.R_typed (by (with_reducible repeat (first | apply Kd.R_alloc | apply Kd.R_drewN | apply Kd.R_drew));exact HO223.out)) (by decide) hg);have n1_:=Aside0.mk (Kd.R_over' (by (with_reducible repeat (first | apply Kd.R_alloc | apply Kd.R_drewN | apply Kd.R_drew));exact HO_10.out) (Kd.R_typed (by (with_reducible repeat (first | apply Kd.R_alloc | apply Kd.R_drewN | apply Kd.R_drew));exact HO223.out)) (by decide) hg);have n2_:=Aside0.mk (hb);have n3_:=Aside0.mk (ho);clear HO_7 HO_10 HB HO223;have HO_7:=n0_;have HO_10:=n1_;have HB:=n2_;have HO226:=n3_;clear n0_ n1_ n2_ n3_ ho hb hg hat))
           go_loopg [14] kj25 (fun kq v14 w'=>∃ (x13_4 : List (S37)) (x14_4 : Int), v14 = .int .i64 x14_4 ∧ Aside0 (cl47_WaterfallTwice.l0 kq a1 l2 t210 t211 t215 t216 x13_4 x14_4 = some r) ∧ Aside0 (kq ≤ kj25) ∧ Aside0 (Kd.R (Kd.int .i64) 3 w' w.heap.size (fun k_=>some k_ ≠ (v218 : Value).ownBlock) v213 t210) ∧ Aside0 (Kd.R (Kd.int .i64) 3 w' w.heap.size (fun k_=>some k_ ≠ (v213 : Value).ownBlock) v218 t215) ∧ Aside0 (Kd.R k37 37 w' w.heap.size (fun _=>True) v225 x13_4) ∧ Aside0 (Below w.heap.size w w'))
           case atStart=>exact ⟨(y224), (0), (by first | rfl | (simp;done) | (simp [*];done)), H', ⟨Nat.le_refl _⟩, ⟨by (with_reducible repeat (first | apply Kd.R_alloc | apply Kd.R_drewN | apply Kd.R_drew));exact HO_7.out⟩, ⟨by (with_reducible repeat (first | apply Kd.R_alloc | apply Kd.R_drewN | apply Kd.R_drew));exact HO_10.out⟩, ⟨by (with_reducible repeat (first | apply Kd.R_alloc | apply Kd.R_drewN | apply Kd.R_drew));exact HO226.out⟩, ⟨by repeat (first | (with_reducible first | exact HB.out | apply below_alloc | apply pw_below_drewN | apply below_drew1) | exact HB.out)⟩⟩
           case round =>
            clear H'
            try clear c1
            try clear c2
            try clear p2
            try clear c3
            try clear c5
            try clear c5b0
            try clear c5b1
            try clear c6
            try clear c6b0
            try clear p6
            try clear c7
            try clear c7b0
            try clear c8
            try clear c8b0
            try clear c9
            try clear c10
            try clear c11
            try clear c17
            try clear c17b0
            try clear c17b1
            try clear c18
            try clear c19
            try clear c19b0
            try clear c19b1
            try clear c20
            try clear c20b0
            try clear c20b1
            try clear c21
            try clear c21b0
            try clear c21b1
            try clear c27
            try clear c27b0
            try clear c27b1
            try clear c27b2
            try clear c31
            try clear c32
            try clear p2
            try clear p6
            obtain ⟨x13_4, x14_4, rfl, HA, HK4, HO_7, HO_10, HO_13, HB⟩:=hrel
            cases gk with
            | zero=>exact absurd HA.out (by simp [cl47_WaterfallTwice.l0])
            | succ k4 =>
             have H:=HA.out
             clear HA
             simp only [cl47_WaterfallTwice.l0] at H
             by_cases c36 : x14_4 < (x13_4.length : Int)
             ·rw [if_pos c36] at H
              have c36b0 : decide (x14_4 < (x13_4.length : Int)) = true:=decide_eq_true c36
              clear c36
              by_cases c37 : 0 ≤ x14_4
              ·rw [if_pos c37] at H
               have c37b0 : decide (0 ≤ x14_4) = true:=decide_eq_true c37
               clear c37
               by_cases c38 : x14_4 < (t215.length : Int)
               ·rw [if_pos c38] at H
                have c38b0 : decide (x14_4 < (t215.length : Int)) = true:=decide_eq_true c38
                clear c38
                obtain ⟨y229, hy229⟩ : ∃ y_ : List (S37), y_ = (x13_4.set (x14_4 : Int).toNat (⟨(rd_T37 x13_4 x14_4).f0, (rd_T37 x13_4 x14_4).f1, (rd_T37 x13_4 x14_4).f2, wrap64 (((rd_T37 x13_4 x14_4).f3) - (rd t215 x14_4))⟩ : S37)):=⟨_, rfl⟩
                replace H : (cl47_WaterfallTwice.l0 k4 a1 l2 t210 t211 t215 t216 y229 (wrap64 (x14_4 + 1))) = some r:=by first | (rw [hy229];with_reducible exact H) | (have H2_:=(Option.bind_some _ _).symm.trans H;rw [hy229];with_reducible exact H2_) | (have H2_:=(Option.bind_some _ _).symm.trans H;with_reducible exact H2_) | with_reducible exact H | (rw [hy229];exact H) | exact H
                have Ny229:=Aside0.mk hy229
                clear hy229
                have H':=Aside0.mk H
                clear H
                obtain ⟨Ao40, co40, eo40⟩:=Kd.R_slice HO_13.out
                subst eo40
                try go_wp2
                have n0_:=Aside0.mk (Kd.R_drew HO_7.out)
                have n1_:=Aside0.mk (Kd.R_drew HO_10.out)
                have n2_:=Aside0.mk (Kd.R_drew HO_13.out)
                have n3_:=Aside0.mk (below_drew1 HB.out)
                clear HO_7
                clear HO_10
                clear HO_13
                clear HB
                have HO_7:=n0_
                have HO_10:=n1_
                have HO_13:=n2_
                have HB:=n3_
                clear n0_ n1_ n2_ n3_
                have p227 : 0 ≤ (x14_4 : Int):=of_decide_eq_true (by first | (with_reducible assumption) | assumption)
                have q227 : x14_4 < (x13_4.length : Int):=of_decide_eq_true (by first | (with_reducible assumption) | assumption)
                obtain ⟨ad227, e227, hx227_0, hx227_1, hx227_2, hx227_3⟩:=at_T37 (Kd.R_reads' HO_13.out).2.2 x14_4 p227 q227
                cases e227
                replace p227:=eq_true p227
                replace q227:=eq_true q227
                obtain ⟨Ao42, co42, eo42⟩:=Kd.R_slice HO_10.out
                (first | subst eo42 | (injection eo42 with f1_ f2_ f3_;have f4_:=f1_.symm;have f5_:=f3_.symm;clear f1_ f2_ f3_;subst f4_;subst f5_))
                have p228 : 0 ≤ (x14_4 : Int):=of_decide_eq_true (by first | (with_reducible assumption) | assumption)
                have q228 : x14_4 < (t215.length : Int):=of_decide_eq_true (by first | (with_reducible assumption) | assumption)
                obtain ⟨ad228, e228, hx228_0⟩:=Kd.at_int (Kd.R_reads' HO_10.out).2.2 x14_4 p228 q228
                cases e228
                replace p228:=eq_true p228
                replace q228:=eq_true q228
                have p39 : 0 ≤ (x14_4 : Int):=of_decide_eq_true (by first | (with_reducible assumption) | assumption)
                have q39 : (x14_4 : Int) < ((x13_4.length : Int) : Int):=of_decide_eq_true (by first | (with_reducible assumption) | assumption)
                obtain ⟨go39, co39, eo39, gb39, gl39, cl39, HG39⟩:=Kd.R_form HO_13.out (by omega)
                (first | cases eo39 | (injection eo39 with ea_ en_ ec_;(first | subst ea_ | (injection ea_ with ea_;subst ea_));subst ec_;clear en_))
                have GB39:=Aside0.mk gb39
                have GG39:=Aside0.mk HG39
                clear gb39 gl39 HG39
                (first | simp only [add_plain] at hx227_0 | skip)
                (first | simp only [add_plain] at hx227_1 | skip)
                (first | simp only [add_plain] at hx227_2 | skip)
                (first | simp only [add_plain] at hx227_3 | skip)
                obtain ⟨ce39, hcl39, hM39, hcc39, hfr39⟩:=Kd.R_elem HO_13.out z37 (x14_4 : Int) p39 q39
                obtain rfl:=k37_openM hM39
                have hx39_0 : World.cell? _ ⟨go39, (x14_4 : Int).toNat * 4, none⟩ = some (.int .i64 ((rd_T37 x13_4 x14_4).f0)):=hcc39 0 _ rfl
                have hx39_1 : World.cell? _ ⟨go39, (x14_4 : Int).toNat * 4 + 1, none⟩ = some (.int .i64 ((rd_T37 x13_4 x14_4).f1)):=hcc39 1 _ rfl
                have hx39_2 : World.cell? _ ⟨go39, (x14_4 : Int).toNat * 4 + 2, none⟩ = some (.string ((rd_T37 x13_4 x14_4).f2)):=hcc39 2 _ rfl
                have hx39_3 : World.cell? _ ⟨go39, (x14_4 : Int).toNat * 4 + 3, none⟩ = some (.int .i64 ((rd_T37 x13_4 x14_4).f3)):=hcc39 3 _ rfl
                have hf39_0 : World.frozen? _ ⟨go39, (x14_4 : Int).toNat * 4, none⟩ = false:=hfr39 0
                have hf39_1 : World.frozen? _ ⟨go39, (x14_4 : Int).toNat * 4 + 1, none⟩ = false:=hfr39 1
                have hf39_2 : World.frozen? _ ⟨go39, (x14_4 : Int).toNat * 4 + 2, none⟩ = false:=hfr39 2
                have hf39_3 : World.frozen? _ ⟨go39, (x14_4 : Int).toNat * 4 + 3, none⟩ = false:=hfr39 3
                clear hcl39 hcc39 hfr39 hM39
                replace p39:=eq_true p39
                replace q39:=eq_true q39
                obtain ⟨ce43, hcl43, hM43, hcc43, hfr43⟩:=Kd.R_elem HO_13.out z37 (x14_4 : Int) (of_decide_eq_true (by first | (with_reducible assumption) | assumption)) (by have h_ : (x14_4 : Int) < ((x13_4.length : Int) : Int):=of_decide_eq_true (by first | (with_reducible assumption) | assumption);first | exact h_ | (have e_:=(Kd.R_reads' HO_13.out).1;omega) | simpa using h_)
                obtain rfl:=k37_openM hM43
                have HP43:=(Kd.R_seg HO_13.out (x14_4 : Int) (of_decide_eq_true (by first | (with_reducible assumption) | assumption)) (by have h_ : (x14_4 : Int) < ((x13_4.length : Int) : Int):=of_decide_eq_true (by first | (with_reducible assumption) | assumption);first | exact h_ | (have e_:=(Kd.R_reads' HO_13.out).1;omega) | simpa using h_) (seg:=[.int .i64 (wrap64 (((rd_T37 x13_4 x14_4).f3) - (rd t215 x14_4)))]) (j:=3) hcl43 hcc43 (show 4 ≤ 4 from by decide) (x':=(⟨(rd_T37 x13_4 x14_4).f0, (rd_T37 x13_4 x14_4).f1, (rd_T37 x13_4 x14_4).f2, wrap64 (((rd_T37 x13_4 x14_4).f3) - (rd t215 x14_4))⟩ : S37)) (k37_mkM _ _ _ (⟨(rd_T37 x13_4 x14_4).f0, (rd_T37 x13_4 x14_4).f1, (rd_T37 x13_4 x14_4).f2, wrap64 (((rd_T37 x13_4 x14_4).f3) - (rd t215 x14_4))⟩ : S37) ) (fun _ hk=>hk)).1
                rw [← Ny229.out] at HP43
                have HQ43:=Aside0.mk HP43
                clear hcl43 hcc43 hfr43 hM43 HP43
                refine start_ (n:=15) (S:=fun w'=>w'.cell? ⟨go39, ((x14_4).toNat * 4), none⟩ = some (.int .i64 ((rd_T37 x13_4 x14_4).f0)) ∧ w'.cell? ⟨go39, ((x14_4).toNat * 4) + 1, none⟩ = some (.int .i64 ((rd_T37 x13_4 x14_4).f1)) ∧ w'.cell? ⟨go39, ((x14_4).toNat * 4) + 2, none⟩ = some (.string ((rd_T37 x13_4 x14_4).f2)) ∧ w'.cell? ⟨go39, ((x14_4).toNat * 4) + 3, none⟩ = some (.int .i64 ((rd_T37 x13_4 x14_4).f3)) ∧ w'.cell? (ad228.add (x14_4).toNat) = some (.int .i64 (rd t215 x14_4))) (ds:=[14]) #[false, false, false, false, false, false, false, false, false, false, false, false, false, false, false] (by kernel_rfl) rfl rfl ⟨hx227_0, hx227_1, hx227_2, hx227_3, hx228_0⟩ (fun hHeld=>?_);refine with_tabW cl47_WaterfallTwice.tab13 cl47_WaterfallTwice.bits13 (fun HT_ HW_=>?_)
                generalize wr.drew = w41 at HO_7 HO_10 HO_13 HB GG39 HQ43 hf39_0 hf39_1 hf39_2 hf39_3 hx227_0 hx227_1 hx227_2 hx227_3 hx228_0 hx39_0 hx39_1 hx39_2 hx39_3 hHeld ⊢
                refine pure_ (i:=0) (N:=some 100) (v:=?_) (a':=?_) #[true, false, false, false, false, false, false, false, false, false, false, false, false, false, false] rfl rfl (any_of HT_.out (by kernel_rfl)) (fun _ _ _ h=>h) (Or.inl ⟨by rfl, ?_⟩) ?_ ?_
                rotate_left
                ·intro w'
                 go_simp
                 with_reducible rfl
                rotate_left
                ·simp only [Act.put, List.setIfInBounds_toArray, List.set_cons_zero, List.set_cons_succ, i64_w, i32_w]
                 rfl
                refine pure_ (i:=1) (N:=some 101) (v:=?_) (a':=?_) #[true, true, false, false, false, false, false, false, false, false, false, false, false, false, false] rfl rfl (any_of HT_.out (by kernel_rfl)) (fun _ _ _ h=>h) (Or.inl ⟨by rfl, ?_⟩) ?_ ?_
                rotate_left
                ·intro w'
                 go_simp
                 with_reducible rfl
                rotate_left
                ·simp only [Act.put, List.setIfInBounds_toArray, List.set_cons_zero, List.set_cons_succ, i64_w, i32_w]
                 rfl
                refine pure_ (i:=2) (N:=some 102) (v:=?_) (a':=?_) #[true, true, true, false, false, false, false, false, false, false, false, false, false, false, false] rfl rfl (any_of HT_.out (by kernel_rfl)) (fun _ _ _ h=>h) (Or.inl ⟨by rfl, ?_⟩) ?_ ?_
                rotate_left
                ·intro w'
                 go_simp
                 with_reducible rfl
                rotate_left
                ·simp only [Act.put, List.setIfInBounds_toArray, List.set_cons_zero, List.set_cons_succ, i64_w, i32_w]
                 rfl
                refine pure_ (i:=3) (N:=some 103) (v:=?_) (a':=?_) #[true, true, true, true, false, false, false, false, false, false, false, false, false, false, false] rfl rfl (any_of HT_.out (by kernel_rfl)) (fun _ _ _ h=>h) (Or.inl ⟨by rfl, ?_⟩) ?_ ?_
                rotate_left
                ·intro w'
                 go_simp
                 with_reducible rfl
                rotate_left
                ·simp only [Act.put, List.setIfInBounds_toArray, List.set_cons_zero, List.set_cons_succ, i64_w, i32_w]
                 rfl
                refine pure_ (i:=4) (N:=some 104) (v:=?_) (a':=?_) #[true, true, true, true, true, false, false, false, false, false, false, false, false, false, false] rfl rfl (any_of HT_.out (by kernel_rfl)) (fun _ _ _ h=>h) (Or.inl ⟨by rfl, ?_⟩) ?_ ?_
                rotate_left
                ·intro w'
                 go_simp
                 with_reducible rfl
                rotate_left
                ·simp only [Act.put, List.setIfInBounds_toArray, List.set_cons_zero, List.set_cons_succ, i64_w, i32_w]
                 rfl
                refine pure_ (i:=5) (N:=some 105) (v:=?_) (a':=?_) #[true, true, true, true, true, true, false, false, false, false, false, false, false, false, false] rfl rfl (any_of HT_.out (by kernel_rfl)) (fun _ _ _ h=>h) (Or.inl ⟨by rfl, ?_⟩) ?_ ?_
                rotate_left
                ·intro w'
                 go_simp
                 with_reducible rfl
                rotate_left
                ·simp only [Act.put, List.setIfInBounds_toArray, List.set_cons_zero, List.set_cons_succ, i64_w, i32_w]
                 rfl
                refine pure_ (i:=7) (N:=some 107) (v:=?_) (a':=?_) #[true, true, true, true, true, true, false, true, false, false, false, false, false, false, false] rfl rfl (any_of HT_.out (by kernel_rfl)) (fun _ _ _ h=>h) (Or.inl ⟨by rfl, ?_⟩) ?_ ?_
                rotate_left
                ·intro w'
                 go_simp
                 with_reducible rfl
                rotate_left
                ·simp only [Act.put, List.setIfInBounds_toArray, List.set_cons_zero, List.set_cons_succ, i64_w, i32_w]
                 rfl
                refine pure_ (i:=8) (N:=some 108) (v:=?_) (a':=?_) #[true, true, true, true, true, true, false, true, true, false, false, false, false, false, false] rfl rfl (any_of HT_.out (by kernel_rfl)) (fun _ _ _ h=>h) (Or.inl ⟨by rfl, ?_⟩) ?_ ?_
                rotate_left
                ·intro w'
                 go_simp
                 with_reducible rfl
                rotate_left
                ·simp only [Act.put, List.setIfInBounds_toArray, List.set_cons_zero, List.set_cons_succ, i64_w, i32_w]
                 rfl
                refine pure_ (i:=9) (N:=some 109) (v:=?_) (a':=?_) #[true, true, true, true, true, true, false, true, true, true, false, false, false, false, false] rfl rfl (any_of HT_.out (by kernel_rfl)) (fun _ _ _ h=>h) (Or.inl ⟨by rfl, ?_⟩) ?_ ?_
                rotate_left
                ·intro w'
                 go_simp
                 with_reducible rfl
                rotate_left
                ·simp only [Act.put, List.setIfInBounds_toArray, List.set_cons_zero, List.set_cons_succ, i64_w, i32_w]
                 rfl
                refine take_ (i:=6) (N:=some 106) (v:=?_) (a':=?_) #[true, true, true, true, true, true, true, true, true, true, false, false, false, false, false] rfl rfl (take_ofW HT_.out HW_.out (by kernel_rfl)) (fun _ _ _ h=>h) (Or.inl ⟨by rfl, ?_⟩) hHeld ?_ ?_
                rotate_left
                ·rintro w' ⟨s0, s1, s2, s3, s4⟩
                 go_simp
                 with_reducible rfl
                rotate_left
                ·simp only [Act.put, List.setIfInBounds_toArray, List.set_cons_zero, List.set_cons_succ, i64_w, i32_w]
                 rfl
                refine take_ (i:=10) (N:=some 110) (v:=?_) (a':=?_) #[true, true, true, true, true, true, true, true, true, true, true, false, false, false, false] rfl rfl (take_ofW HT_.out HW_.out (by kernel_rfl)) (fun _ _ _ h=>h) (Or.inl ⟨by rfl, ?_⟩) hHeld ?_ ?_
                rotate_left
                ·rintro w' ⟨s0, s1, s2, s3, s4⟩
                 go_simp
                 with_reducible rfl
                rotate_left
                ·simp only [Act.put, List.setIfInBounds_toArray, List.set_cons_zero, List.set_cons_succ, i64_w, i32_w]
                 rfl
                refine pure_ (i:=11) (N:=some 111) (v:=?_) (a':=?_) #[true, true, true, true, true, true, true, true, true, true, true, true, false, false, false] rfl rfl (any_of HT_.out (by kernel_rfl)) (fun _ _ _ h=>h) (Or.inl ⟨by rfl, ?_⟩) ?_ ?_
                rotate_left
                ·intro w'
                 go_simp
                 with_reducible rfl
                rotate_left
                ·simp only [Act.put, List.setIfInBounds_toArray, List.set_cons_zero, List.set_cons_succ, i64_w, i32_w]
                 rfl
                refine pure_ (i:=12) (N:=some 112) (v:=?_) (a':=?_) #[true, true, true, true, true, true, true, true, true, true, true, true, true, false, false] rfl rfl (any_of HT_.out (by kernel_rfl)) (fun _ _ _ h=>h) (Or.inl ⟨by rfl, ?_⟩) ?_ ?_
                rotate_left
                ·intro w'
                 go_simp
                 with_reducible rfl
                rotate_left
                ·simp only [Act.put, List.setIfInBounds_toArray, List.set_cons_zero, List.set_cons_succ, i64_w, i32_w]
                 rfl
                refine pure_ (i:=13) (N:=some 113) (v:=?_) (a':=?_) #[true, true, true, true, true, true, true, true, true, true, true, true, true, true, false] rfl rfl (any_of HT_.out (by kernel_rfl)) (fun _ _ _ h=>h) (Or.inl ⟨by rfl, ?_⟩) ?_ ?_
                rotate_left
                ·intro w'
                 go_simp
                 with_reducible rfl
                rotate_left
                ·simp only [Act.put, List.setIfInBounds_toArray, List.set_cons_zero, List.set_cons_succ, i64_w, i32_w]
                 rfl
                refine last_ (i:=14) (N:=none) #[true, true, true, true, true, true, true, true, true, true, true, true, true, true, true] rfl rfl (one_of HT_.out (by kernel_rfl)) (by decide) (fun K hK=>?_)
                refine skip_ (w1:=?_) (by rfl) rfl ?_ ?_
                rotate_left
                ·go_simp
                 rfl
                refine hK.out _ _ ?_
                clear hK K
                refine done_ (done_of HT_.out (by kernel_rfl)) ?_
                try go_wp2
                go_roundg k4
                case measure=>have:=HJ3.out;have:=HJ13.out;have:=HJ25.out;have:=HK4.out;omega
                case rel=>exact ⟨(y229), (wrap64 (x14_4 + 1)), (by first | rfl | (simp;done) | (simp [*];done)), H', ⟨by have:=HJ3.out;have:=HJ13.out;have:=HJ25.out;have:=HK4.out;omega⟩, ⟨by (with_reducible repeat (first | apply Kd.R_alloc | apply Kd.R_drewN | apply Kd.R_drew));exact Kd.R_mono (Kd.R_far (p:=⟨go39, (x14_4 : Int).toNat * 4 + 3, none⟩) (Kd.R_types HO_7.out GG39.out (by decide)) (fun _ hk=>hk.2) (.int .i64 (wrap64 (((rd_T37 x13_4 x14_4).f3) - (rd t215 x14_4))))) (fun _ hk=>hk.1)⟩, ⟨by (with_reducible repeat (first | apply Kd.R_alloc | apply Kd.R_drewN | apply Kd.R_drew));exact Kd.R_mono (Kd.R_far (p:=⟨go39, (x14_4 : Int).toNat * 4 + 3, none⟩) (Kd.R_types HO_10.out GG39.out (by decide)) (fun _ hk=>hk.2) (.int .i64 (wrap64 (((rd_T37 x13_4 x14_4).f3) - (rd t215 x14_4))))) (fun _ hk=>hk.1)⟩, ⟨by (with_reducible repeat (first | apply Kd.R_alloc | apply Kd.R_drewN | apply Kd.R_drew));exact HQ43.out⟩, ⟨by repeat (first | (with_reducible first | exact HB.out | apply below_alloc | apply pw_below_drewN | apply below_drew1 | refine below_set ?_ GB39.out) | exact HB.out)⟩⟩
               ·rw [if_neg c38] at H
                exact absurd H (by simp)
              ·rw [if_neg c37] at H
               exact absurd H (by simp)
             ·rw [if_neg c36] at H
              have c36b0 : decide (x14_4 < (x13_4.length : Int)) = false:=decide_eq_false c36
              clear c36
              replace H:=Option.bind_eq_some_iff.mp H
              obtain ⟨⟨t230, t231, t232⟩, A440, H⟩:=H
              replace H : (if t232 = 0 then (if (t230.length : Int) = (l2.length : Int) then (cl47_WaterfallTwice.j4 k4 l2 t210 t215 t230 ((wrap64 (t216 + t231)) != t211)) else (cl47_WaterfallTwice.j4 k4 l2 t210 t215 t230 true)) else (cl47_WaterfallTwice.j4 k4 l2 t210 t215 t230 true)) = some r:=H
              have A44:=Aside0.mk A440
              clear A440
              have HC45:=Aside0.mk H
              clear H
              obtain ⟨Ao46, co46, eo46⟩:=Kd.R_slice HO_13.out
              subst eo46
              go_upto_region 15 with (first | ((with_reducible refine gate_callee (f:=11) rfl ?_);refine goesL_ (some 117) rfl rfl Try.func11 (by kernel_rfl) rfl #[.int .i64 a1, .slice Ao46 x13_4.length co46] rfl (by (try simp only [List.map_toArray, List.map_cons, List.map_nil]);first | done | rfl | (simp only [List.length_drop, List.length_take];rfl)) ?_;(with_reducible refine (waterfall_Absorb.calls k4 a1 _ _ x13_4 t230 t231 t232 _ ?side1 ?side2 A44.out).mono ?_);(case side1=>repeat (first | exact (Kd.R_reads' HO_13.out).2.2 | (with_reducible refine Kd.C_alloc ?_ _) | (with_reducible refine Kd.C_drewN ?_ _) | (with_reducible refine Kd.C_drew ?_)));(case side2=>exact (Kd.R_reads' HO_13.out).2.1);rintro e w47 ⟨v233, rfl, ho0, hb⟩;refine ⟨_, rfl, ?_⟩;have n0_:=Aside0.mk (Kd.R_elder' (by (with_reducible repeat (first | apply Kd.R_alloc | apply Kd.R_drewN | apply Kd.R_drew));exact HO_7.out) (Kd.R_base ho0) hb);have n1_:=Aside0.mk (Kd.R_elder' (by (with_reducible repeat (first | apply Kd.R_alloc | apply Kd.R_drewN | apply Kd.R_drew));exact HO_10.out) (Kd.R_base ho0) hb);have n2_:=Aside0.mk (Kd.R_below (by (with_reducible repeat (first | apply Kd.R_alloc | apply Kd.R_drewN | apply Kd.R_drew));exact HO_13.out) hb);have n3_:=Aside0.mk (Kd.R_lower (Kd.R_new' (Kd.R_new' ho0 (Kd.R_lt (by (with_reducible repeat (first | apply Kd.R_alloc | apply Kd.R_drewN | apply Kd.R_drew));exact HO_7.out))) (Kd.R_lt (by (with_reducible repeat (first | apply Kd.R_alloc | apply Kd.R_drewN | apply Kd.R_drew));exact HO_10.out))) (below_size (by repeat (first | (with_reducible first | exact HB.out | apply below_alloc | apply pw_below_drewN | apply below_drew1) | exact HB.out))));have n4_:=Aside0.mk (below_step (by repeat (first | (with_reducible first | exact HB.out | apply below_alloc | apply pw_below_drewN | apply below_drew1) | exact HB.out)) hb);clear HO_7 HO_10 HO_13 HB;have HO_7:=n0_;have HO_10:=n1_;have HO_13:=n2_;have HO234:=n3_;have HB:=n4_;clear n0_ n1_ n2_ n3_ n4_;(try clear hb);(try clear hb2);(try clear hk);(try clear hi);(try clear ho0)))
              (try simp only [Act.put, List.setIfInBounds_toArray, List.set_cons_zero, List.set_cons_succ])
              go_cut [136] (fun v136 wc=>∃ (kq : Nat) (x136_44 : Bool), v136 = .bool x136_44 ∧ Aside0 (cl47_WaterfallTwice.j4 kq l2 t210 t215 t230 x136_44 = some r) ∧ Aside0 (kq ≤ k4) ∧ Aside0 (Kd.R (Kd.int .i64) 3 wc w.heap.size (fun k_=>some k_ ≠ (v218 : Value).ownBlock ∧ some k_ ≠ (v233 : Value).ownBlock) v213 t210) ∧ Aside0 (Kd.R (Kd.int .i64) 3 wc w.heap.size (fun k_=>some k_ ≠ (v213 : Value).ownBlock ∧ some k_ ≠ (v233 : Value).ownBlock) v218 t215) ∧ Aside0 (Kd.R (Kd.int .i64) 3 wc w.heap.size (fun k_=>some k_ ≠ (v213 : Value).ownBlock ∧ some k_ ≠ (v218 : Value).ownBlock) v233 t230) ∧ Aside0 (Below w.heap.size w wc))
              case first =>
               have H:=HC45.out
               clear HC45
               by_cases c48 : t232 = 0
               ·rw [if_pos c48] at H
                have c48b0 : (t232 == 0) = true:=beq_iff_eq.mpr c48
                have c48b1 : (t232 != 0) = false:=bne_eq_false_iff_eq.mpr c48
                clear c48
                (first | rw [c48b0] | (simp only [i64_w, i32_w];rw [c48b0]) | rw [c48b1] | skip)
                by_cases c49 : (t230.length : Int) = (l2.length : Int)
                ·rw [if_pos c49] at H
                 have c49b0 : ((t230.length : Int) == (l2.length : Int)) = true:=beq_iff_eq.mpr c49
                 have c49b1 : ((t230.length : Int) != (l2.length : Int)) = false:=bne_eq_false_iff_eq.mpr c49
                 have c49b2 : (t230.length == l2.length) = true:=by first | simpa using c49 | (simp at c49 ⊢;omega)
                 clear c49
                 have H':=Aside0.mk H
                 clear H
                 obtain ⟨Ao50, co50, eo50⟩:=Kd.R_slice HO234.out
                 subst eo50
                 go_wp2
                 go_meet
                 case rel=>exact ⟨_, (((wrap64 (t216 + t231)) != t211)), (by first | rfl | (simp;done) | (simp [*];done)), H', ⟨by have:=HJ3.out;have:=HJ13.out;have:=HJ25.out;have:=HK4.out;first | omega | exact Nat.le_refl _⟩, ⟨by (with_reducible repeat (first | apply Kd.R_alloc | apply Kd.R_drewN | apply Kd.R_drew));exact HO_7.out⟩, ⟨by (with_reducible repeat (first | apply Kd.R_alloc | apply Kd.R_drewN | apply Kd.R_drew));exact HO_10.out⟩, ⟨by (with_reducible repeat (first | apply Kd.R_alloc | apply Kd.R_drewN | apply Kd.R_drew));exact Kd.R_mono HO234.out (fun _ hk=>⟨hk.1.2, hk.2⟩)⟩, ⟨by repeat (first | (with_reducible first | exact HB.out | apply below_alloc | apply pw_below_drewN | apply below_drew1) | exact HB.out)⟩⟩
                ·rw [if_neg c49] at H
                 have c49b0 : ((t230.length : Int) == (l2.length : Int)) = false:=beq_eq_false_iff_ne.mpr c49
                 have c49b1 : ((t230.length : Int) != (l2.length : Int)) = true:=bne_iff_ne.mpr c49
                 have c49b2 : (t230.length == l2.length) = false:=by first | simpa using c49 | (simp at c49 ⊢;omega)
                 have H':=Aside0.mk H
                 clear H
                 obtain ⟨Ao51, co51, eo51⟩:=Kd.R_slice HO234.out
                 subst eo51
                 go_wp2
                 go_meet
                 case rel=>exact ⟨_, (true), (by first | rfl | (simp;done) | (simp [*];done)), H', ⟨by have:=HJ3.out;have:=HJ13.out;have:=HJ25.out;have:=HK4.out;first | omega | exact Nat.le_refl _⟩, ⟨by (with_reducible repeat (first | apply Kd.R_alloc | apply Kd.R_drewN | apply Kd.R_drew));exact HO_7.out⟩, ⟨by (with_reducible repeat (first | apply Kd.R_alloc | apply Kd.R_drewN | apply Kd.R_drew));exact HO_10.out⟩, ⟨by (with_reducible repeat (first | apply Kd.R_alloc | apply Kd.R_drewN | apply Kd.R_drew));exact Kd.R_mono HO234.out (fun _ hk=>⟨hk.1.2, hk.2⟩)⟩, ⟨by repeat (first | (with_reducible first | exact HB.out | apply below_alloc | apply pw_below_drewN | apply below_drew1) | exact HB.out)⟩⟩
               ·rw [if_neg c48] at H
                have c48b0 : (t232 == 0) = false:=beq_eq_false_iff_ne.mpr c48
                have c48b1 : (t232 != 0) = true:=bne_iff_ne.mpr c48
                (first | rw [c48b0] | (simp only [i64_w, i32_w];rw [c48b0]) | rw [c48b1] | skip)
                have H':=Aside0.mk H
                clear H
                go_wp2
                go_meet
                case rel=>exact ⟨_, (true), (by first | rfl | (simp;done) | (simp [*];done)), H', ⟨by have:=HJ3.out;have:=HJ13.out;have:=HJ25.out;have:=HK4.out;first | omega | exact Nat.le_refl _⟩, ⟨by (with_reducible repeat (first | apply Kd.R_alloc | apply Kd.R_drewN | apply Kd.R_drew));exact HO_7.out⟩, ⟨by (with_reducible repeat (first | apply Kd.R_alloc | apply Kd.R_drewN | apply Kd.R_drew));exact HO_10.out⟩, ⟨by (with_reducible repeat (first | apply Kd.R_alloc | apply Kd.R_drewN | apply Kd.R_drew));exact Kd.R_mono HO234.out (fun _ hk=>⟨hk.1.2, hk.2⟩)⟩, ⟨by repeat (first | (with_reducible first | exact HB.out | apply below_alloc | apply pw_below_drewN | apply below_drew1) | exact HB.out)⟩⟩
              case rest =>
               clear HC45
               try clear c1
               try clear c2
               try clear p2
               try clear q2
               try clear hx2
               try clear c3
               try clear p3
               try clear q3
               try clear hx3
               try clear hf3
               try clear c4
               try clear c5
               try clear c5b0
               try clear c5b1
               try clear c6
               try clear c6b0
               try clear p6
               try clear c7
               try clear c7b0
               try clear c8
               try clear c8b0
               try clear c9
               try clear c10
               try clear c11
               try clear c17
               try clear c17b0
               try clear c17b1
               try clear c18
               try clear c19
               try clear c19b0
               try clear c19b1
               try clear c20
               try clear c20b0
               try clear c20b1
               try clear c21
               try clear c21b0
               try clear c21b1
               try clear p22
               try clear q22
               try clear hx22
               try clear c27
               try clear c27b0
               try clear c27b1
               try clear c27b2
               try clear c31
               try clear c32
               try clear c36
               try clear c36b0
               try clear c37
               try clear c37b0
               try clear c38
               try clear c38b0
               try clear c39
               try clear p39
               try clear q39
               try clear hx39
               try clear hf39
               try clear c43
               try clear c48
               try clear c48b0
               try clear c48b1
               try clear c49
               try clear c49b0
               try clear c49b1
               try clear c49b2
               try clear hx227_0
               try clear hx227_1
               try clear hx227_2
               try clear hx227_3
               try clear hx228_0
               try clear hx39_0
               try clear hx39_1
               try clear hx39_2
               try clear hx39_3
               try clear p2
               try clear p227
               try clear p228
               try clear p39
               try clear p6
               try clear q227
               try clear q228
               try clear q39
               obtain ⟨kq, x136_44, rfl, HA, HJ44, HO_7, HO_10, HO_15, HB⟩:=hcut
               cases kq with
               | zero=>exact absurd HA.out (by simp [cl47_WaterfallTwice.j4])
               | succ kj44 =>
                have H:=HA.out
                clear HA
                simp only [cl47_WaterfallTwice.j4] at H
                by_cases c52 : x136_44 = true
                ·subst c52
                 have H1 : (none) = some r:=by rw [if_pos rfl] at H;exact H
                 clear H
                 have H:=H1
                 clear H1
                 exact absurd H (by simp)
                ·replace c52:=Bool.eq_false_iff.mpr c52
                 subst c52
                 have H1 : (cl47_WaterfallTwice.l1 kj44 l2 t210 t215 t230 0) = some r:=by rw [if_neg (show ¬ (false = true) by decide)] at H;exact H
                 clear H
                 have H:=H1
                 clear H1
                 have H':=Aside0.mk H
                 clear H
                 go_wp2
                 go_loopg [18] kj44 (fun kq v18 w'=>∃ (x18_6 : Int), v18 = .int .i64 x18_6 ∧ Aside0 (cl47_WaterfallTwice.l1 kq l2 t210 t215 t230 x18_6 = some r) ∧ Aside0 (kq ≤ kj44) ∧ Aside0 (Kd.R (Kd.int .i64) 3 w' w.heap.size (fun k_=>some k_ ≠ (v218 : Value).ownBlock ∧ some k_ ≠ (v233 : Value).ownBlock) v213 t210) ∧ Aside0 (Kd.R (Kd.int .i64) 3 w' w.heap.size (fun k_=>some k_ ≠ (v213 : Value).ownBlock ∧ some k_ ≠ (v233 : Value).ownBlock) v218 t215) ∧ Aside0 (Kd.R (Kd.int .i64) 3 w' w.heap.size (fun k_=>some k_ ≠ (v213 : Value).ownBlock ∧ some k_ ≠ (v218 : Value).ownBlock) v233 t230) ∧ Aside0 (Below w.heap.size w w'))
                 case atStart=>exact ⟨(0), (by first | rfl | (simp;done) | (simp [*];done)), H', ⟨Nat.le_refl _⟩, ⟨by (with_reducible repeat (first | apply Kd.R_alloc | apply Kd.R_drewN | apply Kd.R_drew));exact HO_7.out⟩, ⟨by (with_reducible repeat (first | apply Kd.R_alloc | apply Kd.R_drewN | apply Kd.R_drew));exact HO_10.out⟩, ⟨by (with_reducible repeat (first | apply Kd.R_alloc | apply Kd.R_drewN | apply Kd.R_drew));exact HO_15.out⟩, ⟨by repeat (first | (with_reducible first | exact HB.out | apply below_alloc | apply pw_below_drewN | apply below_drew1) | exact HB.out)⟩⟩
                 case round =>
                  clear H'
                  try clear c1
                  try clear c2
                  try clear p2
                  try clear q2
                  try clear hx2
                  try clear c3
                  try clear p3
                  try clear q3
                  try clear hx3
                  try clear hf3
                  try clear c4
                  try clear c5
                  try clear c5b0
                  try clear c5b1
                  try clear c6
                  try clear c6b0
                  try clear p6
                  try clear c7
                  try clear c7b0
                  try clear c8
                  try clear c8b0
                  try clear c9
                  try clear c10
                  try clear c11
                  try clear c17
                  try clear c17b0
                  try clear c17b1
                  try clear c18
                  try clear c19
                  try clear c19b0
                  try clear c19b1
                  try clear c20
                  try clear c20b0
                  try clear c20b1
                  try clear c21
                  try clear c21b0
                  try clear c21b1
                  try clear p22
                  try clear q22
                  try clear hx22
                  try clear c27
                  try clear c27b0
                  try clear c27b1
                  try clear c27b2
                  try clear c31
                  try clear c32
                  try clear c36
                  try clear c36b0
                  try clear c37
                  try clear c37b0
                  try clear c38
                  try clear c38b0
                  try clear c39
                  try clear p39
                  try clear q39
                  try clear hx39
                  try clear hf39
                  try clear c43
                  try clear c48
                  try clear c48b0
                  try clear c48b1
                  try clear c49
                  try clear c49b0
                  try clear c49b1
                  try clear c49b2
                  try clear c52
                  try clear hx227_0
                  try clear hx227_1
                  try clear hx227_2
                  try clear hx227_3
                  try clear hx228_0
                  try clear hx39_0
                  try clear hx39_1
                  try clear hx39_2
                  try clear hx39_3
                  try clear p2
                  try clear p22
                  try clear p227
                  try clear p228
                  try clear p3
                  try clear p39
                  try clear p6
                  try clear q2
                  try clear q22
                  try clear q227
                  try clear q228
                  try clear q3
                  try clear q39
                  obtain ⟨x18_6, rfl, HA, HK6, HO_7, HO_10, HO_15, HB⟩:=hrel
                  cases gk with
                  | zero=>exact absurd HA.out (by simp [cl47_WaterfallTwice.l1])
                  | succ k6 =>
                   have H:=HA.out
                   clear HA
                   simp only [cl47_WaterfallTwice.l1] at H
                   by_cases c53 : x18_6 < (l2.length : Int)
                   ·rw [if_pos c53] at H
                    have c53b0 : decide (x18_6 < (l2.length : Int)) = true:=decide_eq_true c53
                    clear c53
                    replace H:=Option.bind_eq_some_iff.mp H
                    obtain ⟨t236, A540, H⟩:=H
                    replace H : ((cl47_turn.f k6 l2 t230 x18_6).bind fun t237=>((cl47_turn.f k6 l2 t210 x18_6).bind fun t238=>(if (wrap64 (t236 + t237)) = t238 then (cl47_WaterfallTwice.l1 k6 l2 t210 t215 t230 (wrap64 (x18_6 + 1))) else (none)))) = some r:=H
                    have A54:=Aside0.mk A540
                    clear A540
                    replace H:=Option.bind_eq_some_iff.mp H
                    obtain ⟨t237, A550, H⟩:=H
                    replace H : ((cl47_turn.f k6 l2 t210 x18_6).bind fun t238=>(if (wrap64 (t236 + t237)) = t238 then (cl47_WaterfallTwice.l1 k6 l2 t210 t215 t230 (wrap64 (x18_6 + 1))) else (none))) = some r:=H
                    have A55:=Aside0.mk A550
                    clear A550
                    replace H:=Option.bind_eq_some_iff.mp H
                    obtain ⟨t238, A560, H⟩:=H
                    replace H : (if (wrap64 (t236 + t237)) = t238 then (cl47_WaterfallTwice.l1 k6 l2 t210 t215 t230 (wrap64 (x18_6 + 1))) else (none)) = some r:=H
                    have A56:=Aside0.mk A560
                    clear A560
                    by_cases c57 : (wrap64 (t236 + t237)) = t238
                    ·rw [if_pos c57] at H
                     have c57b0 : ((wrap64 (t236 + t237)) == t238) = true:=beq_iff_eq.mpr c57
                     have c57b1 : ((wrap64 (t236 + t237)) != t238) = false:=bne_eq_false_iff_eq.mpr c57
                     clear c57
                     have H':=Aside0.mk H
                     clear H
                     obtain ⟨Ao58, co58, eo58⟩:=Kd.R_slice HO_10.out
                     subst eo58
                     go_wp2_with (first | ((with_reducible refine gate_callee (f:=19) rfl ?_);refine goesL_ (some 146) rfl rfl Try.func19 (by kernel_rfl) rfl #[.slice A2 l2.length c2, .slice Ao58 t215.length co58, .int .i64 x18_6] rfl (by (try simp only [List.map_toArray, List.map_cons, List.map_nil]);first | done | rfl | (simp only [List.length_drop, List.length_take];rfl)) ?_;(with_reducible refine (cl47_turn.calls k6 _ _ l2 _ _ t215 x18_6 t236 _ ?side1 ?side2 ?side3 ?side4 A54.out).mono ?_);(case side1=>repeat (first | exact (Kd.C_below HR2.out HB.out) | (with_reducible refine Kd.C_alloc ?_ _) | (with_reducible refine Kd.C_drewN ?_ _) | (with_reducible refine Kd.C_drew ?_)));(case side2=>exact HC2.out);(case side3=>repeat (first | exact (Kd.R_reads' HO_10.out).2.2 | (with_reducible refine Kd.C_alloc ?_ _) | (with_reducible refine Kd.C_drewN ?_ _) | (with_reducible refine Kd.C_drew ?_)));(case side4=>exact (Kd.R_reads' HO_10.out).2.1);rintro e w59 ⟨rfl, hb⟩;refine ⟨_, rfl, ?_⟩;have n0_:=Aside0.mk (Kd.R_below (by (with_reducible repeat (first | apply Kd.R_alloc | apply Kd.R_drewN | apply Kd.R_drew));exact HO_7.out) hb);have n1_:=Aside0.mk (Kd.R_below (by (with_reducible repeat (first | apply Kd.R_alloc | apply Kd.R_drewN | apply Kd.R_drew));exact HO_10.out) hb);have n2_:=Aside0.mk (Kd.R_below (by (with_reducible repeat (first | apply Kd.R_alloc | apply Kd.R_drewN | apply Kd.R_drew));exact HO_15.out) hb);have n3_:=Aside0.mk (below_step (by repeat (first | (with_reducible first | exact HB.out | apply below_alloc | apply pw_below_drewN | apply below_drew1) | exact HB.out)) hb);clear HO_7 HO_10 HO_15 HB;have HO_7:=n0_;have HO_10:=n1_;have HO_15:=n2_;have HB:=n3_;clear n0_ n1_ n2_ n3_;(try clear hb);(try clear hb2);(try clear hk);(try clear hi);obtain ⟨Ao60, co60, eo60⟩:=Kd.R_slice HO_15.out;subst eo60) | ((with_reducible refine gate_callee (f:=19) rfl ?_);refine goesL_ (some 150) rfl rfl Try.func19 (by kernel_rfl) rfl #[.slice A2 l2.length c2, .slice Ao60 t230.length co60, .int .i64 x18_6] rfl (by (try simp only [List.map_toArray, List.map_cons, List.map_nil]);first | done | rfl | (simp only [List.length_drop, List.length_take];rfl)) ?_;(with_reducible refine (cl47_turn.calls k6 _ _ l2 _ _ t230 x18_6 t237 _ ?side1 ?side2 ?side3 ?side4 A55.out).mono ?_);(case side1=>repeat (first | exact (Kd.C_below HR2.out HB.out) | (with_reducible refine Kd.C_alloc ?_ _) | (with_reducible refine Kd.C_drewN ?_ _) | (with_reducible refine Kd.C_drew ?_)));(case side2=>exact HC2.out);(case side3=>repeat (first | exact (Kd.R_reads' HO_15.out).2.2 | (with_reducible refine Kd.C_alloc ?_ _) | (with_reducible refine Kd.C_drewN ?_ _) | (with_reducible refine Kd.C_drew ?_)));(case side4=>exact (Kd.R_reads' HO_15.out).2.1);rintro e w61 ⟨rfl, hb⟩;refine ⟨_, rfl, ?_⟩;have n0_:=Aside0.mk (Kd.R_below (by (with_reducible repeat (first | apply Kd.R_alloc | apply Kd.R_drewN | apply Kd.R_drew));exact HO_7.out) hb);have n1_:=Aside0.mk (Kd.R_below (by (with_reducible repeat (first | apply Kd.R_alloc | apply Kd.R_drewN | apply Kd.R_drew));exact HO_10.out) hb);have n2_:=Aside0.mk (Kd.R_below (by (with_reducible repeat (first | apply Kd.R_alloc | apply Kd.R_drewN | apply Kd.R_drew));exact HO_15.out) hb);have n3_:=Aside0.mk (below_step (by repeat (first | (with_reducible first | exact HB.out | apply below_alloc | apply pw_below_drewN | apply below_drew1) | exact HB.out)) hb);clear HO_7 HO_10 HO_15 HB;have HO_7:=n0_;have HO_10:=n1_;have HO_15:=n2_;have HB:=n3_;clear n0_ n1_ n2_ n3_;(try clear hb);(try clear hb2);(try clear hk);(try clear hi);obtain ⟨Ao62, co62, eo62⟩:=Kd.R_slice HO_7.out;subst eo62) | ((with_reducible refine gate_callee (f:=19) rfl ?_);refine goesL_ (some 155) rfl rfl Try.func19 (by kernel_rfl) rfl #[.slice A2 l2.length c2, .slice Ao62 t210.length co62, .int .i64 x18_6] rfl (by (try simp only [List.map_toArray, List.map_cons, List.map_nil]);first | done | rfl | (simp only [List.length_drop, List.length_take];rfl)) ?_;(with_reducible refine (cl47_turn.calls k6 _ _ l2 _ _ t210 x18_6 t238 _ ?side1 ?side2 ?side3 ?side4 A56.out).mono ?_);(case side1=>repeat (first | exact (Kd.C_below HR2.out HB.out) | (with_reducible refine Kd.C_alloc ?_ _) | (with_reducible refine Kd.C_drewN ?_ _) | (with_reducible refine Kd.C_drew ?_)));(case side2=>exact HC2.out);(case side3=>repeat (first | exact (Kd.R_reads' HO_7.out).2.2 | (with_reducible refine Kd.C_alloc ?_ _) | (with_reducible refine Kd.C_drewN ?_ _) | (with_reducible refine Kd.C_drew ?_)));(case side4=>exact (Kd.R_reads' HO_7.out).2.1);rintro e w63 ⟨rfl, hb⟩;refine ⟨_, rfl, ?_⟩;have n0_:=Aside0.mk (Kd.R_below (by (with_reducible repeat (first | apply Kd.R_alloc | apply Kd.R_drewN | apply Kd.R_drew));exact HO_7.out) hb);have n1_:=Aside0.mk (Kd.R_below (by (with_reducible repeat (first | apply Kd.R_alloc | apply Kd.R_drewN | apply Kd.R_drew));exact HO_10.out) hb);have n2_:=Aside0.mk (Kd.R_below (by (with_reducible repeat (first | apply Kd.R_alloc | apply Kd.R_drewN | apply Kd.R_drew));exact HO_15.out) hb);have n3_:=Aside0.mk (below_step (by repeat (first | (with_reducible first | exact HB.out | apply below_alloc | apply pw_below_drewN | apply below_drew1) | exact HB.out)) hb);clear HO_7 HO_10 HO_15 HB;have HO_7:=n0_;have HO_10:=n1_;have HO_15:=n2_;have HB:=n3_;clear n0_ n1_ n2_ n3_;(try clear hb);(try clear hb2);(try clear hk);(try clear hi)))
                     go_roundg k6
                     case measure=>have:=HJ3.out;have:=HJ13.out;have:=HJ25.out;have:=HK4.out;have:=HJ44.out;have:=HK6.out;omega
                     case rel=>exact ⟨(wrap64 (x18_6 + 1)), (by first | rfl | (simp;done) | (simp [*];done)), H', ⟨by have:=HJ3.out;have:=HJ13.out;have:=HJ25.out;have:=HK4.out;have:=HJ44.out;have:=HK6.out;omega⟩, ⟨by (with_reducible repeat (first | apply Kd.R_alloc | apply Kd.R_drewN | apply Kd.R_drew));exact HO_7.out⟩, ⟨by (with_reducible repeat (first | apply Kd.R_alloc | apply Kd.R_drewN | apply Kd.R_drew));exact HO_10.out⟩, ⟨by (with_reducible repeat (first | apply Kd.R_alloc | apply Kd.R_drewN | apply Kd.R_drew));exact HO_15.out⟩, ⟨by repeat (first | (with_reducible first | exact HB.out | apply below_alloc | apply pw_below_drewN | apply below_drew1) | exact HB.out)⟩⟩
                    ·rw [if_neg c57] at H
                     exact absurd H (by simp)
                   ·rw [if_neg c53] at H
                    have c53b0 : decide (x18_6 < (l2.length : Int)) = false:=decide_eq_false c53
                    clear c53
                    replace H:=Option.bind_eq_some_iff.mp H
                    obtain ⟨t235, A640, H⟩:=H
                    replace H : (some t235) = some r:=H
                    have A64:=Aside0.mk A640
                    clear A640
                    obtain rfl:=Option.some.inj H
                    go_wp2_with (first | ((with_reducible refine gate_callee (f:=10) rfl ?_);refine goesL_ (some 157) rfl rfl Try.func10 (by kernel_rfl) rfl #[] rfl (by (try simp only [List.map_toArray, List.map_cons, List.map_nil]);first | done | rfl | (simp only [List.length_drop, List.length_take];rfl)) ?_;(with_reducible refine (cl47_goes.calls k6  t235 _ A64.out).mono ?_);rintro e w65 ⟨rfl, hb⟩;refine ⟨_, rfl, ?_⟩;have n0_:=Aside0.mk (Kd.R_below (by (with_reducible repeat (first | apply Kd.R_alloc | apply Kd.R_drewN | apply Kd.R_drew));exact HO_7.out) hb);have n1_:=Aside0.mk (Kd.R_below (by (with_reducible repeat (first | apply Kd.R_alloc | apply Kd.R_drewN | apply Kd.R_drew));exact HO_10.out) hb);have n2_:=Aside0.mk (Kd.R_below (by (with_reducible repeat (first | apply Kd.R_alloc | apply Kd.R_drewN | apply Kd.R_drew));exact HO_15.out) hb);have n3_:=Aside0.mk (below_step (by repeat (first | (with_reducible first | exact HB.out | apply below_alloc | apply pw_below_drewN | apply below_drew1) | exact HB.out)) hb);clear HO_7 HO_10 HO_15 HB;have HO_7:=n0_;have HO_10:=n1_;have HO_15:=n2_;have HB:=n3_;clear n0_ n1_ n2_ n3_;(try clear hb);(try clear hb2);(try clear hk);(try clear hi)))
                    go_ret
                    exact ⟨by first | rfl | (simp [errW_none, errW_some] <;> rfl) | (simp [*, errW_none, errW_some] <;> rfl), by repeat (first | (with_reducible first | exact HB.out | apply below_alloc | apply pw_below_drewN | apply below_drew1) | exact HB.out)⟩
          ·rw [if_neg c32] at H
           exact absurd H (by simp)

end Go.Proofs.Ytfogpifjpnonnaa.PWaterfallTwice
