/- Laid for this claim by a program of this session's (wip/mkprint.py, wip/ext.py); not trusted: Lean checks it. -/
import Derived.Test.YtmhjomahikaphaaPTopAssessx0
import Derived.Test.YtmhjomahikaphaaPTopAssessx1
import Derived.Test.YtmhjomahikaphaaPTopAssessx6
import Derived.Test.YtmhjomahikaphaaPTopAssessx7
import Derived.Test.YtmhjomahikaphaaPTopAssessx10
namespace Go.Proofs.Ytmhjomahikaphaa.PTopAssess
open Go.RowKit Go.Proofs.YtmhjomahikaphaaW.PrintWords Go.Proofs.YtmhjomahikaphaaW.PrintLast Go.Proofs.YtmhjomahikaphaaW.PrintMore
attribute [local go_sem] max2_int min2_int max_two min_two max_three min_three max_four min_four   -- for this text's walks alone
set_option linter.unusedVariables false
set_option linter.unusedSimpArgs false

/-! ### contangotop_TopAssess: function 3 -/
mutual
def contangotop_TopAssess.l0 : Nat → List Int → Int → List Int → List Int → Int → Option (Bool)
 | 0, _, _, _, _, _=>none
 | k + 1, x0, x2, x7, x8, x9=>if x9 < (x0.length : Int) then (contangotop_TopAssess.j1 k x0 x2 x7 x8 x9 (decide (x9 < 20))) else (contangotop_TopAssess.j1 k x0 x2 x7 x8 x9 false)
def contangotop_TopAssess.j1 : Nat → List Int → Int → List Int → List Int → Int → Bool → Option (Bool)
 | 0, _, _, _, _, _, _=>none
 | k + 1, x0, x2, x7, x8, x9, x42=>if x42 = true then (if 0 ≤ x9 then (if x9 < (x0.length : Int) then ((assess_Call.f k (wrap64 (Int.tmod (IntKind.u64.wrap (rd x0 x9)) 100000000000)) x7 x2 x8).bind fun bt271=>(if bt271.2.2 = 0 then (if (bt271.1.length : Int) = (x7.length : Int) then ((contangotop_totalD.f k bt271.1).bind fun t276=>(contangotop_TopAssess.j2 k x0 x2 x7 x8 x9 (wrap64 (Int.tmod (IntKind.u64.wrap (rd x0 x9)) 100000000000)) bt271.1 bt271.2.1 ((wrap64 (t276 + bt271.2.1)) != (wrap64 (Int.tmod (IntKind.u64.wrap (rd x0 x9)) 100000000000))))) else (contangotop_TopAssess.j2 k x0 x2 x7 x8 x9 (wrap64 (Int.tmod (IntKind.u64.wrap (rd x0 x9)) 100000000000)) bt271.1 bt271.2.1 true)) else (contangotop_TopAssess.j2 k x0 x2 x7 x8 x9 (wrap64 (Int.tmod (IntKind.u64.wrap (rd x0 x9)) 100000000000)) bt271.1 bt271.2.1 true))) else (none)) else (none)) else ((contangotop_goes24.f k).bind fun t269=>(some t269))
def contangotop_TopAssess.j2 : Nat → List Int → Int → List Int → List Int → Int → Int → List Int → Int → Bool → Option (Bool)
 | 0, _, _, _, _, _, _, _, _, _=>none
 | k + 1, x0, x2, x7, x8, x9, x10, x11, x12, x77=>if x77 = true then (none) else ((assess_Use.f k x8 x11).bind fun bt277=>((assess_Room.f k x7 x2 bt277.1).bind fun bt281=>(if bt277.2 = 0 then (if bt281.2 = 0 then (if (bt277.1.length : Int) = (x7.length : Int) then (if x12 > 0 then (contangotop_TopAssess.j3 k x0 x2 x7 x9 x10 x11 x12 bt277.1 (bt281.1 != 0)) else (contangotop_TopAssess.j3 k x0 x2 x7 x9 x10 x11 x12 bt277.1 false)) else (contangotop_TopAssess.j3 k x0 x2 x7 x9 x10 x11 x12 bt277.1 true)) else (contangotop_TopAssess.j3 k x0 x2 x7 x9 x10 x11 x12 bt277.1 true)) else (contangotop_TopAssess.j3 k x0 x2 x7 x9 x10 x11 x12 bt277.1 true))))
def contangotop_TopAssess.j3 : Nat → List Int → Int → List Int → Int → Int → List Int → Int → List Int → Bool → Option (Bool)
 | 0, _, _, _, _, _, _, _, _, _=>none
 | k + 1, x0, x2, x7, x9, x10, x11, x12, x14, x111=>if x111 = true then (none) else (contangotop_TopAssess.l1 k x0 x2 x7 x14 x9 x10 x11 x12 (x14.length : Int) 0)
def contangotop_TopAssess.l1 : Nat → List Int → Int → List Int → List Int → Int → Int → List Int → Int → Int → Int → Option (Bool)
 | 0, _, _, _, _, _, _, _, _, _, _=>none
 | k + 1, x0, x2, x7, x8, x9, x10, x11, x12, x114, x115=>if x115 < x114 then (if 0 ≤ x115 then (if x115 < (x11.length : Int) then (if (rd x11 x115) < 0 then (none) else (if x115 < (x8.length : Int) then (if x115 < (x7.length : Int) then (if (rd x8 x115) > (wrap64 (Int.tdiv (wrap64 ((rd x7 x115) * x2)) 1000)) then (none) else (contangotop_TopAssess.l1 k x0 x2 x7 x8 x9 x10 x11 x12 x114 (wrap64 (x115 + 1)))) else (none)) else (none))) else (none)) else (none)) else ((contangotop_calledD.f k x11).bind fun t286=>((waterfall_Absorb.f k (wrap64 (x10 - x12)) t286).bind fun bt289=>((waterfall_Layer.f k t286 5).bind fun bt294=>(if bt289.2.2 = 0 then (if bt294.2 = 0 then (if bt289.2.1 = 0 then (if bt294.1 = (wrap64 (x10 - x12)) then (contangotop_TopAssess.j5 k x0 x2 x7 x8 x9 t286 bt289.1 ((bt289.1.length : Int) != (t286.length : Int))) else (contangotop_TopAssess.j5 k x0 x2 x7 x8 x9 t286 bt289.1 true)) else (contangotop_TopAssess.j5 k x0 x2 x7 x8 x9 t286 bt289.1 true)) else (contangotop_TopAssess.j5 k x0 x2 x7 x8 x9 t286 bt289.1 true)) else (contangotop_TopAssess.j5 k x0 x2 x7 x8 x9 t286 bt289.1 true)))))
def contangotop_TopAssess.j5 : Nat → List Int → Int → List Int → List Int → Int → List (S38) → List Int → Bool → Option (Bool)
 | 0, _, _, _, _, _, _, _, _=>none
 | k + 1, x0, x2, x7, x8, x9, x19, x20, x177=>if x177 = true then (none) else (contangotop_TopAssess.l2 k x0 x2 x7 x8 x9 x19 x20 (x19.length : Int) 0)
def contangotop_TopAssess.l2 : Nat → List Int → Int → List Int → List Int → Int → List (S38) → List Int → Int → Int → Option (Bool)
 | 0, _, _, _, _, _, _, _, _, _=>none
 | k + 1, x0, x2, x7, x8, x9, x19, x20, x179, x180=>if x180 < x179 then (if 0 ≤ x180 then (if x180 < (x20.length : Int) then (if x180 < (x19.length : Int) then (if (rd x20 x180) = ((rd_T38 x19 x180).f3) then (contangotop_TopAssess.l2 k x0 x2 x7 x8 x9 x19 x20 x179 (wrap64 (x180 + 1))) else (none)) else (none)) else (none)) else (none)) else (contangotop_TopAssess.l0 k x0 x2 x7 x8 (wrap64 (x9 + 1)))
end
def contangotop_TopAssess.f (k : Nat) (l0 : List Int) (l1 : List Int) (a2 : Int) : Option (Bool):=(contangotop_capsD.f k l1).bind fun t263=>(if 0 ≤ (t263.length : Int) then (if ((t263.length : Int) : Int).toNat ≤ 35184372088832 then (contangotop_TopAssess.l0 k l0 (wrap64 (Int.tmod (IntKind.u64.wrap (a2)) 10001)) t263 (List.replicate ((t263.length : Int) : Int).toNat 0) 0) else (none)) else (none))
theorem contangotop_TopAssess.mono_l : ∀ k, (∀ y0 y1 y2 y3 y4, LeO (contangotop_TopAssess.l0 k y0 y1 y2 y3 y4) (contangotop_TopAssess.l0 (k + 1) y0 y1 y2 y3 y4)) ∧ (∀ y0 y1 y2 y3 y4 y5, LeO (contangotop_TopAssess.j1 k y0 y1 y2 y3 y4 y5) (contangotop_TopAssess.j1 (k + 1) y0 y1 y2 y3 y4 y5)) ∧ (∀ y0 y1 y2 y3 y4 y5 y6 y7 y8, LeO (contangotop_TopAssess.j2 k y0 y1 y2 y3 y4 y5 y6 y7 y8) (contangotop_TopAssess.j2 (k + 1) y0 y1 y2 y3 y4 y5 y6 y7 y8)) ∧ (∀ y0 y1 y2 y3 y4 y5 y6 y7 y8, LeO (contangotop_TopAssess.j3 k y0 y1 y2 y3 y4 y5 y6 y7 y8) (contangotop_TopAssess.j3 (k + 1) y0 y1 y2 y3 y4 y5 y6 y7 y8)) ∧ (∀ y0 y1 y2 y3 y4 y5 y6 y7 y8 y9, LeO (contangotop_TopAssess.l1 k y0 y1 y2 y3 y4 y5 y6 y7 y8 y9) (contangotop_TopAssess.l1 (k + 1) y0 y1 y2 y3 y4 y5 y6 y7 y8 y9)) ∧ (∀ y0 y1 y2 y3 y4 y5 y6 y7, LeO (contangotop_TopAssess.j5 k y0 y1 y2 y3 y4 y5 y6 y7) (contangotop_TopAssess.j5 (k + 1) y0 y1 y2 y3 y4 y5 y6 y7)) ∧ (∀ y0 y1 y2 y3 y4 y5 y6 y7 y8, LeO (contangotop_TopAssess.l2 k y0 y1 y2 y3 y4 y5 y6 y7 y8) (contangotop_TopAssess.l2 (k + 1) y0 y1 y2 y3 y4 y5 y6 y7 y8))
 | 0=>⟨fun _ _ _ _ _ r h=>by simp [contangotop_TopAssess.l0] at h, fun _ _ _ _ _ _ r h=>by simp [contangotop_TopAssess.j1] at h, fun _ _ _ _ _ _ _ _ _ r h=>by simp [contangotop_TopAssess.j2] at h, fun _ _ _ _ _ _ _ _ _ r h=>by simp [contangotop_TopAssess.j3] at h, fun _ _ _ _ _ _ _ _ _ _ r h=>by simp [contangotop_TopAssess.l1] at h, fun _ _ _ _ _ _ _ _ r h=>by simp [contangotop_TopAssess.j5] at h, fun _ _ _ _ _ _ _ _ _ r h=>by simp [contangotop_TopAssess.l2] at h⟩
 | k + 1=>by
  obtain ⟨ih0, ih1, ih2, ih3, ih4, ih5, ih6⟩:=contangotop_TopAssess.mono_l k
  refine ⟨?_, ?_, ?_, ?_, ?_, ?_, ?_⟩
  ·intro y0 y1 y2 y3 y4
   unfold contangotop_TopAssess.l0
   repeat' first
   | (with_reducible exact ih0 _ _ _ _ _)
   | (with_reducible exact ih1 _ _ _ _ _ _)
   | (with_reducible exact ih2 _ _ _ _ _ _ _ _ _)
   | (with_reducible exact ih3 _ _ _ _ _ _ _ _ _)
   | (with_reducible exact ih4 _ _ _ _ _ _ _ _ _ _)
   | (with_reducible exact ih5 _ _ _ _ _ _ _ _)
   | (with_reducible exact ih6 _ _ _ _ _ _ _ _ _)
   | (with_reducible exact assess_Call.mono _ _ _ _ _)
   | (with_reducible exact assess_Room.mono _ _ _ _)
   | (with_reducible exact assess_Use.mono _ _ _)
   | (with_reducible exact contangotop_calledD.mono _ _)
   | (with_reducible exact contangotop_capsD.mono _ _)
   | (with_reducible exact contangotop_goes24.mono _)
   | (with_reducible exact contangotop_totalD.mono _ _)
   | (with_reducible exact waterfall_Absorb.mono _ _ _)
   | (with_reducible exact waterfall_Layer.mono _ _ _)
   | (with_reducible exact LeO.refl _)
   | (with_reducible exact LeO.none _)
   | (with_reducible refine LeO.ite ?_ ?_)
   | (with_reducible refine LeO.bind ?_ (fun _=>?_))
   | exact ih0 _ _ _ _ _
   | exact ih1 _ _ _ _ _ _
   | exact ih2 _ _ _ _ _ _ _ _ _
   | exact ih3 _ _ _ _ _ _ _ _ _
   | exact ih4 _ _ _ _ _ _ _ _ _ _
   | exact ih5 _ _ _ _ _ _ _ _
   | exact ih6 _ _ _ _ _ _ _ _ _
   | exact assess_Call.mono _ _ _ _ _
   | exact assess_Room.mono _ _ _ _
   | exact assess_Use.mono _ _ _
   | exact contangotop_calledD.mono _ _
   | exact contangotop_capsD.mono _ _
   | exact contangotop_goes24.mono _
   | exact contangotop_totalD.mono _ _
   | exact waterfall_Absorb.mono _ _ _
   | exact waterfall_Layer.mono _ _ _
   | exact LeO.none _
   | refine LeO.ite ?_ ?_
   | refine LeO.bind ?_ (fun _=>?_)
  ·intro y0 y1 y2 y3 y4 y5
   unfold contangotop_TopAssess.j1
   repeat' first
   | (with_reducible exact ih0 _ _ _ _ _)
   | (with_reducible exact ih1 _ _ _ _ _ _)
   | (with_reducible exact ih2 _ _ _ _ _ _ _ _ _)
   | (with_reducible exact ih3 _ _ _ _ _ _ _ _ _)
   | (with_reducible exact ih4 _ _ _ _ _ _ _ _ _ _)
   | (with_reducible exact ih5 _ _ _ _ _ _ _ _)
   | (with_reducible exact ih6 _ _ _ _ _ _ _ _ _)
   | (with_reducible exact assess_Call.mono _ _ _ _ _)
   | (with_reducible exact assess_Room.mono _ _ _ _)
   | (with_reducible exact assess_Use.mono _ _ _)
   | (with_reducible exact contangotop_calledD.mono _ _)
   | (with_reducible exact contangotop_capsD.mono _ _)
   | (with_reducible exact contangotop_goes24.mono _)
   | (with_reducible exact contangotop_totalD.mono _ _)
   | (with_reducible exact waterfall_Absorb.mono _ _ _)
   | (with_reducible exact waterfall_Layer.mono _ _ _)
   | (with_reducible exact LeO.refl _)
   | (with_reducible exact LeO.none _)
   | (with_reducible refine LeO.ite ?_ ?_)
   | (with_reducible refine LeO.bind ?_ (fun _=>?_))
   | exact ih0 _ _ _ _ _
   | exact ih1 _ _ _ _ _ _
   | exact ih2 _ _ _ _ _ _ _ _ _
   | exact ih3 _ _ _ _ _ _ _ _ _
   | exact ih4 _ _ _ _ _ _ _ _ _ _
   | exact ih5 _ _ _ _ _ _ _ _
   | exact ih6 _ _ _ _ _ _ _ _ _
   | exact assess_Call.mono _ _ _ _ _
   | exact assess_Room.mono _ _ _ _
   | exact assess_Use.mono _ _ _
   | exact contangotop_calledD.mono _ _
   | exact contangotop_capsD.mono _ _
   | exact contangotop_goes24.mono _
   | exact contangotop_totalD.mono _ _
   | exact waterfall_Absorb.mono _ _ _
   | exact waterfall_Layer.mono _ _ _
   | exact LeO.none _
   | refine LeO.ite ?_ ?_
   | refine LeO.bind ?_ (fun _=>?_)
  ·intro y0 y1 y2 y3 y4 y5 y6 y7 y8
   unfold contangotop_TopAssess.j2
   repeat' first
   | (with_reducible exact ih0 _ _ _ _ _)
   | (with_reducible exact ih1 _ _ _ _ _ _)
   | (with_reducible exact ih2 _ _ _ _ _ _ _ _ _)
   | (with_reducible exact ih3 _ _ _ _ _ _ _ _ _)
   | (with_reducible exact ih4 _ _ _ _ _ _ _ _ _ _)
   | (with_reducible exact ih5 _ _ _ _ _ _ _ _)
   | (with_reducible exact ih6 _ _ _ _ _ _ _ _ _)
   | (with_reducible exact assess_Call.mono _ _ _ _ _)
   | (with_reducible exact assess_Room.mono _ _ _ _)
   | (with_reducible exact assess_Use.mono _ _ _)
   | (with_reducible exact contangotop_calledD.mono _ _)
   | (with_reducible exact contangotop_capsD.mono _ _)
   | (with_reducible exact contangotop_goes24.mono _)
   | (with_reducible exact contangotop_totalD.mono _ _)
   | (with_reducible exact waterfall_Absorb.mono _ _ _)
   | (with_reducible exact waterfall_Layer.mono _ _ _)
   | (with_reducible exact LeO.refl _)
   | (with_reducible exact LeO.none _)
   | (with_reducible refine LeO.ite ?_ ?_)
   | (with_reducible refine LeO.bind ?_ (fun _=>?_))
   | exact ih0 _ _ _ _ _
   | exact ih1 _ _ _ _ _ _
   | exact ih2 _ _ _ _ _ _ _ _ _
   | exact ih3 _ _ _ _ _ _ _ _ _
   | exact ih4 _ _ _ _ _ _ _ _ _ _
   | exact ih5 _ _ _ _ _ _ _ _
   | exact ih6 _ _ _ _ _ _ _ _ _
   | exact assess_Call.mono _ _ _ _ _
   | exact assess_Room.mono _ _ _ _
   | exact assess_Use.mono _ _ _
   | exact contangotop_calledD.mono _ _
   | exact contangotop_capsD.mono _ _
   | exact contangotop_goes24.mono _
   | exact contangotop_totalD.mono _ _
   | exact waterfall_Absorb.mono _ _ _
   | exact waterfall_Layer.mono _ _ _
   | exact LeO.none _
   | refine LeO.ite ?_ ?_
   | refine LeO.bind ?_ (fun _=>?_)
  ·intro y0 y1 y2 y3 y4 y5 y6 y7 y8
   unfold contangotop_TopAssess.j3
   repeat' first
   | (with_reducible exact ih0 _ _ _ _ _)
   | (with_reducible exact ih1 _ _ _ _ _ _)
   | (with_reducible exact ih2 _ _ _ _ _ _ _ _ _)
   | (with_reducible exact ih3 _ _ _ _ _ _ _ _ _)
   | (with_reducible exact ih4 _ _ _ _ _ _ _ _ _ _)
   | (with_reducible exact ih5 _ _ _ _ _ _ _ _)
   | (with_reducible exact ih6 _ _ _ _ _ _ _ _ _)
   | (with_reducible exact assess_Call.mono _ _ _ _ _)
   | (with_reducible exact assess_Room.mono _ _ _ _)
   | (with_reducible exact assess_Use.mono _ _ _)
   | (with_reducible exact contangotop_calledD.mono _ _)
   | (with_reducible exact contangotop_capsD.mono _ _)
   | (with_reducible exact contangotop_goes24.mono _)
   | (with_reducible exact contangotop_totalD.mono _ _)
   | (with_reducible exact waterfall_Absorb.mono _ _ _)
   | (with_reducible exact waterfall_Layer.mono _ _ _)
   | (with_reducible exact LeO.refl _)
   | (with_reducible exact LeO.none _)
   | (with_reducible refine LeO.ite ?_ ?_)
   | (with_reducible refine LeO.bind ?_ (fun _=>?_))
   | exact ih0 _ _ _ _ _
   | exact ih1 _ _ _ _ _ _
   | exact ih2 _ _ _ _ _ _ _ _ _
   | exact ih3 _ _ _ _ _ _ _ _ _
   | exact ih4 _ _ _ _ _ _ _ _ _ _
   | exact ih5 _ _ _ _ _ _ _ _
   | exact ih6 _ _ _ _ _ _ _ _ _
   | exact assess_Call.mono _ _ _ _ _
   | exact assess_Room.mono _ _ _ _
   | exact assess_Use.mono _ _ _
   | exact contangotop_calledD.mono _ _
   | exact contangotop_capsD.mono _ _
   | exact contangotop_goes24.mono _
   | exact contangotop_totalD.mono _ _
   | exact waterfall_Absorb.mono _ _ _
   | exact waterfall_Layer.mono _ _ _
   | exact LeO.none _
   | refine LeO.ite ?_ ?_
   | refine LeO.bind ?_ (fun _=>?_)
  ·intro y0 y1 y2 y3 y4 y5 y6 y7 y8 y9
   unfold contangotop_TopAssess.l1
   repeat' first
   | (with_reducible exact ih0 _ _ _ _ _)
   | (with_reducible exact ih1 _ _ _ _ _ _)
   | (with_reducible exact ih2 _ _ _ _ _ _ _ _ _)
   | (with_reducible exact ih3 _ _ _ _ _ _ _ _ _)
   | (with_reducible exact ih4 _ _ _ _ _ _ _ _ _ _)
   | (with_reducible exact ih5 _ _ _ _ _ _ _ _)
   | (with_reducible exact ih6 _ _ _ _ _ _ _ _ _)
   | (with_reducible exact assess_Call.mono _ _ _ _ _)
   | (with_reducible exact assess_Room.mono _ _ _ _)
   | (with_reducible exact assess_Use.mono _ _ _)
   | (with_reducible exact contangotop_calledD.mono _ _)
   | (with_reducible exact contangotop_capsD.mono _ _)
   | (with_reducible exact contangotop_goes24.mono _)
   | (with_reducible exact contangotop_totalD.mono _ _)
   | (with_reducible exact waterfall_Absorb.mono _ _ _)
   | (with_reducible exact waterfall_Layer.mono _ _ _)
   | (with_reducible exact LeO.refl _)
   | (with_reducible exact LeO.none _)
   | (with_reducible refine LeO.ite ?_ ?_)
   | (with_reducible refine LeO.bind ?_ (fun _=>?_))
   | exact ih0 _ _ _ _ _
   | exact ih1 _ _ _ _ _ _
   | exact ih2 _ _ _ _ _ _ _ _ _
   | exact ih3 _ _ _ _ _ _ _ _ _
   | exact ih4 _ _ _ _ _ _ _ _ _ _
   | exact ih5 _ _ _ _ _ _ _ _
   | exact ih6 _ _ _ _ _ _ _ _ _
   | exact assess_Call.mono _ _ _ _ _
   | exact assess_Room.mono _ _ _ _
   | exact assess_Use.mono _ _ _
   | exact contangotop_calledD.mono _ _
   | exact contangotop_capsD.mono _ _
   | exact contangotop_goes24.mono _
   | exact contangotop_totalD.mono _ _
   | exact waterfall_Absorb.mono _ _ _
   | exact waterfall_Layer.mono _ _ _
   | exact LeO.none _
   | refine LeO.ite ?_ ?_
   | refine LeO.bind ?_ (fun _=>?_)
  ·intro y0 y1 y2 y3 y4 y5 y6 y7
   unfold contangotop_TopAssess.j5
   repeat' first
   | (with_reducible exact ih0 _ _ _ _ _)
   | (with_reducible exact ih1 _ _ _ _ _ _)
   | (with_reducible exact ih2 _ _ _ _ _ _ _ _ _)
   | (with_reducible exact ih3 _ _ _ _ _ _ _ _ _)
   | (with_reducible exact ih4 _ _ _ _ _ _ _ _ _ _)
   | (with_reducible exact ih5 _ _ _ _ _ _ _ _)
   | (with_reducible exact ih6 _ _ _ _ _ _ _ _ _)
   | (with_reducible exact assess_Call.mono _ _ _ _ _)
   | (with_reducible exact assess_Room.mono _ _ _ _)
   | (with_reducible exact assess_Use.mono _ _ _)
   | (with_reducible exact contangotop_calledD.mono _ _)
   | (with_reducible exact contangotop_capsD.mono _ _)
   | (with_reducible exact contangotop_goes24.mono _)
   | (with_reducible exact contangotop_totalD.mono _ _)
   | (with_reducible exact waterfall_Absorb.mono _ _ _)
   | (with_reducible exact waterfall_Layer.mono _ _ _)
   | (with_reducible exact LeO.refl _)
   | (with_reducible exact LeO.none _)
   | (with_reducible refine LeO.ite ?_ ?_)
   | (with_reducible refine LeO.bind ?_ (fun _=>?_))
   | exact ih0 _ _ _ _ _
   | exact ih1 _ _ _ _ _ _
   | exact ih2 _ _ _ _ _ _ _ _ _
   | exact ih3 _ _ _ _ _ _ _ _ _
   | exact ih4 _ _ _ _ _ _ _ _ _ _
   | exact ih5 _ _ _ _ _ _ _ _
   | exact ih6 _ _ _ _ _ _ _ _ _
   | exact assess_Call.mono _ _ _ _ _
   | exact assess_Room.mono _ _ _ _
   | exact assess_Use.mono _ _ _
   | exact contangotop_calledD.mono _ _
   | exact contangotop_capsD.mono _ _
   | exact contangotop_goes24.mono _
   | exact contangotop_totalD.mono _ _
   | exact waterfall_Absorb.mono _ _ _
   | exact waterfall_Layer.mono _ _ _
   | exact LeO.none _
   | refine LeO.ite ?_ ?_
   | refine LeO.bind ?_ (fun _=>?_)
  ·intro y0 y1 y2 y3 y4 y5 y6 y7 y8
   unfold contangotop_TopAssess.l2
   repeat' first
   | (with_reducible exact ih0 _ _ _ _ _)
   | (with_reducible exact ih1 _ _ _ _ _ _)
   | (with_reducible exact ih2 _ _ _ _ _ _ _ _ _)
   | (with_reducible exact ih3 _ _ _ _ _ _ _ _ _)
   | (with_reducible exact ih4 _ _ _ _ _ _ _ _ _ _)
   | (with_reducible exact ih5 _ _ _ _ _ _ _ _)
   | (with_reducible exact ih6 _ _ _ _ _ _ _ _ _)
   | (with_reducible exact assess_Call.mono _ _ _ _ _)
   | (with_reducible exact assess_Room.mono _ _ _ _)
   | (with_reducible exact assess_Use.mono _ _ _)
   | (with_reducible exact contangotop_calledD.mono _ _)
   | (with_reducible exact contangotop_capsD.mono _ _)
   | (with_reducible exact contangotop_goes24.mono _)
   | (with_reducible exact contangotop_totalD.mono _ _)
   | (with_reducible exact waterfall_Absorb.mono _ _ _)
   | (with_reducible exact waterfall_Layer.mono _ _ _)
   | (with_reducible exact LeO.refl _)
   | (with_reducible exact LeO.none _)
   | (with_reducible refine LeO.ite ?_ ?_)
   | (with_reducible refine LeO.bind ?_ (fun _=>?_))
   | exact ih0 _ _ _ _ _
   | exact ih1 _ _ _ _ _ _
   | exact ih2 _ _ _ _ _ _ _ _ _
   | exact ih3 _ _ _ _ _ _ _ _ _
   | exact ih4 _ _ _ _ _ _ _ _ _ _
   | exact ih5 _ _ _ _ _ _ _ _
   | exact ih6 _ _ _ _ _ _ _ _ _
   | exact assess_Call.mono _ _ _ _ _
   | exact assess_Room.mono _ _ _ _
   | exact assess_Use.mono _ _ _
   | exact contangotop_calledD.mono _ _
   | exact contangotop_capsD.mono _ _
   | exact contangotop_goes24.mono _
   | exact contangotop_totalD.mono _ _
   | exact waterfall_Absorb.mono _ _ _
   | exact waterfall_Layer.mono _ _ _
   | exact LeO.none _
   | refine LeO.ite ?_ ?_
   | refine LeO.bind ?_ (fun _=>?_)
theorem contangotop_TopAssess.mono : ∀ a0 a1 a2 k, LeO (contangotop_TopAssess.f k a0 a1 a2) (contangotop_TopAssess.f (k + 1) a0 a1 a2):=by
 intro a0 a1 a2 k
 obtain ⟨ih0, ih1, ih2, ih3, ih4, ih5, ih6⟩:=contangotop_TopAssess.mono_l k
 unfold contangotop_TopAssess.f
 repeat' first
   | (with_reducible exact ih0 _ _ _ _ _)
   | (with_reducible exact ih1 _ _ _ _ _ _)
   | (with_reducible exact ih2 _ _ _ _ _ _ _ _ _)
   | (with_reducible exact ih3 _ _ _ _ _ _ _ _ _)
   | (with_reducible exact ih4 _ _ _ _ _ _ _ _ _ _)
   | (with_reducible exact ih5 _ _ _ _ _ _ _ _)
   | (with_reducible exact ih6 _ _ _ _ _ _ _ _ _)
   | (with_reducible exact assess_Call.mono _ _ _ _ _)
   | (with_reducible exact assess_Room.mono _ _ _ _)
   | (with_reducible exact assess_Use.mono _ _ _)
   | (with_reducible exact contangotop_calledD.mono _ _)
   | (with_reducible exact contangotop_capsD.mono _ _)
   | (with_reducible exact contangotop_goes24.mono _)
   | (with_reducible exact contangotop_totalD.mono _ _)
   | (with_reducible exact waterfall_Absorb.mono _ _ _)
   | (with_reducible exact waterfall_Layer.mono _ _ _)
   | (with_reducible exact LeO.refl _)
   | (with_reducible exact LeO.none _)
   | (with_reducible refine LeO.ite ?_ ?_)
   | (with_reducible refine LeO.bind ?_ (fun _=>?_))
   | exact ih0 _ _ _ _ _
   | exact ih1 _ _ _ _ _ _
   | exact ih2 _ _ _ _ _ _ _ _ _
   | exact ih3 _ _ _ _ _ _ _ _ _
   | exact ih4 _ _ _ _ _ _ _ _ _ _
   | exact ih5 _ _ _ _ _ _ _ _
   | exact ih6 _ _ _ _ _ _ _ _ _
   | exact assess_Call.mono _ _ _ _ _
   | exact assess_Room.mono _ _ _ _
   | exact assess_Use.mono _ _ _
   | exact contangotop_calledD.mono _ _
   | exact contangotop_capsD.mono _ _
   | exact contangotop_goes24.mono _
   | exact contangotop_totalD.mono _ _
   | exact waterfall_Absorb.mono _ _ _
   | exact waterfall_Layer.mono _ _ _
   | exact LeO.none _
   | refine LeO.ite ?_ ?_
   | refine LeO.bind ?_ (fun _=>?_)
set_option maxHeartbeats 8000000 in
set_option maxRecDepth 100000 in
theorem contangotop_TopAssess.calls (k : Nat) (A0 : Option Addr) (c0 : Nat) (l0 : List Int) (A1 : Option Addr) (c1 : Nat) (l1 : List Int) (a2 : Int) (r : Bool) (w : World) (hr0 : Kd.C (Kd.int .i64) w A0 l0.length l0) (hc0 : l0.length ≤ c0) (hr1 : Kd.C (Kd.int .i64) w A1 l1.length l1) (hc1 : l1.length ≤ c1) (h : contangotop_TopAssess.f k l0 l1 a2 = some r) :
  Calls Try.prog 3 #[.slice A0 l0.length c0, .slice A1 l1.length c1, .int .i64 a2] w fun e w'=>e = .returned (.bool r) ∧ Below w.heap.size w w':=by
 have HR0:=Aside0.mk hr0
 have HC0:=Aside0.mk hc0
 clear hr0 hc0
 have HR1:=Aside0.mk hr1
 have HC1:=Aside0.mk hc1
 clear hr1 hc1
 have HB:=Aside0.mk (Below.refl w.heap.size w)
 have H : ((contangotop_capsD.f k l1).bind fun t263=>(if 0 ≤ (t263.length : Int) then (if ((t263.length : Int) : Int).toNat ≤ 35184372088832 then (contangotop_TopAssess.l0 k l0 (wrap64 (Int.tmod (IntKind.u64.wrap (a2)) 10001)) t263 (List.replicate ((t263.length : Int) : Int).toNat 0) 0) else (none)) else (none))) = some r:=h
 clear h
 replace H:=Option.bind_eq_some_iff.mp H
 obtain ⟨t263, A40, H⟩:=H
 replace H : (if 0 ≤ (t263.length : Int) then (if ((t263.length : Int) : Int).toNat ≤ 35184372088832 then (contangotop_TopAssess.l0 k l0 (wrap64 (Int.tmod (IntKind.u64.wrap (a2)) 10001)) t263 (List.replicate ((t263.length : Int) : Int).toNat 0) 0) else (none)) else (none)) = some r:=H
 have A4:=Aside0.mk A40
 clear A40
 by_cases c5 : 0 ≤ (t263.length : Int)
 ·as_aux_lemma=>
  rw [if_pos c5] at H
  have c5b0:=eq_true c5
  have c5b1 : decide (0 ≤ (t263.length : Int)) = true:=decide_eq_true c5
  clear c5
  by_cases c6 : ((t263.length : Int) : Int).toNat ≤ 35184372088832
  ·as_aux_lemma=>
   rw [if_pos c6] at H
   have c6b0:=eq_true c6
   have c6b1 : decide (((t263.length : Int) : Int).toNat ≤ 35184372088832) = true:=decide_eq_true c6
   clear c6
   obtain ⟨y266, hy266⟩ : ∃ y_ : List Int, y_ = (List.replicate ((t263.length : Int) : Int).toNat 0):=⟨_, rfl⟩
   replace H : (contangotop_TopAssess.l0 k l0 (wrap64 (Int.tmod (IntKind.u64.wrap (a2)) 10001)) t263 y266 0) = some r:=by first | (rw [hy266];with_reducible exact H) | (have H2_:=(Option.bind_some _ _).symm.trans H;rw [hy266];with_reducible exact H2_) | (have H2_:=(Option.bind_some _ _).symm.trans H;with_reducible exact H2_) | with_reducible exact H | (rw [hy266];exact H) | exact H
   have Ny266:=Aside0.mk hy266
   clear hy266
   have H':=Aside0.mk H
   clear H
   go_enter Try.func3, Try.ntmps3
   go_wp2_with (first | (go_at_call 4;(with_reducible refine (contangotop_capsD.calls k _ _ l1 t263 _ ?side1 ?side2 A4.out).mono ?_);(case side1=>repeat (first | exact HR1.out | (with_reducible refine Kd.C_alloc ?_ _) | (with_reducible refine Kd.C_drewN ?_ _) | (with_reducible refine Kd.C_drew ?_)));(case side2=>exact HC1.out);rintro e w7 ⟨v264, rfl, ho0, hb⟩;have n0_:=Aside0.mk (Kd.R_lower ho0 (below_size (by repeat (first | (with_reducible first | exact HB.out | apply below_alloc | apply pw_below_drewN | apply below_drew1) | exact HB.out))));have n1_:=Aside0.mk (below_step (by repeat (first | (with_reducible first | exact HB.out | apply below_alloc | apply pw_below_drewN | apply below_drew1) | exact HB.out)) hb);clear HB;have HO265:=n0_;have HB:=n1_;clear n0_ n1_;(try clear hb);(try clear hb2);(try clear hk);(try clear hi);(try clear ho0);obtain ⟨Ao8, co8, eo8⟩:=Kd.R_slice HO265.out;subst eo8) | ((with_reducible refine gate_dst (N:=34) rfl ?_);(try (refine gate_guard (by rfl) ?_;dsimp only));refine Kd.R_make (Kd.int .i64) _ 3 rfl (N:=34) rfl 22 _ _ rfl (t263.length : Int) rfl rfl Try.underlying22 (.int .i64 0) 8 info3 rfl (by decide) (by omega) 0 (ok:=fun _=>True) (okp:=fun _=>True) rfl (fun _ hk=>hk) trivial (of_decide_eq_true (by first | (with_reducible assumption) | assumption)) (Nat.le_trans (Nat.mul_le_mul_right _ (of_decide_eq_true (by first | (with_reducible assumption) | assumption) : (t263.length : Int).toNat ≤ 35184372088832)) (by omega)) (Below.refl _ _) (Nat.le_refl _) ?_;intro v267 w9 ho10 hb hg_ hnew_;clear hg_ hnew_;(first | rw [← Ny266.out] at ho10 | (simp only [Int.reduceToNat] at ho10;rw [← Ny266.out] at ho10));have n0_:=Aside0.mk (Kd.R_elder' (by (with_reducible repeat (first | apply Kd.R_alloc | apply Kd.R_drewN | apply Kd.R_drew));exact HO265.out) (Kd.R_base ho10) hb);have n1_:=Aside0.mk (Kd.R_lower (Kd.R_new' ho10 (Kd.R_lt (by (with_reducible repeat (first | apply Kd.R_alloc | apply Kd.R_drewN | apply Kd.R_drew));exact HO265.out))) (below_size (by repeat (first | (with_reducible first | exact HB.out | apply below_alloc | apply pw_below_drewN | apply below_drew1) | exact HB.out))));have n2_:=Aside0.mk (below_step (by repeat (first | (with_reducible first | exact HB.out | apply below_alloc | apply pw_below_drewN | apply below_drew1) | exact HB.out)) hb);clear HO265 HB;have HO265:=n0_;have HO268:=n1_;have HB:=n2_;clear n0_ n1_ n2_ hb ho10))
   repeat (go_quiet (first | (go_at_call 4;(with_reducible refine (contangotop_capsD.calls k _ _ l1 t263 _ ?side1 ?side2 A4.out).mono ?_);(case side1=>repeat (first | exact HR1.out | (with_reducible refine Kd.C_alloc ?_ _) | (with_reducible refine Kd.C_drewN ?_ _) | (with_reducible refine Kd.C_drew ?_)));(case side2=>exact HC1.out);rintro e w7 ⟨v264, rfl, ho0, hb⟩;have n0_:=Aside0.mk (Kd.R_lower ho0 (below_size (by repeat (first | (with_reducible first | exact HB.out | apply below_alloc | apply pw_below_drewN | apply below_drew1) | exact HB.out))));have n1_:=Aside0.mk (below_step (by repeat (first | (with_reducible first | exact HB.out | apply below_alloc | apply pw_below_drewN | apply below_drew1) | exact HB.out)) hb);clear HB;have HO265:=n0_;have HB:=n1_;clear n0_ n1_;(try clear hb);(try clear hb2);(try clear hk);(try clear hi);(try clear ho0);obtain ⟨Ao8, co8, eo8⟩:=Kd.R_slice HO265.out;subst eo8) | ((with_reducible refine gate_dst (N:=34) rfl ?_);(try (refine gate_guard (by rfl) ?_;dsimp only));refine Kd.R_make (Kd.int .i64) _ 3 rfl (N:=34) rfl 22 _ _ rfl (t263.length : Int) rfl rfl Try.underlying22 (.int .i64 0) 8 info3 rfl (by decide) (by omega) 0 (ok:=fun _=>True) (okp:=fun _=>True) rfl (fun _ hk=>hk) trivial (of_decide_eq_true (by first | (with_reducible assumption) | assumption)) (Nat.le_trans (Nat.mul_le_mul_right _ (of_decide_eq_true (by first | (with_reducible assumption) | assumption) : (t263.length : Int).toNat ≤ 35184372088832)) (by omega)) (Below.refl _ _) (Nat.le_refl _) ?_;intro v267 w9 ho10 hb hg_ hnew_;clear hg_ hnew_;(first | rw [← Ny266.out] at ho10 | (simp only [Int.reduceToNat] at ho10;rw [← Ny266.out] at ho10));have n0_:=Aside0.mk (Kd.R_elder' (by (with_reducible repeat (first | apply Kd.R_alloc | apply Kd.R_drewN | apply Kd.R_drew));exact HO265.out) (Kd.R_base ho10) hb);have n1_:=Aside0.mk (Kd.R_lower (Kd.R_new' ho10 (Kd.R_lt (by (with_reducible repeat (first | apply Kd.R_alloc | apply Kd.R_drewN | apply Kd.R_drew));exact HO265.out))) (below_size (by repeat (first | (with_reducible first | exact HB.out | apply below_alloc | apply pw_below_drewN | apply below_drew1) | exact HB.out))));have n2_:=Aside0.mk (below_step (by repeat (first | (with_reducible first | exact HB.out | apply below_alloc | apply pw_below_drewN | apply below_drew1) | exact HB.out)) hb);clear HO265 HB;have HO265:=n0_;have HO268:=n1_;have HB:=n2_;clear n0_ n1_ n2_ hb ho10));try go_wp2_with (first | (go_at_call 4;(with_reducible refine (contangotop_capsD.calls k _ _ l1 t263 _ ?side1 ?side2 A4.out).mono ?_);(case side1=>repeat (first | exact HR1.out | (with_reducible refine Kd.C_alloc ?_ _) | (with_reducible refine Kd.C_drewN ?_ _) | (with_reducible refine Kd.C_drew ?_)));(case side2=>exact HC1.out);rintro e w7 ⟨v264, rfl, ho0, hb⟩;have n0_:=Aside0.mk (Kd.R_lower ho0 (below_size (by repeat (first | (with_reducible first | exact HB.out | apply below_alloc | apply pw_below_drewN | apply below_drew1) | exact HB.out))));have n1_:=Aside0.mk (below_step (by repeat (first | (with_reducible first | exact HB.out | apply below_alloc | apply pw_below_drewN | apply below_drew1) | exact HB.out)) hb);clear HB;have HO265:=n0_;have HB:=n1_;clear n0_ n1_;(try clear hb);(try clear hb2);(try clear hk);(try clear hi);(try clear ho0);obtain ⟨Ao8, co8, eo8⟩:=Kd.R_slice HO265.out;subst eo8) | ((with_reducible refine gate_dst (N:=34) rfl ?_);(try (refine gate_guard (by rfl) ?_;dsimp only));refine Kd.R_make (Kd.int .i64) _ 3 rfl (N:=34) rfl 22 _ _ rfl (t263.length : Int) rfl rfl Try.underlying22 (.int .i64 0) 8 info3 rfl (by decide) (by omega) 0 (ok:=fun _=>True) (okp:=fun _=>True) rfl (fun _ hk=>hk) trivial (of_decide_eq_true (by first | (with_reducible assumption) | assumption)) (Nat.le_trans (Nat.mul_le_mul_right _ (of_decide_eq_true (by first | (with_reducible assumption) | assumption) : (t263.length : Int).toNat ≤ 35184372088832)) (by omega)) (Below.refl _ _) (Nat.le_refl _) ?_;intro v267 w9 ho10 hb hg_ hnew_;clear hg_ hnew_;(first | rw [← Ny266.out] at ho10 | (simp only [Int.reduceToNat] at ho10;rw [← Ny266.out] at ho10));have n0_:=Aside0.mk (Kd.R_elder' (by (with_reducible repeat (first | apply Kd.R_alloc | apply Kd.R_drewN | apply Kd.R_drew));exact HO265.out) (Kd.R_base ho10) hb);have n1_:=Aside0.mk (Kd.R_lower (Kd.R_new' ho10 (Kd.R_lt (by (with_reducible repeat (first | apply Kd.R_alloc | apply Kd.R_drewN | apply Kd.R_drew));exact HO265.out))) (below_size (by repeat (first | (with_reducible first | exact HB.out | apply below_alloc | apply pw_below_drewN | apply below_drew1) | exact HB.out))));have n2_:=Aside0.mk (below_step (by repeat (first | (with_reducible first | exact HB.out | apply below_alloc | apply pw_below_drewN | apply below_drew1) | exact HB.out)) hb);clear HO265 HB;have HO265:=n0_;have HO268:=n1_;have HB:=n2_;clear n0_ n1_ n2_ hb ho10)))
   go_loopg [8, 9] k (fun kq v8 v9 w'=>∃ (x8_1 : List Int) (x9_1 : Int), v9 = .int .i64 x9_1 ∧ Aside0 (contangotop_TopAssess.l0 kq l0 (wrap64 (Int.tmod (IntKind.u64.wrap (a2)) 10001)) t263 x8_1 x9_1 = some r) ∧ Aside0 (kq ≤ k) ∧ Aside0 (Kd.R (Kd.int .i64) 3 w' w.heap.size (fun k_=>some k_ ≠ (v8 : Value).ownBlock) (.slice Ao8 t263.length co8) t263) ∧ Aside0 (Kd.R (Kd.int .i64) 3 w' w.heap.size (fun k_=>some k_ ≠ ((.slice Ao8 t263.length co8) : Value).ownBlock) v8 x8_1) ∧ Aside0 (Below w.heap.size w w'))
   case atStart=>exact ⟨(y266), (0), (by first | rfl | (simp;done) | (simp [*];done)), H', ⟨Nat.le_refl _⟩, ⟨by (with_reducible repeat (first | apply Kd.R_alloc | apply Kd.R_drewN | apply Kd.R_drew));exact Kd.R_mono HO265.out (fun _ hk=>hk.2)⟩, ⟨by (with_reducible repeat (first | apply Kd.R_alloc | apply Kd.R_drewN | apply Kd.R_drew));exact Kd.R_mono HO268.out (fun _ hk=>hk.2)⟩, ⟨by repeat (first | (with_reducible first | exact HB.out | apply below_alloc | apply pw_below_drewN | apply below_drew1) | exact HB.out)⟩⟩
   case round =>
    clear H'
    try clear c1
    try clear p2
    try clear c3
    try clear c5
    try clear c5b0
    try clear c5b1
    try clear c6
    try clear c6b0
    try clear c6b1
    try clear p6
    obtain ⟨x8_1, x9_1, rfl, HA, HK1, HO_7, HO_8, HB⟩:=hrel
    cases gk with
    | zero=>exact absurd HA.out (by simp [contangotop_TopAssess.l0])
    | succ k1 =>
     have H:=HA.out
     clear HA
     simp only [contangotop_TopAssess.l0] at H
     have HC11:=Aside0.mk H
     clear H
     go_upto_region 5 with (fail)
     repeat (go_quiet (fail);go_upto_region 5 with (fail))
     go_cut [42] (fun v42 wc=>∃ (kq : Nat) (x42_10 : Bool), v42 = .bool x42_10 ∧ Aside0 (contangotop_TopAssess.j1 kq l0 (wrap64 (Int.tmod (IntKind.u64.wrap (a2)) 10001)) t263 x8_1 x9_1 x42_10 = some r) ∧ Aside0 (kq ≤ k1) ∧ Aside0 (Kd.R (Kd.int .i64) 3 wc w.heap.size (fun k_=>some k_ ≠ (u8 : Value).ownBlock) (.slice Ao8 t263.length co8) t263) ∧ Aside0 (Kd.R (Kd.int .i64) 3 wc w.heap.size (fun k_=>some k_ ≠ ((.slice Ao8 t263.length co8) : Value).ownBlock) u8 x8_1) ∧ Aside0 (Below w.heap.size w wc))
     case first =>
      have H:=HC11.out
      clear HC11
      by_cases c12 : x9_1 < (l0.length : Int)
      ·rw [if_pos c12] at H
       have c12b0 : decide (x9_1 < (l0.length : Int)) = true:=decide_eq_true c12
       clear c12
       (first | rw [c12b0] | (simp only [i64_w, i32_w];rw [c12b0]) | skip)
       have H':=Aside0.mk H
       clear H
       go_wp2
       repeat (go_quiet (fail);try go_wp2)
       go_meet
       case rel=>exact ⟨_, (decide (x9_1 < 20)), (by first | rfl | (simp;done) | (simp [*];done)), H', ⟨by have:=HK1.out;first | omega | exact Nat.le_refl _⟩, ⟨by (with_reducible repeat (first | apply Kd.R_alloc | apply Kd.R_drewN | apply Kd.R_drew));exact HO_7.out⟩, ⟨by (with_reducible repeat (first | apply Kd.R_alloc | apply Kd.R_drewN | apply Kd.R_drew));exact HO_8.out⟩, ⟨by repeat (first | (with_reducible first | exact HB.out | apply below_alloc | apply pw_below_drewN | apply below_drew1) | exact HB.out)⟩⟩
      ·rw [if_neg c12] at H
       have c12b0 : decide (x9_1 < (l0.length : Int)) = false:=decide_eq_false c12
       clear c12
       (first | rw [c12b0] | (simp only [i64_w, i32_w];rw [c12b0]) | skip)
       have H':=Aside0.mk H
       clear H
       go_wp2
       repeat (go_quiet (fail);try go_wp2)
       go_meet
       case rel=>exact ⟨_, (false), (by first | rfl | (simp;done) | (simp [*];done)), H', ⟨by have:=HK1.out;first | omega | exact Nat.le_refl _⟩, ⟨by (with_reducible repeat (first | apply Kd.R_alloc | apply Kd.R_drewN | apply Kd.R_drew));exact HO_7.out⟩, ⟨by (with_reducible repeat (first | apply Kd.R_alloc | apply Kd.R_drewN | apply Kd.R_drew));exact HO_8.out⟩, ⟨by repeat (first | (with_reducible first | exact HB.out | apply below_alloc | apply pw_below_drewN | apply below_drew1) | exact HB.out)⟩⟩
     case rest =>
      clear HC11
      try clear c1
      try clear p2
      try clear c3
      try clear c5
      try clear c5b0
      try clear c5b1
      try clear c6
      try clear c6b0
      try clear c6b1
      try clear p6
      try clear c12
      try clear c12b0
      try clear p2
      try clear p6
      obtain ⟨kq, x42_10, rfl, HA, HJ10, HO_7, HO_8, HB⟩:=hcut
      cases kq with
      | zero=>exact absurd HA.out (by simp [contangotop_TopAssess.j1])
      | succ kj10 =>
       have H:=HA.out
       clear HA
       simp only [contangotop_TopAssess.j1] at H
       by_cases c13 : x42_10 = true
       ·as_aux_lemma=>
        subst c13
        have H1 : (if 0 ≤ x9_1 then (if x9_1 < (l0.length : Int) then ((assess_Call.f kj10 (wrap64 (Int.tmod (IntKind.u64.wrap (rd l0 x9_1)) 100000000000)) t263 (wrap64 (Int.tmod (IntKind.u64.wrap (a2)) 10001)) x8_1).bind fun bt271=>(if bt271.2.2 = 0 then (if (bt271.1.length : Int) = (t263.length : Int) then ((contangotop_totalD.f kj10 bt271.1).bind fun t276=>(contangotop_TopAssess.j2 kj10 l0 (wrap64 (Int.tmod (IntKind.u64.wrap (a2)) 10001)) t263 x8_1 x9_1 (wrap64 (Int.tmod (IntKind.u64.wrap (rd l0 x9_1)) 100000000000)) bt271.1 bt271.2.1 ((wrap64 (t276 + bt271.2.1)) != (wrap64 (Int.tmod (IntKind.u64.wrap (rd l0 x9_1)) 100000000000))))) else (contangotop_TopAssess.j2 kj10 l0 (wrap64 (Int.tmod (IntKind.u64.wrap (a2)) 10001)) t263 x8_1 x9_1 (wrap64 (Int.tmod (IntKind.u64.wrap (rd l0 x9_1)) 100000000000)) bt271.1 bt271.2.1 true)) else (contangotop_TopAssess.j2 kj10 l0 (wrap64 (Int.tmod (IntKind.u64.wrap (a2)) 10001)) t263 x8_1 x9_1 (wrap64 (Int.tmod (IntKind.u64.wrap (rd l0 x9_1)) 100000000000)) bt271.1 bt271.2.1 true))) else (none)) else (none)) = some r:=by rw [if_pos rfl] at H;exact H
        clear H
        have H:=H1
        clear H1
        by_cases c14 : 0 ≤ x9_1
        ·as_aux_lemma=>
         rw [if_pos c14] at H
         have c14b0 : decide (0 ≤ x9_1) = true:=decide_eq_true c14
         clear c14
         by_cases c15 : x9_1 < (l0.length : Int)
         ·as_aux_lemma=>
          rw [if_pos c15] at H
          have c15b0 : decide (x9_1 < (l0.length : Int)) = true:=decide_eq_true c15
          clear c15
          replace H:=Option.bind_eq_some_iff.mp H
          obtain ⟨⟨t271, t272, t273⟩, A160, H⟩:=H
          replace H : (if t273 = 0 then (if (t271.length : Int) = (t263.length : Int) then ((contangotop_totalD.f kj10 t271).bind fun t276=>(contangotop_TopAssess.j2 kj10 l0 (wrap64 (Int.tmod (IntKind.u64.wrap (a2)) 10001)) t263 x8_1 x9_1 (wrap64 (Int.tmod (IntKind.u64.wrap (rd l0 x9_1)) 100000000000)) t271 t272 ((wrap64 (t276 + t272)) != (wrap64 (Int.tmod (IntKind.u64.wrap (rd l0 x9_1)) 100000000000))))) else (contangotop_TopAssess.j2 kj10 l0 (wrap64 (Int.tmod (IntKind.u64.wrap (a2)) 10001)) t263 x8_1 x9_1 (wrap64 (Int.tmod (IntKind.u64.wrap (rd l0 x9_1)) 100000000000)) t271 t272 true)) else (contangotop_TopAssess.j2 kj10 l0 (wrap64 (Int.tmod (IntKind.u64.wrap (a2)) 10001)) t263 x8_1 x9_1 (wrap64 (Int.tmod (IntKind.u64.wrap (rd l0 x9_1)) 100000000000)) t271 t272 true)) = some r:=H
          have A16:=Aside0.mk A160
          clear A160
          have HC17:=Aside0.mk H
          clear H
          have p270 : 0 ≤ (x9_1 : Int):=of_decide_eq_true (by first | (with_reducible assumption) | assumption)
          have q270 : x9_1 < (l0.length : Int):=of_decide_eq_true (by first | (with_reducible assumption) | assumption)
          obtain ⟨ad270, e270, hx270_0⟩:=Kd.at_int HR0.out x9_1 p270 q270
          cases e270
          replace hx270_0:=(HB.out.cell (World.block_lt_of_cell? w _ hx270_0)).trans hx270_0
          replace p270:=eq_true p270
          replace q270:=eq_true q270
          obtain ⟨Ao18, co18, eo18⟩:=Kd.R_slice HO_8.out
          subst eo18
          go_upto_region 9 with (first | (go_at_call 5;(with_reducible refine (assess_Call.calls kj10 (wrap64 (Int.tmod (IntKind.u64.wrap (rd l0 x9_1)) 100000000000)) _ _ t263 (wrap64 (Int.tmod (IntKind.u64.wrap (a2)) 10001)) _ _ x8_1 t271 t272 t273 _ ?side1 ?side2 ?side3 ?side4 A16.out).mono ?_);(case side1=>repeat (first | exact (Kd.R_reads' HO_7.out).2.2 | (with_reducible refine Kd.C_alloc ?_ _) | (with_reducible refine Kd.C_drewN ?_ _) | (with_reducible refine Kd.C_drew ?_)));(case side2=>exact (Kd.R_reads' HO_7.out).2.1);(case side3=>repeat (first | exact (Kd.R_reads' HO_8.out).2.2 | (with_reducible refine Kd.C_alloc ?_ _) | (with_reducible refine Kd.C_drewN ?_ _) | (with_reducible refine Kd.C_drew ?_)));(case side4=>exact (Kd.R_reads' HO_8.out).2.1);rintro e w19 ⟨v274, rfl, ho0, hb⟩;have n0_:=Aside0.mk (Kd.R_elder' (by (with_reducible repeat (first | apply Kd.R_alloc | apply Kd.R_drewN | apply Kd.R_drew));exact HO_7.out) (Kd.R_base ho0) hb);have n1_:=Aside0.mk (Kd.R_elder' (by (with_reducible repeat (first | apply Kd.R_alloc | apply Kd.R_drewN | apply Kd.R_drew));exact HO_8.out) (Kd.R_base ho0) hb);have n2_:=Aside0.mk (Kd.R_lower (Kd.R_new' (Kd.R_new' ho0 (Kd.R_lt (by (with_reducible repeat (first | apply Kd.R_alloc | apply Kd.R_drewN | apply Kd.R_drew));exact HO_7.out))) (Kd.R_lt (by (with_reducible repeat (first | apply Kd.R_alloc | apply Kd.R_drewN | apply Kd.R_drew));exact HO_8.out))) (below_size (by repeat (first | (with_reducible first | exact HB.out | apply below_alloc | apply pw_below_drewN | apply below_drew1) | exact HB.out))));have n3_:=Aside0.mk (below_step (by repeat (first | (with_reducible first | exact HB.out | apply below_alloc | apply pw_below_drewN | apply below_drew1) | exact HB.out)) hb);clear HO_7 HO_8 HB;have HO_7:=n0_;have HO_8:=n1_;have HO275:=n2_;have HB:=n3_;clear n0_ n1_ n2_ n3_;(try clear hb);(try clear hb2);(try clear hk);(try clear hi);(try clear ho0)))
          repeat (go_quiet (first | (go_at_call 5;(with_reducible refine (assess_Call.calls kj10 (wrap64 (Int.tmod (IntKind.u64.wrap (rd l0 x9_1)) 100000000000)) _ _ t263 (wrap64 (Int.tmod (IntKind.u64.wrap (a2)) 10001)) _ _ x8_1 t271 t272 t273 _ ?side1 ?side2 ?side3 ?side4 A16.out).mono ?_);(case side1=>repeat (first | exact (Kd.R_reads' HO_7.out).2.2 | (with_reducible refine Kd.C_alloc ?_ _) | (with_reducible refine Kd.C_drewN ?_ _) | (with_reducible refine Kd.C_drew ?_)));(case side2=>exact (Kd.R_reads' HO_7.out).2.1);(case side3=>repeat (first | exact (Kd.R_reads' HO_8.out).2.2 | (with_reducible refine Kd.C_alloc ?_ _) | (with_reducible refine Kd.C_drewN ?_ _) | (with_reducible refine Kd.C_drew ?_)));(case side4=>exact (Kd.R_reads' HO_8.out).2.1);rintro e w19 ⟨v274, rfl, ho0, hb⟩;have n0_:=Aside0.mk (Kd.R_elder' (by (with_reducible repeat (first | apply Kd.R_alloc | apply Kd.R_drewN | apply Kd.R_drew));exact HO_7.out) (Kd.R_base ho0) hb);have n1_:=Aside0.mk (Kd.R_elder' (by (with_reducible repeat (first | apply Kd.R_alloc | apply Kd.R_drewN | apply Kd.R_drew));exact HO_8.out) (Kd.R_base ho0) hb);have n2_:=Aside0.mk (Kd.R_lower (Kd.R_new' (Kd.R_new' ho0 (Kd.R_lt (by (with_reducible repeat (first | apply Kd.R_alloc | apply Kd.R_drewN | apply Kd.R_drew));exact HO_7.out))) (Kd.R_lt (by (with_reducible repeat (first | apply Kd.R_alloc | apply Kd.R_drewN | apply Kd.R_drew));exact HO_8.out))) (below_size (by repeat (first | (with_reducible first | exact HB.out | apply below_alloc | apply pw_below_drewN | apply below_drew1) | exact HB.out))));have n3_:=Aside0.mk (below_step (by repeat (first | (with_reducible first | exact HB.out | apply below_alloc | apply pw_below_drewN | apply below_drew1) | exact HB.out)) hb);clear HO_7 HO_8 HB;have HO_7:=n0_;have HO_8:=n1_;have HO275:=n2_;have HB:=n3_;clear n0_ n1_ n2_ n3_;(try clear hb);(try clear hb2);(try clear hk);(try clear hi);(try clear ho0)));go_upto_region 9 with (first | (go_at_call 5;(with_reducible refine (assess_Call.calls kj10 (wrap64 (Int.tmod (IntKind.u64.wrap (rd l0 x9_1)) 100000000000)) _ _ t263 (wrap64 (Int.tmod (IntKind.u64.wrap (a2)) 10001)) _ _ x8_1 t271 t272 t273 _ ?side1 ?side2 ?side3 ?side4 A16.out).mono ?_);(case side1=>repeat (first | exact (Kd.R_reads' HO_7.out).2.2 | (with_reducible refine Kd.C_alloc ?_ _) | (with_reducible refine Kd.C_drewN ?_ _) | (with_reducible refine Kd.C_drew ?_)));(case side2=>exact (Kd.R_reads' HO_7.out).2.1);(case side3=>repeat (first | exact (Kd.R_reads' HO_8.out).2.2 | (with_reducible refine Kd.C_alloc ?_ _) | (with_reducible refine Kd.C_drewN ?_ _) | (with_reducible refine Kd.C_drew ?_)));(case side4=>exact (Kd.R_reads' HO_8.out).2.1);rintro e w19 ⟨v274, rfl, ho0, hb⟩;have n0_:=Aside0.mk (Kd.R_elder' (by (with_reducible repeat (first | apply Kd.R_alloc | apply Kd.R_drewN | apply Kd.R_drew));exact HO_7.out) (Kd.R_base ho0) hb);have n1_:=Aside0.mk (Kd.R_elder' (by (with_reducible repeat (first | apply Kd.R_alloc | apply Kd.R_drewN | apply Kd.R_drew));exact HO_8.out) (Kd.R_base ho0) hb);have n2_:=Aside0.mk (Kd.R_lower (Kd.R_new' (Kd.R_new' ho0 (Kd.R_lt (by (with_reducible repeat (first | apply Kd.R_alloc | apply Kd.R_drewN | apply Kd.R_drew));exact HO_7.out))) (Kd.R_lt (by (with_reducible repeat (first | apply Kd.R_alloc | apply Kd.R_drewN | apply Kd.R_drew));exact HO_8.out))) (below_size (by repeat (first | (with_reducible first | exact HB.out | apply below_alloc | apply pw_below_drewN | apply below_drew1) | exact HB.out))));have n3_:=Aside0.mk (below_step (by repeat (first | (with_reducible first | exact HB.out | apply below_alloc | apply pw_below_drewN | apply below_drew1) | exact HB.out)) hb);clear HO_7 HO_8 HB;have HO_7:=n0_;have HO_8:=n1_;have HO275:=n2_;have HB:=n3_;clear n0_ n1_ n2_ n3_;(try clear hb);(try clear hb2);(try clear hk);(try clear hi);(try clear ho0))))
          (try simp only [Act.put, List.setIfInBounds_toArray, List.set_cons_zero, List.set_cons_succ])
          go_cut [77] (fun v77 wc=>∃ (kq : Nat) (x77_16 : Bool), v77 = .bool x77_16 ∧ Aside0 (contangotop_TopAssess.j2 kq l0 (wrap64 (Int.tmod (IntKind.u64.wrap (a2)) 10001)) t263 x8_1 x9_1 (wrap64 (Int.tmod (IntKind.u64.wrap (rd l0 x9_1)) 100000000000)) t271 t272 x77_16 = some r) ∧ Aside0 (kq ≤ kj10) ∧ Aside0 (Kd.R (Kd.int .i64) 3 wc w.heap.size (fun k_=>some k_ ≠ ((.slice Ao18 x8_1.length co18) : Value).ownBlock ∧ some k_ ≠ (v274 : Value).ownBlock) (.slice Ao8 t263.length co8) t263) ∧ Aside0 (Kd.R (Kd.int .i64) 3 wc w.heap.size (fun k_=>some k_ ≠ ((.slice Ao8 t263.length co8) : Value).ownBlock ∧ some k_ ≠ (v274 : Value).ownBlock) (.slice Ao18 x8_1.length co18) x8_1) ∧ Aside0 (Kd.R (Kd.int .i64) 3 wc w.heap.size (fun k_=>some k_ ≠ ((.slice Ao8 t263.length co8) : Value).ownBlock ∧ some k_ ≠ ((.slice Ao18 x8_1.length co18) : Value).ownBlock) v274 t271) ∧ Aside0 (Below w.heap.size w wc))
          case first =>
           have H:=HC17.out
           clear HC17
           by_cases c20 : t273 = 0
           ·rw [if_pos c20] at H
            have c20b0 : (t273 == 0) = true:=beq_iff_eq.mpr c20
            have c20b1 : (t273 != 0) = false:=bne_eq_false_iff_eq.mpr c20
            clear c20
            (first | rw [c20b0] | (simp only [i64_w, i32_w];rw [c20b0]) | rw [c20b1] | skip)
            by_cases c21 : (t271.length : Int) = (t263.length : Int)
            ·rw [if_pos c21] at H
             have c21b0 : ((t271.length : Int) == (t263.length : Int)) = true:=beq_iff_eq.mpr c21
             have c21b1 : ((t271.length : Int) != (t263.length : Int)) = false:=bne_eq_false_iff_eq.mpr c21
             have c21b2 : (t271.length == t263.length) = true:=by first | simpa using c21 | (simp at c21 ⊢;omega)
             clear c21
             replace H:=Option.bind_eq_some_iff.mp H
             obtain ⟨t276, A220, H⟩:=H
             replace H : (contangotop_TopAssess.j2 kj10 l0 (wrap64 (Int.tmod (IntKind.u64.wrap (a2)) 10001)) t263 x8_1 x9_1 (wrap64 (Int.tmod (IntKind.u64.wrap (rd l0 x9_1)) 100000000000)) t271 t272 ((wrap64 (t276 + t272)) != (wrap64 (Int.tmod (IntKind.u64.wrap (rd l0 x9_1)) 100000000000)))) = some r:=H
             have A22:=Aside0.mk A220
             clear A220
             have H':=Aside0.mk H
             clear H
             obtain ⟨Ao23, co23, eo23⟩:=Kd.R_slice HO275.out
             subst eo23
             go_wp2_with (first | (go_at_call 6;(with_reducible refine (contangotop_totalD.calls kj10 _ _ t271 t276 _ ?side1 ?side2 A22.out).mono ?_);(case side1=>repeat (first | exact (Kd.R_reads' HO275.out).2.2 | (with_reducible refine Kd.C_alloc ?_ _) | (with_reducible refine Kd.C_drewN ?_ _) | (with_reducible refine Kd.C_drew ?_)));(case side2=>exact (Kd.R_reads' HO275.out).2.1);rintro e w' ⟨rfl, ⟨nd, rfl⟩⟩;(try first | exact ⟨rfl, _, World.drewN_drewN _ _ _⟩ | exact ⟨rfl, _, Eq.trans (World.drewN_drewN _ _ _) (congrArg (World.drewN _) (Nat.add_assoc _ _ _))⟩)))
             repeat (go_quiet (first | (go_at_call 6;(with_reducible refine (contangotop_totalD.calls kj10 _ _ t271 t276 _ ?side1 ?side2 A22.out).mono ?_);(case side1=>repeat (first | exact (Kd.R_reads' HO275.out).2.2 | (with_reducible refine Kd.C_alloc ?_ _) | (with_reducible refine Kd.C_drewN ?_ _) | (with_reducible refine Kd.C_drew ?_)));(case side2=>exact (Kd.R_reads' HO275.out).2.1);rintro e w' ⟨rfl, ⟨nd, rfl⟩⟩;(try first | exact ⟨rfl, _, World.drewN_drewN _ _ _⟩ | exact ⟨rfl, _, Eq.trans (World.drewN_drewN _ _ _) (congrArg (World.drewN _) (Nat.add_assoc _ _ _))⟩)));try go_wp2_with (first | (go_at_call 6;(with_reducible refine (contangotop_totalD.calls kj10 _ _ t271 t276 _ ?side1 ?side2 A22.out).mono ?_);(case side1=>repeat (first | exact (Kd.R_reads' HO275.out).2.2 | (with_reducible refine Kd.C_alloc ?_ _) | (with_reducible refine Kd.C_drewN ?_ _) | (with_reducible refine Kd.C_drew ?_)));(case side2=>exact (Kd.R_reads' HO275.out).2.1);rintro e w' ⟨rfl, ⟨nd, rfl⟩⟩;(try first | exact ⟨rfl, _, World.drewN_drewN _ _ _⟩ | exact ⟨rfl, _, Eq.trans (World.drewN_drewN _ _ _) (congrArg (World.drewN _) (Nat.add_assoc _ _ _))⟩))))
             go_meet
             case rel=>exact ⟨_, (((wrap64 (t276 + t272)) != (wrap64 (Int.tmod (IntKind.u64.wrap (rd l0 x9_1)) 100000000000)))), (by first | rfl | (simp;done) | (simp [*];done)), H', ⟨by have:=HK1.out;have:=HJ10.out;first | omega | exact Nat.le_refl _⟩, ⟨by (with_reducible repeat (first | apply Kd.R_alloc | apply Kd.R_drewN | apply Kd.R_drew));exact HO_7.out⟩, ⟨by (with_reducible repeat (first | apply Kd.R_alloc | apply Kd.R_drewN | apply Kd.R_drew));exact HO_8.out⟩, ⟨by (with_reducible repeat (first | apply Kd.R_alloc | apply Kd.R_drewN | apply Kd.R_drew));exact Kd.R_mono HO275.out (fun _ hk=>⟨hk.1.2, hk.2⟩)⟩, ⟨by repeat (first | (with_reducible first | exact HB.out | apply below_alloc | apply pw_below_drewN | apply below_drew1) | exact HB.out)⟩⟩
            ·rw [if_neg c21] at H
             have c21b0 : ((t271.length : Int) == (t263.length : Int)) = false:=beq_eq_false_iff_ne.mpr c21
             have c21b1 : ((t271.length : Int) != (t263.length : Int)) = true:=bne_iff_ne.mpr c21
             have c21b2 : (t271.length == t263.length) = false:=by first | simpa using c21 | (simp at c21 ⊢;omega)
             have H':=Aside0.mk H
             clear H
             obtain ⟨Ao24, co24, eo24⟩:=Kd.R_slice HO275.out
             subst eo24
             go_wp2
             repeat (go_quiet (fail);try go_wp2)
             go_meet
             case rel=>exact ⟨_, (true), (by first | rfl | (simp;done) | (simp [*];done)), H', ⟨by have:=HK1.out;have:=HJ10.out;first | omega | exact Nat.le_refl _⟩, ⟨by (with_reducible repeat (first | apply Kd.R_alloc | apply Kd.R_drewN | apply Kd.R_drew));exact HO_7.out⟩, ⟨by (with_reducible repeat (first | apply Kd.R_alloc | apply Kd.R_drewN | apply Kd.R_drew));exact HO_8.out⟩, ⟨by (with_reducible repeat (first | apply Kd.R_alloc | apply Kd.R_drewN | apply Kd.R_drew));exact Kd.R_mono HO275.out (fun _ hk=>⟨hk.1.2, hk.2⟩)⟩, ⟨by repeat (first | (with_reducible first | exact HB.out | apply below_alloc | apply pw_below_drewN | apply below_drew1) | exact HB.out)⟩⟩
           ·rw [if_neg c20] at H
            have c20b0 : (t273 == 0) = false:=beq_eq_false_iff_ne.mpr c20
            have c20b1 : (t273 != 0) = true:=bne_iff_ne.mpr c20
            (first | rw [c20b0] | (simp only [i64_w, i32_w];rw [c20b0]) | rw [c20b1] | skip)
            have H':=Aside0.mk H
            clear H
            go_wp2
            repeat (go_quiet (fail);try go_wp2)
            go_meet
            case rel=>exact ⟨_, (true), (by first | rfl | (simp;done) | (simp [*];done)), H', ⟨by have:=HK1.out;have:=HJ10.out;first | omega | exact Nat.le_refl _⟩, ⟨by (with_reducible repeat (first | apply Kd.R_alloc | apply Kd.R_drewN | apply Kd.R_drew));exact HO_7.out⟩, ⟨by (with_reducible repeat (first | apply Kd.R_alloc | apply Kd.R_drewN | apply Kd.R_drew));exact HO_8.out⟩, ⟨by (with_reducible repeat (first | apply Kd.R_alloc | apply Kd.R_drewN | apply Kd.R_drew));exact Kd.R_mono HO275.out (fun _ hk=>⟨hk.1.2, hk.2⟩)⟩, ⟨by repeat (first | (with_reducible first | exact HB.out | apply below_alloc | apply pw_below_drewN | apply below_drew1) | exact HB.out)⟩⟩
          case rest =>
           clear HC17
           try clear c1
           try clear c2
           try clear p2
           try clear q2
           try clear hx2
           try clear c3
           try clear c5
           try clear c5b0
           try clear c5b1
           try clear c6
           try clear c6b0
           try clear c6b1
           try clear p6
           try clear c12
           try clear c12b0
           try clear c13
           try clear c14
           try clear c14b0
           try clear c15
           try clear c15b0
           try clear c20
           try clear c20b0
           try clear c20b1
           try clear c21
           try clear c21b0
           try clear c21b1
           try clear c21b2
           try clear hx270_0
           try clear p2
           try clear p270
           try clear p6
           try clear q270
           obtain ⟨kq, x77_16, rfl, HA, HJ16, HO_7, HO_8, HO_11, HB⟩:=hcut
           cases kq with
           | zero=>exact absurd HA.out (by simp [contangotop_TopAssess.j2])
           | succ kj16 =>
            have H:=HA.out
            clear HA
            simp only [contangotop_TopAssess.j2] at H
            by_cases c25 : x77_16 = true
            ·subst c25
             have H1 : (none) = some r:=by rw [if_pos rfl] at H;exact H
             clear H
             have H:=H1
             clear H1
             exact absurd H (by simp)
            ·as_aux_lemma=>
             replace c25:=Bool.eq_false_iff.mpr c25
             subst c25
             have H1 : ((assess_Use.f kj16 x8_1 t271).bind fun bt277=>((assess_Room.f kj16 t263 (wrap64 (Int.tmod (IntKind.u64.wrap (a2)) 10001)) bt277.1).bind fun bt281=>(if bt277.2 = 0 then (if bt281.2 = 0 then (if (bt277.1.length : Int) = (t263.length : Int) then (if t272 > 0 then (contangotop_TopAssess.j3 kj16 l0 (wrap64 (Int.tmod (IntKind.u64.wrap (a2)) 10001)) t263 x9_1 (wrap64 (Int.tmod (IntKind.u64.wrap (rd l0 x9_1)) 100000000000)) t271 t272 bt277.1 (bt281.1 != 0)) else (contangotop_TopAssess.j3 kj16 l0 (wrap64 (Int.tmod (IntKind.u64.wrap (a2)) 10001)) t263 x9_1 (wrap64 (Int.tmod (IntKind.u64.wrap (rd l0 x9_1)) 100000000000)) t271 t272 bt277.1 false)) else (contangotop_TopAssess.j3 kj16 l0 (wrap64 (Int.tmod (IntKind.u64.wrap (a2)) 10001)) t263 x9_1 (wrap64 (Int.tmod (IntKind.u64.wrap (rd l0 x9_1)) 100000000000)) t271 t272 bt277.1 true)) else (contangotop_TopAssess.j3 kj16 l0 (wrap64 (Int.tmod (IntKind.u64.wrap (a2)) 10001)) t263 x9_1 (wrap64 (Int.tmod (IntKind.u64.wrap (rd l0 x9_1)) 100000000000)) t271 t272 bt277.1 true)) else (contangotop_TopAssess.j3 kj16 l0 (wrap64 (Int.tmod (IntKind.u64.wrap (a2)) 10001)) t263 x9_1 (wrap64 (Int.tmod (IntKind.u64.wrap (rd l0 x9_1)) 100000000000)) t271 t272 bt277.1 true)))) = some r:=by rw [if_neg (show ¬ (false = true) by decide)] at H;exact H
             clear H
             have H:=H1
             clear H1
             replace H:=Option.bind_eq_some_iff.mp H
             obtain ⟨⟨t277, t278⟩, A260, H⟩:=H
             replace H : ((assess_Room.f kj16 t263 (wrap64 (Int.tmod (IntKind.u64.wrap (a2)) 10001)) t277).bind fun bt281=>(if t278 = 0 then (if bt281.2 = 0 then (if (t277.length : Int) = (t263.length : Int) then (if t272 > 0 then (contangotop_TopAssess.j3 kj16 l0 (wrap64 (Int.tmod (IntKind.u64.wrap (a2)) 10001)) t263 x9_1 (wrap64 (Int.tmod (IntKind.u64.wrap (rd l0 x9_1)) 100000000000)) t271 t272 t277 (bt281.1 != 0)) else (contangotop_TopAssess.j3 kj16 l0 (wrap64 (Int.tmod (IntKind.u64.wrap (a2)) 10001)) t263 x9_1 (wrap64 (Int.tmod (IntKind.u64.wrap (rd l0 x9_1)) 100000000000)) t271 t272 t277 false)) else (contangotop_TopAssess.j3 kj16 l0 (wrap64 (Int.tmod (IntKind.u64.wrap (a2)) 10001)) t263 x9_1 (wrap64 (Int.tmod (IntKind.u64.wrap (rd l0 x9_1)) 100000000000)) t271 t272 t277 true)) else (contangotop_TopAssess.j3 kj16 l0 (wrap64 (Int.tmod (IntKind.u64.wrap (a2)) 10001)) t263 x9_1 (wrap64 (Int.tmod (IntKind.u64.wrap (rd l0 x9_1)) 100000000000)) t271 t272 t277 true)) else (contangotop_TopAssess.j3 kj16 l0 (wrap64 (Int.tmod (IntKind.u64.wrap (a2)) 10001)) t263 x9_1 (wrap64 (Int.tmod (IntKind.u64.wrap (rd l0 x9_1)) 100000000000)) t271 t272 t277 true))) = some r:=H
             have A26:=Aside0.mk A260
             clear A260
             replace H:=Option.bind_eq_some_iff.mp H
             obtain ⟨⟨t281, t282⟩, A270, H⟩:=H
             replace H : (if t278 = 0 then (if t282 = 0 then (if (t277.length : Int) = (t263.length : Int) then (if t272 > 0 then (contangotop_TopAssess.j3 kj16 l0 (wrap64 (Int.tmod (IntKind.u64.wrap (a2)) 10001)) t263 x9_1 (wrap64 (Int.tmod (IntKind.u64.wrap (rd l0 x9_1)) 100000000000)) t271 t272 t277 (t281 != 0)) else (contangotop_TopAssess.j3 kj16 l0 (wrap64 (Int.tmod (IntKind.u64.wrap (a2)) 10001)) t263 x9_1 (wrap64 (Int.tmod (IntKind.u64.wrap (rd l0 x9_1)) 100000000000)) t271 t272 t277 false)) else (contangotop_TopAssess.j3 kj16 l0 (wrap64 (Int.tmod (IntKind.u64.wrap (a2)) 10001)) t263 x9_1 (wrap64 (Int.tmod (IntKind.u64.wrap (rd l0 x9_1)) 100000000000)) t271 t272 t277 true)) else (contangotop_TopAssess.j3 kj16 l0 (wrap64 (Int.tmod (IntKind.u64.wrap (a2)) 10001)) t263 x9_1 (wrap64 (Int.tmod (IntKind.u64.wrap (rd l0 x9_1)) 100000000000)) t271 t272 t277 true)) else (contangotop_TopAssess.j3 kj16 l0 (wrap64 (Int.tmod (IntKind.u64.wrap (a2)) 10001)) t263 x9_1 (wrap64 (Int.tmod (IntKind.u64.wrap (rd l0 x9_1)) 100000000000)) t271 t272 t277 true)) = some r:=H
             have A27:=Aside0.mk A270
             clear A270
             have HC28:=Aside0.mk H
             clear H
             obtain ⟨Ao29, co29, eo29⟩:=Kd.R_slice HO_11.out
             subst eo29
             go_upto_region 13 with (first | (go_at_call 7;(with_reducible refine (assess_Use.calls kj16 _ _ x8_1 _ _ t271 t277 t278 _ ?side1 ?side2 ?side3 ?side4 A26.out).mono ?_);(case side1=>repeat (first | exact (Kd.R_reads' HO_8.out).2.2 | (with_reducible refine Kd.C_alloc ?_ _) | (with_reducible refine Kd.C_drewN ?_ _) | (with_reducible refine Kd.C_drew ?_)));(case side2=>exact (Kd.R_reads' HO_8.out).2.1);(case side3=>repeat (first | exact (Kd.R_reads' HO_11.out).2.2 | (with_reducible refine Kd.C_alloc ?_ _) | (with_reducible refine Kd.C_drewN ?_ _) | (with_reducible refine Kd.C_drew ?_)));(case side4=>exact (Kd.R_reads' HO_11.out).2.1);rintro e w30 ⟨v279, rfl, ho0, hb⟩;have n0_:=Aside0.mk (Kd.R_elder' (by (with_reducible repeat (first | apply Kd.R_alloc | apply Kd.R_drewN | apply Kd.R_drew));exact HO_7.out) (Kd.R_base ho0) hb);have n1_:=Aside0.mk (Kd.R_elder' (by (with_reducible repeat (first | apply Kd.R_alloc | apply Kd.R_drewN | apply Kd.R_drew));exact HO_8.out) (Kd.R_base ho0) hb);have n2_:=Aside0.mk (Kd.R_elder' (by (with_reducible repeat (first | apply Kd.R_alloc | apply Kd.R_drewN | apply Kd.R_drew));exact HO_11.out) (Kd.R_base ho0) hb);have n3_:=Aside0.mk (Kd.R_lower (Kd.R_new' (Kd.R_new' (Kd.R_new' ho0 (Kd.R_lt (by (with_reducible repeat (first | apply Kd.R_alloc | apply Kd.R_drewN | apply Kd.R_drew));exact HO_7.out))) (Kd.R_lt (by (with_reducible repeat (first | apply Kd.R_alloc | apply Kd.R_drewN | apply Kd.R_drew));exact HO_8.out))) (Kd.R_lt (by (with_reducible repeat (first | apply Kd.R_alloc | apply Kd.R_drewN | apply Kd.R_drew));exact HO_11.out))) (below_size (by repeat (first | (with_reducible first | exact HB.out | apply below_alloc | apply pw_below_drewN | apply below_drew1) | exact HB.out))));have n4_:=Aside0.mk (below_step (by repeat (first | (with_reducible first | exact HB.out | apply below_alloc | apply pw_below_drewN | apply below_drew1) | exact HB.out)) hb);clear HO_7 HO_8 HO_11 HB;have HO_7:=n0_;have HO_8:=n1_;have HO_11:=n2_;have HO280:=n3_;have HB:=n4_;clear n0_ n1_ n2_ n3_ n4_;(try clear hb);(try clear hb2);(try clear hk);(try clear hi);(try clear ho0);obtain ⟨Ao31, co31, eo31⟩:=Kd.R_slice HO280.out;subst eo31) | (go_at_call 8;(with_reducible refine (assess_Room.calls kj16 _ _ t263 (wrap64 (Int.tmod (IntKind.u64.wrap (a2)) 10001)) _ _ t277 t281 t282 _ ?side1 ?side2 ?side3 ?side4 A27.out).mono ?_);(case side1=>repeat (first | exact (Kd.R_reads' HO_7.out).2.2 | (with_reducible refine Kd.C_alloc ?_ _) | (with_reducible refine Kd.C_drewN ?_ _) | (with_reducible refine Kd.C_drew ?_)));(case side2=>exact (Kd.R_reads' HO_7.out).2.1);(case side3=>repeat (first | exact (Kd.R_reads' HO280.out).2.2 | (with_reducible refine Kd.C_alloc ?_ _) | (with_reducible refine Kd.C_drewN ?_ _) | (with_reducible refine Kd.C_drew ?_)));(case side4=>exact (Kd.R_reads' HO280.out).2.1);rintro e w32 ⟨rfl, hb⟩;have n0_:=Aside0.mk (Kd.R_below (by (with_reducible repeat (first | apply Kd.R_alloc | apply Kd.R_drewN | apply Kd.R_drew));exact HO_7.out) hb);have n1_:=Aside0.mk (Kd.R_below (by (with_reducible repeat (first | apply Kd.R_alloc | apply Kd.R_drewN | apply Kd.R_drew));exact HO_8.out) hb);have n2_:=Aside0.mk (Kd.R_below (by (with_reducible repeat (first | apply Kd.R_alloc | apply Kd.R_drewN | apply Kd.R_drew));exact HO_11.out) hb);have n3_:=Aside0.mk (Kd.R_below (by (with_reducible repeat (first | apply Kd.R_alloc | apply Kd.R_drewN | apply Kd.R_drew));exact HO280.out) hb);have n4_:=Aside0.mk (below_step (by repeat (first | (with_reducible first | exact HB.out | apply below_alloc | apply pw_below_drewN | apply below_drew1) | exact HB.out)) hb);clear HO_7 HO_8 HO_11 HO280 HB;have HO_7:=n0_;have HO_8:=n1_;have HO_11:=n2_;have HO280:=n3_;have HB:=n4_;clear n0_ n1_ n2_ n3_ n4_;(try clear hb);(try clear hb2);(try clear hk);(try clear hi)))
             repeat (go_quiet (first | (go_at_call 7;(with_reducible refine (assess_Use.calls kj16 _ _ x8_1 _ _ t271 t277 t278 _ ?side1 ?side2 ?side3 ?side4 A26.out).mono ?_);(case side1=>repeat (first | exact (Kd.R_reads' HO_8.out).2.2 | (with_reducible refine Kd.C_alloc ?_ _) | (with_reducible refine Kd.C_drewN ?_ _) | (with_reducible refine Kd.C_drew ?_)));(case side2=>exact (Kd.R_reads' HO_8.out).2.1);(case side3=>repeat (first | exact (Kd.R_reads' HO_11.out).2.2 | (with_reducible refine Kd.C_alloc ?_ _) | (with_reducible refine Kd.C_drewN ?_ _) | (with_reducible refine Kd.C_drew ?_)));(case side4=>exact (Kd.R_reads' HO_11.out).2.1);rintro e w30 ⟨v279, rfl, ho0, hb⟩;have n0_:=Aside0.mk (Kd.R_elder' (by (with_reducible repeat (first | apply Kd.R_alloc | apply Kd.R_drewN | apply Kd.R_drew));exact HO_7.out) (Kd.R_base ho0) hb);have n1_:=Aside0.mk (Kd.R_elder' (by (with_reducible repeat (first | apply Kd.R_alloc | apply Kd.R_drewN | apply Kd.R_drew));exact HO_8.out) (Kd.R_base ho0) hb);have n2_:=Aside0.mk (Kd.R_elder' (by (with_reducible repeat (first | apply Kd.R_alloc | apply Kd.R_drewN | apply Kd.R_drew));exact HO_11.out) (Kd.R_base ho0) hb);have n3_:=Aside0.mk (Kd.R_lower (Kd.R_new' (Kd.R_new' (Kd.R_new' ho0 (Kd.R_lt (by (with_reducible repeat (first | apply Kd.R_alloc | apply Kd.R_drewN | apply Kd.R_drew));exact HO_7.out))) (Kd.R_lt (by (with_reducible repeat (first | apply Kd.R_alloc | apply Kd.R_drewN | apply Kd.R_drew));exact HO_8.out))) (Kd.R_lt (by (with_reducible repeat (first | apply Kd.R_alloc | apply Kd.R_drewN | apply Kd.R_drew));exact HO_11.out))) (below_size (by repeat (first | (with_reducible first | exact HB.out | apply below_alloc | apply pw_below_drewN | apply below_drew1) | exact HB.out))));have n4_:=Aside0.mk (below_step (by repeat (first | (with_reducible first | exact HB.out | apply below_alloc | apply pw_below_drewN | apply below_drew1) | exact HB.out)) hb);clear HO_7 HO_8 HO_11 HB;have HO_7:=n0_;have HO_8:=n1_;have HO_11:=n2_;have HO280:=n3_;have HB:=n4_;clear n0_ n1_ n2_ n3_ n4_;(try clear hb);(try clear hb2);(try clear hk);(try clear hi);(try clear ho0);obtain ⟨Ao31, co31, eo31⟩:=Kd.R_slice HO280.out;subst eo31) | (go_at_call 8;(with_reducible refine (assess_Room.calls kj16 _ _ t263 (wrap64 (Int.tmod (IntKind.u64.wrap (a2)) 10001)) _ _ t277 t281 t282 _ ?side1 ?side2 ?side3 ?side4 A27.out).mono ?_);(case side1=>repeat (first | exact (Kd.R_reads' HO_7.out).2.2 | (with_reducible refine Kd.C_alloc ?_ _) | (with_reducible refine Kd.C_drewN ?_ _) | (with_reducible refine Kd.C_drew ?_)));(case side2=>exact (Kd.R_reads' HO_7.out).2.1);(case side3=>repeat (first | exact (Kd.R_reads' HO280.out).2.2 | (with_reducible refine Kd.C_alloc ?_ _) | (with_reducible refine Kd.C_drewN ?_ _) | (with_reducible refine Kd.C_drew ?_)));(case side4=>exact (Kd.R_reads' HO280.out).2.1);rintro e w32 ⟨rfl, hb⟩;have n0_:=Aside0.mk (Kd.R_below (by (with_reducible repeat (first | apply Kd.R_alloc | apply Kd.R_drewN | apply Kd.R_drew));exact HO_7.out) hb);have n1_:=Aside0.mk (Kd.R_below (by (with_reducible repeat (first | apply Kd.R_alloc | apply Kd.R_drewN | apply Kd.R_drew));exact HO_8.out) hb);have n2_:=Aside0.mk (Kd.R_below (by (with_reducible repeat (first | apply Kd.R_alloc | apply Kd.R_drewN | apply Kd.R_drew));exact HO_11.out) hb);have n3_:=Aside0.mk (Kd.R_below (by (with_reducible repeat (first | apply Kd.R_alloc | apply Kd.R_drewN | apply Kd.R_drew));exact HO280.out) hb);have n4_:=Aside0.mk (below_step (by repeat (first | (with_reducible first | exact HB.out | apply below_alloc | apply pw_below_drewN | apply below_drew1) | exact HB.out)) hb);clear HO_7 HO_8 HO_11 HO280 HB;have HO_7:=n0_;have HO_8:=n1_;have HO_11:=n2_;have HO280:=n3_;have HB:=n4_;clear n0_ n1_ n2_ n3_ n4_;(try clear hb);(try clear hb2);(try clear hk);(try clear hi)));go_upto_region 13 with (first | (go_at_call 7;(with_reducible refine (assess_Use.calls kj16 _ _ x8_1 _ _ t271 t277 t278 _ ?side1 ?side2 ?side3 ?side4 A26.out).mono ?_);(case side1=>repeat (first | exact (Kd.R_reads' HO_8.out).2.2 | (with_reducible refine Kd.C_alloc ?_ _) | (with_reducible refine Kd.C_drewN ?_ _) | (with_reducible refine Kd.C_drew ?_)));(case side2=>exact (Kd.R_reads' HO_8.out).2.1);(case side3=>repeat (first | exact (Kd.R_reads' HO_11.out).2.2 | (with_reducible refine Kd.C_alloc ?_ _) | (with_reducible refine Kd.C_drewN ?_ _) | (with_reducible refine Kd.C_drew ?_)));(case side4=>exact (Kd.R_reads' HO_11.out).2.1);rintro e w30 ⟨v279, rfl, ho0, hb⟩;have n0_:=Aside0.mk (Kd.R_elder' (by (with_reducible repeat (first | apply Kd.R_alloc | apply Kd.R_drewN | apply Kd.R_drew));exact HO_7.out) (Kd.R_base ho0) hb);have n1_:=Aside0.mk (Kd.R_elder' (by (with_reducible repeat (first | apply Kd.R_alloc | apply Kd.R_drewN | apply Kd.R_drew));exact HO_8.out) (Kd.R_base ho0) hb);have n2_:=Aside0.mk (Kd.R_elder' (by (with_reducible repeat (first | apply Kd.R_alloc | apply Kd.R_drewN | apply Kd.R_drew));exact HO_11.out) (Kd.R_base ho0) hb);have n3_:=Aside0.mk (Kd.R_lower (Kd.R_new' (Kd.R_new' (Kd.R_new' ho0 (Kd.R_lt (by (with_reducible repeat (first | apply Kd.R_alloc | apply Kd.R_drewN | apply Kd.R_drew));exact HO_7.out))) (Kd.R_lt (by (with_reducible repeat (first | apply Kd.R_alloc | apply Kd.R_drewN | apply Kd.R_drew));exact HO_8.out))) (Kd.R_lt (by (with_reducible repeat (first | apply Kd.R_alloc | apply Kd.R_drewN | apply Kd.R_drew));exact HO_11.out))) (below_size (by repeat (first | (with_reducible first | exact HB.out | apply below_alloc | apply pw_below_drewN | apply below_drew1) | exact HB.out))));have n4_:=Aside0.mk (below_step (by repeat (first | (with_reducible first | exact HB.out | apply below_alloc | apply pw_below_drewN | apply below_drew1) | exact HB.out)) hb);clear HO_7 HO_8 HO_11 HB;have HO_7:=n0_;have HO_8:=n1_;have HO_11:=n2_;have HO280:=n3_;have HB:=n4_;clear n0_ n1_ n2_ n3_ n4_;(try clear hb);(try clear hb2);(try clear hk);(try clear hi);(try clear ho0);obtain ⟨Ao31, co31, eo31⟩:=Kd.R_slice HO280.out;subst eo31) | (go_at_call 8;(with_reducible refine (assess_Room.calls kj16 _ _ t263 (wrap64 (Int.tmod (IntKind.u64.wrap (a2)) 10001)) _ _ t277 t281 t282 _ ?side1 ?side2 ?side3 ?side4 A27.out).mono ?_);(case side1=>repeat (first | exact (Kd.R_reads' HO_7.out).2.2 | (with_reducible refine Kd.C_alloc ?_ _) | (with_reducible refine Kd.C_drewN ?_ _) | (with_reducible refine Kd.C_drew ?_)));(case side2=>exact (Kd.R_reads' HO_7.out).2.1);(case side3=>repeat (first | exact (Kd.R_reads' HO280.out).2.2 | (with_reducible refine Kd.C_alloc ?_ _) | (with_reducible refine Kd.C_drewN ?_ _) | (with_reducible refine Kd.C_drew ?_)));(case side4=>exact (Kd.R_reads' HO280.out).2.1);rintro e w32 ⟨rfl, hb⟩;have n0_:=Aside0.mk (Kd.R_below (by (with_reducible repeat (first | apply Kd.R_alloc | apply Kd.R_drewN | apply Kd.R_drew));exact HO_7.out) hb);have n1_:=Aside0.mk (Kd.R_below (by (with_reducible repeat (first | apply Kd.R_alloc | apply Kd.R_drewN | apply Kd.R_drew));exact HO_8.out) hb);have n2_:=Aside0.mk (Kd.R_below (by (with_reducible repeat (first | apply Kd.R_alloc | apply Kd.R_drewN | apply Kd.R_drew));exact HO_11.out) hb);have n3_:=Aside0.mk (Kd.R_below (by (with_reducible repeat (first | apply Kd.R_alloc | apply Kd.R_drewN | apply Kd.R_drew));exact HO280.out) hb);have n4_:=Aside0.mk (below_step (by repeat (first | (with_reducible first | exact HB.out | apply below_alloc | apply pw_below_drewN | apply below_drew1) | exact HB.out)) hb);clear HO_7 HO_8 HO_11 HO280 HB;have HO_7:=n0_;have HO_8:=n1_;have HO_11:=n2_;have HO280:=n3_;have HB:=n4_;clear n0_ n1_ n2_ n3_ n4_;(try clear hb);(try clear hb2);(try clear hk);(try clear hi))))
             (try simp only [Act.put, List.setIfInBounds_toArray, List.set_cons_zero, List.set_cons_succ])
             go_cut [111] (fun v111 wc=>∃ (kq : Nat) (x111_27 : Bool), v111 = .bool x111_27 ∧ Aside0 (contangotop_TopAssess.j3 kq l0 (wrap64 (Int.tmod (IntKind.u64.wrap (a2)) 10001)) t263 x9_1 (wrap64 (Int.tmod (IntKind.u64.wrap (rd l0 x9_1)) 100000000000)) t271 t272 t277 x111_27 = some r) ∧ Aside0 (kq ≤ kj16) ∧ Aside0 (Kd.R (Kd.int .i64) 3 wc w.heap.size (fun k_=>some k_ ≠ ((.slice Ao29 t271.length co29) : Value).ownBlock ∧ some k_ ≠ ((.slice Ao31 t277.length co31) : Value).ownBlock) (.slice Ao8 t263.length co8) t263) ∧ Aside0 (Kd.R (Kd.int .i64) 3 wc w.heap.size (fun k_=>some k_ ≠ ((.slice Ao8 t263.length co8) : Value).ownBlock ∧ some k_ ≠ ((.slice Ao31 t277.length co31) : Value).ownBlock) (.slice Ao29 t271.length co29) t271) ∧ Aside0 (Kd.R (Kd.int .i64) 3 wc w.heap.size (fun k_=>some k_ ≠ ((.slice Ao8 t263.length co8) : Value).ownBlock ∧ some k_ ≠ ((.slice Ao29 t271.length co29) : Value).ownBlock) (.slice Ao31 t277.length co31) t277) ∧ Aside0 (Below w.heap.size w wc))
             case first =>
              have H:=HC28.out
              clear HC28
              by_cases c33 : t278 = 0
              ·rw [if_pos c33] at H
               have c33b0 : (t278 == 0) = true:=beq_iff_eq.mpr c33
               have c33b1 : (t278 != 0) = false:=bne_eq_false_iff_eq.mpr c33
               clear c33
               (first | rw [c33b0] | (simp only [i64_w, i32_w];rw [c33b0]) | rw [c33b1] | skip)
               by_cases c34 : t282 = 0
               ·rw [if_pos c34] at H
                have c34b0 : (t282 == 0) = true:=beq_iff_eq.mpr c34
                have c34b1 : (t282 != 0) = false:=bne_eq_false_iff_eq.mpr c34
                clear c34
                by_cases c35 : (t277.length : Int) = (t263.length : Int)
                ·rw [if_pos c35] at H
                 have c35b0 : ((t277.length : Int) == (t263.length : Int)) = true:=beq_iff_eq.mpr c35
                 have c35b1 : ((t277.length : Int) != (t263.length : Int)) = false:=bne_eq_false_iff_eq.mpr c35
                 have c35b2 : (t277.length == t263.length) = true:=by first | simpa using c35 | (simp at c35 ⊢;omega)
                 clear c35
                 by_cases c36 : t272 > 0
                 ·rw [if_pos c36] at H
                  have c36b0 : decide (0 < t272) = true:=decide_eq_true c36
                  clear c36
                  have H':=Aside0.mk H
                  clear H
                  go_wp2
                  repeat (go_quiet (fail);try go_wp2)
                  go_meet
                  case rel=>exact ⟨_, ((t281 != 0)), (by first | rfl | (simp;done) | (simp [*];done)), H', ⟨by have:=HK1.out;have:=HJ10.out;have:=HJ16.out;first | omega | exact Nat.le_refl _⟩, ⟨by (with_reducible repeat (first | apply Kd.R_alloc | apply Kd.R_drewN | apply Kd.R_drew));exact Kd.R_mono HO_7.out (fun _ hk=>⟨hk.1.2, hk.2⟩)⟩, ⟨by (with_reducible repeat (first | apply Kd.R_alloc | apply Kd.R_drewN | apply Kd.R_drew));exact Kd.R_mono HO_11.out (fun _ hk=>⟨hk.1.1, hk.2⟩)⟩, ⟨by (with_reducible repeat (first | apply Kd.R_alloc | apply Kd.R_drewN | apply Kd.R_drew));exact Kd.R_mono HO280.out (fun _ hk=>⟨hk.1.1.2, hk.2⟩)⟩, ⟨by repeat (first | (with_reducible first | exact HB.out | apply below_alloc | apply pw_below_drewN | apply below_drew1) | exact HB.out)⟩⟩
                 ·rw [if_neg c36] at H
                  have c36b0 : decide (0 < t272) = false:=decide_eq_false c36
                  clear c36
                  have H':=Aside0.mk H
                  clear H
                  go_wp2
                  repeat (go_quiet (fail);try go_wp2)
                  go_meet
                  case rel=>exact ⟨_, (false), (by first | rfl | (simp;done) | (simp [*];done)), H', ⟨by have:=HK1.out;have:=HJ10.out;have:=HJ16.out;first | omega | exact Nat.le_refl _⟩, ⟨by (with_reducible repeat (first | apply Kd.R_alloc | apply Kd.R_drewN | apply Kd.R_drew));exact Kd.R_mono HO_7.out (fun _ hk=>⟨hk.1.2, hk.2⟩)⟩, ⟨by (with_reducible repeat (first | apply Kd.R_alloc | apply Kd.R_drewN | apply Kd.R_drew));exact Kd.R_mono HO_11.out (fun _ hk=>⟨hk.1.1, hk.2⟩)⟩, ⟨by (with_reducible repeat (first | apply Kd.R_alloc | apply Kd.R_drewN | apply Kd.R_drew));exact Kd.R_mono HO280.out (fun _ hk=>⟨hk.1.1.2, hk.2⟩)⟩, ⟨by repeat (first | (with_reducible first | exact HB.out | apply below_alloc | apply pw_below_drewN | apply below_drew1) | exact HB.out)⟩⟩
                ·rw [if_neg c35] at H
                 have c35b0 : ((t277.length : Int) == (t263.length : Int)) = false:=beq_eq_false_iff_ne.mpr c35
                 have c35b1 : ((t277.length : Int) != (t263.length : Int)) = true:=bne_iff_ne.mpr c35
                 have c35b2 : (t277.length == t263.length) = false:=by first | simpa using c35 | (simp at c35 ⊢;omega)
                 have H':=Aside0.mk H
                 clear H
                 go_wp2
                 repeat (go_quiet (fail);try go_wp2)
                 go_meet
                 case rel=>exact ⟨_, (true), (by first | rfl | (simp;done) | (simp [*];done)), H', ⟨by have:=HK1.out;have:=HJ10.out;have:=HJ16.out;first | omega | exact Nat.le_refl _⟩, ⟨by (with_reducible repeat (first | apply Kd.R_alloc | apply Kd.R_drewN | apply Kd.R_drew));exact Kd.R_mono HO_7.out (fun _ hk=>⟨hk.1.2, hk.2⟩)⟩, ⟨by (with_reducible repeat (first | apply Kd.R_alloc | apply Kd.R_drewN | apply Kd.R_drew));exact Kd.R_mono HO_11.out (fun _ hk=>⟨hk.1.1, hk.2⟩)⟩, ⟨by (with_reducible repeat (first | apply Kd.R_alloc | apply Kd.R_drewN | apply Kd.R_drew));exact Kd.R_mono HO280.out (fun _ hk=>⟨hk.1.1.2, hk.2⟩)⟩, ⟨by repeat (first | (with_reducible first | exact HB.out | apply below_alloc | apply pw_below_drewN | apply below_drew1) | exact HB.out)⟩⟩
               ·rw [if_neg c34] at H
                have c34b0 : (t282 == 0) = false:=beq_eq_false_iff_ne.mpr c34
                have c34b1 : (t282 != 0) = true:=bne_iff_ne.mpr c34
                have H':=Aside0.mk H
                clear H
                go_wp2
                repeat (go_quiet (fail);try go_wp2)
                go_meet
                case rel=>exact ⟨_, (true), (by first | rfl | (simp;done) | (simp [*];done)), H', ⟨by have:=HK1.out;have:=HJ10.out;have:=HJ16.out;first | omega | exact Nat.le_refl _⟩, ⟨by (with_reducible repeat (first | apply Kd.R_alloc | apply Kd.R_drewN | apply Kd.R_drew));exact Kd.R_mono HO_7.out (fun _ hk=>⟨hk.1.2, hk.2⟩)⟩, ⟨by (with_reducible repeat (first | apply Kd.R_alloc | apply Kd.R_drewN | apply Kd.R_drew));exact Kd.R_mono HO_11.out (fun _ hk=>⟨hk.1.1, hk.2⟩)⟩, ⟨by (with_reducible repeat (first | apply Kd.R_alloc | apply Kd.R_drewN | apply Kd.R_drew));exact Kd.R_mono HO280.out (fun _ hk=>⟨hk.1.1.2, hk.2⟩)⟩, ⟨by repeat (first | (with_reducible first | exact HB.out | apply below_alloc | apply pw_below_drewN | apply below_drew1) | exact HB.out)⟩⟩
              ·rw [if_neg c33] at H
               have c33b0 : (t278 == 0) = false:=beq_eq_false_iff_ne.mpr c33
               have c33b1 : (t278 != 0) = true:=bne_iff_ne.mpr c33
               (first | rw [c33b0] | (simp only [i64_w, i32_w];rw [c33b0]) | rw [c33b1] | skip)
               have H':=Aside0.mk H
               clear H
               go_wp2
               repeat (go_quiet (fail);try go_wp2)
               go_meet
               case rel=>exact ⟨_, (true), (by first | rfl | (simp;done) | (simp [*];done)), H', ⟨by have:=HK1.out;have:=HJ10.out;have:=HJ16.out;first | omega | exact Nat.le_refl _⟩, ⟨by (with_reducible repeat (first | apply Kd.R_alloc | apply Kd.R_drewN | apply Kd.R_drew));exact Kd.R_mono HO_7.out (fun _ hk=>⟨hk.1.2, hk.2⟩)⟩, ⟨by (with_reducible repeat (first | apply Kd.R_alloc | apply Kd.R_drewN | apply Kd.R_drew));exact Kd.R_mono HO_11.out (fun _ hk=>⟨hk.1.1, hk.2⟩)⟩, ⟨by (with_reducible repeat (first | apply Kd.R_alloc | apply Kd.R_drewN | apply Kd.R_drew));exact Kd.R_mono HO280.out (fun _ hk=>⟨hk.1.1.2, hk.2⟩)⟩, ⟨by repeat (first | (with_reducible first | exact HB.out | apply below_alloc | apply pw_below_drewN | apply below_drew1) | exact HB.out)⟩⟩
             case rest =>
              clear HC28
              try clear c1
              try clear c2
              try clear p2
              try clear q2
              try clear hx2
              try clear c3
              try clear c5
              try clear c5b0
              try clear c5b1
              try clear c6
              try clear c6b0
              try clear c6b1
              try clear p6
              try clear c12
              try clear c12b0
              try clear c13
              try clear c14
              try clear c14b0
              try clear c15
              try clear c15b0
              try clear c20
              try clear c20b0
              try clear c20b1
              try clear c21
              try clear c21b0
              try clear c21b1
              try clear c21b2
              try clear c25
              try clear p27
              try clear q27
              try clear hx27
              try clear c33
              try clear c33b0
              try clear c33b1
              try clear c34
              try clear c34b0
              try clear c34b1
              try clear c35
              try clear c35b0
              try clear c35b1
              try clear c35b2
              try clear c36
              try clear c36b0
              try clear hx270_0
              try clear p2
              try clear p270
              try clear p6
              try clear q2
              try clear q270
              obtain ⟨kq, x111_27, rfl, HA, HJ27, HO_7, HO_11, HO_14, HB⟩:=hcut
              cases kq with
              | zero=>exact absurd HA.out (by simp [contangotop_TopAssess.j3])
              | succ kj27 =>
               have H:=HA.out
               clear HA
               simp only [contangotop_TopAssess.j3] at H
               by_cases c37 : x111_27 = true
               ·subst c37
                have H1 : (none) = some r:=by rw [if_pos rfl] at H;exact H
                clear H
                have H:=H1
                clear H1
                exact absurd H (by simp)
               ·as_aux_lemma=>
                replace c37:=Bool.eq_false_iff.mpr c37
                subst c37
                have H1 : (contangotop_TopAssess.l1 kj27 l0 (wrap64 (Int.tmod (IntKind.u64.wrap (a2)) 10001)) t263 t277 x9_1 (wrap64 (Int.tmod (IntKind.u64.wrap (rd l0 x9_1)) 100000000000)) t271 t272 (t277.length : Int) 0) = some r:=by rw [if_neg (show ¬ (false = true) by decide)] at H;exact H
                clear H
                have H:=H1
                clear H1
                have H':=Aside0.mk H
                clear H
                go_wp2
                repeat (go_quiet (fail);try go_wp2)
                go_loopg [115] kj27 (fun kq v115 w'=>∃ (x115_5 : Int), v115 = .int .i64 x115_5 ∧ Aside0 (contangotop_TopAssess.l1 kq l0 (wrap64 (Int.tmod (IntKind.u64.wrap (a2)) 10001)) t263 t277 x9_1 (wrap64 (Int.tmod (IntKind.u64.wrap (rd l0 x9_1)) 100000000000)) t271 t272 (t277.length : Int) x115_5 = some r) ∧ Aside0 (kq ≤ kj27) ∧ Aside0 (Kd.R (Kd.int .i64) 3 w' w.heap.size (fun k_=>some k_ ≠ ((.slice Ao31 t277.length co31) : Value).ownBlock ∧ some k_ ≠ ((.slice Ao29 t271.length co29) : Value).ownBlock) (.slice Ao8 t263.length co8) t263) ∧ Aside0 (Kd.R (Kd.int .i64) 3 w' w.heap.size (fun k_=>some k_ ≠ ((.slice Ao8 t263.length co8) : Value).ownBlock ∧ some k_ ≠ ((.slice Ao29 t271.length co29) : Value).ownBlock) (.slice Ao31 t277.length co31) t277) ∧ Aside0 (Kd.R (Kd.int .i64) 3 w' w.heap.size (fun k_=>some k_ ≠ ((.slice Ao8 t263.length co8) : Value).ownBlock ∧ some k_ ≠ ((.slice Ao31 t277.length co31) : Value).ownBlock) (.slice Ao29 t271.length co29) t271) ∧ Aside0 (Below w.heap.size w w'))
                case atStart=>exact ⟨(0), (by first | rfl | (simp;done) | (simp [*];done)), H', ⟨Nat.le_refl _⟩, ⟨by (with_reducible repeat (first | apply Kd.R_alloc | apply Kd.R_drewN | apply Kd.R_drew));exact Kd.R_mono HO_7.out (fun _ hk=>⟨hk.2, hk.1⟩)⟩, ⟨by (with_reducible repeat (first | apply Kd.R_alloc | apply Kd.R_drewN | apply Kd.R_drew));exact HO_14.out⟩, ⟨by (with_reducible repeat (first | apply Kd.R_alloc | apply Kd.R_drewN | apply Kd.R_drew));exact HO_11.out⟩, ⟨by repeat (first | (with_reducible first | exact HB.out | apply below_alloc | apply pw_below_drewN | apply below_drew1) | exact HB.out)⟩⟩
                case round =>
                 clear H'
                 try clear c1
                 try clear c2
                 try clear p2
                 try clear q2
                 try clear hx2
                 try clear c3
                 try clear c5
                 try clear c5b0
                 try clear c5b1
                 try clear c6
                 try clear c6b0
                 try clear c6b1
                 try clear p6
                 try clear c12
                 try clear c12b0
                 try clear c13
                 try clear c14
                 try clear c14b0
                 try clear c15
                 try clear c15b0
                 try clear c20
                 try clear c20b0
                 try clear c20b1
                 try clear c21
                 try clear c21b0
                 try clear c21b1
                 try clear c21b2
                 try clear c25
                 try clear p27
                 try clear q27
                 try clear hx27
                 try clear c33
                 try clear c33b0
                 try clear c33b1
                 try clear c34
                 try clear c34b0
                 try clear c34b1
                 try clear c35
                 try clear c35b0
                 try clear c35b1
                 try clear c35b2
                 try clear c36
                 try clear c36b0
                 try clear c37
                 try clear hx270_0
                 try clear p2
                 try clear p27
                 try clear p270
                 try clear p6
                 try clear q2
                 try clear q27
                 try clear q270
                 obtain ⟨x115_5, rfl, HA, HK5, HO_7, HO_8, HO_11, HB⟩:=hrel
                 cases gk with
                 | zero=>exact absurd HA.out (by simp [contangotop_TopAssess.l1])
                 | succ k5 =>
                  have H:=HA.out
                  clear HA
                  simp only [contangotop_TopAssess.l1] at H
                  by_cases c38 : x115_5 < (t277.length : Int)
                  ·as_aux_lemma=>
                   rw [if_pos c38] at H
                   have c38b0 : decide (x115_5 < (t277.length : Int)) = true:=decide_eq_true c38
                   clear c38
                   by_cases c39 : 0 ≤ x115_5
                   ·rw [if_pos c39] at H
                    have c39b0 : decide (0 ≤ x115_5) = true:=decide_eq_true c39
                    clear c39
                    by_cases c40 : x115_5 < (t271.length : Int)
                    ·rw [if_pos c40] at H
                     have c40b0 : decide (x115_5 < (t271.length : Int)) = true:=decide_eq_true c40
                     clear c40
                     by_cases c41 : (rd t271 x115_5) < 0
                     ·rw [if_pos c41] at H
                      exact absurd H (by simp)
                     ·rw [if_neg c41] at H
                      have c41b0 : decide ((rd t271 x115_5) < 0) = false:=decide_eq_false c41
                      clear c41
                      by_cases c42 : x115_5 < (t277.length : Int)
                      ·rw [if_pos c42] at H
                       have c42b0 : decide (x115_5 < (t277.length : Int)) = true:=decide_eq_true c42
                       clear c42
                       by_cases c43 : x115_5 < (t263.length : Int)
                       ·rw [if_pos c43] at H
                        have c43b0 : decide (x115_5 < (t263.length : Int)) = true:=decide_eq_true c43
                        clear c43
                        by_cases c44 : (rd t277 x115_5) > (wrap64 (Int.tdiv (wrap64 ((rd t263 x115_5) * (wrap64 (Int.tmod (IntKind.u64.wrap (a2)) 10001)))) 1000))
                        ·rw [if_pos c44] at H
                         exact absurd H (by simp)
                        ·rw [if_neg c44] at H
                         have c44b0 : decide ((wrap64 (Int.tdiv (wrap64 ((rd t263 x115_5) * (wrap64 (Int.tmod (IntKind.u64.wrap (a2)) 10001)))) 1000)) < (rd t277 x115_5)) = false:=decide_eq_false c44
                         clear c44
                         have H':=Aside0.mk H
                         clear H
                         have p283 : 0 ≤ (x115_5 : Int):=of_decide_eq_true (by first | (with_reducible assumption) | assumption)
                         have q283 : x115_5 < (t271.length : Int):=of_decide_eq_true (by first | (with_reducible assumption) | assumption)
                         obtain ⟨ad283, e283, hx283_0⟩:=Kd.at_int (Kd.R_reads' HO_11.out).2.2 x115_5 p283 q283
                         cases e283
                         replace p283:=eq_true p283
                         replace q283:=eq_true q283
                         have p284 : 0 ≤ (x115_5 : Int):=of_decide_eq_true (by first | (with_reducible assumption) | assumption)
                         have q284 : x115_5 < (t277.length : Int):=of_decide_eq_true (by first | (with_reducible assumption) | assumption)
                         obtain ⟨ad284, e284, hx284_0⟩:=Kd.at_int (Kd.R_reads' HO_8.out).2.2 x115_5 p284 q284
                         cases e284
                         replace p284:=eq_true p284
                         replace q284:=eq_true q284
                         have p285 : 0 ≤ (x115_5 : Int):=of_decide_eq_true (by first | (with_reducible assumption) | assumption)
                         have q285 : x115_5 < (t263.length : Int):=of_decide_eq_true (by first | (with_reducible assumption) | assumption)
                         obtain ⟨ad285, e285, hx285_0⟩:=Kd.at_int (Kd.R_reads' HO_7.out).2.2 x115_5 p285 q285
                         cases e285
                         replace p285:=eq_true p285
                         replace q285:=eq_true q285
                         go_wp2
                         repeat (go_quiet (fail);try go_wp2)
                         go_roundg k5
                         case measure=>have:=HK1.out;have:=HJ10.out;have:=HJ16.out;have:=HJ27.out;have:=HK5.out;omega
                         case rel=>exact ⟨(wrap64 (x115_5 + 1)), (by first | rfl | (simp;done) | (simp [*];done)), H', ⟨by have:=HK1.out;have:=HJ10.out;have:=HJ16.out;have:=HJ27.out;have:=HK5.out;omega⟩, ⟨by (with_reducible repeat (first | apply Kd.R_alloc | apply Kd.R_drewN | apply Kd.R_drew));exact HO_7.out⟩, ⟨by (with_reducible repeat (first | apply Kd.R_alloc | apply Kd.R_drewN | apply Kd.R_drew));exact HO_8.out⟩, ⟨by (with_reducible repeat (first | apply Kd.R_alloc | apply Kd.R_drewN | apply Kd.R_drew));exact HO_11.out⟩, ⟨by repeat (first | (with_reducible first | exact HB.out | apply below_alloc | apply pw_below_drewN | apply below_drew1) | exact HB.out)⟩⟩
                       ·rw [if_neg c43] at H
                        exact absurd H (by simp)
                      ·rw [if_neg c42] at H
                       exact absurd H (by simp)
                    ·rw [if_neg c40] at H
                     exact absurd H (by simp)
                   ·rw [if_neg c39] at H
                    exact absurd H (by simp)
                  ·as_aux_lemma=>
                   rw [if_neg c38] at H
                   have c38b0 : decide (x115_5 < (t277.length : Int)) = false:=decide_eq_false c38
                   clear c38
                   replace H:=Option.bind_eq_some_iff.mp H
                   obtain ⟨t286, A450, H⟩:=H
                   replace H : ((waterfall_Absorb.f k5 (wrap64 ((wrap64 (Int.tmod (IntKind.u64.wrap (rd l0 x9_1)) 100000000000)) - t272)) t286).bind fun bt289=>((waterfall_Layer.f k5 t286 5).bind fun bt294=>(if bt289.2.2 = 0 then (if bt294.2 = 0 then (if bt289.2.1 = 0 then (if bt294.1 = (wrap64 ((wrap64 (Int.tmod (IntKind.u64.wrap (rd l0 x9_1)) 100000000000)) - t272)) then (contangotop_TopAssess.j5 k5 l0 (wrap64 (Int.tmod (IntKind.u64.wrap (a2)) 10001)) t263 t277 x9_1 t286 bt289.1 ((bt289.1.length : Int) != (t286.length : Int))) else (contangotop_TopAssess.j5 k5 l0 (wrap64 (Int.tmod (IntKind.u64.wrap (a2)) 10001)) t263 t277 x9_1 t286 bt289.1 true)) else (contangotop_TopAssess.j5 k5 l0 (wrap64 (Int.tmod (IntKind.u64.wrap (a2)) 10001)) t263 t277 x9_1 t286 bt289.1 true)) else (contangotop_TopAssess.j5 k5 l0 (wrap64 (Int.tmod (IntKind.u64.wrap (a2)) 10001)) t263 t277 x9_1 t286 bt289.1 true)) else (contangotop_TopAssess.j5 k5 l0 (wrap64 (Int.tmod (IntKind.u64.wrap (a2)) 10001)) t263 t277 x9_1 t286 bt289.1 true)))) = some r:=H
                   have A45:=Aside0.mk A450
                   clear A450
                   replace H:=Option.bind_eq_some_iff.mp H
                   obtain ⟨⟨t289, t290, t291⟩, A460, H⟩:=H
                   replace H : ((waterfall_Layer.f k5 t286 5).bind fun bt294=>(if t291 = 0 then (if bt294.2 = 0 then (if t290 = 0 then (if bt294.1 = (wrap64 ((wrap64 (Int.tmod (IntKind.u64.wrap (rd l0 x9_1)) 100000000000)) - t272)) then (contangotop_TopAssess.j5 k5 l0 (wrap64 (Int.tmod (IntKind.u64.wrap (a2)) 10001)) t263 t277 x9_1 t286 t289 ((t289.length : Int) != (t286.length : Int))) else (contangotop_TopAssess.j5 k5 l0 (wrap64 (Int.tmod (IntKind.u64.wrap (a2)) 10001)) t263 t277 x9_1 t286 t289 true)) else (contangotop_TopAssess.j5 k5 l0 (wrap64 (Int.tmod (IntKind.u64.wrap (a2)) 10001)) t263 t277 x9_1 t286 t289 true)) else (contangotop_TopAssess.j5 k5 l0 (wrap64 (Int.tmod (IntKind.u64.wrap (a2)) 10001)) t263 t277 x9_1 t286 t289 true)) else (contangotop_TopAssess.j5 k5 l0 (wrap64 (Int.tmod (IntKind.u64.wrap (a2)) 10001)) t263 t277 x9_1 t286 t289 true))) = some r:=H
                   have A46:=Aside0.mk A460
                   clear A460
                   replace H:=Option.bind_eq_some_iff.mp H
                   obtain ⟨⟨t294, t295⟩, A470, H⟩:=H
                   replace H : (if t291 = 0 then (if t295 = 0 then (if t290 = 0 then (if t294 = (wrap64 ((wrap64 (Int.tmod (IntKind.u64.wrap (rd l0 x9_1)) 100000000000)) - t272)) then (contangotop_TopAssess.j5 k5 l0 (wrap64 (Int.tmod (IntKind.u64.wrap (a2)) 10001)) t263 t277 x9_1 t286 t289 ((t289.length : Int) != (t286.length : Int))) else (contangotop_TopAssess.j5 k5 l0 (wrap64 (Int.tmod (IntKind.u64.wrap (a2)) 10001)) t263 t277 x9_1 t286 t289 true)) else (contangotop_TopAssess.j5 k5 l0 (wrap64 (Int.tmod (IntKind.u64.wrap (a2)) 10001)) t263 t277 x9_1 t286 t289 true)) else (contangotop_TopAssess.j5 k5 l0 (wrap64 (Int.tmod (IntKind.u64.wrap (a2)) 10001)) t263 t277 x9_1 t286 t289 true)) else (contangotop_TopAssess.j5 k5 l0 (wrap64 (Int.tmod (IntKind.u64.wrap (a2)) 10001)) t263 t277 x9_1 t286 t289 true)) = some r:=H
                   have A47:=Aside0.mk A470
                   clear A470
                   have HC48:=Aside0.mk H
                   clear H
                   go_upto_region 25 with (first | (go_at_call 9;(with_reducible refine (contangotop_calledD.calls k5 _ _ t271 t286 _ ?side1 ?side2 A45.out).mono ?_);(case side1=>repeat (first | exact (Kd.R_reads' HO_11.out).2.2 | (with_reducible refine Kd.C_alloc ?_ _) | (with_reducible refine Kd.C_drewN ?_ _) | (with_reducible refine Kd.C_drew ?_)));(case side2=>exact (Kd.R_reads' HO_11.out).2.1);rintro e w49 ⟨v287, rfl, ho0, hb⟩;have n0_:=Aside0.mk (Kd.R_below (by (with_reducible repeat (first | apply Kd.R_alloc | apply Kd.R_drewN | apply Kd.R_drew));exact HO_7.out) hb);have n1_:=Aside0.mk (Kd.R_below (by (with_reducible repeat (first | apply Kd.R_alloc | apply Kd.R_drewN | apply Kd.R_drew));exact HO_8.out) hb);have n2_:=Aside0.mk (Kd.R_below (by (with_reducible repeat (first | apply Kd.R_alloc | apply Kd.R_drewN | apply Kd.R_drew));exact HO_11.out) hb);have n3_:=Aside0.mk (Kd.R_lower ho0 (below_size (by repeat (first | (with_reducible first | exact HB.out | apply below_alloc | apply pw_below_drewN | apply below_drew1) | exact HB.out))));have n4_:=Aside0.mk (below_step (by repeat (first | (with_reducible first | exact HB.out | apply below_alloc | apply pw_below_drewN | apply below_drew1) | exact HB.out)) hb);clear HO_7 HO_8 HO_11 HB;have HO_7:=n0_;have HO_8:=n1_;have HO_11:=n2_;have HO288:=n3_;have HB:=n4_;clear n0_ n1_ n2_ n3_ n4_;(try clear hb);(try clear hb2);(try clear hk);(try clear hi);(try clear ho0);obtain ⟨Ao50, co50, eo50⟩:=Kd.R_slice HO288.out;subst eo50) | (go_at_call 10;(with_reducible refine (waterfall_Absorb.calls k5 (wrap64 ((wrap64 (Int.tmod (IntKind.u64.wrap (rd l0 x9_1)) 100000000000)) - t272)) _ _ t286 t289 t290 t291 _ ?side1 ?side2 A46.out).mono ?_);(case side1=>repeat (first | exact (Kd.R_reads' HO288.out).2.2 | (with_reducible refine Kd.C_alloc ?_ _) | (with_reducible refine Kd.C_drewN ?_ _) | (with_reducible refine Kd.C_drew ?_)));(case side2=>exact (Kd.R_reads' HO288.out).2.1);rintro e w51 ⟨v292, rfl, ho0, hb⟩;have n0_:=Aside0.mk (Kd.R_elder' (by (with_reducible repeat (first | apply Kd.R_alloc | apply Kd.R_drewN | apply Kd.R_drew));exact HO_7.out) (Kd.R_base ho0) hb);have n1_:=Aside0.mk (Kd.R_elder' (by (with_reducible repeat (first | apply Kd.R_alloc | apply Kd.R_drewN | apply Kd.R_drew));exact HO_8.out) (Kd.R_base ho0) hb);have n2_:=Aside0.mk (Kd.R_elder' (by (with_reducible repeat (first | apply Kd.R_alloc | apply Kd.R_drewN | apply Kd.R_drew));exact HO_11.out) (Kd.R_base ho0) hb);have n3_:=Aside0.mk (Kd.R_below (by (with_reducible repeat (first | apply Kd.R_alloc | apply Kd.R_drewN | apply Kd.R_drew));exact HO288.out) hb);have n4_:=Aside0.mk (Kd.R_lower (Kd.R_new' (Kd.R_new' (Kd.R_new' ho0 (Kd.R_lt (by (with_reducible repeat (first | apply Kd.R_alloc | apply Kd.R_drewN | apply Kd.R_drew));exact HO_7.out))) (Kd.R_lt (by (with_reducible repeat (first | apply Kd.R_alloc | apply Kd.R_drewN | apply Kd.R_drew));exact HO_8.out))) (Kd.R_lt (by (with_reducible repeat (first | apply Kd.R_alloc | apply Kd.R_drewN | apply Kd.R_drew));exact HO_11.out))) (below_size (by repeat (first | (with_reducible first | exact HB.out | apply below_alloc | apply pw_below_drewN | apply below_drew1) | exact HB.out))));have n5_:=Aside0.mk (below_step (by repeat (first | (with_reducible first | exact HB.out | apply below_alloc | apply pw_below_drewN | apply below_drew1) | exact HB.out)) hb);clear HO_7 HO_8 HO_11 HO288 HB;have HO_7:=n0_;have HO_8:=n1_;have HO_11:=n2_;have HO288:=n3_;have HO293:=n4_;have HB:=n5_;clear n0_ n1_ n2_ n3_ n4_ n5_;(try clear hb);(try clear hb2);(try clear hk);(try clear hi);(try clear ho0)) | (go_at_call 11;(with_reducible refine (waterfall_Layer.calls k5 _ _ t286 5 t294 t295 _ ?side1 ?side2 A47.out).mono ?_);(case side1=>repeat (first | exact (Kd.R_reads' HO288.out).2.2 | (with_reducible refine Kd.C_alloc ?_ _) | (with_reducible refine Kd.C_drewN ?_ _) | (with_reducible refine Kd.C_drew ?_)));(case side2=>exact (Kd.R_reads' HO288.out).2.1);rintro e w52 ⟨rfl, hb⟩;have n0_:=Aside0.mk (Kd.R_below (by (with_reducible repeat (first | apply Kd.R_alloc | apply Kd.R_drewN | apply Kd.R_drew));exact HO_7.out) hb);have n1_:=Aside0.mk (Kd.R_below (by (with_reducible repeat (first | apply Kd.R_alloc | apply Kd.R_drewN | apply Kd.R_drew));exact HO_8.out) hb);have n2_:=Aside0.mk (Kd.R_below (by (with_reducible repeat (first | apply Kd.R_alloc | apply Kd.R_drewN | apply Kd.R_drew));exact HO_11.out) hb);have n3_:=Aside0.mk (Kd.R_below (by (with_reducible repeat (first | apply Kd.R_alloc | apply Kd.R_drewN | apply Kd.R_drew));exact HO288.out) hb);have n4_:=Aside0.mk (Kd.R_below (by (with_reducible repeat (first | apply Kd.R_alloc | apply Kd.R_drewN | apply Kd.R_drew));exact HO293.out) hb);have n5_:=Aside0.mk (below_step (by repeat (first | (with_reducible first | exact HB.out | apply below_alloc | apply pw_below_drewN | apply below_drew1) | exact HB.out)) hb);clear HO_7 HO_8 HO_11 HO288 HO293 HB;have HO_7:=n0_;have HO_8:=n1_;have HO_11:=n2_;have HO288:=n3_;have HO293:=n4_;have HB:=n5_;clear n0_ n1_ n2_ n3_ n4_ n5_;(try clear hb);(try clear hb2);(try clear hk);(try clear hi)))
                   repeat (go_quiet (first | (go_at_call 9;(with_reducible refine (contangotop_calledD.calls k5 _ _ t271 t286 _ ?side1 ?side2 A45.out).mono ?_);(case side1=>repeat (first | exact (Kd.R_reads' HO_11.out).2.2 | (with_reducible refine Kd.C_alloc ?_ _) | (with_reducible refine Kd.C_drewN ?_ _) | (with_reducible refine Kd.C_drew ?_)));(case side2=>exact (Kd.R_reads' HO_11.out).2.1);rintro e w49 ⟨v287, rfl, ho0, hb⟩;have n0_:=Aside0.mk (Kd.R_below (by (with_reducible repeat (first | apply Kd.R_alloc | apply Kd.R_drewN | apply Kd.R_drew));exact HO_7.out) hb);have n1_:=Aside0.mk (Kd.R_below (by (with_reducible repeat (first | apply Kd.R_alloc | apply Kd.R_drewN | apply Kd.R_drew));exact HO_8.out) hb);have n2_:=Aside0.mk (Kd.R_below (by (with_reducible repeat (first | apply Kd.R_alloc | apply Kd.R_drewN | apply Kd.R_drew));exact HO_11.out) hb);have n3_:=Aside0.mk (Kd.R_lower ho0 (below_size (by repeat (first | (with_reducible first | exact HB.out | apply below_alloc | apply pw_below_drewN | apply below_drew1) | exact HB.out))));have n4_:=Aside0.mk (below_step (by repeat (first | (with_reducible first | exact HB.out | apply below_alloc | apply pw_below_drewN | apply below_drew1) | exact HB.out)) hb);clear HO_7 HO_8 HO_11 HB;have HO_7:=n0_;have HO_8:=n1_;have HO_11:=n2_;have HO288:=n3_;have HB:=n4_;clear n0_ n1_ n2_ n3_ n4_;(try clear hb);(try clear hb2);(try clear hk);(try clear hi);(try clear ho0);obtain ⟨Ao50, co50, eo50⟩:=Kd.R_slice HO288.out;subst eo50) | (go_at_call 10;(with_reducible refine (waterfall_Absorb.calls k5 (wrap64 ((wrap64 (Int.tmod (IntKind.u64.wrap (rd l0 x9_1)) 100000000000)) - t272)) _ _ t286 t289 t290 t291 _ ?side1 ?side2 A46.out).mono ?_);(case side1=>repeat (first | exact (Kd.R_reads' HO288.out).2.2 | (with_reducible refine Kd.C_alloc ?_ _) | (with_reducible refine Kd.C_drewN ?_ _) | (with_reducible refine Kd.C_drew ?_)));(case side2=>exact (Kd.R_reads' HO288.out).2.1);rintro e w51 ⟨v292, rfl, ho0, hb⟩;have n0_:=Aside0.mk (Kd.R_elder' (by (with_reducible repeat (first | apply Kd.R_alloc | apply Kd.R_drewN | apply Kd.R_drew));exact HO_7.out) (Kd.R_base ho0) hb);have n1_:=Aside0.mk (Kd.R_elder' (by (with_reducible repeat (first | apply Kd.R_alloc | apply Kd.R_drewN | apply Kd.R_drew));exact HO_8.out) (Kd.R_base ho0) hb);have n2_:=Aside0.mk (Kd.R_elder' (by (with_reducible repeat (first | apply Kd.R_alloc | apply Kd.R_drewN | apply Kd.R_drew));exact HO_11.out) (Kd.R_base ho0) hb);have n3_:=Aside0.mk (Kd.R_below (by (with_reducible repeat (first | apply Kd.R_alloc | apply Kd.R_drewN | apply Kd.R_drew));exact HO288.out) hb);have n4_:=Aside0.mk (Kd.R_lower (Kd.R_new' (Kd.R_new' (Kd.R_new' ho0 (Kd.R_lt (by (with_reducible repeat (first | apply Kd.R_alloc | apply Kd.R_drewN | apply Kd.R_drew));exact HO_7.out))) (Kd.R_lt (by (with_reducible repeat (first | apply Kd.R_alloc | apply Kd.R_drewN | apply Kd.R_drew));exact HO_8.out))) (Kd.R_lt (by (with_reducible repeat (first | apply Kd.R_alloc | apply Kd.R_drewN | apply Kd.R_drew));exact HO_11.out))) (below_size (by repeat (first | (with_reducible first | exact HB.out | apply below_alloc | apply pw_below_drewN | apply below_drew1) | exact HB.out))));have n5_:=Aside0.mk (below_step (by repeat (first | (with_reducible first | exact HB.out | apply below_alloc | apply pw_below_drewN | apply below_drew1) | exact HB.out)) hb);clear HO_7 HO_8 HO_11 HO288 HB;have HO_7:=n0_;have HO_8:=n1_;have HO_11:=n2_;have HO288:=n3_;have HO293:=n4_;have HB:=n5_;clear n0_ n1_ n2_ n3_ n4_ n5_;(try clear hb);(try clear hb2);(try clear hk);(try clear hi);(try clear ho0)) | (go_at_call 11;(with_reducible refine (waterfall_Layer.calls k5 _ _ t286 5 t294 t295 _ ?side1 ?side2 A47.out).mono ?_);(case side1=>repeat (first | exact (Kd.R_reads' HO288.out).2.2 | (with_reducible refine Kd.C_alloc ?_ _) | (with_reducible refine Kd.C_drewN ?_ _) | (with_reducible refine Kd.C_drew ?_)));(case side2=>exact (Kd.R_reads' HO288.out).2.1);rintro e w52 ⟨rfl, hb⟩;have n0_:=Aside0.mk (Kd.R_below (by (with_reducible repeat (first | apply Kd.R_alloc | apply Kd.R_drewN | apply Kd.R_drew));exact HO_7.out) hb);have n1_:=Aside0.mk (Kd.R_below (by (with_reducible repeat (first | apply Kd.R_alloc | apply Kd.R_drewN | apply Kd.R_drew));exact HO_8.out) hb);have n2_:=Aside0.mk (Kd.R_below (by (with_reducible repeat (first | apply Kd.R_alloc | apply Kd.R_drewN | apply Kd.R_drew));exact HO_11.out) hb);have n3_:=Aside0.mk (Kd.R_below (by (with_reducible repeat (first | apply Kd.R_alloc | apply Kd.R_drewN | apply Kd.R_drew));exact HO288.out) hb);have n4_:=Aside0.mk (Kd.R_below (by (with_reducible repeat (first | apply Kd.R_alloc | apply Kd.R_drewN | apply Kd.R_drew));exact HO293.out) hb);have n5_:=Aside0.mk (below_step (by repeat (first | (with_reducible first | exact HB.out | apply below_alloc | apply pw_below_drewN | apply below_drew1) | exact HB.out)) hb);clear HO_7 HO_8 HO_11 HO288 HO293 HB;have HO_7:=n0_;have HO_8:=n1_;have HO_11:=n2_;have HO288:=n3_;have HO293:=n4_;have HB:=n5_;clear n0_ n1_ n2_ n3_ n4_ n5_;(try clear hb);(try clear hb2);(try clear hk);(try clear hi)));go_upto_region 25 with (first | (go_at_call 9;(with_reducible refine (contangotop_calledD.calls k5 _ _ t271 t286 _ ?side1 ?side2 A45.out).mono ?_);(case side1=>repeat (first | exact (Kd.R_reads' HO_11.out).2.2 | (with_reducible refine Kd.C_alloc ?_ _) | (with_reducible refine Kd.C_drewN ?_ _) | (with_reducible refine Kd.C_drew ?_)));(case side2=>exact (Kd.R_reads' HO_11.out).2.1);rintro e w49 ⟨v287, rfl, ho0, hb⟩;have n0_:=Aside0.mk (Kd.R_below (by (with_reducible repeat (first | apply Kd.R_alloc | apply Kd.R_drewN | apply Kd.R_drew));exact HO_7.out) hb);have n1_:=Aside0.mk (Kd.R_below (by (with_reducible repeat (first | apply Kd.R_alloc | apply Kd.R_drewN | apply Kd.R_drew));exact HO_8.out) hb);have n2_:=Aside0.mk (Kd.R_below (by (with_reducible repeat (first | apply Kd.R_alloc | apply Kd.R_drewN | apply Kd.R_drew));exact HO_11.out) hb);have n3_:=Aside0.mk (Kd.R_lower ho0 (below_size (by repeat (first | (with_reducible first | exact HB.out | apply below_alloc | apply pw_below_drewN | apply below_drew1) | exact HB.out))));have n4_:=Aside0.mk (below_step (by repeat (first | (with_reducible first | exact HB.out | apply below_alloc | apply pw_below_drewN | apply below_drew1) | exact HB.out)) hb);clear HO_7 HO_8 HO_11 HB;have HO_7:=n0_;have HO_8:=n1_;have HO_11:=n2_;have HO288:=n3_;have HB:=n4_;clear n0_ n1_ n2_ n3_ n4_;(try clear hb);(try clear hb2);(try clear hk);(try clear hi);(try clear ho0);obtain ⟨Ao50, co50, eo50⟩:=Kd.R_slice HO288.out;subst eo50) | (go_at_call 10;(with_reducible refine (waterfall_Absorb.calls k5 (wrap64 ((wrap64 (Int.tmod (IntKind.u64.wrap (rd l0 x9_1)) 100000000000)) - t272)) _ _ t286 t289 t290 t291 _ ?side1 ?side2 A46.out).mono ?_);(case side1=>repeat (first | exact (Kd.R_reads' HO288.out).2.2 | (with_reducible refine Kd.C_alloc ?_ _) | (with_reducible refine Kd.C_drewN ?_ _) | (with_reducible refine Kd.C_drew ?_)));(case side2=>exact (Kd.R_reads' HO288.out).2.1);rintro e w51 ⟨v292, rfl, ho0, hb⟩;have n0_:=Aside0.mk (Kd.R_elder' (by (with_reducible repeat (first | apply Kd.R_alloc | apply Kd.R_drewN | apply Kd.R_drew));exact HO_7.out) (Kd.R_base ho0) hb);have n1_:=Aside0.mk (Kd.R_elder' (by (with_reducible repeat (first | apply Kd.R_alloc | apply Kd.R_drewN | apply Kd.R_drew));exact HO_8.out) (Kd.R_base ho0) hb);have n2_:=Aside0.mk (Kd.R_elder' (by (with_reducible repeat (first | apply Kd.R_alloc | apply Kd.R_drewN | apply Kd.R_drew));exact HO_11.out) (Kd.R_base ho0) hb);have n3_:=Aside0.mk (Kd.R_below (by (with_reducible repeat (first | apply Kd.R_alloc | apply Kd.R_drewN | apply Kd.R_drew));exact HO288.out) hb);have n4_:=Aside0.mk (Kd.R_lower (Kd.R_new' (Kd.R_new' (Kd.R_new' ho0 (Kd.R_lt (by (with_reducible repeat (first | apply Kd.R_alloc | apply Kd.R_drewN | apply Kd.R_drew));exact HO_7.out))) (Kd.R_lt (by (with_reducible repeat (first | apply Kd.R_alloc | apply Kd.R_drewN | apply Kd.R_drew));exact HO_8.out))) (Kd.R_lt (by (with_reducible repeat (first | apply Kd.R_alloc | apply Kd.R_drewN | apply Kd.R_drew));exact HO_11.out))) (below_size (by repeat (first | (with_reducible first | exact HB.out | apply below_alloc | apply pw_below_drewN | apply below_drew1) | exact HB.out))));have n5_:=Aside0.mk (below_step (by repeat (first | (with_reducible first | exact HB.out | apply below_alloc | apply pw_below_drewN | apply below_drew1) | exact HB.out)) hb);clear HO_7 HO_8 HO_11 HO288 HB;have HO_7:=n0_;have HO_8:=n1_;have HO_11:=n2_;have HO288:=n3_;have HO293:=n4_;have HB:=n5_;clear n0_ n1_ n2_ n3_ n4_ n5_;(try clear hb);(try clear hb2);(try clear hk);(try clear hi);(try clear ho0)) | (go_at_call 11;(with_reducible refine (waterfall_Layer.calls k5 _ _ t286 5 t294 t295 _ ?side1 ?side2 A47.out).mono ?_);(case side1=>repeat (first | exact (Kd.R_reads' HO288.out).2.2 | (with_reducible refine Kd.C_alloc ?_ _) | (with_reducible refine Kd.C_drewN ?_ _) | (with_reducible refine Kd.C_drew ?_)));(case side2=>exact (Kd.R_reads' HO288.out).2.1);rintro e w52 ⟨rfl, hb⟩;have n0_:=Aside0.mk (Kd.R_below (by (with_reducible repeat (first | apply Kd.R_alloc | apply Kd.R_drewN | apply Kd.R_drew));exact HO_7.out) hb);have n1_:=Aside0.mk (Kd.R_below (by (with_reducible repeat (first | apply Kd.R_alloc | apply Kd.R_drewN | apply Kd.R_drew));exact HO_8.out) hb);have n2_:=Aside0.mk (Kd.R_below (by (with_reducible repeat (first | apply Kd.R_alloc | apply Kd.R_drewN | apply Kd.R_drew));exact HO_11.out) hb);have n3_:=Aside0.mk (Kd.R_below (by (with_reducible repeat (first | apply Kd.R_alloc | apply Kd.R_drewN | apply Kd.R_drew));exact HO288.out) hb);have n4_:=Aside0.mk (Kd.R_below (by (with_reducible repeat (first | apply Kd.R_alloc | apply Kd.R_drewN | apply Kd.R_drew));exact HO293.out) hb);have n5_:=Aside0.mk (below_step (by repeat (first | (with_reducible first | exact HB.out | apply below_alloc | apply pw_below_drewN | apply below_drew1) | exact HB.out)) hb);clear HO_7 HO_8 HO_11 HO288 HO293 HB;have HO_7:=n0_;have HO_8:=n1_;have HO_11:=n2_;have HO288:=n3_;have HO293:=n4_;have HB:=n5_;clear n0_ n1_ n2_ n3_ n4_ n5_;(try clear hb);(try clear hb2);(try clear hk);(try clear hi))))
                   (try simp only [Act.put, List.setIfInBounds_toArray, List.set_cons_zero, List.set_cons_succ])
                   go_cut [177] (fun v177 wc=>∃ (kq : Nat) (x177_47 : Bool), v177 = .bool x177_47 ∧ Aside0 (contangotop_TopAssess.j5 kq l0 (wrap64 (Int.tmod (IntKind.u64.wrap (a2)) 10001)) t263 t277 x9_1 t286 t289 x177_47 = some r) ∧ Aside0 (kq ≤ k5) ∧ Aside0 (Kd.R (Kd.int .i64) 3 wc w.heap.size (fun k_=>some k_ ≠ ((.slice Ao31 t277.length co31) : Value).ownBlock ∧ some k_ ≠ (v292 : Value).ownBlock) (.slice Ao8 t263.length co8) t263) ∧ Aside0 (Kd.R (Kd.int .i64) 3 wc w.heap.size (fun k_=>some k_ ≠ ((.slice Ao8 t263.length co8) : Value).ownBlock ∧ some k_ ≠ (v292 : Value).ownBlock) (.slice Ao31 t277.length co31) t277) ∧ Aside0 (Kd.R k38 38 wc w.heap.size (fun _=>True) (.slice Ao50 t286.length co50) t286) ∧ Aside0 (Kd.R (Kd.int .i64) 3 wc w.heap.size (fun k_=>some k_ ≠ ((.slice Ao8 t263.length co8) : Value).ownBlock ∧ some k_ ≠ ((.slice Ao31 t277.length co31) : Value).ownBlock) v292 t289) ∧ Aside0 (Below w.heap.size w wc))
                   case first =>
                    have H:=HC48.out
                    clear HC48
                    by_cases c53 : t291 = 0
                    ·rw [if_pos c53] at H
                     have c53b0 : (t291 == 0) = true:=beq_iff_eq.mpr c53
                     have c53b1 : (t291 != 0) = false:=bne_eq_false_iff_eq.mpr c53
                     clear c53
                     (first | rw [c53b0] | (simp only [i64_w, i32_w];rw [c53b0]) | rw [c53b1] | skip)
                     by_cases c54 : t295 = 0
                     ·rw [if_pos c54] at H
                      have c54b0 : (t295 == 0) = true:=beq_iff_eq.mpr c54
                      have c54b1 : (t295 != 0) = false:=bne_eq_false_iff_eq.mpr c54
                      clear c54
                      by_cases c55 : t290 = 0
                      ·rw [if_pos c55] at H
                       have c55b0 : (t290 == 0) = true:=beq_iff_eq.mpr c55
                       have c55b1 : (t290 != 0) = false:=bne_eq_false_iff_eq.mpr c55
                       clear c55
                       by_cases c56 : t294 = (wrap64 ((wrap64 (Int.tmod (IntKind.u64.wrap (rd l0 x9_1)) 100000000000)) - t272))
                       ·rw [if_pos c56] at H
                        have c56b0 : (t294 == (wrap64 ((wrap64 (Int.tmod (IntKind.u64.wrap (rd l0 x9_1)) 100000000000)) - t272))) = true:=beq_iff_eq.mpr c56
                        have c56b1 : (t294 != (wrap64 ((wrap64 (Int.tmod (IntKind.u64.wrap (rd l0 x9_1)) 100000000000)) - t272))) = false:=bne_eq_false_iff_eq.mpr c56
                        clear c56
                        have H':=Aside0.mk H
                        clear H
                        obtain ⟨Ao57, co57, eo57⟩:=Kd.R_slice HO293.out
                        subst eo57
                        go_wp2
                        repeat (go_quiet (fail);try go_wp2)
                        go_meet
                        case rel=>exact ⟨_, (((t289.length : Int) != (t286.length : Int))), (by first | rfl | (simp;done) | (simp [*];done)), H', ⟨by have:=HK1.out;have:=HJ10.out;have:=HJ16.out;have:=HJ27.out;have:=HK5.out;first | omega | exact Nat.le_refl _⟩, ⟨by (with_reducible repeat (first | apply Kd.R_alloc | apply Kd.R_drewN | apply Kd.R_drew));exact Kd.R_mono HO_7.out (fun _ hk=>⟨hk.1.1, hk.2⟩)⟩, ⟨by (with_reducible repeat (first | apply Kd.R_alloc | apply Kd.R_drewN | apply Kd.R_drew));exact Kd.R_mono HO_8.out (fun _ hk=>⟨hk.1.1, hk.2⟩)⟩, ⟨by (with_reducible repeat (first | apply Kd.R_alloc | apply Kd.R_drewN | apply Kd.R_drew));exact HO288.out⟩, ⟨by (with_reducible repeat (first | apply Kd.R_alloc | apply Kd.R_drewN | apply Kd.R_drew));exact Kd.R_mono HO293.out (fun _ hk=>⟨hk.1.1.2, hk.1.2⟩)⟩, ⟨by repeat (first | (with_reducible first | exact HB.out | apply below_alloc | apply pw_below_drewN | apply below_drew1) | exact HB.out)⟩⟩
                       ·rw [if_neg c56] at H
                        have c56b0 : (t294 == (wrap64 ((wrap64 (Int.tmod (IntKind.u64.wrap (rd l0 x9_1)) 100000000000)) - t272))) = false:=beq_eq_false_iff_ne.mpr c56
                        have c56b1 : (t294 != (wrap64 ((wrap64 (Int.tmod (IntKind.u64.wrap (rd l0 x9_1)) 100000000000)) - t272))) = true:=bne_iff_ne.mpr c56
                        have H':=Aside0.mk H
                        clear H
                        go_wp2
                        repeat (go_quiet (fail);try go_wp2)
                        go_meet
                        case rel=>exact ⟨_, (true), (by first | rfl | (simp;done) | (simp [*];done)), H', ⟨by have:=HK1.out;have:=HJ10.out;have:=HJ16.out;have:=HJ27.out;have:=HK5.out;first | omega | exact Nat.le_refl _⟩, ⟨by (with_reducible repeat (first | apply Kd.R_alloc | apply Kd.R_drewN | apply Kd.R_drew));exact Kd.R_mono HO_7.out (fun _ hk=>⟨hk.1.1, hk.2⟩)⟩, ⟨by (with_reducible repeat (first | apply Kd.R_alloc | apply Kd.R_drewN | apply Kd.R_drew));exact Kd.R_mono HO_8.out (fun _ hk=>⟨hk.1.1, hk.2⟩)⟩, ⟨by (with_reducible repeat (first | apply Kd.R_alloc | apply Kd.R_drewN | apply Kd.R_drew));exact HO288.out⟩, ⟨by (with_reducible repeat (first | apply Kd.R_alloc | apply Kd.R_drewN | apply Kd.R_drew));exact Kd.R_mono HO293.out (fun _ hk=>⟨hk.1.1.2, hk.1.2⟩)⟩, ⟨by repeat (first | (with_reducible first | exact HB.out | apply below_alloc | apply pw_below_drewN | apply below_drew1) | exact HB.out)⟩⟩
                      ·rw [if_neg c55] at H
                       have c55b0 : (t290 == 0) = false:=beq_eq_false_iff_ne.mpr c55
                       have c55b1 : (t290 != 0) = true:=bne_iff_ne.mpr c55
                       have H':=Aside0.mk H
                       clear H
                       go_wp2
                       repeat (go_quiet (fail);try go_wp2)
                       go_meet
                       case rel=>exact ⟨_, (true), (by first | rfl | (simp;done) | (simp [*];done)), H', ⟨by have:=HK1.out;have:=HJ10.out;have:=HJ16.out;have:=HJ27.out;have:=HK5.out;first | omega | exact Nat.le_refl _⟩, ⟨by (with_reducible repeat (first | apply Kd.R_alloc | apply Kd.R_drewN | apply Kd.R_drew));exact Kd.R_mono HO_7.out (fun _ hk=>⟨hk.1.1, hk.2⟩)⟩, ⟨by (with_reducible repeat (first | apply Kd.R_alloc | apply Kd.R_drewN | apply Kd.R_drew));exact Kd.R_mono HO_8.out (fun _ hk=>⟨hk.1.1, hk.2⟩)⟩, ⟨by (with_reducible repeat (first | apply Kd.R_alloc | apply Kd.R_drewN | apply Kd.R_drew));exact HO288.out⟩, ⟨by (with_reducible repeat (first | apply Kd.R_alloc | apply Kd.R_drewN | apply Kd.R_drew));exact Kd.R_mono HO293.out (fun _ hk=>⟨hk.1.1.2, hk.1.2⟩)⟩, ⟨by repeat (first | (with_reducible first | exact HB.out | apply below_alloc | apply pw_below_drewN | apply below_drew1) | exact HB.out)⟩⟩
                     ·rw [if_neg c54] at H
                      have c54b0 : (t295 == 0) = false:=beq_eq_false_iff_ne.mpr c54
                      have c54b1 : (t295 != 0) = true:=bne_iff_ne.mpr c54
                      have H':=Aside0.mk H
                      clear H
                      go_wp2
                      repeat (go_quiet (fail);try go_wp2)
                      go_meet
                      case rel=>exact ⟨_, (true), (by first | rfl | (simp;done) | (simp [*];done)), H', ⟨by have:=HK1.out;have:=HJ10.out;have:=HJ16.out;have:=HJ27.out;have:=HK5.out;first | omega | exact Nat.le_refl _⟩, ⟨by (with_reducible repeat (first | apply Kd.R_alloc | apply Kd.R_drewN | apply Kd.R_drew));exact Kd.R_mono HO_7.out (fun _ hk=>⟨hk.1.1, hk.2⟩)⟩, ⟨by (with_reducible repeat (first | apply Kd.R_alloc | apply Kd.R_drewN | apply Kd.R_drew));exact Kd.R_mono HO_8.out (fun _ hk=>⟨hk.1.1, hk.2⟩)⟩, ⟨by (with_reducible repeat (first | apply Kd.R_alloc | apply Kd.R_drewN | apply Kd.R_drew));exact HO288.out⟩, ⟨by (with_reducible repeat (first | apply Kd.R_alloc | apply Kd.R_drewN | apply Kd.R_drew));exact Kd.R_mono HO293.out (fun _ hk=>⟨hk.1.1.2, hk.1.2⟩)⟩, ⟨by repeat (first | (with_reducible first | exact HB.out | apply below_alloc | apply pw_below_drewN | apply below_drew1) | exact HB.out)⟩⟩
                    ·rw [if_neg c53] at H
                     have c53b0 : (t291 == 0) = false:=beq_eq_false_iff_ne.mpr c53
                     have c53b1 : (t291 != 0) = true:=bne_iff_ne.mpr c53
                     (first | rw [c53b0] | (simp only [i64_w, i32_w];rw [c53b0]) | rw [c53b1] | skip)
                     have H':=Aside0.mk H
                     clear H
                     go_wp2
                     repeat (go_quiet (fail);try go_wp2)
                     go_meet
                     case rel=>exact ⟨_, (true), (by first | rfl | (simp;done) | (simp [*];done)), H', ⟨by have:=HK1.out;have:=HJ10.out;have:=HJ16.out;have:=HJ27.out;have:=HK5.out;first | omega | exact Nat.le_refl _⟩, ⟨by (with_reducible repeat (first | apply Kd.R_alloc | apply Kd.R_drewN | apply Kd.R_drew));exact Kd.R_mono HO_7.out (fun _ hk=>⟨hk.1.1, hk.2⟩)⟩, ⟨by (with_reducible repeat (first | apply Kd.R_alloc | apply Kd.R_drewN | apply Kd.R_drew));exact Kd.R_mono HO_8.out (fun _ hk=>⟨hk.1.1, hk.2⟩)⟩, ⟨by (with_reducible repeat (first | apply Kd.R_alloc | apply Kd.R_drewN | apply Kd.R_drew));exact HO288.out⟩, ⟨by (with_reducible repeat (first | apply Kd.R_alloc | apply Kd.R_drewN | apply Kd.R_drew));exact Kd.R_mono HO293.out (fun _ hk=>⟨hk.1.1.2, hk.1.2⟩)⟩, ⟨by repeat (first | (with_reducible first | exact HB.out | apply below_alloc | apply pw_below_drewN | apply below_drew1) | exact HB.out)⟩⟩
                   case rest =>
                    clear HC48
                    try clear c1
                    try clear c2
                    try clear p2
                    try clear q2
                    try clear hx2
                    try clear c3
                    try clear c4
                    try clear c5
                    try clear c5b0
                    try clear c5b1
                    try clear c6
                    try clear c6b0
                    try clear c6b1
                    try clear p6
                    try clear c12
                    try clear c12b0
                    try clear c13
                    try clear c14
                    try clear c14b0
                    try clear c15
                    try clear c15b0
                    try clear c20
                    try clear c20b0
                    try clear c20b1
                    try clear c21
                    try clear c21b0
                    try clear c21b1
                    try clear c21b2
                    try clear c25
                    try clear p27
                    try clear q27
                    try clear hx27
                    try clear p28
                    try clear q28
                    try clear hx28
                    try clear c33
                    try clear c33b0
                    try clear c33b1
                    try clear c34
                    try clear c34b0
                    try clear c34b1
                    try clear c35
                    try clear c35b0
                    try clear c35b1
                    try clear c35b2
                    try clear c36
                    try clear c36b0
                    try clear c37
                    try clear c38
                    try clear c38b0
                    try clear c39
                    try clear c39b0
                    try clear c40
                    try clear c40b0
                    try clear c41
                    try clear c41b0
                    try clear c42
                    try clear c42b0
                    try clear c43
                    try clear c43b0
                    try clear c44
                    try clear c44b0
                    try clear c53
                    try clear c53b0
                    try clear c53b1
                    try clear c54
                    try clear c54b0
                    try clear c54b1
                    try clear c55
                    try clear c55b0
                    try clear c55b1
                    try clear c56
                    try clear c56b0
                    try clear c56b1
                    try clear hx270_0
                    try clear hx283_0
                    try clear hx284_0
                    try clear hx285_0
                    try clear p2
                    try clear p27
                    try clear p270
                    try clear p283
                    try clear p284
                    try clear p285
                    try clear p6
                    try clear q2
                    try clear q27
                    try clear q270
                    try clear q283
                    try clear q284
                    try clear q285
                    obtain ⟨kq, x177_47, rfl, HA, HJ47, HO_7, HO_8, HO_19, HO_20, HB⟩:=hcut
                    cases kq with
                    | zero=>exact absurd HA.out (by simp [contangotop_TopAssess.j5])
                    | succ kj47 =>
                     have H:=HA.out
                     clear HA
                     simp only [contangotop_TopAssess.j5] at H
                     by_cases c58 : x177_47 = true
                     ·subst c58
                      have H1 : (none) = some r:=by rw [if_pos rfl] at H;exact H
                      clear H
                      have H:=H1
                      clear H1
                      exact absurd H (by simp)
                     ·as_aux_lemma=>
                      replace c58:=Bool.eq_false_iff.mpr c58
                      subst c58
                      have H1 : (contangotop_TopAssess.l2 kj47 l0 (wrap64 (Int.tmod (IntKind.u64.wrap (a2)) 10001)) t263 t277 x9_1 t286 t289 (t286.length : Int) 0) = some r:=by rw [if_neg (show ¬ (false = true) by decide)] at H;exact H
                      clear H
                      have H:=H1
                      clear H1
                      have H':=Aside0.mk H
                      clear H
                      go_wp2
                      repeat (go_quiet (fail);try go_wp2)
                      go_loopg [180] kj47 (fun kq v180 w'=>∃ (x180_7 : Int), v180 = .int .i64 x180_7 ∧ Aside0 (contangotop_TopAssess.l2 kq l0 (wrap64 (Int.tmod (IntKind.u64.wrap (a2)) 10001)) t263 t277 x9_1 t286 t289 (t286.length : Int) x180_7 = some r) ∧ Aside0 (kq ≤ kj47) ∧ Aside0 (Kd.R (Kd.int .i64) 3 w' w.heap.size (fun k_=>some k_ ≠ ((.slice Ao31 t277.length co31) : Value).ownBlock ∧ some k_ ≠ (v292 : Value).ownBlock) (.slice Ao8 t263.length co8) t263) ∧ Aside0 (Kd.R (Kd.int .i64) 3 w' w.heap.size (fun k_=>some k_ ≠ ((.slice Ao8 t263.length co8) : Value).ownBlock ∧ some k_ ≠ (v292 : Value).ownBlock) (.slice Ao31 t277.length co31) t277) ∧ Aside0 (Kd.R k38 38 w' w.heap.size (fun _=>True) (.slice Ao50 t286.length co50) t286) ∧ Aside0 (Kd.R (Kd.int .i64) 3 w' w.heap.size (fun k_=>some k_ ≠ ((.slice Ao8 t263.length co8) : Value).ownBlock ∧ some k_ ≠ ((.slice Ao31 t277.length co31) : Value).ownBlock) v292 t289) ∧ Aside0 (Below w.heap.size w w'))
                      case atStart=>exact ⟨(0), (by first | rfl | (simp;done) | (simp [*];done)), H', ⟨Nat.le_refl _⟩, ⟨by (with_reducible repeat (first | apply Kd.R_alloc | apply Kd.R_drewN | apply Kd.R_drew));exact HO_7.out⟩, ⟨by (with_reducible repeat (first | apply Kd.R_alloc | apply Kd.R_drewN | apply Kd.R_drew));exact HO_8.out⟩, ⟨by (with_reducible repeat (first | apply Kd.R_alloc | apply Kd.R_drewN | apply Kd.R_drew));exact HO_19.out⟩, ⟨by (with_reducible repeat (first | apply Kd.R_alloc | apply Kd.R_drewN | apply Kd.R_drew));exact HO_20.out⟩, ⟨by repeat (first | (with_reducible first | exact HB.out | apply below_alloc | apply pw_below_drewN | apply below_drew1) | exact HB.out)⟩⟩
                      case round =>
                       clear H'
                       try clear c1
                       try clear c2
                       try clear p2
                       try clear q2
                       try clear hx2
                       try clear c3
                       try clear c4
                       try clear c5
                       try clear c5b0
                       try clear c5b1
                       try clear c6
                       try clear c6b0
                       try clear c6b1
                       try clear p6
                       try clear c12
                       try clear c12b0
                       try clear c13
                       try clear c14
                       try clear c14b0
                       try clear c15
                       try clear c15b0
                       try clear c20
                       try clear c20b0
                       try clear c20b1
                       try clear c21
                       try clear c21b0
                       try clear c21b1
                       try clear c21b2
                       try clear c25
                       try clear p27
                       try clear q27
                       try clear hx27
                       try clear p28
                       try clear q28
                       try clear hx28
                       try clear c33
                       try clear c33b0
                       try clear c33b1
                       try clear c34
                       try clear c34b0
                       try clear c34b1
                       try clear c35
                       try clear c35b0
                       try clear c35b1
                       try clear c35b2
                       try clear c36
                       try clear c36b0
                       try clear c37
                       try clear c38
                       try clear c38b0
                       try clear c39
                       try clear c39b0
                       try clear c40
                       try clear c40b0
                       try clear c41
                       try clear c41b0
                       try clear c42
                       try clear c42b0
                       try clear c43
                       try clear c43b0
                       try clear c44
                       try clear c44b0
                       try clear c53
                       try clear c53b0
                       try clear c53b1
                       try clear c54
                       try clear c54b0
                       try clear c54b1
                       try clear c55
                       try clear c55b0
                       try clear c55b1
                       try clear c56
                       try clear c56b0
                       try clear c56b1
                       try clear c58
                       try clear hx270_0
                       try clear hx283_0
                       try clear hx284_0
                       try clear hx285_0
                       try clear p2
                       try clear p27
                       try clear p270
                       try clear p28
                       try clear p283
                       try clear p284
                       try clear p285
                       try clear p6
                       try clear q2
                       try clear q27
                       try clear q270
                       try clear q28
                       try clear q283
                       try clear q284
                       try clear q285
                       obtain ⟨x180_7, rfl, HA, HK7, HO_7, HO_8, HO_19, HO_20, HB⟩:=hrel
                       cases gk with
                       | zero=>exact absurd HA.out (by simp [contangotop_TopAssess.l2])
                       | succ k7 =>
                        have H:=HA.out
                        clear HA
                        simp only [contangotop_TopAssess.l2] at H
                        by_cases c59 : x180_7 < (t286.length : Int)
                        ·rw [if_pos c59] at H
                         have c59b0 : decide (x180_7 < (t286.length : Int)) = true:=decide_eq_true c59
                         clear c59
                         by_cases c60 : 0 ≤ x180_7
                         ·rw [if_pos c60] at H
                          have c60b0 : decide (0 ≤ x180_7) = true:=decide_eq_true c60
                          clear c60
                          by_cases c61 : x180_7 < (t289.length : Int)
                          ·rw [if_pos c61] at H
                           have c61b0 : decide (x180_7 < (t289.length : Int)) = true:=decide_eq_true c61
                           clear c61
                           by_cases c62 : x180_7 < (t286.length : Int)
                           ·rw [if_pos c62] at H
                            have c62b0 : decide (x180_7 < (t286.length : Int)) = true:=decide_eq_true c62
                            clear c62
                            by_cases c63 : (rd t289 x180_7) = ((rd_T38 t286 x180_7).f3)
                            ·rw [if_pos c63] at H
                             have c63b0 : ((rd t289 x180_7) == ((rd_T38 t286 x180_7).f3)) = true:=beq_iff_eq.mpr c63
                             have c63b1 : ((rd t289 x180_7) != ((rd_T38 t286 x180_7).f3)) = false:=bne_eq_false_iff_eq.mpr c63
                             clear c63
                             have H':=Aside0.mk H
                             clear H
                             obtain ⟨Ao64, co64, eo64⟩:=Kd.R_slice HO_20.out
                             subst eo64
                             have p296 : 0 ≤ (x180_7 : Int):=of_decide_eq_true (by first | (with_reducible assumption) | assumption)
                             have q296 : x180_7 < (t289.length : Int):=of_decide_eq_true (by first | (with_reducible assumption) | assumption)
                             obtain ⟨ad296, e296, hx296_0⟩:=Kd.at_int (Kd.R_reads' HO_20.out).2.2 x180_7 p296 q296
                             cases e296
                             replace p296:=eq_true p296
                             replace q296:=eq_true q296
                             have p297 : 0 ≤ (x180_7 : Int):=of_decide_eq_true (by first | (with_reducible assumption) | assumption)
                             have q297 : x180_7 < (t286.length : Int):=of_decide_eq_true (by first | (with_reducible assumption) | assumption)
                             obtain ⟨ad297, e297, hx297_0, hx297_1, hx297_2, hx297_3⟩:=at_T38 (Kd.R_reads' HO_19.out).2.2 x180_7 p297 q297
                             cases e297
                             replace p297:=eq_true p297
                             replace q297:=eq_true q297
                             go_wp2
                             repeat (go_quiet (fail);try go_wp2)
                             go_roundg k7
                             case measure=>have:=HK1.out;have:=HJ10.out;have:=HJ16.out;have:=HJ27.out;have:=HK5.out;have:=HJ47.out;have:=HK7.out;omega
                             case rel=>exact ⟨(wrap64 (x180_7 + 1)), (by first | rfl | (simp;done) | (simp [*];done)), H', ⟨by have:=HK1.out;have:=HJ10.out;have:=HJ16.out;have:=HJ27.out;have:=HK5.out;have:=HJ47.out;have:=HK7.out;omega⟩, ⟨by (with_reducible repeat (first | apply Kd.R_alloc | apply Kd.R_drewN | apply Kd.R_drew));exact HO_7.out⟩, ⟨by (with_reducible repeat (first | apply Kd.R_alloc | apply Kd.R_drewN | apply Kd.R_drew));exact HO_8.out⟩, ⟨by (with_reducible repeat (first | apply Kd.R_alloc | apply Kd.R_drewN | apply Kd.R_drew));exact HO_19.out⟩, ⟨by (with_reducible repeat (first | apply Kd.R_alloc | apply Kd.R_drewN | apply Kd.R_drew));exact HO_20.out⟩, ⟨by repeat (first | (with_reducible first | exact HB.out | apply below_alloc | apply pw_below_drewN | apply below_drew1) | exact HB.out)⟩⟩
                            ·rw [if_neg c63] at H
                             exact absurd H (by simp)
                           ·rw [if_neg c62] at H
                            exact absurd H (by simp)
                          ·rw [if_neg c61] at H
                           exact absurd H (by simp)
                         ·rw [if_neg c60] at H
                          exact absurd H (by simp)
                        ·rw [if_neg c59] at H
                         have c59b0 : decide (x180_7 < (t286.length : Int)) = false:=decide_eq_false c59
                         clear c59
                         have H':=Aside0.mk H
                         clear H
                         go_wp2
                         repeat (go_quiet (fail);try go_wp2)
                         go_roundg k7
                         case measure=>have:=HK1.out;have:=HJ10.out;have:=HJ16.out;have:=HJ27.out;have:=HK5.out;have:=HJ47.out;have:=HK7.out;omega
                         case rel=>exact ⟨(t277), (wrap64 (x9_1 + 1)), (by first | rfl | (simp;done) | (simp [*];done)), H', ⟨by have:=HK1.out;have:=HJ10.out;have:=HJ16.out;have:=HJ27.out;have:=HK5.out;have:=HJ47.out;have:=HK7.out;omega⟩, ⟨by (with_reducible repeat (first | apply Kd.R_alloc | apply Kd.R_drewN | apply Kd.R_drew));exact Kd.R_mono HO_7.out (fun _ hk=>hk.1)⟩, ⟨by (with_reducible repeat (first | apply Kd.R_alloc | apply Kd.R_drewN | apply Kd.R_drew));exact Kd.R_mono HO_8.out (fun _ hk=>hk.1)⟩, ⟨by repeat (first | (with_reducible first | exact HB.out | apply below_alloc | apply pw_below_drewN | apply below_drew1) | exact HB.out)⟩⟩
         ·rw [if_neg c15] at H
          exact absurd H (by simp)
        ·rw [if_neg c14] at H
         exact absurd H (by simp)
       ·replace c13:=Bool.eq_false_iff.mpr c13
        subst c13
        have H1 : ((contangotop_goes24.f kj10).bind fun t269=>(some t269)) = some r:=by rw [if_neg (show ¬ (false = true) by decide)] at H;exact H
        clear H
        have H:=H1
        clear H1
        replace H:=Option.bind_eq_some_iff.mp H
        obtain ⟨t269, A650, H⟩:=H
        replace H : (some t269) = some r:=H
        have A65:=Aside0.mk A650
        clear A650
        obtain rfl:=Option.some.inj H
        go_wp2_with (first | (go_at_call 12;(with_reducible refine (contangotop_goes24.calls kj10  t269 _ A65.out).mono ?_);rintro e w66 ⟨rfl, hb⟩;have n0_:=Aside0.mk (Kd.R_below (by (with_reducible repeat (first | apply Kd.R_alloc | apply Kd.R_drewN | apply Kd.R_drew));exact HO_7.out) hb);have n1_:=Aside0.mk (Kd.R_below (by (with_reducible repeat (first | apply Kd.R_alloc | apply Kd.R_drewN | apply Kd.R_drew));exact HO_8.out) hb);have n2_:=Aside0.mk (below_step (by repeat (first | (with_reducible first | exact HB.out | apply below_alloc | apply pw_below_drewN | apply below_drew1) | exact HB.out)) hb);clear HO_7 HO_8 HB;have HO_7:=n0_;have HO_8:=n1_;have HB:=n2_;clear n0_ n1_ n2_;(try clear hb);(try clear hb2);(try clear hk);(try clear hi)))
        repeat (go_quiet (first | (go_at_call 12;(with_reducible refine (contangotop_goes24.calls kj10  t269 _ A65.out).mono ?_);rintro e w66 ⟨rfl, hb⟩;have n0_:=Aside0.mk (Kd.R_below (by (with_reducible repeat (first | apply Kd.R_alloc | apply Kd.R_drewN | apply Kd.R_drew));exact HO_7.out) hb);have n1_:=Aside0.mk (Kd.R_below (by (with_reducible repeat (first | apply Kd.R_alloc | apply Kd.R_drewN | apply Kd.R_drew));exact HO_8.out) hb);have n2_:=Aside0.mk (below_step (by repeat (first | (with_reducible first | exact HB.out | apply below_alloc | apply pw_below_drewN | apply below_drew1) | exact HB.out)) hb);clear HO_7 HO_8 HB;have HO_7:=n0_;have HO_8:=n1_;have HB:=n2_;clear n0_ n1_ n2_;(try clear hb);(try clear hb2);(try clear hk);(try clear hi)));try go_wp2_with (first | (go_at_call 12;(with_reducible refine (contangotop_goes24.calls kj10  t269 _ A65.out).mono ?_);rintro e w66 ⟨rfl, hb⟩;have n0_:=Aside0.mk (Kd.R_below (by (with_reducible repeat (first | apply Kd.R_alloc | apply Kd.R_drewN | apply Kd.R_drew));exact HO_7.out) hb);have n1_:=Aside0.mk (Kd.R_below (by (with_reducible repeat (first | apply Kd.R_alloc | apply Kd.R_drewN | apply Kd.R_drew));exact HO_8.out) hb);have n2_:=Aside0.mk (below_step (by repeat (first | (with_reducible first | exact HB.out | apply below_alloc | apply pw_below_drewN | apply below_drew1) | exact HB.out)) hb);clear HO_7 HO_8 HB;have HO_7:=n0_;have HO_8:=n1_;have HB:=n2_;clear n0_ n1_ n2_;(try clear hb);(try clear hb2);(try clear hk);(try clear hi))))
        go_ret
        exact ⟨by first | rfl | (simp [errW_none, errW_some] <;> rfl) | (simp [*, errW_none, errW_some] <;> rfl), by repeat (first | (with_reducible first | exact HB.out | apply below_alloc | apply pw_below_drewN | apply below_drew1) | exact HB.out)⟩
  ·rw [if_neg c6] at H
   exact absurd H (by simp)
 ·rw [if_neg c5] at H
  exact absurd H (by simp)

/-- THE ONE PURE STATEMENT of contangotop_TopAssess: yours. -/
def contangotop_TopAssess.Pure : Prop:=∀ (l0 : List Int) (l1 : List Int) (a2 : Int), l0.length ≤ maxLen → l0.length * 8 ≤ 140737488351232 → (∀ x ∈ l0, (Lit.int .i64 x).wf = true) → l1.length ≤ maxLen → l1.length * 8 ≤ 140737488351232 → (∀ x ∈ l1, (Lit.int .i64 x).wf = true) → (Lit.int .i64 a2).wf = true → ∃ k, contangotop_TopAssess.f k l0 l1 a2 = some true
theorem contangotop_TopAssess.walk (P : contangotop_TopAssess.Pure) (a0 : Option Addr) (len0 cap0 : Nat) (z0 : List Int) (a1 : Option Addr) (len1 cap1 : Nat) (z1 : List Int) (a2 : Int) (w : World) (w0 : (a0 = none ∧ len0 = 0 ∧ cap0 = 0 ∧ z0 = []) ∨ ∃ x, a0 = some x ∧ len0 ≤ cap0 ∧ cap0 ≤ maxLen ∧ z0.length = cap0 ∧ (∀ i, i < z0.length → w.cell? (x.add i) = some (.int .i64 (z0.getD i 0))) ∧ ∀ n ∈ z0, (Lit.int .i64 n).wf = true) (y0 : len0 * 8 ≤ 140737488351232) (w1 : (a1 = none ∧ len1 = 0 ∧ cap1 = 0 ∧ z1 = []) ∨ ∃ x, a1 = some x ∧ len1 ≤ cap1 ∧ cap1 ≤ maxLen ∧ z1.length = cap1 ∧ (∀ i, i < z1.length → w.cell? (x.add i) = some (.int .i64 (z1.getD i 0))) ∧ ∀ n ∈ z1, (Lit.int .i64 n).wf = true) (y1 : len1 * 8 ≤ 140737488351232) (w2 : (Lit.int .i64 a2).wf = true) :
  Calls Try.prog 3 #[.slice a0 len0 cap0, .slice a1 len1 cap1, .int .i64 a2] w fun e w'=>e = .returned (.bool true) ∧ Below w.heap.size w w':=by
 obtain ⟨l0, rfl, hr0, hm0, hw0, hc0⟩:=ReadsInt.ofRowC w0
 obtain ⟨l1, rfl, hr1, hm1, hw1, hc1⟩:=ReadsInt.ofRowC w1
 obtain ⟨k, h⟩:=P l0 l1 a2 hm0 y0 hw0 hm1 y1 hw1 w2
 refine (contangotop_TopAssess.calls k _ _ l0 _ _ l1 a2 true w (Kd.C_of_reads (d:=(0 : Int)) (h1:=fun _=>rfl) hr0) hc0 (Kd.C_of_reads (d:=(0 : Int)) (h1:=fun _=>rfl) hr1) hc1 h).mono ?_
 rintro e w' ⟨rfl, hd⟩
 exact ⟨rfl, hd⟩

end Go.Proofs.Ytmhjomahikaphaa.PTopAssess
