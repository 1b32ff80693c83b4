/- Laid for this claim by a program of this session's (wip/mkprint.py, wip/ext.py); not trusted: Lean checks it. -/
import Derived.Test.YthoemohppeplpaaPHaircutAlikex0
import Derived.Test.YthoemohppeplpaaPHaircutAlikex1
import Derived.Test.YthoemohppeplpaaPHaircutAlikex5
import Derived.Test.YthoemohppeplpaaPHaircutAlikex7
namespace Go.Proofs.Ythoemohppeplpaa.PHaircutAlike
open Go.RowKit Go.Proofs.YthoemohppeplpaaW.PrintWords Go.Proofs.YthoemohppeplpaaW.PrintLast Go.Proofs.YthoemohppeplpaaW.PrintMore
attribute [local go_sem] max2_int min2_int max_two min_two max_three min_three max_four min_four   -- for this text's walks alone
set_option linter.unusedVariables false
set_option linter.unusedSimpArgs false

attribute [local go_sem high] eqA35
/-! ### contangolaw49_HaircutAlike: function 6 -/
mutual
def contangolaw49_HaircutAlike.j1 : Nat → Int → List (S35) → Int → Option (Bool)
  | 0, _, _, _ => none
  | k + 1, x0, x5, x6 => if (IntKind.u64.wrap (wrap64 (x6 + 1))) = 0 then (none) else ((haircut_Take.f k (wrap64 (Int.tmod (IntKind.u64.wrap (x0)) (IntKind.u64.wrap (wrap64 (x6 + 1))))) x5 1).bind fun bt214 => (if bt214.2.2 = 0 then (contangolaw49_HaircutAlike.j2 k (wrap64 (Int.tmod (IntKind.u64.wrap (x0)) (IntKind.u64.wrap (wrap64 (x6 + 1))))) x5 x6 bt214.1 (bt214.2.1 != (wrap64 (Int.tmod (IntKind.u64.wrap (x0)) (IntKind.u64.wrap (wrap64 (x6 + 1))))))) else (contangolaw49_HaircutAlike.j2 k (wrap64 (Int.tmod (IntKind.u64.wrap (x0)) (IntKind.u64.wrap (wrap64 (x6 + 1))))) x5 x6 bt214.1 true)))
def contangolaw49_HaircutAlike.j2 : Nat → Int → List (S35) → Int → List (S35) → Bool → Option (Bool)
  | 0, _, _, _, _, _ => none
  | k + 1, x0, x5, x6, x9, x72 => if x72 = true then (none) else (contangolaw49_HaircutAlike.l1 k x0 x5 x6 x9 0 (([] : List Int)) 0)
def contangolaw49_HaircutAlike.l1 : Nat → Int → List (S35) → Int → List (S35) → Int → List Int → Int → Option (Bool)
  | 0, _, _, _, _, _, _, _ => none
  | k + 1, x0, x5, x6, x9, x12, x13, x14 => if x14 < (x5.length : Int) then (if 0 ≤ x14 then (if x12 < (x9.length : Int) then (if 0 ≤ x12 then (contangolaw49_HaircutAlike.j4 k x0 x5 x6 x9 x12 x13 x14 ((rd_T35 x5 x14).f2) 0 (decide (((rd_T35 x9 x12).f2) > 0))) else (none)) else (contangolaw49_HaircutAlike.j4 k x0 x5 x6 x9 x12 x13 x14 ((rd_T35 x5 x14).f2) 0 false)) else (none)) else (if x12 = (x9.length : Int) then ((contangolaw49_goes.f k).bind fun t222 => (some t222)) else (none))
def contangolaw49_HaircutAlike.j4 : Nat → Int → List (S35) → Int → List (S35) → Int → List Int → Int → Int → Int → Bool → Option (Bool)
  | 0, _, _, _, _, _, _, _, _, _, _ => none
  | k + 1, x0, x5, x6, x9, x12, x13, x14, x15, x16, x96 => if x96 = true then (if 0 ≤ x12 then (if x12 < (x9.length : Int) then (contangolaw49_HaircutAlike.j5 k x0 x5 x6 x9 (wrap64 (x12 + 1)) x13 x14 x15 ((rd_T35 x9 x12).f2)) else (none)) else (none)) else (contangolaw49_HaircutAlike.j5 k x0 x5 x6 x9 x12 x13 x14 x15 x16)
def contangolaw49_HaircutAlike.j5 : Nat → Int → List (S35) → Int → List (S35) → Int → List Int → Int → Int → Int → Option (Bool)
  | 0, _, _, _, _, _, _, _, _, _ => none
  | k + 1, x0, x5, x6, x9, x12, x13, x14, x15, x16 => if x12 ≥ (x9.length : Int) then (contangolaw49_HaircutAlike.j6 k x0 x5 x6 x9 x12 x13 x14 x15 x16 true) else (if 0 ≤ x12 then (if x12 < (x9.length : Int) then (if 0 ≤ (wrap64 (x14 + 1)) then (if (wrap64 (x14 + 1)) < (x5.length : Int) then (contangolaw49_HaircutAlike.j6 k x0 x5 x6 x9 x12 x13 x14 x15 x16 (!((((rd_T35 x9 x12).f0).toList) == (((rd_T35 x5 (wrap64 (x14 + 1))).f0).toList)) || (!(((rd_T35 x9 x12).f1) == ((rd_T35 x5 (wrap64 (x14 + 1))).f1)) || (!(((rd_T35 x9 x12).f2) == ((rd_T35 x5 (wrap64 (x14 + 1))).f2)) || (!(((rd_T35 x9 x12).f3) == ((rd_T35 x5 (wrap64 (x14 + 1))).f3))))))) else (none)) else (none)) else (none)) else (none))
def contangolaw49_HaircutAlike.j6 : Nat → Int → List (S35) → Int → List (S35) → Int → List Int → Int → Int → Int → Bool → Option (Bool)
  | 0, _, _, _, _, _, _, _, _, _, _ => none
  | k + 1, x0, x5, x6, x9, x12, x13, x14, x15, x16, x119 => if x119 = true then (none) else (if (wrap64 ((wrap64 (x15 - x16)) * x6)) > (wrap64 ((wrap64 (x0 * x15)) + x6)) then (contangolaw49_HaircutAlike.j7 k x0 x5 x6 x9 (wrap64 (x12 + 1)) x13 x14 x15 (wrap64 (x15 - x16)) true) else (contangolaw49_HaircutAlike.j7 k x0 x5 x6 x9 (wrap64 (x12 + 1)) x13 x14 x15 (wrap64 (x15 - x16)) (decide ((wrap64 ((wrap64 (x15 - x16)) * x6)) < (wrap64 ((wrap64 (x0 * x15)) - x6))))))
def contangolaw49_HaircutAlike.j7 : Nat → Int → List (S35) → Int → List (S35) → Int → List Int → Int → Int → Int → Bool → Option (Bool)
  | 0, _, _, _, _, _, _, _, _, _, _ => none
  | k + 1, x0, x5, x6, x9, x12, x13, x14, x15, x17, x144 => if x144 = true then (none) else (contangolaw49_HaircutAlike.l2 k x0 x5 x6 x9 x12 x13 x14 x15 x17 (x13.length : Int) 0)
def contangolaw49_HaircutAlike.l2 : Nat → Int → List (S35) → Int → List (S35) → Int → List Int → Int → Int → Int → Int → Int → Option (Bool)
  | 0, _, _, _, _, _, _, _, _, _, _, _ => none
  | k + 1, x0, x5, x6, x9, x12, x13, x14, x15, x17, x146, x147 => if x147 < x146 then (if 0 ≤ (wrap64 (2 * x147)) then (if (wrap64 (2 * x147)) < (x5.length : Int) then (if ((rd_T35 x5 (wrap64 (2 * x147))).f2) = x15 then (if 0 ≤ x147 then (if x147 < (x13.length : Int) then (if (rd x13 x147) > (wrap64 (x17 + 1)) then (none) else (if x17 > (wrap64 ((rd x13 x147) + 1)) then (none) else (contangolaw49_HaircutAlike.l2 k x0 x5 x6 x9 x12 x13 x14 x15 x17 x146 (wrap64 (x147 + 1))))) else (none)) else (none)) else (contangolaw49_HaircutAlike.l2 k x0 x5 x6 x9 x12 x13 x14 x15 x17 x146 (wrap64 (x147 + 1)))) else (none)) else (none)) else (if x13.length < 17592186044416 then (contangolaw49_HaircutAlike.l1 k x0 x5 x6 x9 x12 (x13 ++ [x17]) (wrap64 (x14 + 2))) else (none))
def contangolaw49_HaircutAlike.l0 : Nat → Int → List Int → List (S35) → Int → Int → Option (Bool)
  | 0, _, _, _, _, _ => none
  | k + 1, x0, x1, x5, x6, x7 => if x7 < (x1.length : Int) then (if x7 < 100 then (if 0 ≤ x7 then (if x5.length < 3518437208883 then ((some (x5 ++ [(⟨(⟨#[109]⟩ : ByteArray), 1, wrap64 (1 + (wrap64 (Int.tmod (IntKind.u64.wrap (rd x1 x7)) 1000000))), 1⟩ : S35)] : List (S35))).bind fun y208 => (if y208.length < 3518437208883 then (contangolaw49_HaircutAlike.l0 k x0 x1 (y208 ++ [(⟨(⟨#[110]⟩ : ByteArray), 1, wrap64 (-(wrap64 (1 + (wrap64 (Int.tmod (IntKind.u64.wrap (rd x1 x7)) 1000000))))), 1⟩ : S35)]) (wrap64 (x6 + (wrap64 (1 + (wrap64 (Int.tmod (IntKind.u64.wrap (rd x1 x7)) 1000000)))))) (wrap64 (x7 + 1))) else (none))) else (none)) else (none)) else (contangolaw49_HaircutAlike.j1 k x0 x5 x6)) else (contangolaw49_HaircutAlike.j1 k x0 x5 x6)
end
def contangolaw49_HaircutAlike.f (k : Nat) (a0 : Int) (l1 : List Int) : Option (Bool) := contangolaw49_HaircutAlike.l0 k a0 l1 (([] : List (S35))) 0 0
theorem contangolaw49_HaircutAlike.mono_l : ∀ k, (∀ y0 y1 y2, LeO (contangolaw49_HaircutAlike.j1 k y0 y1 y2) (contangolaw49_HaircutAlike.j1 (k + 1) y0 y1 y2)) ∧ (∀ y0 y1 y2 y3 y4, LeO (contangolaw49_HaircutAlike.j2 k y0 y1 y2 y3 y4) (contangolaw49_HaircutAlike.j2 (k + 1) y0 y1 y2 y3 y4)) ∧ (∀ y0 y1 y2 y3 y4 y5 y6, LeO (contangolaw49_HaircutAlike.l1 k y0 y1 y2 y3 y4 y5 y6) (contangolaw49_HaircutAlike.l1 (k + 1) y0 y1 y2 y3 y4 y5 y6)) ∧ (∀ y0 y1 y2 y3 y4 y5 y6 y7 y8 y9, LeO (contangolaw49_HaircutAlike.j4 k y0 y1 y2 y3 y4 y5 y6 y7 y8 y9) (contangolaw49_HaircutAlike.j4 (k + 1) y0 y1 y2 y3 y4 y5 y6 y7 y8 y9)) ∧ (∀ y0 y1 y2 y3 y4 y5 y6 y7 y8, LeO (contangolaw49_HaircutAlike.j5 k y0 y1 y2 y3 y4 y5 y6 y7 y8) (contangolaw49_HaircutAlike.j5 (k + 1) y0 y1 y2 y3 y4 y5 y6 y7 y8)) ∧ (∀ y0 y1 y2 y3 y4 y5 y6 y7 y8 y9, LeO (contangolaw49_HaircutAlike.j6 k y0 y1 y2 y3 y4 y5 y6 y7 y8 y9) (contangolaw49_HaircutAlike.j6 (k + 1) y0 y1 y2 y3 y4 y5 y6 y7 y8 y9)) ∧ (∀ y0 y1 y2 y3 y4 y5 y6 y7 y8 y9, LeO (contangolaw49_HaircutAlike.j7 k y0 y1 y2 y3 y4 y5 y6 y7 y8 y9) (contangolaw49_HaircutAlike.j7 (k + 1) y0 y1 y2 y3 y4 y5 y6 y7 y8 y9)) ∧ (∀ y0 y1 y2 y3 y4 y5 y6 y7 y8 y9 y10, LeO (contangolaw49_HaircutAlike.l2 k y0 y1 y2 y3 y4 y5 y6 y7 y8 y9 y10) (contangolaw49_HaircutAlike.l2 (k + 1) y0 y1 y2 y3 y4 y5 y6 y7 y8 y9 y10)) ∧ (∀ y0 y1 y2 y3 y4, LeO (contangolaw49_HaircutAlike.l0 k y0 y1 y2 y3 y4) (contangolaw49_HaircutAlike.l0 (k + 1) y0 y1 y2 y3 y4))
  | 0 => ⟨fun _ _ _ r h => by simp [contangolaw49_HaircutAlike.j1] at h, fun _ _ _ _ _ r h => by simp [contangolaw49_HaircutAlike.j2] at h, fun _ _ _ _ _ _ _ r h => by simp [contangolaw49_HaircutAlike.l1] at h, fun _ _ _ _ _ _ _ _ _ _ r h => by simp [contangolaw49_HaircutAlike.j4] at h, fun _ _ _ _ _ _ _ _ _ r h => by simp [contangolaw49_HaircutAlike.j5] at h, fun _ _ _ _ _ _ _ _ _ _ r h => by simp [contangolaw49_HaircutAlike.j6] at h, fun _ _ _ _ _ _ _ _ _ _ r h => by simp [contangolaw49_HaircutAlike.j7] at h, fun _ _ _ _ _ _ _ _ _ _ _ r h => by simp [contangolaw49_HaircutAlike.l2] at h, fun _ _ _ _ _ r h => by simp [contangolaw49_HaircutAlike.l0] at h⟩
  | k + 1 => by
    obtain ⟨ih0, ih1, ih2, ih3, ih4, ih5, ih6, ih7, ih8⟩ := contangolaw49_HaircutAlike.mono_l k
    refine ⟨?_, ?_, ?_, ?_, ?_, ?_, ?_, ?_, ?_⟩
    · intro y0 y1 y2
      unfold contangolaw49_HaircutAlike.j1
      repeat' first
      | (with_reducible exact ih0 _ _ _)
      | (with_reducible exact ih1 _ _ _ _ _)
      | (with_reducible exact ih2 _ _ _ _ _ _ _)
      | (with_reducible exact ih3 _ _ _ _ _ _ _ _ _ _)
      | (with_reducible exact ih4 _ _ _ _ _ _ _ _ _)
      | (with_reducible exact ih5 _ _ _ _ _ _ _ _ _ _)
      | (with_reducible exact ih6 _ _ _ _ _ _ _ _ _ _)
      | (with_reducible exact ih7 _ _ _ _ _ _ _ _ _ _ _)
      | (with_reducible exact ih8 _ _ _ _ _)
      | (with_reducible exact contangolaw49_goes.mono _)
      | (with_reducible exact haircut_Take.mono _ _ _ _)
      | (with_reducible exact LeO.refl _)
      | (with_reducible exact LeO.none _)
      | (with_reducible refine LeO.ite ?_ ?_)
      | (with_reducible refine LeO.bind ?_ (fun _ => ?_))
      | exact ih0 _ _ _
      | exact ih1 _ _ _ _ _
      | exact ih2 _ _ _ _ _ _ _
      | exact ih3 _ _ _ _ _ _ _ _ _ _
      | exact ih4 _ _ _ _ _ _ _ _ _
      | exact ih5 _ _ _ _ _ _ _ _ _ _
      | exact ih6 _ _ _ _ _ _ _ _ _ _
      | exact ih7 _ _ _ _ _ _ _ _ _ _ _
      | exact ih8 _ _ _ _ _
      | exact contangolaw49_goes.mono _
      | exact haircut_Take.mono _ _ _ _
      | exact LeO.none _
      | refine LeO.ite ?_ ?_
      | refine LeO.bind ?_ (fun _ => ?_)
    · intro y0 y1 y2 y3 y4
      unfold contangolaw49_HaircutAlike.j2
      repeat' first
      | (with_reducible exact ih0 _ _ _)
      | (with_reducible exact ih1 _ _ _ _ _)
      | (with_reducible exact ih2 _ _ _ _ _ _ _)
      | (with_reducible exact ih3 _ _ _ _ _ _ _ _ _ _)
      | (with_reducible exact ih4 _ _ _ _ _ _ _ _ _)
      | (with_reducible exact ih5 _ _ _ _ _ _ _ _ _ _)
      | (with_reducible exact ih6 _ _ _ _ _ _ _ _ _ _)
      | (with_reducible exact ih7 _ _ _ _ _ _ _ _ _ _ _)
      | (with_reducible exact ih8 _ _ _ _ _)
      | (with_reducible exact contangolaw49_goes.mono _)
      | (with_reducible exact haircut_Take.mono _ _ _ _)
      | (with_reducible exact LeO.refl _)
      | (with_reducible exact LeO.none _)
      | (with_reducible refine LeO.ite ?_ ?_)
      | (with_reducible refine LeO.bind ?_ (fun _ => ?_))
      | exact ih0 _ _ _
      | exact ih1 _ _ _ _ _
      | exact ih2 _ _ _ _ _ _ _
      | exact ih3 _ _ _ _ _ _ _ _ _ _
      | exact ih4 _ _ _ _ _ _ _ _ _
      | exact ih5 _ _ _ _ _ _ _ _ _ _
      | exact ih6 _ _ _ _ _ _ _ _ _ _
      | exact ih7 _ _ _ _ _ _ _ _ _ _ _
      | exact ih8 _ _ _ _ _
      | exact contangolaw49_goes.mono _
      | exact haircut_Take.mono _ _ _ _
      | exact LeO.none _
      | refine LeO.ite ?_ ?_
      | refine LeO.bind ?_ (fun _ => ?_)
    · intro y0 y1 y2 y3 y4 y5 y6
      unfold contangolaw49_HaircutAlike.l1
      repeat' first
      | (with_reducible exact ih0 _ _ _)
      | (with_reducible exact ih1 _ _ _ _ _)
      | (with_reducible exact ih2 _ _ _ _ _ _ _)
      | (with_reducible exact ih3 _ _ _ _ _ _ _ _ _ _)
      | (with_reducible exact ih4 _ _ _ _ _ _ _ _ _)
      | (with_reducible exact ih5 _ _ _ _ _ _ _ _ _ _)
      | (with_reducible exact ih6 _ _ _ _ _ _ _ _ _ _)
      | (with_reducible exact ih7 _ _ _ _ _ _ _ _ _ _ _)
      | (with_reducible exact ih8 _ _ _ _ _)
      | (with_reducible exact contangolaw49_goes.mono _)
      | (with_reducible exact haircut_Take.mono _ _ _ _)
      | (with_reducible exact LeO.refl _)
      | (with_reducible exact LeO.none _)
      | (with_reducible refine LeO.ite ?_ ?_)
      | (with_reducible refine LeO.bind ?_ (fun _ => ?_))
      | exact ih0 _ _ _
      | exact ih1 _ _ _ _ _
      | exact ih2 _ _ _ _ _ _ _
      | exact ih3 _ _ _ _ _ _ _ _ _ _
      | exact ih4 _ _ _ _ _ _ _ _ _
      | exact ih5 _ _ _ _ _ _ _ _ _ _
      | exact ih6 _ _ _ _ _ _ _ _ _ _
      | exact ih7 _ _ _ _ _ _ _ _ _ _ _
      | exact ih8 _ _ _ _ _
      | exact contangolaw49_goes.mono _
      | exact haircut_Take.mono _ _ _ _
      | exact LeO.none _
      | refine LeO.ite ?_ ?_
      | refine LeO.bind ?_ (fun _ => ?_)
    · intro y0 y1 y2 y3 y4 y5 y6 y7 y8 y9
      unfold contangolaw49_HaircutAlike.j4
      repeat' first
      | (with_reducible exact ih0 _ _ _)
      | (with_reducible exact ih1 _ _ _ _ _)
      | (with_reducible exact ih2 _ _ _ _ _ _ _)
      | (with_reducible exact ih3 _ _ _ _ _ _ _ _ _ _)
      | (with_reducible exact ih4 _ _ _ _ _ _ _ _ _)
      | (with_reducible exact ih5 _ _ _ _ _ _ _ _ _ _)
      | (with_reducible exact ih6 _ _ _ _ _ _ _ _ _ _)
      | (with_reducible exact ih7 _ _ _ _ _ _ _ _ _ _ _)
      | (with_reducible exact ih8 _ _ _ _ _)
      | (with_reducible exact contangolaw49_goes.mono _)
      | (with_reducible exact haircut_Take.mono _ _ _ _)
      | (with_reducible exact LeO.refl _)
      | (with_reducible exact LeO.none _)
      | (with_reducible refine LeO.ite ?_ ?_)
      | (with_reducible refine LeO.bind ?_ (fun _ => ?_))
      | exact ih0 _ _ _
      | exact ih1 _ _ _ _ _
      | exact ih2 _ _ _ _ _ _ _
      | exact ih3 _ _ _ _ _ _ _ _ _ _
      | exact ih4 _ _ _ _ _ _ _ _ _
      | exact ih5 _ _ _ _ _ _ _ _ _ _
      | exact ih6 _ _ _ _ _ _ _ _ _ _
      | exact ih7 _ _ _ _ _ _ _ _ _ _ _
      | exact ih8 _ _ _ _ _
      | exact contangolaw49_goes.mono _
      | exact haircut_Take.mono _ _ _ _
      | exact LeO.none _
      | refine LeO.ite ?_ ?_
      | refine LeO.bind ?_ (fun _ => ?_)
    · intro y0 y1 y2 y3 y4 y5 y6 y7 y8
      unfold contangolaw49_HaircutAlike.j5
      repeat' first
      | (with_reducible exact ih0 _ _ _)
      | (with_reducible exact ih1 _ _ _ _ _)
      | (with_reducible exact ih2 _ _ _ _ _ _ _)
      | (with_reducible exact ih3 _ _ _ _ _ _ _ _ _ _)
      | (with_reducible exact ih4 _ _ _ _ _ _ _ _ _)
      | (with_reducible exact ih5 _ _ _ _ _ _ _ _ _ _)
      | (with_reducible exact ih6 _ _ _ _ _ _ _ _ _ _)
      | (with_reducible exact ih7 _ _ _ _ _ _ _ _ _ _ _)
      | (with_reducible exact ih8 _ _ _ _ _)
      | (with_reducible exact contangolaw49_goes.mono _)
      | (with_reducible exact haircut_Take.mono _ _ _ _)
      | (with_reducible exact LeO.refl _)
      | (with_reducible exact LeO.none _)
      | (with_reducible refine LeO.ite ?_ ?_)
      | (with_reducible refine LeO.bind ?_ (fun _ => ?_))
      | exact ih0 _ _ _
      | exact ih1 _ _ _ _ _
      | exact ih2 _ _ _ _ _ _ _
      | exact ih3 _ _ _ _ _ _ _ _ _ _
      | exact ih4 _ _ _ _ _ _ _ _ _
      | exact ih5 _ _ _ _ _ _ _ _ _ _
      | exact ih6 _ _ _ _ _ _ _ _ _ _
      | exact ih7 _ _ _ _ _ _ _ _ _ _ _
      | exact ih8 _ _ _ _ _
      | exact contangolaw49_goes.mono _
      | exact haircut_Take.mono _ _ _ _
      | exact LeO.none _
      | refine LeO.ite ?_ ?_
      | refine LeO.bind ?_ (fun _ => ?_)
    · intro y0 y1 y2 y3 y4 y5 y6 y7 y8 y9
      unfold contangolaw49_HaircutAlike.j6
      repeat' first
      | (with_reducible exact ih0 _ _ _)
      | (with_reducible exact ih1 _ _ _ _ _)
      | (with_reducible exact ih2 _ _ _ _ _ _ _)
      | (with_reducible exact ih3 _ _ _ _ _ _ _ _ _ _)
      | (with_reducible exact ih4 _ _ _ _ _ _ _ _ _)
      | (with_reducible exact ih5 _ _ _ _ _ _ _ _ _ _)
      | (with_reducible exact ih6 _ _ _ _ _ _ _ _ _ _)
      | (with_reducible exact ih7 _ _ _ _ _ _ _ _ _ _ _)
      | (with_reducible exact ih8 _ _ _ _ _)
      | (with_reducible exact contangolaw49_goes.mono _)
      | (with_reducible exact haircut_Take.mono _ _ _ _)
      | (with_reducible exact LeO.refl _)
      | (with_reducible exact LeO.none _)
      | (with_reducible refine LeO.ite ?_ ?_)
      | (with_reducible refine LeO.bind ?_ (fun _ => ?_))
      | exact ih0 _ _ _
      | exact ih1 _ _ _ _ _
      | exact ih2 _ _ _ _ _ _ _
      | exact ih3 _ _ _ _ _ _ _ _ _ _
      | exact ih4 _ _ _ _ _ _ _ _ _
      | exact ih5 _ _ _ _ _ _ _ _ _ _
      | exact ih6 _ _ _ _ _ _ _ _ _ _
      | exact ih7 _ _ _ _ _ _ _ _ _ _ _
      | exact ih8 _ _ _ _ _
      | exact contangolaw49_goes.mono _
      | exact haircut_Take.mono _ _ _ _
      | exact LeO.none _
      | refine LeO.ite ?_ ?_
      | refine LeO.bind ?_ (fun _ => ?_)
    · intro y0 y1 y2 y3 y4 y5 y6 y7 y8 y9
      unfold contangolaw49_HaircutAlike.j7
      repeat' first
      | (with_reducible exact ih0 _ _ _)
      | (with_reducible exact ih1 _ _ _ _ _)
      | (with_reducible exact ih2 _ _ _ _ _ _ _)
      | (with_reducible exact ih3 _ _ _ _ _ _ _ _ _ _)
      | (with_reducible exact ih4 _ _ _ _ _ _ _ _ _)
      | (with_reducible exact ih5 _ _ _ _ _ _ _ _ _ _)
      | (with_reducible exact ih6 _ _ _ _ _ _ _ _ _ _)
      | (with_reducible exact ih7 _ _ _ _ _ _ _ _ _ _ _)
      | (with_reducible exact ih8 _ _ _ _ _)
      | (with_reducible exact contangolaw49_goes.mono _)
      | (with_reducible exact haircut_Take.mono _ _ _ _)
      | (with_reducible exact LeO.refl _)
      | (with_reducible exact LeO.none _)
      | (with_reducible refine LeO.ite ?_ ?_)
      | (with_reducible refine LeO.bind ?_ (fun _ => ?_))
      | exact ih0 _ _ _
      | exact ih1 _ _ _ _ _
      | exact ih2 _ _ _ _ _ _ _
      | exact ih3 _ _ _ _ _ _ _ _ _ _
      | exact ih4 _ _ _ _ _ _ _ _ _
      | exact ih5 _ _ _ _ _ _ _ _ _ _
      | exact ih6 _ _ _ _ _ _ _ _ _ _
      | exact ih7 _ _ _ _ _ _ _ _ _ _ _
      | exact ih8 _ _ _ _ _
      | exact contangolaw49_goes.mono _
      | exact haircut_Take.mono _ _ _ _
      | exact LeO.none _
      | refine LeO.ite ?_ ?_
      | refine LeO.bind ?_ (fun _ => ?_)
    · intro y0 y1 y2 y3 y4 y5 y6 y7 y8 y9 y10
      unfold contangolaw49_HaircutAlike.l2
      repeat' first
      | (with_reducible exact ih0 _ _ _)
      | (with_reducible exact ih1 _ _ _ _ _)
      | (with_reducible exact ih2 _ _ _ _ _ _ _)
      | (with_reducible exact ih3 _ _ _ _ _ _ _ _ _ _)
      | (with_reducible exact ih4 _ _ _ _ _ _ _ _ _)
      | (with_reducible exact ih5 _ _ _ _ _ _ _ _ _ _)
      | (with_reducible exact ih6 _ _ _ _ _ _ _ _ _ _)
      | (with_reducible exact ih7 _ _ _ _ _ _ _ _ _ _ _)
      | (with_reducible exact ih8 _ _ _ _ _)
      | (with_reducible exact contangolaw49_goes.mono _)
      | (with_reducible exact haircut_Take.mono _ _ _ _)
      | (with_reducible exact LeO.refl _)
      | (with_reducible exact LeO.none _)
      | (with_reducible refine LeO.ite ?_ ?_)
      | (with_reducible refine LeO.bind ?_ (fun _ => ?_))
      | exact ih0 _ _ _
      | exact ih1 _ _ _ _ _
      | exact ih2 _ _ _ _ _ _ _
      | exact ih3 _ _ _ _ _ _ _ _ _ _
      | exact ih4 _ _ _ _ _ _ _ _ _
      | exact ih5 _ _ _ _ _ _ _ _ _ _
      | exact ih6 _ _ _ _ _ _ _ _ _ _
      | exact ih7 _ _ _ _ _ _ _ _ _ _ _
      | exact ih8 _ _ _ _ _
      | exact contangolaw49_goes.mono _
      | exact haircut_Take.mono _ _ _ _
      | exact LeO.none _
      | refine LeO.ite ?_ ?_
      | refine LeO.bind ?_ (fun _ => ?_)
    · intro y0 y1 y2 y3 y4
      unfold contangolaw49_HaircutAlike.l0
      repeat' first
      | (with_reducible exact ih0 _ _ _)
      | (with_reducible exact ih1 _ _ _ _ _)
      | (with_reducible exact ih2 _ _ _ _ _ _ _)
      | (with_reducible exact ih3 _ _ _ _ _ _ _ _ _ _)
      | (with_reducible exact ih4 _ _ _ _ _ _ _ _ _)
      | (with_reducible exact ih5 _ _ _ _ _ _ _ _ _ _)
      | (with_reducible exact ih6 _ _ _ _ _ _ _ _ _ _)
      | (with_reducible exact ih7 _ _ _ _ _ _ _ _ _ _ _)
      | (with_reducible exact ih8 _ _ _ _ _)
      | (with_reducible exact contangolaw49_goes.mono _)
      | (with_reducible exact haircut_Take.mono _ _ _ _)
      | (with_reducible exact LeO.refl _)
      | (with_reducible exact LeO.none _)
      | (with_reducible refine LeO.ite ?_ ?_)
      | (with_reducible refine LeO.bind ?_ (fun _ => ?_))
      | exact ih0 _ _ _
      | exact ih1 _ _ _ _ _
      | exact ih2 _ _ _ _ _ _ _
      | exact ih3 _ _ _ _ _ _ _ _ _ _
      | exact ih4 _ _ _ _ _ _ _ _ _
      | exact ih5 _ _ _ _ _ _ _ _ _ _
      | exact ih6 _ _ _ _ _ _ _ _ _ _
      | exact ih7 _ _ _ _ _ _ _ _ _ _ _
      | exact ih8 _ _ _ _ _
      | exact contangolaw49_goes.mono _
      | exact haircut_Take.mono _ _ _ _
      | exact LeO.none _
      | refine LeO.ite ?_ ?_
      | refine LeO.bind ?_ (fun _ => ?_)
theorem contangolaw49_HaircutAlike.mono : ∀ a0 a1 k, LeO (contangolaw49_HaircutAlike.f k a0 a1) (contangolaw49_HaircutAlike.f (k + 1) a0 a1) := by
  intro a0 a1 k
  obtain ⟨ih0, ih1, ih2, ih3, ih4, ih5, ih6, ih7, ih8⟩ := contangolaw49_HaircutAlike.mono_l k
  unfold contangolaw49_HaircutAlike.f
  repeat' first
      | (with_reducible exact ih0 _ _ _)
      | (with_reducible exact ih1 _ _ _ _ _)
      | (with_reducible exact ih2 _ _ _ _ _ _ _)
      | (with_reducible exact ih3 _ _ _ _ _ _ _ _ _ _)
      | (with_reducible exact ih4 _ _ _ _ _ _ _ _ _)
      | (with_reducible exact ih5 _ _ _ _ _ _ _ _ _ _)
      | (with_reducible exact ih6 _ _ _ _ _ _ _ _ _ _)
      | (with_reducible exact ih7 _ _ _ _ _ _ _ _ _ _ _)
      | (with_reducible exact ih8 _ _ _ _ _)
      | (with_reducible exact contangolaw49_goes.mono _)
      | (with_reducible exact haircut_Take.mono _ _ _ _)
      | (with_reducible exact LeO.refl _)
      | (with_reducible exact LeO.none _)
      | (with_reducible refine LeO.ite ?_ ?_)
      | (with_reducible refine LeO.bind ?_ (fun _ => ?_))
      | exact ih0 _ _ _
      | exact ih1 _ _ _ _ _
      | exact ih2 _ _ _ _ _ _ _
      | exact ih3 _ _ _ _ _ _ _ _ _ _
      | exact ih4 _ _ _ _ _ _ _ _ _
      | exact ih5 _ _ _ _ _ _ _ _ _ _
      | exact ih6 _ _ _ _ _ _ _ _ _ _
      | exact ih7 _ _ _ _ _ _ _ _ _ _ _
      | exact ih8 _ _ _ _ _
      | exact contangolaw49_goes.mono _
      | exact haircut_Take.mono _ _ _ _
      | exact LeO.none _
      | refine LeO.ite ?_ ?_
      | refine LeO.bind ?_ (fun _ => ?_)
set_option maxHeartbeats 8000000 in
set_option maxRecDepth 100000 in
theorem contangolaw49_HaircutAlike.calls (k : Nat) (a0 : Int) (A1 : Option Addr) (c1 : Nat) (l1 : List Int) (r : Bool) (w : World) (hr1 : Kd.C (Kd.int .i64) w A1 l1.length l1) (hc1 : l1.length ≤ c1) (h : contangolaw49_HaircutAlike.f k a0 l1 = some r) :
    Calls Try.prog 6 #[.int .i64 a0, .slice A1 l1.length c1] w fun e w' => e = .returned (.bool r) ∧ Below w.heap.size w w' := by
  have hu35 := Try.underlying35
  have HR1 := Aside0.mk hr1
  have HC1 := Aside0.mk hc1
  clear hr1 hc1
  have HB := Aside0.mk (Below.refl w.heap.size w)
  have H : (contangolaw49_HaircutAlike.l0 k a0 l1 (([] : List (S35))) 0 0) = some r := h
  clear h
  obtain ⟨y204, hy204⟩ : ∃ y_ : List (S35), y_ = (([] : List (S35))) := ⟨_, rfl⟩
  replace H : (contangolaw49_HaircutAlike.l0 k a0 l1 y204 0 0) = some r := by first | (rw [hy204]; with_reducible exact H) | (have H2_ := (Option.bind_some _ _).symm.trans H; rw [hy204]; with_reducible exact H2_) | (have H2_ := (Option.bind_some _ _).symm.trans H; with_reducible exact H2_) | with_reducible exact H | (rw [hy204]; exact H) | exact H
  have Ny204 := Aside0.mk hy204
  clear hy204
  have HC3 := Aside0.mk H
  clear H
  go_enter Try.func6, Try.ntmps6
  go_upto_block 0 with (first | ((with_reducible refine gate_dst (N := 19) rfl ?_); refine Kd.R_lit k35 _ 35 ?hg (N := 19) ?hd (xs := ([] : List (S35))) (inner := []) (ok := fun _ => True) (okp := fun _ => True) ?hr ?hp (fun _ hk => hk) trivial (Below.refl _ _) (Nat.le_refl _) (by simp) ?_; (case hd => rfl); (case hg => rfl); (case hr => first | (go_simp; done) | (go_simp; rfl)); (case hp => exact (Reps.none _ _)); intro v205 w4 ho5 hb hg_ hnew_; clear hg_ hnew_; (first | rw [← Ny204.out] at ho5 | (simp only [Int.reduceToNat] at ho5; rw [← Ny204.out] at ho5)); have n0_ := Aside0.mk (Kd.R_lower ho5 (below_size (by repeat (first | (with_reducible first | exact HB.out | apply below_alloc | apply pw_below_drewN | apply below_drew1) | exact HB.out)))); have n1_ := Aside0.mk (below_step (by repeat (first | (with_reducible first | exact HB.out | apply below_alloc | apply pw_below_drewN | apply below_drew1) | exact HB.out)) hb); clear HB; have HO206 := n0_; have HB := n1_; clear n0_ n1_; clear hb ho5))
  repeat (go_quiet (first | ((with_reducible refine gate_dst (N := 19) rfl ?_); refine Kd.R_lit k35 _ 35 ?hg (N := 19) ?hd (xs := ([] : List (S35))) (inner := []) (ok := fun _ => True) (okp := fun _ => True) ?hr ?hp (fun _ hk => hk) trivial (Below.refl _ _) (Nat.le_refl _) (by simp) ?_; (case hd => rfl); (case hg => rfl); (case hr => first | (go_simp; done) | (go_simp; rfl)); (case hp => exact (Reps.none _ _)); intro v205 w4 ho5 hb hg_ hnew_; clear hg_ hnew_; (first | rw [← Ny204.out] at ho5 | (simp only [Int.reduceToNat] at ho5; rw [← Ny204.out] at ho5)); have n0_ := Aside0.mk (Kd.R_lower ho5 (below_size (by repeat (first | (with_reducible first | exact HB.out | apply below_alloc | apply pw_below_drewN | apply below_drew1) | exact HB.out)))); have n1_ := Aside0.mk (below_step (by repeat (first | (with_reducible first | exact HB.out | apply below_alloc | apply pw_below_drewN | apply below_drew1) | exact HB.out)) hb); clear HB; have HO206 := n0_; have HB := n1_; clear n0_ n1_; clear hb ho5)); go_upto_block 0 with (first | ((with_reducible refine gate_dst (N := 19) rfl ?_); refine Kd.R_lit k35 _ 35 ?hg (N := 19) ?hd (xs := ([] : List (S35))) (inner := []) (ok := fun _ => True) (okp := fun _ => True) ?hr ?hp (fun _ hk => hk) trivial (Below.refl _ _) (Nat.le_refl _) (by simp) ?_; (case hd => rfl); (case hg => rfl); (case hr => first | (go_simp; done) | (go_simp; rfl)); (case hp => exact (Reps.none _ _)); intro v205 w4 ho5 hb hg_ hnew_; clear hg_ hnew_; (first | rw [← Ny204.out] at ho5 | (simp only [Int.reduceToNat] at ho5; rw [← Ny204.out] at ho5)); have n0_ := Aside0.mk (Kd.R_lower ho5 (below_size (by repeat (first | (with_reducible first | exact HB.out | apply below_alloc | apply pw_below_drewN | apply below_drew1) | exact HB.out)))); have n1_ := Aside0.mk (below_step (by repeat (first | (with_reducible first | exact HB.out | apply below_alloc | apply pw_below_drewN | apply below_drew1) | exact HB.out)) hb); clear HB; have HO206 := n0_; have HB := n1_; clear n0_ n1_; clear hb ho5)))
  (try simp only [Act.put, List.setIfInBounds_toArray, List.set_cons_zero, List.set_cons_succ])
  go_cut [5, 6] (fun v5 v6 wc => ∃ (kq : Nat) (x5_2 : List (S35)) (x6_2 : Int), v6 = .int .i64 x6_2 ∧ Aside0 (contangolaw49_HaircutAlike.j1 kq a0 x5_2 x6_2 = some r) ∧ Aside0 (kq ≤ k) ∧ Aside0 (Kd.R k35 35 wc w.heap.size (fun _ => True) v5 x5_2) ∧ Aside0 (Below w.heap.size w wc))
  case first =>
    have H := HC3.out
    clear HC3
    have H' := Aside0.mk H
    clear H
    go_wp2
    repeat (go_quiet (fail); try go_wp2)
    go_loopg [5, 6, 7] k (fun kq v5 v6 v7 w' => ∃ (x5_1 : List (S35)) (x6_1 : Int) (x7_1 : Int), v6 = .int .i64 x6_1 ∧ v7 = .int .i64 x7_1 ∧ Aside0 (contangolaw49_HaircutAlike.l0 kq a0 l1 x5_1 x6_1 x7_1 = some r) ∧ Aside0 (kq ≤ k) ∧ Aside0 (Kd.R k35 35 w' w.heap.size (fun _ => True) v5 x5_1) ∧ Aside0 (Below w.heap.size w w'))
    case atStart => exact ⟨(y204), (0), (0), (by first | rfl | (simp; done) | (simp [*]; done)), (by first | rfl | (simp; done) | (simp [*]; done)), H', ⟨Nat.le_refl _⟩, ⟨by (with_reducible repeat (first | apply Kd.R_alloc | apply Kd.R_drewN | apply Kd.R_drew)); exact HO206.out⟩, ⟨by repeat (first | (with_reducible first | exact HB.out | apply below_alloc | apply pw_below_drewN | apply below_drew1) | exact HB.out)⟩⟩
    case round =>
      clear H'
      try clear c1
      try clear p2
      obtain ⟨x5_1, x6_1, x7_1, rfl, rfl, HA, HK1, HO_5, HB⟩ := hrel
      cases gk with
      | zero => exact absurd HA.out (by simp [contangolaw49_HaircutAlike.l0])
      | succ k1 =>
        have H := HA.out
        clear HA
        simp only [contangolaw49_HaircutAlike.l0] at H
        by_cases c6 : x7_1 < (l1.length : Int)
        · rw [if_pos c6] at H
          have c6b0 : decide (x7_1 < (l1.length : Int)) = true := decide_eq_true c6
          clear c6
          (first | rw [c6b0] | (simp only [i64_w, i32_w]; rw [c6b0]) | skip)
          by_cases c7 : x7_1 < 100
          · rw [if_pos c7] at H
            have c7b0 : decide (x7_1 < 100) = true := decide_eq_true c7
            clear c7
            by_cases c8 : 0 ≤ x7_1
            · rw [if_pos c8] at H
              have c8b0 : decide (0 ≤ x7_1) = true := decide_eq_true c8
              clear c8
              by_cases c9 : x5_1.length < 3518437208883
              · rw [if_pos c9] at H
                have LMc9 := Aside0.mk c9
                clear c9
                obtain ⟨y208, hy208⟩ : ∃ y_ : List (S35), y_ = (x5_1 ++ [(⟨(⟨#[109]⟩ : ByteArray), 1, wrap64 (1 + (wrap64 (Int.tmod (IntKind.u64.wrap (rd l1 x7_1)) 1000000))), 1⟩ : S35)]) := ⟨_, rfl⟩
                replace H : (if y208.length < 3518437208883 then (contangolaw49_HaircutAlike.l0 k1 a0 l1 (y208 ++ [(⟨(⟨#[110]⟩ : ByteArray), 1, wrap64 (-(wrap64 (1 + (wrap64 (Int.tmod (IntKind.u64.wrap (rd l1 x7_1)) 1000000))))), 1⟩ : S35)]) (wrap64 (x6_1 + (wrap64 (1 + (wrap64 (Int.tmod (IntKind.u64.wrap (rd l1 x7_1)) 1000000)))))) (wrap64 (x7_1 + 1))) else (none)) = some r := by first | (rw [hy208]; with_reducible exact H) | (have H2_ := (Option.bind_some _ _).symm.trans H; rw [hy208]; with_reducible exact H2_) | (have H2_ := (Option.bind_some _ _).symm.trans H; with_reducible exact H2_) | with_reducible exact H | (rw [hy208]; exact H) | exact H
                have Ny208 := Aside0.mk hy208
                clear hy208
                by_cases c10 : y208.length < 3518437208883
                · rw [if_pos c10] at H
                  have LMc10 := Aside0.mk c10
                  clear c10
                  obtain ⟨y211, hy211⟩ : ∃ y_ : List (S35), y_ = (y208 ++ [(⟨(⟨#[110]⟩ : ByteArray), 1, wrap64 (-(wrap64 (1 + (wrap64 (Int.tmod (IntKind.u64.wrap (rd l1 x7_1)) 1000000))))), 1⟩ : S35)]) := ⟨_, rfl⟩
                  replace H : (contangolaw49_HaircutAlike.l0 k1 a0 l1 y211 (wrap64 (x6_1 + (wrap64 (1 + (wrap64 (Int.tmod (IntKind.u64.wrap (rd l1 x7_1)) 1000000)))))) (wrap64 (x7_1 + 1))) = some r := by first | (rw [hy211]; with_reducible exact H) | (have H2_ := (Option.bind_some _ _).symm.trans H; rw [hy211]; with_reducible exact H2_) | (have H2_ := (Option.bind_some _ _).symm.trans H; with_reducible exact H2_) | with_reducible exact H | (rw [hy211]; exact H) | exact H
                  have Ny211 := Aside0.mk hy211
                  clear hy211
                  have H' := Aside0.mk H
                  clear H
                  have p207 : 0 ≤ (x7_1 : Int) := of_decide_eq_true (by first | (with_reducible assumption) | assumption)
                  have q207 : x7_1 < (l1.length : Int) := of_decide_eq_true (by first | (with_reducible assumption) | assumption)
                  obtain ⟨ad207, e207, hx207_0⟩ := Kd.at_int HR1.out x7_1 p207 q207
                  cases e207
                  replace hx207_0 := (HB.out.cell (World.block_lt_of_cell? w _ hx207_0)).trans hx207_0
                  replace p207 := eq_true p207
                  replace q207 := eq_true q207
                  go_wp2_with (first | ((with_reducible refine gate_builtin (b := .append) (xs := #[.tmp 41, .tmp 44]) rfl ?_); at_builtin; refine Kd.R_append k35 (w0 := w) w.heap.size rfl (.tmp 41) (.tmp 44) 22 35 (.agg #[(.string ⟨#[]⟩), (.int .i64 0), (.int .i64 0), (.int .i64 0)]) 40 rfl Try.underlying22 info35 rfl (by decide) (by omega) u5 x5_1 (⟨(⟨#[109]⟩ : ByteArray), 1, wrap64 (1 + (wrap64 (Int.tmod (IntKind.u64.wrap (rd l1 x7_1)) 1000000))), 1⟩ : S35) [.string (⟨#[109]⟩ : ByteArray), .int .i64 1, .int .i64 (wrap64 (1 + (wrap64 (Int.tmod (IntKind.u64.wrap (rd l1 x7_1)) 1000000)))), .int .i64 1] (fun _ => True) (fun _ => False) rfl rfl ?aP (fun _ hk => hk.elim) ?aF ?aO ?aB ?aS ?aL ?_; (case aP => exact k35_mkM _ _ _ (⟨(⟨#[109]⟩ : ByteArray), 1, wrap64 (1 + (wrap64 (Int.tmod (IntKind.u64.wrap (rd l1 x7_1)) 1000000))), 1⟩ : S35)); (case aB => exact (by repeat (first | (with_reducible first | exact HB.out | apply below_alloc | apply pw_below_drewN | apply below_drew1) | exact HB.out))); (case aF => exact (fun _ _ => trivial)); (case aO => exact (by (with_reducible repeat (first | apply Kd.R_alloc | apply Kd.R_drewN | apply Kd.R_drew)); exact HO_5.out)); (case aS => exact (below_size (by repeat (first | (with_reducible first | exact HB.out | apply below_alloc | apply pw_below_drewN | apply below_drew1) | exact HB.out)))); (case aL => have := LMc9.out; omega); intro v209 w11 ho hb hg hat; rw [← Ny208.out] at ho; have n0_ := Aside0.mk (hb); have n1_ := Aside0.mk (ho); clear HB; clear HO_5; have HB := n0_; have HO210 := n1_; clear n0_ n1_; clear ho hb hg hat) | ((with_reducible refine gate_builtin (b := .append) (xs := #[.tmp 46, .tmp 50]) rfl ?_); at_builtin; refine Kd.R_append k35 (w0 := w) w.heap.size rfl (.tmp 46) (.tmp 50) 22 35 (.agg #[(.string ⟨#[]⟩), (.int .i64 0), (.int .i64 0), (.int .i64 0)]) 40 rfl Try.underlying22 info35 rfl (by decide) (by omega) v209 y208 (⟨(⟨#[110]⟩ : ByteArray), 1, wrap64 (-(wrap64 (1 + (wrap64 (Int.tmod (IntKind.u64.wrap (rd l1 x7_1)) 1000000))))), 1⟩ : S35) [.string (⟨#[110]⟩ : ByteArray), .int .i64 1, .int .i64 (wrap64 (-(wrap64 (1 + (wrap64 (Int.tmod (IntKind.u64.wrap (rd l1 x7_1)) 1000000)))))), .int .i64 1] (fun _ => True) (fun _ => False) rfl rfl ?aP (fun _ hk => hk.elim) ?aF ?aO ?aB ?aS ?aL ?_; (case aP => exact k35_mkM _ _ _ (⟨(⟨#[110]⟩ : ByteArray), 1, wrap64 (-(wrap64 (1 + (wrap64 (Int.tmod (IntKind.u64.wrap (rd l1 x7_1)) 1000000))))), 1⟩ : S35)); (case aB => exact (by repeat (first | (with_reducible first | exact HB.out | apply below_alloc | apply pw_below_drewN | apply below_drew1) | exact HB.out))); (case aF => exact (fun _ _ => trivial)); (case aO => exact (by (with_reducible repeat (first | apply Kd.R_alloc | apply Kd.R_drewN | apply Kd.R_drew)); exact HO210.out)); (case aS => exact (below_size (by repeat (first | (with_reducible first | exact HB.out | apply below_alloc | apply pw_below_drewN | apply below_drew1) | exact HB.out)))); (case aL => have := LMc10.out; omega); intro v212 w12 ho hb hg hat; rw [← Ny211.out] at ho; have n0_ := Aside0.mk (hb); have n1_ := Aside0.mk (ho); clear HB; clear HO210; have HB := n0_; have HO213 := n1_; clear n0_ n1_; clear ho hb hg hat))
                  repeat (go_quiet (first | ((with_reducible refine gate_builtin (b := .append) (xs := #[.tmp 41, .tmp 44]) rfl ?_); at_builtin; refine Kd.R_append k35 (w0 := w) w.heap.size rfl (.tmp 41) (.tmp 44) 22 35 (.agg #[(.string ⟨#[]⟩), (.int .i64 0), (.int .i64 0), (.int .i64 0)]) 40 rfl Try.underlying22 info35 rfl (by decide) (by omega) u5 x5_1 (⟨(⟨#[109]⟩ : ByteArray), 1, wrap64 (1 + (wrap64 (Int.tmod (IntKind.u64.wrap (rd l1 x7_1)) 1000000))), 1⟩ : S35) [.string (⟨#[109]⟩ : ByteArray), .int .i64 1, .int .i64 (wrap64 (1 + (wrap64 (Int.tmod (IntKind.u64.wrap (rd l1 x7_1)) 1000000)))), .int .i64 1] (fun _ => True) (fun _ => False) rfl rfl ?aP (fun _ hk => hk.elim) ?aF ?aO ?aB ?aS ?aL ?_; (case aP => exact k35_mkM _ _ _ (⟨(⟨#[109]⟩ : ByteArray), 1, wrap64 (1 + (wrap64 (Int.tmod (IntKind.u64.wrap (rd l1 x7_1)) 1000000))), 1⟩ : S35)); (case aB => exact (by repeat (first | (with_reducible first | exact HB.out | apply below_alloc | apply pw_below_drewN | apply below_drew1) | exact HB.out))); (case aF => exact (fun _ _ => trivial)); (case aO => exact (by (with_reducible repeat (first | apply Kd.R_alloc | apply Kd.R_drewN | apply Kd.R_drew)); exact HO_5.out)); (case aS => exact (below_size (by repeat (first | (with_reducible first | exact HB.out | apply below_alloc | apply pw_below_drewN | apply below_drew1) | exact HB.out)))); (case aL => have := LMc9.out; omega); intro v209 w11 ho hb hg hat; rw [← Ny208.out] at ho; have n0_ := Aside0.mk (hb); have n1_ := Aside0.mk (ho); clear HB; clear HO_5; have HB := n0_; have HO210 := n1_; clear n0_ n1_; clear ho hb hg hat) | ((with_reducible refine gate_builtin (b := .append) (xs := #[.tmp 46, .tmp 50]) rfl ?_); at_builtin; refine Kd.R_append k35 (w0 := w) w.heap.size rfl (.tmp 46) (.tmp 50) 22 35 (.agg #[(.string ⟨#[]⟩), (.int .i64 0), (.int .i64 0), (.int .i64 0)]) 40 rfl Try.underlying22 info35 rfl (by decide) (by omega) v209 y208 (⟨(⟨#[110]⟩ : ByteArray), 1, wrap64 (-(wrap64 (1 + (wrap64 (Int.tmod (IntKind.u64.wrap (rd l1 x7_1)) 1000000))))), 1⟩ : S35) [.string (⟨#[110]⟩ : ByteArray), .int .i64 1, .int .i64 (wrap64 (-(wrap64 (1 + (wrap64 (Int.tmod (IntKind.u64.wrap (rd l1 x7_1)) 1000000)))))), .int .i64 1] (fun _ => True) (fun _ => False) rfl rfl ?aP (fun _ hk => hk.elim) ?aF ?aO ?aB ?aS ?aL ?_; (case aP => exact k35_mkM _ _ _ (⟨(⟨#[110]⟩ : ByteArray), 1, wrap64 (-(wrap64 (1 + (wrap64 (Int.tmod (IntKind.u64.wrap (rd l1 x7_1)) 1000000))))), 1⟩ : S35)); (case aB => exact (by repeat (first | (with_reducible first | exact HB.out | apply below_alloc | apply pw_below_drewN | apply below_drew1) | exact HB.out))); (case aF => exact (fun _ _ => trivial)); (case aO => exact (by (with_reducible repeat (first | apply Kd.R_alloc | apply Kd.R_drewN | apply Kd.R_drew)); exact HO210.out)); (case aS => exact (below_size (by repeat (first | (with_reducible first | exact HB.out | apply below_alloc | apply pw_below_drewN | apply below_drew1) | exact HB.out)))); (case aL => have := LMc10.out; omega); intro v212 w12 ho hb hg hat; rw [← Ny211.out] at ho; have n0_ := Aside0.mk (hb); have n1_ := Aside0.mk (ho); clear HB; clear HO210; have HB := n0_; have HO213 := n1_; clear n0_ n1_; clear ho hb hg hat)); try go_wp2_with (first | ((with_reducible refine gate_builtin (b := .append) (xs := #[.tmp 41, .tmp 44]) rfl ?_); at_builtin; refine Kd.R_append k35 (w0 := w) w.heap.size rfl (.tmp 41) (.tmp 44) 22 35 (.agg #[(.string ⟨#[]⟩), (.int .i64 0), (.int .i64 0), (.int .i64 0)]) 40 rfl Try.underlying22 info35 rfl (by decide) (by omega) u5 x5_1 (⟨(⟨#[109]⟩ : ByteArray), 1, wrap64 (1 + (wrap64 (Int.tmod (IntKind.u64.wrap (rd l1 x7_1)) 1000000))), 1⟩ : S35) [.string (⟨#[109]⟩ : ByteArray), .int .i64 1, .int .i64 (wrap64 (1 + (wrap64 (Int.tmod (IntKind.u64.wrap (rd l1 x7_1)) 1000000)))), .int .i64 1] (fun _ => True) (fun _ => False) rfl rfl ?aP (fun _ hk => hk.elim) ?aF ?aO ?aB ?aS ?aL ?_; (case aP => exact k35_mkM _ _ _ (⟨(⟨#[109]⟩ : ByteArray), 1, wrap64 (1 + (wrap64 (Int.tmod (IntKind.u64.wrap (rd l1 x7_1)) 1000000))), 1⟩ : S35)); (case aB => exact (by repeat (first | (with_reducible first | exact HB.out | apply below_alloc | apply pw_below_drewN | apply below_drew1) | exact HB.out))); (case aF => exact (fun _ _ => trivial)); (case aO => exact (by (with_reducible repeat (first | apply Kd.R_alloc | apply Kd.R_drewN | apply Kd.R_drew)); exact HO_5.out)); (case aS => exact (below_size (by repeat (first | (with_reducible first | exact HB.out | apply below_alloc | apply pw_below_drewN | apply below_drew1) | exact HB.out)))); (case aL => have := LMc9.out; omega); intro v209 w11 ho hb hg hat; rw [← Ny208.out] at ho; have n0_ := Aside0.mk (hb); have n1_ := Aside0.mk (ho); clear HB; clear HO_5; have HB := n0_; have HO210 := n1_; clear n0_ n1_; clear ho hb hg hat) | ((with_reducible refine gate_builtin (b := .append) (xs := #[.tmp 46, .tmp 50]) rfl ?_); at_builtin; refine Kd.R_append k35 (w0 := w) w.heap.size rfl (.tmp 46) (.tmp 50) 22 35 (.agg #[(.string ⟨#[]⟩), (.int .i64 0), (.int .i64 0), (.int .i64 0)]) 40 rfl Try.underlying22 info35 rfl (by decide) (by omega) v209 y208 (⟨(⟨#[110]⟩ : ByteArray), 1, wrap64 (-(wrap64 (1 + (wrap64 (Int.tmod (IntKind.u64.wrap (rd l1 x7_1)) 1000000))))), 1⟩ : S35) [.string (⟨#[110]⟩ : ByteArray), .int .i64 1, .int .i64 (wrap64 (-(wrap64 (1 + (wrap64 (Int.tmod (IntKind.u64.wrap (rd l1 x7_1)) 1000000)))))), .int .i64 1] (fun _ => True) (fun _ => False) rfl rfl ?aP (fun _ hk => hk.elim) ?aF ?aO ?aB ?aS ?aL ?_; (case aP => exact k35_mkM _ _ _ (⟨(⟨#[110]⟩ : ByteArray), 1, wrap64 (-(wrap64 (1 + (wrap64 (Int.tmod (IntKind.u64.wrap (rd l1 x7_1)) 1000000))))), 1⟩ : S35)); (case aB => exact (by repeat (first | (with_reducible first | exact HB.out | apply below_alloc | apply pw_below_drewN | apply below_drew1) | exact HB.out))); (case aF => exact (fun _ _ => trivial)); (case aO => exact (by (with_reducible repeat (first | apply Kd.R_alloc | apply Kd.R_drewN | apply Kd.R_drew)); exact HO210.out)); (case aS => exact (below_size (by repeat (first | (with_reducible first | exact HB.out | apply below_alloc | apply pw_below_drewN | apply below_drew1) | exact HB.out)))); (case aL => have := LMc10.out; omega); intro v212 w12 ho hb hg hat; rw [← Ny211.out] at ho; have n0_ := Aside0.mk (hb); have n1_ := Aside0.mk (ho); clear HB; clear HO210; have HB := n0_; have HO213 := n1_; clear n0_ n1_; clear ho hb hg hat)))
                  go_roundg k1
                  case measure => have := HK1.out; omega
                  case rel => exact ⟨(y211), (wrap64 (x6_1 + (wrap64 (1 + (wrap64 (Int.tmod (IntKind.u64.wrap (rd l1 x7_1)) 1000000)))))), (wrap64 (x7_1 + 1)), (by first | rfl | (simp; done) | (simp [*]; done)), (by first | rfl | (simp; done) | (simp [*]; done)), H', ⟨by have := HK1.out; omega⟩, ⟨by (with_reducible repeat (first | apply Kd.R_alloc | apply Kd.R_drewN | apply Kd.R_drew)); exact HO213.out⟩, ⟨by repeat (first | (with_reducible first | exact HB.out | apply below_alloc | apply pw_below_drewN | apply below_drew1) | exact HB.out)⟩⟩
                · rw [if_neg c10] at H
                  exact absurd H (by simp)
              · rw [if_neg c9] at H
                exact absurd H (by simp)
            · rw [if_neg c8] at H
              exact absurd H (by simp)
          · rw [if_neg c7] at H
            have c7b0 : decide (x7_1 < 100) = false := decide_eq_false c7
            clear c7
            have H' := Aside0.mk H
            clear H
            go_wp2
            repeat (go_quiet (fail); try go_wp2)
            go_meet
            case rel => exact ⟨_, (x5_1), (x6_1), (by first | rfl | (simp; done) | (simp [*]; done)), H', ⟨by have := HK1.out; first | omega | exact Nat.le_refl _⟩, ⟨by (with_reducible repeat (first | apply Kd.R_alloc | apply Kd.R_drewN | apply Kd.R_drew)); exact HO_5.out⟩, ⟨by repeat (first | (with_reducible first | exact HB.out | apply below_alloc | apply pw_below_drewN | apply below_drew1) | exact HB.out)⟩⟩
        · rw [if_neg c6] at H
          have c6b0 : decide (x7_1 < (l1.length : Int)) = false := decide_eq_false c6
          clear c6
          (first | rw [c6b0] | (simp only [i64_w, i32_w]; rw [c6b0]) | skip)
          have H' := Aside0.mk H
          clear H
          go_wp2
          repeat (go_quiet (fail); try go_wp2)
          go_meet
          case rel => exact ⟨_, (x5_1), (x6_1), (by first | rfl | (simp; done) | (simp [*]; done)), H', ⟨by have := HK1.out; first | omega | exact Nat.le_refl _⟩, ⟨by (with_reducible repeat (first | apply Kd.R_alloc | apply Kd.R_drewN | apply Kd.R_drew)); exact HO_5.out⟩, ⟨by repeat (first | (with_reducible first | exact HB.out | apply below_alloc | apply pw_below_drewN | apply below_drew1) | exact HB.out)⟩⟩
  case rest =>
    clear HC3
    try clear c1
    try clear p2
    try clear q2
    try clear hx2
    try clear c6
    try clear c6b0
    try clear p6
    try clear c7
    try clear c7b0
    try clear c8
    try clear c8b0
    try clear c9
    try clear c10
    try clear hx207_0
    try clear p2
    try clear p207
    try clear q207
    obtain ⟨kq, x5_2, x6_2, rfl, HA, HJ2, HO_5, HB⟩ := hcut
    cases kq with
    | zero => exact absurd HA.out (by simp [contangolaw49_HaircutAlike.j1])
    | succ kj2 =>
      have H := HA.out
      clear HA
      simp only [contangolaw49_HaircutAlike.j1] at H
      by_cases c13 : (IntKind.u64.wrap (wrap64 (x6_2 + 1))) = 0
      · rw [if_pos c13] at H
        exact absurd H (by simp)
      · rw [if_neg c13] at H
        have c13b0 : ((IntKind.u64.wrap (wrap64 (x6_2 + 1))) == 0) = false := beq_eq_false_iff_ne.mpr c13
        have c13b1 : ((IntKind.u64.wrap (wrap64 (x6_2 + 1))) != 0) = true := bne_iff_ne.mpr c13
        replace H := Option.bind_eq_some_iff.mp H
        obtain ⟨⟨t214, t215, t216⟩, A140, H⟩ := H
        replace H : (if t216 = 0 then (contangolaw49_HaircutAlike.j2 kj2 (wrap64 (Int.tmod (IntKind.u64.wrap (a0)) (IntKind.u64.wrap (wrap64 (x6_2 + 1))))) x5_2 x6_2 t214 (t215 != (wrap64 (Int.tmod (IntKind.u64.wrap (a0)) (IntKind.u64.wrap (wrap64 (x6_2 + 1))))))) else (contangolaw49_HaircutAlike.j2 kj2 (wrap64 (Int.tmod (IntKind.u64.wrap (a0)) (IntKind.u64.wrap (wrap64 (x6_2 + 1))))) x5_2 x6_2 t214 true)) = some r := H
        have A14 := Aside0.mk A140
        clear A140
        have HC15 := Aside0.mk H
        clear H
        obtain ⟨Ao16, co16, eo16⟩ := Kd.R_slice HO_5.out
        subst eo16
        go_upto_region 12 with (first | (go_at_call 10; (with_reducible refine (haircut_Take.calls kj2 (wrap64 (Int.tmod (IntKind.u64.wrap (a0)) (IntKind.u64.wrap (wrap64 (x6_2 + 1))))) _ _ x5_2 1 t214 t215 t216 _ ?side1 ?side2 A14.out).mono ?_); (case side1 => repeat (first | exact (Kd.R_reads' HO_5.out).2.2 | (with_reducible refine Kd.C_alloc ?_ _) | (with_reducible refine Kd.C_drewN ?_ _) | (with_reducible refine Kd.C_drew ?_))); (case side2 => exact (Kd.R_reads' HO_5.out).2.1); rintro e w17 ⟨v217, rfl, ho0, hb⟩; have n0_ := Aside0.mk (Kd.R_elder' (by (with_reducible repeat (first | apply Kd.R_alloc | apply Kd.R_drewN | apply Kd.R_drew)); exact HO_5.out) (Kd.R_base ho0) hb); have n1_ := Aside0.mk (Kd.R_lower (Kd.R_new' ho0 (Kd.R_lt (by (with_reducible repeat (first | apply Kd.R_alloc | apply Kd.R_drewN | apply Kd.R_drew)); exact HO_5.out))) (below_size (by repeat (first | (with_reducible first | exact HB.out | apply below_alloc | apply pw_below_drewN | apply below_drew1) | exact HB.out)))); have n2_ := Aside0.mk (below_step (by repeat (first | (with_reducible first | exact HB.out | apply below_alloc | apply pw_below_drewN | apply below_drew1) | exact HB.out)) hb); clear HO_5; clear HB; have HO_5 := n0_; have HO218 := n1_; have HB := n2_; clear n0_ n1_ n2_; (try clear hb); (try clear hb2); (try clear hk); (try clear hi); (try clear ho0)))
        repeat (go_quiet (first | (go_at_call 10; (with_reducible refine (haircut_Take.calls kj2 (wrap64 (Int.tmod (IntKind.u64.wrap (a0)) (IntKind.u64.wrap (wrap64 (x6_2 + 1))))) _ _ x5_2 1 t214 t215 t216 _ ?side1 ?side2 A14.out).mono ?_); (case side1 => repeat (first | exact (Kd.R_reads' HO_5.out).2.2 | (with_reducible refine Kd.C_alloc ?_ _) | (with_reducible refine Kd.C_drewN ?_ _) | (with_reducible refine Kd.C_drew ?_))); (case side2 => exact (Kd.R_reads' HO_5.out).2.1); rintro e w17 ⟨v217, rfl, ho0, hb⟩; have n0_ := Aside0.mk (Kd.R_elder' (by (with_reducible repeat (first | apply Kd.R_alloc | apply Kd.R_drewN | apply Kd.R_drew)); exact HO_5.out) (Kd.R_base ho0) hb); have n1_ := Aside0.mk (Kd.R_lower (Kd.R_new' ho0 (Kd.R_lt (by (with_reducible repeat (first | apply Kd.R_alloc | apply Kd.R_drewN | apply Kd.R_drew)); exact HO_5.out))) (below_size (by repeat (first | (with_reducible first | exact HB.out | apply below_alloc | apply pw_below_drewN | apply below_drew1) | exact HB.out)))); have n2_ := Aside0.mk (below_step (by repeat (first | (with_reducible first | exact HB.out | apply below_alloc | apply pw_below_drewN | apply below_drew1) | exact HB.out)) hb); clear HO_5; clear HB; have HO_5 := n0_; have HO218 := n1_; have HB := n2_; clear n0_ n1_ n2_; (try clear hb); (try clear hb2); (try clear hk); (try clear hi); (try clear ho0))); go_upto_region 12 with (first | (go_at_call 10; (with_reducible refine (haircut_Take.calls kj2 (wrap64 (Int.tmod (IntKind.u64.wrap (a0)) (IntKind.u64.wrap (wrap64 (x6_2 + 1))))) _ _ x5_2 1 t214 t215 t216 _ ?side1 ?side2 A14.out).mono ?_); (case side1 => repeat (first | exact (Kd.R_reads' HO_5.out).2.2 | (with_reducible refine Kd.C_alloc ?_ _) | (with_reducible refine Kd.C_drewN ?_ _) | (with_reducible refine Kd.C_drew ?_))); (case side2 => exact (Kd.R_reads' HO_5.out).2.1); rintro e w17 ⟨v217, rfl, ho0, hb⟩; have n0_ := Aside0.mk (Kd.R_elder' (by (with_reducible repeat (first | apply Kd.R_alloc | apply Kd.R_drewN | apply Kd.R_drew)); exact HO_5.out) (Kd.R_base ho0) hb); have n1_ := Aside0.mk (Kd.R_lower (Kd.R_new' ho0 (Kd.R_lt (by (with_reducible repeat (first | apply Kd.R_alloc | apply Kd.R_drewN | apply Kd.R_drew)); exact HO_5.out))) (below_size (by repeat (first | (with_reducible first | exact HB.out | apply below_alloc | apply pw_below_drewN | apply below_drew1) | exact HB.out)))); have n2_ := Aside0.mk (below_step (by repeat (first | (with_reducible first | exact HB.out | apply below_alloc | apply pw_below_drewN | apply below_drew1) | exact HB.out)) hb); clear HO_5; clear HB; have HO_5 := n0_; have HO218 := n1_; have HB := n2_; clear n0_ n1_ n2_; (try clear hb); (try clear hb2); (try clear hk); (try clear hi); (try clear ho0))))
        (try simp only [Act.put, List.setIfInBounds_toArray, List.set_cons_zero, List.set_cons_succ])
        go_cut [72] (fun v72 wc => ∃ (kq : Nat) (x72_14 : Bool), v72 = .bool x72_14 ∧ Aside0 (contangolaw49_HaircutAlike.j2 kq (wrap64 (Int.tmod (IntKind.u64.wrap (a0)) (IntKind.u64.wrap (wrap64 (x6_2 + 1))))) x5_2 x6_2 t214 x72_14 = some r) ∧ Aside0 (kq ≤ kj2) ∧ Aside0 (Kd.R k35 35 wc w.heap.size (fun k_ => some k_ ≠ (v217 : Value).ownBlock) (.slice Ao16 x5_2.length co16) x5_2) ∧ Aside0 (Kd.R k35 35 wc w.heap.size (fun k_ => some k_ ≠ ((.slice Ao16 x5_2.length co16) : Value).ownBlock) v217 t214) ∧ Aside0 (Below w.heap.size w wc))
        case first =>
          have H := HC15.out
          clear HC15
          by_cases c18 : t216 = 0
          · rw [if_pos c18] at H
            have c18b0 : (t216 == 0) = true := beq_iff_eq.mpr c18
            have c18b1 : (t216 != 0) = false := bne_eq_false_iff_eq.mpr c18
            clear c18
            (first | rw [c18b0] | (simp only [i64_w, i32_w]; rw [c18b0]) | rw [c18b1] | skip)
            have H' := Aside0.mk H
            clear H
            go_wp2
            repeat (go_quiet (fail); try go_wp2)
            go_meet
            case rel => exact ⟨_, ((t215 != (wrap64 (Int.tmod (IntKind.u64.wrap (a0)) (IntKind.u64.wrap (wrap64 (x6_2 + 1))))))), (by first | rfl | (simp; done) | (simp [*]; done)), H', ⟨by have := HJ2.out; first | omega | exact Nat.le_refl _⟩, ⟨by (with_reducible repeat (first | apply Kd.R_alloc | apply Kd.R_drewN | apply Kd.R_drew)); exact Kd.R_mono HO_5.out (fun _ hk => hk.2)⟩, ⟨by (with_reducible repeat (first | apply Kd.R_alloc | apply Kd.R_drewN | apply Kd.R_drew)); exact Kd.R_mono HO218.out (fun _ hk => hk.2)⟩, ⟨by repeat (first | (with_reducible first | exact HB.out | apply below_alloc | apply pw_below_drewN | apply below_drew1) | exact HB.out)⟩⟩
          · rw [if_neg c18] at H
            have c18b0 : (t216 == 0) = false := beq_eq_false_iff_ne.mpr c18
            have c18b1 : (t216 != 0) = true := bne_iff_ne.mpr c18
            (first | rw [c18b0] | (simp only [i64_w, i32_w]; rw [c18b0]) | rw [c18b1] | skip)
            have H' := Aside0.mk H
            clear H
            go_wp2
            repeat (go_quiet (fail); try go_wp2)
            go_meet
            case rel => exact ⟨_, (true), (by first | rfl | (simp; done) | (simp [*]; done)), H', ⟨by have := HJ2.out; first | omega | exact Nat.le_refl _⟩, ⟨by (with_reducible repeat (first | apply Kd.R_alloc | apply Kd.R_drewN | apply Kd.R_drew)); exact Kd.R_mono HO_5.out (fun _ hk => hk.2)⟩, ⟨by (with_reducible repeat (first | apply Kd.R_alloc | apply Kd.R_drewN | apply Kd.R_drew)); exact Kd.R_mono HO218.out (fun _ hk => hk.2)⟩, ⟨by repeat (first | (with_reducible first | exact HB.out | apply below_alloc | apply pw_below_drewN | apply below_drew1) | exact HB.out)⟩⟩
        case rest =>
          clear HC15
          try clear c1
          try clear p2
          try clear q2
          try clear hx2
          try clear c6
          try clear c6b0
          try clear p6
          try clear c7
          try clear c7b0
          try clear c8
          try clear c8b0
          try clear c9
          try clear c10
          try clear c13
          try clear c13b0
          try clear c13b1
          try clear c18
          try clear c18b0
          try clear c18b1
          try clear hx207_0
          try clear p2
          try clear p207
          try clear p6
          try clear q2
          try clear q207
          obtain ⟨kq, x72_14, rfl, HA, HJ14, HO_5, HO_9, HB⟩ := hcut
          cases kq with
          | zero => exact absurd HA.out (by simp [contangolaw49_HaircutAlike.j2])
          | succ kj14 =>
            have H := HA.out
            clear HA
            simp only [contangolaw49_HaircutAlike.j2] at H
            by_cases c19 : x72_14 = true
            · subst c19
              have H1 : (none) = some r := by rw [if_pos rfl] at H; exact H
              clear H
              have H := H1
              clear H1
              exact absurd H (by simp)
            · replace c19 := Bool.eq_false_iff.mpr c19
              subst c19
              have H1 : (contangolaw49_HaircutAlike.l1 kj14 (wrap64 (Int.tmod (IntKind.u64.wrap (a0)) (IntKind.u64.wrap (wrap64 (x6_2 + 1))))) x5_2 x6_2 t214 0 (([] : List Int)) 0) = some r := by rw [if_neg (show ¬ (false = true) by decide)] at H; exact H
              clear H
              have H := H1
              clear H1
              obtain ⟨y219, hy219⟩ : ∃ y_ : List Int, y_ = (([] : List Int)) := ⟨_, rfl⟩
              replace H : (contangolaw49_HaircutAlike.l1 kj14 (wrap64 (Int.tmod (IntKind.u64.wrap (a0)) (IntKind.u64.wrap (wrap64 (x6_2 + 1))))) x5_2 x6_2 t214 0 y219 0) = some r := by first | (rw [hy219]; with_reducible exact H) | (have H2_ := (Option.bind_some _ _).symm.trans H; rw [hy219]; with_reducible exact H2_) | (have H2_ := (Option.bind_some _ _).symm.trans H; with_reducible exact H2_) | with_reducible exact H | (rw [hy219]; exact H) | exact H
              have Ny219 := Aside0.mk hy219
              clear hy219
              have H' := Aside0.mk H
              clear H
              go_wp2_with (first | ((with_reducible refine gate_dst (N := 73) rfl ?_); refine Kd.R_lit (Kd.int .i64) _ 3 ?hg (N := 73) ?hd (xs := ([] : List Int)) (inner := []) (ok := fun _ => True) (okp := fun _ => True) ?hr ?hp (fun _ hk => hk) trivial (Below.refl _ _) (Nat.le_refl _) (by simp) ?_; (case hd => rfl); (case hg => rfl); (case hr => first | (go_simp; done) | (go_simp; rfl)); (case hp => exact (Reps.none _ _)); intro v220 w20 ho21 hb hg_ hnew_; clear hg_ hnew_; (first | rw [← Ny219.out] at ho21 | (simp only [Int.reduceToNat] at ho21; rw [← Ny219.out] at ho21)); have n0_ := Aside0.mk (Kd.R_below (by (with_reducible repeat (first | apply Kd.R_alloc | apply Kd.R_drewN | apply Kd.R_drew)); exact HO_5.out) hb); have n1_ := Aside0.mk (Kd.R_below (by (with_reducible repeat (first | apply Kd.R_alloc | apply Kd.R_drewN | apply Kd.R_drew)); exact HO_9.out) hb); have n2_ := Aside0.mk (Kd.R_lower ho21 (below_size (by repeat (first | (with_reducible first | exact HB.out | apply below_alloc | apply pw_below_drewN | apply below_drew1) | exact HB.out)))); have n3_ := Aside0.mk (below_step (by repeat (first | (with_reducible first | exact HB.out | apply below_alloc | apply pw_below_drewN | apply below_drew1) | exact HB.out)) hb); clear HO_5; clear HO_9; clear HB; have HO_5 := n0_; have HO_9 := n1_; have HO221 := n2_; have HB := n3_; clear n0_ n1_ n2_ n3_; clear hb ho21))
              repeat (go_quiet (first | ((with_reducible refine gate_dst (N := 73) rfl ?_); refine Kd.R_lit (Kd.int .i64) _ 3 ?hg (N := 73) ?hd (xs := ([] : List Int)) (inner := []) (ok := fun _ => True) (okp := fun _ => True) ?hr ?hp (fun _ hk => hk) trivial (Below.refl _ _) (Nat.le_refl _) (by simp) ?_; (case hd => rfl); (case hg => rfl); (case hr => first | (go_simp; done) | (go_simp; rfl)); (case hp => exact (Reps.none _ _)); intro v220 w20 ho21 hb hg_ hnew_; clear hg_ hnew_; (first | rw [← Ny219.out] at ho21 | (simp only [Int.reduceToNat] at ho21; rw [← Ny219.out] at ho21)); have n0_ := Aside0.mk (Kd.R_below (by (with_reducible repeat (first | apply Kd.R_alloc | apply Kd.R_drewN | apply Kd.R_drew)); exact HO_5.out) hb); have n1_ := Aside0.mk (Kd.R_below (by (with_reducible repeat (first | apply Kd.R_alloc | apply Kd.R_drewN | apply Kd.R_drew)); exact HO_9.out) hb); have n2_ := Aside0.mk (Kd.R_lower ho21 (below_size (by repeat (first | (with_reducible first | exact HB.out | apply below_alloc | apply pw_below_drewN | apply below_drew1) | exact HB.out)))); have n3_ := Aside0.mk (below_step (by repeat (first | (with_reducible first | exact HB.out | apply below_alloc | apply pw_below_drewN | apply below_drew1) | exact HB.out)) hb); clear HO_5; clear HO_9; clear HB; have HO_5 := n0_; have HO_9 := n1_; have HO221 := n2_; have HB := n3_; clear n0_ n1_ n2_ n3_; clear hb ho21)); try go_wp2_with (first | ((with_reducible refine gate_dst (N := 73) rfl ?_); refine Kd.R_lit (Kd.int .i64) _ 3 ?hg (N := 73) ?hd (xs := ([] : List Int)) (inner := []) (ok := fun _ => True) (okp := fun _ => True) ?hr ?hp (fun _ hk => hk) trivial (Below.refl _ _) (Nat.le_refl _) (by simp) ?_; (case hd => rfl); (case hg => rfl); (case hr => first | (go_simp; done) | (go_simp; rfl)); (case hp => exact (Reps.none _ _)); intro v220 w20 ho21 hb hg_ hnew_; clear hg_ hnew_; (first | rw [← Ny219.out] at ho21 | (simp only [Int.reduceToNat] at ho21; rw [← Ny219.out] at ho21)); have n0_ := Aside0.mk (Kd.R_below (by (with_reducible repeat (first | apply Kd.R_alloc | apply Kd.R_drewN | apply Kd.R_drew)); exact HO_5.out) hb); have n1_ := Aside0.mk (Kd.R_below (by (with_reducible repeat (first | apply Kd.R_alloc | apply Kd.R_drewN | apply Kd.R_drew)); exact HO_9.out) hb); have n2_ := Aside0.mk (Kd.R_lower ho21 (below_size (by repeat (first | (with_reducible first | exact HB.out | apply below_alloc | apply pw_below_drewN | apply below_drew1) | exact HB.out)))); have n3_ := Aside0.mk (below_step (by repeat (first | (with_reducible first | exact HB.out | apply below_alloc | apply pw_below_drewN | apply below_drew1) | exact HB.out)) hb); clear HO_5; clear HO_9; clear HB; have HO_5 := n0_; have HO_9 := n1_; have HO221 := n2_; have HB := n3_; clear n0_ n1_ n2_ n3_; clear hb ho21)))
              go_loopg [12, 13, 14] kj14 (fun kq v12 v13 v14 w' => ∃ (x12_3 : Int) (x13_3 : List Int) (x14_3 : Int), v12 = .int .i64 x12_3 ∧ v14 = .int .i64 x14_3 ∧ Aside0 (contangolaw49_HaircutAlike.l1 kq (wrap64 (Int.tmod (IntKind.u64.wrap (a0)) (IntKind.u64.wrap (wrap64 (x6_2 + 1))))) x5_2 x6_2 t214 x12_3 x13_3 x14_3 = some r) ∧ Aside0 (kq ≤ kj14) ∧ Aside0 (Kd.R k35 35 w' w.heap.size (fun k_ => some k_ ≠ (v217 : Value).ownBlock) (.slice Ao16 x5_2.length co16) x5_2) ∧ Aside0 (Kd.R k35 35 w' w.heap.size (fun k_ => some k_ ≠ ((.slice Ao16 x5_2.length co16) : Value).ownBlock) v217 t214) ∧ Aside0 (Kd.R (Kd.int .i64) 3 w' w.heap.size (fun _ => True) v13 x13_3) ∧ Aside0 (Below w.heap.size w w'))
              case atStart => exact ⟨(0), (y219), (0), (by first | rfl | (simp; done) | (simp [*]; done)), (by first | rfl | (simp; done) | (simp [*]; done)), H', ⟨Nat.le_refl _⟩, ⟨by (with_reducible repeat (first | apply Kd.R_alloc | apply Kd.R_drewN | apply Kd.R_drew)); exact HO_5.out⟩, ⟨by (with_reducible repeat (first | apply Kd.R_alloc | apply Kd.R_drewN | apply Kd.R_drew)); exact HO_9.out⟩, ⟨by (with_reducible repeat (first | apply Kd.R_alloc | apply Kd.R_drewN | apply Kd.R_drew)); exact HO221.out⟩, ⟨by repeat (first | (with_reducible first | exact HB.out | apply below_alloc | apply pw_below_drewN | apply below_drew1) | exact HB.out)⟩⟩
              case round =>
                clear H'
                try clear c1
                try clear p2
                try clear q2
                try clear hx2
                try clear c6
                try clear c6b0
                try clear p6
                try clear c7
                try clear c7b0
                try clear c8
                try clear c8b0
                try clear c9
                try clear c10
                try clear c13
                try clear c13b0
                try clear c13b1
                try clear c18
                try clear c18b0
                try clear c18b1
                try clear c19
                try clear p20
                try clear q20
                try clear hx20
                try clear hx207_0
                try clear p2
                try clear p207
                try clear p6
                try clear q2
                try clear q207
                obtain ⟨x12_3, x13_3, x14_3, rfl, rfl, HA, HK3, HO_5, HO_9, HO_13, HB⟩ := hrel
                cases gk with
                | zero => exact absurd HA.out (by simp [contangolaw49_HaircutAlike.l1])
                | succ k3 =>
                  have H := HA.out
                  clear HA
                  simp only [contangolaw49_HaircutAlike.l1] at H
                  by_cases c22 : x14_3 < (x5_2.length : Int)
                  · rw [if_pos c22] at H
                    have c22b0 : decide (x14_3 < (x5_2.length : Int)) = true := decide_eq_true c22
                    clear c22
                    by_cases c23 : 0 ≤ x14_3
                    · rw [if_pos c23] at H
                      have c23b0 : decide (0 ≤ x14_3) = true := decide_eq_true c23
                      clear c23
                      have HC24 := Aside0.mk H
                      clear H
                      have p223 : 0 ≤ (x14_3 : Int) := of_decide_eq_true (by first | (with_reducible assumption) | assumption)
                      have q223 : x14_3 < (x5_2.length : Int) := of_decide_eq_true (by first | (with_reducible assumption) | assumption)
                      obtain ⟨ad223, e223, hx223_0, hx223_1, hx223_2, hx223_3⟩ := at_T35 (Kd.R_reads' HO_5.out).2.2 x14_3 p223 q223
                      cases e223
                      replace p223 := eq_true p223
                      replace q223 := eq_true q223
                      go_upto_region 21 with (fail)
                      repeat (go_quiet (fail); go_upto_region 21 with (fail))
                      go_cut [96] (fun v96 wc => ∃ (kq : Nat) (x96_23 : Bool), v96 = .bool x96_23 ∧ Aside0 (contangolaw49_HaircutAlike.j4 kq (wrap64 (Int.tmod (IntKind.u64.wrap (a0)) (IntKind.u64.wrap (wrap64 (x6_2 + 1))))) x5_2 x6_2 t214 x12_3 x13_3 x14_3 ((rd_T35 x5_2 x14_3).f2) 0 x96_23 = some r) ∧ Aside0 (kq ≤ k3) ∧ Aside0 (Kd.R k35 35 wc w.heap.size (fun k_ => some k_ ≠ (v217 : Value).ownBlock) (.slice (some ad223) x5_2.length co16) x5_2) ∧ Aside0 (Kd.R k35 35 wc w.heap.size (fun k_ => some k_ ≠ ((.slice (some ad223) x5_2.length co16) : Value).ownBlock) v217 t214) ∧ Aside0 (Kd.R (Kd.int .i64) 3 wc w.heap.size (fun _ => True) u13 x13_3) ∧ Aside0 (Below w.heap.size w wc))
                      case first =>
                        have H := HC24.out
                        clear HC24
                        by_cases c25 : x12_3 < (t214.length : Int)
                        · rw [if_pos c25] at H
                          have c25b0 : decide (x12_3 < (t214.length : Int)) = true := decide_eq_true c25
                          clear c25
                          (first | rw [c25b0] | (simp only [i64_w, i32_w]; rw [c25b0]) | skip)
                          by_cases c26 : 0 ≤ x12_3
                          · rw [if_pos c26] at H
                            have c26b0 : decide (0 ≤ x12_3) = true := decide_eq_true c26
                            clear c26
                            have H' := Aside0.mk H
                            clear H
                            obtain ⟨Ao27, co27, eo27⟩ := Kd.R_slice HO_9.out
                            subst eo27
                            have p224 : 0 ≤ (x12_3 : Int) := of_decide_eq_true (by first | (with_reducible assumption) | assumption)
                            have q224 : x12_3 < (t214.length : Int) := of_decide_eq_true (by first | (with_reducible assumption) | assumption)
                            obtain ⟨ad224, e224, hx224_0, hx224_1, hx224_2, hx224_3⟩ := at_T35 (Kd.R_reads' HO_9.out).2.2 x12_3 p224 q224
                            cases e224
                            replace p224 := eq_true p224
                            replace q224 := eq_true q224
                            go_wp2
                            repeat (go_quiet (fail); try go_wp2)
                            go_meet
                            case rel => exact ⟨_, (decide (((rd_T35 t214 x12_3).f2) > 0)), (by first | rfl | (simp; done) | (simp [*]; done)), H', ⟨by have := HJ2.out; have := HJ14.out; have := HK3.out; first | omega | exact Nat.le_refl _⟩, ⟨by (with_reducible repeat (first | apply Kd.R_alloc | apply Kd.R_drewN | apply Kd.R_drew)); exact HO_5.out⟩, ⟨by (with_reducible repeat (first | apply Kd.R_alloc | apply Kd.R_drewN | apply Kd.R_drew)); exact HO_9.out⟩, ⟨by (with_reducible repeat (first | apply Kd.R_alloc | apply Kd.R_drewN | apply Kd.R_drew)); exact HO_13.out⟩, ⟨by repeat (first | (with_reducible first | exact HB.out | apply below_alloc | apply pw_below_drewN | apply below_drew1) | exact HB.out)⟩⟩
                          · rw [if_neg c26] at H
                            exact absurd H (by simp)
                        · rw [if_neg c25] at H
                          have c25b0 : decide (x12_3 < (t214.length : Int)) = false := decide_eq_false c25
                          clear c25
                          (first | rw [c25b0] | (simp only [i64_w, i32_w]; rw [c25b0]) | skip)
                          have H' := Aside0.mk H
                          clear H
                          obtain ⟨Ao28, co28, eo28⟩ := Kd.R_slice HO_9.out
                          subst eo28
                          go_wp2
                          repeat (go_quiet (fail); try go_wp2)
                          go_meet
                          case rel => exact ⟨_, (false), (by first | rfl | (simp; done) | (simp [*]; done)), H', ⟨by have := HJ2.out; have := HJ14.out; have := HK3.out; first | omega | exact Nat.le_refl _⟩, ⟨by (with_reducible repeat (first | apply Kd.R_alloc | apply Kd.R_drewN | apply Kd.R_drew)); exact HO_5.out⟩, ⟨by (with_reducible repeat (first | apply Kd.R_alloc | apply Kd.R_drewN | apply Kd.R_drew)); exact HO_9.out⟩, ⟨by (with_reducible repeat (first | apply Kd.R_alloc | apply Kd.R_drewN | apply Kd.R_drew)); exact HO_13.out⟩, ⟨by repeat (first | (with_reducible first | exact HB.out | apply below_alloc | apply pw_below_drewN | apply below_drew1) | exact HB.out)⟩⟩
                      case rest =>
                        clear HC24
                        try clear c1
                        try clear c2
                        try clear p2
                        try clear q2
                        try clear hx2
                        try clear c6
                        try clear c6b0
                        try clear p6
                        try clear c7
                        try clear c7b0
                        try clear c8
                        try clear c8b0
                        try clear c9
                        try clear c10
                        try clear c13
                        try clear c13b0
                        try clear c13b1
                        try clear c18
                        try clear c18b0
                        try clear c18b1
                        try clear c19
                        try clear p20
                        try clear q20
                        try clear hx20
                        try clear c22
                        try clear c22b0
                        try clear p22
                        try clear q22
                        try clear hx22
                        try clear c23
                        try clear c23b0
                        try clear c25
                        try clear c25b0
                        try clear c26
                        try clear c26b0
                        try clear hx207_0
                        try clear hx223_0
                        try clear hx223_1
                        try clear hx223_2
                        try clear hx223_3
                        try clear hx224_0
                        try clear hx224_1
                        try clear hx224_2
                        try clear hx224_3
                        try clear p2
                        try clear p20
                        try clear p207
                        try clear p223
                        try clear p224
                        try clear p6
                        try clear q2
                        try clear q20
                        try clear q207
                        try clear q223
                        try clear q224
                        obtain ⟨kq, x96_23, rfl, HA, HJ23, HO_5, HO_9, HO_13, HB⟩ := hcut
                        cases kq with
                        | zero => exact absurd HA.out (by simp [contangolaw49_HaircutAlike.j4])
                        | succ kj23 =>
                          have H := HA.out
                          clear HA
                          simp only [contangolaw49_HaircutAlike.j4] at H
                          have HC29 := Aside0.mk H
                          clear H
                          go_upto_if 96 with (fail)
                          repeat (go_quiet (fail); go_upto_if 96 with (fail))
                          go_cut [12, 16] (fun v12 v16 wc => ∃ (kq : Nat) (x12_28 : Int) (x16_28 : Int), v12 = .int .i64 x12_28 ∧ v16 = .int .i64 x16_28 ∧ Aside0 (contangolaw49_HaircutAlike.j5 kq (wrap64 (Int.tmod (IntKind.u64.wrap (a0)) (IntKind.u64.wrap (wrap64 (x6_2 + 1))))) x5_2 x6_2 t214 x12_28 x13_3 x14_3 ((rd_T35 x5_2 x14_3).f2) x16_28 = some r) ∧ Aside0 (kq ≤ kj23) ∧ Aside0 (Kd.R k35 35 wc w.heap.size (fun k_ => some k_ ≠ (v217 : Value).ownBlock) (.slice (some ad223) x5_2.length co16) x5_2) ∧ Aside0 (Kd.R k35 35 wc w.heap.size (fun k_ => some k_ ≠ ((.slice (some ad223) x5_2.length co16) : Value).ownBlock) v217 t214) ∧ Aside0 (Kd.R (Kd.int .i64) 3 wc w.heap.size (fun _ => True) u13 x13_3) ∧ Aside0 (Below w.heap.size w wc))
                          case first =>
                            have H := HC29.out
                            clear HC29
                            by_cases c30 : x96_23 = true
                            · subst c30
                              have H1 : (if 0 ≤ x12_3 then (if x12_3 < (t214.length : Int) then (contangolaw49_HaircutAlike.j5 kj23 (wrap64 (Int.tmod (IntKind.u64.wrap (a0)) (IntKind.u64.wrap (wrap64 (x6_2 + 1))))) x5_2 x6_2 t214 (wrap64 (x12_3 + 1)) x13_3 x14_3 ((rd_T35 x5_2 x14_3).f2) ((rd_T35 t214 x12_3).f2)) else (none)) else (none)) = some r := by rw [if_pos rfl] at H; exact H
                              clear H
                              have H := H1
                              clear H1
                              by_cases c31 : 0 ≤ x12_3
                              · rw [if_pos c31] at H
                                have c31b0 : decide (0 ≤ x12_3) = true := decide_eq_true c31
                                clear c31
                                (first | rw [c31b0] | (simp only [i64_w, i32_w]; rw [c31b0]) | skip)
                                by_cases c32 : x12_3 < (t214.length : Int)
                                · rw [if_pos c32] at H
                                  have c32b0 : decide (x12_3 < (t214.length : Int)) = true := decide_eq_true c32
                                  clear c32
                                  have H' := Aside0.mk H
                                  clear H
                                  obtain ⟨Ao33, co33, eo33⟩ := Kd.R_slice HO_9.out
                                  subst eo33
                                  have p225 : 0 ≤ (x12_3 : Int) := of_decide_eq_true (by first | (with_reducible assumption) | assumption)
                                  have q225 : x12_3 < (t214.length : Int) := of_decide_eq_true (by first | (with_reducible assumption) | assumption)
                                  obtain ⟨ad225, e225, hx225_0, hx225_1, hx225_2, hx225_3⟩ := at_T35 (Kd.R_reads' HO_9.out).2.2 x12_3 p225 q225
                                  cases e225
                                  replace p225 := eq_true p225
                                  replace q225 := eq_true q225
                                  go_wp2
                                  repeat (go_quiet (fail); try go_wp2)
                                  go_meet
                                  case rel => exact ⟨_, (wrap64 (x12_3 + 1)), ((rd_T35 t214 x12_3).f2), (by first | rfl | (simp; done) | (simp [*]; done)), (by first | rfl | (simp; done) | (simp [*]; done)), H', ⟨by have := HJ2.out; have := HJ14.out; have := HK3.out; have := HJ23.out; first | omega | exact Nat.le_refl _⟩, ⟨by (with_reducible repeat (first | apply Kd.R_alloc | apply Kd.R_drewN | apply Kd.R_drew)); exact HO_5.out⟩, ⟨by (with_reducible repeat (first | apply Kd.R_alloc | apply Kd.R_drewN | apply Kd.R_drew)); exact HO_9.out⟩, ⟨by (with_reducible repeat (first | apply Kd.R_alloc | apply Kd.R_drewN | apply Kd.R_drew)); exact HO_13.out⟩, ⟨by repeat (first | (with_reducible first | exact HB.out | apply below_alloc | apply pw_below_drewN | apply below_drew1) | exact HB.out)⟩⟩
                                · rw [if_neg c32] at H
                                  exact absurd H (by simp)
                              · rw [if_neg c31] at H
                                exact absurd H (by simp)
                            · replace c30 := Bool.eq_false_iff.mpr c30
                              subst c30
                              have H1 : (contangolaw49_HaircutAlike.j5 kj23 (wrap64 (Int.tmod (IntKind.u64.wrap (a0)) (IntKind.u64.wrap (wrap64 (x6_2 + 1))))) x5_2 x6_2 t214 x12_3 x13_3 x14_3 ((rd_T35 x5_2 x14_3).f2) 0) = some r := by rw [if_neg (show ¬ (false = true) by decide)] at H; exact H
                              clear H
                              have H := H1
                              clear H1
                              have H' := Aside0.mk H
                              clear H
                              go_wp2
                              repeat (go_quiet (fail); try go_wp2)
                              go_meet
                              case rel => exact ⟨_, (x12_3), (0), (by first | rfl | (simp; done) | (simp [*]; done)), (by first | rfl | (simp; done) | (simp [*]; done)), H', ⟨by have := HJ2.out; have := HJ14.out; have := HK3.out; have := HJ23.out; first | omega | exact Nat.le_refl _⟩, ⟨by (with_reducible repeat (first | apply Kd.R_alloc | apply Kd.R_drewN | apply Kd.R_drew)); exact HO_5.out⟩, ⟨by (with_reducible repeat (first | apply Kd.R_alloc | apply Kd.R_drewN | apply Kd.R_drew)); exact HO_9.out⟩, ⟨by (with_reducible repeat (first | apply Kd.R_alloc | apply Kd.R_drewN | apply Kd.R_drew)); exact HO_13.out⟩, ⟨by repeat (first | (with_reducible first | exact HB.out | apply below_alloc | apply pw_below_drewN | apply below_drew1) | exact HB.out)⟩⟩
                          case rest =>
                            clear HC29
                            try clear c1
                            try clear c2
                            try clear p2
                            try clear q2
                            try clear hx2
                            try clear c3
                            try clear c6
                            try clear c6b0
                            try clear p6
                            try clear c7
                            try clear c7b0
                            try clear c8
                            try clear c8b0
                            try clear c9
                            try clear c10
                            try clear c13
                            try clear c13b0
                            try clear c13b1
                            try clear c18
                            try clear c18b0
                            try clear c18b1
                            try clear c19
                            try clear p20
                            try clear q20
                            try clear hx20
                            try clear c22
                            try clear c22b0
                            try clear p22
                            try clear q22
                            try clear hx22
                            try clear c23
                            try clear c23b0
                            try clear c25
                            try clear c25b0
                            try clear c26
                            try clear c26b0
                            try clear c30
                            try clear c31
                            try clear c31b0
                            try clear c32
                            try clear c32b0
                            try clear hx207_0
                            try clear hx223_0
                            try clear hx223_1
                            try clear hx223_2
                            try clear hx223_3
                            try clear hx224_0
                            try clear hx224_1
                            try clear hx224_2
                            try clear hx224_3
                            try clear hx225_0
                            try clear hx225_1
                            try clear hx225_2
                            try clear hx225_3
                            try clear p2
                            try clear p20
                            try clear p207
                            try clear p22
                            try clear p223
                            try clear p224
                            try clear p225
                            try clear p6
                            try clear q2
                            try clear q20
                            try clear q207
                            try clear q22
                            try clear q223
                            try clear q224
                            try clear q225
                            obtain ⟨kq, x12_28, x16_28, rfl, rfl, HA, HJ28, HO_5, HO_9, HO_13, HB⟩ := hcut
                            cases kq with
                            | zero => exact absurd HA.out (by simp [contangolaw49_HaircutAlike.j5])
                            | succ kj28 =>
                              have H := HA.out
                              clear HA
                              simp only [contangolaw49_HaircutAlike.j5] at H
                              have HC34 := Aside0.mk H
                              clear H
                              go_upto_region 24 with (fail)
                              repeat (go_quiet (fail); go_upto_region 24 with (fail))
                              go_cut [119] (fun v119 wc => ∃ (kq : Nat) (x119_33 : Bool), v119 = .bool x119_33 ∧ Aside0 (contangolaw49_HaircutAlike.j6 kq (wrap64 (Int.tmod (IntKind.u64.wrap (a0)) (IntKind.u64.wrap (wrap64 (x6_2 + 1))))) x5_2 x6_2 t214 x12_28 x13_3 x14_3 ((rd_T35 x5_2 x14_3).f2) x16_28 x119_33 = some r) ∧ Aside0 (kq ≤ kj28) ∧ Aside0 (Kd.R k35 35 wc w.heap.size (fun k_ => some k_ ≠ (v217 : Value).ownBlock) (.slice (some ad223) x5_2.length co16) x5_2) ∧ Aside0 (Kd.R k35 35 wc w.heap.size (fun k_ => some k_ ≠ ((.slice (some ad223) x5_2.length co16) : Value).ownBlock) v217 t214) ∧ Aside0 (Kd.R (Kd.int .i64) 3 wc w.heap.size (fun _ => True) u13 x13_3) ∧ Aside0 (Below w.heap.size w wc))
                              case first =>
                                have H := HC34.out
                                clear HC34
                                by_cases c35 : x12_28 ≥ (t214.length : Int)
                                · rw [if_pos c35] at H
                                  have c35b0 : decide ((t214.length : Int) ≤ x12_28) = true := decide_eq_true c35
                                  clear c35
                                  (first | rw [c35b0] | (simp only [i64_w, i32_w]; rw [c35b0]) | skip)
                                  have H' := Aside0.mk H
                                  clear H
                                  obtain ⟨Ao36, co36, eo36⟩ := Kd.R_slice HO_9.out
                                  subst eo36
                                  go_wp2
                                  repeat (go_quiet (fail); try go_wp2)
                                  go_meet
                                  case rel => exact ⟨_, (true), (by first | rfl | (simp; done) | (simp [*]; done)), H', ⟨by have := HJ2.out; have := HJ14.out; have := HK3.out; have := HJ23.out; have := HJ28.out; first | omega | exact Nat.le_refl _⟩, ⟨by (with_reducible repeat (first | apply Kd.R_alloc | apply Kd.R_drewN | apply Kd.R_drew)); exact HO_5.out⟩, ⟨by (with_reducible repeat (first | apply Kd.R_alloc | apply Kd.R_drewN | apply Kd.R_drew)); exact HO_9.out⟩, ⟨by (with_reducible repeat (first | apply Kd.R_alloc | apply Kd.R_drewN | apply Kd.R_drew)); exact HO_13.out⟩, ⟨by repeat (first | (with_reducible first | exact HB.out | apply below_alloc | apply pw_below_drewN | apply below_drew1) | exact HB.out)⟩⟩
                                · rw [if_neg c35] at H
                                  have c35b0 : decide ((t214.length : Int) ≤ x12_28) = false := decide_eq_false c35
                                  clear c35
                                  (first | rw [c35b0] | (simp only [i64_w, i32_w]; rw [c35b0]) | skip)
                                  by_cases c37 : 0 ≤ x12_28
                                  · rw [if_pos c37] at H
                                    have c37b0 : decide (0 ≤ x12_28) = true := decide_eq_true c37
                                    clear c37
                                    by_cases c38 : x12_28 < (t214.length : Int)
                                    · rw [if_pos c38] at H
                                      have c38b0 : decide (x12_28 < (t214.length : Int)) = true := decide_eq_true c38
                                      clear c38
                                      obtain ⟨ji39, hji39⟩ : ∃ j_ : Int, (wrap64 (x14_3 + 1)) = j_ := ⟨_, rfl⟩
                                      replace H : (if 0 ≤ (ji39) then (if (ji39) < (x5_2.length : Int) then (contangolaw49_HaircutAlike.j6 kj28 (wrap64 (Int.tmod (IntKind.u64.wrap (a0)) (IntKind.u64.wrap (wrap64 (x6_2 + 1))))) x5_2 x6_2 t214 x12_28 x13_3 x14_3 ((rd_T35 x5_2 x14_3).f2) x16_28 (!((((rd_T35 t214 x12_28).f0).toList) == (((rd_T35 x5_2 (ji39)).f0).toList)) || (!(((rd_T35 t214 x12_28).f1) == ((rd_T35 x5_2 (ji39)).f1)) || (!(((rd_T35 t214 x12_28).f2) == ((rd_T35 x5_2 (ji39)).f2)) || (!(((rd_T35 t214 x12_28).f3) == ((rd_T35 x5_2 (ji39)).f3))))))) else (none)) else (none)) = some r := by first | (rw [hji39] at H; exact H) | (simp only [hji39] at H ⊢; exact H)
                                      have hji39w : (IntKind.i64.wrap (x14_3 + 1)) = ji39 := (i64_w _).trans hji39
                                      by_cases c40 : 0 ≤ (ji39)
                                      · rw [if_pos c40] at H
                                        have c40b0 : decide (0 ≤ (ji39)) = true := decide_eq_true c40
                                        clear c40
                                        by_cases c41 : (ji39) < (x5_2.length : Int)
                                        · rw [if_pos c41] at H
                                          have c41b0 : decide ((ji39) < (x5_2.length : Int)) = true := decide_eq_true c41
                                          clear c41
                                          have H' := Aside0.mk H
                                          clear H
                                          obtain ⟨Ao42, co42, eo42⟩ := Kd.R_slice HO_9.out
                                          subst eo42
                                          have p226 : 0 ≤ (x12_28 : Int) := of_decide_eq_true (by first | (with_reducible assumption) | assumption)
                                          have q226 : x12_28 < (t214.length : Int) := of_decide_eq_true (by first | (with_reducible assumption) | assumption)
                                          obtain ⟨ad226, e226, hx226_0, hx226_1, hx226_2, hx226_3⟩ := at_T35 (Kd.R_reads' HO_9.out).2.2 x12_28 p226 q226
                                          cases e226
                                          replace p226 := eq_true p226
                                          replace q226 := eq_true q226
                                          have p227 : 0 ≤ ((ji39) : Int) := of_decide_eq_true (by first | (with_reducible assumption) | assumption)
                                          have q227 : (ji39) < (x5_2.length : Int) := of_decide_eq_true (by first | (with_reducible assumption) | assumption)
                                          obtain ⟨ad227, e227, hx227_0, hx227_1, hx227_2, hx227_3⟩ := at_T35 (Kd.R_reads' HO_5.out).2.2 (ji39) p227 q227
                                          obtain rfl : ad223 = ad227 := (by injection e227)
                                          replace p227 := eq_true p227
                                          replace q227 := eq_true q227
                                          go_wp2
                                          repeat (go_quiet (fail); try go_wp2)
                                          go_meet
                                          case rel => exact ⟨_, ((!((((rd_T35 t214 x12_28).f0).toList) == (((rd_T35 x5_2 (ji39)).f0).toList)) || (!(((rd_T35 t214 x12_28).f1) == ((rd_T35 x5_2 (ji39)).f1)) || (!(((rd_T35 t214 x12_28).f2) == ((rd_T35 x5_2 (ji39)).f2)) || (!(((rd_T35 t214 x12_28).f3) == ((rd_T35 x5_2 (ji39)).f3))))))), (by first | rfl | (simp; done) | (simp only [← hji39] <;> (first | rfl | simp)) | (simp [*]; done)), H', ⟨by have := HJ2.out; have := HJ14.out; have := HK3.out; have := HJ23.out; have := HJ28.out; first | omega | exact Nat.le_refl _⟩, ⟨by (with_reducible repeat (first | apply Kd.R_alloc | apply Kd.R_drewN | apply Kd.R_drew)); exact HO_5.out⟩, ⟨by (with_reducible repeat (first | apply Kd.R_alloc | apply Kd.R_drewN | apply Kd.R_drew)); exact HO_9.out⟩, ⟨by (with_reducible repeat (first | apply Kd.R_alloc | apply Kd.R_drewN | apply Kd.R_drew)); exact HO_13.out⟩, ⟨by repeat (first | (with_reducible first | exact HB.out | apply below_alloc | apply pw_below_drewN | apply below_drew1) | exact HB.out)⟩⟩
                                        · rw [if_neg c41] at H
                                          exact absurd H (by simp)
                                      · rw [if_neg c40] at H
                                        exact absurd H (by simp)
                                    · rw [if_neg c38] at H
                                      exact absurd H (by simp)
                                  · rw [if_neg c37] at H
                                    exact absurd H (by simp)
                              case rest =>
                                clear HC34
                                try clear c1
                                try clear c2
                                try clear p2
                                try clear q2
                                try clear hx2
                                try clear c3
                                try clear c4
                                try clear c6
                                try clear c6b0
                                try clear p6
                                try clear c7
                                try clear c7b0
                                try clear c8
                                try clear c8b0
                                try clear c9
                                try clear c10
                                try clear c13
                                try clear c13b0
                                try clear c13b1
                                try clear c18
                                try clear c18b0
                                try clear c18b1
                                try clear c19
                                try clear p20
                                try clear q20
                                try clear hx20
                                try clear c22
                                try clear c22b0
                                try clear p22
                                try clear q22
                                try clear hx22
                                try clear c23
                                try clear c23b0
                                try clear c25
                                try clear c25b0
                                try clear c26
                                try clear c26b0
                                try clear c30
                                try clear c31
                                try clear c31b0
                                try clear c32
                                try clear c32b0
                                try clear c35
                                try clear c35b0
                                try clear c37
                                try clear c37b0
                                try clear c38
                                try clear c38b0
                                try clear c40
                                try clear c40b0
                                try clear c41
                                try clear c41b0
                                try clear hx207_0
                                try clear hx223_0
                                try clear hx223_1
                                try clear hx223_2
                                try clear hx223_3
                                try clear hx224_0
                                try clear hx224_1
                                try clear hx224_2
                                try clear hx224_3
                                try clear hx225_0
                                try clear hx225_1
                                try clear hx225_2
                                try clear hx225_3
                                try clear hx226_0
                                try clear hx226_1
                                try clear hx226_2
                                try clear hx226_3
                                try clear hx227_0
                                try clear hx227_1
                                try clear hx227_2
                                try clear hx227_3
                                try clear p2
                                try clear p20
                                try clear p207
                                try clear p22
                                try clear p223
                                try clear p224
                                try clear p225
                                try clear p226
                                try clear p227
                                try clear p6
                                try clear q2
                                try clear q20
                                try clear q207
                                try clear q22
                                try clear q223
                                try clear q224
                                try clear q225
                                try clear q226
                                try clear q227
                                obtain ⟨kq, x119_33, rfl, HA, HJ33, HO_5, HO_9, HO_13, HB⟩ := hcut
                                cases kq with
                                | zero => exact absurd HA.out (by simp [contangolaw49_HaircutAlike.j6])
                                | succ kj33 =>
                                  have H := HA.out
                                  clear HA
                                  simp only [contangolaw49_HaircutAlike.j6] at H
                                  by_cases c43 : x119_33 = true
                                  · subst c43
                                    have H1 : (none) = some r := by rw [if_pos rfl] at H; exact H
                                    clear H
                                    have H := H1
                                    clear H1
                                    exact absurd H (by simp)
                                  · replace c43 := Bool.eq_false_iff.mpr c43
                                    subst c43
                                    have H1 : (if (wrap64 ((wrap64 (((rd_T35 x5_2 x14_3).f2) - x16_28)) * x6_2)) > (wrap64 ((wrap64 ((wrap64 (Int.tmod (IntKind.u64.wrap (a0)) (IntKind.u64.wrap (wrap64 (x6_2 + 1))))) * ((rd_T35 x5_2 x14_3).f2))) + x6_2)) then (contangolaw49_HaircutAlike.j7 kj33 (wrap64 (Int.tmod (IntKind.u64.wrap (a0)) (IntKind.u64.wrap (wrap64 (x6_2 + 1))))) x5_2 x6_2 t214 (wrap64 (x12_28 + 1)) x13_3 x14_3 ((rd_T35 x5_2 x14_3).f2) (wrap64 (((rd_T35 x5_2 x14_3).f2) - x16_28)) true) else (contangolaw49_HaircutAlike.j7 kj33 (wrap64 (Int.tmod (IntKind.u64.wrap (a0)) (IntKind.u64.wrap (wrap64 (x6_2 + 1))))) x5_2 x6_2 t214 (wrap64 (x12_28 + 1)) x13_3 x14_3 ((rd_T35 x5_2 x14_3).f2) (wrap64 (((rd_T35 x5_2 x14_3).f2) - x16_28)) (decide ((wrap64 ((wrap64 (((rd_T35 x5_2 x14_3).f2) - x16_28)) * x6_2)) < (wrap64 ((wrap64 ((wrap64 (Int.tmod (IntKind.u64.wrap (a0)) (IntKind.u64.wrap (wrap64 (x6_2 + 1))))) * ((rd_T35 x5_2 x14_3).f2))) - x6_2)))))) = some r := by rw [if_neg (show ¬ (false = true) by decide)] at H; exact H
                                    clear H
                                    have H := H1
                                    clear H1
                                    have HC44 := Aside0.mk H
                                    clear H
                                    go_upto_region 28 with (fail)
                                    repeat (go_quiet (fail); go_upto_region 28 with (fail))
                                    go_cut [144] (fun v144 wc => ∃ (kq : Nat) (x144_43 : Bool), v144 = .bool x144_43 ∧ Aside0 (contangolaw49_HaircutAlike.j7 kq (wrap64 (Int.tmod (IntKind.u64.wrap (a0)) (IntKind.u64.wrap (wrap64 (x6_2 + 1))))) x5_2 x6_2 t214 (wrap64 (x12_28 + 1)) x13_3 x14_3 ((rd_T35 x5_2 x14_3).f2) (wrap64 (((rd_T35 x5_2 x14_3).f2) - x16_28)) x144_43 = some r) ∧ Aside0 (kq ≤ kj33) ∧ Aside0 (Kd.R k35 35 wc w.heap.size (fun k_ => some k_ ≠ (v217 : Value).ownBlock) (.slice (some ad223) x5_2.length co16) x5_2) ∧ Aside0 (Kd.R k35 35 wc w.heap.size (fun k_ => some k_ ≠ ((.slice (some ad223) x5_2.length co16) : Value).ownBlock) v217 t214) ∧ Aside0 (Kd.R (Kd.int .i64) 3 wc w.heap.size (fun _ => True) u13 x13_3) ∧ Aside0 (Below w.heap.size w wc))
                                    case first =>
                                      have H := HC44.out
                                      clear HC44
                                      by_cases c45 : (wrap64 ((wrap64 (((rd_T35 x5_2 x14_3).f2) - x16_28)) * x6_2)) > (wrap64 ((wrap64 ((wrap64 (Int.tmod (IntKind.u64.wrap (a0)) (IntKind.u64.wrap (wrap64 (x6_2 + 1))))) * ((rd_T35 x5_2 x14_3).f2))) + x6_2))
                                      · rw [if_pos c45] at H
                                        have c45b0 : decide ((wrap64 ((wrap64 ((wrap64 (Int.tmod (IntKind.u64.wrap (a0)) (IntKind.u64.wrap (wrap64 (x6_2 + 1))))) * ((rd_T35 x5_2 x14_3).f2))) + x6_2)) < (wrap64 ((wrap64 (((rd_T35 x5_2 x14_3).f2) - x16_28)) * x6_2))) = true := decide_eq_true c45
                                        clear c45
                                        (first | rw [c45b0] | (simp only [i64_w, i32_w]; rw [c45b0]) | skip)
                                        have H' := Aside0.mk H
                                        clear H
                                        go_wp2
                                        repeat (go_quiet (fail); try go_wp2)
                                        go_meet
                                        case rel => exact ⟨_, (true), (by first | rfl | (simp; done) | (simp [*]; done)), H', ⟨by have := HJ2.out; have := HJ14.out; have := HK3.out; have := HJ23.out; have := HJ28.out; have := HJ33.out; first | omega | exact Nat.le_refl _⟩, ⟨by (with_reducible repeat (first | apply Kd.R_alloc | apply Kd.R_drewN | apply Kd.R_drew)); exact HO_5.out⟩, ⟨by (with_reducible repeat (first | apply Kd.R_alloc | apply Kd.R_drewN | apply Kd.R_drew)); exact HO_9.out⟩, ⟨by (with_reducible repeat (first | apply Kd.R_alloc | apply Kd.R_drewN | apply Kd.R_drew)); exact HO_13.out⟩, ⟨by repeat (first | (with_reducible first | exact HB.out | apply below_alloc | apply pw_below_drewN | apply below_drew1) | exact HB.out)⟩⟩
                                      · rw [if_neg c45] at H
                                        have c45b0 : decide ((wrap64 ((wrap64 ((wrap64 (Int.tmod (IntKind.u64.wrap (a0)) (IntKind.u64.wrap (wrap64 (x6_2 + 1))))) * ((rd_T35 x5_2 x14_3).f2))) + x6_2)) < (wrap64 ((wrap64 (((rd_T35 x5_2 x14_3).f2) - x16_28)) * x6_2))) = false := decide_eq_false c45
                                        clear c45
                                        (first | rw [c45b0] | (simp only [i64_w, i32_w]; rw [c45b0]) | skip)
                                        have H' := Aside0.mk H
                                        clear H
                                        go_wp2
                                        repeat (go_quiet (fail); try go_wp2)
                                        go_meet
                                        case rel => exact ⟨_, (decide ((wrap64 ((wrap64 (((rd_T35 x5_2 x14_3).f2) - x16_28)) * x6_2)) < (wrap64 ((wrap64 ((wrap64 (Int.tmod (IntKind.u64.wrap (a0)) (IntKind.u64.wrap (wrap64 (x6_2 + 1))))) * ((rd_T35 x5_2 x14_3).f2))) - x6_2)))), (by first | rfl | (simp; done) | (simp [*]; done)), H', ⟨by have := HJ2.out; have := HJ14.out; have := HK3.out; have := HJ23.out; have := HJ28.out; have := HJ33.out; first | omega | exact Nat.le_refl _⟩, ⟨by (with_reducible repeat (first | apply Kd.R_alloc | apply Kd.R_drewN | apply Kd.R_drew)); exact HO_5.out⟩, ⟨by (with_reducible repeat (first | apply Kd.R_alloc | apply Kd.R_drewN | apply Kd.R_drew)); exact HO_9.out⟩, ⟨by (with_reducible repeat (first | apply Kd.R_alloc | apply Kd.R_drewN | apply Kd.R_drew)); exact HO_13.out⟩, ⟨by repeat (first | (with_reducible first | exact HB.out | apply below_alloc | apply pw_below_drewN | apply below_drew1) | exact HB.out)⟩⟩
                                    case rest =>
                                      clear HC44
                                      try clear c1
                                      try clear c2
                                      try clear p2
                                      try clear q2
                                      try clear hx2
                                      try clear c3
                                      try clear c4
                                      try clear c6
                                      try clear c6b0
                                      try clear p6
                                      try clear c7
                                      try clear c7b0
                                      try clear c8
                                      try clear c8b0
                                      try clear c9
                                      try clear c10
                                      try clear c13
                                      try clear c13b0
                                      try clear c13b1
                                      try clear c18
                                      try clear c18b0
                                      try clear c18b1
                                      try clear c19
                                      try clear p20
                                      try clear q20
                                      try clear hx20
                                      try clear c22
                                      try clear c22b0
                                      try clear p22
                                      try clear q22
                                      try clear hx22
                                      try clear c23
                                      try clear c23b0
                                      try clear c25
                                      try clear c25b0
                                      try clear c26
                                      try clear c26b0
                                      try clear c30
                                      try clear c31
                                      try clear c31b0
                                      try clear c32
                                      try clear c32b0
                                      try clear c35
                                      try clear c35b0
                                      try clear c37
                                      try clear c37b0
                                      try clear c38
                                      try clear c38b0
                                      try clear c40
                                      try clear c40b0
                                      try clear c41
                                      try clear c41b0
                                      try clear c43
                                      try clear c45
                                      try clear c45b0
                                      try clear hx207_0
                                      try clear hx223_0
                                      try clear hx223_1
                                      try clear hx223_2
                                      try clear hx223_3
                                      try clear hx224_0
                                      try clear hx224_1
                                      try clear hx224_2
                                      try clear hx224_3
                                      try clear hx225_0
                                      try clear hx225_1
                                      try clear hx225_2
                                      try clear hx225_3
                                      try clear hx226_0
                                      try clear hx226_1
                                      try clear hx226_2
                                      try clear hx226_3
                                      try clear hx227_0
                                      try clear hx227_1
                                      try clear hx227_2
                                      try clear hx227_3
                                      try clear p2
                                      try clear p20
                                      try clear p207
                                      try clear p22
                                      try clear p223
                                      try clear p224
                                      try clear p225
                                      try clear p226
                                      try clear p227
                                      try clear p6
                                      try clear q2
                                      try clear q20
                                      try clear q207
                                      try clear q22
                                      try clear q223
                                      try clear q224
                                      try clear q225
                                      try clear q226
                                      try clear q227
                                      obtain ⟨kq, x144_43, rfl, HA, HJ43, HO_5, HO_9, HO_13, HB⟩ := hcut
                                      cases kq with
                                      | zero => exact absurd HA.out (by simp [contangolaw49_HaircutAlike.j7])
                                      | succ kj43 =>
                                        have H := HA.out
                                        clear HA
                                        simp only [contangolaw49_HaircutAlike.j7] at H
                                        by_cases c46 : x144_43 = true
                                        · subst c46
                                          have H1 : (none) = some r := by rw [if_pos rfl] at H; exact H
                                          clear H
                                          have H := H1
                                          clear H1
                                          exact absurd H (by simp)
                                        · replace c46 := Bool.eq_false_iff.mpr c46
                                          subst c46
                                          have H1 : (contangolaw49_HaircutAlike.l2 kj43 (wrap64 (Int.tmod (IntKind.u64.wrap (a0)) (IntKind.u64.wrap (wrap64 (x6_2 + 1))))) x5_2 x6_2 t214 (wrap64 (x12_28 + 1)) x13_3 x14_3 ((rd_T35 x5_2 x14_3).f2) (wrap64 (((rd_T35 x5_2 x14_3).f2) - x16_28)) (x13_3.length : Int) 0) = some r := by rw [if_neg (show ¬ (false = true) by decide)] at H; exact H
                                          clear H
                                          have H := H1
                                          clear H1
                                          have H' := Aside0.mk H
                                          clear H
                                          obtain ⟨Ao47, co47, eo47⟩ := Kd.R_slice HO_13.out
                                          subst eo47
                                          go_wp2
                                          repeat (go_quiet (fail); try go_wp2)
                                          go_loopg [147] kj43 (fun kq v147 w' => ∃ (x147_8 : Int), v147 = .int .i64 x147_8 ∧ Aside0 (contangolaw49_HaircutAlike.l2 kq (wrap64 (Int.tmod (IntKind.u64.wrap (a0)) (IntKind.u64.wrap (wrap64 (x6_2 + 1))))) x5_2 x6_2 t214 (wrap64 (x12_28 + 1)) x13_3 x14_3 ((rd_T35 x5_2 x14_3).f2) (wrap64 (((rd_T35 x5_2 x14_3).f2) - x16_28)) (x13_3.length : Int) x147_8 = some r) ∧ Aside0 (kq ≤ kj43) ∧ Aside0 (Kd.R k35 35 w' w.heap.size (fun k_ => some k_ ≠ (v217 : Value).ownBlock) (.slice (some ad223) x5_2.length co16) x5_2) ∧ Aside0 (Kd.R k35 35 w' w.heap.size (fun k_ => some k_ ≠ ((.slice (some ad223) x5_2.length co16) : Value).ownBlock) v217 t214) ∧ Aside0 (Kd.R (Kd.int .i64) 3 w' w.heap.size (fun _ => True) (.slice Ao47 x13_3.length co47) x13_3) ∧ Aside0 (Below w.heap.size w w'))
                                          case atStart => exact ⟨(0), (by first | rfl | (simp; done) | (simp [*]; done)), H', ⟨Nat.le_refl _⟩, ⟨by (with_reducible repeat (first | apply Kd.R_alloc | apply Kd.R_drewN | apply Kd.R_drew)); exact HO_5.out⟩, ⟨by (with_reducible repeat (first | apply Kd.R_alloc | apply Kd.R_drewN | apply Kd.R_drew)); exact HO_9.out⟩, ⟨by (with_reducible repeat (first | apply Kd.R_alloc | apply Kd.R_drewN | apply Kd.R_drew)); exact HO_13.out⟩, ⟨by repeat (first | (with_reducible first | exact HB.out | apply below_alloc | apply pw_below_drewN | apply below_drew1) | exact HB.out)⟩⟩
                                          case round =>
                                            clear H'
                                            try clear c1
                                            try clear c2
                                            try clear p2
                                            try clear q2
                                            try clear hx2
                                            try clear c3
                                            try clear c4
                                            try clear c6
                                            try clear c6b0
                                            try clear p6
                                            try clear c7
                                            try clear c7b0
                                            try clear c8
                                            try clear c8b0
                                            try clear c9
                                            try clear c10
                                            try clear c13
                                            try clear c13b0
                                            try clear c13b1
                                            try clear c18
                                            try clear c18b0
                                            try clear c18b1
                                            try clear c19
                                            try clear p20
                                            try clear q20
                                            try clear hx20
                                            try clear c22
                                            try clear c22b0
                                            try clear p22
                                            try clear q22
                                            try clear hx22
                                            try clear c23
                                            try clear c23b0
                                            try clear c25
                                            try clear c25b0
                                            try clear c26
                                            try clear c26b0
                                            try clear c30
                                            try clear c31
                                            try clear c31b0
                                            try clear c32
                                            try clear c32b0
                                            try clear c35
                                            try clear c35b0
                                            try clear c37
                                            try clear c37b0
                                            try clear c38
                                            try clear c38b0
                                            try clear c40
                                            try clear c40b0
                                            try clear c41
                                            try clear c41b0
                                            try clear c43
                                            try clear c45
                                            try clear c45b0
                                            try clear c46
                                            try clear hx207_0
                                            try clear hx223_0
                                            try clear hx223_1
                                            try clear hx223_2
                                            try clear hx223_3
                                            try clear hx224_0
                                            try clear hx224_1
                                            try clear hx224_2
                                            try clear hx224_3
                                            try clear hx225_0
                                            try clear hx225_1
                                            try clear hx225_2
                                            try clear hx225_3
                                            try clear hx226_0
                                            try clear hx226_1
                                            try clear hx226_2
                                            try clear hx226_3
                                            try clear hx227_0
                                            try clear hx227_1
                                            try clear hx227_2
                                            try clear hx227_3
                                            try clear p2
                                            try clear p20
                                            try clear p207
                                            try clear p22
                                            try clear p223
                                            try clear p224
                                            try clear p225
                                            try clear p226
                                            try clear p227
                                            try clear p6
                                            try clear q2
                                            try clear q20
                                            try clear q207
                                            try clear q22
                                            try clear q223
                                            try clear q224
                                            try clear q225
                                            try clear q226
                                            try clear q227
                                            obtain ⟨x147_8, rfl, HA, HK8, HO_5, HO_9, HO_13, HB⟩ := hrel
                                            cases gk with
                                            | zero => exact absurd HA.out (by simp [contangolaw49_HaircutAlike.l2])
                                            | succ k8 =>
                                              have H := HA.out
                                              clear HA
                                              simp only [contangolaw49_HaircutAlike.l2] at H
                                              by_cases c48 : x147_8 < (x13_3.length : Int)
                                              · rw [if_pos c48] at H
                                                have c48b0 : decide (x147_8 < (x13_3.length : Int)) = true := decide_eq_true c48
                                                clear c48
                                                obtain ⟨ji49, hji49⟩ : ∃ j_ : Int, (wrap64 (2 * x147_8)) = j_ := ⟨_, rfl⟩
                                                replace H : (if 0 ≤ (ji49) then (if (ji49) < (x5_2.length : Int) then (if ((rd_T35 x5_2 (ji49)).f2) = ((rd_T35 x5_2 x14_3).f2) then (if 0 ≤ x147_8 then (if x147_8 < (x13_3.length : Int) then (if (rd x13_3 x147_8) > (wrap64 ((wrap64 (((rd_T35 x5_2 x14_3).f2) - x16_28)) + 1)) then (none) else (if (wrap64 (((rd_T35 x5_2 x14_3).f2) - x16_28)) > (wrap64 ((rd x13_3 x147_8) + 1)) then (none) else (contangolaw49_HaircutAlike.l2 k8 (wrap64 (Int.tmod (IntKind.u64.wrap (a0)) (IntKind.u64.wrap (wrap64 (x6_2 + 1))))) x5_2 x6_2 t214 (wrap64 (x12_28 + 1)) x13_3 x14_3 ((rd_T35 x5_2 x14_3).f2) (wrap64 (((rd_T35 x5_2 x14_3).f2) - x16_28)) (x13_3.length : Int) (wrap64 (x147_8 + 1))))) else (none)) else (none)) else (contangolaw49_HaircutAlike.l2 k8 (wrap64 (Int.tmod (IntKind.u64.wrap (a0)) (IntKind.u64.wrap (wrap64 (x6_2 + 1))))) x5_2 x6_2 t214 (wrap64 (x12_28 + 1)) x13_3 x14_3 ((rd_T35 x5_2 x14_3).f2) (wrap64 (((rd_T35 x5_2 x14_3).f2) - x16_28)) (x13_3.length : Int) (wrap64 (x147_8 + 1)))) else (none)) else (none)) = some r := by first | (rw [hji49] at H; exact H) | (simp only [hji49] at H ⊢; exact H)
                                                have hji49w : (IntKind.i64.wrap (2 * x147_8)) = ji49 := (i64_w _).trans hji49
                                                by_cases c50 : 0 ≤ (ji49)
                                                · rw [if_pos c50] at H
                                                  have c50b0 : decide (0 ≤ (ji49)) = true := decide_eq_true c50
                                                  clear c50
                                                  by_cases c51 : (ji49) < (x5_2.length : Int)
                                                  · rw [if_pos c51] at H
                                                    have c51b0 : decide ((ji49) < (x5_2.length : Int)) = true := decide_eq_true c51
                                                    clear c51
                                                    by_cases c52 : ((rd_T35 x5_2 (ji49)).f2) = ((rd_T35 x5_2 x14_3).f2)
                                                    · rw [if_pos c52] at H
                                                      have c52b0 : (((rd_T35 x5_2 (ji49)).f2) == ((rd_T35 x5_2 x14_3).f2)) = true := beq_iff_eq.mpr c52
                                                      have c52b1 : (((rd_T35 x5_2 (ji49)).f2) != ((rd_T35 x5_2 x14_3).f2)) = false := bne_eq_false_iff_eq.mpr c52
                                                      clear c52
                                                      by_cases c53 : 0 ≤ x147_8
                                                      · rw [if_pos c53] at H
                                                        have c53b0 : decide (0 ≤ x147_8) = true := decide_eq_true c53
                                                        clear c53
                                                        by_cases c54 : x147_8 < (x13_3.length : Int)
                                                        · rw [if_pos c54] at H
                                                          have c54b0 : decide (x147_8 < (x13_3.length : Int)) = true := decide_eq_true c54
                                                          clear c54
                                                          by_cases c55 : (rd x13_3 x147_8) > (wrap64 ((wrap64 (((rd_T35 x5_2 x14_3).f2) - x16_28)) + 1))
                                                          · rw [if_pos c55] at H
                                                            exact absurd H (by simp)
                                                          · rw [if_neg c55] at H
                                                            have c55b0 : decide ((wrap64 ((wrap64 (((rd_T35 x5_2 x14_3).f2) - x16_28)) + 1)) < (rd x13_3 x147_8)) = false := decide_eq_false c55
                                                            clear c55
                                                            by_cases c56 : (wrap64 (((rd_T35 x5_2 x14_3).f2) - x16_28)) > (wrap64 ((rd x13_3 x147_8) + 1))
                                                            · rw [if_pos c56] at H
                                                              exact absurd H (by simp)
                                                            · rw [if_neg c56] at H
                                                              have c56b0 : decide ((wrap64 ((rd x13_3 x147_8) + 1)) < (wrap64 (((rd_T35 x5_2 x14_3).f2) - x16_28))) = false := decide_eq_false c56
                                                              clear c56
                                                              have H' := Aside0.mk H
                                                              clear H
                                                              have p228 : 0 ≤ ((ji49) : Int) := of_decide_eq_true (by first | (with_reducible assumption) | assumption)
                                                              have q228 : (ji49) < (x5_2.length : Int) := of_decide_eq_true (by first | (with_reducible assumption) | assumption)
                                                              obtain ⟨ad228, e228, hx228_0, hx228_1, hx228_2, hx228_3⟩ := at_T35 (Kd.R_reads' HO_5.out).2.2 (ji49) p228 q228
                                                              obtain rfl : ad223 = ad228 := (by injection e228)
                                                              replace p228 := eq_true p228
                                                              replace q228 := eq_true q228
                                                              have p229 : 0 ≤ (x147_8 : Int) := of_decide_eq_true (by first | (with_reducible assumption) | assumption)
                                                              have q229 : x147_8 < (x13_3.length : Int) := of_decide_eq_true (by first | (with_reducible assumption) | assumption)
                                                              obtain ⟨ad229, e229, hx229_0⟩ := Kd.at_int (Kd.R_reads' HO_13.out).2.2 x147_8 p229 q229
                                                              cases e229
                                                              replace p229 := eq_true p229
                                                              replace q229 := eq_true q229
                                                              have p230 : 0 ≤ (x147_8 : Int) := of_decide_eq_true (by first | (with_reducible assumption) | assumption)
                                                              have q230 : x147_8 < (x13_3.length : Int) := of_decide_eq_true (by first | (with_reducible assumption) | assumption)
                                                              obtain ⟨ad230, e230, hx230_0⟩ := Kd.at_int (Kd.R_reads' HO_13.out).2.2 x147_8 p230 q230
                                                              obtain rfl : ad229 = ad230 := (by injection e230)
                                                              replace p230 := eq_true p230
                                                              replace q230 := eq_true q230
                                                              go_wp2
                                                              repeat (go_quiet (fail); try go_wp2)
                                                              go_roundg k8
                                                              case measure => have := HJ2.out; have := HJ14.out; have := HK3.out; have := HJ23.out; have := HJ28.out; have := HJ33.out; have := HJ43.out; have := HK8.out; omega
                                                              case rel => exact ⟨(wrap64 (x147_8 + 1)), (by first | rfl | (simp; done) | (simp [*]; done)), H', ⟨by have := HJ2.out; have := HJ14.out; have := HK3.out; have := HJ23.out; have := HJ28.out; have := HJ33.out; have := HJ43.out; have := HK8.out; omega⟩, ⟨by (with_reducible repeat (first | apply Kd.R_alloc | apply Kd.R_drewN | apply Kd.R_drew)); exact HO_5.out⟩, ⟨by (with_reducible repeat (first | apply Kd.R_alloc | apply Kd.R_drewN | apply Kd.R_drew)); exact HO_9.out⟩, ⟨by (with_reducible repeat (first | apply Kd.R_alloc | apply Kd.R_drewN | apply Kd.R_drew)); exact HO_13.out⟩, ⟨by repeat (first | (with_reducible first | exact HB.out | apply below_alloc | apply pw_below_drewN | apply below_drew1) | exact HB.out)⟩⟩
                                                        · rw [if_neg c54] at H
                                                          exact absurd H (by simp)
                                                      · rw [if_neg c53] at H
                                                        exact absurd H (by simp)
                                                    · rw [if_neg c52] at H
                                                      have c52b0 : (((rd_T35 x5_2 (ji49)).f2) == ((rd_T35 x5_2 x14_3).f2)) = false := beq_eq_false_iff_ne.mpr c52
                                                      have c52b1 : (((rd_T35 x5_2 (ji49)).f2) != ((rd_T35 x5_2 x14_3).f2)) = true := bne_iff_ne.mpr c52
                                                      have H' := Aside0.mk H
                                                      clear H
                                                      have p228 : 0 ≤ ((ji49) : Int) := of_decide_eq_true (by first | (with_reducible assumption) | assumption)
                                                      have q228 : (ji49) < (x5_2.length : Int) := of_decide_eq_true (by first | (with_reducible assumption) | assumption)
                                                      obtain ⟨ad228, e228, hx228_0, hx228_1, hx228_2, hx228_3⟩ := at_T35 (Kd.R_reads' HO_5.out).2.2 (ji49) p228 q228
                                                      obtain rfl : ad223 = ad228 := (by injection e228)
                                                      replace p228 := eq_true p228
                                                      replace q228 := eq_true q228
                                                      go_wp2
                                                      repeat (go_quiet (fail); try go_wp2)
                                                      go_roundg k8
                                                      case measure => have := HJ2.out; have := HJ14.out; have := HK3.out; have := HJ23.out; have := HJ28.out; have := HJ33.out; have := HJ43.out; have := HK8.out; omega
                                                      case rel => exact ⟨(wrap64 (x147_8 + 1)), (by first | rfl | (simp; done) | (simp [*]; done)), H', ⟨by have := HJ2.out; have := HJ14.out; have := HK3.out; have := HJ23.out; have := HJ28.out; have := HJ33.out; have := HJ43.out; have := HK8.out; omega⟩, ⟨by (with_reducible repeat (first | apply Kd.R_alloc | apply Kd.R_drewN | apply Kd.R_drew)); exact HO_5.out⟩, ⟨by (with_reducible repeat (first | apply Kd.R_alloc | apply Kd.R_drewN | apply Kd.R_drew)); exact HO_9.out⟩, ⟨by (with_reducible repeat (first | apply Kd.R_alloc | apply Kd.R_drewN | apply Kd.R_drew)); exact HO_13.out⟩, ⟨by repeat (first | (with_reducible first | exact HB.out | apply below_alloc | apply pw_below_drewN | apply below_drew1) | exact HB.out)⟩⟩
                                                  · rw [if_neg c51] at H
                                                    exact absurd H (by simp)
                                                · rw [if_neg c50] at H
                                                  exact absurd H (by simp)
                                              · rw [if_neg c48] at H
                                                have c48b0 : decide (x147_8 < (x13_3.length : Int)) = false := decide_eq_false c48
                                                clear c48
                                                by_cases c57 : x13_3.length < 17592186044416
                                                · rw [if_pos c57] at H
                                                  have LMc57 := Aside0.mk c57
                                                  clear c57
                                                  obtain ⟨y231, hy231⟩ : ∃ y_ : List Int, y_ = (x13_3 ++ [(wrap64 (((rd_T35 x5_2 x14_3).f2) - x16_28))]) := ⟨_, rfl⟩
                                                  replace H : (contangolaw49_HaircutAlike.l1 k8 (wrap64 (Int.tmod (IntKind.u64.wrap (a0)) (IntKind.u64.wrap (wrap64 (x6_2 + 1))))) x5_2 x6_2 t214 (wrap64 (x12_28 + 1)) y231 (wrap64 (x14_3 + 2))) = some r := by first | (rw [hy231]; with_reducible exact H) | (have H2_ := (Option.bind_some _ _).symm.trans H; rw [hy231]; with_reducible exact H2_) | (have H2_ := (Option.bind_some _ _).symm.trans H; with_reducible exact H2_) | with_reducible exact H | (rw [hy231]; exact H) | exact H
                                                  have Ny231 := Aside0.mk hy231
                                                  clear hy231
                                                  have H' := Aside0.mk H
                                                  clear H
                                                  go_wp2_with (first | ((with_reducible refine gate_builtin (b := .append) (xs := #[.tmp 177, .tmp 179]) rfl ?_); at_builtin; refine Kd.R_append (Kd.int .i64) (w0 := w) w.heap.size rfl (.tmp 177) (.tmp 179) 40 3 (.int .i64 0) 8 rfl Try.underlying40 info3 rfl (by decide) (by omega) (.slice Ao47 x13_3.length co47) x13_3 (wrap64 (((rd_T35 x5_2 x14_3).f2) - x16_28)) [.int .i64 (wrap64 (((rd_T35 x5_2 x14_3).f2) - x16_28))] (fun _ => True) (fun _ => False) rfl rfl ?aP (fun _ hk => hk.elim) ?aF ?aO ?aB ?aS ?aL ?_; (case aP => exact rfl); (case aB => exact (by repeat (first | (with_reducible first | exact HB.out | apply below_alloc | apply pw_below_drewN | apply below_drew1) | exact HB.out))); (case aF => exact (fun _ _ => trivial)); (case aO => exact (by (with_reducible repeat (first | apply Kd.R_alloc | apply Kd.R_drewN | apply Kd.R_drew)); exact HO_13.out)); (case aS => exact (below_size (by repeat (first | (with_reducible first | exact HB.out | apply below_alloc | apply pw_below_drewN | apply below_drew1) | exact HB.out)))); (case aL => have := LMc57.out; omega); intro v232 w58 ho hb hg hat; rw [← Ny231.out] at ho; have n0_ := Aside0.mk (Kd.R_over' (by (with_reducible repeat (first | apply Kd.R_alloc | apply Kd.R_drewN | apply Kd.R_drew)); exact HO_5.out) (Kd.R_typed (by (with_reducible repeat (first | apply Kd.R_alloc | apply Kd.R_drewN | apply Kd.R_drew)); exact HO_13.out)) (by decide) hg); have n1_ := Aside0.mk (Kd.R_over' (by (with_reducible repeat (first | apply Kd.R_alloc | apply Kd.R_drewN | apply Kd.R_drew)); exact HO_9.out) (Kd.R_typed (by (with_reducible repeat (first | apply Kd.R_alloc | apply Kd.R_drewN | apply Kd.R_drew)); exact HO_13.out)) (by decide) hg); have n2_ := Aside0.mk (hb); have n3_ := Aside0.mk (ho); clear HO_5; clear HO_9; clear HB; clear HO_13; have HO_5 := n0_; have HO_9 := n1_; have HB := n2_; have HO233 := n3_; clear n0_ n1_ n2_ n3_; clear ho hb hg hat))
                                                  repeat (go_quiet (first | ((with_reducible refine gate_builtin (b := .append) (xs := #[.tmp 177, .tmp 179]) rfl ?_); at_builtin; refine Kd.R_append (Kd.int .i64) (w0 := w) w.heap.size rfl (.tmp 177) (.tmp 179) 40 3 (.int .i64 0) 8 rfl Try.underlying40 info3 rfl (by decide) (by omega) (.slice Ao47 x13_3.length co47) x13_3 (wrap64 (((rd_T35 x5_2 x14_3).f2) - x16_28)) [.int .i64 (wrap64 (((rd_T35 x5_2 x14_3).f2) - x16_28))] (fun _ => True) (fun _ => False) rfl rfl ?aP (fun _ hk => hk.elim) ?aF ?aO ?aB ?aS ?aL ?_; (case aP => exact rfl); (case aB => exact (by repeat (first | (with_reducible first | exact HB.out | apply below_alloc | apply pw_below_drewN | apply below_drew1) | exact HB.out))); (case aF => exact (fun _ _ => trivial)); (case aO => exact (by (with_reducible repeat (first | apply Kd.R_alloc | apply Kd.R_drewN | apply Kd.R_drew)); exact HO_13.out)); (case aS => exact (below_size (by repeat (first | (with_reducible first | exact HB.out | apply below_alloc | apply pw_below_drewN | apply below_drew1) | exact HB.out)))); (case aL => have := LMc57.out; omega); intro v232 w58 ho hb hg hat; rw [← Ny231.out] at ho; have n0_ := Aside0.mk (Kd.R_over' (by (with_reducible repeat (first | apply Kd.R_alloc | apply Kd.R_drewN | apply Kd.R_drew)); exact HO_5.out) (Kd.R_typed (by (with_reducible repeat (first | apply Kd.R_alloc | apply Kd.R_drewN | apply Kd.R_drew)); exact HO_13.out)) (by decide) hg); have n1_ := Aside0.mk (Kd.R_over' (by (with_reducible repeat (first | apply Kd.R_alloc | apply Kd.R_drewN | apply Kd.R_drew)); exact HO_9.out) (Kd.R_typed (by (with_reducible repeat (first | apply Kd.R_alloc | apply Kd.R_drewN | apply Kd.R_drew)); exact HO_13.out)) (by decide) hg); have n2_ := Aside0.mk (hb); have n3_ := Aside0.mk (ho); clear HO_5; clear HO_9; clear HB; clear HO_13; have HO_5 := n0_; have HO_9 := n1_; have HB := n2_; have HO233 := n3_; clear n0_ n1_ n2_ n3_; clear ho hb hg hat)); try go_wp2_with (first | ((with_reducible refine gate_builtin (b := .append) (xs := #[.tmp 177, .tmp 179]) rfl ?_); at_builtin; refine Kd.R_append (Kd.int .i64) (w0 := w) w.heap.size rfl (.tmp 177) (.tmp 179) 40 3 (.int .i64 0) 8 rfl Try.underlying40 info3 rfl (by decide) (by omega) (.slice Ao47 x13_3.length co47) x13_3 (wrap64 (((rd_T35 x5_2 x14_3).f2) - x16_28)) [.int .i64 (wrap64 (((rd_T35 x5_2 x14_3).f2) - x16_28))] (fun _ => True) (fun _ => False) rfl rfl ?aP (fun _ hk => hk.elim) ?aF ?aO ?aB ?aS ?aL ?_; (case aP => exact rfl); (case aB => exact (by repeat (first | (with_reducible first | exact HB.out | apply below_alloc | apply pw_below_drewN | apply below_drew1) | exact HB.out))); (case aF => exact (fun _ _ => trivial)); (case aO => exact (by (with_reducible repeat (first | apply Kd.R_alloc | apply Kd.R_drewN | apply Kd.R_drew)); exact HO_13.out)); (case aS => exact (below_size (by repeat (first | (with_reducible first | exact HB.out | apply below_alloc | apply pw_below_drewN | apply below_drew1) | exact HB.out)))); (case aL => have := LMc57.out; omega); intro v232 w58 ho hb hg hat; rw [← Ny231.out] at ho; have n0_ := Aside0.mk (Kd.R_over' (by (with_reducible repeat (first | apply Kd.R_alloc | apply Kd.R_drewN | apply Kd.R_drew)); exact HO_5.out) (Kd.R_typed (by (with_reducible repeat (first | apply Kd.R_alloc | apply Kd.R_drewN | apply Kd.R_drew)); exact HO_13.out)) (by decide) hg); have n1_ := Aside0.mk (Kd.R_over' (by (with_reducible repeat (first | apply Kd.R_alloc | apply Kd.R_drewN | apply Kd.R_drew)); exact HO_9.out) (Kd.R_typed (by (with_reducible repeat (first | apply Kd.R_alloc | apply Kd.R_drewN | apply Kd.R_drew)); exact HO_13.out)) (by decide) hg); have n2_ := Aside0.mk (hb); have n3_ := Aside0.mk (ho); clear HO_5; clear HO_9; clear HB; clear HO_13; have HO_5 := n0_; have HO_9 := n1_; have HB := n2_; have HO233 := n3_; clear n0_ n1_ n2_ n3_; clear ho hb hg hat)))
                                                  go_roundg k8
                                                  case measure => have := HJ2.out; have := HJ14.out; have := HK3.out; have := HJ23.out; have := HJ28.out; have := HJ33.out; have := HJ43.out; have := HK8.out; omega
                                                  case rel => exact ⟨((wrap64 (x12_28 + 1))), (y231), (wrap64 (x14_3 + 2)), (by first | rfl | (simp; done) | (simp [*]; done)), (by first | rfl | (simp; done) | (simp [*]; done)), H', ⟨by have := HJ2.out; have := HJ14.out; have := HK3.out; have := HJ23.out; have := HJ28.out; have := HJ33.out; have := HJ43.out; have := HK8.out; omega⟩, ⟨by (with_reducible repeat (first | apply Kd.R_alloc | apply Kd.R_drewN | apply Kd.R_drew)); exact HO_5.out⟩, ⟨by (with_reducible repeat (first | apply Kd.R_alloc | apply Kd.R_drewN | apply Kd.R_drew)); exact HO_9.out⟩, ⟨by (with_reducible repeat (first | apply Kd.R_alloc | apply Kd.R_drewN | apply Kd.R_drew)); exact HO233.out⟩, ⟨by repeat (first | (with_reducible first | exact HB.out | apply below_alloc | apply pw_below_drewN | apply below_drew1) | exact HB.out)⟩⟩
                                                · rw [if_neg c57] at H
                                                  exact absurd H (by simp)
                    · rw [if_neg c23] at H
                      exact absurd H (by simp)
                  · rw [if_neg c22] at H
                    have c22b0 : decide (x14_3 < (x5_2.length : Int)) = false := decide_eq_false c22
                    clear c22
                    by_cases c59 : x12_3 = (t214.length : Int)
                    · rw [if_pos c59] at H
                      have c59b0 : (x12_3 == (t214.length : Int)) = true := beq_iff_eq.mpr c59
                      have c59b1 : (x12_3 != (t214.length : Int)) = false := bne_eq_false_iff_eq.mpr c59
                      clear c59
                      replace H := Option.bind_eq_some_iff.mp H
                      obtain ⟨t222, A600, H⟩ := H
                      replace H : (some t222) = some r := H
                      have A60 := Aside0.mk A600
                      clear A600
                      obtain rfl := Option.some.inj H
                      obtain ⟨Ao61, co61, eo61⟩ := Kd.R_slice HO_9.out
                      subst eo61
                      go_wp2_with (first | (go_at_call 7; (with_reducible refine (contangolaw49_goes.calls k3  t222 _ A60.out).mono ?_); rintro e w62 ⟨rfl, hb⟩; have n0_ := Aside0.mk (Kd.R_below (by (with_reducible repeat (first | apply Kd.R_alloc | apply Kd.R_drewN | apply Kd.R_drew)); exact HO_5.out) hb); have n1_ := Aside0.mk (Kd.R_below (by (with_reducible repeat (first | apply Kd.R_alloc | apply Kd.R_drewN | apply Kd.R_drew)); exact HO_9.out) hb); have n2_ := Aside0.mk (Kd.R_below (by (with_reducible repeat (first | apply Kd.R_alloc | apply Kd.R_drewN | apply Kd.R_drew)); exact HO_13.out) hb); have n3_ := Aside0.mk (below_step (by repeat (first | (with_reducible first | exact HB.out | apply below_alloc | apply pw_below_drewN | apply below_drew1) | exact HB.out)) hb); clear HO_5; clear HO_9; clear HO_13; clear HB; have HO_5 := n0_; have HO_9 := n1_; have HO_13 := n2_; have HB := n3_; clear n0_ n1_ n2_ n3_; (try clear hb); (try clear hb2); (try clear hk); (try clear hi)))
                      repeat (go_quiet (first | (go_at_call 7; (with_reducible refine (contangolaw49_goes.calls k3  t222 _ A60.out).mono ?_); rintro e w62 ⟨rfl, hb⟩; have n0_ := Aside0.mk (Kd.R_below (by (with_reducible repeat (first | apply Kd.R_alloc | apply Kd.R_drewN | apply Kd.R_drew)); exact HO_5.out) hb); have n1_ := Aside0.mk (Kd.R_below (by (with_reducible repeat (first | apply Kd.R_alloc | apply Kd.R_drewN | apply Kd.R_drew)); exact HO_9.out) hb); have n2_ := Aside0.mk (Kd.R_below (by (with_reducible repeat (first | apply Kd.R_alloc | apply Kd.R_drewN | apply Kd.R_drew)); exact HO_13.out) hb); have n3_ := Aside0.mk (below_step (by repeat (first | (with_reducible first | exact HB.out | apply below_alloc | apply pw_below_drewN | apply below_drew1) | exact HB.out)) hb); clear HO_5; clear HO_9; clear HO_13; clear HB; have HO_5 := n0_; have HO_9 := n1_; have HO_13 := n2_; have HB := n3_; clear n0_ n1_ n2_ n3_; (try clear hb); (try clear hb2); (try clear hk); (try clear hi))); try go_wp2_with (first | (go_at_call 7; (with_reducible refine (contangolaw49_goes.calls k3  t222 _ A60.out).mono ?_); rintro e w62 ⟨rfl, hb⟩; have n0_ := Aside0.mk (Kd.R_below (by (with_reducible repeat (first | apply Kd.R_alloc | apply Kd.R_drewN | apply Kd.R_drew)); exact HO_5.out) hb); have n1_ := Aside0.mk (Kd.R_below (by (with_reducible repeat (first | apply Kd.R_alloc | apply Kd.R_drewN | apply Kd.R_drew)); exact HO_9.out) hb); have n2_ := Aside0.mk (Kd.R_below (by (with_reducible repeat (first | apply Kd.R_alloc | apply Kd.R_drewN | apply Kd.R_drew)); exact HO_13.out) hb); have n3_ := Aside0.mk (below_step (by repeat (first | (with_reducible first | exact HB.out | apply below_alloc | apply pw_below_drewN | apply below_drew1) | exact HB.out)) hb); clear HO_5; clear HO_9; clear HO_13; clear HB; have HO_5 := n0_; have HO_9 := n1_; have HO_13 := n2_; have HB := n3_; clear n0_ n1_ n2_ n3_; (try clear hb); (try clear hb2); (try clear hk); (try clear hi))))
                      go_ret
                      exact ⟨by first | rfl | (simp [errW_none, errW_some] <;> rfl) | (simp [*, errW_none, errW_some] <;> rfl), by repeat (first | (with_reducible first | exact HB.out | apply below_alloc | apply pw_below_drewN | apply below_drew1) | exact HB.out)⟩
                    · rw [if_neg c59] at H
                      exact absurd H (by simp)

/-- THE ONE PURE STATEMENT of contangolaw49_HaircutAlike: yours. -/
def contangolaw49_HaircutAlike.Pure : Prop := ∀ (a0 : Int) (l1 : List Int), (Lit.int .i64 a0).wf = true → l1.length ≤ maxLen → l1.length * 8 ≤ 140737488351232 → (∀ x ∈ l1, (Lit.int .i64 x).wf = true) → ∃ k, contangolaw49_HaircutAlike.f k a0 l1 = some true
theorem contangolaw49_HaircutAlike.walk (P : contangolaw49_HaircutAlike.Pure) (a0 : Int) (a1 : Option Addr) (len1 cap1 : Nat) (z1 : List Int) (w : World) (w0 : (Lit.int .i64 a0).wf = true) (w1 : (a1 = none ∧ len1 = 0 ∧ cap1 = 0 ∧ z1 = []) ∨ ∃ x, a1 = some x ∧ len1 ≤ cap1 ∧ cap1 ≤ maxLen ∧ z1.length = cap1 ∧ (∀ i, i < z1.length → w.cell? (x.add i) = some (.int .i64 (z1.getD i 0))) ∧ ∀ n ∈ z1, (Lit.int .i64 n).wf = true) (y1 : len1 * 8 ≤ 140737488351232) :
    Calls Try.prog 6 #[.int .i64 a0, .slice a1 len1 cap1] w fun e w' => e = .returned (.bool true) ∧ Below w.heap.size w w' := by
  obtain ⟨l1, rfl, hr1, hm1, hw1, hc1⟩ := ReadsInt.ofRowC w1
  obtain ⟨k, h⟩ := P a0 l1 w0 hm1 y1 hw1
  refine (contangolaw49_HaircutAlike.calls k a0 _ _ l1 true w (Kd.C_of_reads (d := (0 : Int)) (h1 := fun _ => rfl) hr1) hc1 h).mono ?_
  rintro e w' ⟨rfl, hd⟩
  exact ⟨rfl, hd⟩

end Go.Proofs.Ythoemohppeplpaa.PHaircutAlike
