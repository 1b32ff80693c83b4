/- Laid for this claim by a program of this session's (wip/mkprint.py, wip/ext.py); not trusted: Lean checks it. -/
import Derived.Test.YthoemohppeplpaaPHaircutOnlyx0
import Derived.Test.YthoemohppeplpaaPHaircutOnlyx1
import Derived.Test.YthoemohppeplpaaPHaircutOnlyx3
import Derived.Test.YthoemohppeplpaaPHaircutOnlyx5
import Derived.Test.YthoemohppeplpaaPHaircutOnlyx7
namespace Go.Proofs.Ythoemohppeplpaa.PHaircutOnly
open Go.RowKit Go.Proofs.YthoemohppeplpaaW.PrintWords Go.Proofs.YthoemohppeplpaaW.PrintLast Go.Proofs.YthoemohppeplpaaW.PrintMore
attribute [local go_sem] max2_int min2_int max_two min_two max_three min_three max_four min_four   -- for this text's walks alone
set_option linter.unusedVariables false
set_option linter.unusedSimpArgs false

attribute [local go_sem high] eqA35
/-! ### contangolaw49_HaircutOnly: function 5 -/
mutual
def contangolaw49_HaircutOnly.j0 : Nat → Int → List (S35) → Int → Int → List (S35) → Int → Int → Bool → Option (Bool)
 | 0, _, _, _, _, _, _, _, _ => none
 | k + 1, x0, x1, x2, x7, x9, x10, x11, x41 => if x41 = true then (if (x9.length : Int) = 0 then (if x10 = 0 then (if x11 = 0 then (none) else ((contangolaw49_goes.f k).bind fun t212 => (some t212))) else (none)) else (none)) else ((haircut_Gains.f k x9 x2).bind fun bt213 => (if bt213.2 = 0 then (if x10 = (mn x0 x7) then (contangolaw49_HaircutOnly.j1 k x1 x2 x9 (bt213.1 != (wrap64 (x7 - x10)))) else (contangolaw49_HaircutOnly.j1 k x1 x2 x9 true)) else (contangolaw49_HaircutOnly.j1 k x1 x2 x9 true)))
def contangolaw49_HaircutOnly.j1 : Nat → List (S35) → Int → List (S35) → Bool → Option (Bool)
 | 0, _, _, _, _ => none
 | k + 1, x1, x2, x9, x77 => if x77 = true then (none) else (contangolaw49_HaircutOnly.l0 k x1 x2 x9 0 (x1.length : Int) 0)
def contangolaw49_HaircutOnly.l0 : Nat → List (S35) → Int → List (S35) → Int → Int → Int → Option (Bool)
 | 0, _, _, _, _, _, _ => none
 | k + 1, x1, x2, x9, x14, x79, x80 => if x80 < x79 then (if 0 ≤ x80 then (if x80 < (x1.length : Int) then (if ((rd_T35 x1 x80).f3) = 1 then (if ((rd_T35 x1 x80).f1) = x2 then (contangolaw49_HaircutOnly.j3 k x1 x2 x9 x14 x80 (decide (((rd_T35 x1 x80).f2) > 0)) x79 x80) else (contangolaw49_HaircutOnly.j3 k x1 x2 x9 x14 x80 false x79 x80)) else (contangolaw49_HaircutOnly.j3 k x1 x2 x9 x14 x80 false x79 x80)) else (none)) else (none)) else (if x14 = (x9.length : Int) then ((contangolaw49_goes.f k).bind fun t215 => (some t215)) else (none))
def contangolaw49_HaircutOnly.j3 : Nat → List (S35) → Int → List (S35) → Int → Int → Bool → Int → Int → Option (Bool)
 | 0, _, _, _, _, _, _, _, _ => none
 | k + 1, x1, x2, x9, x14, x15, x16, x79, x80 => if 0 ≤ x15 then (if x15 < (x1.length : Int) then (if ((rd_T35 x1 x15).f2) = 0 then (contangolaw49_HaircutOnly.l0 k x1 x2 x9 x14 x79 (wrap64 (x80 + 1))) else (if x14 < (x9.length : Int) then (if 0 ≤ x14 then (contangolaw49_HaircutOnly.j4 k x1 x2 x9 x14 x15 x16 x79 x80 ((((rd_T35 x9 x14).f0).toList) == (((rd_T35 x1 x15).f0).toList) && (((rd_T35 x9 x14).f1) == ((rd_T35 x1 x15).f1) && (((rd_T35 x9 x14).f2) == ((rd_T35 x1 x15).f2) && (((rd_T35 x9 x14).f3) == ((rd_T35 x1 x15).f3)))))) else (none)) else (contangolaw49_HaircutOnly.j4 k x1 x2 x9 x14 x15 x16 x79 x80 false))) else (none)) else (none)
def contangolaw49_HaircutOnly.j4 : Nat → List (S35) → Int → List (S35) → Int → Int → Bool → Int → Int → Bool → Option (Bool)
 | 0, _, _, _, _, _, _, _, _, _ => none
 | k + 1, x1, x2, x9, x14, x15, x16, x79, x80, x126 => if x126 = true then (contangolaw49_HaircutOnly.l0 k x1 x2 x9 (wrap64 (x14 + 1)) x79 (wrap64 (x80 + 1))) else (if x16 = true then (if 0 ≤ x15 then (if x15 < (x1.length : Int) then (if x14 < (x9.length : Int) then (if 0 ≤ x14 then (if ((((rd_T35 x9 x14).f0).toList) == (((rd_T35 x1 x15).f0).toList) && (((rd_T35 x9 x14).f1) == ((rd_T35 x1 x15).f1) && (((rd_T35 x9 x14).f3) == ((rd_T35 x1 x15).f3)))) = true then (if ((rd_T35 x9 x14).f2) > 0 then (if ((rd_T35 x9 x14).f2) < ((rd_T35 x1 x15).f2) then (contangolaw49_HaircutOnly.l0 k x1 x2 x9 (wrap64 (x14 + 1)) x79 (wrap64 (x80 + 1))) else (contangolaw49_HaircutOnly.l0 k x1 x2 x9 x14 x79 (wrap64 (x80 + 1)))) else (contangolaw49_HaircutOnly.l0 k x1 x2 x9 x14 x79 (wrap64 (x80 + 1)))) else (contangolaw49_HaircutOnly.l0 k x1 x2 x9 x14 x79 (wrap64 (x80 + 1)))) else (none)) else (contangolaw49_HaircutOnly.l0 k x1 x2 x9 x14 x79 (wrap64 (x80 + 1)))) else (none)) else (none)) else (none))
end
def contangolaw49_HaircutOnly.f (k : Nat) (a0 : Int) (l1 : List (S35)) (a2 : Int) : Option (Bool) := if (l1.length : Int) > 1100 then ((contangolaw49_goes.f k).bind fun t204 => (some t204)) else ((haircut_Gains.f k l1 a2).bind fun bt205 => ((haircut_Take.f k a0 l1 a2).bind fun bt207 => (if bt205.2 = 0 then (contangolaw49_HaircutOnly.j0 k a0 l1 a2 bt205.1 bt207.1 bt207.2.1 bt207.2.2 (bt207.2.2 != 0)) else (contangolaw49_HaircutOnly.j0 k a0 l1 a2 bt205.1 bt207.1 bt207.2.1 bt207.2.2 true))))
theorem contangolaw49_HaircutOnly.mono_l : ∀ k, (∀ y0 y1 y2 y3 y4 y5 y6 y7, LeO (contangolaw49_HaircutOnly.j0 k y0 y1 y2 y3 y4 y5 y6 y7) (contangolaw49_HaircutOnly.j0 (k + 1) y0 y1 y2 y3 y4 y5 y6 y7)) ∧ (∀ y0 y1 y2 y3, LeO (contangolaw49_HaircutOnly.j1 k y0 y1 y2 y3) (contangolaw49_HaircutOnly.j1 (k + 1) y0 y1 y2 y3)) ∧ (∀ y0 y1 y2 y3 y4 y5, LeO (contangolaw49_HaircutOnly.l0 k y0 y1 y2 y3 y4 y5) (contangolaw49_HaircutOnly.l0 (k + 1) y0 y1 y2 y3 y4 y5)) ∧ (∀ y0 y1 y2 y3 y4 y5 y6 y7, LeO (contangolaw49_HaircutOnly.j3 k y0 y1 y2 y3 y4 y5 y6 y7) (contangolaw49_HaircutOnly.j3 (k + 1) y0 y1 y2 y3 y4 y5 y6 y7)) ∧ (∀ y0 y1 y2 y3 y4 y5 y6 y7 y8, LeO (contangolaw49_HaircutOnly.j4 k y0 y1 y2 y3 y4 y5 y6 y7 y8) (contangolaw49_HaircutOnly.j4 (k + 1) y0 y1 y2 y3 y4 y5 y6 y7 y8))
 | 0 => ⟨fun _ _ _ _ _ _ _ _ r h => by simp [contangolaw49_HaircutOnly.j0] at h, fun _ _ _ _ r h => by simp [contangolaw49_HaircutOnly.j1] at h, fun _ _ _ _ _ _ r h => by simp [contangolaw49_HaircutOnly.l0] at h, fun _ _ _ _ _ _ _ _ r h => by simp [contangolaw49_HaircutOnly.j3] at h, fun _ _ _ _ _ _ _ _ _ r h => by simp [contangolaw49_HaircutOnly.j4] at h⟩
 | k + 1 => by
  obtain ⟨ih0, ih1, ih2, ih3, ih4⟩ := contangolaw49_HaircutOnly.mono_l k
  refine ⟨?_, ?_, ?_, ?_, ?_⟩
  ·intro y0 y1 y2 y3 y4 y5 y6 y7
   unfold contangolaw49_HaircutOnly.j0
   repeat' first
   | (with_reducible exact ih0 _ _ _ _ _ _ _ _)
   | (with_reducible exact ih1 _ _ _ _)
   | (with_reducible exact ih2 _ _ _ _ _ _)
   | (with_reducible exact ih3 _ _ _ _ _ _ _ _)
   | (with_reducible exact ih4 _ _ _ _ _ _ _ _ _)
   | (with_reducible exact contangolaw49_goes.mono _)
   | (with_reducible exact haircut_Gains.mono _ _ _)
   | (with_reducible exact haircut_Take.mono _ _ _ _)
   | (with_reducible exact LeO.refl _)
   | (with_reducible exact LeO.none _)
   | (with_reducible refine LeO.ite ?_ ?_)
   | (with_reducible refine LeO.bind ?_ (fun _ => ?_))
   | exact ih0 _ _ _ _ _ _ _ _
   | exact ih1 _ _ _ _
   | exact ih2 _ _ _ _ _ _
   | exact ih3 _ _ _ _ _ _ _ _
   | exact ih4 _ _ _ _ _ _ _ _ _
   | exact contangolaw49_goes.mono _
   | exact haircut_Gains.mono _ _ _
   | exact haircut_Take.mono _ _ _ _
   | exact LeO.none _
   | refine LeO.ite ?_ ?_
   | refine LeO.bind ?_ (fun _ => ?_)
  ·intro y0 y1 y2 y3
   unfold contangolaw49_HaircutOnly.j1
   repeat' first
   | (with_reducible exact ih0 _ _ _ _ _ _ _ _)
   | (with_reducible exact ih1 _ _ _ _)
   | (with_reducible exact ih2 _ _ _ _ _ _)
   | (with_reducible exact ih3 _ _ _ _ _ _ _ _)
   | (with_reducible exact ih4 _ _ _ _ _ _ _ _ _)
   | (with_reducible exact contangolaw49_goes.mono _)
   | (with_reducible exact haircut_Gains.mono _ _ _)
   | (with_reducible exact haircut_Take.mono _ _ _ _)
   | (with_reducible exact LeO.refl _)
   | (with_reducible exact LeO.none _)
   | (with_reducible refine LeO.ite ?_ ?_)
   | (with_reducible refine LeO.bind ?_ (fun _ => ?_))
   | exact ih0 _ _ _ _ _ _ _ _
   | exact ih1 _ _ _ _
   | exact ih2 _ _ _ _ _ _
   | exact ih3 _ _ _ _ _ _ _ _
   | exact ih4 _ _ _ _ _ _ _ _ _
   | exact contangolaw49_goes.mono _
   | exact haircut_Gains.mono _ _ _
   | exact haircut_Take.mono _ _ _ _
   | exact LeO.none _
   | refine LeO.ite ?_ ?_
   | refine LeO.bind ?_ (fun _ => ?_)
  ·intro y0 y1 y2 y3 y4 y5
   unfold contangolaw49_HaircutOnly.l0
   repeat' first
   | (with_reducible exact ih0 _ _ _ _ _ _ _ _)
   | (with_reducible exact ih1 _ _ _ _)
   | (with_reducible exact ih2 _ _ _ _ _ _)
   | (with_reducible exact ih3 _ _ _ _ _ _ _ _)
   | (with_reducible exact ih4 _ _ _ _ _ _ _ _ _)
   | (with_reducible exact contangolaw49_goes.mono _)
   | (with_reducible exact haircut_Gains.mono _ _ _)
   | (with_reducible exact haircut_Take.mono _ _ _ _)
   | (with_reducible exact LeO.refl _)
   | (with_reducible exact LeO.none _)
   | (with_reducible refine LeO.ite ?_ ?_)
   | (with_reducible refine LeO.bind ?_ (fun _ => ?_))
   | exact ih0 _ _ _ _ _ _ _ _
   | exact ih1 _ _ _ _
   | exact ih2 _ _ _ _ _ _
   | exact ih3 _ _ _ _ _ _ _ _
   | exact ih4 _ _ _ _ _ _ _ _ _
   | exact contangolaw49_goes.mono _
   | exact haircut_Gains.mono _ _ _
   | exact haircut_Take.mono _ _ _ _
   | exact LeO.none _
   | refine LeO.ite ?_ ?_
   | refine LeO.bind ?_ (fun _ => ?_)
  ·intro y0 y1 y2 y3 y4 y5 y6 y7
   unfold contangolaw49_HaircutOnly.j3
   repeat' first
   | (with_reducible exact ih0 _ _ _ _ _ _ _ _)
   | (with_reducible exact ih1 _ _ _ _)
   | (with_reducible exact ih2 _ _ _ _ _ _)
   | (with_reducible exact ih3 _ _ _ _ _ _ _ _)
   | (with_reducible exact ih4 _ _ _ _ _ _ _ _ _)
   | (with_reducible exact contangolaw49_goes.mono _)
   | (with_reducible exact haircut_Gains.mono _ _ _)
   | (with_reducible exact haircut_Take.mono _ _ _ _)
   | (with_reducible exact LeO.refl _)
   | (with_reducible exact LeO.none _)
   | (with_reducible refine LeO.ite ?_ ?_)
   | (with_reducible refine LeO.bind ?_ (fun _ => ?_))
   | exact ih0 _ _ _ _ _ _ _ _
   | exact ih1 _ _ _ _
   | exact ih2 _ _ _ _ _ _
   | exact ih3 _ _ _ _ _ _ _ _
   | exact ih4 _ _ _ _ _ _ _ _ _
   | exact contangolaw49_goes.mono _
   | exact haircut_Gains.mono _ _ _
   | exact haircut_Take.mono _ _ _ _
   | exact LeO.none _
   | refine LeO.ite ?_ ?_
   | refine LeO.bind ?_ (fun _ => ?_)
  ·intro y0 y1 y2 y3 y4 y5 y6 y7 y8
   unfold contangolaw49_HaircutOnly.j4
   repeat' first
   | (with_reducible exact ih0 _ _ _ _ _ _ _ _)
   | (with_reducible exact ih1 _ _ _ _)
   | (with_reducible exact ih2 _ _ _ _ _ _)
   | (with_reducible exact ih3 _ _ _ _ _ _ _ _)
   | (with_reducible exact ih4 _ _ _ _ _ _ _ _ _)
   | (with_reducible exact contangolaw49_goes.mono _)
   | (with_reducible exact haircut_Gains.mono _ _ _)
   | (with_reducible exact haircut_Take.mono _ _ _ _)
   | (with_reducible exact LeO.refl _)
   | (with_reducible exact LeO.none _)
   | (with_reducible refine LeO.ite ?_ ?_)
   | (with_reducible refine LeO.bind ?_ (fun _ => ?_))
   | exact ih0 _ _ _ _ _ _ _ _
   | exact ih1 _ _ _ _
   | exact ih2 _ _ _ _ _ _
   | exact ih3 _ _ _ _ _ _ _ _
   | exact ih4 _ _ _ _ _ _ _ _ _
   | exact contangolaw49_goes.mono _
   | exact haircut_Gains.mono _ _ _
   | exact haircut_Take.mono _ _ _ _
   | exact LeO.none _
   | refine LeO.ite ?_ ?_
   | refine LeO.bind ?_ (fun _ => ?_)
theorem contangolaw49_HaircutOnly.mono : ∀ a0 a1 a2 k, LeO (contangolaw49_HaircutOnly.f k a0 a1 a2) (contangolaw49_HaircutOnly.f (k + 1) a0 a1 a2) := by
 intro a0 a1 a2 k
 obtain ⟨ih0, ih1, ih2, ih3, ih4⟩ := contangolaw49_HaircutOnly.mono_l k
 unfold contangolaw49_HaircutOnly.f
 repeat' first
   | (with_reducible exact ih0 _ _ _ _ _ _ _ _)
   | (with_reducible exact ih1 _ _ _ _)
   | (with_reducible exact ih2 _ _ _ _ _ _)
   | (with_reducible exact ih3 _ _ _ _ _ _ _ _)
   | (with_reducible exact ih4 _ _ _ _ _ _ _ _ _)
   | (with_reducible exact contangolaw49_goes.mono _)
   | (with_reducible exact haircut_Gains.mono _ _ _)
   | (with_reducible exact haircut_Take.mono _ _ _ _)
   | (with_reducible exact LeO.refl _)
   | (with_reducible exact LeO.none _)
   | (with_reducible refine LeO.ite ?_ ?_)
   | (with_reducible refine LeO.bind ?_ (fun _ => ?_))
   | exact ih0 _ _ _ _ _ _ _ _
   | exact ih1 _ _ _ _
   | exact ih2 _ _ _ _ _ _
   | exact ih3 _ _ _ _ _ _ _ _
   | exact ih4 _ _ _ _ _ _ _ _ _
   | exact contangolaw49_goes.mono _
   | exact haircut_Gains.mono _ _ _
   | exact haircut_Take.mono _ _ _ _
   | exact LeO.none _
   | refine LeO.ite ?_ ?_
   | refine LeO.bind ?_ (fun _ => ?_)
set_option maxHeartbeats 8000000 in
set_option maxRecDepth 100000 in
theorem contangolaw49_HaircutOnly.calls (k : Nat) (a0 : Int) (A1 : Option Addr) (c1 : Nat) (l1 : List (S35)) (a2 : Int) (r : Bool) (w : World) (hr1 : Kd.C k35 w A1 l1.length l1) (hc1 : l1.length ≤ c1) (h : contangolaw49_HaircutOnly.f k a0 l1 a2 = some r) :
  Calls Try.prog 5 #[.int .i64 a0, .slice A1 l1.length c1, .int .i64 a2] w fun e w' => e = .returned (.bool r) ∧ Below w.heap.size w w' := by
 have hu35 := Try.underlying35
 have HR1 := Aside0.mk hr1
 have HC1 := Aside0.mk hc1
 clear hr1 hc1
 have HB := Aside0.mk (Below.refl w.heap.size w)
 have H : (if (l1.length : Int) > 1100 then ((contangolaw49_goes.f k).bind fun t204 => (some t204)) else ((haircut_Gains.f k l1 a2).bind fun bt205 => ((haircut_Take.f k a0 l1 a2).bind fun bt207 => (if bt205.2 = 0 then (contangolaw49_HaircutOnly.j0 k a0 l1 a2 bt205.1 bt207.1 bt207.2.1 bt207.2.2 (bt207.2.2 != 0)) else (contangolaw49_HaircutOnly.j0 k a0 l1 a2 bt205.1 bt207.1 bt207.2.1 bt207.2.2 true))))) = some r := h
 clear h
 by_cases c4 : (l1.length : Int) > 1100
 ·rw [if_pos c4] at H
  have c4b0 : decide (1100 < (l1.length : Int)) = true := decide_eq_true c4
  have c4b1 : decide (1100 < l1.length) = true := decide_eq_true (by omega)
  clear c4
  replace H := Option.bind_eq_some_iff.mp H
  obtain ⟨t204, A50, H⟩ := H
  replace H : (some t204) = some r := H
  have A5 := Aside0.mk A50
  clear A50
  obtain rfl := Option.some.inj H
  go_enter Try.func5, Try.ntmps5
  go_wp2_with (first | (go_at_call 7; (with_reducible refine (contangolaw49_goes.calls k  t204 _ A5.out).mono ?_); rintro e w6 ⟨rfl, hb⟩; have n0_ := Aside0.mk (below_step (by repeat (first | (with_reducible first | exact HB.out | apply below_alloc | apply pw_below_drewN | apply below_drew1) | exact HB.out)) hb); clear HB; have HB := n0_; clear n0_; (try clear hb); (try clear hb2); (try clear hk); (try clear hi)))
  repeat (go_quiet (first | (go_at_call 7; (with_reducible refine (contangolaw49_goes.calls k  t204 _ A5.out).mono ?_); rintro e w6 ⟨rfl, hb⟩; have n0_ := Aside0.mk (below_step (by repeat (first | (with_reducible first | exact HB.out | apply below_alloc | apply pw_below_drewN | apply below_drew1) | exact HB.out)) hb); clear HB; have HB := n0_; clear n0_; (try clear hb); (try clear hb2); (try clear hk); (try clear hi))); try go_wp2_with (first | (go_at_call 7; (with_reducible refine (contangolaw49_goes.calls k  t204 _ A5.out).mono ?_); rintro e w6 ⟨rfl, hb⟩; have n0_ := Aside0.mk (below_step (by repeat (first | (with_reducible first | exact HB.out | apply below_alloc | apply pw_below_drewN | apply below_drew1) | exact HB.out)) hb); clear HB; have HB := n0_; clear n0_; (try clear hb); (try clear hb2); (try clear hk); (try clear hi))))
  go_ret
  exact ⟨by first | rfl | (simp [errW_none, errW_some] <;> rfl) | (simp [*, errW_none, errW_some] <;> rfl), by repeat (first | (with_reducible first | exact HB.out | apply below_alloc | apply pw_below_drewN | apply below_drew1) | exact HB.out)⟩
 ·rw [if_neg c4] at H
  have c4b0 : decide (1100 < (l1.length : Int)) = false := decide_eq_false c4
  have c4b1 : decide (1100 < l1.length) = false := decide_eq_false (by omega)
  clear c4
  replace H := Option.bind_eq_some_iff.mp H
  obtain ⟨⟨t205, t206⟩, A70, H⟩ := H
  replace H : ((haircut_Take.f k a0 l1 a2).bind fun bt207 => (if t206 = 0 then (contangolaw49_HaircutOnly.j0 k a0 l1 a2 t205 bt207.1 bt207.2.1 bt207.2.2 (bt207.2.2 != 0)) else (contangolaw49_HaircutOnly.j0 k a0 l1 a2 t205 bt207.1 bt207.2.1 bt207.2.2 true))) = some r := H
  have A7 := Aside0.mk A70
  clear A70
  replace H := Option.bind_eq_some_iff.mp H
  obtain ⟨⟨t207, t208, t209⟩, A80, H⟩ := H
  replace H : (if t206 = 0 then (contangolaw49_HaircutOnly.j0 k a0 l1 a2 t205 t207 t208 t209 (t209 != 0)) else (contangolaw49_HaircutOnly.j0 k a0 l1 a2 t205 t207 t208 t209 true)) = some r := H
  have A8 := Aside0.mk A80
  clear A80
  have HC9 := Aside0.mk H
  clear H
  go_enter Try.func5, Try.ntmps5
  go_upto_region 5 with (first | (go_at_call 8; (with_reducible refine (haircut_Gains.calls k _ _ l1 a2 t205 t206 _ ?side1 ?side2 A7.out).mono ?_); (case side1 => repeat (first | exact HR1.out | (with_reducible refine Kd.C_alloc ?_ _) | (with_reducible refine Kd.C_drewN ?_ _) | (with_reducible refine Kd.C_drew ?_))); (case side2 => exact HC1.out); rintro e w10 ⟨rfl, hb⟩; have n0_ := Aside0.mk (below_step (by repeat (first | (with_reducible first | exact HB.out | apply below_alloc | apply pw_below_drewN | apply below_drew1) | exact HB.out)) hb); clear HB; have HB := n0_; clear n0_; (try clear hb); (try clear hb2); (try clear hk); (try clear hi)) | (go_at_call 10; (with_reducible refine (haircut_Take.calls k a0 _ _ l1 a2 t207 t208 t209 _ ?side1 ?side2 A8.out).mono ?_); (case side1 => repeat (first | exact (Kd.C_below HR1.out HB.out) | (with_reducible refine Kd.C_alloc ?_ _) | (with_reducible refine Kd.C_drewN ?_ _) | (with_reducible refine Kd.C_drew ?_))); (case side2 => exact HC1.out); rintro e w11 ⟨v210, rfl, ho0, hb⟩; have n0_ := Aside0.mk (Kd.R_lower ho0 (below_size (by repeat (first | (with_reducible first | exact HB.out | apply below_alloc | apply pw_below_drewN | apply below_drew1) | exact HB.out)))); have n1_ := Aside0.mk (below_step (by repeat (first | (with_reducible first | exact HB.out | apply below_alloc | apply pw_below_drewN | apply below_drew1) | exact HB.out)) hb); clear HB; have HO211 := n0_; have HB := n1_; clear n0_ n1_; (try clear hb); (try clear hb2); (try clear hk); (try clear hi); (try clear ho0)))
  repeat (go_quiet (first | (go_at_call 8; (with_reducible refine (haircut_Gains.calls k _ _ l1 a2 t205 t206 _ ?side1 ?side2 A7.out).mono ?_); (case side1 => repeat (first | exact HR1.out | (with_reducible refine Kd.C_alloc ?_ _) | (with_reducible refine Kd.C_drewN ?_ _) | (with_reducible refine Kd.C_drew ?_))); (case side2 => exact HC1.out); rintro e w10 ⟨rfl, hb⟩; have n0_ := Aside0.mk (below_step (by repeat (first | (with_reducible first | exact HB.out | apply below_alloc | apply pw_below_drewN | apply below_drew1) | exact HB.out)) hb); clear HB; have HB := n0_; clear n0_; (try clear hb); (try clear hb2); (try clear hk); (try clear hi)) | (go_at_call 10; (with_reducible refine (haircut_Take.calls k a0 _ _ l1 a2 t207 t208 t209 _ ?side1 ?side2 A8.out).mono ?_); (case side1 => repeat (first | exact (Kd.C_below HR1.out HB.out) | (with_reducible refine Kd.C_alloc ?_ _) | (with_reducible refine Kd.C_drewN ?_ _) | (with_reducible refine Kd.C_drew ?_))); (case side2 => exact HC1.out); rintro e w11 ⟨v210, rfl, ho0, hb⟩; have n0_ := Aside0.mk (Kd.R_lower ho0 (below_size (by repeat (first | (with_reducible first | exact HB.out | apply below_alloc | apply pw_below_drewN | apply below_drew1) | exact HB.out)))); have n1_ := Aside0.mk (below_step (by repeat (first | (with_reducible first | exact HB.out | apply below_alloc | apply pw_below_drewN | apply below_drew1) | exact HB.out)) hb); clear HB; have HO211 := n0_; have HB := n1_; clear n0_ n1_; (try clear hb); (try clear hb2); (try clear hk); (try clear hi); (try clear ho0))); go_upto_region 5 with (first | (go_at_call 8; (with_reducible refine (haircut_Gains.calls k _ _ l1 a2 t205 t206 _ ?side1 ?side2 A7.out).mono ?_); (case side1 => repeat (first | exact HR1.out | (with_reducible refine Kd.C_alloc ?_ _) | (with_reducible refine Kd.C_drewN ?_ _) | (with_reducible refine Kd.C_drew ?_))); (case side2 => exact HC1.out); rintro e w10 ⟨rfl, hb⟩; have n0_ := Aside0.mk (below_step (by repeat (first | (with_reducible first | exact HB.out | apply below_alloc | apply pw_below_drewN | apply below_drew1) | exact HB.out)) hb); clear HB; have HB := n0_; clear n0_; (try clear hb); (try clear hb2); (try clear hk); (try clear hi)) | (go_at_call 10; (with_reducible refine (haircut_Take.calls k a0 _ _ l1 a2 t207 t208 t209 _ ?side1 ?side2 A8.out).mono ?_); (case side1 => repeat (first | exact (Kd.C_below HR1.out HB.out) | (with_reducible refine Kd.C_alloc ?_ _) | (with_reducible refine Kd.C_drewN ?_ _) | (with_reducible refine Kd.C_drew ?_))); (case side2 => exact HC1.out); rintro e w11 ⟨v210, rfl, ho0, hb⟩; have n0_ := Aside0.mk (Kd.R_lower ho0 (below_size (by repeat (first | (with_reducible first | exact HB.out | apply below_alloc | apply pw_below_drewN | apply below_drew1) | exact HB.out)))); have n1_ := Aside0.mk (below_step (by repeat (first | (with_reducible first | exact HB.out | apply below_alloc | apply pw_below_drewN | apply below_drew1) | exact HB.out)) hb); clear HB; have HO211 := n0_; have HB := n1_; clear n0_ n1_; (try clear hb); (try clear hb2); (try clear hk); (try clear hi); (try clear ho0))))
  (try simp only [Act.put, List.setIfInBounds_toArray, List.set_cons_zero, List.set_cons_succ])
  go_cut [41] (fun v41 wc => ∃ (kq : Nat) (x41_8 : Bool), v41 = .bool x41_8 ∧ Aside0 (contangolaw49_HaircutOnly.j0 kq a0 l1 a2 t205 t207 t208 t209 x41_8 = some r) ∧ Aside0 (kq ≤ k) ∧ Aside0 (Kd.R k35 35 wc w.heap.size (fun _ => True) v210 t207) ∧ Aside0 (Below w.heap.size w wc))
  case first =>
   have H := HC9.out
   clear HC9
   by_cases c12 : t206 = 0
   ·rw [if_pos c12] at H
    have c12b0 : (t206 == 0) = true := beq_iff_eq.mpr c12
    have c12b1 : (t206 != 0) = false := bne_eq_false_iff_eq.mpr c12
    clear c12
    (first | rw [c12b0] | (simp only [i64_w, i32_w]; rw [c12b0]) | rw [c12b1] | skip)
    have H' := Aside0.mk H
    clear H
    go_wp2
    repeat (go_quiet (fail); try go_wp2)
    go_meet
    case rel => exact ⟨_, ((t209 != 0)), (by first | rfl | (simp; done) | (simp [*]; done)), H', ⟨by first | omega | exact Nat.le_refl _⟩, ⟨by (with_reducible repeat (first | apply Kd.R_alloc | apply Kd.R_drewN | apply Kd.R_drew)); exact HO211.out⟩, ⟨by repeat (first | (with_reducible first | exact HB.out | apply below_alloc | apply pw_below_drewN | apply below_drew1) | exact HB.out)⟩⟩
   ·rw [if_neg c12] at H
    have c12b0 : (t206 == 0) = false := beq_eq_false_iff_ne.mpr c12
    have c12b1 : (t206 != 0) = true := bne_iff_ne.mpr c12
    (first | rw [c12b0] | (simp only [i64_w, i32_w]; rw [c12b0]) | rw [c12b1] | skip)
    have H' := Aside0.mk H
    clear H
    go_wp2
    repeat (go_quiet (fail); try go_wp2)
    go_meet
    case rel => exact ⟨_, (true), (by first | rfl | (simp; done) | (simp [*]; done)), H', ⟨by first | omega | exact Nat.le_refl _⟩, ⟨by (with_reducible repeat (first | apply Kd.R_alloc | apply Kd.R_drewN | apply Kd.R_drew)); exact HO211.out⟩, ⟨by repeat (first | (with_reducible first | exact HB.out | apply below_alloc | apply pw_below_drewN | apply below_drew1) | exact HB.out)⟩⟩
  case rest =>
   clear HC9
   try clear c1
   try clear p2
   try clear c4
   try clear c4b0
   try clear c4b1
   try clear c5
   try clear c12
   try clear c12b0
   try clear c12b1
   obtain ⟨kq, x41_8, rfl, HA, HJ8, HO_9, HB⟩ := hcut
   cases kq with
   | zero => exact absurd HA.out (by simp [contangolaw49_HaircutOnly.j0])
   | succ kj8 =>
    have H := HA.out
    clear HA
    simp only [contangolaw49_HaircutOnly.j0] at H
    by_cases c13 : x41_8 = true
    ·subst c13
     have H1 : (if (t207.length : Int) = 0 then (if t208 = 0 then (if t209 = 0 then (none) else ((contangolaw49_goes.f kj8).bind fun t212 => (some t212))) else (none)) else (none)) = some r := by rw [if_pos rfl] at H; exact H
     clear H
     have H := H1
     clear H1
     by_cases c14 : (t207.length : Int) = 0
     ·rw [if_pos c14] at H
      have c14b0 : ((t207.length : Int) == 0) = true := beq_iff_eq.mpr c14
      have c14b1 : ((t207.length : Int) != 0) = false := bne_eq_false_iff_eq.mpr c14
      clear c14
      by_cases c15 : t208 = 0
      ·rw [if_pos c15] at H
       have c15b0 : (t208 == 0) = true := beq_iff_eq.mpr c15
       have c15b1 : (t208 != 0) = false := bne_eq_false_iff_eq.mpr c15
       clear c15
       by_cases c16 : t209 = 0
       ·rw [if_pos c16] at H
        exact absurd H (by simp)
       ·rw [if_neg c16] at H
        have c16b0 : (t209 == 0) = false := beq_eq_false_iff_ne.mpr c16
        have c16b1 : (t209 != 0) = true := bne_iff_ne.mpr c16
        replace H := Option.bind_eq_some_iff.mp H
        obtain ⟨t212, A170, H⟩ := H
        replace H : (some t212) = some r := H
        have A17 := Aside0.mk A170
        clear A170
        obtain rfl := Option.some.inj H
        obtain ⟨Ao18, co18, eo18⟩ := Kd.R_slice HO_9.out
        subst eo18
        go_wp2_with (first | (go_at_call 7; (with_reducible refine (contangolaw49_goes.calls kj8  t212 _ A17.out).mono ?_); rintro e w19 ⟨rfl, hb⟩; have n0_ := Aside0.mk (Kd.R_below (by (with_reducible repeat (first | apply Kd.R_alloc | apply Kd.R_drewN | apply Kd.R_drew)); exact HO_9.out) hb); have n1_ := Aside0.mk (below_step (by repeat (first | (with_reducible first | exact HB.out | apply below_alloc | apply pw_below_drewN | apply below_drew1) | exact HB.out)) hb); clear HO_9; clear HB; have HO_9 := n0_; have HB := n1_; clear n0_ n1_; (try clear hb); (try clear hb2); (try clear hk); (try clear hi)))
        repeat (go_quiet (first | (go_at_call 7; (with_reducible refine (contangolaw49_goes.calls kj8  t212 _ A17.out).mono ?_); rintro e w19 ⟨rfl, hb⟩; have n0_ := Aside0.mk (Kd.R_below (by (with_reducible repeat (first | apply Kd.R_alloc | apply Kd.R_drewN | apply Kd.R_drew)); exact HO_9.out) hb); have n1_ := Aside0.mk (below_step (by repeat (first | (with_reducible first | exact HB.out | apply below_alloc | apply pw_below_drewN | apply below_drew1) | exact HB.out)) hb); clear HO_9; clear HB; have HO_9 := n0_; have HB := n1_; clear n0_ n1_; (try clear hb); (try clear hb2); (try clear hk); (try clear hi))); try go_wp2_with (first | (go_at_call 7; (with_reducible refine (contangolaw49_goes.calls kj8  t212 _ A17.out).mono ?_); rintro e w19 ⟨rfl, hb⟩; have n0_ := Aside0.mk (Kd.R_below (by (with_reducible repeat (first | apply Kd.R_alloc | apply Kd.R_drewN | apply Kd.R_drew)); exact HO_9.out) hb); have n1_ := Aside0.mk (below_step (by repeat (first | (with_reducible first | exact HB.out | apply below_alloc | apply pw_below_drewN | apply below_drew1) | exact HB.out)) hb); clear HO_9; clear HB; have HO_9 := n0_; have HB := n1_; clear n0_ n1_; (try clear hb); (try clear hb2); (try clear hk); (try clear hi))))
        go_ret
        exact ⟨by first | rfl | (simp [errW_none, errW_some] <;> rfl) | (simp [*, errW_none, errW_some] <;> rfl), by repeat (first | (with_reducible first | exact HB.out | apply below_alloc | apply pw_below_drewN | apply below_drew1) | exact HB.out)⟩
      ·rw [if_neg c15] at H
       exact absurd H (by simp)
     ·rw [if_neg c14] at H
      exact absurd H (by simp)
    ·replace c13 := Bool.eq_false_iff.mpr c13
     subst c13
     have H1 : ((haircut_Gains.f kj8 t207 a2).bind fun bt213 => (if bt213.2 = 0 then (if t208 = (mn a0 t205) then (contangolaw49_HaircutOnly.j1 kj8 l1 a2 t207 (bt213.1 != (wrap64 (t205 - t208)))) else (contangolaw49_HaircutOnly.j1 kj8 l1 a2 t207 true)) else (contangolaw49_HaircutOnly.j1 kj8 l1 a2 t207 true))) = some r := by rw [if_neg (show ¬ (false = true) by decide)] at H; exact H
     clear H
     have H := H1
     clear H1
     replace H := Option.bind_eq_some_iff.mp H
     obtain ⟨⟨t213, t214⟩, A200, H⟩ := H
     replace H : (if t214 = 0 then (if t208 = (mn a0 t205) then (contangolaw49_HaircutOnly.j1 kj8 l1 a2 t207 (t213 != (wrap64 (t205 - t208)))) else (contangolaw49_HaircutOnly.j1 kj8 l1 a2 t207 true)) else (contangolaw49_HaircutOnly.j1 kj8 l1 a2 t207 true)) = some r := H
     have A20 := Aside0.mk A200
     clear A200
     have HC21 := Aside0.mk H
     clear H
     obtain ⟨Ao22, co22, eo22⟩ := Kd.R_slice HO_9.out
     subst eo22
     go_upto_region 8 with (first | (go_at_call 8; (with_reducible refine (haircut_Gains.calls kj8 _ _ t207 a2 t213 t214 _ ?side1 ?side2 A20.out).mono ?_); (case side1 => repeat (first | exact (Kd.R_reads' HO_9.out).2.2 | (with_reducible refine Kd.C_alloc ?_ _) | (with_reducible refine Kd.C_drewN ?_ _) | (with_reducible refine Kd.C_drew ?_))); (case side2 => exact (Kd.R_reads' HO_9.out).2.1); rintro e w23 ⟨rfl, hb⟩; have n0_ := Aside0.mk (Kd.R_below (by (with_reducible repeat (first | apply Kd.R_alloc | apply Kd.R_drewN | apply Kd.R_drew)); exact HO_9.out) hb); have n1_ := Aside0.mk (below_step (by repeat (first | (with_reducible first | exact HB.out | apply below_alloc | apply pw_below_drewN | apply below_drew1) | exact HB.out)) hb); clear HO_9; clear HB; have HO_9 := n0_; have HB := n1_; clear n0_ n1_; (try clear hb); (try clear hb2); (try clear hk); (try clear hi)))
     repeat (go_quiet (first | (go_at_call 8; (with_reducible refine (haircut_Gains.calls kj8 _ _ t207 a2 t213 t214 _ ?side1 ?side2 A20.out).mono ?_); (case side1 => repeat (first | exact (Kd.R_reads' HO_9.out).2.2 | (with_reducible refine Kd.C_alloc ?_ _) | (with_reducible refine Kd.C_drewN ?_ _) | (with_reducible refine Kd.C_drew ?_))); (case side2 => exact (Kd.R_reads' HO_9.out).2.1); rintro e w23 ⟨rfl, hb⟩; have n0_ := Aside0.mk (Kd.R_below (by (with_reducible repeat (first | apply Kd.R_alloc | apply Kd.R_drewN | apply Kd.R_drew)); exact HO_9.out) hb); have n1_ := Aside0.mk (below_step (by repeat (first | (with_reducible first | exact HB.out | apply below_alloc | apply pw_below_drewN | apply below_drew1) | exact HB.out)) hb); clear HO_9; clear HB; have HO_9 := n0_; have HB := n1_; clear n0_ n1_; (try clear hb); (try clear hb2); (try clear hk); (try clear hi))); go_upto_region 8 with (first | (go_at_call 8; (with_reducible refine (haircut_Gains.calls kj8 _ _ t207 a2 t213 t214 _ ?side1 ?side2 A20.out).mono ?_); (case side1 => repeat (first | exact (Kd.R_reads' HO_9.out).2.2 | (with_reducible refine Kd.C_alloc ?_ _) | (with_reducible refine Kd.C_drewN ?_ _) | (with_reducible refine Kd.C_drew ?_))); (case side2 => exact (Kd.R_reads' HO_9.out).2.1); rintro e w23 ⟨rfl, hb⟩; have n0_ := Aside0.mk (Kd.R_below (by (with_reducible repeat (first | apply Kd.R_alloc | apply Kd.R_drewN | apply Kd.R_drew)); exact HO_9.out) hb); have n1_ := Aside0.mk (below_step (by repeat (first | (with_reducible first | exact HB.out | apply below_alloc | apply pw_below_drewN | apply below_drew1) | exact HB.out)) hb); clear HO_9; clear HB; have HO_9 := n0_; have HB := n1_; clear n0_ n1_; (try clear hb); (try clear hb2); (try clear hk); (try clear hi))))
     (try simp only [Act.put, List.setIfInBounds_toArray, List.set_cons_zero, List.set_cons_succ])
     go_cut [77] (fun v77 wc => ∃ (kq : Nat) (x77_20 : Bool), v77 = .bool x77_20 ∧ Aside0 (contangolaw49_HaircutOnly.j1 kq l1 a2 t207 x77_20 = some r) ∧ Aside0 (kq ≤ kj8) ∧ Aside0 (Kd.R k35 35 wc w.heap.size (fun _ => True) (.slice Ao22 t207.length co22) t207) ∧ Aside0 (Below w.heap.size w wc))
     case first =>
      have H := HC21.out
      clear HC21
      by_cases c24 : t214 = 0
      ·rw [if_pos c24] at H
       have c24b0 : (t214 == 0) = true := beq_iff_eq.mpr c24
       have c24b1 : (t214 != 0) = false := bne_eq_false_iff_eq.mpr c24
       clear c24
       (first | rw [c24b0] | (simp only [i64_w, i32_w]; rw [c24b0]) | rw [c24b1] | skip)
       obtain ⟨ji25, hji25⟩ : ∃ j_ : Int, (mn a0 t205) = j_ := ⟨_, rfl⟩
       replace H : (if t208 = (ji25) then (contangolaw49_HaircutOnly.j1 kj8 l1 a2 t207 (t213 != (wrap64 (t205 - t208)))) else (contangolaw49_HaircutOnly.j1 kj8 l1 a2 t207 true)) = some r := by first | (rw [hji25] at H; exact H) | (simp only [hji25] at H ⊢; exact H)
       have hji25_ : (if t205 < a0 then t205 else a0) = ji25 := hji25
       by_cases c26 : t208 = (ji25)
       ·rw [if_pos c26] at H
        have c26b0 : (t208 == (ji25)) = true := beq_iff_eq.mpr c26
        have c26b1 : (t208 != (ji25)) = false := bne_eq_false_iff_eq.mpr c26
        clear c26
        have H' := Aside0.mk H
        clear H
        go_wp2
        repeat (go_quiet (fail); try go_wp2)
        go_meet
        case rel => exact ⟨_, ((t213 != (wrap64 (t205 - t208)))), (by first | rfl | (simp; done) | (simp [*]; done)), H', ⟨by have := HJ8.out; first | omega | exact Nat.le_refl _⟩, ⟨by (with_reducible repeat (first | apply Kd.R_alloc | apply Kd.R_drewN | apply Kd.R_drew)); exact HO_9.out⟩, ⟨by repeat (first | (with_reducible first | exact HB.out | apply below_alloc | apply pw_below_drewN | apply below_drew1) | exact HB.out)⟩⟩
       ·rw [if_neg c26] at H
        have c26b0 : (t208 == (ji25)) = false := beq_eq_false_iff_ne.mpr c26
        have c26b1 : (t208 != (ji25)) = true := bne_iff_ne.mpr c26
        have H' := Aside0.mk H
        clear H
        go_wp2
        repeat (go_quiet (fail); try go_wp2)
        go_meet
        case rel => exact ⟨_, (true), (by first | rfl | (simp; done) | (simp [*]; done)), H', ⟨by have := HJ8.out; first | omega | exact Nat.le_refl _⟩, ⟨by (with_reducible repeat (first | apply Kd.R_alloc | apply Kd.R_drewN | apply Kd.R_drew)); exact HO_9.out⟩, ⟨by repeat (first | (with_reducible first | exact HB.out | apply below_alloc | apply pw_below_drewN | apply below_drew1) | exact HB.out)⟩⟩
      ·rw [if_neg c24] at H
       have c24b0 : (t214 == 0) = false := beq_eq_false_iff_ne.mpr c24
       have c24b1 : (t214 != 0) = true := bne_iff_ne.mpr c24
       (first | rw [c24b0] | (simp only [i64_w, i32_w]; rw [c24b0]) | rw [c24b1] | skip)
       have H' := Aside0.mk H
       clear H
       go_wp2
       repeat (go_quiet (fail); try go_wp2)
       go_meet
       case rel => exact ⟨_, (true), (by first | rfl | (simp; done) | (simp [*]; done)), H', ⟨by have := HJ8.out; first | omega | exact Nat.le_refl _⟩, ⟨by (with_reducible repeat (first | apply Kd.R_alloc | apply Kd.R_drewN | apply Kd.R_drew)); exact HO_9.out⟩, ⟨by repeat (first | (with_reducible first | exact HB.out | apply below_alloc | apply pw_below_drewN | apply below_drew1) | exact HB.out)⟩⟩
     case rest =>
      clear HC21
      try clear c1
      try clear c2
      try clear p2
      try clear c4
      try clear c4b0
      try clear c4b1
      try clear c5
      try clear p6
      try clear c12
      try clear c12b0
      try clear c12b1
      try clear c13
      try clear c14
      try clear c14b0
      try clear c14b1
      try clear c15
      try clear c15b0
      try clear c15b1
      try clear c16
      try clear c16b0
      try clear c16b1
      try clear c24
      try clear c24b0
      try clear c24b1
      try clear c26
      try clear c26b0
      try clear c26b1
      try clear p2
      obtain ⟨kq, x77_20, rfl, HA, HJ20, HO_9, HB⟩ := hcut
      cases kq with
      | zero => exact absurd HA.out (by simp [contangolaw49_HaircutOnly.j1])
      | succ kj20 =>
       have H := HA.out
       clear HA
       simp only [contangolaw49_HaircutOnly.j1] at H
       by_cases c27 : x77_20 = true
       ·subst c27
        have H1 : (none) = some r := by rw [if_pos rfl] at H; exact H
        clear H
        have H := H1
        clear H1
        exact absurd H (by simp)
       ·replace c27 := Bool.eq_false_iff.mpr c27
        subst c27
        have H1 : (contangolaw49_HaircutOnly.l0 kj20 l1 a2 t207 0 (l1.length : Int) 0) = some r := by rw [if_neg (show ¬ (false = true) by decide)] at H; exact H
        clear H
        have H := H1
        clear H1
        have H' := Aside0.mk H
        clear H
        go_wp2
        repeat (go_quiet (fail); try go_wp2)
        go_loopg [14, 80] kj20 (fun kq v14 v80 w' => ∃ (x14_3 : Int) (x80_3 : Int), v14 = .int .i64 x14_3 ∧ v80 = .int .i64 x80_3 ∧ Aside0 (contangolaw49_HaircutOnly.l0 kq l1 a2 t207 x14_3 (l1.length : Int) x80_3 = some r) ∧ Aside0 (kq ≤ kj20) ∧ Aside0 (Kd.R k35 35 w' w.heap.size (fun _ => True) (.slice Ao22 t207.length co22) t207) ∧ Aside0 (Below w.heap.size w w'))
        case atStart => exact ⟨(0), (0), (by first | rfl | (simp; done) | (simp [*]; done)), (by first | rfl | (simp; done) | (simp [*]; done)), H', ⟨Nat.le_refl _⟩, ⟨by (with_reducible repeat (first | apply Kd.R_alloc | apply Kd.R_drewN | apply Kd.R_drew)); exact HO_9.out⟩, ⟨by repeat (first | (with_reducible first | exact HB.out | apply below_alloc | apply pw_below_drewN | apply below_drew1) | exact HB.out)⟩⟩
        case round =>
         clear H'
         try clear c1
         try clear c2
         try clear p2
         try clear c4
         try clear c4b0
         try clear c4b1
         try clear c5
         try clear p6
         try clear c12
         try clear c12b0
         try clear c12b1
         try clear c13
         try clear c14
         try clear c14b0
         try clear c14b1
         try clear c15
         try clear c15b0
         try clear c15b1
         try clear c16
         try clear c16b0
         try clear c16b1
         try clear c24
         try clear c24b0
         try clear c24b1
         try clear c26
         try clear c26b0
         try clear c26b1
         try clear c27
         try clear p2
         try clear p6
         obtain ⟨x14_3, x80_3, rfl, rfl, HA, HK3, HO_9, HB⟩ := hrel
         cases gk with
         | zero => exact absurd HA.out (by simp [contangolaw49_HaircutOnly.l0])
         | succ k3 =>
          have H := HA.out
          clear HA
          simp only [contangolaw49_HaircutOnly.l0] at H
          by_cases c28 : x80_3 < (l1.length : Int)
          ·rw [if_pos c28] at H
           have c28b0 : decide (x80_3 < (l1.length : Int)) = true := decide_eq_true c28
           clear c28
           have HC29 := Aside0.mk H
           clear H
           go_upto_region 14 with (fail)
           repeat (go_quiet (fail); go_upto_region 14 with (fail))
           go_cut [16] (fun v16 wc => ∃ (kq : Nat) (x16_28 : Bool), v16 = .bool x16_28 ∧ Aside0 (contangolaw49_HaircutOnly.j3 kq l1 a2 t207 x14_3 x80_3 x16_28 (l1.length : Int) x80_3 = some r) ∧ Aside0 (kq ≤ k3) ∧ Aside0 (Kd.R k35 35 wc w.heap.size (fun _ => True) (.slice Ao22 t207.length co22) t207) ∧ Aside0 (Below w.heap.size w wc))
           case first =>
            have H := HC29.out
            clear HC29
            by_cases c30 : 0 ≤ x80_3
            ·rw [if_pos c30] at H
             have c30b0 : decide (0 ≤ x80_3) = true := decide_eq_true c30
             clear c30
             (first | rw [c30b0] | (simp only [i64_w, i32_w]; rw [c30b0]) | skip)
             by_cases c31 : x80_3 < (l1.length : Int)
             ·rw [if_pos c31] at H
              have c31b0 : decide (x80_3 < (l1.length : Int)) = true := decide_eq_true c31
              clear c31
              by_cases c32 : ((rd_T35 l1 x80_3).f3) = 1
              ·rw [if_pos c32] at H
               have c32b0 : (((rd_T35 l1 x80_3).f3) == 1) = true := beq_iff_eq.mpr c32
               have c32b1 : (((rd_T35 l1 x80_3).f3) != 1) = false := bne_eq_false_iff_eq.mpr c32
               clear c32
               by_cases c33 : ((rd_T35 l1 x80_3).f1) = a2
               ·rw [if_pos c33] at H
                have c33b0 : (((rd_T35 l1 x80_3).f1) == a2) = true := beq_iff_eq.mpr c33
                have c33b1 : (((rd_T35 l1 x80_3).f1) != a2) = false := bne_eq_false_iff_eq.mpr c33
                clear c33
                have H' := Aside0.mk H
                clear H
                have p216 : 0 ≤ (x80_3 : Int) := of_decide_eq_true (by first | (with_reducible assumption) | assumption)
                have q216 : x80_3 < (l1.length : Int) := of_decide_eq_true (by first | (with_reducible assumption) | assumption)
                obtain ⟨ad216, e216, hx216_0, hx216_1, hx216_2, hx216_3⟩ := at_T35 HR1.out x80_3 p216 q216
                cases e216
                replace hx216_0 := (HB.out.cell (World.block_lt_of_cell? w _ hx216_0)).trans hx216_0
                replace hx216_1 := (HB.out.cell (World.block_lt_of_cell? w _ hx216_1)).trans hx216_1
                replace hx216_2 := (HB.out.cell (World.block_lt_of_cell? w _ hx216_2)).trans hx216_2
                replace hx216_3 := (HB.out.cell (World.block_lt_of_cell? w _ hx216_3)).trans hx216_3
                replace p216 := eq_true p216
                replace q216 := eq_true q216
                have p217 : 0 ≤ (x80_3 : Int) := of_decide_eq_true (by first | (with_reducible assumption) | assumption)
                have q217 : x80_3 < (l1.length : Int) := of_decide_eq_true (by first | (with_reducible assumption) | assumption)
                obtain ⟨ad217, e217, hx217_0, hx217_1, hx217_2, hx217_3⟩ := at_T35 HR1.out x80_3 p217 q217
                obtain rfl : ad216 = ad217 := (by injection e217)
                replace hx217_0 := (HB.out.cell (World.block_lt_of_cell? w _ hx217_0)).trans hx217_0
                replace hx217_1 := (HB.out.cell (World.block_lt_of_cell? w _ hx217_1)).trans hx217_1
                replace hx217_2 := (HB.out.cell (World.block_lt_of_cell? w _ hx217_2)).trans hx217_2
                replace hx217_3 := (HB.out.cell (World.block_lt_of_cell? w _ hx217_3)).trans hx217_3
                replace p217 := eq_true p217
                replace q217 := eq_true q217
                have p218 : 0 ≤ (x80_3 : Int) := of_decide_eq_true (by first | (with_reducible assumption) | assumption)
                have q218 : x80_3 < (l1.length : Int) := of_decide_eq_true (by first | (with_reducible assumption) | assumption)
                obtain ⟨ad218, e218, hx218_0, hx218_1, hx218_2, hx218_3⟩ := at_T35 HR1.out x80_3 p218 q218
                obtain rfl : ad216 = ad218 := (by injection e218)
                replace hx218_0 := (HB.out.cell (World.block_lt_of_cell? w _ hx218_0)).trans hx218_0
                replace hx218_1 := (HB.out.cell (World.block_lt_of_cell? w _ hx218_1)).trans hx218_1
                replace hx218_2 := (HB.out.cell (World.block_lt_of_cell? w _ hx218_2)).trans hx218_2
                replace hx218_3 := (HB.out.cell (World.block_lt_of_cell? w _ hx218_3)).trans hx218_3
                replace p218 := eq_true p218
                replace q218 := eq_true q218
                go_wp2
                repeat (go_quiet (fail); try go_wp2)
                go_meet
                case rel => exact ⟨_, (decide (((rd_T35 l1 x80_3).f2) > 0)), (by first | rfl | (simp; done) | (simp [*]; done)), H', ⟨by have := HJ8.out; have := HJ20.out; have := HK3.out; first | omega | exact Nat.le_refl _⟩, ⟨by (with_reducible repeat (first | apply Kd.R_alloc | apply Kd.R_drewN | apply Kd.R_drew)); exact HO_9.out⟩, ⟨by repeat (first | (with_reducible first | exact HB.out | apply below_alloc | apply pw_below_drewN | apply below_drew1) | exact HB.out)⟩⟩
               ·rw [if_neg c33] at H
                have c33b0 : (((rd_T35 l1 x80_3).f1) == a2) = false := beq_eq_false_iff_ne.mpr c33
                have c33b1 : (((rd_T35 l1 x80_3).f1) != a2) = true := bne_iff_ne.mpr c33
                have H' := Aside0.mk H
                clear H
                have p216 : 0 ≤ (x80_3 : Int) := of_decide_eq_true (by first | (with_reducible assumption) | assumption)
                have q216 : x80_3 < (l1.length : Int) := of_decide_eq_true (by first | (with_reducible assumption) | assumption)
                obtain ⟨ad216, e216, hx216_0, hx216_1, hx216_2, hx216_3⟩ := at_T35 HR1.out x80_3 p216 q216
                cases e216
                replace hx216_0 := (HB.out.cell (World.block_lt_of_cell? w _ hx216_0)).trans hx216_0
                replace hx216_1 := (HB.out.cell (World.block_lt_of_cell? w _ hx216_1)).trans hx216_1
                replace hx216_2 := (HB.out.cell (World.block_lt_of_cell? w _ hx216_2)).trans hx216_2
                replace hx216_3 := (HB.out.cell (World.block_lt_of_cell? w _ hx216_3)).trans hx216_3
                replace p216 := eq_true p216
                replace q216 := eq_true q216
                have p217 : 0 ≤ (x80_3 : Int) := of_decide_eq_true (by first | (with_reducible assumption) | assumption)
                have q217 : x80_3 < (l1.length : Int) := of_decide_eq_true (by first | (with_reducible assumption) | assumption)
                obtain ⟨ad217, e217, hx217_0, hx217_1, hx217_2, hx217_3⟩ := at_T35 HR1.out x80_3 p217 q217
                obtain rfl : ad216 = ad217 := (by injection e217)
                replace hx217_0 := (HB.out.cell (World.block_lt_of_cell? w _ hx217_0)).trans hx217_0
                replace hx217_1 := (HB.out.cell (World.block_lt_of_cell? w _ hx217_1)).trans hx217_1
                replace hx217_2 := (HB.out.cell (World.block_lt_of_cell? w _ hx217_2)).trans hx217_2
                replace hx217_3 := (HB.out.cell (World.block_lt_of_cell? w _ hx217_3)).trans hx217_3
                replace p217 := eq_true p217
                replace q217 := eq_true q217
                go_wp2
                repeat (go_quiet (fail); try go_wp2)
                go_meet
                case rel => exact ⟨_, (false), (by first | rfl | (simp; done) | (simp [*]; done)), H', ⟨by have := HJ8.out; have := HJ20.out; have := HK3.out; first | omega | exact Nat.le_refl _⟩, ⟨by (with_reducible repeat (first | apply Kd.R_alloc | apply Kd.R_drewN | apply Kd.R_drew)); exact HO_9.out⟩, ⟨by repeat (first | (with_reducible first | exact HB.out | apply below_alloc | apply pw_below_drewN | apply below_drew1) | exact HB.out)⟩⟩
              ·rw [if_neg c32] at H
               have c32b0 : (((rd_T35 l1 x80_3).f3) == 1) = false := beq_eq_false_iff_ne.mpr c32
               have c32b1 : (((rd_T35 l1 x80_3).f3) != 1) = true := bne_iff_ne.mpr c32
               have H' := Aside0.mk H
               clear H
               have p216 : 0 ≤ (x80_3 : Int) := of_decide_eq_true (by first | (with_reducible assumption) | assumption)
               have q216 : x80_3 < (l1.length : Int) := of_decide_eq_true (by first | (with_reducible assumption) | assumption)
               obtain ⟨ad216, e216, hx216_0, hx216_1, hx216_2, hx216_3⟩ := at_T35 HR1.out x80_3 p216 q216
               cases e216
               replace hx216_0 := (HB.out.cell (World.block_lt_of_cell? w _ hx216_0)).trans hx216_0
               replace hx216_1 := (HB.out.cell (World.block_lt_of_cell? w _ hx216_1)).trans hx216_1
               replace hx216_2 := (HB.out.cell (World.block_lt_of_cell? w _ hx216_2)).trans hx216_2
               replace hx216_3 := (HB.out.cell (World.block_lt_of_cell? w _ hx216_3)).trans hx216_3
               replace p216 := eq_true p216
               replace q216 := eq_true q216
               go_wp2
               repeat (go_quiet (fail); try go_wp2)
               go_meet
               case rel => exact ⟨_, (false), (by first | rfl | (simp; done) | (simp [*]; done)), H', ⟨by have := HJ8.out; have := HJ20.out; have := HK3.out; first | omega | exact Nat.le_refl _⟩, ⟨by (with_reducible repeat (first | apply Kd.R_alloc | apply Kd.R_drewN | apply Kd.R_drew)); exact HO_9.out⟩, ⟨by repeat (first | (with_reducible first | exact HB.out | apply below_alloc | apply pw_below_drewN | apply below_drew1) | exact HB.out)⟩⟩
             ·rw [if_neg c31] at H
              exact absurd H (by simp)
            ·rw [if_neg c30] at H
             exact absurd H (by simp)
           case rest =>
            clear HC29
            try clear c1
            try clear c2
            try clear p2
            try clear q2
            try clear hx2
            try clear c3
            try clear c4
            try clear c4b0
            try clear c4b1
            try clear c5
            try clear p6
            try clear c12
            try clear c12b0
            try clear c12b1
            try clear c13
            try clear c14
            try clear c14b0
            try clear c14b1
            try clear c15
            try clear c15b0
            try clear c15b1
            try clear c16
            try clear c16b0
            try clear c16b1
            try clear p21
            try clear q21
            try clear hx21
            try clear c24
            try clear c24b0
            try clear c24b1
            try clear c26
            try clear c26b0
            try clear c26b1
            try clear c27
            try clear c28
            try clear c28b0
            try clear c30
            try clear c30b0
            try clear c31
            try clear c31b0
            try clear c32
            try clear c32b0
            try clear c32b1
            try clear c33
            try clear c33b0
            try clear c33b1
            try clear hx216_0
            try clear hx216_1
            try clear hx216_2
            try clear hx216_3
            try clear hx217_0
            try clear hx217_1
            try clear hx217_2
            try clear hx217_3
            try clear hx218_0
            try clear hx218_1
            try clear hx218_2
            try clear hx218_3
            try clear p2
            try clear p216
            try clear p217
            try clear p218
            try clear p6
            try clear q216
            try clear q217
            try clear q218
            obtain ⟨kq, x16_28, rfl, HA, HJ28, HO_9, HB⟩ := hcut
            cases kq with
            | zero => exact absurd HA.out (by simp [contangolaw49_HaircutOnly.j3])
            | succ kj28 =>
             have H := HA.out
             clear HA
             simp only [contangolaw49_HaircutOnly.j3] at H
             by_cases c34 : 0 ≤ x80_3
             ·rw [if_pos c34] at H
              have c34b0 : decide (0 ≤ x80_3) = true := decide_eq_true c34
              clear c34
              by_cases c35 : x80_3 < (l1.length : Int)
              ·rw [if_pos c35] at H
               have c35b0 : decide (x80_3 < (l1.length : Int)) = true := decide_eq_true c35
               clear c35
               by_cases c36 : ((rd_T35 l1 x80_3).f2) = 0
               ·rw [if_pos c36] at H
                have c36b0 : (((rd_T35 l1 x80_3).f2) == 0) = true := beq_iff_eq.mpr c36
                have c36b1 : (((rd_T35 l1 x80_3).f2) != 0) = false := bne_eq_false_iff_eq.mpr c36
                clear c36
                have H' := Aside0.mk H
                clear H
                have p219 : 0 ≤ (x80_3 : Int) := of_decide_eq_true (by first | (with_reducible assumption) | assumption)
                have q219 : x80_3 < (l1.length : Int) := of_decide_eq_true (by first | (with_reducible assumption) | assumption)
                obtain ⟨ad219, e219, hx219_0, hx219_1, hx219_2, hx219_3⟩ := at_T35 HR1.out x80_3 p219 q219
                cases e219
                replace hx219_0 := (HB.out.cell (World.block_lt_of_cell? w _ hx219_0)).trans hx219_0
                replace hx219_1 := (HB.out.cell (World.block_lt_of_cell? w _ hx219_1)).trans hx219_1
                replace hx219_2 := (HB.out.cell (World.block_lt_of_cell? w _ hx219_2)).trans hx219_2
                replace hx219_3 := (HB.out.cell (World.block_lt_of_cell? w _ hx219_3)).trans hx219_3
                replace p219 := eq_true p219
                replace q219 := eq_true q219
                go_wp2
                repeat (go_quiet (fail); try go_wp2)
                go_roundg kj28
                case measure => have := HJ8.out; have := HJ20.out; have := HK3.out; have := HJ28.out; omega
                case rel => exact ⟨(x14_3), (wrap64 (x80_3 + 1)), (by first | rfl | (simp; done) | (simp [*]; done)), (by first | rfl | (simp; done) | (simp [*]; done)), H', ⟨by have := HJ8.out; have := HJ20.out; have := HK3.out; have := HJ28.out; omega⟩, ⟨by (with_reducible repeat (first | apply Kd.R_alloc | apply Kd.R_drewN | apply Kd.R_drew)); exact HO_9.out⟩, ⟨by repeat (first | (with_reducible first | exact HB.out | apply below_alloc | apply pw_below_drewN | apply below_drew1) | exact HB.out)⟩⟩
               ·rw [if_neg c36] at H
                have c36b0 : (((rd_T35 l1 x80_3).f2) == 0) = false := beq_eq_false_iff_ne.mpr c36
                have c36b1 : (((rd_T35 l1 x80_3).f2) != 0) = true := bne_iff_ne.mpr c36
                have HC37 := Aside0.mk H
                clear H
                have p219 : 0 ≤ (x80_3 : Int) := of_decide_eq_true (by first | (with_reducible assumption) | assumption)
                have q219 : x80_3 < (l1.length : Int) := of_decide_eq_true (by first | (with_reducible assumption) | assumption)
                obtain ⟨ad219, e219, hx219_0, hx219_1, hx219_2, hx219_3⟩ := at_T35 HR1.out x80_3 p219 q219
                cases e219
                replace hx219_0 := (HB.out.cell (World.block_lt_of_cell? w _ hx219_0)).trans hx219_0
                replace hx219_1 := (HB.out.cell (World.block_lt_of_cell? w _ hx219_1)).trans hx219_1
                replace hx219_2 := (HB.out.cell (World.block_lt_of_cell? w _ hx219_2)).trans hx219_2
                replace hx219_3 := (HB.out.cell (World.block_lt_of_cell? w _ hx219_3)).trans hx219_3
                replace p219 := eq_true p219
                replace q219 := eq_true q219
                go_upto_region 16 with (fail)
                repeat (go_quiet (fail); go_upto_region 16 with (fail))
                go_cut [126] (fun v126 wc => ∃ (kq : Nat) (x126_36 : Bool), v126 = .bool x126_36 ∧ Aside0 (contangolaw49_HaircutOnly.j4 kq l1 a2 t207 x14_3 x80_3 x16_28 (l1.length : Int) x80_3 x126_36 = some r) ∧ Aside0 (kq ≤ kj28) ∧ Aside0 (Kd.R k35 35 wc w.heap.size (fun _ => True) (.slice Ao22 t207.length co22) t207) ∧ Aside0 (Below w.heap.size w wc))
                case first =>
                 have H := HC37.out
                 clear HC37
                 by_cases c38 : x14_3 < (t207.length : Int)
                 ·rw [if_pos c38] at H
                  have c38b0 : decide (x14_3 < (t207.length : Int)) = true := decide_eq_true c38
                  clear c38
                  (first | rw [c38b0] | (simp only [i64_w, i32_w]; rw [c38b0]) | skip)
                  by_cases c39 : 0 ≤ x14_3
                  ·rw [if_pos c39] at H
                   have c39b0 : decide (0 ≤ x14_3) = true := decide_eq_true c39
                   clear c39
                   have H' := Aside0.mk H
                   clear H
                   have p220 : 0 ≤ (x14_3 : Int) := of_decide_eq_true (by first | (with_reducible assumption) | assumption)
                   have q220 : x14_3 < (t207.length : Int) := of_decide_eq_true (by first | (with_reducible assumption) | assumption)
                   obtain ⟨ad220, e220, hx220_0, hx220_1, hx220_2, hx220_3⟩ := at_T35 (Kd.R_reads' HO_9.out).2.2 x14_3 p220 q220
                   cases e220
                   replace p220 := eq_true p220
                   replace q220 := eq_true q220
                   have p221 : 0 ≤ (x80_3 : Int) := of_decide_eq_true (by first | (with_reducible assumption) | assumption)
                   have q221 : x80_3 < (l1.length : Int) := of_decide_eq_true (by first | (with_reducible assumption) | assumption)
                   obtain ⟨ad221, e221, hx221_0, hx221_1, hx221_2, hx221_3⟩ := at_T35 HR1.out x80_3 p221 q221
                   obtain rfl : ad219 = ad221 := (by injection e221)
                   replace hx221_0 := (HB.out.cell (World.block_lt_of_cell? w _ hx221_0)).trans hx221_0
                   replace hx221_1 := (HB.out.cell (World.block_lt_of_cell? w _ hx221_1)).trans hx221_1
                   replace hx221_2 := (HB.out.cell (World.block_lt_of_cell? w _ hx221_2)).trans hx221_2
                   replace hx221_3 := (HB.out.cell (World.block_lt_of_cell? w _ hx221_3)).trans hx221_3
                   replace p221 := eq_true p221
                   replace q221 := eq_true q221
                   go_wp2
                   repeat (go_quiet (fail); try go_wp2)
                   go_meet
                   case rel => exact ⟨_, (((((rd_T35 t207 x14_3).f0).toList) == (((rd_T35 l1 x80_3).f0).toList) && (((rd_T35 t207 x14_3).f1) == ((rd_T35 l1 x80_3).f1) && (((rd_T35 t207 x14_3).f2) == ((rd_T35 l1 x80_3).f2) && (((rd_T35 t207 x14_3).f3) == ((rd_T35 l1 x80_3).f3)))))), (by first | rfl | (simp; done) | (simp [*]; done)), H', ⟨by have := HJ8.out; have := HJ20.out; have := HK3.out; have := HJ28.out; first | omega | exact Nat.le_refl _⟩, ⟨by (with_reducible repeat (first | apply Kd.R_alloc | apply Kd.R_drewN | apply Kd.R_drew)); exact HO_9.out⟩, ⟨by repeat (first | (with_reducible first | exact HB.out | apply below_alloc | apply pw_below_drewN | apply below_drew1) | exact HB.out)⟩⟩
                  ·rw [if_neg c39] at H
                   exact absurd H (by simp)
                 ·rw [if_neg c38] at H
                  have c38b0 : decide (x14_3 < (t207.length : Int)) = false := decide_eq_false c38
                  clear c38
                  (first | rw [c38b0] | (simp only [i64_w, i32_w]; rw [c38b0]) | skip)
                  have H' := Aside0.mk H
                  clear H
                  go_wp2
                  repeat (go_quiet (fail); try go_wp2)
                  go_meet
                  case rel => exact ⟨_, (false), (by first | rfl | (simp; done) | (simp [*]; done)), H', ⟨by have := HJ8.out; have := HJ20.out; have := HK3.out; have := HJ28.out; first | omega | exact Nat.le_refl _⟩, ⟨by (with_reducible repeat (first | apply Kd.R_alloc | apply Kd.R_drewN | apply Kd.R_drew)); exact HO_9.out⟩, ⟨by repeat (first | (with_reducible first | exact HB.out | apply below_alloc | apply pw_below_drewN | apply below_drew1) | exact HB.out)⟩⟩
                case rest =>
                 clear HC37
                 try clear c1
                 try clear c2
                 try clear p2
                 try clear q2
                 try clear hx2
                 try clear c3
                 try clear c4
                 try clear c4b0
                 try clear c4b1
                 try clear c5
                 try clear p6
                 try clear c12
                 try clear c12b0
                 try clear c12b1
                 try clear c13
                 try clear c14
                 try clear c14b0
                 try clear c14b1
                 try clear c15
                 try clear c15b0
                 try clear c15b1
                 try clear c16
                 try clear c16b0
                 try clear c16b1
                 try clear p21
                 try clear q21
                 try clear hx21
                 try clear p22
                 try clear q22
                 try clear hx22
                 try clear c24
                 try clear c24b0
                 try clear c24b1
                 try clear c26
                 try clear c26b0
                 try clear c26b1
                 try clear c27
                 try clear c28
                 try clear c28b0
                 try clear c30
                 try clear c30b0
                 try clear c31
                 try clear c31b0
                 try clear c32
                 try clear c32b0
                 try clear c32b1
                 try clear c33
                 try clear c33b0
                 try clear c33b1
                 try clear c34
                 try clear c34b0
                 try clear c35
                 try clear c35b0
                 try clear c36
                 try clear c36b0
                 try clear c36b1
                 try clear c38
                 try clear c38b0
                 try clear c39
                 try clear c39b0
                 try clear hx216_0
                 try clear hx216_1
                 try clear hx216_2
                 try clear hx216_3
                 try clear hx217_0
                 try clear hx217_1
                 try clear hx217_2
                 try clear hx217_3
                 try clear hx218_0
                 try clear hx218_1
                 try clear hx218_2
                 try clear hx218_3
                 try clear hx219_0
                 try clear hx219_1
                 try clear hx219_2
                 try clear hx219_3
                 try clear hx220_0
                 try clear hx220_1
                 try clear hx220_2
                 try clear hx220_3
                 try clear hx221_0
                 try clear hx221_1
                 try clear hx221_2
                 try clear hx221_3
                 try clear p2
                 try clear p21
                 try clear p216
                 try clear p217
                 try clear p218
                 try clear p219
                 try clear p220
                 try clear p221
                 try clear p6
                 try clear q2
                 try clear q21
                 try clear q216
                 try clear q217
                 try clear q218
                 try clear q219
                 try clear q220
                 try clear q221
                 obtain ⟨kq, x126_36, rfl, HA, HJ36, HO_9, HB⟩ := hcut
                 cases kq with
                 | zero => exact absurd HA.out (by simp [contangolaw49_HaircutOnly.j4])
                 | succ kj36 =>
                  have H := HA.out
                  clear HA
                  simp only [contangolaw49_HaircutOnly.j4] at H
                  by_cases c40 : x126_36 = true
                  ·subst c40
                   have H1 : (contangolaw49_HaircutOnly.l0 kj36 l1 a2 t207 (wrap64 (x14_3 + 1)) (l1.length : Int) (wrap64 (x80_3 + 1))) = some r := by rw [if_pos rfl] at H; exact H
                   clear H
                   have H := H1
                   clear H1
                   have H' := Aside0.mk H
                   clear H
                   go_wp2
                   repeat (go_quiet (fail); try go_wp2)
                   go_roundg kj36
                   case measure => have := HJ8.out; have := HJ20.out; have := HK3.out; have := HJ28.out; have := HJ36.out; omega
                   case rel => exact ⟨(wrap64 (x14_3 + 1)), (wrap64 (x80_3 + 1)), (by first | rfl | (simp; done) | (simp [*]; done)), (by first | rfl | (simp; done) | (simp [*]; done)), H', ⟨by have := HJ8.out; have := HJ20.out; have := HK3.out; have := HJ28.out; have := HJ36.out; omega⟩, ⟨by (with_reducible repeat (first | apply Kd.R_alloc | apply Kd.R_drewN | apply Kd.R_drew)); exact HO_9.out⟩, ⟨by repeat (first | (with_reducible first | exact HB.out | apply below_alloc | apply pw_below_drewN | apply below_drew1) | exact HB.out)⟩⟩
                  ·replace c40 := Bool.eq_false_iff.mpr c40
                   subst c40
                   have H1 : (if x16_28 = true then (if 0 ≤ x80_3 then (if x80_3 < (l1.length : Int) then (if x14_3 < (t207.length : Int) then (if 0 ≤ x14_3 then (if ((((rd_T35 t207 x14_3).f0).toList) == (((rd_T35 l1 x80_3).f0).toList) && (((rd_T35 t207 x14_3).f1) == ((rd_T35 l1 x80_3).f1) && (((rd_T35 t207 x14_3).f3) == ((rd_T35 l1 x80_3).f3)))) = true then (if ((rd_T35 t207 x14_3).f2) > 0 then (if ((rd_T35 t207 x14_3).f2) < ((rd_T35 l1 x80_3).f2) then (contangolaw49_HaircutOnly.l0 kj36 l1 a2 t207 (wrap64 (x14_3 + 1)) (l1.length : Int) (wrap64 (x80_3 + 1))) else (contangolaw49_HaircutOnly.l0 kj36 l1 a2 t207 x14_3 (l1.length : Int) (wrap64 (x80_3 + 1)))) else (contangolaw49_HaircutOnly.l0 kj36 l1 a2 t207 x14_3 (l1.length : Int) (wrap64 (x80_3 + 1)))) else (contangolaw49_HaircutOnly.l0 kj36 l1 a2 t207 x14_3 (l1.length : Int) (wrap64 (x80_3 + 1)))) else (none)) else (contangolaw49_HaircutOnly.l0 kj36 l1 a2 t207 x14_3 (l1.length : Int) (wrap64 (x80_3 + 1)))) else (none)) else (none)) else (none)) = some r := by rw [if_neg (show ¬ (false = true) by decide)] at H; exact H
                   clear H
                   have H := H1
                   clear H1
                   by_cases c41 : x16_28 = true
                   ·subst c41
                    have H1 : (if 0 ≤ x80_3 then (if x80_3 < (l1.length : Int) then (if x14_3 < (t207.length : Int) then (if 0 ≤ x14_3 then (if ((((rd_T35 t207 x14_3).f0).toList) == (((rd_T35 l1 x80_3).f0).toList) && (((rd_T35 t207 x14_3).f1) == ((rd_T35 l1 x80_3).f1) && (((rd_T35 t207 x14_3).f3) == ((rd_T35 l1 x80_3).f3)))) = true then (if ((rd_T35 t207 x14_3).f2) > 0 then (if ((rd_T35 t207 x14_3).f2) < ((rd_T35 l1 x80_3).f2) then (contangolaw49_HaircutOnly.l0 kj36 l1 a2 t207 (wrap64 (x14_3 + 1)) (l1.length : Int) (wrap64 (x80_3 + 1))) else (contangolaw49_HaircutOnly.l0 kj36 l1 a2 t207 x14_3 (l1.length : Int) (wrap64 (x80_3 + 1)))) else (contangolaw49_HaircutOnly.l0 kj36 l1 a2 t207 x14_3 (l1.length : Int) (wrap64 (x80_3 + 1)))) else (contangolaw49_HaircutOnly.l0 kj36 l1 a2 t207 x14_3 (l1.length : Int) (wrap64 (x80_3 + 1)))) else (none)) else (contangolaw49_HaircutOnly.l0 kj36 l1 a2 t207 x14_3 (l1.length : Int) (wrap64 (x80_3 + 1)))) else (none)) else (none)) = some r := by rw [if_pos rfl] at H; exact H
                    clear H
                    have H := H1
                    clear H1
                    by_cases c42 : 0 ≤ x80_3
                    ·rw [if_pos c42] at H
                     have c42b0 : decide (0 ≤ x80_3) = true := decide_eq_true c42
                     clear c42
                     by_cases c43 : x80_3 < (l1.length : Int)
                     ·rw [if_pos c43] at H
                      have c43b0 : decide (x80_3 < (l1.length : Int)) = true := decide_eq_true c43
                      clear c43
                      by_cases c44 : x14_3 < (t207.length : Int)
                      ·rw [if_pos c44] at H
                       have c44b0 : decide (x14_3 < (t207.length : Int)) = true := decide_eq_true c44
                       clear c44
                       by_cases c45 : 0 ≤ x14_3
                       ·rw [if_pos c45] at H
                        have c45b0 : decide (0 ≤ x14_3) = true := decide_eq_true c45
                        clear c45
                        by_cases c46 : ((((rd_T35 t207 x14_3).f0).toList) == (((rd_T35 l1 x80_3).f0).toList) && (((rd_T35 t207 x14_3).f1) == ((rd_T35 l1 x80_3).f1) && (((rd_T35 t207 x14_3).f3) == ((rd_T35 l1 x80_3).f3)))) = true
                        ·rw [if_pos c46] at H
                         have c46b0 : ((((rd_T35 t207 x14_3).f0).toList) == (((rd_T35 l1 x80_3).f0).toList) && (((rd_T35 t207 x14_3).f1) == ((rd_T35 l1 x80_3).f1) && (((rd_T35 t207 x14_3).f3) == ((rd_T35 l1 x80_3).f3)))) = true := c46
                         (try (have c46b1 : decide ((((rd_T35 t207 x14_3).f0).toList) = (((rd_T35 l1 x80_3).f0).toList) && (((rd_T35 t207 x14_3).f1) == ((rd_T35 l1 x80_3).f1) && (((rd_T35 t207 x14_3).f3) == ((rd_T35 l1 x80_3).f3)))) = true := by simpa using c46))
                         (try (have c46b2 : ((((rd_T35 t207 x14_3).f0).toList) == (((rd_T35 l1 x80_3).f0).toList) && (((rd_T35 t207 x14_3).f1) == ((rd_T35 l1 x80_3).f1) && (((rd_T35 t207 x14_3).f3) == ((rd_T35 l1 x80_3).f3)))) = true := by simpa using c46))
                         clear c46
                         by_cases c47 : ((rd_T35 t207 x14_3).f2) > 0
                         ·rw [if_pos c47] at H
                          have c47b0 : decide (0 < ((rd_T35 t207 x14_3).f2)) = true := decide_eq_true c47
                          clear c47
                          by_cases c48 : ((rd_T35 t207 x14_3).f2) < ((rd_T35 l1 x80_3).f2)
                          ·rw [if_pos c48] at H
                           have c48b0 : decide (((rd_T35 t207 x14_3).f2) < ((rd_T35 l1 x80_3).f2)) = true := decide_eq_true c48
                           clear c48
                           have H' := Aside0.mk H
                           clear H
                           have p222 : 0 ≤ (x80_3 : Int) := of_decide_eq_true (by first | (with_reducible assumption) | assumption)
                           have q222 : x80_3 < (l1.length : Int) := of_decide_eq_true (by first | (with_reducible assumption) | assumption)
                           obtain ⟨ad222, e222, hx222_0, hx222_1, hx222_2, hx222_3⟩ := at_T35 HR1.out x80_3 p222 q222
                           obtain rfl : ad219 = ad222 := (by injection e222)
                           replace hx222_0 := (HB.out.cell (World.block_lt_of_cell? w _ hx222_0)).trans hx222_0
                           replace hx222_1 := (HB.out.cell (World.block_lt_of_cell? w _ hx222_1)).trans hx222_1
                           replace hx222_2 := (HB.out.cell (World.block_lt_of_cell? w _ hx222_2)).trans hx222_2
                           replace hx222_3 := (HB.out.cell (World.block_lt_of_cell? w _ hx222_3)).trans hx222_3
                           replace p222 := eq_true p222
                           replace q222 := eq_true q222
                           go_wp2_with (first | ((with_reducible refine gate_dst (N := 17) rfl ?_); (try (refine gate_guard (by rfl) ?_; dsimp only)); refine box_event ?hg (N := 17) ?hd (cs := #[.string (⟨#[]⟩ : ByteArray), .int .i64 0, .int .i64 0, .int .i64 0]) (t := 35) ?hr ?_; (case hd => rfl); (case hg => rfl); (case hr => first | (go_simp; done) | (go_simp; rfl)); intro gb223 hg w49 hbox hb; have n0_ := Aside0.mk (Kd.R_below (Kd.R_elderB (by (with_reducible repeat (first | apply Kd.R_alloc | apply Kd.R_drewN | apply Kd.R_drew)); exact HO_9.out) gb223 (Nat.le_of_eq hg.symm)) hb); have n1_ := Aside0.mk (below_step (by repeat (first | (with_reducible first | exact HB.out | apply below_alloc | apply pw_below_drewN | apply below_drew1) | exact HB.out)) hb); have n2_ := Aside0.mk (hbox); have n3_ := Aside0.mk ((by rw [hg]; exact (below_size (by repeat (first | (with_reducible first | exact HB.out | apply below_alloc | apply pw_below_drewN | apply below_drew1) | exact HB.out))) : w.heap.size ≤ gb223)); have n4_ := Aside0.mk ((by rw [hg]; exact (below_size (by repeat (first | (with_reducible first | exact HB.out | apply below_alloc | apply pw_below_drewN | apply below_drew1) | exact HB.out))) : w.heap.size ≤ gb223)); clear HO_9; clear HB; have HO_9 := n0_; have HB := n1_; have BK223 := n2_; have GW223 := n3_; have GE223 := n4_; clear n0_ n1_ n2_ n3_ n4_; clear hb hbox hg; have hcz50_0 : w49.cell? ⟨gb223, 0, none⟩ = some (.string (⟨#[]⟩ : ByteArray)) := (blk_cell BK223.out 0).trans rfl; have hcz50_1 : w49.cell? ⟨gb223, 1, none⟩ = some (.int .i64 0) := (blk_cell BK223.out 1).trans rfl; have hcz50_2 : w49.cell? ⟨gb223, 2, none⟩ = some (.int .i64 0) := (blk_cell BK223.out 2).trans rfl; have hcz50_3 : w49.cell? ⟨gb223, 3, none⟩ = some (.int .i64 0) := (blk_cell BK223.out 3).trans rfl; have hfz50_0 := blk_frozen BK223.out 0; have hfz50_1 := blk_frozen BK223.out 1; have hfz50_2 := blk_frozen BK223.out 2; have hfz50_3 := blk_frozen BK223.out 3; have p224 : 0 ≤ (x14_3 : Int) := of_decide_eq_true (by first | (with_reducible assumption) | assumption); have q224 : x14_3 < (t207.length : Int) := of_decide_eq_true (by first | (with_reducible assumption) | assumption); obtain ⟨ad224, e224, hx224_0, hx224_1, hx224_2, hx224_3⟩ := at_T35 (Kd.R_reads' HO_9.out).2.2 x14_3 p224 q224; cases e224; have hn224_0 : ad224.block ≠ gb223 := Kd.own_blk (Kd.R_away HO_9.out (fun _ hk => hk.2)); have hn224_1 : ad224.block ≠ gb223 := Kd.own_blk (Kd.R_away HO_9.out (fun _ hk => hk.2)); have hn224_2 : ad224.block ≠ gb223 := Kd.own_blk (Kd.R_away HO_9.out (fun _ hk => hk.2)); have hn224_3 : ad224.block ≠ gb223 := Kd.own_blk (Kd.R_away HO_9.out (fun _ hk => hk.2)); replace hx224_0 := (cell_far (p := ⟨gb223, 0, none⟩) (by first | exact abk hn224_0 | exact hn224_0) (.string ((rd_T35 l1 x80_3).f0))).trans hx224_0; replace hx224_1 := (cell_far (p := ⟨gb223, 0, none⟩) (by first | exact abk hn224_0 | exact hn224_0) (.string ((rd_T35 l1 x80_3).f0))).trans hx224_1; replace hx224_2 := (cell_far (p := ⟨gb223, 0, none⟩) (by first | exact abk hn224_0 | exact hn224_0) (.string ((rd_T35 l1 x80_3).f0))).trans hx224_2; replace hx224_3 := (cell_far (p := ⟨gb223, 0, none⟩) (by first | exact abk hn224_0 | exact hn224_0) (.string ((rd_T35 l1 x80_3).f0))).trans hx224_3; replace hx224_0 := (cell_far (p := ⟨gb223, 1, none⟩) (by first | exact abk hn224_1 | exact hn224_1) (.int .i64 ((rd_T35 l1 x80_3).f1))).trans hx224_0; replace hx224_1 := (cell_far (p := ⟨gb223, 1, none⟩) (by first | exact abk hn224_1 | exact hn224_1) (.int .i64 ((rd_T35 l1 x80_3).f1))).trans hx224_1; replace hx224_2 := (cell_far (p := ⟨gb223, 1, none⟩) (by first | exact abk hn224_1 | exact hn224_1) (.int .i64 ((rd_T35 l1 x80_3).f1))).trans hx224_2; replace hx224_3 := (cell_far (p := ⟨gb223, 1, none⟩) (by first | exact abk hn224_1 | exact hn224_1) (.int .i64 ((rd_T35 l1 x80_3).f1))).trans hx224_3; replace hx224_0 := (cell_far (p := ⟨gb223, 2, none⟩) (by first | exact abk hn224_2 | exact hn224_2) (.int .i64 ((rd_T35 l1 x80_3).f2))).trans hx224_0; replace hx224_1 := (cell_far (p := ⟨gb223, 2, none⟩) (by first | exact abk hn224_2 | exact hn224_2) (.int .i64 ((rd_T35 l1 x80_3).f2))).trans hx224_1; replace hx224_2 := (cell_far (p := ⟨gb223, 2, none⟩) (by first | exact abk hn224_2 | exact hn224_2) (.int .i64 ((rd_T35 l1 x80_3).f2))).trans hx224_2; replace hx224_3 := (cell_far (p := ⟨gb223, 2, none⟩) (by first | exact abk hn224_2 | exact hn224_2) (.int .i64 ((rd_T35 l1 x80_3).f2))).trans hx224_3; replace hx224_0 := (cell_far (p := ⟨gb223, 3, none⟩) (by first | exact abk hn224_3 | exact hn224_3) (.int .i64 ((rd_T35 l1 x80_3).f3))).trans hx224_0; replace hx224_1 := (cell_far (p := ⟨gb223, 3, none⟩) (by first | exact abk hn224_3 | exact hn224_3) (.int .i64 ((rd_T35 l1 x80_3).f3))).trans hx224_1; replace hx224_2 := (cell_far (p := ⟨gb223, 3, none⟩) (by first | exact abk hn224_3 | exact hn224_3) (.int .i64 ((rd_T35 l1 x80_3).f3))).trans hx224_2; replace hx224_3 := (cell_far (p := ⟨gb223, 3, none⟩) (by first | exact abk hn224_3 | exact hn224_3) (.int .i64 ((rd_T35 l1 x80_3).f3))).trans hx224_3; clear hn224_0; clear hn224_1; clear hn224_2; clear hn224_3; replace p224 := eq_true p224; replace q224 := eq_true q224; have p225 : 0 ≤ (x14_3 : Int) := of_decide_eq_true (by first | (with_reducible assumption) | assumption); have q225 : x14_3 < (t207.length : Int) := of_decide_eq_true (by first | (with_reducible assumption) | assumption); obtain ⟨ad225, e225, hx225_0, hx225_1, hx225_2, hx225_3⟩ := at_T35 (Kd.R_reads' HO_9.out).2.2 x14_3 p225 q225; obtain rfl : ad224 = ad225 := (by injection e225); have hn225_0 : ad224.block ≠ gb223 := Kd.own_blk (Kd.R_away HO_9.out (fun _ hk => hk.2)); have hn225_1 : ad224.block ≠ gb223 := Kd.own_blk (Kd.R_away HO_9.out (fun _ hk => hk.2)); have hn225_2 : ad224.block ≠ gb223 := Kd.own_blk (Kd.R_away HO_9.out (fun _ hk => hk.2)); have hn225_3 : ad224.block ≠ gb223 := Kd.own_blk (Kd.R_away HO_9.out (fun _ hk => hk.2)); have hn225_4 : ad224.block ≠ gb223 := Kd.own_blk (Kd.R_away HO_9.out (fun _ hk => hk.2)); replace hx225_0 := (cell_far (p := ⟨gb223, 0, none⟩) (by first | exact abk hn225_0 | exact hn225_0) (.string ((rd_T35 l1 x80_3).f0))).trans hx225_0; replace hx225_1 := (cell_far (p := ⟨gb223, 0, none⟩) (by first | exact abk hn225_0 | exact hn225_0) (.string ((rd_T35 l1 x80_3).f0))).trans hx225_1; replace hx225_2 := (cell_far (p := ⟨gb223, 0, none⟩) (by first | exact abk hn225_0 | exact hn225_0) (.string ((rd_T35 l1 x80_3).f0))).trans hx225_2; replace hx225_3 := (cell_far (p := ⟨gb223, 0, none⟩) (by first | exact abk hn225_0 | exact hn225_0) (.string ((rd_T35 l1 x80_3).f0))).trans hx225_3; replace hx225_0 := (cell_far (p := ⟨gb223, 1, none⟩) (by first | exact abk hn225_1 | exact hn225_1) (.int .i64 ((rd_T35 l1 x80_3).f1))).trans hx225_0; replace hx225_1 := (cell_far (p := ⟨gb223, 1, none⟩) (by first | exact abk hn225_1 | exact hn225_1) (.int .i64 ((rd_T35 l1 x80_3).f1))).trans hx225_1; replace hx225_2 := (cell_far (p := ⟨gb223, 1, none⟩) (by first | exact abk hn225_1 | exact hn225_1) (.int .i64 ((rd_T35 l1 x80_3).f1))).trans hx225_2; replace hx225_3 := (cell_far (p := ⟨gb223, 1, none⟩) (by first | exact abk hn225_1 | exact hn225_1) (.int .i64 ((rd_T35 l1 x80_3).f1))).trans hx225_3; replace hx225_0 := (cell_far (p := ⟨gb223, 2, none⟩) (by first | exact abk hn225_2 | exact hn225_2) (.int .i64 ((rd_T35 l1 x80_3).f2))).trans hx225_0; replace hx225_1 := (cell_far (p := ⟨gb223, 2, none⟩) (by first | exact abk hn225_2 | exact hn225_2) (.int .i64 ((rd_T35 l1 x80_3).f2))).trans hx225_1; replace hx225_2 := (cell_far (p := ⟨gb223, 2, none⟩) (by first | exact abk hn225_2 | exact hn225_2) (.int .i64 ((rd_T35 l1 x80_3).f2))).trans hx225_2; replace hx225_3 := (cell_far (p := ⟨gb223, 2, none⟩) (by first | exact abk hn225_2 | exact hn225_2) (.int .i64 ((rd_T35 l1 x80_3).f2))).trans hx225_3; replace hx225_0 := (cell_far (p := ⟨gb223, 3, none⟩) (by first | exact abk hn225_3 | exact hn225_3) (.int .i64 ((rd_T35 l1 x80_3).f3))).trans hx225_0; replace hx225_1 := (cell_far (p := ⟨gb223, 3, none⟩) (by first | exact abk hn225_3 | exact hn225_3) (.int .i64 ((rd_T35 l1 x80_3).f3))).trans hx225_1; replace hx225_2 := (cell_far (p := ⟨gb223, 3, none⟩) (by first | exact abk hn225_3 | exact hn225_3) (.int .i64 ((rd_T35 l1 x80_3).f3))).trans hx225_2; replace hx225_3 := (cell_far (p := ⟨gb223, 3, none⟩) (by first | exact abk hn225_3 | exact hn225_3) (.int .i64 ((rd_T35 l1 x80_3).f3))).trans hx225_3; replace hx225_0 := (cell_far (p := ⟨gb223, 2, none⟩) (by first | exact abk hn225_4 | exact hn225_4) (.int .i64 ((rd_T35 t207 x14_3).f2))).trans hx225_0; replace hx225_1 := (cell_far (p := ⟨gb223, 2, none⟩) (by first | exact abk hn225_4 | exact hn225_4) (.int .i64 ((rd_T35 t207 x14_3).f2))).trans hx225_1; replace hx225_2 := (cell_far (p := ⟨gb223, 2, none⟩) (by first | exact abk hn225_4 | exact hn225_4) (.int .i64 ((rd_T35 t207 x14_3).f2))).trans hx225_2; replace hx225_3 := (cell_far (p := ⟨gb223, 2, none⟩) (by first | exact abk hn225_4 | exact hn225_4) (.int .i64 ((rd_T35 t207 x14_3).f2))).trans hx225_3; clear hn225_0; clear hn225_1; clear hn225_2; clear hn225_3; clear hn225_4; replace p225 := eq_true p225; replace q225 := eq_true q225; have p226 : 0 ≤ (x80_3 : Int) := of_decide_eq_true (by first | (with_reducible assumption) | assumption); have q226 : x80_3 < (l1.length : Int) := of_decide_eq_true (by first | (with_reducible assumption) | assumption); obtain ⟨ad226, e226, hx226_0, hx226_1, hx226_2, hx226_3⟩ := at_T35 HR1.out x80_3 p226 q226; obtain rfl : ad219 = ad226 := (by injection e226); have hn226_0 : ad219.block ≠ gb223 := Nat.ne_of_lt (Nat.lt_of_lt_of_le (by have := World.block_lt_of_cell? _ _ hx226_0; first | rwa [add_block] at this | exact this) GW223.out); have hn226_1 : ad219.block ≠ gb223 := Nat.ne_of_lt (Nat.lt_of_lt_of_le (by have := World.block_lt_of_cell? _ _ hx226_0; first | rwa [add_block] at this | exact this) GW223.out); have hn226_2 : ad219.block ≠ gb223 := Nat.ne_of_lt (Nat.lt_of_lt_of_le (by have := World.block_lt_of_cell? _ _ hx226_0; first | rwa [add_block] at this | exact this) GW223.out); have hn226_3 : ad219.block ≠ gb223 := Nat.ne_of_lt (Nat.lt_of_lt_of_le (by have := World.block_lt_of_cell? _ _ hx226_0; first | rwa [add_block] at this | exact this) GW223.out); have hn226_4 : ad219.block ≠ gb223 := Nat.ne_of_lt (Nat.lt_of_lt_of_le (by have := World.block_lt_of_cell? _ _ hx226_0; first | rwa [add_block] at this | exact this) GW223.out); replace hx226_0 := (HB.out.cell (World.block_lt_of_cell? w _ hx226_0)).trans hx226_0; replace hx226_1 := (HB.out.cell (World.block_lt_of_cell? w _ hx226_1)).trans hx226_1; replace hx226_2 := (HB.out.cell (World.block_lt_of_cell? w _ hx226_2)).trans hx226_2; replace hx226_3 := (HB.out.cell (World.block_lt_of_cell? w _ hx226_3)).trans hx226_3; replace hx226_0 := (cell_far (p := ⟨gb223, 0, none⟩) (by first | exact abk hn226_0 | exact hn226_0) (.string ((rd_T35 l1 x80_3).f0))).trans hx226_0; replace hx226_1 := (cell_far (p := ⟨gb223, 0, none⟩) (by first | exact abk hn226_0 | exact hn226_0) (.string ((rd_T35 l1 x80_3).f0))).trans hx226_1; replace hx226_2 := (cell_far (p := ⟨gb223, 0, none⟩) (by first | exact abk hn226_0 | exact hn226_0) (.string ((rd_T35 l1 x80_3).f0))).trans hx226_2; replace hx226_3 := (cell_far (p := ⟨gb223, 0, none⟩) (by first | exact abk hn226_0 | exact hn226_0) (.string ((rd_T35 l1 x80_3).f0))).trans hx226_3; replace hx226_0 := (cell_far (p := ⟨gb223, 1, none⟩) (by first | exact abk hn226_1 | exact hn226_1) (.int .i64 ((rd_T35 l1 x80_3).f1))).trans hx226_0; replace hx226_1 := (cell_far (p := ⟨gb223, 1, none⟩) (by first | exact abk hn226_1 | exact hn226_1) (.int .i64 ((rd_T35 l1 x80_3).f1))).trans hx226_1; replace hx226_2 := (cell_far (p := ⟨gb223, 1, none⟩) (by first | exact abk hn226_1 | exact hn226_1) (.int .i64 ((rd_T35 l1 x80_3).f1))).trans hx226_2; replace hx226_3 := (cell_far (p := ⟨gb223, 1, none⟩) (by first | exact abk hn226_1 | exact hn226_1) (.int .i64 ((rd_T35 l1 x80_3).f1))).trans hx226_3; replace hx226_0 := (cell_far (p := ⟨gb223, 2, none⟩) (by first | exact abk hn226_2 | exact hn226_2) (.int .i64 ((rd_T35 l1 x80_3).f2))).trans hx226_0; replace hx226_1 := (cell_far (p := ⟨gb223, 2, none⟩) (by first | exact abk hn226_2 | exact hn226_2) (.int .i64 ((rd_T35 l1 x80_3).f2))).trans hx226_1; replace hx226_2 := (cell_far (p := ⟨gb223, 2, none⟩) (by first | exact abk hn226_2 | exact hn226_2) (.int .i64 ((rd_T35 l1 x80_3).f2))).trans hx226_2; replace hx226_3 := (cell_far (p := ⟨gb223, 2, none⟩) (by first | exact abk hn226_2 | exact hn226_2) (.int .i64 ((rd_T35 l1 x80_3).f2))).trans hx226_3; replace hx226_0 := (cell_far (p := ⟨gb223, 3, none⟩) (by first | exact abk hn226_3 | exact hn226_3) (.int .i64 ((rd_T35 l1 x80_3).f3))).trans hx226_0; replace hx226_1 := (cell_far (p := ⟨gb223, 3, none⟩) (by first | exact abk hn226_3 | exact hn226_3) (.int .i64 ((rd_T35 l1 x80_3).f3))).trans hx226_1; replace hx226_2 := (cell_far (p := ⟨gb223, 3, none⟩) (by first | exact abk hn226_3 | exact hn226_3) (.int .i64 ((rd_T35 l1 x80_3).f3))).trans hx226_2; replace hx226_3 := (cell_far (p := ⟨gb223, 3, none⟩) (by first | exact abk hn226_3 | exact hn226_3) (.int .i64 ((rd_T35 l1 x80_3).f3))).trans hx226_3; replace hx226_0 := (cell_far (p := ⟨gb223, 2, none⟩) (by first | exact abk hn226_4 | exact hn226_4) (.int .i64 ((rd_T35 t207 x14_3).f2))).trans hx226_0; replace hx226_1 := (cell_far (p := ⟨gb223, 2, none⟩) (by first | exact abk hn226_4 | exact hn226_4) (.int .i64 ((rd_T35 t207 x14_3).f2))).trans hx226_1; replace hx226_2 := (cell_far (p := ⟨gb223, 2, none⟩) (by first | exact abk hn226_4 | exact hn226_4) (.int .i64 ((rd_T35 t207 x14_3).f2))).trans hx226_2; replace hx226_3 := (cell_far (p := ⟨gb223, 2, none⟩) (by first | exact abk hn226_4 | exact hn226_4) (.int .i64 ((rd_T35 t207 x14_3).f2))).trans hx226_3; clear hn226_0; clear hn226_1; clear hn226_2; clear hn226_3; clear hn226_4; replace p226 := eq_true p226; replace q226 := eq_true q226; have hbk := blk_put (blk_put (blk_put (blk_put (blk_put BK223.out 0 (.string ((rd_T35 l1 x80_3).f0)) rfl) 1 (.int .i64 ((rd_T35 l1 x80_3).f1)) rfl) 2 (.int .i64 ((rd_T35 l1 x80_3).f2)) rfl) 3 (.int .i64 ((rd_T35 l1 x80_3).f3)) rfl) 2 (.int .i64 ((rd_T35 t207 x14_3).f2)) rfl; have hbx_0 := (blk_cell hbk 0).trans (rfl : _ = some (Value.string ((rd_T35 l1 x80_3).f0))); have hbx_1 := (blk_cell hbk 1).trans (rfl : _ = some (Value.int .i64 ((rd_T35 l1 x80_3).f1))); have hbx_2 := (blk_cell hbk 2).trans (rfl : _ = some (Value.int .i64 ((rd_T35 t207 x14_3).f2))); have hbx_3 := (blk_cell hbk 3).trans (rfl : _ = some (Value.int .i64 ((rd_T35 l1 x80_3).f3))); clear hbk))
                           repeat (go_quiet (fail); try go_wp2)
                           go_roundg kj36
                           case measure => have := HJ8.out; have := HJ20.out; have := HK3.out; have := HJ28.out; have := HJ36.out; omega
                           case rel => exact ⟨(wrap64 (x14_3 + 1)), (wrap64 (x80_3 + 1)), (by first | rfl | (simp; done) | (simp [*]; done)), (by first | rfl | (simp; done) | (simp [*]; done)), H', ⟨by have := HJ8.out; have := HJ20.out; have := HK3.out; have := HJ28.out; have := HJ36.out; omega⟩, ⟨by (with_reducible repeat (first | apply Kd.R_alloc | apply Kd.R_drewN | apply Kd.R_drew)); exact Kd.R_mono (Kd.R_far (p := ⟨gb223, 2, none⟩) (Kd.R_far (p := ⟨gb223, 3, none⟩) (Kd.R_far (p := ⟨gb223, 2, none⟩) (Kd.R_far (p := ⟨gb223, 1, none⟩) (Kd.R_far (p := ⟨gb223, 0, none⟩) (Kd.R_mono HO_9.out (fun k_ hk => (⟨hk, hk.2⟩ : _ ∧ k_ ≠ gb223))) (fun _ hk => hk.2) (.string ((rd_T35 l1 x80_3).f0))) (fun _ hk => hk.2) (.int .i64 ((rd_T35 l1 x80_3).f1))) (fun _ hk => hk.2) (.int .i64 ((rd_T35 l1 x80_3).f2))) (fun _ hk => hk.2) (.int .i64 ((rd_T35 l1 x80_3).f3))) (fun _ hk => hk.2) (.int .i64 ((rd_T35 t207 x14_3).f2))) (fun _ hk => trivial)⟩, ⟨by repeat (first | (with_reducible first | exact HB.out | apply below_alloc | apply pw_below_drewN | apply below_drew1 | refine below_set ?_ GE223.out) | exact HB.out)⟩⟩
                          ·rw [if_neg c48] at H
                           have c48b0 : decide (((rd_T35 t207 x14_3).f2) < ((rd_T35 l1 x80_3).f2)) = false := decide_eq_false c48
                           clear c48
                           have H' := Aside0.mk H
                           clear H
                           have p222 : 0 ≤ (x80_3 : Int) := of_decide_eq_true (by first | (with_reducible assumption) | assumption)
                           have q222 : x80_3 < (l1.length : Int) := of_decide_eq_true (by first | (with_reducible assumption) | assumption)
                           obtain ⟨ad222, e222, hx222_0, hx222_1, hx222_2, hx222_3⟩ := at_T35 HR1.out x80_3 p222 q222
                           obtain rfl : ad219 = ad222 := (by injection e222)
                           replace hx222_0 := (HB.out.cell (World.block_lt_of_cell? w _ hx222_0)).trans hx222_0
                           replace hx222_1 := (HB.out.cell (World.block_lt_of_cell? w _ hx222_1)).trans hx222_1
                           replace hx222_2 := (HB.out.cell (World.block_lt_of_cell? w _ hx222_2)).trans hx222_2
                           replace hx222_3 := (HB.out.cell (World.block_lt_of_cell? w _ hx222_3)).trans hx222_3
                           replace p222 := eq_true p222
                           replace q222 := eq_true q222
                           go_wp2_with (first | ((with_reducible refine gate_dst (N := 17) rfl ?_); (try (refine gate_guard (by rfl) ?_; dsimp only)); refine box_event ?hg (N := 17) ?hd (cs := #[.string (⟨#[]⟩ : ByteArray), .int .i64 0, .int .i64 0, .int .i64 0]) (t := 35) ?hr ?_; (case hd => rfl); (case hg => rfl); (case hr => first | (go_simp; done) | (go_simp; rfl)); intro gb223 hg w51 hbox hb; have n0_ := Aside0.mk (Kd.R_below (Kd.R_elderB (by (with_reducible repeat (first | apply Kd.R_alloc | apply Kd.R_drewN | apply Kd.R_drew)); exact HO_9.out) gb223 (Nat.le_of_eq hg.symm)) hb); have n1_ := Aside0.mk (below_step (by repeat (first | (with_reducible first | exact HB.out | apply below_alloc | apply pw_below_drewN | apply below_drew1) | exact HB.out)) hb); have n2_ := Aside0.mk (hbox); have n3_ := Aside0.mk ((by rw [hg]; exact (below_size (by repeat (first | (with_reducible first | exact HB.out | apply below_alloc | apply pw_below_drewN | apply below_drew1) | exact HB.out))) : w.heap.size ≤ gb223)); have n4_ := Aside0.mk ((by rw [hg]; exact (below_size (by repeat (first | (with_reducible first | exact HB.out | apply below_alloc | apply pw_below_drewN | apply below_drew1) | exact HB.out))) : w.heap.size ≤ gb223)); clear HO_9; clear HB; have HO_9 := n0_; have HB := n1_; have BK223 := n2_; have GW223 := n3_; have GE223 := n4_; clear n0_ n1_ n2_ n3_ n4_; clear hb hbox hg; have hcz52_0 : w51.cell? ⟨gb223, 0, none⟩ = some (.string (⟨#[]⟩ : ByteArray)) := (blk_cell BK223.out 0).trans rfl; have hcz52_1 : w51.cell? ⟨gb223, 1, none⟩ = some (.int .i64 0) := (blk_cell BK223.out 1).trans rfl; have hcz52_2 : w51.cell? ⟨gb223, 2, none⟩ = some (.int .i64 0) := (blk_cell BK223.out 2).trans rfl; have hcz52_3 : w51.cell? ⟨gb223, 3, none⟩ = some (.int .i64 0) := (blk_cell BK223.out 3).trans rfl; have hfz52_0 := blk_frozen BK223.out 0; have hfz52_1 := blk_frozen BK223.out 1; have hfz52_2 := blk_frozen BK223.out 2; have hfz52_3 := blk_frozen BK223.out 3; have p224 : 0 ≤ (x14_3 : Int) := of_decide_eq_true (by first | (with_reducible assumption) | assumption); have q224 : x14_3 < (t207.length : Int) := of_decide_eq_true (by first | (with_reducible assumption) | assumption); obtain ⟨ad224, e224, hx224_0, hx224_1, hx224_2, hx224_3⟩ := at_T35 (Kd.R_reads' HO_9.out).2.2 x14_3 p224 q224; cases e224; have hn224_0 : ad224.block ≠ gb223 := Kd.own_blk (Kd.R_away HO_9.out (fun _ hk => hk.2)); have hn224_1 : ad224.block ≠ gb223 := Kd.own_blk (Kd.R_away HO_9.out (fun _ hk => hk.2)); have hn224_2 : ad224.block ≠ gb223 := Kd.own_blk (Kd.R_away HO_9.out (fun _ hk => hk.2)); have hn224_3 : ad224.block ≠ gb223 := Kd.own_blk (Kd.R_away HO_9.out (fun _ hk => hk.2)); replace hx224_0 := (cell_far (p := ⟨gb223, 0, none⟩) (by first | exact abk hn224_0 | exact hn224_0) (.string ((rd_T35 l1 x80_3).f0))).trans hx224_0; replace hx224_1 := (cell_far (p := ⟨gb223, 0, none⟩) (by first | exact abk hn224_0 | exact hn224_0) (.string ((rd_T35 l1 x80_3).f0))).trans hx224_1; replace hx224_2 := (cell_far (p := ⟨gb223, 0, none⟩) (by first | exact abk hn224_0 | exact hn224_0) (.string ((rd_T35 l1 x80_3).f0))).trans hx224_2; replace hx224_3 := (cell_far (p := ⟨gb223, 0, none⟩) (by first | exact abk hn224_0 | exact hn224_0) (.string ((rd_T35 l1 x80_3).f0))).trans hx224_3; replace hx224_0 := (cell_far (p := ⟨gb223, 1, none⟩) (by first | exact abk hn224_1 | exact hn224_1) (.int .i64 ((rd_T35 l1 x80_3).f1))).trans hx224_0; replace hx224_1 := (cell_far (p := ⟨gb223, 1, none⟩) (by first | exact abk hn224_1 | exact hn224_1) (.int .i64 ((rd_T35 l1 x80_3).f1))).trans hx224_1; replace hx224_2 := (cell_far (p := ⟨gb223, 1, none⟩) (by first | exact abk hn224_1 | exact hn224_1) (.int .i64 ((rd_T35 l1 x80_3).f1))).trans hx224_2; replace hx224_3 := (cell_far (p := ⟨gb223, 1, none⟩) (by first | exact abk hn224_1 | exact hn224_1) (.int .i64 ((rd_T35 l1 x80_3).f1))).trans hx224_3; replace hx224_0 := (cell_far (p := ⟨gb223, 2, none⟩) (by first | exact abk hn224_2 | exact hn224_2) (.int .i64 ((rd_T35 l1 x80_3).f2))).trans hx224_0; replace hx224_1 := (cell_far (p := ⟨gb223, 2, none⟩) (by first | exact abk hn224_2 | exact hn224_2) (.int .i64 ((rd_T35 l1 x80_3).f2))).trans hx224_1; replace hx224_2 := (cell_far (p := ⟨gb223, 2, none⟩) (by first | exact abk hn224_2 | exact hn224_2) (.int .i64 ((rd_T35 l1 x80_3).f2))).trans hx224_2; replace hx224_3 := (cell_far (p := ⟨gb223, 2, none⟩) (by first | exact abk hn224_2 | exact hn224_2) (.int .i64 ((rd_T35 l1 x80_3).f2))).trans hx224_3; replace hx224_0 := (cell_far (p := ⟨gb223, 3, none⟩) (by first | exact abk hn224_3 | exact hn224_3) (.int .i64 ((rd_T35 l1 x80_3).f3))).trans hx224_0; replace hx224_1 := (cell_far (p := ⟨gb223, 3, none⟩) (by first | exact abk hn224_3 | exact hn224_3) (.int .i64 ((rd_T35 l1 x80_3).f3))).trans hx224_1; replace hx224_2 := (cell_far (p := ⟨gb223, 3, none⟩) (by first | exact abk hn224_3 | exact hn224_3) (.int .i64 ((rd_T35 l1 x80_3).f3))).trans hx224_2; replace hx224_3 := (cell_far (p := ⟨gb223, 3, none⟩) (by first | exact abk hn224_3 | exact hn224_3) (.int .i64 ((rd_T35 l1 x80_3).f3))).trans hx224_3; clear hn224_0; clear hn224_1; clear hn224_2; clear hn224_3; replace p224 := eq_true p224; replace q224 := eq_true q224; have p225 : 0 ≤ (x14_3 : Int) := of_decide_eq_true (by first | (with_reducible assumption) | assumption); have q225 : x14_3 < (t207.length : Int) := of_decide_eq_true (by first | (with_reducible assumption) | assumption); obtain ⟨ad225, e225, hx225_0, hx225_1, hx225_2, hx225_3⟩ := at_T35 (Kd.R_reads' HO_9.out).2.2 x14_3 p225 q225; obtain rfl : ad224 = ad225 := (by injection e225); have hn225_0 : ad224.block ≠ gb223 := Kd.own_blk (Kd.R_away HO_9.out (fun _ hk => hk.2)); have hn225_1 : ad224.block ≠ gb223 := Kd.own_blk (Kd.R_away HO_9.out (fun _ hk => hk.2)); have hn225_2 : ad224.block ≠ gb223 := Kd.own_blk (Kd.R_away HO_9.out (fun _ hk => hk.2)); have hn225_3 : ad224.block ≠ gb223 := Kd.own_blk (Kd.R_away HO_9.out (fun _ hk => hk.2)); have hn225_4 : ad224.block ≠ gb223 := Kd.own_blk (Kd.R_away HO_9.out (fun _ hk => hk.2)); replace hx225_0 := (cell_far (p := ⟨gb223, 0, none⟩) (by first | exact abk hn225_0 | exact hn225_0) (.string ((rd_T35 l1 x80_3).f0))).trans hx225_0; replace hx225_1 := (cell_far (p := ⟨gb223, 0, none⟩) (by first | exact abk hn225_0 | exact hn225_0) (.string ((rd_T35 l1 x80_3).f0))).trans hx225_1; replace hx225_2 := (cell_far (p := ⟨gb223, 0, none⟩) (by first | exact abk hn225_0 | exact hn225_0) (.string ((rd_T35 l1 x80_3).f0))).trans hx225_2; replace hx225_3 := (cell_far (p := ⟨gb223, 0, none⟩) (by first | exact abk hn225_0 | exact hn225_0) (.string ((rd_T35 l1 x80_3).f0))).trans hx225_3; replace hx225_0 := (cell_far (p := ⟨gb223, 1, none⟩) (by first | exact abk hn225_1 | exact hn225_1) (.int .i64 ((rd_T35 l1 x80_3).f1))).trans hx225_0; replace hx225_1 := (cell_far (p := ⟨gb223, 1, none⟩) (by first | exact abk hn225_1 | exact hn225_1) (.int .i64 ((rd_T35 l1 x80_3).f1))).trans hx225_1; replace hx225_2 := (cell_far (p := ⟨gb223, 1, none⟩) (by first | exact abk hn225_1 | exact hn225_1) (.int .i64 ((rd_T35 l1 x80_3).f1))).trans hx225_2; replace hx225_3 := (cell_far (p := ⟨gb223, 1, none⟩) (by first | exact abk hn225_1 | exact hn225_1) (.int .i64 ((rd_T35 l1 x80_3).f1))).trans hx225_3; replace hx225_0 := (cell_far (p := ⟨gb223, 2, none⟩) (by first | exact abk hn225_2 | exact hn225_2) (.int .i64 ((rd_T35 l1 x80_3).f2))).trans hx225_0; replace hx225_1 := (cell_far (p := ⟨gb223, 2, none⟩) (by first | exact abk hn225_2 | exact hn225_2) (.int .i64 ((rd_T35 l1 x80_3).f2))).trans hx225_1; replace hx225_2 := (cell_far (p := ⟨gb223, 2, none⟩) (by first | exact abk hn225_2 | exact hn225_2) (.int .i64 ((rd_T35 l1 x80_3).f2))).trans hx225_2; replace hx225_3 := (cell_far (p := ⟨gb223, 2, none⟩) (by first | exact abk hn225_2 | exact hn225_2) (.int .i64 ((rd_T35 l1 x80_3).f2))).trans hx225_3; replace hx225_0 := (cell_far (p := ⟨gb223, 3, none⟩) (by first | exact abk hn225_3 | exact hn225_3) (.int .i64 ((rd_T35 l1 x80_3).f3))).trans hx225_0; replace hx225_1 := (cell_far (p := ⟨gb223, 3, none⟩) (by first | exact abk hn225_3 | exact hn225_3) (.int .i64 ((rd_T35 l1 x80_3).f3))).trans hx225_1; replace hx225_2 := (cell_far (p := ⟨gb223, 3, none⟩) (by first | exact abk hn225_3 | exact hn225_3) (.int .i64 ((rd_T35 l1 x80_3).f3))).trans hx225_2; replace hx225_3 := (cell_far (p := ⟨gb223, 3, none⟩) (by first | exact abk hn225_3 | exact hn225_3) (.int .i64 ((rd_T35 l1 x80_3).f3))).trans hx225_3; replace hx225_0 := (cell_far (p := ⟨gb223, 2, none⟩) (by first | exact abk hn225_4 | exact hn225_4) (.int .i64 ((rd_T35 t207 x14_3).f2))).trans hx225_0; replace hx225_1 := (cell_far (p := ⟨gb223, 2, none⟩) (by first | exact abk hn225_4 | exact hn225_4) (.int .i64 ((rd_T35 t207 x14_3).f2))).trans hx225_1; replace hx225_2 := (cell_far (p := ⟨gb223, 2, none⟩) (by first | exact abk hn225_4 | exact hn225_4) (.int .i64 ((rd_T35 t207 x14_3).f2))).trans hx225_2; replace hx225_3 := (cell_far (p := ⟨gb223, 2, none⟩) (by first | exact abk hn225_4 | exact hn225_4) (.int .i64 ((rd_T35 t207 x14_3).f2))).trans hx225_3; clear hn225_0; clear hn225_1; clear hn225_2; clear hn225_3; clear hn225_4; replace p225 := eq_true p225; replace q225 := eq_true q225; have p226 : 0 ≤ (x80_3 : Int) := of_decide_eq_true (by first | (with_reducible assumption) | assumption); have q226 : x80_3 < (l1.length : Int) := of_decide_eq_true (by first | (with_reducible assumption) | assumption); obtain ⟨ad226, e226, hx226_0, hx226_1, hx226_2, hx226_3⟩ := at_T35 HR1.out x80_3 p226 q226; obtain rfl : ad219 = ad226 := (by injection e226); have hn226_0 : ad219.block ≠ gb223 := Nat.ne_of_lt (Nat.lt_of_lt_of_le (by have := World.block_lt_of_cell? _ _ hx226_0; first | rwa [add_block] at this | exact this) GW223.out); have hn226_1 : ad219.block ≠ gb223 := Nat.ne_of_lt (Nat.lt_of_lt_of_le (by have := World.block_lt_of_cell? _ _ hx226_0; first | rwa [add_block] at this | exact this) GW223.out); have hn226_2 : ad219.block ≠ gb223 := Nat.ne_of_lt (Nat.lt_of_lt_of_le (by have := World.block_lt_of_cell? _ _ hx226_0; first | rwa [add_block] at this | exact this) GW223.out); have hn226_3 : ad219.block ≠ gb223 := Nat.ne_of_lt (Nat.lt_of_lt_of_le (by have := World.block_lt_of_cell? _ _ hx226_0; first | rwa [add_block] at this | exact this) GW223.out); have hn226_4 : ad219.block ≠ gb223 := Nat.ne_of_lt (Nat.lt_of_lt_of_le (by have := World.block_lt_of_cell? _ _ hx226_0; first | rwa [add_block] at this | exact this) GW223.out); replace hx226_0 := (HB.out.cell (World.block_lt_of_cell? w _ hx226_0)).trans hx226_0; replace hx226_1 := (HB.out.cell (World.block_lt_of_cell? w _ hx226_1)).trans hx226_1; replace hx226_2 := (HB.out.cell (World.block_lt_of_cell? w _ hx226_2)).trans hx226_2; replace hx226_3 := (HB.out.cell (World.block_lt_of_cell? w _ hx226_3)).trans hx226_3; replace hx226_0 := (cell_far (p := ⟨gb223, 0, none⟩) (by first | exact abk hn226_0 | exact hn226_0) (.string ((rd_T35 l1 x80_3).f0))).trans hx226_0; replace hx226_1 := (cell_far (p := ⟨gb223, 0, none⟩) (by first | exact abk hn226_0 | exact hn226_0) (.string ((rd_T35 l1 x80_3).f0))).trans hx226_1; replace hx226_2 := (cell_far (p := ⟨gb223, 0, none⟩) (by first | exact abk hn226_0 | exact hn226_0) (.string ((rd_T35 l1 x80_3).f0))).trans hx226_2; replace hx226_3 := (cell_far (p := ⟨gb223, 0, none⟩) (by first | exact abk hn226_0 | exact hn226_0) (.string ((rd_T35 l1 x80_3).f0))).trans hx226_3; replace hx226_0 := (cell_far (p := ⟨gb223, 1, none⟩) (by first | exact abk hn226_1 | exact hn226_1) (.int .i64 ((rd_T35 l1 x80_3).f1))).trans hx226_0; replace hx226_1 := (cell_far (p := ⟨gb223, 1, none⟩) (by first | exact abk hn226_1 | exact hn226_1) (.int .i64 ((rd_T35 l1 x80_3).f1))).trans hx226_1; replace hx226_2 := (cell_far (p := ⟨gb223, 1, none⟩) (by first | exact abk hn226_1 | exact hn226_1) (.int .i64 ((rd_T35 l1 x80_3).f1))).trans hx226_2; replace hx226_3 := (cell_far (p := ⟨gb223, 1, none⟩) (by first | exact abk hn226_1 | exact hn226_1) (.int .i64 ((rd_T35 l1 x80_3).f1))).trans hx226_3; replace hx226_0 := (cell_far (p := ⟨gb223, 2, none⟩) (by first | exact abk hn226_2 | exact hn226_2) (.int .i64 ((rd_T35 l1 x80_3).f2))).trans hx226_0; replace hx226_1 := (cell_far (p := ⟨gb223, 2, none⟩) (by first | exact abk hn226_2 | exact hn226_2) (.int .i64 ((rd_T35 l1 x80_3).f2))).trans hx226_1; replace hx226_2 := (cell_far (p := ⟨gb223, 2, none⟩) (by first | exact abk hn226_2 | exact hn226_2) (.int .i64 ((rd_T35 l1 x80_3).f2))).trans hx226_2; replace hx226_3 := (cell_far (p := ⟨gb223, 2, none⟩) (by first | exact abk hn226_2 | exact hn226_2) (.int .i64 ((rd_T35 l1 x80_3).f2))).trans hx226_3; replace hx226_0 := (cell_far (p := ⟨gb223, 3, none⟩) (by first | exact abk hn226_3 | exact hn226_3) (.int .i64 ((rd_T35 l1 x80_3).f3))).trans hx226_0; replace hx226_1 := (cell_far (p := ⟨gb223, 3, none⟩) (by first | exact abk hn226_3 | exact hn226_3) (.int .i64 ((rd_T35 l1 x80_3).f3))).trans hx226_1; replace hx226_2 := (cell_far (p := ⟨gb223, 3, none⟩) (by first | exact abk hn226_3 | exact hn226_3) (.int .i64 ((rd_T35 l1 x80_3).f3))).trans hx226_2; replace hx226_3 := (cell_far (p := ⟨gb223, 3, none⟩) (by first | exact abk hn226_3 | exact hn226_3) (.int .i64 ((rd_T35 l1 x80_3).f3))).trans hx226_3; replace hx226_0 := (cell_far (p := ⟨gb223, 2, none⟩) (by first | exact abk hn226_4 | exact hn226_4) (.int .i64 ((rd_T35 t207 x14_3).f2))).trans hx226_0; replace hx226_1 := (cell_far (p := ⟨gb223, 2, none⟩) (by first | exact abk hn226_4 | exact hn226_4) (.int .i64 ((rd_T35 t207 x14_3).f2))).trans hx226_1; replace hx226_2 := (cell_far (p := ⟨gb223, 2, none⟩) (by first | exact abk hn226_4 | exact hn226_4) (.int .i64 ((rd_T35 t207 x14_3).f2))).trans hx226_2; replace hx226_3 := (cell_far (p := ⟨gb223, 2, none⟩) (by first | exact abk hn226_4 | exact hn226_4) (.int .i64 ((rd_T35 t207 x14_3).f2))).trans hx226_3; clear hn226_0; clear hn226_1; clear hn226_2; clear hn226_3; clear hn226_4; replace p226 := eq_true p226; replace q226 := eq_true q226; have hbk := blk_put (blk_put (blk_put (blk_put (blk_put BK223.out 0 (.string ((rd_T35 l1 x80_3).f0)) rfl) 1 (.int .i64 ((rd_T35 l1 x80_3).f1)) rfl) 2 (.int .i64 ((rd_T35 l1 x80_3).f2)) rfl) 3 (.int .i64 ((rd_T35 l1 x80_3).f3)) rfl) 2 (.int .i64 ((rd_T35 t207 x14_3).f2)) rfl; have hbx_0 := (blk_cell hbk 0).trans (rfl : _ = some (Value.string ((rd_T35 l1 x80_3).f0))); have hbx_1 := (blk_cell hbk 1).trans (rfl : _ = some (Value.int .i64 ((rd_T35 l1 x80_3).f1))); have hbx_2 := (blk_cell hbk 2).trans (rfl : _ = some (Value.int .i64 ((rd_T35 t207 x14_3).f2))); have hbx_3 := (blk_cell hbk 3).trans (rfl : _ = some (Value.int .i64 ((rd_T35 l1 x80_3).f3))); clear hbk))
                           repeat (go_quiet (fail); try go_wp2)
                           go_roundg kj36
                           case measure => have := HJ8.out; have := HJ20.out; have := HK3.out; have := HJ28.out; have := HJ36.out; omega
                           case rel => exact ⟨(x14_3), (wrap64 (x80_3 + 1)), (by first | rfl | (simp; done) | (simp [*]; done)), (by first | rfl | (simp; done) | (simp [*]; done)), H', ⟨by have := HJ8.out; have := HJ20.out; have := HK3.out; have := HJ28.out; have := HJ36.out; omega⟩, ⟨by (with_reducible repeat (first | apply Kd.R_alloc | apply Kd.R_drewN | apply Kd.R_drew)); exact Kd.R_mono (Kd.R_far (p := ⟨gb223, 2, none⟩) (Kd.R_far (p := ⟨gb223, 3, none⟩) (Kd.R_far (p := ⟨gb223, 2, none⟩) (Kd.R_far (p := ⟨gb223, 1, none⟩) (Kd.R_far (p := ⟨gb223, 0, none⟩) (Kd.R_mono HO_9.out (fun k_ hk => (⟨hk, hk.2⟩ : _ ∧ k_ ≠ gb223))) (fun _ hk => hk.2) (.string ((rd_T35 l1 x80_3).f0))) (fun _ hk => hk.2) (.int .i64 ((rd_T35 l1 x80_3).f1))) (fun _ hk => hk.2) (.int .i64 ((rd_T35 l1 x80_3).f2))) (fun _ hk => hk.2) (.int .i64 ((rd_T35 l1 x80_3).f3))) (fun _ hk => hk.2) (.int .i64 ((rd_T35 t207 x14_3).f2))) (fun _ hk => trivial)⟩, ⟨by repeat (first | (with_reducible first | exact HB.out | apply below_alloc | apply pw_below_drewN | apply below_drew1 | refine below_set ?_ GE223.out) | exact HB.out)⟩⟩
                         ·rw [if_neg c47] at H
                          have c47b0 : decide (0 < ((rd_T35 t207 x14_3).f2)) = false := decide_eq_false c47
                          clear c47
                          have H' := Aside0.mk H
                          clear H
                          have p222 : 0 ≤ (x80_3 : Int) := of_decide_eq_true (by first | (with_reducible assumption) | assumption)
                          have q222 : x80_3 < (l1.length : Int) := of_decide_eq_true (by first | (with_reducible assumption) | assumption)
                          obtain ⟨ad222, e222, hx222_0, hx222_1, hx222_2, hx222_3⟩ := at_T35 HR1.out x80_3 p222 q222
                          obtain rfl : ad219 = ad222 := (by injection e222)
                          replace hx222_0 := (HB.out.cell (World.block_lt_of_cell? w _ hx222_0)).trans hx222_0
                          replace hx222_1 := (HB.out.cell (World.block_lt_of_cell? w _ hx222_1)).trans hx222_1
                          replace hx222_2 := (HB.out.cell (World.block_lt_of_cell? w _ hx222_2)).trans hx222_2
                          replace hx222_3 := (HB.out.cell (World.block_lt_of_cell? w _ hx222_3)).trans hx222_3
                          replace p222 := eq_true p222
                          replace q222 := eq_true q222
                          go_wp2_with (first | ((with_reducible refine gate_dst (N := 17) rfl ?_); (try (refine gate_guard (by rfl) ?_; dsimp only)); refine box_event ?hg (N := 17) ?hd (cs := #[.string (⟨#[]⟩ : ByteArray), .int .i64 0, .int .i64 0, .int .i64 0]) (t := 35) ?hr ?_; (case hd => rfl); (case hg => rfl); (case hr => first | (go_simp; done) | (go_simp; rfl)); intro gb223 hg w53 hbox hb; have n0_ := Aside0.mk (Kd.R_below (Kd.R_elderB (by (with_reducible repeat (first | apply Kd.R_alloc | apply Kd.R_drewN | apply Kd.R_drew)); exact HO_9.out) gb223 (Nat.le_of_eq hg.symm)) hb); have n1_ := Aside0.mk (below_step (by repeat (first | (with_reducible first | exact HB.out | apply below_alloc | apply pw_below_drewN | apply below_drew1) | exact HB.out)) hb); have n2_ := Aside0.mk (hbox); have n3_ := Aside0.mk ((by rw [hg]; exact (below_size (by repeat (first | (with_reducible first | exact HB.out | apply below_alloc | apply pw_below_drewN | apply below_drew1) | exact HB.out))) : w.heap.size ≤ gb223)); have n4_ := Aside0.mk ((by rw [hg]; exact (below_size (by repeat (first | (with_reducible first | exact HB.out | apply below_alloc | apply pw_below_drewN | apply below_drew1) | exact HB.out))) : w.heap.size ≤ gb223)); clear HO_9; clear HB; have HO_9 := n0_; have HB := n1_; have BK223 := n2_; have GW223 := n3_; have GE223 := n4_; clear n0_ n1_ n2_ n3_ n4_; clear hb hbox hg; have hcz54_0 : w53.cell? ⟨gb223, 0, none⟩ = some (.string (⟨#[]⟩ : ByteArray)) := (blk_cell BK223.out 0).trans rfl; have hcz54_1 : w53.cell? ⟨gb223, 1, none⟩ = some (.int .i64 0) := (blk_cell BK223.out 1).trans rfl; have hcz54_2 : w53.cell? ⟨gb223, 2, none⟩ = some (.int .i64 0) := (blk_cell BK223.out 2).trans rfl; have hcz54_3 : w53.cell? ⟨gb223, 3, none⟩ = some (.int .i64 0) := (blk_cell BK223.out 3).trans rfl; have hfz54_0 := blk_frozen BK223.out 0; have hfz54_1 := blk_frozen BK223.out 1; have hfz54_2 := blk_frozen BK223.out 2; have hfz54_3 := blk_frozen BK223.out 3; have p224 : 0 ≤ (x14_3 : Int) := of_decide_eq_true (by first | (with_reducible assumption) | assumption); have q224 : x14_3 < (t207.length : Int) := of_decide_eq_true (by first | (with_reducible assumption) | assumption); obtain ⟨ad224, e224, hx224_0, hx224_1, hx224_2, hx224_3⟩ := at_T35 (Kd.R_reads' HO_9.out).2.2 x14_3 p224 q224; cases e224; have hn224_0 : ad224.block ≠ gb223 := Kd.own_blk (Kd.R_away HO_9.out (fun _ hk => hk.2)); have hn224_1 : ad224.block ≠ gb223 := Kd.own_blk (Kd.R_away HO_9.out (fun _ hk => hk.2)); have hn224_2 : ad224.block ≠ gb223 := Kd.own_blk (Kd.R_away HO_9.out (fun _ hk => hk.2)); have hn224_3 : ad224.block ≠ gb223 := Kd.own_blk (Kd.R_away HO_9.out (fun _ hk => hk.2)); replace hx224_0 := (cell_far (p := ⟨gb223, 0, none⟩) (by first | exact abk hn224_0 | exact hn224_0) (.string ((rd_T35 l1 x80_3).f0))).trans hx224_0; replace hx224_1 := (cell_far (p := ⟨gb223, 0, none⟩) (by first | exact abk hn224_0 | exact hn224_0) (.string ((rd_T35 l1 x80_3).f0))).trans hx224_1; replace hx224_2 := (cell_far (p := ⟨gb223, 0, none⟩) (by first | exact abk hn224_0 | exact hn224_0) (.string ((rd_T35 l1 x80_3).f0))).trans hx224_2; replace hx224_3 := (cell_far (p := ⟨gb223, 0, none⟩) (by first | exact abk hn224_0 | exact hn224_0) (.string ((rd_T35 l1 x80_3).f0))).trans hx224_3; replace hx224_0 := (cell_far (p := ⟨gb223, 1, none⟩) (by first | exact abk hn224_1 | exact hn224_1) (.int .i64 ((rd_T35 l1 x80_3).f1))).trans hx224_0; replace hx224_1 := (cell_far (p := ⟨gb223, 1, none⟩) (by first | exact abk hn224_1 | exact hn224_1) (.int .i64 ((rd_T35 l1 x80_3).f1))).trans hx224_1; replace hx224_2 := (cell_far (p := ⟨gb223, 1, none⟩) (by first | exact abk hn224_1 | exact hn224_1) (.int .i64 ((rd_T35 l1 x80_3).f1))).trans hx224_2; replace hx224_3 := (cell_far (p := ⟨gb223, 1, none⟩) (by first | exact abk hn224_1 | exact hn224_1) (.int .i64 ((rd_T35 l1 x80_3).f1))).trans hx224_3; replace hx224_0 := (cell_far (p := ⟨gb223, 2, none⟩) (by first | exact abk hn224_2 | exact hn224_2) (.int .i64 ((rd_T35 l1 x80_3).f2))).trans hx224_0; replace hx224_1 := (cell_far (p := ⟨gb223, 2, none⟩) (by first | exact abk hn224_2 | exact hn224_2) (.int .i64 ((rd_T35 l1 x80_3).f2))).trans hx224_1; replace hx224_2 := (cell_far (p := ⟨gb223, 2, none⟩) (by first | exact abk hn224_2 | exact hn224_2) (.int .i64 ((rd_T35 l1 x80_3).f2))).trans hx224_2; replace hx224_3 := (cell_far (p := ⟨gb223, 2, none⟩) (by first | exact abk hn224_2 | exact hn224_2) (.int .i64 ((rd_T35 l1 x80_3).f2))).trans hx224_3; replace hx224_0 := (cell_far (p := ⟨gb223, 3, none⟩) (by first | exact abk hn224_3 | exact hn224_3) (.int .i64 ((rd_T35 l1 x80_3).f3))).trans hx224_0; replace hx224_1 := (cell_far (p := ⟨gb223, 3, none⟩) (by first | exact abk hn224_3 | exact hn224_3) (.int .i64 ((rd_T35 l1 x80_3).f3))).trans hx224_1; replace hx224_2 := (cell_far (p := ⟨gb223, 3, none⟩) (by first | exact abk hn224_3 | exact hn224_3) (.int .i64 ((rd_T35 l1 x80_3).f3))).trans hx224_2; replace hx224_3 := (cell_far (p := ⟨gb223, 3, none⟩) (by first | exact abk hn224_3 | exact hn224_3) (.int .i64 ((rd_T35 l1 x80_3).f3))).trans hx224_3; clear hn224_0; clear hn224_1; clear hn224_2; clear hn224_3; replace p224 := eq_true p224; replace q224 := eq_true q224; have p225 : 0 ≤ (x14_3 : Int) := of_decide_eq_true (by first | (with_reducible assumption) | assumption); have q225 : x14_3 < (t207.length : Int) := of_decide_eq_true (by first | (with_reducible assumption) | assumption); obtain ⟨ad225, e225, hx225_0, hx225_1, hx225_2, hx225_3⟩ := at_T35 (Kd.R_reads' HO_9.out).2.2 x14_3 p225 q225; obtain rfl : ad224 = ad225 := (by injection e225); have hn225_0 : ad224.block ≠ gb223 := Kd.own_blk (Kd.R_away HO_9.out (fun _ hk => hk.2)); have hn225_1 : ad224.block ≠ gb223 := Kd.own_blk (Kd.R_away HO_9.out (fun _ hk => hk.2)); have hn225_2 : ad224.block ≠ gb223 := Kd.own_blk (Kd.R_away HO_9.out (fun _ hk => hk.2)); have hn225_3 : ad224.block ≠ gb223 := Kd.own_blk (Kd.R_away HO_9.out (fun _ hk => hk.2)); have hn225_4 : ad224.block ≠ gb223 := Kd.own_blk (Kd.R_away HO_9.out (fun _ hk => hk.2)); replace hx225_0 := (cell_far (p := ⟨gb223, 0, none⟩) (by first | exact abk hn225_0 | exact hn225_0) (.string ((rd_T35 l1 x80_3).f0))).trans hx225_0; replace hx225_1 := (cell_far (p := ⟨gb223, 0, none⟩) (by first | exact abk hn225_0 | exact hn225_0) (.string ((rd_T35 l1 x80_3).f0))).trans hx225_1; replace hx225_2 := (cell_far (p := ⟨gb223, 0, none⟩) (by first | exact abk hn225_0 | exact hn225_0) (.string ((rd_T35 l1 x80_3).f0))).trans hx225_2; replace hx225_3 := (cell_far (p := ⟨gb223, 0, none⟩) (by first | exact abk hn225_0 | exact hn225_0) (.string ((rd_T35 l1 x80_3).f0))).trans hx225_3; replace hx225_0 := (cell_far (p := ⟨gb223, 1, none⟩) (by first | exact abk hn225_1 | exact hn225_1) (.int .i64 ((rd_T35 l1 x80_3).f1))).trans hx225_0; replace hx225_1 := (cell_far (p := ⟨gb223, 1, none⟩) (by first | exact abk hn225_1 | exact hn225_1) (.int .i64 ((rd_T35 l1 x80_3).f1))).trans hx225_1; replace hx225_2 := (cell_far (p := ⟨gb223, 1, none⟩) (by first | exact abk hn225_1 | exact hn225_1) (.int .i64 ((rd_T35 l1 x80_3).f1))).trans hx225_2; replace hx225_3 := (cell_far (p := ⟨gb223, 1, none⟩) (by first | exact abk hn225_1 | exact hn225_1) (.int .i64 ((rd_T35 l1 x80_3).f1))).trans hx225_3; replace hx225_0 := (cell_far (p := ⟨gb223, 2, none⟩) (by first | exact abk hn225_2 | exact hn225_2) (.int .i64 ((rd_T35 l1 x80_3).f2))).trans hx225_0; replace hx225_1 := (cell_far (p := ⟨gb223, 2, none⟩) (by first | exact abk hn225_2 | exact hn225_2) (.int .i64 ((rd_T35 l1 x80_3).f2))).trans hx225_1; replace hx225_2 := (cell_far (p := ⟨gb223, 2, none⟩) (by first | exact abk hn225_2 | exact hn225_2) (.int .i64 ((rd_T35 l1 x80_3).f2))).trans hx225_2; replace hx225_3 := (cell_far (p := ⟨gb223, 2, none⟩) (by first | exact abk hn225_2 | exact hn225_2) (.int .i64 ((rd_T35 l1 x80_3).f2))).trans hx225_3; replace hx225_0 := (cell_far (p := ⟨gb223, 3, none⟩) (by first | exact abk hn225_3 | exact hn225_3) (.int .i64 ((rd_T35 l1 x80_3).f3))).trans hx225_0; replace hx225_1 := (cell_far (p := ⟨gb223, 3, none⟩) (by first | exact abk hn225_3 | exact hn225_3) (.int .i64 ((rd_T35 l1 x80_3).f3))).trans hx225_1; replace hx225_2 := (cell_far (p := ⟨gb223, 3, none⟩) (by first | exact abk hn225_3 | exact hn225_3) (.int .i64 ((rd_T35 l1 x80_3).f3))).trans hx225_2; replace hx225_3 := (cell_far (p := ⟨gb223, 3, none⟩) (by first | exact abk hn225_3 | exact hn225_3) (.int .i64 ((rd_T35 l1 x80_3).f3))).trans hx225_3; replace hx225_0 := (cell_far (p := ⟨gb223, 2, none⟩) (by first | exact abk hn225_4 | exact hn225_4) (.int .i64 ((rd_T35 t207 x14_3).f2))).trans hx225_0; replace hx225_1 := (cell_far (p := ⟨gb223, 2, none⟩) (by first | exact abk hn225_4 | exact hn225_4) (.int .i64 ((rd_T35 t207 x14_3).f2))).trans hx225_1; replace hx225_2 := (cell_far (p := ⟨gb223, 2, none⟩) (by first | exact abk hn225_4 | exact hn225_4) (.int .i64 ((rd_T35 t207 x14_3).f2))).trans hx225_2; replace hx225_3 := (cell_far (p := ⟨gb223, 2, none⟩) (by first | exact abk hn225_4 | exact hn225_4) (.int .i64 ((rd_T35 t207 x14_3).f2))).trans hx225_3; clear hn225_0; clear hn225_1; clear hn225_2; clear hn225_3; clear hn225_4; replace p225 := eq_true p225; replace q225 := eq_true q225; have hbk := blk_put (blk_put (blk_put (blk_put (blk_put BK223.out 0 (.string ((rd_T35 l1 x80_3).f0)) rfl) 1 (.int .i64 ((rd_T35 l1 x80_3).f1)) rfl) 2 (.int .i64 ((rd_T35 l1 x80_3).f2)) rfl) 3 (.int .i64 ((rd_T35 l1 x80_3).f3)) rfl) 2 (.int .i64 ((rd_T35 t207 x14_3).f2)) rfl; have hbx_0 := (blk_cell hbk 0).trans (rfl : _ = some (Value.string ((rd_T35 l1 x80_3).f0))); have hbx_1 := (blk_cell hbk 1).trans (rfl : _ = some (Value.int .i64 ((rd_T35 l1 x80_3).f1))); have hbx_2 := (blk_cell hbk 2).trans (rfl : _ = some (Value.int .i64 ((rd_T35 t207 x14_3).f2))); have hbx_3 := (blk_cell hbk 3).trans (rfl : _ = some (Value.int .i64 ((rd_T35 l1 x80_3).f3))); clear hbk))
                          repeat (go_quiet (fail); try go_wp2)
                          go_roundg kj36
                          case measure => have := HJ8.out; have := HJ20.out; have := HK3.out; have := HJ28.out; have := HJ36.out; omega
                          case rel => exact ⟨(x14_3), (wrap64 (x80_3 + 1)), (by first | rfl | (simp; done) | (simp [*]; done)), (by first | rfl | (simp; done) | (simp [*]; done)), H', ⟨by have := HJ8.out; have := HJ20.out; have := HK3.out; have := HJ28.out; have := HJ36.out; omega⟩, ⟨by (with_reducible repeat (first | apply Kd.R_alloc | apply Kd.R_drewN | apply Kd.R_drew)); exact Kd.R_mono (Kd.R_far (p := ⟨gb223, 2, none⟩) (Kd.R_far (p := ⟨gb223, 3, none⟩) (Kd.R_far (p := ⟨gb223, 2, none⟩) (Kd.R_far (p := ⟨gb223, 1, none⟩) (Kd.R_far (p := ⟨gb223, 0, none⟩) (Kd.R_mono HO_9.out (fun k_ hk => (⟨hk, hk.2⟩ : _ ∧ k_ ≠ gb223))) (fun _ hk => hk.2) (.string ((rd_T35 l1 x80_3).f0))) (fun _ hk => hk.2) (.int .i64 ((rd_T35 l1 x80_3).f1))) (fun _ hk => hk.2) (.int .i64 ((rd_T35 l1 x80_3).f2))) (fun _ hk => hk.2) (.int .i64 ((rd_T35 l1 x80_3).f3))) (fun _ hk => hk.2) (.int .i64 ((rd_T35 t207 x14_3).f2))) (fun _ hk => trivial)⟩, ⟨by repeat (first | (with_reducible first | exact HB.out | apply below_alloc | apply pw_below_drewN | apply below_drew1 | refine below_set ?_ GE223.out) | exact HB.out)⟩⟩
                        ·rw [if_neg c46] at H
                         have c46b0 : ((((rd_T35 t207 x14_3).f0).toList) == (((rd_T35 l1 x80_3).f0).toList) && (((rd_T35 t207 x14_3).f1) == ((rd_T35 l1 x80_3).f1) && (((rd_T35 t207 x14_3).f3) == ((rd_T35 l1 x80_3).f3)))) = false := by simpa using c46
                         (try (have c46b1 : decide ((((rd_T35 t207 x14_3).f0).toList) = (((rd_T35 l1 x80_3).f0).toList) && (((rd_T35 t207 x14_3).f1) == ((rd_T35 l1 x80_3).f1) && (((rd_T35 t207 x14_3).f3) == ((rd_T35 l1 x80_3).f3)))) = false := by simpa using c46))
                         (try (have c46b2 : ((((rd_T35 t207 x14_3).f0).toList) == (((rd_T35 l1 x80_3).f0).toList) && (((rd_T35 t207 x14_3).f1) == ((rd_T35 l1 x80_3).f1) && (((rd_T35 t207 x14_3).f3) == ((rd_T35 l1 x80_3).f3)))) = false := by simpa using c46))
                         (try (have c46b3 : ¬ ((((rd_T35 t207 x14_3).f0).toList) = (((rd_T35 l1 x80_3).f0).toList) && (((rd_T35 t207 x14_3).f1) == ((rd_T35 l1 x80_3).f1) && (((rd_T35 t207 x14_3).f3) == ((rd_T35 l1 x80_3).f3)))) := by simpa using c46))
                         clear c46
                         have H' := Aside0.mk H
                         clear H
                         have p222 : 0 ≤ (x80_3 : Int) := of_decide_eq_true (by first | (with_reducible assumption) | assumption)
                         have q222 : x80_3 < (l1.length : Int) := of_decide_eq_true (by first | (with_reducible assumption) | assumption)
                         obtain ⟨ad222, e222, hx222_0, hx222_1, hx222_2, hx222_3⟩ := at_T35 HR1.out x80_3 p222 q222
                         obtain rfl : ad219 = ad222 := (by injection e222)
                         replace hx222_0 := (HB.out.cell (World.block_lt_of_cell? w _ hx222_0)).trans hx222_0
                         replace hx222_1 := (HB.out.cell (World.block_lt_of_cell? w _ hx222_1)).trans hx222_1
                         replace hx222_2 := (HB.out.cell (World.block_lt_of_cell? w _ hx222_2)).trans hx222_2
                         replace hx222_3 := (HB.out.cell (World.block_lt_of_cell? w _ hx222_3)).trans hx222_3
                         replace p222 := eq_true p222
                         replace q222 := eq_true q222
                         go_wp2_with (first | ((with_reducible refine gate_dst (N := 17) rfl ?_); (try (refine gate_guard (by rfl) ?_; dsimp only)); refine box_event ?hg (N := 17) ?hd (cs := #[.string (⟨#[]⟩ : ByteArray), .int .i64 0, .int .i64 0, .int .i64 0]) (t := 35) ?hr ?_; (case hd => rfl); (case hg => rfl); (case hr => first | (go_simp; done) | (go_simp; rfl)); intro gb223 hg w55 hbox hb; have n0_ := Aside0.mk (Kd.R_below (Kd.R_elderB (by (with_reducible repeat (first | apply Kd.R_alloc | apply Kd.R_drewN | apply Kd.R_drew)); exact HO_9.out) gb223 (Nat.le_of_eq hg.symm)) hb); have n1_ := Aside0.mk (below_step (by repeat (first | (with_reducible first | exact HB.out | apply below_alloc | apply pw_below_drewN | apply below_drew1) | exact HB.out)) hb); have n2_ := Aside0.mk (hbox); have n3_ := Aside0.mk ((by rw [hg]; exact (below_size (by repeat (first | (with_reducible first | exact HB.out | apply below_alloc | apply pw_below_drewN | apply below_drew1) | exact HB.out))) : w.heap.size ≤ gb223)); have n4_ := Aside0.mk ((by rw [hg]; exact (below_size (by repeat (first | (with_reducible first | exact HB.out | apply below_alloc | apply pw_below_drewN | apply below_drew1) | exact HB.out))) : w.heap.size ≤ gb223)); clear HO_9; clear HB; have HO_9 := n0_; have HB := n1_; have BK223 := n2_; have GW223 := n3_; have GE223 := n4_; clear n0_ n1_ n2_ n3_ n4_; clear hb hbox hg; have hcz56_0 : w55.cell? ⟨gb223, 0, none⟩ = some (.string (⟨#[]⟩ : ByteArray)) := (blk_cell BK223.out 0).trans rfl; have hcz56_1 : w55.cell? ⟨gb223, 1, none⟩ = some (.int .i64 0) := (blk_cell BK223.out 1).trans rfl; have hcz56_2 : w55.cell? ⟨gb223, 2, none⟩ = some (.int .i64 0) := (blk_cell BK223.out 2).trans rfl; have hcz56_3 : w55.cell? ⟨gb223, 3, none⟩ = some (.int .i64 0) := (blk_cell BK223.out 3).trans rfl; have hfz56_0 := blk_frozen BK223.out 0; have hfz56_1 := blk_frozen BK223.out 1; have hfz56_2 := blk_frozen BK223.out 2; have hfz56_3 := blk_frozen BK223.out 3; have p224 : 0 ≤ (x14_3 : Int) := of_decide_eq_true (by first | (with_reducible assumption) | assumption); have q224 : x14_3 < (t207.length : Int) := of_decide_eq_true (by first | (with_reducible assumption) | assumption); obtain ⟨ad224, e224, hx224_0, hx224_1, hx224_2, hx224_3⟩ := at_T35 (Kd.R_reads' HO_9.out).2.2 x14_3 p224 q224; cases e224; have hn224_0 : ad224.block ≠ gb223 := Kd.own_blk (Kd.R_away HO_9.out (fun _ hk => hk.2)); have hn224_1 : ad224.block ≠ gb223 := Kd.own_blk (Kd.R_away HO_9.out (fun _ hk => hk.2)); have hn224_2 : ad224.block ≠ gb223 := Kd.own_blk (Kd.R_away HO_9.out (fun _ hk => hk.2)); have hn224_3 : ad224.block ≠ gb223 := Kd.own_blk (Kd.R_away HO_9.out (fun _ hk => hk.2)); replace hx224_0 := (cell_far (p := ⟨gb223, 0, none⟩) (by first | exact abk hn224_0 | exact hn224_0) (.string ((rd_T35 l1 x80_3).f0))).trans hx224_0; replace hx224_1 := (cell_far (p := ⟨gb223, 0, none⟩) (by first | exact abk hn224_0 | exact hn224_0) (.string ((rd_T35 l1 x80_3).f0))).trans hx224_1; replace hx224_2 := (cell_far (p := ⟨gb223, 0, none⟩) (by first | exact abk hn224_0 | exact hn224_0) (.string ((rd_T35 l1 x80_3).f0))).trans hx224_2; replace hx224_3 := (cell_far (p := ⟨gb223, 0, none⟩) (by first | exact abk hn224_0 | exact hn224_0) (.string ((rd_T35 l1 x80_3).f0))).trans hx224_3; replace hx224_0 := (cell_far (p := ⟨gb223, 1, none⟩) (by first | exact abk hn224_1 | exact hn224_1) (.int .i64 ((rd_T35 l1 x80_3).f1))).trans hx224_0; replace hx224_1 := (cell_far (p := ⟨gb223, 1, none⟩) (by first | exact abk hn224_1 | exact hn224_1) (.int .i64 ((rd_T35 l1 x80_3).f1))).trans hx224_1; replace hx224_2 := (cell_far (p := ⟨gb223, 1, none⟩) (by first | exact abk hn224_1 | exact hn224_1) (.int .i64 ((rd_T35 l1 x80_3).f1))).trans hx224_2; replace hx224_3 := (cell_far (p := ⟨gb223, 1, none⟩) (by first | exact abk hn224_1 | exact hn224_1) (.int .i64 ((rd_T35 l1 x80_3).f1))).trans hx224_3; replace hx224_0 := (cell_far (p := ⟨gb223, 2, none⟩) (by first | exact abk hn224_2 | exact hn224_2) (.int .i64 ((rd_T35 l1 x80_3).f2))).trans hx224_0; replace hx224_1 := (cell_far (p := ⟨gb223, 2, none⟩) (by first | exact abk hn224_2 | exact hn224_2) (.int .i64 ((rd_T35 l1 x80_3).f2))).trans hx224_1; replace hx224_2 := (cell_far (p := ⟨gb223, 2, none⟩) (by first | exact abk hn224_2 | exact hn224_2) (.int .i64 ((rd_T35 l1 x80_3).f2))).trans hx224_2; replace hx224_3 := (cell_far (p := ⟨gb223, 2, none⟩) (by first | exact abk hn224_2 | exact hn224_2) (.int .i64 ((rd_T35 l1 x80_3).f2))).trans hx224_3; replace hx224_0 := (cell_far (p := ⟨gb223, 3, none⟩) (by first | exact abk hn224_3 | exact hn224_3) (.int .i64 ((rd_T35 l1 x80_3).f3))).trans hx224_0; replace hx224_1 := (cell_far (p := ⟨gb223, 3, none⟩) (by first | exact abk hn224_3 | exact hn224_3) (.int .i64 ((rd_T35 l1 x80_3).f3))).trans hx224_1; replace hx224_2 := (cell_far (p := ⟨gb223, 3, none⟩) (by first | exact abk hn224_3 | exact hn224_3) (.int .i64 ((rd_T35 l1 x80_3).f3))).trans hx224_2; replace hx224_3 := (cell_far (p := ⟨gb223, 3, none⟩) (by first | exact abk hn224_3 | exact hn224_3) (.int .i64 ((rd_T35 l1 x80_3).f3))).trans hx224_3; clear hn224_0; clear hn224_1; clear hn224_2; clear hn224_3; replace p224 := eq_true p224; replace q224 := eq_true q224; have p225 : 0 ≤ (x14_3 : Int) := of_decide_eq_true (by first | (with_reducible assumption) | assumption); have q225 : x14_3 < (t207.length : Int) := of_decide_eq_true (by first | (with_reducible assumption) | assumption); obtain ⟨ad225, e225, hx225_0, hx225_1, hx225_2, hx225_3⟩ := at_T35 (Kd.R_reads' HO_9.out).2.2 x14_3 p225 q225; obtain rfl : ad224 = ad225 := (by injection e225); have hn225_0 : ad224.block ≠ gb223 := Kd.own_blk (Kd.R_away HO_9.out (fun _ hk => hk.2)); have hn225_1 : ad224.block ≠ gb223 := Kd.own_blk (Kd.R_away HO_9.out (fun _ hk => hk.2)); have hn225_2 : ad224.block ≠ gb223 := Kd.own_blk (Kd.R_away HO_9.out (fun _ hk => hk.2)); have hn225_3 : ad224.block ≠ gb223 := Kd.own_blk (Kd.R_away HO_9.out (fun _ hk => hk.2)); have hn225_4 : ad224.block ≠ gb223 := Kd.own_blk (Kd.R_away HO_9.out (fun _ hk => hk.2)); replace hx225_0 := (cell_far (p := ⟨gb223, 0, none⟩) (by first | exact abk hn225_0 | exact hn225_0) (.string ((rd_T35 l1 x80_3).f0))).trans hx225_0; replace hx225_1 := (cell_far (p := ⟨gb223, 0, none⟩) (by first | exact abk hn225_0 | exact hn225_0) (.string ((rd_T35 l1 x80_3).f0))).trans hx225_1; replace hx225_2 := (cell_far (p := ⟨gb223, 0, none⟩) (by first | exact abk hn225_0 | exact hn225_0) (.string ((rd_T35 l1 x80_3).f0))).trans hx225_2; replace hx225_3 := (cell_far (p := ⟨gb223, 0, none⟩) (by first | exact abk hn225_0 | exact hn225_0) (.string ((rd_T35 l1 x80_3).f0))).trans hx225_3; replace hx225_0 := (cell_far (p := ⟨gb223, 1, none⟩) (by first | exact abk hn225_1 | exact hn225_1) (.int .i64 ((rd_T35 l1 x80_3).f1))).trans hx225_0; replace hx225_1 := (cell_far (p := ⟨gb223, 1, none⟩) (by first | exact abk hn225_1 | exact hn225_1) (.int .i64 ((rd_T35 l1 x80_3).f1))).trans hx225_1; replace hx225_2 := (cell_far (p := ⟨gb223, 1, none⟩) (by first | exact abk hn225_1 | exact hn225_1) (.int .i64 ((rd_T35 l1 x80_3).f1))).trans hx225_2; replace hx225_3 := (cell_far (p := ⟨gb223, 1, none⟩) (by first | exact abk hn225_1 | exact hn225_1) (.int .i64 ((rd_T35 l1 x80_3).f1))).trans hx225_3; replace hx225_0 := (cell_far (p := ⟨gb223, 2, none⟩) (by first | exact abk hn225_2 | exact hn225_2) (.int .i64 ((rd_T35 l1 x80_3).f2))).trans hx225_0; replace hx225_1 := (cell_far (p := ⟨gb223, 2, none⟩) (by first | exact abk hn225_2 | exact hn225_2) (.int .i64 ((rd_T35 l1 x80_3).f2))).trans hx225_1; replace hx225_2 := (cell_far (p := ⟨gb223, 2, none⟩) (by first | exact abk hn225_2 | exact hn225_2) (.int .i64 ((rd_T35 l1 x80_3).f2))).trans hx225_2; replace hx225_3 := (cell_far (p := ⟨gb223, 2, none⟩) (by first | exact abk hn225_2 | exact hn225_2) (.int .i64 ((rd_T35 l1 x80_3).f2))).trans hx225_3; replace hx225_0 := (cell_far (p := ⟨gb223, 3, none⟩) (by first | exact abk hn225_3 | exact hn225_3) (.int .i64 ((rd_T35 l1 x80_3).f3))).trans hx225_0; replace hx225_1 := (cell_far (p := ⟨gb223, 3, none⟩) (by first | exact abk hn225_3 | exact hn225_3) (.int .i64 ((rd_T35 l1 x80_3).f3))).trans hx225_1; replace hx225_2 := (cell_far (p := ⟨gb223, 3, none⟩) (by first | exact abk hn225_3 | exact hn225_3) (.int .i64 ((rd_T35 l1 x80_3).f3))).trans hx225_2; replace hx225_3 := (cell_far (p := ⟨gb223, 3, none⟩) (by first | exact abk hn225_3 | exact hn225_3) (.int .i64 ((rd_T35 l1 x80_3).f3))).trans hx225_3; replace hx225_0 := (cell_far (p := ⟨gb223, 2, none⟩) (by first | exact abk hn225_4 | exact hn225_4) (.int .i64 ((rd_T35 t207 x14_3).f2))).trans hx225_0; replace hx225_1 := (cell_far (p := ⟨gb223, 2, none⟩) (by first | exact abk hn225_4 | exact hn225_4) (.int .i64 ((rd_T35 t207 x14_3).f2))).trans hx225_1; replace hx225_2 := (cell_far (p := ⟨gb223, 2, none⟩) (by first | exact abk hn225_4 | exact hn225_4) (.int .i64 ((rd_T35 t207 x14_3).f2))).trans hx225_2; replace hx225_3 := (cell_far (p := ⟨gb223, 2, none⟩) (by first | exact abk hn225_4 | exact hn225_4) (.int .i64 ((rd_T35 t207 x14_3).f2))).trans hx225_3; clear hn225_0; clear hn225_1; clear hn225_2; clear hn225_3; clear hn225_4; replace p225 := eq_true p225; replace q225 := eq_true q225; have hbk := blk_put (blk_put (blk_put (blk_put (blk_put BK223.out 0 (.string ((rd_T35 l1 x80_3).f0)) rfl) 1 (.int .i64 ((rd_T35 l1 x80_3).f1)) rfl) 2 (.int .i64 ((rd_T35 l1 x80_3).f2)) rfl) 3 (.int .i64 ((rd_T35 l1 x80_3).f3)) rfl) 2 (.int .i64 ((rd_T35 t207 x14_3).f2)) rfl; have hbx_0 := (blk_cell hbk 0).trans (rfl : _ = some (Value.string ((rd_T35 l1 x80_3).f0))); have hbx_1 := (blk_cell hbk 1).trans (rfl : _ = some (Value.int .i64 ((rd_T35 l1 x80_3).f1))); have hbx_2 := (blk_cell hbk 2).trans (rfl : _ = some (Value.int .i64 ((rd_T35 t207 x14_3).f2))); have hbx_3 := (blk_cell hbk 3).trans (rfl : _ = some (Value.int .i64 ((rd_T35 l1 x80_3).f3))); clear hbk))
                         repeat (go_quiet (fail); try go_wp2)
                         go_roundg kj36
                         case measure => have := HJ8.out; have := HJ20.out; have := HK3.out; have := HJ28.out; have := HJ36.out; omega
                         case rel => exact ⟨(x14_3), (wrap64 (x80_3 + 1)), (by first | rfl | (simp; done) | (simp [*]; done)), (by first | rfl | (simp; done) | (simp [*]; done)), H', ⟨by have := HJ8.out; have := HJ20.out; have := HK3.out; have := HJ28.out; have := HJ36.out; omega⟩, ⟨by (with_reducible repeat (first | apply Kd.R_alloc | apply Kd.R_drewN | apply Kd.R_drew)); exact Kd.R_mono (Kd.R_far (p := ⟨gb223, 2, none⟩) (Kd.R_far (p := ⟨gb223, 3, none⟩) (Kd.R_far (p := ⟨gb223, 2, none⟩) (Kd.R_far (p := ⟨gb223, 1, none⟩) (Kd.R_far (p := ⟨gb223, 0, none⟩) (Kd.R_mono HO_9.out (fun k_ hk => (⟨hk, hk.2⟩ : _ ∧ k_ ≠ gb223))) (fun _ hk => hk.2) (.string ((rd_T35 l1 x80_3).f0))) (fun _ hk => hk.2) (.int .i64 ((rd_T35 l1 x80_3).f1))) (fun _ hk => hk.2) (.int .i64 ((rd_T35 l1 x80_3).f2))) (fun _ hk => hk.2) (.int .i64 ((rd_T35 l1 x80_3).f3))) (fun _ hk => hk.2) (.int .i64 ((rd_T35 t207 x14_3).f2))) (fun _ hk => trivial)⟩, ⟨by repeat (first | (with_reducible first | exact HB.out | apply below_alloc | apply pw_below_drewN | apply below_drew1 | refine below_set ?_ GE223.out) | exact HB.out)⟩⟩
                       ·rw [if_neg c45] at H
                        exact absurd H (by simp)
                      ·rw [if_neg c44] at H
                       have c44b0 : decide (x14_3 < (t207.length : Int)) = false := decide_eq_false c44
                       clear c44
                       have H' := Aside0.mk H
                       clear H
                       have p222 : 0 ≤ (x80_3 : Int) := of_decide_eq_true (by first | (with_reducible assumption) | assumption)
                       have q222 : x80_3 < (l1.length : Int) := of_decide_eq_true (by first | (with_reducible assumption) | assumption)
                       obtain ⟨ad222, e222, hx222_0, hx222_1, hx222_2, hx222_3⟩ := at_T35 HR1.out x80_3 p222 q222
                       obtain rfl : ad219 = ad222 := (by injection e222)
                       replace hx222_0 := (HB.out.cell (World.block_lt_of_cell? w _ hx222_0)).trans hx222_0
                       replace hx222_1 := (HB.out.cell (World.block_lt_of_cell? w _ hx222_1)).trans hx222_1
                       replace hx222_2 := (HB.out.cell (World.block_lt_of_cell? w _ hx222_2)).trans hx222_2
                       replace hx222_3 := (HB.out.cell (World.block_lt_of_cell? w _ hx222_3)).trans hx222_3
                       replace p222 := eq_true p222
                       replace q222 := eq_true q222
                       go_wp2_with (first | ((with_reducible refine gate_dst (N := 17) rfl ?_); (try (refine gate_guard (by rfl) ?_; dsimp only)); refine box_event ?hg (N := 17) ?hd (cs := #[.string (⟨#[]⟩ : ByteArray), .int .i64 0, .int .i64 0, .int .i64 0]) (t := 35) ?hr ?_; (case hd => rfl); (case hg => rfl); (case hr => first | (go_simp; done) | (go_simp; rfl)); intro gb223 hg w57 hbox hb; have n0_ := Aside0.mk (Kd.R_below (Kd.R_elderB (by (with_reducible repeat (first | apply Kd.R_alloc | apply Kd.R_drewN | apply Kd.R_drew)); exact HO_9.out) gb223 (Nat.le_of_eq hg.symm)) hb); have n1_ := Aside0.mk (below_step (by repeat (first | (with_reducible first | exact HB.out | apply below_alloc | apply pw_below_drewN | apply below_drew1) | exact HB.out)) hb); have n2_ := Aside0.mk (hbox); have n3_ := Aside0.mk ((by rw [hg]; exact (below_size (by repeat (first | (with_reducible first | exact HB.out | apply below_alloc | apply pw_below_drewN | apply below_drew1) | exact HB.out))) : w.heap.size ≤ gb223)); have n4_ := Aside0.mk ((by rw [hg]; exact (below_size (by repeat (first | (with_reducible first | exact HB.out | apply below_alloc | apply pw_below_drewN | apply below_drew1) | exact HB.out))) : w.heap.size ≤ gb223)); clear HO_9; clear HB; have HO_9 := n0_; have HB := n1_; have BK223 := n2_; have GW223 := n3_; have GE223 := n4_; clear n0_ n1_ n2_ n3_ n4_; clear hb hbox hg; have hcz58_0 : w57.cell? ⟨gb223, 0, none⟩ = some (.string (⟨#[]⟩ : ByteArray)) := (blk_cell BK223.out 0).trans rfl; have hcz58_1 : w57.cell? ⟨gb223, 1, none⟩ = some (.int .i64 0) := (blk_cell BK223.out 1).trans rfl; have hcz58_2 : w57.cell? ⟨gb223, 2, none⟩ = some (.int .i64 0) := (blk_cell BK223.out 2).trans rfl; have hcz58_3 : w57.cell? ⟨gb223, 3, none⟩ = some (.int .i64 0) := (blk_cell BK223.out 3).trans rfl; have hfz58_0 := blk_frozen BK223.out 0; have hfz58_1 := blk_frozen BK223.out 1; have hfz58_2 := blk_frozen BK223.out 2; have hfz58_3 := blk_frozen BK223.out 3))
                       repeat (go_quiet (first | ((with_reducible refine gate_dst (N := 17) rfl ?_); (try (refine gate_guard (by rfl) ?_; dsimp only)); refine box_event ?hg (N := 17) ?hd (cs := #[.string (⟨#[]⟩ : ByteArray), .int .i64 0, .int .i64 0, .int .i64 0]) (t := 35) ?hr ?_; (case hd => rfl); (case hg => rfl); (case hr => first | (go_simp; done) | (go_simp; rfl)); intro gb223 hg w57 hbox hb; have n0_ := Aside0.mk (Kd.R_below (Kd.R_elderB (by (with_reducible repeat (first | apply Kd.R_alloc | apply Kd.R_drewN | apply Kd.R_drew)); exact HO_9.out) gb223 (Nat.le_of_eq hg.symm)) hb); have n1_ := Aside0.mk (below_step (by repeat (first | (with_reducible first | exact HB.out | apply below_alloc | apply pw_below_drewN | apply below_drew1) | exact HB.out)) hb); have n2_ := Aside0.mk (hbox); have n3_ := Aside0.mk ((by rw [hg]; exact (below_size (by repeat (first | (with_reducible first | exact HB.out | apply below_alloc | apply pw_below_drewN | apply below_drew1) | exact HB.out))) : w.heap.size ≤ gb223)); have n4_ := Aside0.mk ((by rw [hg]; exact (below_size (by repeat (first | (with_reducible first | exact HB.out | apply below_alloc | apply pw_below_drewN | apply below_drew1) | exact HB.out))) : w.heap.size ≤ gb223)); clear HO_9; clear HB; have HO_9 := n0_; have HB := n1_; have BK223 := n2_; have GW223 := n3_; have GE223 := n4_; clear n0_ n1_ n2_ n3_ n4_; clear hb hbox hg; have hcz58_0 : w57.cell? ⟨gb223, 0, none⟩ = some (.string (⟨#[]⟩ : ByteArray)) := (blk_cell BK223.out 0).trans rfl; have hcz58_1 : w57.cell? ⟨gb223, 1, none⟩ = some (.int .i64 0) := (blk_cell BK223.out 1).trans rfl; have hcz58_2 : w57.cell? ⟨gb223, 2, none⟩ = some (.int .i64 0) := (blk_cell BK223.out 2).trans rfl; have hcz58_3 : w57.cell? ⟨gb223, 3, none⟩ = some (.int .i64 0) := (blk_cell BK223.out 3).trans rfl; have hfz58_0 := blk_frozen BK223.out 0; have hfz58_1 := blk_frozen BK223.out 1; have hfz58_2 := blk_frozen BK223.out 2; have hfz58_3 := blk_frozen BK223.out 3)); try go_wp2_with (first | ((with_reducible refine gate_dst (N := 17) rfl ?_); (try (refine gate_guard (by rfl) ?_; dsimp only)); refine box_event ?hg (N := 17) ?hd (cs := #[.string (⟨#[]⟩ : ByteArray), .int .i64 0, .int .i64 0, .int .i64 0]) (t := 35) ?hr ?_; (case hd => rfl); (case hg => rfl); (case hr => first | (go_simp; done) | (go_simp; rfl)); intro gb223 hg w57 hbox hb; have n0_ := Aside0.mk (Kd.R_below (Kd.R_elderB (by (with_reducible repeat (first | apply Kd.R_alloc | apply Kd.R_drewN | apply Kd.R_drew)); exact HO_9.out) gb223 (Nat.le_of_eq hg.symm)) hb); have n1_ := Aside0.mk (below_step (by repeat (first | (with_reducible first | exact HB.out | apply below_alloc | apply pw_below_drewN | apply below_drew1) | exact HB.out)) hb); have n2_ := Aside0.mk (hbox); have n3_ := Aside0.mk ((by rw [hg]; exact (below_size (by repeat (first | (with_reducible first | exact HB.out | apply below_alloc | apply pw_below_drewN | apply below_drew1) | exact HB.out))) : w.heap.size ≤ gb223)); have n4_ := Aside0.mk ((by rw [hg]; exact (below_size (by repeat (first | (with_reducible first | exact HB.out | apply below_alloc | apply pw_below_drewN | apply below_drew1) | exact HB.out))) : w.heap.size ≤ gb223)); clear HO_9; clear HB; have HO_9 := n0_; have HB := n1_; have BK223 := n2_; have GW223 := n3_; have GE223 := n4_; clear n0_ n1_ n2_ n3_ n4_; clear hb hbox hg; have hcz58_0 : w57.cell? ⟨gb223, 0, none⟩ = some (.string (⟨#[]⟩ : ByteArray)) := (blk_cell BK223.out 0).trans rfl; have hcz58_1 : w57.cell? ⟨gb223, 1, none⟩ = some (.int .i64 0) := (blk_cell BK223.out 1).trans rfl; have hcz58_2 : w57.cell? ⟨gb223, 2, none⟩ = some (.int .i64 0) := (blk_cell BK223.out 2).trans rfl; have hcz58_3 : w57.cell? ⟨gb223, 3, none⟩ = some (.int .i64 0) := (blk_cell BK223.out 3).trans rfl; have hfz58_0 := blk_frozen BK223.out 0; have hfz58_1 := blk_frozen BK223.out 1; have hfz58_2 := blk_frozen BK223.out 2; have hfz58_3 := blk_frozen BK223.out 3)))
                       go_roundg kj36
                       case measure => have := HJ8.out; have := HJ20.out; have := HK3.out; have := HJ28.out; have := HJ36.out; omega
                       case rel => exact ⟨(x14_3), (wrap64 (x80_3 + 1)), (by first | rfl | (simp; done) | (simp [*]; done)), (by first | rfl | (simp; done) | (simp [*]; done)), H', ⟨by have := HJ8.out; have := HJ20.out; have := HK3.out; have := HJ28.out; have := HJ36.out; omega⟩, ⟨by (with_reducible repeat (first | apply Kd.R_alloc | apply Kd.R_drewN | apply Kd.R_drew)); exact Kd.R_mono (Kd.R_far (p := ⟨gb223, 3, none⟩) (Kd.R_far (p := ⟨gb223, 2, none⟩) (Kd.R_far (p := ⟨gb223, 1, none⟩) (Kd.R_far (p := ⟨gb223, 0, none⟩) (Kd.R_mono HO_9.out (fun k_ hk => (⟨hk, hk.2⟩ : _ ∧ k_ ≠ gb223))) (fun _ hk => hk.2) (.string ((rd_T35 l1 x80_3).f0))) (fun _ hk => hk.2) (.int .i64 ((rd_T35 l1 x80_3).f1))) (fun _ hk => hk.2) (.int .i64 ((rd_T35 l1 x80_3).f2))) (fun _ hk => hk.2) (.int .i64 ((rd_T35 l1 x80_3).f3))) (fun _ hk => trivial)⟩, ⟨by repeat (first | (with_reducible first | exact HB.out | apply below_alloc | apply pw_below_drewN | apply below_drew1 | refine below_set ?_ GE223.out) | exact HB.out)⟩⟩
                     ·rw [if_neg c43] at H
                      exact absurd H (by simp)
                    ·rw [if_neg c42] at H
                     exact absurd H (by simp)
                   ·replace c41 := Bool.eq_false_iff.mpr c41
                    subst c41
                    have H1 : (none) = some r := by rw [if_neg (show ¬ (false = true) by decide)] at H; exact H
                    clear H
                    have H := H1
                    clear H1
                    exact absurd H (by simp)
              ·rw [if_neg c35] at H
               exact absurd H (by simp)
             ·rw [if_neg c34] at H
              exact absurd H (by simp)
          ·rw [if_neg c28] at H
           have c28b0 : decide (x80_3 < (l1.length : Int)) = false := decide_eq_false c28
           clear c28
           by_cases c59 : x14_3 = (t207.length : Int)
           ·rw [if_pos c59] at H
            have c59b0 : (x14_3 == (t207.length : Int)) = true := beq_iff_eq.mpr c59
            have c59b1 : (x14_3 != (t207.length : Int)) = false := bne_eq_false_iff_eq.mpr c59
            clear c59
            replace H := Option.bind_eq_some_iff.mp H
            obtain ⟨t215, A600, H⟩ := H
            replace H : (some t215) = some r := H
            have A60 := Aside0.mk A600
            clear A600
            obtain rfl := Option.some.inj H
            go_wp2_with (first | (go_at_call 7; (with_reducible refine (contangolaw49_goes.calls k3  t215 _ A60.out).mono ?_); rintro e w61 ⟨rfl, hb⟩; have n0_ := Aside0.mk (Kd.R_below (by (with_reducible repeat (first | apply Kd.R_alloc | apply Kd.R_drewN | apply Kd.R_drew)); exact HO_9.out) hb); have n1_ := Aside0.mk (below_step (by repeat (first | (with_reducible first | exact HB.out | apply below_alloc | apply pw_below_drewN | apply below_drew1) | exact HB.out)) hb); clear HO_9; clear HB; have HO_9 := n0_; have HB := n1_; clear n0_ n1_; (try clear hb); (try clear hb2); (try clear hk); (try clear hi)))
            repeat (go_quiet (first | (go_at_call 7; (with_reducible refine (contangolaw49_goes.calls k3  t215 _ A60.out).mono ?_); rintro e w61 ⟨rfl, hb⟩; have n0_ := Aside0.mk (Kd.R_below (by (with_reducible repeat (first | apply Kd.R_alloc | apply Kd.R_drewN | apply Kd.R_drew)); exact HO_9.out) hb); have n1_ := Aside0.mk (below_step (by repeat (first | (with_reducible first | exact HB.out | apply below_alloc | apply pw_below_drewN | apply below_drew1) | exact HB.out)) hb); clear HO_9; clear HB; have HO_9 := n0_; have HB := n1_; clear n0_ n1_; (try clear hb); (try clear hb2); (try clear hk); (try clear hi))); try go_wp2_with (first | (go_at_call 7; (with_reducible refine (contangolaw49_goes.calls k3  t215 _ A60.out).mono ?_); rintro e w61 ⟨rfl, hb⟩; have n0_ := Aside0.mk (Kd.R_below (by (with_reducible repeat (first | apply Kd.R_alloc | apply Kd.R_drewN | apply Kd.R_drew)); exact HO_9.out) hb); have n1_ := Aside0.mk (below_step (by repeat (first | (with_reducible first | exact HB.out | apply below_alloc | apply pw_below_drewN | apply below_drew1) | exact HB.out)) hb); clear HO_9; clear HB; have HO_9 := n0_; have HB := n1_; clear n0_ n1_; (try clear hb); (try clear hb2); (try clear hk); (try clear hi))))
            go_ret
            exact ⟨by first | rfl | (simp [errW_none, errW_some] <;> rfl) | (simp [*, errW_none, errW_some] <;> rfl), by repeat (first | (with_reducible first | exact HB.out | apply below_alloc | apply pw_below_drewN | apply below_drew1) | exact HB.out)⟩
           ·rw [if_neg c59] at H
            exact absurd H (by simp)

end Go.Proofs.Ythoemohppeplpaa.PHaircutOnly
