/- Laid for this claim by a program of this session's (wip/mkprint.py, wip/ext.py); not trusted: Lean checks it. -/
import Derived.Test.YthoemohppeplpaaPHaircutTakesx0
import Derived.Test.YthoemohppeplpaaPHaircutTakesx3
import Derived.Test.YthoemohppeplpaaPHaircutTakesx5
import Derived.Test.YthoemohppeplpaaPHaircutTakesx6
import Derived.Test.YthoemohppeplpaaPHaircutTakesx7
import Derived.Test.YthoemohppeplpaaPHaircutTakesx9
import Derived.Test.YthoemohppeplpaaPHaircutTakesx11
namespace Go.Proofs.Ythoemohppeplpaa.PHaircutTakes
open Go.RowKit Go.Proofs.YthoemohppeplpaaW.PrintWords Go.Proofs.YthoemohppeplpaaW.PrintLast Go.Proofs.YthoemohppeplpaaW.PrintMore
attribute [local go_sem] max2_int min2_int max_two min_two max_three min_three max_four min_four   -- for this text's walks alone
set_option linter.unusedVariables false
set_option linter.unusedSimpArgs false

/-! ### contangolaw49_HaircutTakes: function 3 -/
mutual
def contangolaw49_HaircutTakes.j0 : Nat → List (S35) → List (S35) → List (S35) → Bool → Option (Bool)
  | 0, _, _, _, _ => none
  | k + 1, x1, x7, x12, x77 => if x77 = true then (none) else (contangolaw49_HaircutTakes.l0 k x1 x7 x12 (x12.length : Int) 0)
def contangolaw49_HaircutTakes.l0 : Nat → List (S35) → List (S35) → List (S35) → Int → Int → Option (Bool)
  | 0, _, _, _, _, _ => none
  | k + 1, x1, x7, x12, x79, x80 => if x80 < x79 then (if 0 ≤ x80 then (if x80 < (x12.length : Int) then (contangolaw49_HaircutTakes.l0 k x1 x7 (x12.set (x80 : Int).toNat (⟨(⟨#[]⟩ : ByteArray), 0, (-7), 0⟩ : S35)) x79 (wrap64 (x80 + 1))) else (none)) else (none)) else ((contangoref22_Same.f k x7 x1).bind fun t310 => (if t310 = true then ((contangolaw49_goes.f k).bind fun t311 => (some t311)) else (none)))
end
def contangolaw49_HaircutTakes.f (k : Nat) (a0 : Int) (l1 : List (S35)) (a2 : Int) : Option (Bool) := if (l1.length : Int) > 1100 then ((contangolaw49_goes.f k).bind fun t287 => (some t287)) else ((some (([] : List (S35)) : List (S35))).bind fun y288 => (if y288.length + l1.length < 3518437208883 then ((some (y288 ++ l1 : List (S35))).bind fun y291 => ((haircut_Gains.f k y291 a2).bind fun bt294 => ((contangoref49_Gains.f k l1 a2).bind fun bt296 => ((haircut_Take.f k a0 y291 a2).bind fun bt298 => ((contangoref49_Take.f k a0 l1 a2).bind fun bt303 => (if bt294.1 = bt296.1 then (if bt294.2 = bt296.2 then ((contangoref22_Same.f k bt298.1 bt303.1).bind fun t308 => (if t308 = true then (if bt298.2.1 = bt303.2.1 then (contangolaw49_HaircutTakes.j0 k l1 y291 bt298.1 (bt298.2.2 != bt303.2.2)) else (contangolaw49_HaircutTakes.j0 k l1 y291 bt298.1 true)) else (contangolaw49_HaircutTakes.j0 k l1 y291 bt298.1 true))) else (contangolaw49_HaircutTakes.j0 k l1 y291 bt298.1 true)) else (contangolaw49_HaircutTakes.j0 k l1 y291 bt298.1 true))))))) else (none)))
theorem contangolaw49_HaircutTakes.mono_l : ∀ k, (∀ y0 y1 y2 y3, LeO (contangolaw49_HaircutTakes.j0 k y0 y1 y2 y3) (contangolaw49_HaircutTakes.j0 (k + 1) y0 y1 y2 y3)) ∧ (∀ y0 y1 y2 y3 y4, LeO (contangolaw49_HaircutTakes.l0 k y0 y1 y2 y3 y4) (contangolaw49_HaircutTakes.l0 (k + 1) y0 y1 y2 y3 y4))
  | 0 => ⟨fun _ _ _ _ r h => by simp [contangolaw49_HaircutTakes.j0] at h, fun _ _ _ _ _ r h => by simp [contangolaw49_HaircutTakes.l0] at h⟩
  | k + 1 => by
    obtain ⟨ih0, ih1⟩ := contangolaw49_HaircutTakes.mono_l k
    refine ⟨?_, ?_⟩
    · intro y0 y1 y2 y3
      unfold contangolaw49_HaircutTakes.j0
      repeat' first
      | (with_reducible exact ih0 _ _ _ _)
      | (with_reducible exact ih1 _ _ _ _ _)
      | (with_reducible exact contangolaw49_goes.mono _)
      | (with_reducible exact contangoref22_Same.mono _ _ _)
      | (with_reducible exact contangoref49_Gains.mono _ _ _)
      | (with_reducible exact contangoref49_Take.mono _ _ _ _)
      | (with_reducible exact haircut_Gains.mono _ _ _)
      | (with_reducible exact haircut_Take.mono _ _ _ _)
      | (with_reducible exact LeO.refl _)
      | (with_reducible exact LeO.none _)
      | (with_reducible refine LeO.ite ?_ ?_)
      | (with_reducible refine LeO.bind ?_ (fun _ => ?_))
      | exact ih0 _ _ _ _
      | exact ih1 _ _ _ _ _
      | exact contangolaw49_goes.mono _
      | exact contangoref22_Same.mono _ _ _
      | exact contangoref49_Gains.mono _ _ _
      | exact contangoref49_Take.mono _ _ _ _
      | exact haircut_Gains.mono _ _ _
      | exact haircut_Take.mono _ _ _ _
      | exact LeO.none _
      | refine LeO.ite ?_ ?_
      | refine LeO.bind ?_ (fun _ => ?_)
    · intro y0 y1 y2 y3 y4
      unfold contangolaw49_HaircutTakes.l0
      repeat' first
      | (with_reducible exact ih0 _ _ _ _)
      | (with_reducible exact ih1 _ _ _ _ _)
      | (with_reducible exact contangolaw49_goes.mono _)
      | (with_reducible exact contangoref22_Same.mono _ _ _)
      | (with_reducible exact contangoref49_Gains.mono _ _ _)
      | (with_reducible exact contangoref49_Take.mono _ _ _ _)
      | (with_reducible exact haircut_Gains.mono _ _ _)
      | (with_reducible exact haircut_Take.mono _ _ _ _)
      | (with_reducible exact LeO.refl _)
      | (with_reducible exact LeO.none _)
      | (with_reducible refine LeO.ite ?_ ?_)
      | (with_reducible refine LeO.bind ?_ (fun _ => ?_))
      | exact ih0 _ _ _ _
      | exact ih1 _ _ _ _ _
      | exact contangolaw49_goes.mono _
      | exact contangoref22_Same.mono _ _ _
      | exact contangoref49_Gains.mono _ _ _
      | exact contangoref49_Take.mono _ _ _ _
      | exact haircut_Gains.mono _ _ _
      | exact haircut_Take.mono _ _ _ _
      | exact LeO.none _
      | refine LeO.ite ?_ ?_
      | refine LeO.bind ?_ (fun _ => ?_)
theorem contangolaw49_HaircutTakes.mono : ∀ a0 a1 a2 k, LeO (contangolaw49_HaircutTakes.f k a0 a1 a2) (contangolaw49_HaircutTakes.f (k + 1) a0 a1 a2) := by
  intro a0 a1 a2 k
  obtain ⟨ih0, ih1⟩ := contangolaw49_HaircutTakes.mono_l k
  unfold contangolaw49_HaircutTakes.f
  repeat' first
      | (with_reducible exact ih0 _ _ _ _)
      | (with_reducible exact ih1 _ _ _ _ _)
      | (with_reducible exact contangolaw49_goes.mono _)
      | (with_reducible exact contangoref22_Same.mono _ _ _)
      | (with_reducible exact contangoref49_Gains.mono _ _ _)
      | (with_reducible exact contangoref49_Take.mono _ _ _ _)
      | (with_reducible exact haircut_Gains.mono _ _ _)
      | (with_reducible exact haircut_Take.mono _ _ _ _)
      | (with_reducible exact LeO.refl _)
      | (with_reducible exact LeO.none _)
      | (with_reducible refine LeO.ite ?_ ?_)
      | (with_reducible refine LeO.bind ?_ (fun _ => ?_))
      | exact ih0 _ _ _ _
      | exact ih1 _ _ _ _ _
      | exact contangolaw49_goes.mono _
      | exact contangoref22_Same.mono _ _ _
      | exact contangoref49_Gains.mono _ _ _
      | exact contangoref49_Take.mono _ _ _ _
      | exact haircut_Gains.mono _ _ _
      | exact haircut_Take.mono _ _ _ _
      | exact LeO.none _
      | refine LeO.ite ?_ ?_
      | refine LeO.bind ?_ (fun _ => ?_)
set_option maxHeartbeats 8000000 in
set_option maxRecDepth 100000 in
theorem contangolaw49_HaircutTakes.calls (k : Nat) (a0 : Int) (A1 : Option Addr) (c1 : Nat) (l1 : List (S35)) (a2 : Int) (r : Bool) (w : World) (hr1 : Kd.C k35 w A1 l1.length l1) (hc1 : l1.length ≤ c1) (h : contangolaw49_HaircutTakes.f k a0 l1 a2 = some r) :
    Calls Try.prog 3 #[.int .i64 a0, .slice A1 l1.length c1, .int .i64 a2] w fun e w' => e = .returned (.bool r) ∧ Below w.heap.size w w' := by
  have hu35 := Try.underlying35
  have HR1 := Aside0.mk hr1
  have HC1 := Aside0.mk hc1
  clear hr1 hc1
  have HB := Aside0.mk (Below.refl w.heap.size w)
  have H : (if (l1.length : Int) > 1100 then ((contangolaw49_goes.f k).bind fun t287 => (some t287)) else ((some (([] : List (S35)) : List (S35))).bind fun y288 => (if y288.length + l1.length < 3518437208883 then ((some (y288 ++ l1 : List (S35))).bind fun y291 => ((haircut_Gains.f k y291 a2).bind fun bt294 => ((contangoref49_Gains.f k l1 a2).bind fun bt296 => ((haircut_Take.f k a0 y291 a2).bind fun bt298 => ((contangoref49_Take.f k a0 l1 a2).bind fun bt303 => (if bt294.1 = bt296.1 then (if bt294.2 = bt296.2 then ((contangoref22_Same.f k bt298.1 bt303.1).bind fun t308 => (if t308 = true then (if bt298.2.1 = bt303.2.1 then (contangolaw49_HaircutTakes.j0 k l1 y291 bt298.1 (bt298.2.2 != bt303.2.2)) else (contangolaw49_HaircutTakes.j0 k l1 y291 bt298.1 true)) else (contangolaw49_HaircutTakes.j0 k l1 y291 bt298.1 true))) else (contangolaw49_HaircutTakes.j0 k l1 y291 bt298.1 true)) else (contangolaw49_HaircutTakes.j0 k l1 y291 bt298.1 true))))))) else (none)))) = some r := h
  clear h
  by_cases c4 : (l1.length : Int) > 1100
  · rw [if_pos c4] at H
    have c4b0 : decide (1100 < (l1.length : Int)) = true := decide_eq_true c4
    have c4b1 : decide (1100 < l1.length) = true := decide_eq_true (by omega)
    clear c4
    replace H := Option.bind_eq_some_iff.mp H
    obtain ⟨t287, A50, H⟩ := H
    replace H : (some t287) = some r := H
    have A5 := Aside0.mk A50
    clear A50
    obtain rfl := Option.some.inj H
    go_enter Try.func3, Try.ntmps3
    go_wp2_with (first | ((with_reducible refine gate_callee (f := 7) rfl ?_); refine goesL_ (some 22) rfl rfl Try.func7 (by kernel_rfl) rfl #[] rfl (by (try simp only [List.map_toArray, List.map_cons, List.map_nil]); first | done | rfl | (simp only [List.length_drop, List.length_take]; rfl)) ?_; (with_reducible refine (contangolaw49_goes.calls k  t287 _ A5.out).mono ?_); rintro e w6 ⟨rfl, hb⟩; refine ⟨_, rfl, ?_⟩; have n0_ := Aside0.mk (below_step (by repeat (first | (with_reducible first | exact HB.out | apply below_alloc | apply pw_below_drewN | apply below_drew1) | exact HB.out)) hb); clear HB; have HB := n0_; clear n0_; (try clear hb); (try clear hb2); (try clear hk); (try clear hi)))
    go_ret
    exact ⟨by first | rfl | (simp [errW_none, errW_some] <;> rfl) | (simp [*, errW_none, errW_some] <;> rfl), by repeat (first | (with_reducible first | exact HB.out | apply below_alloc | apply pw_below_drewN | apply below_drew1) | exact HB.out)⟩
  · rw [if_neg c4] at H
    have c4b0 : decide (1100 < (l1.length : Int)) = false := decide_eq_false c4
    have c4b1 : decide (1100 < l1.length) = false := decide_eq_false (by omega)
    clear c4
    obtain ⟨y288, hy288⟩ : ∃ y_ : List (S35), y_ = (([] : List (S35))) := ⟨_, rfl⟩
    replace H : (if y288.length + l1.length < 3518437208883 then ((some (y288 ++ l1 : List (S35))).bind fun y291 => ((haircut_Gains.f k y291 a2).bind fun bt294 => ((contangoref49_Gains.f k l1 a2).bind fun bt296 => ((haircut_Take.f k a0 y291 a2).bind fun bt298 => ((contangoref49_Take.f k a0 l1 a2).bind fun bt303 => (if bt294.1 = bt296.1 then (if bt294.2 = bt296.2 then ((contangoref22_Same.f k bt298.1 bt303.1).bind fun t308 => (if t308 = true then (if bt298.2.1 = bt303.2.1 then (contangolaw49_HaircutTakes.j0 k l1 y291 bt298.1 (bt298.2.2 != bt303.2.2)) else (contangolaw49_HaircutTakes.j0 k l1 y291 bt298.1 true)) else (contangolaw49_HaircutTakes.j0 k l1 y291 bt298.1 true))) else (contangolaw49_HaircutTakes.j0 k l1 y291 bt298.1 true)) else (contangolaw49_HaircutTakes.j0 k l1 y291 bt298.1 true))))))) else (none)) = some r := by first | (rw [hy288]; with_reducible exact H) | (have H2_ := (Option.bind_some _ _).symm.trans H; rw [hy288]; with_reducible exact H2_) | (have H2_ := (Option.bind_some _ _).symm.trans H; with_reducible exact H2_) | with_reducible exact H | (rw [hy288]; exact H) | exact H
    have Ny288 := Aside0.mk hy288
    clear hy288
    by_cases c7 : y288.length + l1.length < 3518437208883
    · rw [if_pos c7] at H
      have LMc7 := Aside0.mk c7
      clear c7
      obtain ⟨y291, hy291⟩ : ∃ y_ : List (S35), y_ = (y288 ++ l1) := ⟨_, rfl⟩
      replace H : ((haircut_Gains.f k y291 a2).bind fun bt294 => ((contangoref49_Gains.f k l1 a2).bind fun bt296 => ((haircut_Take.f k a0 y291 a2).bind fun bt298 => ((contangoref49_Take.f k a0 l1 a2).bind fun bt303 => (if bt294.1 = bt296.1 then (if bt294.2 = bt296.2 then ((contangoref22_Same.f k bt298.1 bt303.1).bind fun t308 => (if t308 = true then (if bt298.2.1 = bt303.2.1 then (contangolaw49_HaircutTakes.j0 k l1 y291 bt298.1 (bt298.2.2 != bt303.2.2)) else (contangolaw49_HaircutTakes.j0 k l1 y291 bt298.1 true)) else (contangolaw49_HaircutTakes.j0 k l1 y291 bt298.1 true))) else (contangolaw49_HaircutTakes.j0 k l1 y291 bt298.1 true)) else (contangolaw49_HaircutTakes.j0 k l1 y291 bt298.1 true)))))) = some r := by first | (rw [hy291]; with_reducible exact H) | (have H2_ := (Option.bind_some _ _).symm.trans H; rw [hy291]; with_reducible exact H2_) | (have H2_ := (Option.bind_some _ _).symm.trans H; with_reducible exact H2_) | with_reducible exact H | (rw [hy291]; exact H) | exact H
      have Ny291 := Aside0.mk hy291
      clear hy291
      replace H := Option.bind_eq_some_iff.mp H
      obtain ⟨⟨t294, t295⟩, A80, H⟩ := H
      replace H : ((contangoref49_Gains.f k l1 a2).bind fun bt296 => ((haircut_Take.f k a0 y291 a2).bind fun bt298 => ((contangoref49_Take.f k a0 l1 a2).bind fun bt303 => (if t294 = bt296.1 then (if t295 = bt296.2 then ((contangoref22_Same.f k bt298.1 bt303.1).bind fun t308 => (if t308 = true then (if bt298.2.1 = bt303.2.1 then (contangolaw49_HaircutTakes.j0 k l1 y291 bt298.1 (bt298.2.2 != bt303.2.2)) else (contangolaw49_HaircutTakes.j0 k l1 y291 bt298.1 true)) else (contangolaw49_HaircutTakes.j0 k l1 y291 bt298.1 true))) else (contangolaw49_HaircutTakes.j0 k l1 y291 bt298.1 true)) else (contangolaw49_HaircutTakes.j0 k l1 y291 bt298.1 true))))) = some r := H
      have A8 := Aside0.mk A80
      clear A80
      replace H := Option.bind_eq_some_iff.mp H
      obtain ⟨⟨t296, t297⟩, A90, H⟩ := H
      replace H : ((haircut_Take.f k a0 y291 a2).bind fun bt298 => ((contangoref49_Take.f k a0 l1 a2).bind fun bt303 => (if t294 = t296 then (if t295 = t297 then ((contangoref22_Same.f k bt298.1 bt303.1).bind fun t308 => (if t308 = true then (if bt298.2.1 = bt303.2.1 then (contangolaw49_HaircutTakes.j0 k l1 y291 bt298.1 (bt298.2.2 != bt303.2.2)) else (contangolaw49_HaircutTakes.j0 k l1 y291 bt298.1 true)) else (contangolaw49_HaircutTakes.j0 k l1 y291 bt298.1 true))) else (contangolaw49_HaircutTakes.j0 k l1 y291 bt298.1 true)) else (contangolaw49_HaircutTakes.j0 k l1 y291 bt298.1 true)))) = some r := H
      have A9 := Aside0.mk A90
      clear A90
      replace H := Option.bind_eq_some_iff.mp H
      obtain ⟨⟨t298, t299, t300⟩, A100, H⟩ := H
      replace H : ((contangoref49_Take.f k a0 l1 a2).bind fun bt303 => (if t294 = t296 then (if t295 = t297 then ((contangoref22_Same.f k t298 bt303.1).bind fun t308 => (if t308 = true then (if t299 = bt303.2.1 then (contangolaw49_HaircutTakes.j0 k l1 y291 t298 (t300 != bt303.2.2)) else (contangolaw49_HaircutTakes.j0 k l1 y291 t298 true)) else (contangolaw49_HaircutTakes.j0 k l1 y291 t298 true))) else (contangolaw49_HaircutTakes.j0 k l1 y291 t298 true)) else (contangolaw49_HaircutTakes.j0 k l1 y291 t298 true))) = some r := H
      have A10 := Aside0.mk A100
      clear A100
      replace H := Option.bind_eq_some_iff.mp H
      obtain ⟨⟨t303, t304, t305⟩, A110, H⟩ := H
      replace H : (if t294 = t296 then (if t295 = t297 then ((contangoref22_Same.f k t298 t303).bind fun t308 => (if t308 = true then (if t299 = t304 then (contangolaw49_HaircutTakes.j0 k l1 y291 t298 (t300 != t305)) else (contangolaw49_HaircutTakes.j0 k l1 y291 t298 true)) else (contangolaw49_HaircutTakes.j0 k l1 y291 t298 true))) else (contangolaw49_HaircutTakes.j0 k l1 y291 t298 true)) else (contangolaw49_HaircutTakes.j0 k l1 y291 t298 true)) = some r := H
      have A11 := Aside0.mk A110
      clear A110
      have HC12 := Aside0.mk H
      clear H
      go_enter Try.func3, Try.ntmps3
      go_upto_region 8 with (first | ((with_reducible refine gate_dst (N := 23) rfl ?_); refine Kd.R_lit k35 _ 35 ?hg (N := 23) ?hd (xs := ([] : List (S35))) (inner := []) (ok := fun _ => True) (okp := fun _ => True) ?hr ?hp (fun _ hk => hk) trivial (Below.refl _ _) (Nat.le_refl _) (by simp) ?_; (case hd => rfl); (case hg => rfl); (case hr => first | (go_simp; done) | (go_simp; rfl)); (case hp => exact (Reps.none _ _)); intro v289 w13 ho14 hb hg_ hnew_; clear hg_ hnew_; (first | rw [← Ny288.out] at ho14 | (simp only [Int.reduceToNat] at ho14; rw [← Ny288.out] at ho14)); have n0_ := Aside0.mk (Kd.R_lower ho14 (below_size (by repeat (first | (with_reducible first | exact HB.out | apply below_alloc | apply pw_below_drewN | apply below_drew1) | exact HB.out)))); have n1_ := Aside0.mk (below_step (by repeat (first | (with_reducible first | exact HB.out | apply below_alloc | apply pw_below_drewN | apply below_drew1) | exact HB.out)) hb); clear HB; have HO290 := n0_; have HB := n1_; clear n0_ n1_; clear hb ho14) | ((with_reducible refine gate_builtin (b := .append) (xs := #[.tmp 23, .tmp 24]) rfl ?_); at_builtin; refine Kd.R_append_rows k35 (w0 := w) w.heap.size rfl (.tmp 23) (.tmp 24) 22 35 (.agg #[(.string ⟨#[]⟩), (.int .i64 0), (.int .i64 0), (.int .i64 0)]) 40 rfl Try.underlying22 info35 rfl (by decide) (by omega) v289 y288 l1 _ _ _ (fun _ => True) (fun _ => False) rfl rfl ?aO ?aR (fun _ _ h => h) (fun _ h => h.elim) ?aF ?aB ?aS ?aL ?_; (case aR => repeat (first | exact (Kd.C_below HR1.out HB.out) | (with_reducible refine Kd.C_alloc ?_ _) | (with_reducible refine Kd.C_drewN ?_ _) | (with_reducible refine Kd.C_drew ?_))); (case aB => exact (by repeat (first | (with_reducible first | exact HB.out | apply below_alloc | apply pw_below_drewN | apply below_drew1) | exact HB.out))); (case aF => exact (fun _ _ => trivial)); (case aO => exact (by (with_reducible repeat (first | apply Kd.R_alloc | apply Kd.R_drewN | apply Kd.R_drew)); exact HO290.out)); (case aS => exact (below_size (by repeat (first | (with_reducible first | exact HB.out | apply below_alloc | apply pw_below_drewN | apply below_drew1) | exact HB.out)))); (case aL => have := LMc7.out; omega); intro v292 w15 ho hb hg hat; rw [← Ny291.out] at ho; have n0_ := Aside0.mk (hb); have n1_ := Aside0.mk (ho); clear HB; clear HO290; have HB := n0_; have HO293 := n1_; clear n0_ n1_; clear ho hb hg hat; obtain ⟨Ao16, co16, eo16⟩ := Kd.R_slice HO293.out; subst eo16) | ((with_reducible refine gate_callee (f := 8) rfl ?_); refine goesL_ (some 29) rfl rfl Try.func8 (by kernel_rfl) rfl #[.slice Ao16 y291.length co16, .int .i64 a2] rfl (by (try simp only [List.map_toArray, List.map_cons, List.map_nil]); first | done | rfl | (simp only [List.length_drop, List.length_take]; rfl)) ?_; (with_reducible refine (haircut_Gains.calls k _ _ y291 a2 t294 t295 _ ?side1 ?side2 A8.out).mono ?_); (case side1 => repeat (first | exact (Kd.R_reads' HO293.out).2.2 | (with_reducible refine Kd.C_alloc ?_ _) | (with_reducible refine Kd.C_drewN ?_ _) | (with_reducible refine Kd.C_drew ?_))); (case side2 => exact (Kd.R_reads' HO293.out).2.1); rintro e w17 ⟨rfl, hb⟩; refine ⟨_, rfl, ?_⟩; have n0_ := Aside0.mk (Kd.R_below (by (with_reducible repeat (first | apply Kd.R_alloc | apply Kd.R_drewN | apply Kd.R_drew)); exact HO293.out) hb); have n1_ := Aside0.mk (below_step (by repeat (first | (with_reducible first | exact HB.out | apply below_alloc | apply pw_below_drewN | apply below_drew1) | exact HB.out)) hb); clear HO293; clear HB; have HO293 := n0_; have HB := n1_; clear n0_ n1_; (try clear hb); (try clear hb2); (try clear hk); (try clear hi)) | ((with_reducible refine gate_callee (f := 9) rfl ?_); refine goesL_ (some 35) rfl rfl Try.func9 (by kernel_rfl) rfl #[.slice A1 l1.length c1, .int .i64 a2] rfl (by (try simp only [List.map_toArray, List.map_cons, List.map_nil]); first | done | rfl | (simp only [List.length_drop, List.length_take]; rfl)) ?_; (with_reducible refine (contangoref49_Gains.calls k _ _ l1 a2 t296 t297 _ ?side1 ?side2 A9.out).mono ?_); (case side1 => repeat (first | exact (Kd.C_below HR1.out HB.out) | (with_reducible refine Kd.C_alloc ?_ _) | (with_reducible refine Kd.C_drewN ?_ _) | (with_reducible refine Kd.C_drew ?_))); (case side2 => exact HC1.out); rintro e w18 ⟨rfl, hb⟩; refine ⟨_, rfl, ?_⟩; have n0_ := Aside0.mk (Kd.R_below (by (with_reducible repeat (first | apply Kd.R_alloc | apply Kd.R_drewN | apply Kd.R_drew)); exact HO293.out) hb); have n1_ := Aside0.mk (below_step (by repeat (first | (with_reducible first | exact HB.out | apply below_alloc | apply pw_below_drewN | apply below_drew1) | exact HB.out)) hb); clear HO293; clear HB; have HO293 := n0_; have HB := n1_; clear n0_ n1_; (try clear hb); (try clear hb2); (try clear hk); (try clear hi)) | ((with_reducible refine gate_callee (f := 10) rfl ?_); refine goesL_ (some 42) rfl rfl Try.func10 (by kernel_rfl) rfl #[.int .i64 a0, .slice Ao16 y291.length co16, .int .i64 a2] rfl (by (try simp only [List.map_toArray, List.map_cons, List.map_nil]); first | done | rfl | (simp only [List.length_drop, List.length_take]; rfl)) ?_; (with_reducible refine (haircut_Take.calls k a0 _ _ y291 a2 t298 t299 t300 _ ?side1 ?side2 A10.out).mono ?_); (case side1 => repeat (first | exact (Kd.R_reads' HO293.out).2.2 | (with_reducible refine Kd.C_alloc ?_ _) | (with_reducible refine Kd.C_drewN ?_ _) | (with_reducible refine Kd.C_drew ?_))); (case side2 => exact (Kd.R_reads' HO293.out).2.1); rintro e w19 ⟨v301, rfl, ho0, hb⟩; refine ⟨_, rfl, ?_⟩; have n0_ := Aside0.mk (Kd.R_elder' (by (with_reducible repeat (first | apply Kd.R_alloc | apply Kd.R_drewN | apply Kd.R_drew)); exact HO293.out) (Kd.R_base ho0) hb); have n1_ := Aside0.mk (Kd.R_lower (Kd.R_new' ho0 (Kd.R_lt (by (with_reducible repeat (first | apply Kd.R_alloc | apply Kd.R_drewN | apply Kd.R_drew)); exact HO293.out))) (below_size (by repeat (first | (with_reducible first | exact HB.out | apply below_alloc | apply pw_below_drewN | apply below_drew1) | exact HB.out)))); have n2_ := Aside0.mk (below_step (by repeat (first | (with_reducible first | exact HB.out | apply below_alloc | apply pw_below_drewN | apply below_drew1) | exact HB.out)) hb); clear HO293; clear HB; have HO293 := n0_; have HO302 := n1_; have HB := n2_; clear n0_ n1_ n2_; (try clear hb); (try clear hb2); (try clear hk); (try clear hi); (try clear ho0)) | ((with_reducible refine gate_callee (f := 11) rfl ?_); refine goesL_ (some 50) rfl rfl Try.func11 (by kernel_rfl) rfl #[.int .i64 a0, .slice A1 l1.length c1, .int .i64 a2] rfl (by (try simp only [List.map_toArray, List.map_cons, List.map_nil]); first | done | rfl | (simp only [List.length_drop, List.length_take]; rfl)) ?_; (with_reducible refine (contangoref49_Take.calls k a0 _ _ l1 a2 t303 t304 t305 _ ?side1 ?side2 A11.out).mono ?_); (case side1 => repeat (first | exact (Kd.C_below HR1.out HB.out) | (with_reducible refine Kd.C_alloc ?_ _) | (with_reducible refine Kd.C_drewN ?_ _) | (with_reducible refine Kd.C_drew ?_))); (case side2 => exact HC1.out); rintro e w20 ⟨v306, rfl, ho0, hb⟩; refine ⟨_, rfl, ?_⟩; have n0_ := Aside0.mk (Kd.R_elder' (by (with_reducible repeat (first | apply Kd.R_alloc | apply Kd.R_drewN | apply Kd.R_drew)); exact HO293.out) (Kd.R_base ho0) hb); have n1_ := Aside0.mk (Kd.R_elder' (by (with_reducible repeat (first | apply Kd.R_alloc | apply Kd.R_drewN | apply Kd.R_drew)); exact HO302.out) (Kd.R_base ho0) hb); have n2_ := Aside0.mk (Kd.R_lower (Kd.R_new' (Kd.R_new' ho0 (Kd.R_lt (by (with_reducible repeat (first | apply Kd.R_alloc | apply Kd.R_drewN | apply Kd.R_drew)); exact HO293.out))) (Kd.R_lt (by (with_reducible repeat (first | apply Kd.R_alloc | apply Kd.R_drewN | apply Kd.R_drew)); exact HO302.out))) (below_size (by repeat (first | (with_reducible first | exact HB.out | apply below_alloc | apply pw_below_drewN | apply below_drew1) | exact HB.out)))); have n3_ := Aside0.mk (below_step (by repeat (first | (with_reducible first | exact HB.out | apply below_alloc | apply pw_below_drewN | apply below_drew1) | exact HB.out)) hb); clear HO293; clear HO302; clear HB; have HO293 := n0_; have HO302 := n1_; have HO307 := n2_; have HB := n3_; clear n0_ n1_ n2_ n3_; (try clear hb); (try clear hb2); (try clear hk); (try clear hi); (try clear ho0)))
      (try simp only [Act.put, List.setIfInBounds_toArray, List.set_cons_zero, List.set_cons_succ])
      go_cut [77] (fun v77 wc => ∃ (kq : Nat) (x77_11 : Bool), v77 = .bool x77_11 ∧ Aside0 (contangolaw49_HaircutTakes.j0 kq l1 y291 t298 x77_11 = some r) ∧ Aside0 (kq ≤ k) ∧ Aside0 (Kd.R k35 35 wc w.heap.size (fun k_ => some k_ ≠ (v301 : Value).ownBlock) (.slice Ao16 y291.length co16) y291) ∧ Aside0 (Kd.R k35 35 wc w.heap.size (fun k_ => some k_ ≠ ((.slice Ao16 y291.length co16) : Value).ownBlock) v301 t298) ∧ Aside0 (Below w.heap.size w wc))
      case first =>
        have H := HC12.out
        clear HC12
        by_cases c21 : t294 = t296
        · rw [if_pos c21] at H
          have c21b0 : (t294 == t296) = true := beq_iff_eq.mpr c21
          have c21b1 : (t294 != t296) = false := bne_eq_false_iff_eq.mpr c21
          clear c21
          (first | rw [c21b0] | (simp only [i64_w, i32_w]; rw [c21b0]) | rw [c21b1] | skip)
          by_cases c22 : t295 = t297
          · rw [if_pos c22] at H
            have c22b0 : (t295 == t297) = true := beq_iff_eq.mpr c22
            have c22b1 : (t295 != t297) = false := bne_eq_false_iff_eq.mpr c22
            clear c22
            replace H := Option.bind_eq_some_iff.mp H
            obtain ⟨t308, A230, H⟩ := H
            replace H : (if t308 = true then (if t299 = t304 then (contangolaw49_HaircutTakes.j0 k l1 y291 t298 (t300 != t305)) else (contangolaw49_HaircutTakes.j0 k l1 y291 t298 true)) else (contangolaw49_HaircutTakes.j0 k l1 y291 t298 true)) = some r := H
            have A23 := Aside0.mk A230
            clear A230
            by_cases c24 : t308 = true
            · subst c24
              have H1 : (if t299 = t304 then (contangolaw49_HaircutTakes.j0 k l1 y291 t298 (t300 != t305)) else (contangolaw49_HaircutTakes.j0 k l1 y291 t298 true)) = some r := by rw [if_pos rfl] at H; exact H
              clear H
              have H := H1
              clear H1
              by_cases c25 : t299 = t304
              · rw [if_pos c25] at H
                have c25b0 : (t299 == t304) = true := beq_iff_eq.mpr c25
                have c25b1 : (t299 != t304) = false := bne_eq_false_iff_eq.mpr c25
                clear c25
                have H' := Aside0.mk H
                clear H
                obtain ⟨Ao26, co26, eo26⟩ := Kd.R_slice HO302.out
                subst eo26
                obtain ⟨Ao27, co27, eo27⟩ := Kd.R_slice HO307.out
                subst eo27
                go_wp2_with (first | (go_at_call 12; (with_reducible refine (contangoref22_Same.calls k _ _ t298 _ _ t303 true _ ?side1 ?side2 ?side3 ?side4 A23.out).mono ?_); (case side1 => repeat (first | exact (Kd.R_reads' HO302.out).2.2 | (with_reducible refine Kd.C_alloc ?_ _) | (with_reducible refine Kd.C_drewN ?_ _) | (with_reducible refine Kd.C_drew ?_))); (case side2 => exact (Kd.R_reads' HO302.out).2.1); (case side3 => repeat (first | exact (Kd.R_reads' HO307.out).2.2 | (with_reducible refine Kd.C_alloc ?_ _) | (with_reducible refine Kd.C_drewN ?_ _) | (with_reducible refine Kd.C_drew ?_))); (case side4 => exact (Kd.R_reads' HO307.out).2.1); rintro e w' ⟨rfl, ⟨nd, rfl⟩⟩))
                go_meet
                case rel => exact ⟨_, ((t300 != t305)), (by first | rfl | (simp; done) | (simp [*]; done)), H', ⟨by first | omega | exact Nat.le_refl _⟩, ⟨by (with_reducible repeat (first | apply Kd.R_alloc | apply Kd.R_drewN | apply Kd.R_drew)); exact Kd.R_mono HO293.out (fun _ hk => hk.1.2)⟩, ⟨by (with_reducible repeat (first | apply Kd.R_alloc | apply Kd.R_drewN | apply Kd.R_drew)); exact Kd.R_mono HO302.out (fun _ hk => hk.1.2)⟩, ⟨by repeat (first | (with_reducible first | exact HB.out | apply below_alloc | apply pw_below_drewN | apply below_drew1) | exact HB.out)⟩⟩
              · rw [if_neg c25] at H
                have c25b0 : (t299 == t304) = false := beq_eq_false_iff_ne.mpr c25
                have c25b1 : (t299 != t304) = true := bne_iff_ne.mpr c25
                have H' := Aside0.mk H
                clear H
                obtain ⟨Ao28, co28, eo28⟩ := Kd.R_slice HO302.out
                subst eo28
                obtain ⟨Ao29, co29, eo29⟩ := Kd.R_slice HO307.out
                subst eo29
                go_wp2_with (first | (go_at_call 12; (with_reducible refine (contangoref22_Same.calls k _ _ t298 _ _ t303 true _ ?side1 ?side2 ?side3 ?side4 A23.out).mono ?_); (case side1 => repeat (first | exact (Kd.R_reads' HO302.out).2.2 | (with_reducible refine Kd.C_alloc ?_ _) | (with_reducible refine Kd.C_drewN ?_ _) | (with_reducible refine Kd.C_drew ?_))); (case side2 => exact (Kd.R_reads' HO302.out).2.1); (case side3 => repeat (first | exact (Kd.R_reads' HO307.out).2.2 | (with_reducible refine Kd.C_alloc ?_ _) | (with_reducible refine Kd.C_drewN ?_ _) | (with_reducible refine Kd.C_drew ?_))); (case side4 => exact (Kd.R_reads' HO307.out).2.1); rintro e w' ⟨rfl, ⟨nd, rfl⟩⟩))
                go_meet
                case rel => exact ⟨_, (true), (by first | rfl | (simp; done) | (simp [*]; done)), H', ⟨by first | omega | exact Nat.le_refl _⟩, ⟨by (with_reducible repeat (first | apply Kd.R_alloc | apply Kd.R_drewN | apply Kd.R_drew)); exact Kd.R_mono HO293.out (fun _ hk => hk.1.2)⟩, ⟨by (with_reducible repeat (first | apply Kd.R_alloc | apply Kd.R_drewN | apply Kd.R_drew)); exact Kd.R_mono HO302.out (fun _ hk => hk.1.2)⟩, ⟨by repeat (first | (with_reducible first | exact HB.out | apply below_alloc | apply pw_below_drewN | apply below_drew1) | exact HB.out)⟩⟩
            · replace c24 := Bool.eq_false_iff.mpr c24
              subst c24
              have H1 : (contangolaw49_HaircutTakes.j0 k l1 y291 t298 true) = some r := by rw [if_neg (show ¬ (false = true) by decide)] at H; exact H
              clear H
              have H := H1
              clear H1
              have H' := Aside0.mk H
              clear H
              obtain ⟨Ao30, co30, eo30⟩ := Kd.R_slice HO302.out
              subst eo30
              obtain ⟨Ao31, co31, eo31⟩ := Kd.R_slice HO307.out
              subst eo31
              go_wp2_with (first | (go_at_call 12; (with_reducible refine (contangoref22_Same.calls k _ _ t298 _ _ t303 false _ ?side1 ?side2 ?side3 ?side4 A23.out).mono ?_); (case side1 => repeat (first | exact (Kd.R_reads' HO302.out).2.2 | (with_reducible refine Kd.C_alloc ?_ _) | (with_reducible refine Kd.C_drewN ?_ _) | (with_reducible refine Kd.C_drew ?_))); (case side2 => exact (Kd.R_reads' HO302.out).2.1); (case side3 => repeat (first | exact (Kd.R_reads' HO307.out).2.2 | (with_reducible refine Kd.C_alloc ?_ _) | (with_reducible refine Kd.C_drewN ?_ _) | (with_reducible refine Kd.C_drew ?_))); (case side4 => exact (Kd.R_reads' HO307.out).2.1); rintro e w' ⟨rfl, ⟨nd, rfl⟩⟩))
              go_meet
              case rel => exact ⟨_, (true), (by first | rfl | (simp; done) | (simp [*]; done)), H', ⟨by first | omega | exact Nat.le_refl _⟩, ⟨by (with_reducible repeat (first | apply Kd.R_alloc | apply Kd.R_drewN | apply Kd.R_drew)); exact Kd.R_mono HO293.out (fun _ hk => hk.1.2)⟩, ⟨by (with_reducible repeat (first | apply Kd.R_alloc | apply Kd.R_drewN | apply Kd.R_drew)); exact Kd.R_mono HO302.out (fun _ hk => hk.1.2)⟩, ⟨by repeat (first | (with_reducible first | exact HB.out | apply below_alloc | apply pw_below_drewN | apply below_drew1) | exact HB.out)⟩⟩
          · rw [if_neg c22] at H
            have c22b0 : (t295 == t297) = false := beq_eq_false_iff_ne.mpr c22
            have c22b1 : (t295 != t297) = true := bne_iff_ne.mpr c22
            have H' := Aside0.mk H
            clear H
            go_wp2
            go_meet
            case rel => exact ⟨_, (true), (by first | rfl | (simp; done) | (simp [*]; done)), H', ⟨by first | omega | exact Nat.le_refl _⟩, ⟨by (with_reducible repeat (first | apply Kd.R_alloc | apply Kd.R_drewN | apply Kd.R_drew)); exact Kd.R_mono HO293.out (fun _ hk => hk.1.2)⟩, ⟨by (with_reducible repeat (first | apply Kd.R_alloc | apply Kd.R_drewN | apply Kd.R_drew)); exact Kd.R_mono HO302.out (fun _ hk => hk.1.2)⟩, ⟨by repeat (first | (with_reducible first | exact HB.out | apply below_alloc | apply pw_below_drewN | apply below_drew1) | exact HB.out)⟩⟩
        · rw [if_neg c21] at H
          have c21b0 : (t294 == t296) = false := beq_eq_false_iff_ne.mpr c21
          have c21b1 : (t294 != t296) = true := bne_iff_ne.mpr c21
          (first | rw [c21b0] | (simp only [i64_w, i32_w]; rw [c21b0]) | rw [c21b1] | skip)
          have H' := Aside0.mk H
          clear H
          go_wp2
          go_meet
          case rel => exact ⟨_, (true), (by first | rfl | (simp; done) | (simp [*]; done)), H', ⟨by first | omega | exact Nat.le_refl _⟩, ⟨by (with_reducible repeat (first | apply Kd.R_alloc | apply Kd.R_drewN | apply Kd.R_drew)); exact Kd.R_mono HO293.out (fun _ hk => hk.1.2)⟩, ⟨by (with_reducible repeat (first | apply Kd.R_alloc | apply Kd.R_drewN | apply Kd.R_drew)); exact Kd.R_mono HO302.out (fun _ hk => hk.1.2)⟩, ⟨by repeat (first | (with_reducible first | exact HB.out | apply below_alloc | apply pw_below_drewN | apply below_drew1) | exact HB.out)⟩⟩
      case rest =>
        clear HC12
        try clear c1
        try clear c2
        try clear p2
        try clear c3
        try clear c4
        try clear c4b0
        try clear c4b1
        try clear c7
        try clear c8
        try clear c9
        try clear c10
        try clear c11
        try clear c21
        try clear c21b0
        try clear c21b1
        try clear c22
        try clear c22b0
        try clear c22b1
        try clear c24
        try clear c25
        try clear c25b0
        try clear c25b1
        obtain ⟨kq, x77_11, rfl, HA, HJ11, HO_7, HO_12, HB⟩ := hcut
        cases kq with
        | zero => exact absurd HA.out (by simp [contangolaw49_HaircutTakes.j0])
        | succ kj11 =>
          have H := HA.out
          clear HA
          simp only [contangolaw49_HaircutTakes.j0] at H
          by_cases c32 : x77_11 = true
          · subst c32
            have H1 : (none) = some r := by rw [if_pos rfl] at H; exact H
            clear H
            have H := H1
            clear H1
            exact absurd H (by simp)
          · replace c32 := Bool.eq_false_iff.mpr c32
            subst c32
            have H1 : (contangolaw49_HaircutTakes.l0 kj11 l1 y291 t298 (t298.length : Int) 0) = some r := by rw [if_neg (show ¬ (false = true) by decide)] at H; exact H
            clear H
            have H := H1
            clear H1
            have H' := Aside0.mk H
            clear H
            obtain ⟨Ao33, co33, eo33⟩ := Kd.R_slice HO_12.out
            subst eo33
            go_wp2
            go_loopg [80] kj11 (fun kq v80 w' => ∃ (x12_2 : List (S35)) (x80_2 : Int), v80 = .int .i64 x80_2 ∧ Aside0 (contangolaw49_HaircutTakes.l0 kq l1 y291 x12_2 (t298.length : Int) x80_2 = some r) ∧ Aside0 (kq ≤ kj11) ∧ Aside0 (Kd.R k35 35 w' w.heap.size (fun k_ => some k_ ≠ ((.slice Ao33 t298.length co33) : Value).ownBlock) (.slice Ao16 y291.length co16) y291) ∧ Aside0 (Kd.R k35 35 w' w.heap.size (fun k_ => some k_ ≠ ((.slice Ao16 y291.length co16) : Value).ownBlock) (.slice Ao33 t298.length co33) x12_2) ∧ Aside0 (Below w.heap.size w w'))
            case atStart => exact ⟨(t298), (0), (by first | rfl | (simp; done) | (simp [*]; done)), H', ⟨Nat.le_refl _⟩, ⟨by (with_reducible repeat (first | apply Kd.R_alloc | apply Kd.R_drewN | apply Kd.R_drew)); exact HO_7.out⟩, ⟨by (with_reducible repeat (first | apply Kd.R_alloc | apply Kd.R_drewN | apply Kd.R_drew)); exact HO_12.out⟩, ⟨by repeat (first | (with_reducible first | exact HB.out | apply below_alloc | apply pw_below_drewN | apply below_drew1) | exact HB.out)⟩⟩
            case round =>
              clear H'
              try clear c1
              try clear c2
              try clear p2
              try clear c3
              try clear c4
              try clear c4b0
              try clear c4b1
              try clear c7
              try clear c8
              try clear c9
              try clear c10
              try clear c11
              try clear c21
              try clear c21b0
              try clear c21b1
              try clear c22
              try clear c22b0
              try clear c22b1
              try clear c24
              try clear c25
              try clear c25b0
              try clear c25b1
              try clear c32
              try clear p2
              obtain ⟨x12_2, x80_2, rfl, HA, HK2, HO_7, HO_12, HB⟩ := hrel
              have hl12_2 := (Kd.R_reads' HO_12.out).1
              rw [hl12_2] at HO_12
              (try simp only [hl12_2])
              (try simp only [hl12_2] at HO_7)
              cases gk with
              | zero => exact absurd HA.out (by simp [contangolaw49_HaircutTakes.l0])
              | succ k2 =>
                have H := HA.out
                clear HA
                simp only [contangolaw49_HaircutTakes.l0] at H
                by_cases c34 : x80_2 < (t298.length : Int)
                · rw [if_pos c34] at H
                  have c34b0 : decide (x80_2 < (t298.length : Int)) = true := decide_eq_true c34
                  (try simp only [hl12_2] at c34b0)
                  clear c34
                  by_cases c35 : 0 ≤ x80_2
                  · rw [if_pos c35] at H
                    have c35b0 : decide (0 ≤ x80_2) = true := decide_eq_true c35
                    (try simp only [hl12_2] at c35b0)
                    clear c35
                    by_cases c36 : x80_2 < (x12_2.length : Int)
                    · rw [if_pos c36] at H
                      have c36b0 : decide (x80_2 < (x12_2.length : Int)) = true := decide_eq_true c36
                      (try simp only [hl12_2] at c36b0)
                      clear c36
                      obtain ⟨y309, hy309⟩ : ∃ y_ : List (S35), y_ = (x12_2.set (x80_2 : Int).toNat (⟨(⟨#[]⟩ : ByteArray), 0, (-7), 0⟩ : S35)) := ⟨_, rfl⟩
                      replace H : (contangolaw49_HaircutTakes.l0 k2 l1 y291 y309 (t298.length : Int) (wrap64 (x80_2 + 1))) = some r := by first | (rw [hy309]; with_reducible exact H) | (have H2_ := (Option.bind_some _ _).symm.trans H; rw [hy309]; with_reducible exact H2_) | (have H2_ := (Option.bind_some _ _).symm.trans H; with_reducible exact H2_) | with_reducible exact H | (rw [hy309]; exact H) | exact H
                      have Ny309 := Aside0.mk hy309
                      clear hy309
                      have H' := Aside0.mk H
                      clear H
                      have p37 : 0 ≤ (x80_2 : Int) := of_decide_eq_true (by first | (with_reducible assumption) | assumption)
                      have q37 : (x80_2 : Int) < ((x12_2.length : Int) : Int) := of_decide_eq_true (by first | (with_reducible assumption) | assumption)
                      obtain ⟨go37, co37, eo37, gb37, gl37, cl37, HG37⟩ := Kd.R_form HO_12.out (by omega)
                      (first | cases eo37 | (injection eo37 with ea_ en_ ec_; (first | subst ea_ | (injection ea_ with ea_; subst ea_)); subst ec_; clear en_))
                      have GB37 := Aside0.mk gb37
                      have GG37 := Aside0.mk HG37
                      clear gb37 gl37 HG37
                      obtain ⟨ce37, hcl37, hM37, hcc37, hfr37⟩ := Kd.R_elem HO_12.out z35 (x80_2 : Int) p37 q37
                      obtain rfl := k35_openM hM37
                      have hx37_0 : wr.cell? ⟨go37, (x80_2 : Int).toNat * 4, none⟩ = some (.string ((rd_T35 x12_2 x80_2).f0)) := hcc37 0 _ rfl
                      have hx37_1 : wr.cell? ⟨go37, (x80_2 : Int).toNat * 4 + 1, none⟩ = some (.int .i64 ((rd_T35 x12_2 x80_2).f1)) := hcc37 1 _ rfl
                      have hx37_2 : wr.cell? ⟨go37, (x80_2 : Int).toNat * 4 + 2, none⟩ = some (.int .i64 ((rd_T35 x12_2 x80_2).f2)) := hcc37 2 _ rfl
                      have hx37_3 : wr.cell? ⟨go37, (x80_2 : Int).toNat * 4 + 3, none⟩ = some (.int .i64 ((rd_T35 x12_2 x80_2).f3)) := hcc37 3 _ rfl
                      have hf37_0 : wr.frozen? ⟨go37, (x80_2 : Int).toNat * 4, none⟩ = false := hfr37 0
                      have hf37_1 : wr.frozen? ⟨go37, (x80_2 : Int).toNat * 4 + 1, none⟩ = false := hfr37 1
                      have hf37_2 : wr.frozen? ⟨go37, (x80_2 : Int).toNat * 4 + 2, none⟩ = false := hfr37 2
                      have hf37_3 : wr.frozen? ⟨go37, (x80_2 : Int).toNat * 4 + 3, none⟩ = false := hfr37 3
                      clear hcl37 hcc37 hfr37 hM37
                      replace p37 := eq_true p37
                      replace q37 := eq_true q37
                      have HX38 := Aside0.mk (show Kd.R k35 35 wr w.heap.size (fun k_ => some k_ ≠ (.slice Ao16 y291.length co16 : Value).ownBlock) (.slice (some ⟨go37, 0, none⟩) x12_2.length co33) x12_2 from (by (with_reducible repeat (first | apply Kd.R_alloc | apply Kd.R_drewN | apply Kd.R_drew)); exact HO_12.out))
                      obtain ⟨ce38, hcl38, hM38, hcc38, hfr38⟩ := Kd.R_elem HX38.out z35 (x80_2 : Int) (of_decide_eq_true (by first | (with_reducible assumption) | assumption)) (by have h_ : (x80_2 : Int) < ((x12_2.length : Int) : Int) := of_decide_eq_true (by first | (with_reducible assumption) | assumption); first | exact h_ | (have e_ := (Kd.R_reads' HO_12.out).1; omega) | simpa using h_)
                      obtain rfl := k35_openM hM38
                      have HP38 := Kd.R_seg HX38.out (x80_2 : Int) (of_decide_eq_true (by first | (with_reducible assumption) | assumption)) (by have h_ : (x80_2 : Int) < ((x12_2.length : Int) : Int) := of_decide_eq_true (by first | (with_reducible assumption) | assumption); first | exact h_ | (have e_ := (Kd.R_reads' HO_12.out).1; omega) | simpa using h_) (seg := [.string (⟨#[]⟩ : ByteArray), .int .i64 0, .int .i64 (-7), .int .i64 0]) (j := 0) hcl38 hcc38 (show 4 ≤ 4 from by decide) (x' := (⟨(⟨#[]⟩ : ByteArray), 0, (-7), 0⟩ : S35)) (k35_mkM _ _ _ (⟨(⟨#[]⟩ : ByteArray), 0, (-7), 0⟩ : S35) ) (fun _ hk => hk)
                      have hx38_0 := hcc38 0 _ rfl
                      (try simp only [show (k35).sz = 4 from rfl, Nat.mul_one, Nat.add_zero] at hx38_0)
                      have hf38_0 := hfr38 0
                      (try simp only [show (k35).sz = 4 from rfl, Nat.mul_one, Nat.add_zero] at hf38_0)
                      have hx38_1 := hcc38 1 _ rfl
                      (try simp only [show (k35).sz = 4 from rfl, Nat.mul_one, Nat.add_zero] at hx38_1)
                      have hf38_1 := hfr38 1
                      (try simp only [show (k35).sz = 4 from rfl, Nat.mul_one, Nat.add_zero] at hf38_1)
                      have hx38_2 := hcc38 2 _ rfl
                      (try simp only [show (k35).sz = 4 from rfl, Nat.mul_one, Nat.add_zero] at hx38_2)
                      have hf38_2 := hfr38 2
                      (try simp only [show (k35).sz = 4 from rfl, Nat.mul_one, Nat.add_zero] at hf38_2)
                      have hx38_3 := hcc38 3 _ rfl
                      (try simp only [show (k35).sz = 4 from rfl, Nat.mul_one, Nat.add_zero] at hx38_3)
                      have hf38_3 := hfr38 3
                      (try simp only [show (k35).sz = 4 from rfl, Nat.mul_one, Nat.add_zero] at hf38_3)
                      clear hcl38 hcc38 hfr38 hM38
                      go_wp2_with (first | ((with_reducible refine gate_store (t := 35) (p := 86) rfl ?_); refine store_event (t := 35) (p := 86) (v := ?vo_w39) (w1 := ((((wr.setCell ⟨go37, (x80_2 : Int).toNat * 4, none⟩ (.string (⟨#[]⟩ : ByteArray))).setCell ⟨go37, (x80_2 : Int).toNat * 4 + 1, none⟩ (.int .i64 0)).setCell ⟨go37, (x80_2 : Int).toNat * 4 + 2, none⟩ (.int .i64 (-7))).setCell ⟨go37, (x80_2 : Int).toNat * 4 + 3, none⟩ (.int .i64 0))) ?hg ?ho ?hn ?hr ?_; (case ho => rfl); (case hg => rfl); (case hn => rfl); (case hr => first | (go_simp; done) | (go_simp; rfl)); intro w39 hw; have hg : wr.grownBy w39 (some go37) := (by rw [hw]; exact HP38.2); have hp_ : Kd.R k35 35 w39 w.heap.size (fun k_ => some k_ ≠ (.slice Ao16 y291.length co16 : Value).ownBlock) (.slice (some ⟨go37, 0, none⟩) x12_2.length co33) y309 := (by rw [hw, Ny309.out]; exact HP38.1); clear HP38; have n0_ := Aside0.mk (Kd.R_after (v := (.slice (some ⟨go37, 0, none⟩) x12_2.length co33)) (v1 := (.slice (some ⟨go37, 0, none⟩) x12_2.length co33)) (ok := (fun _ => True)) (by (with_reducible repeat (first | apply Kd.R_alloc | apply Kd.R_drewN | apply Kd.R_drew)); exact Kd.R_mono HO_7.out (fun _ hk => ⟨trivial, hk⟩)) hg (.inl rfl)); have n1_ := Aside0.mk (hp_); have n2_ := Aside0.mk ((by rw [hw]; exact below_set (below_set (below_set (below_set (HB.out) GB37.out) GB37.out) GB37.out) GB37.out : Below w.heap.size w w39)); clear HO_7; clear HO_12; clear HB; have HO_7 := n0_; have HO_12 := n1_; have HB := n2_; clear n0_ n1_ n2_; clear hg hw hp_))
                      (try simp only [← hl12_2])
                      go_roundg k2
                      case measure => have := HJ11.out; have := HK2.out; omega
                      case rel => exact ⟨(y309), (wrap64 (x80_2 + 1)), (by first | rfl | (simp; done) | (simp [*]; done)), H', ⟨by have := HJ11.out; have := HK2.out; omega⟩, ⟨by (try simp only [hl12_2]); (with_reducible repeat (first | apply Kd.R_alloc | apply Kd.R_drewN | apply Kd.R_drew)); exact Kd.R_mono HO_7.out (fun _ hk => hk.2)⟩, ⟨by (try simp only [hl12_2]); (with_reducible repeat (first | apply Kd.R_alloc | apply Kd.R_drewN | apply Kd.R_drew)); exact HO_12.out⟩, ⟨by repeat (first | (with_reducible first | exact HB.out | apply below_alloc | apply pw_below_drewN | apply below_drew1) | exact HB.out)⟩⟩
                    · rw [if_neg c36] at H
                      exact absurd H (by simp)
                  · rw [if_neg c35] at H
                    exact absurd H (by simp)
                · rw [if_neg c34] at H
                  have c34b0 : decide (x80_2 < (t298.length : Int)) = false := decide_eq_false c34
                  (try simp only [hl12_2] at c34b0)
                  clear c34
                  replace H := Option.bind_eq_some_iff.mp H
                  obtain ⟨t310, A400, H⟩ := H
                  replace H : (if t310 = true then ((contangolaw49_goes.f k2).bind fun t311 => (some t311)) else (none)) = some r := H
                  have A40 := Aside0.mk A400
                  clear A400
                  by_cases c41 : t310 = true
                  · subst c41
                    have H1 : ((contangolaw49_goes.f k2).bind fun t311 => (some t311)) = some r := by rw [if_pos rfl] at H; exact H
                    clear H
                    have H := H1
                    clear H1
                    replace H := Option.bind_eq_some_iff.mp H
                    obtain ⟨t311, A420, H⟩ := H
                    replace H : (some t311) = some r := H
                    have A42 := Aside0.mk A420
                    clear A420
                    obtain rfl := Option.some.inj H
                    go_wp2_with (first | ((with_reducible refine gate_callee (f := 12) rfl ?_); refine goesL_ (some 90) rfl rfl Try.func12 (by kernel_rfl) rfl #[.slice Ao16 y291.length co16, .slice A1 l1.length c1] rfl (by (try simp only [List.map_toArray, List.map_cons, List.map_nil]); first | done | rfl | (simp only [List.length_drop, List.length_take]; rfl)) ?_; (with_reducible refine (contangoref22_Same.calls k2 _ _ y291 _ _ l1 true _ ?side1 ?side2 ?side3 ?side4 A40.out).mono ?_); (case side1 => repeat (first | exact (Kd.R_reads' HO_7.out).2.2 | (with_reducible refine Kd.C_alloc ?_ _) | (with_reducible refine Kd.C_drewN ?_ _) | (with_reducible refine Kd.C_drew ?_))); (case side2 => exact (Kd.R_reads' HO_7.out).2.1); (case side3 => repeat (first | exact (Kd.C_below HR1.out HB.out) | (with_reducible refine Kd.C_alloc ?_ _) | (with_reducible refine Kd.C_drewN ?_ _) | (with_reducible refine Kd.C_drew ?_))); (case side4 => exact HC1.out); rintro e w' ⟨rfl, ⟨nd, rfl⟩⟩; refine ⟨_, rfl, ?_⟩) | (go_at_call 7; (with_reducible refine (contangolaw49_goes.calls k2  t311 _ A42.out).mono ?_); rintro e w43 ⟨rfl, hb⟩; have n0_ := Aside0.mk (Kd.R_below (by (with_reducible repeat (first | apply Kd.R_alloc | apply Kd.R_drewN | apply Kd.R_drew)); exact HO_7.out) hb); have n1_ := Aside0.mk (Kd.R_below (by (with_reducible repeat (first | apply Kd.R_alloc | apply Kd.R_drewN | apply Kd.R_drew)); exact HO_12.out) hb); have n2_ := Aside0.mk (below_step (by repeat (first | (with_reducible first | exact HB.out | apply below_alloc | apply pw_below_drewN | apply below_drew1) | exact HB.out)) hb); clear HO_7; clear HO_12; clear HB; have HO_7 := n0_; have HO_12 := n1_; have HB := n2_; clear n0_ n1_ n2_; (try clear hb); (try clear hb2); (try clear hk); (try clear hi)))
                    go_ret
                    exact ⟨by first | rfl | (simp [errW_none, errW_some] <;> rfl) | (simp [*, errW_none, errW_some] <;> rfl), by repeat (first | (with_reducible first | exact HB.out | apply below_alloc | apply pw_below_drewN | apply below_drew1) | exact HB.out)⟩
                  · replace c41 := Bool.eq_false_iff.mpr c41
                    subst c41
                    have H1 : (none) = some r := by rw [if_neg (show ¬ (false = true) by decide)] at H; exact H
                    clear H
                    have H := H1
                    clear H1
                    exact absurd H (by simp)
    · rw [if_neg c7] at H
      exact absurd H (by simp)

end Go.Proofs.Ythoemohppeplpaa.PHaircutTakes
