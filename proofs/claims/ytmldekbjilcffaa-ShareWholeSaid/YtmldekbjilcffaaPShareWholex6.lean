/- Laid for this claim by a program of this session's (wip/mkprint.py, wip/ext.py); not trusted: Lean checks it. -/
import Derived.Test.YtmldekbjilcffaaPShareWholex0
import Derived.Test.YtmldekbjilcffaaPShareWholex1
import Derived.Test.YtmldekbjilcffaaPShareWholex4
import Derived.Test.YtmldekbjilcffaaPShareWholex5
namespace Go.Proofs.Ytmldekbjilcffaa.PShareWhole
open Go.RowKit Go.Proofs.YtmldekbjilcffaaW.PrintWords Go.Proofs.YtmldekbjilcffaaW.PrintLast Go.Proofs.YtmldekbjilcffaaW.PrintMore
attribute [local go_sem] max2_int min2_int max_two min_two max_three min_three max_four min_four   -- for this text's walks alone
set_option linter.unusedVariables false
set_option linter.unusedSimpArgs false

/-! ### contangolaw02_ShareWhole: function 4 -/
mutual
def contangolaw02_ShareWhole.j0 : Nat → Int → List Int → List Int → Bool → Option (Bool)
  | 0, _, _, _, _ => none
  | k + 1, x0, x1, x5, x40 => if x40 = true then (none) else ((contangoref02_Sum.f k x1).bind fun t188 => (contangolaw02_ShareWhole.l0 k x0 x1 x5 t188 0))
def contangolaw02_ShareWhole.l0 : Nat → Int → List Int → List Int → Int → Int → Option (Bool)
  | 0, _, _, _, _, _ => none
  | k + 1, x0, x1, x5, x7, x8 => if x8 < (x5.length : Int) then (if 0 ≤ x8 then (if x8 < (x1.length : Int) then ((contangoref02_Div.f k x0 (rd x1 x8) x7).bind fun bt191 => (if (rd x5 x8) = bt191.1 then (contangolaw02_ShareWhole.j2 k x0 x1 x5 x7 x8 false) else (if (rd x5 x8) = (wrap64 (bt191.1 + 1)) then (contangolaw02_ShareWhole.j2 k x0 x1 x5 x7 x8 (bt191.2 == 0)) else (contangolaw02_ShareWhole.j2 k x0 x1 x5 x7 x8 true)))) else (none)) else (none)) else ((contangolaw02_goes.f k).bind fun t189 => (some t189))
def contangolaw02_ShareWhole.j2 : Nat → Int → List Int → List Int → Int → Int → Bool → Option (Bool)
  | 0, _, _, _, _, _, _ => none
  | k + 1, x0, x1, x5, x7, x8, x77 => if x77 = true then (none) else (contangolaw02_ShareWhole.l1 k x0 x1 x5 x7 x8 0)
def contangolaw02_ShareWhole.l1 : Nat → Int → List Int → List Int → Int → Int → Int → Option (Bool)
  | 0, _, _, _, _, _, _ => none
  | k + 1, x0, x1, x5, x7, x8, x11 => if x11 < x8 then (if 0 ≤ x11 then (if x11 < (x1.length : Int) then (if 0 ≤ x8 then (if x8 < (x1.length : Int) then (if (rd x1 x11) < (rd x1 x8) then (if x11 < (x5.length : Int) then (if x8 < (x5.length : Int) then (if (rd x5 x11) > (rd x5 x8) then (none) else (if (rd x1 x11) > (rd x1 x8) then (if (rd x5 x11) < (rd x5 x8) then (none) else (if (rd x1 x11) = (rd x1 x8) then (if (rd x5 x11) > (wrap64 ((rd x5 x8) + 1)) then (none) else (contangolaw02_ShareWhole.l1 k x0 x1 x5 x7 x8 (wrap64 (x11 + 1)))) else (contangolaw02_ShareWhole.l1 k x0 x1 x5 x7 x8 (wrap64 (x11 + 1))))) else (if (rd x1 x11) = (rd x1 x8) then (if (rd x5 x11) < (rd x5 x8) then (none) else (if (rd x5 x11) > (wrap64 ((rd x5 x8) + 1)) then (none) else (contangolaw02_ShareWhole.l1 k x0 x1 x5 x7 x8 (wrap64 (x11 + 1))))) else (contangolaw02_ShareWhole.l1 k x0 x1 x5 x7 x8 (wrap64 (x11 + 1)))))) else (none)) else (none)) else (if (rd x1 x11) > (rd x1 x8) then (if x11 < (x5.length : Int) then (if x8 < (x5.length : Int) then (if (rd x5 x11) < (rd x5 x8) then (none) else (if (rd x1 x11) = (rd x1 x8) then (if (rd x5 x11) > (wrap64 ((rd x5 x8) + 1)) then (none) else (contangolaw02_ShareWhole.l1 k x0 x1 x5 x7 x8 (wrap64 (x11 + 1)))) else (contangolaw02_ShareWhole.l1 k x0 x1 x5 x7 x8 (wrap64 (x11 + 1))))) else (none)) else (none)) else (if (rd x1 x11) = (rd x1 x8) then (if x11 < (x5.length : Int) then (if x8 < (x5.length : Int) then (if (rd x5 x11) < (rd x5 x8) then (none) else (if (rd x5 x11) > (wrap64 ((rd x5 x8) + 1)) then (none) else (contangolaw02_ShareWhole.l1 k x0 x1 x5 x7 x8 (wrap64 (x11 + 1))))) else (none)) else (none)) else (contangolaw02_ShareWhole.l1 k x0 x1 x5 x7 x8 (wrap64 (x11 + 1)))))) else (none)) else (none)) else (none)) else (none)) else (contangolaw02_ShareWhole.l0 k x0 x1 x5 x7 (wrap64 (x8 + 1)))
end
def contangolaw02_ShareWhole.f (k : Nat) (a0 : Int) (l1 : List Int) : Option (Bool) := if (l1.length : Int) > 200 then ((contangolaw02_goes.f k).bind fun t181 => (some t181)) else ((share_Split.f a0 l1).bind fun bt182 => (if bt182.2 = 0 then (if (bt182.1.length : Int) = (l1.length : Int) then ((contangoref02_Sum.f k bt182.1).bind fun t187 => (contangolaw02_ShareWhole.j0 k a0 l1 bt182.1 (t187 != a0))) else (contangolaw02_ShareWhole.j0 k a0 l1 bt182.1 true)) else (if (bt182.1.length : Int) = 0 then ((contangolaw02_goes.f k).bind fun t186 => (some t186)) else (none))))
theorem contangolaw02_ShareWhole.mono_l : ∀ k, (∀ y0 y1 y2 y3, LeO (contangolaw02_ShareWhole.j0 k y0 y1 y2 y3) (contangolaw02_ShareWhole.j0 (k + 1) y0 y1 y2 y3)) ∧ (∀ y0 y1 y2 y3 y4, LeO (contangolaw02_ShareWhole.l0 k y0 y1 y2 y3 y4) (contangolaw02_ShareWhole.l0 (k + 1) y0 y1 y2 y3 y4)) ∧ (∀ y0 y1 y2 y3 y4 y5, LeO (contangolaw02_ShareWhole.j2 k y0 y1 y2 y3 y4 y5) (contangolaw02_ShareWhole.j2 (k + 1) y0 y1 y2 y3 y4 y5)) ∧ (∀ y0 y1 y2 y3 y4 y5, LeO (contangolaw02_ShareWhole.l1 k y0 y1 y2 y3 y4 y5) (contangolaw02_ShareWhole.l1 (k + 1) y0 y1 y2 y3 y4 y5))
  | 0 => ⟨fun _ _ _ _ r h => by simp [contangolaw02_ShareWhole.j0] at h, fun _ _ _ _ _ r h => by simp [contangolaw02_ShareWhole.l0] at h, fun _ _ _ _ _ _ r h => by simp [contangolaw02_ShareWhole.j2] at h, fun _ _ _ _ _ _ r h => by simp [contangolaw02_ShareWhole.l1] at h⟩
  | k + 1 => by
    obtain ⟨ih0, ih1, ih2, ih3⟩ := contangolaw02_ShareWhole.mono_l k
    refine ⟨?_, ?_, ?_, ?_⟩
    · intro y0 y1 y2 y3
      unfold contangolaw02_ShareWhole.j0
      repeat' first
      | (with_reducible exact ih0 _ _ _ _)
      | (with_reducible exact ih1 _ _ _ _ _)
      | (with_reducible exact ih2 _ _ _ _ _ _)
      | (with_reducible exact ih3 _ _ _ _ _ _)
      | (with_reducible exact contangolaw02_goes.mono _)
      | (with_reducible exact contangoref02_Div.mono _ _ _ _)
      | (with_reducible exact contangoref02_Sum.mono _ _)
      | (with_reducible exact LeO.refl _)
      | (with_reducible exact LeO.none _)
      | (with_reducible refine LeO.ite ?_ ?_)
      | (with_reducible refine LeO.bind ?_ (fun _ => ?_))
      | exact ih0 _ _ _ _
      | exact ih1 _ _ _ _ _
      | exact ih2 _ _ _ _ _ _
      | exact ih3 _ _ _ _ _ _
      | exact contangolaw02_goes.mono _
      | exact contangoref02_Div.mono _ _ _ _
      | exact contangoref02_Sum.mono _ _
      | exact LeO.none _
      | refine LeO.ite ?_ ?_
      | refine LeO.bind ?_ (fun _ => ?_)
    · intro y0 y1 y2 y3 y4
      unfold contangolaw02_ShareWhole.l0
      repeat' first
      | (with_reducible exact ih0 _ _ _ _)
      | (with_reducible exact ih1 _ _ _ _ _)
      | (with_reducible exact ih2 _ _ _ _ _ _)
      | (with_reducible exact ih3 _ _ _ _ _ _)
      | (with_reducible exact contangolaw02_goes.mono _)
      | (with_reducible exact contangoref02_Div.mono _ _ _ _)
      | (with_reducible exact contangoref02_Sum.mono _ _)
      | (with_reducible exact LeO.refl _)
      | (with_reducible exact LeO.none _)
      | (with_reducible refine LeO.ite ?_ ?_)
      | (with_reducible refine LeO.bind ?_ (fun _ => ?_))
      | exact ih0 _ _ _ _
      | exact ih1 _ _ _ _ _
      | exact ih2 _ _ _ _ _ _
      | exact ih3 _ _ _ _ _ _
      | exact contangolaw02_goes.mono _
      | exact contangoref02_Div.mono _ _ _ _
      | exact contangoref02_Sum.mono _ _
      | exact LeO.none _
      | refine LeO.ite ?_ ?_
      | refine LeO.bind ?_ (fun _ => ?_)
    · intro y0 y1 y2 y3 y4 y5
      unfold contangolaw02_ShareWhole.j2
      repeat' first
      | (with_reducible exact ih0 _ _ _ _)
      | (with_reducible exact ih1 _ _ _ _ _)
      | (with_reducible exact ih2 _ _ _ _ _ _)
      | (with_reducible exact ih3 _ _ _ _ _ _)
      | (with_reducible exact contangolaw02_goes.mono _)
      | (with_reducible exact contangoref02_Div.mono _ _ _ _)
      | (with_reducible exact contangoref02_Sum.mono _ _)
      | (with_reducible exact LeO.refl _)
      | (with_reducible exact LeO.none _)
      | (with_reducible refine LeO.ite ?_ ?_)
      | (with_reducible refine LeO.bind ?_ (fun _ => ?_))
      | exact ih0 _ _ _ _
      | exact ih1 _ _ _ _ _
      | exact ih2 _ _ _ _ _ _
      | exact ih3 _ _ _ _ _ _
      | exact contangolaw02_goes.mono _
      | exact contangoref02_Div.mono _ _ _ _
      | exact contangoref02_Sum.mono _ _
      | exact LeO.none _
      | refine LeO.ite ?_ ?_
      | refine LeO.bind ?_ (fun _ => ?_)
    · intro y0 y1 y2 y3 y4 y5
      unfold contangolaw02_ShareWhole.l1
      repeat' first
      | (with_reducible exact ih0 _ _ _ _)
      | (with_reducible exact ih1 _ _ _ _ _)
      | (with_reducible exact ih2 _ _ _ _ _ _)
      | (with_reducible exact ih3 _ _ _ _ _ _)
      | (with_reducible exact contangolaw02_goes.mono _)
      | (with_reducible exact contangoref02_Div.mono _ _ _ _)
      | (with_reducible exact contangoref02_Sum.mono _ _)
      | (with_reducible exact LeO.refl _)
      | (with_reducible exact LeO.none _)
      | (with_reducible refine LeO.ite ?_ ?_)
      | (with_reducible refine LeO.bind ?_ (fun _ => ?_))
      | exact ih0 _ _ _ _
      | exact ih1 _ _ _ _ _
      | exact ih2 _ _ _ _ _ _
      | exact ih3 _ _ _ _ _ _
      | exact contangolaw02_goes.mono _
      | exact contangoref02_Div.mono _ _ _ _
      | exact contangoref02_Sum.mono _ _
      | exact LeO.none _
      | refine LeO.ite ?_ ?_
      | refine LeO.bind ?_ (fun _ => ?_)
theorem contangolaw02_ShareWhole.mono : ∀ a0 a1 k, LeO (contangolaw02_ShareWhole.f k a0 a1) (contangolaw02_ShareWhole.f (k + 1) a0 a1) := by
  intro a0 a1 k
  obtain ⟨ih0, ih1, ih2, ih3⟩ := contangolaw02_ShareWhole.mono_l k
  unfold contangolaw02_ShareWhole.f
  repeat' first
      | (with_reducible exact ih0 _ _ _ _)
      | (with_reducible exact ih1 _ _ _ _ _)
      | (with_reducible exact ih2 _ _ _ _ _ _)
      | (with_reducible exact ih3 _ _ _ _ _ _)
      | (with_reducible exact contangolaw02_goes.mono _)
      | (with_reducible exact contangoref02_Div.mono _ _ _ _)
      | (with_reducible exact contangoref02_Sum.mono _ _)
      | (with_reducible exact LeO.refl _)
      | (with_reducible exact LeO.none _)
      | (with_reducible refine LeO.ite ?_ ?_)
      | (with_reducible refine LeO.bind ?_ (fun _ => ?_))
      | exact ih0 _ _ _ _
      | exact ih1 _ _ _ _ _
      | exact ih2 _ _ _ _ _ _
      | exact ih3 _ _ _ _ _ _
      | exact contangolaw02_goes.mono _
      | exact contangoref02_Div.mono _ _ _ _
      | exact contangoref02_Sum.mono _ _
      | exact LeO.none _
      | refine LeO.ite ?_ ?_
      | refine LeO.bind ?_ (fun _ => ?_)
set_option maxHeartbeats 8000000 in
set_option maxRecDepth 100000 in
theorem contangolaw02_ShareWhole.calls (k : Nat) (a0 : Int) (A1 : Option Addr) (c1 : Nat) (l1 : List Int) (r : Bool) (w : World) (hr1 : Kd.C (Kd.int .i64) w A1 l1.length l1) (hc1 : l1.length ≤ c1) (h : contangolaw02_ShareWhole.f k a0 l1 = some r) :
    Calls Try.prog 4 #[.int .i64 a0, .slice A1 l1.length c1] w fun e w' => e = .returned (.bool r) ∧ Below w.heap.size w w' := by
  have HR1 := Aside0.mk hr1
  have HC1 := Aside0.mk hc1
  clear hr1 hc1
  have HB := Aside0.mk (Below.refl w.heap.size w)
  have H : (if (l1.length : Int) > 200 then ((contangolaw02_goes.f k).bind fun t181 => (some t181)) else ((share_Split.f a0 l1).bind fun bt182 => (if bt182.2 = 0 then (if (bt182.1.length : Int) = (l1.length : Int) then ((contangoref02_Sum.f k bt182.1).bind fun t187 => (contangolaw02_ShareWhole.j0 k a0 l1 bt182.1 (t187 != a0))) else (contangolaw02_ShareWhole.j0 k a0 l1 bt182.1 true)) else (if (bt182.1.length : Int) = 0 then ((contangolaw02_goes.f k).bind fun t186 => (some t186)) else (none))))) = some r := h
  clear h
  by_cases c3 : (l1.length : Int) > 200
  · rw [if_pos c3] at H
    have c3b0 : decide (200 < (l1.length : Int)) = true := decide_eq_true c3
    have c3b1 : decide (200 < l1.length) = true := decide_eq_true (by omega)
    clear c3
    replace H := Option.bind_eq_some_iff.mp H
    obtain ⟨t181, A40, H⟩ := H
    replace H : (some t181) = some r := H
    have A4 := Aside0.mk A40
    clear A40
    obtain rfl := Option.some.inj H
    go_enter Try.func4, Try.ntmps4
    go_wp2_with (first | (go_at_call 9; (with_reducible refine (contangolaw02_goes.calls k  t181 _ A4.out).mono ?_); rintro e w5 ⟨rfl, hb⟩; have n0_ := Aside0.mk (below_step (by repeat (first | (with_reducible first | exact HB.out | apply below_alloc | apply pw_below_drewN | apply below_drew1) | exact HB.out)) hb); clear HB; have HB := n0_; clear n0_; (try clear hb); (try clear hb2); (try clear hk); (try clear hi)))
    repeat (go_quiet (first | (go_at_call 9; (with_reducible refine (contangolaw02_goes.calls k  t181 _ A4.out).mono ?_); rintro e w5 ⟨rfl, hb⟩; have n0_ := Aside0.mk (below_step (by repeat (first | (with_reducible first | exact HB.out | apply below_alloc | apply pw_below_drewN | apply below_drew1) | exact HB.out)) hb); clear HB; have HB := n0_; clear n0_; (try clear hb); (try clear hb2); (try clear hk); (try clear hi))); try go_wp2_with (first | (go_at_call 9; (with_reducible refine (contangolaw02_goes.calls k  t181 _ A4.out).mono ?_); rintro e w5 ⟨rfl, hb⟩; have n0_ := Aside0.mk (below_step (by repeat (first | (with_reducible first | exact HB.out | apply below_alloc | apply pw_below_drewN | apply below_drew1) | exact HB.out)) hb); clear HB; have HB := n0_; clear n0_; (try clear hb); (try clear hb2); (try clear hk); (try clear hi))))
    go_ret
    exact ⟨by first | rfl | (simp [errW_none, errW_some] <;> rfl) | (simp [*, errW_none, errW_some] <;> rfl), by repeat (first | (with_reducible first | exact HB.out | apply below_alloc | apply pw_below_drewN | apply below_drew1) | exact HB.out)⟩
  · as_aux_lemma =>
      rw [if_neg c3] at H
      have c3b0 : decide (200 < (l1.length : Int)) = false := decide_eq_false c3
      have c3b1 : decide (200 < l1.length) = false := decide_eq_false (by omega)
      clear c3
      replace H := Option.bind_eq_some_iff.mp H
      obtain ⟨⟨t182, t183⟩, A60, H⟩ := H
      replace H : (if t183 = 0 then (if (t182.length : Int) = (l1.length : Int) then ((contangoref02_Sum.f k t182).bind fun t187 => (contangolaw02_ShareWhole.j0 k a0 l1 t182 (t187 != a0))) else (contangolaw02_ShareWhole.j0 k a0 l1 t182 true)) else (if (t182.length : Int) = 0 then ((contangolaw02_goes.f k).bind fun t186 => (some t186)) else (none))) = some r := H
      have A6 := Aside0.mk A60
      clear A60
      by_cases c7 : t183 = 0
      · as_aux_lemma =>
          rw [if_pos c7] at H
          have c7b0 : (t183 == 0) = true := beq_iff_eq.mpr c7
          have c7b1 : (t183 != 0) = false := bne_eq_false_iff_eq.mpr c7
          clear c7
          have HC8 := Aside0.mk H
          clear H
          go_enter Try.func4, Try.ntmps4
          go_upto_region 6 with (first | (go_at_call 15; (with_reducible refine (share_Split.calls a0 _ _ l1 t182 t183 _ ?side1 ?side2 A6.out).mono ?_); (case side1 => repeat (first | exact HR1.out | (with_reducible refine Kd.C_alloc ?_ _) | (with_reducible refine Kd.C_drewN ?_ _) | (with_reducible refine Kd.C_drew ?_))); (case side2 => exact HC1.out); rintro e w9 ⟨v184, rfl, ho0, hb⟩; have n0_ := Aside0.mk (Kd.R_lower ho0 (below_size (by repeat (first | (with_reducible first | exact HB.out | apply below_alloc | apply pw_below_drewN | apply below_drew1) | exact HB.out)))); have n1_ := Aside0.mk (below_step (by repeat (first | (with_reducible first | exact HB.out | apply below_alloc | apply pw_below_drewN | apply below_drew1) | exact HB.out)) hb); clear HB; have HO185 := n0_; have HB := n1_; clear n0_ n1_; (try clear hb); (try clear hb2); (try clear hk); (try clear hi); (try clear ho0)))
          repeat (go_quiet (first | (go_at_call 15; (with_reducible refine (share_Split.calls a0 _ _ l1 t182 t183 _ ?side1 ?side2 A6.out).mono ?_); (case side1 => repeat (first | exact HR1.out | (with_reducible refine Kd.C_alloc ?_ _) | (with_reducible refine Kd.C_drewN ?_ _) | (with_reducible refine Kd.C_drew ?_))); (case side2 => exact HC1.out); rintro e w9 ⟨v184, rfl, ho0, hb⟩; have n0_ := Aside0.mk (Kd.R_lower ho0 (below_size (by repeat (first | (with_reducible first | exact HB.out | apply below_alloc | apply pw_below_drewN | apply below_drew1) | exact HB.out)))); have n1_ := Aside0.mk (below_step (by repeat (first | (with_reducible first | exact HB.out | apply below_alloc | apply pw_below_drewN | apply below_drew1) | exact HB.out)) hb); clear HB; have HO185 := n0_; have HB := n1_; clear n0_ n1_; (try clear hb); (try clear hb2); (try clear hk); (try clear hi); (try clear ho0))); go_upto_region 6 with (first | (go_at_call 15; (with_reducible refine (share_Split.calls a0 _ _ l1 t182 t183 _ ?side1 ?side2 A6.out).mono ?_); (case side1 => repeat (first | exact HR1.out | (with_reducible refine Kd.C_alloc ?_ _) | (with_reducible refine Kd.C_drewN ?_ _) | (with_reducible refine Kd.C_drew ?_))); (case side2 => exact HC1.out); rintro e w9 ⟨v184, rfl, ho0, hb⟩; have n0_ := Aside0.mk (Kd.R_lower ho0 (below_size (by repeat (first | (with_reducible first | exact HB.out | apply below_alloc | apply pw_below_drewN | apply below_drew1) | exact HB.out)))); have n1_ := Aside0.mk (below_step (by repeat (first | (with_reducible first | exact HB.out | apply below_alloc | apply pw_below_drewN | apply below_drew1) | exact HB.out)) hb); clear HB; have HO185 := n0_; have HB := n1_; clear n0_ n1_; (try clear hb); (try clear hb2); (try clear hk); (try clear hi); (try clear ho0))))
          (try simp only [Act.put, List.setIfInBounds_toArray, List.set_cons_zero, List.set_cons_succ])
          go_cut [40] (fun v40 wc => ∃ (kq : Nat) (x40_7 : Bool), v40 = .bool x40_7 ∧ Aside0 (contangolaw02_ShareWhole.j0 kq a0 l1 t182 x40_7 = some r) ∧ Aside0 (kq ≤ k) ∧ Aside0 (Kd.R (Kd.int .i64) 3 wc w.heap.size (fun _ => True) v184 t182) ∧ Aside0 (Below w.heap.size w wc))
          case first =>
            have H := HC8.out
            clear HC8
            by_cases c10 : (t182.length : Int) = (l1.length : Int)
            · rw [if_pos c10] at H
              have c10b0 : ((t182.length : Int) == (l1.length : Int)) = true := beq_iff_eq.mpr c10
              have c10b1 : ((t182.length : Int) != (l1.length : Int)) = false := bne_eq_false_iff_eq.mpr c10
              have c10b2 : (t182.length == l1.length) = true := by first | simpa using c10 | (simp at c10 ⊢; omega)
              clear c10
              (first | rw [c10b0] | (simp only [i64_w, i32_w]; rw [c10b0]) | skip)
              replace H := Option.bind_eq_some_iff.mp H
              obtain ⟨t187, A110, H⟩ := H
              replace H : (contangolaw02_ShareWhole.j0 k a0 l1 t182 (t187 != a0)) = some r := H
              have A11 := Aside0.mk A110
              clear A110
              have H' := Aside0.mk H
              clear H
              obtain ⟨Ao12, co12, eo12⟩ := Kd.R_slice HO185.out
              subst eo12
              go_wp2_with (first | (go_at_call 16; (with_reducible refine (contangoref02_Sum.calls k _ _ t182 t187 _ ?side1 ?side2 A11.out).mono ?_); (case side1 => repeat (first | exact (Kd.R_reads' HO185.out).2.2 | (with_reducible refine Kd.C_alloc ?_ _) | (with_reducible refine Kd.C_drewN ?_ _) | (with_reducible refine Kd.C_drew ?_))); (case side2 => exact (Kd.R_reads' HO185.out).2.1); rintro e w' ⟨rfl, ⟨nd, rfl⟩⟩; (try first | exact ⟨rfl, _, World.drewN_drewN _ _ _⟩ | exact ⟨rfl, _, Eq.trans (World.drewN_drewN _ _ _) (congrArg (World.drewN _) (Nat.add_assoc _ _ _))⟩)))
              repeat (go_quiet (first | (go_at_call 16; (with_reducible refine (contangoref02_Sum.calls k _ _ t182 t187 _ ?side1 ?side2 A11.out).mono ?_); (case side1 => repeat (first | exact (Kd.R_reads' HO185.out).2.2 | (with_reducible refine Kd.C_alloc ?_ _) | (with_reducible refine Kd.C_drewN ?_ _) | (with_reducible refine Kd.C_drew ?_))); (case side2 => exact (Kd.R_reads' HO185.out).2.1); rintro e w' ⟨rfl, ⟨nd, rfl⟩⟩; (try first | exact ⟨rfl, _, World.drewN_drewN _ _ _⟩ | exact ⟨rfl, _, Eq.trans (World.drewN_drewN _ _ _) (congrArg (World.drewN _) (Nat.add_assoc _ _ _))⟩))); try go_wp2_with (first | (go_at_call 16; (with_reducible refine (contangoref02_Sum.calls k _ _ t182 t187 _ ?side1 ?side2 A11.out).mono ?_); (case side1 => repeat (first | exact (Kd.R_reads' HO185.out).2.2 | (with_reducible refine Kd.C_alloc ?_ _) | (with_reducible refine Kd.C_drewN ?_ _) | (with_reducible refine Kd.C_drew ?_))); (case side2 => exact (Kd.R_reads' HO185.out).2.1); rintro e w' ⟨rfl, ⟨nd, rfl⟩⟩; (try first | exact ⟨rfl, _, World.drewN_drewN _ _ _⟩ | exact ⟨rfl, _, Eq.trans (World.drewN_drewN _ _ _) (congrArg (World.drewN _) (Nat.add_assoc _ _ _))⟩))))
              go_meet
              case rel => exact ⟨_, ((t187 != a0)), (by first | rfl | (simp; done) | (simp [*]; done)), H', ⟨by first | omega | exact Nat.le_refl _⟩, ⟨by (with_reducible repeat (first | apply Kd.R_alloc | apply Kd.R_drewN | apply Kd.R_drew)); exact HO185.out⟩, ⟨by repeat (first | (with_reducible first | exact HB.out | apply below_alloc | apply pw_below_drewN | apply below_drew1) | exact HB.out)⟩⟩
            · rw [if_neg c10] at H
              have c10b0 : ((t182.length : Int) == (l1.length : Int)) = false := beq_eq_false_iff_ne.mpr c10
              have c10b1 : ((t182.length : Int) != (l1.length : Int)) = true := bne_iff_ne.mpr c10
              have c10b2 : (t182.length == l1.length) = false := by first | simpa using c10 | (simp at c10 ⊢; omega)
              (first | rw [c10b0] | (simp only [i64_w, i32_w]; rw [c10b0]) | skip)
              have H' := Aside0.mk H
              clear H
              obtain ⟨Ao13, co13, eo13⟩ := Kd.R_slice HO185.out
              subst eo13
              go_wp2
              repeat (go_quiet (fail); try go_wp2)
              go_meet
              case rel => exact ⟨_, (true), (by first | rfl | (simp; done) | (simp [*]; done)), H', ⟨by first | omega | exact Nat.le_refl _⟩, ⟨by (with_reducible repeat (first | apply Kd.R_alloc | apply Kd.R_drewN | apply Kd.R_drew)); exact HO185.out⟩, ⟨by repeat (first | (with_reducible first | exact HB.out | apply below_alloc | apply pw_below_drewN | apply below_drew1) | exact HB.out)⟩⟩
          case rest =>
            clear HC8
            try clear c1
            try clear p2
            try clear c3
            try clear c3b0
            try clear c3b1
            try clear c4
            try clear c7
            try clear c7b0
            try clear c7b1
            try clear c10
            try clear c10b0
            try clear c10b1
            try clear c10b2
            obtain ⟨kq, x40_7, rfl, HA, HJ7, HO_5, HB⟩ := hcut
            cases kq with
            | zero => exact absurd HA.out (by simp [contangolaw02_ShareWhole.j0])
            | succ kj7 =>
              have H := HA.out
              clear HA
              simp only [contangolaw02_ShareWhole.j0] at H
              by_cases c14 : x40_7 = true
              · subst c14
                have H1 : (none) = some r := by rw [if_pos rfl] at H; exact H
                clear H
                have H := H1
                clear H1
                exact absurd H (by simp)
              · as_aux_lemma =>
                  replace c14 := Bool.eq_false_iff.mpr c14
                  subst c14
                  have H1 : ((contangoref02_Sum.f kj7 l1).bind fun t188 => (contangolaw02_ShareWhole.l0 kj7 a0 l1 t182 t188 0)) = some r := by rw [if_neg (show ¬ (false = true) by decide)] at H; exact H
                  clear H
                  have H := H1
                  clear H1
                  replace H := Option.bind_eq_some_iff.mp H
                  obtain ⟨t188, A150, H⟩ := H
                  replace H : (contangolaw02_ShareWhole.l0 kj7 a0 l1 t182 t188 0) = some r := H
                  have A15 := Aside0.mk A150
                  clear A150
                  have H' := Aside0.mk H
                  clear H
                  go_wp2_with (first | (go_at_call 16; (with_reducible refine (contangoref02_Sum.calls kj7 _ _ l1 t188 _ ?side1 ?side2 A15.out).mono ?_); (case side1 => repeat (first | exact (Kd.C_below HR1.out HB.out) | (with_reducible refine Kd.C_alloc ?_ _) | (with_reducible refine Kd.C_drewN ?_ _) | (with_reducible refine Kd.C_drew ?_))); (case side2 => exact HC1.out); rintro e w' ⟨rfl, ⟨nd, rfl⟩⟩; (try first | exact ⟨rfl, _, World.drewN_drewN _ _ _⟩ | exact ⟨rfl, _, Eq.trans (World.drewN_drewN _ _ _) (congrArg (World.drewN _) (Nat.add_assoc _ _ _))⟩)))
                  repeat (go_quiet (first | (go_at_call 16; (with_reducible refine (contangoref02_Sum.calls kj7 _ _ l1 t188 _ ?side1 ?side2 A15.out).mono ?_); (case side1 => repeat (first | exact (Kd.C_below HR1.out HB.out) | (with_reducible refine Kd.C_alloc ?_ _) | (with_reducible refine Kd.C_drewN ?_ _) | (with_reducible refine Kd.C_drew ?_))); (case side2 => exact HC1.out); rintro e w' ⟨rfl, ⟨nd, rfl⟩⟩; (try first | exact ⟨rfl, _, World.drewN_drewN _ _ _⟩ | exact ⟨rfl, _, Eq.trans (World.drewN_drewN _ _ _) (congrArg (World.drewN _) (Nat.add_assoc _ _ _))⟩))); try go_wp2_with (first | (go_at_call 16; (with_reducible refine (contangoref02_Sum.calls kj7 _ _ l1 t188 _ ?side1 ?side2 A15.out).mono ?_); (case side1 => repeat (first | exact (Kd.C_below HR1.out HB.out) | (with_reducible refine Kd.C_alloc ?_ _) | (with_reducible refine Kd.C_drewN ?_ _) | (with_reducible refine Kd.C_drew ?_))); (case side2 => exact HC1.out); rintro e w' ⟨rfl, ⟨nd, rfl⟩⟩; (try first | exact ⟨rfl, _, World.drewN_drewN _ _ _⟩ | exact ⟨rfl, _, Eq.trans (World.drewN_drewN _ _ _) (congrArg (World.drewN _) (Nat.add_assoc _ _ _))⟩))))
                  go_loopg [8] kj7 (fun kq v8 w' => ∃ (x8_2 : Int), v8 = .int .i64 x8_2 ∧ Aside0 (contangolaw02_ShareWhole.l0 kq a0 l1 t182 t188 x8_2 = some r) ∧ Aside0 (kq ≤ kj7) ∧ Aside0 (Kd.R (Kd.int .i64) 3 w' w.heap.size (fun _ => True) v184 t182) ∧ Aside0 (Below w.heap.size w w'))
                  case atStart => exact ⟨(0), (by first | rfl | (simp; done) | (simp [*]; done)), H', ⟨Nat.le_refl _⟩, ⟨by (with_reducible repeat (first | apply Kd.R_alloc | apply Kd.R_drewN | apply Kd.R_drew)); exact HO_5.out⟩, ⟨by repeat (first | (with_reducible first | exact HB.out | apply below_alloc | apply pw_below_drewN | apply below_drew1) | exact HB.out)⟩⟩
                  case round =>
                    clear H'
                    try clear c1
                    try clear p2
                    try clear c3
                    try clear c3b0
                    try clear c3b1
                    try clear c4
                    try clear c7
                    try clear c7b0
                    try clear c7b1
                    try clear c10
                    try clear c10b0
                    try clear c10b1
                    try clear c10b2
                    try clear c14
                    try clear p2
                    obtain ⟨x8_2, rfl, HA, HK2, HO_5, HB⟩ := hrel
                    cases gk with
                    | zero => exact absurd HA.out (by simp [contangolaw02_ShareWhole.l0])
                    | succ k2 =>
                      have H := HA.out
                      clear HA
                      simp only [contangolaw02_ShareWhole.l0] at H
                      by_cases c16 : x8_2 < (t182.length : Int)
                      · as_aux_lemma =>
                          rw [if_pos c16] at H
                          have c16b0 : decide (x8_2 < (t182.length : Int)) = true := decide_eq_true c16
                          clear c16
                          by_cases c17 : 0 ≤ x8_2
                          · as_aux_lemma =>
                              rw [if_pos c17] at H
                              have c17b0 : decide (0 ≤ x8_2) = true := decide_eq_true c17
                              clear c17
                              by_cases c18 : x8_2 < (l1.length : Int)
                              · as_aux_lemma =>
                                  rw [if_pos c18] at H
                                  have c18b0 : decide (x8_2 < (l1.length : Int)) = true := decide_eq_true c18
                                  clear c18
                                  replace H := Option.bind_eq_some_iff.mp H
                                  obtain ⟨⟨t191, t192⟩, A190, H⟩ := H
                                  replace H : (if (rd t182 x8_2) = t191 then (contangolaw02_ShareWhole.j2 k2 a0 l1 t182 t188 x8_2 false) else (if (rd t182 x8_2) = (wrap64 (t191 + 1)) then (contangolaw02_ShareWhole.j2 k2 a0 l1 t182 t188 x8_2 (t192 == 0)) else (contangolaw02_ShareWhole.j2 k2 a0 l1 t182 t188 x8_2 true))) = some r := H
                                  have A19 := Aside0.mk A190
                                  clear A190
                                  have HC20 := Aside0.mk H
                                  clear H
                                  obtain ⟨Ao21, co21, eo21⟩ := Kd.R_slice HO_5.out
                                  subst eo21
                                  have p190 : 0 ≤ (x8_2 : Int) := of_decide_eq_true (by first | (with_reducible assumption) | assumption)
                                  have q190 : x8_2 < (l1.length : Int) := of_decide_eq_true (by first | (with_reducible assumption) | assumption)
                                  obtain ⟨ad190, e190, hx190_0⟩ := Kd.at_int HR1.out x8_2 p190 q190
                                  cases e190
                                  replace hx190_0 := (HB.out.cell (World.block_lt_of_cell? w _ hx190_0)).trans hx190_0
                                  replace p190 := eq_true p190
                                  replace q190 := eq_true q190
                                  go_upto_region 13 with (first | (go_at_call 17; (with_reducible refine (contangoref02_Div.calls k2 a0 (rd l1 x8_2) t188 t191 t192 _ A19.out).mono ?_); rintro e w' ⟨rfl, ⟨nd, rfl⟩⟩; (try first | exact ⟨rfl, _, World.drewN_drewN _ _ _⟩ | exact ⟨rfl, _, Eq.trans (World.drewN_drewN _ _ _) (congrArg (World.drewN _) (Nat.add_assoc _ _ _))⟩)))
                                  repeat (go_quiet (first | (go_at_call 17; (with_reducible refine (contangoref02_Div.calls k2 a0 (rd l1 x8_2) t188 t191 t192 _ A19.out).mono ?_); rintro e w' ⟨rfl, ⟨nd, rfl⟩⟩; (try first | exact ⟨rfl, _, World.drewN_drewN _ _ _⟩ | exact ⟨rfl, _, Eq.trans (World.drewN_drewN _ _ _) (congrArg (World.drewN _) (Nat.add_assoc _ _ _))⟩))); go_upto_region 13 with (first | (go_at_call 17; (with_reducible refine (contangoref02_Div.calls k2 a0 (rd l1 x8_2) t188 t191 t192 _ A19.out).mono ?_); rintro e w' ⟨rfl, ⟨nd, rfl⟩⟩; (try first | exact ⟨rfl, _, World.drewN_drewN _ _ _⟩ | exact ⟨rfl, _, Eq.trans (World.drewN_drewN _ _ _) (congrArg (World.drewN _) (Nat.add_assoc _ _ _))⟩))))
                                  (try simp only [Act.put, List.setIfInBounds_toArray, List.set_cons_zero, List.set_cons_succ])
                                  go_cut [77] (fun v77 wc => ∃ (kq : Nat) (x77_19 : Bool), v77 = .bool x77_19 ∧ Aside0 (contangolaw02_ShareWhole.j2 kq a0 l1 t182 t188 x8_2 x77_19 = some r) ∧ Aside0 (kq ≤ k2) ∧ Aside0 (Kd.R (Kd.int .i64) 3 wc w.heap.size (fun _ => True) (.slice Ao21 t182.length co21) t182) ∧ Aside0 (Below w.heap.size w wc))
                                  case first =>
                                    have H := HC20.out
                                    clear HC20
                                    by_cases c22 : (rd t182 x8_2) = t191
                                    · rw [if_pos c22] at H
                                      have c22b0 : ((rd t182 x8_2) == t191) = true := beq_iff_eq.mpr c22
                                      have c22b1 : ((rd t182 x8_2) != t191) = false := bne_eq_false_iff_eq.mpr c22
                                      clear c22
                                      (first | rw [c22b0] | (simp only [i64_w, i32_w]; rw [c22b0]) | skip)
                                      have H' := Aside0.mk H
                                      clear H
                                      have p193 : 0 ≤ (x8_2 : Int) := of_decide_eq_true (by first | (with_reducible assumption) | assumption)
                                      have q193 : x8_2 < (t182.length : Int) := of_decide_eq_true (by first | (with_reducible assumption) | assumption)
                                      obtain ⟨ad193, e193, hx193_0⟩ := Kd.at_int (Kd.R_reads' HO_5.out).2.2 x8_2 p193 q193
                                      cases e193
                                      replace p193 := eq_true p193
                                      replace q193 := eq_true q193
                                      go_wp2
                                      repeat (go_quiet (fail); try go_wp2)
                                      go_meet
                                      case rel => exact ⟨_, (false), (by first | rfl | (simp; done) | (simp [*]; done)), H', ⟨by have := HJ7.out; have := HK2.out; first | omega | exact Nat.le_refl _⟩, ⟨by (with_reducible repeat (first | apply Kd.R_alloc | apply Kd.R_drewN | apply Kd.R_drew)); exact HO_5.out⟩, ⟨by repeat (first | (with_reducible first | exact HB.out | apply below_alloc | apply pw_below_drewN | apply below_drew1) | exact HB.out)⟩⟩
                                    · rw [if_neg c22] at H
                                      have c22b0 : ((rd t182 x8_2) == t191) = false := beq_eq_false_iff_ne.mpr c22
                                      have c22b1 : ((rd t182 x8_2) != t191) = true := bne_iff_ne.mpr c22
                                      (first | rw [c22b0] | (simp only [i64_w, i32_w]; rw [c22b0]) | skip)
                                      by_cases c23 : (rd t182 x8_2) = (wrap64 (t191 + 1))
                                      · rw [if_pos c23] at H
                                        have c23b0 : ((rd t182 x8_2) == (wrap64 (t191 + 1))) = true := beq_iff_eq.mpr c23
                                        have c23b1 : ((rd t182 x8_2) != (wrap64 (t191 + 1))) = false := bne_eq_false_iff_eq.mpr c23
                                        clear c23
                                        have H' := Aside0.mk H
                                        clear H
                                        have p193 : 0 ≤ (x8_2 : Int) := of_decide_eq_true (by first | (with_reducible assumption) | assumption)
                                        have q193 : x8_2 < (t182.length : Int) := of_decide_eq_true (by first | (with_reducible assumption) | assumption)
                                        obtain ⟨ad193, e193, hx193_0⟩ := Kd.at_int (Kd.R_reads' HO_5.out).2.2 x8_2 p193 q193
                                        cases e193
                                        replace p193 := eq_true p193
                                        replace q193 := eq_true q193
                                        have p194 : 0 ≤ (x8_2 : Int) := of_decide_eq_true (by first | (with_reducible assumption) | assumption)
                                        have q194 : x8_2 < (t182.length : Int) := of_decide_eq_true (by first | (with_reducible assumption) | assumption)
                                        obtain ⟨ad194, e194, hx194_0⟩ := Kd.at_int (Kd.R_reads' HO_5.out).2.2 x8_2 p194 q194
                                        obtain rfl : ad193 = ad194 := (by injection e194)
                                        replace p194 := eq_true p194
                                        replace q194 := eq_true q194
                                        go_wp2
                                        repeat (go_quiet (fail); try go_wp2)
                                        go_meet
                                        case rel => exact ⟨_, ((t192 == 0)), (by first | rfl | (simp; done) | (simp [*]; done)), H', ⟨by have := HJ7.out; have := HK2.out; first | omega | exact Nat.le_refl _⟩, ⟨by (with_reducible repeat (first | apply Kd.R_alloc | apply Kd.R_drewN | apply Kd.R_drew)); exact HO_5.out⟩, ⟨by repeat (first | (with_reducible first | exact HB.out | apply below_alloc | apply pw_below_drewN | apply below_drew1) | exact HB.out)⟩⟩
                                      · rw [if_neg c23] at H
                                        have c23b0 : ((rd t182 x8_2) == (wrap64 (t191 + 1))) = false := beq_eq_false_iff_ne.mpr c23
                                        have c23b1 : ((rd t182 x8_2) != (wrap64 (t191 + 1))) = true := bne_iff_ne.mpr c23
                                        have H' := Aside0.mk H
                                        clear H
                                        have p193 : 0 ≤ (x8_2 : Int) := of_decide_eq_true (by first | (with_reducible assumption) | assumption)
                                        have q193 : x8_2 < (t182.length : Int) := of_decide_eq_true (by first | (with_reducible assumption) | assumption)
                                        obtain ⟨ad193, e193, hx193_0⟩ := Kd.at_int (Kd.R_reads' HO_5.out).2.2 x8_2 p193 q193
                                        cases e193
                                        replace p193 := eq_true p193
                                        replace q193 := eq_true q193
                                        have p194 : 0 ≤ (x8_2 : Int) := of_decide_eq_true (by first | (with_reducible assumption) | assumption)
                                        have q194 : x8_2 < (t182.length : Int) := of_decide_eq_true (by first | (with_reducible assumption) | assumption)
                                        obtain ⟨ad194, e194, hx194_0⟩ := Kd.at_int (Kd.R_reads' HO_5.out).2.2 x8_2 p194 q194
                                        obtain rfl : ad193 = ad194 := (by injection e194)
                                        replace p194 := eq_true p194
                                        replace q194 := eq_true q194
                                        go_wp2
                                        repeat (go_quiet (fail); try go_wp2)
                                        go_meet
                                        case rel => exact ⟨_, (true), (by first | rfl | (simp; done) | (simp [*]; done)), H', ⟨by have := HJ7.out; have := HK2.out; first | omega | exact Nat.le_refl _⟩, ⟨by (with_reducible repeat (first | apply Kd.R_alloc | apply Kd.R_drewN | apply Kd.R_drew)); exact HO_5.out⟩, ⟨by repeat (first | (with_reducible first | exact HB.out | apply below_alloc | apply pw_below_drewN | apply below_drew1) | exact HB.out)⟩⟩
                                  case rest =>
                                    clear HC20
                                    try clear c1
                                    try clear p1
                                    try clear q1
                                    try clear hx1
                                    try clear c2
                                    try clear p2
                                    try clear c3
                                    try clear c3b0
                                    try clear c3b1
                                    try clear c4
                                    try clear p6
                                    try clear c7
                                    try clear c7b0
                                    try clear c7b1
                                    try clear c10
                                    try clear c10b0
                                    try clear c10b1
                                    try clear c10b2
                                    try clear c14
                                    try clear c16
                                    try clear c16b0
                                    try clear c17
                                    try clear c17b0
                                    try clear c18
                                    try clear c18b0
                                    try clear p19
                                    try clear q19
                                    try clear hx19
                                    try clear c22
                                    try clear c22b0
                                    try clear c22b1
                                    try clear c23
                                    try clear c23b0
                                    try clear c23b1
                                    try clear hx190_0
                                    try clear hx193_0
                                    try clear hx194_0
                                    try clear p190
                                    try clear p193
                                    try clear p194
                                    try clear p2
                                    try clear q190
                                    try clear q193
                                    try clear q194
                                    obtain ⟨kq, x77_19, rfl, HA, HJ19, HO_5, HB⟩ := hcut
                                    cases kq with
                                    | zero => exact absurd HA.out (by simp [contangolaw02_ShareWhole.j2])
                                    | succ kj19 =>
                                      have H := HA.out
                                      clear HA
                                      simp only [contangolaw02_ShareWhole.j2] at H
                                      by_cases c24 : x77_19 = true
                                      · subst c24
                                        have H1 : (none) = some r := by rw [if_pos rfl] at H; exact H
                                        clear H
                                        have H := H1
                                        clear H1
                                        exact absurd H (by simp)
                                      · as_aux_lemma =>
                                          replace c24 := Bool.eq_false_iff.mpr c24
                                          subst c24
                                          have H1 : (contangolaw02_ShareWhole.l1 kj19 a0 l1 t182 t188 x8_2 0) = some r := by rw [if_neg (show ¬ (false = true) by decide)] at H; exact H
                                          clear H
                                          have H := H1
                                          clear H1
                                          have H' := Aside0.mk H
                                          clear H
                                          go_wp2
                                          repeat (go_quiet (fail); try go_wp2)
                                          go_loopg [11] kj19 (fun kq v11 w' => ∃ (x11_4 : Int), v11 = .int .i64 x11_4 ∧ Aside0 (contangolaw02_ShareWhole.l1 kq a0 l1 t182 t188 x8_2 x11_4 = some r) ∧ Aside0 (kq ≤ kj19) ∧ Aside0 (Kd.R (Kd.int .i64) 3 w' w.heap.size (fun _ => True) (.slice Ao21 t182.length co21) t182) ∧ Aside0 (Below w.heap.size w w'))
                                          case atStart => exact ⟨(0), (by first | rfl | (simp; done) | (simp [*]; done)), H', ⟨Nat.le_refl _⟩, ⟨by (with_reducible repeat (first | apply Kd.R_alloc | apply Kd.R_drewN | apply Kd.R_drew)); exact HO_5.out⟩, ⟨by repeat (first | (with_reducible first | exact HB.out | apply below_alloc | apply pw_below_drewN | apply below_drew1) | exact HB.out)⟩⟩
                                          case round =>
                                            clear H'
                                            try clear c1
                                            try clear p1
                                            try clear q1
                                            try clear hx1
                                            try clear c2
                                            try clear p2
                                            try clear c3
                                            try clear c3b0
                                            try clear c3b1
                                            try clear c4
                                            try clear p6
                                            try clear c7
                                            try clear c7b0
                                            try clear c7b1
                                            try clear c10
                                            try clear c10b0
                                            try clear c10b1
                                            try clear c10b2
                                            try clear c14
                                            try clear c16
                                            try clear c16b0
                                            try clear c17
                                            try clear c17b0
                                            try clear c18
                                            try clear c18b0
                                            try clear p19
                                            try clear q19
                                            try clear hx19
                                            try clear c22
                                            try clear c22b0
                                            try clear c22b1
                                            try clear c23
                                            try clear c23b0
                                            try clear c23b1
                                            try clear c24
                                            try clear hx190_0
                                            try clear hx193_0
                                            try clear hx194_0
                                            try clear p1
                                            try clear p19
                                            try clear p190
                                            try clear p193
                                            try clear p194
                                            try clear p2
                                            try clear p6
                                            try clear q1
                                            try clear q19
                                            try clear q190
                                            try clear q193
                                            try clear q194
                                            obtain ⟨x11_4, rfl, HA, HK4, HO_5, HB⟩ := hrel
                                            cases gk with
                                            | zero => exact absurd HA.out (by simp [contangolaw02_ShareWhole.l1])
                                            | succ k4 =>
                                              have H := HA.out
                                              clear HA
                                              simp only [contangolaw02_ShareWhole.l1] at H
                                              by_cases c25 : x11_4 < x8_2
                                              · as_aux_lemma =>
                                                  rw [if_pos c25] at H
                                                  have c25b0 : decide (x11_4 < x8_2) = true := decide_eq_true c25
                                                  clear c25
                                                  by_cases c26 : 0 ≤ x11_4
                                                  · as_aux_lemma =>
                                                      rw [if_pos c26] at H
                                                      have c26b0 : decide (0 ≤ x11_4) = true := decide_eq_true c26
                                                      clear c26
                                                      by_cases c27 : x11_4 < (l1.length : Int)
                                                      · as_aux_lemma =>
                                                          rw [if_pos c27] at H
                                                          have c27b0 : decide (x11_4 < (l1.length : Int)) = true := decide_eq_true c27
                                                          clear c27
                                                          by_cases c28 : 0 ≤ x8_2
                                                          · as_aux_lemma =>
                                                              rw [if_pos c28] at H
                                                              have c28b0 : decide (0 ≤ x8_2) = true := decide_eq_true c28
                                                              clear c28
                                                              by_cases c29 : x8_2 < (l1.length : Int)
                                                              · as_aux_lemma =>
                                                                  rw [if_pos c29] at H
                                                                  have c29b0 : decide (x8_2 < (l1.length : Int)) = true := decide_eq_true c29
                                                                  clear c29
                                                                  by_cases c30 : (rd l1 x11_4) < (rd l1 x8_2)
                                                                  · as_aux_lemma =>
                                                                      rw [if_pos c30] at H
                                                                      have c30b0 : decide ((rd l1 x11_4) < (rd l1 x8_2)) = true := decide_eq_true c30
                                                                      clear c30
                                                                      by_cases c31 : x11_4 < (t182.length : Int)
                                                                      · as_aux_lemma =>
                                                                          rw [if_pos c31] at H
                                                                          have c31b0 : decide (x11_4 < (t182.length : Int)) = true := decide_eq_true c31
                                                                          clear c31
                                                                          by_cases c32 : x8_2 < (t182.length : Int)
                                                                          · as_aux_lemma =>
                                                                              rw [if_pos c32] at H
                                                                              have c32b0 : decide (x8_2 < (t182.length : Int)) = true := decide_eq_true c32
                                                                              clear c32
                                                                              by_cases c33 : (rd t182 x11_4) > (rd t182 x8_2)
                                                                              · rw [if_pos c33] at H
                                                                                exact absurd H (by simp)
                                                                              · as_aux_lemma =>
                                                                                  rw [if_neg c33] at H
                                                                                  have c33b0 : decide ((rd t182 x8_2) < (rd t182 x11_4)) = false := decide_eq_false c33
                                                                                  clear c33
                                                                                  by_cases c34 : (rd l1 x11_4) > (rd l1 x8_2)
                                                                                  · as_aux_lemma =>
                                                                                      rw [if_pos c34] at H
                                                                                      have c34b0 : decide ((rd l1 x8_2) < (rd l1 x11_4)) = true := decide_eq_true c34
                                                                                      clear c34
                                                                                      by_cases c35 : (rd t182 x11_4) < (rd t182 x8_2)
                                                                                      · rw [if_pos c35] at H
                                                                                        exact absurd H (by simp)
                                                                                      · as_aux_lemma =>
                                                                                          rw [if_neg c35] at H
                                                                                          have c35b0 : decide ((rd t182 x11_4) < (rd t182 x8_2)) = false := decide_eq_false c35
                                                                                          clear c35
                                                                                          by_cases c36 : (rd l1 x11_4) = (rd l1 x8_2)
                                                                                          · as_aux_lemma =>
                                                                                              rw [if_pos c36] at H
                                                                                              have c36b0 : ((rd l1 x11_4) == (rd l1 x8_2)) = true := beq_iff_eq.mpr c36
                                                                                              have c36b1 : ((rd l1 x11_4) != (rd l1 x8_2)) = false := bne_eq_false_iff_eq.mpr c36
                                                                                              clear c36
                                                                                              by_cases c37 : (rd t182 x11_4) > (wrap64 ((rd t182 x8_2) + 1))
                                                                                              · rw [if_pos c37] at H
                                                                                                exact absurd H (by simp)
                                                                                              · as_aux_lemma =>
                                                                                                  rw [if_neg c37] at H
                                                                                                  have c37b0 : decide ((wrap64 ((rd t182 x8_2) + 1)) < (rd t182 x11_4)) = false := decide_eq_false c37
                                                                                                  clear c37
                                                                                                  have H' := Aside0.mk H
                                                                                                  clear H
                                                                                                  have p195 : 0 ≤ (x11_4 : Int) := of_decide_eq_true (by first | (with_reducible assumption) | assumption)
                                                                                                  have q195 : x11_4 < (l1.length : Int) := of_decide_eq_true (by first | (with_reducible assumption) | assumption)
                                                                                                  obtain ⟨ad195, e195, hx195_0⟩ := Kd.at_int HR1.out x11_4 p195 q195
                                                                                                  obtain rfl : ad190 = ad195 := (by injection e195)
                                                                                                  replace hx195_0 := (HB.out.cell (World.block_lt_of_cell? w _ hx195_0)).trans hx195_0
                                                                                                  replace p195 := eq_true p195
                                                                                                  replace q195 := eq_true q195
                                                                                                  have p196 : 0 ≤ (x8_2 : Int) := of_decide_eq_true (by first | (with_reducible assumption) | assumption)
                                                                                                  have q196 : x8_2 < (l1.length : Int) := of_decide_eq_true (by first | (with_reducible assumption) | assumption)
                                                                                                  obtain ⟨ad196, e196, hx196_0⟩ := Kd.at_int HR1.out x8_2 p196 q196
                                                                                                  obtain rfl : ad190 = ad196 := (by injection e196)
                                                                                                  replace hx196_0 := (HB.out.cell (World.block_lt_of_cell? w _ hx196_0)).trans hx196_0
                                                                                                  replace p196 := eq_true p196
                                                                                                  replace q196 := eq_true q196
                                                                                                  have p197 : 0 ≤ (x11_4 : Int) := of_decide_eq_true (by first | (with_reducible assumption) | assumption)
                                                                                                  have q197 : x11_4 < (t182.length : Int) := of_decide_eq_true (by first | (with_reducible assumption) | assumption)
                                                                                                  obtain ⟨ad197, e197, hx197_0⟩ := Kd.at_int (Kd.R_reads' HO_5.out).2.2 x11_4 p197 q197
                                                                                                  cases e197
                                                                                                  replace p197 := eq_true p197
                                                                                                  replace q197 := eq_true q197
                                                                                                  have p198 : 0 ≤ (x8_2 : Int) := of_decide_eq_true (by first | (with_reducible assumption) | assumption)
                                                                                                  have q198 : x8_2 < (t182.length : Int) := of_decide_eq_true (by first | (with_reducible assumption) | assumption)
                                                                                                  obtain ⟨ad198, e198, hx198_0⟩ := Kd.at_int (Kd.R_reads' HO_5.out).2.2 x8_2 p198 q198
                                                                                                  obtain rfl : ad197 = ad198 := (by injection e198)
                                                                                                  replace p198 := eq_true p198
                                                                                                  replace q198 := eq_true q198
                                                                                                  have p199 : 0 ≤ (x11_4 : Int) := of_decide_eq_true (by first | (with_reducible assumption) | assumption)
                                                                                                  have q199 : x11_4 < (l1.length : Int) := of_decide_eq_true (by first | (with_reducible assumption) | assumption)
                                                                                                  obtain ⟨ad199, e199, hx199_0⟩ := Kd.at_int HR1.out x11_4 p199 q199
                                                                                                  obtain rfl : ad190 = ad199 := (by injection e199)
                                                                                                  replace hx199_0 := (HB.out.cell (World.block_lt_of_cell? w _ hx199_0)).trans hx199_0
                                                                                                  replace p199 := eq_true p199
                                                                                                  replace q199 := eq_true q199
                                                                                                  have p200 : 0 ≤ (x8_2 : Int) := of_decide_eq_true (by first | (with_reducible assumption) | assumption)
                                                                                                  have q200 : x8_2 < (l1.length : Int) := of_decide_eq_true (by first | (with_reducible assumption) | assumption)
                                                                                                  obtain ⟨ad200, e200, hx200_0⟩ := Kd.at_int HR1.out x8_2 p200 q200
                                                                                                  obtain rfl : ad190 = ad200 := (by injection e200)
                                                                                                  replace hx200_0 := (HB.out.cell (World.block_lt_of_cell? w _ hx200_0)).trans hx200_0
                                                                                                  replace p200 := eq_true p200
                                                                                                  replace q200 := eq_true q200
                                                                                                  have p201 : 0 ≤ (x11_4 : Int) := of_decide_eq_true (by first | (with_reducible assumption) | assumption)
                                                                                                  have q201 : x11_4 < (t182.length : Int) := of_decide_eq_true (by first | (with_reducible assumption) | assumption)
                                                                                                  obtain ⟨ad201, e201, hx201_0⟩ := Kd.at_int (Kd.R_reads' HO_5.out).2.2 x11_4 p201 q201
                                                                                                  obtain rfl : ad197 = ad201 := (by injection e201)
                                                                                                  replace p201 := eq_true p201
                                                                                                  replace q201 := eq_true q201
                                                                                                  have p202 : 0 ≤ (x8_2 : Int) := of_decide_eq_true (by first | (with_reducible assumption) | assumption)
                                                                                                  have q202 : x8_2 < (t182.length : Int) := of_decide_eq_true (by first | (with_reducible assumption) | assumption)
                                                                                                  obtain ⟨ad202, e202, hx202_0⟩ := Kd.at_int (Kd.R_reads' HO_5.out).2.2 x8_2 p202 q202
                                                                                                  obtain rfl : ad197 = ad202 := (by injection e202)
                                                                                                  replace p202 := eq_true p202
                                                                                                  replace q202 := eq_true q202
                                                                                                  have p203 : 0 ≤ (x11_4 : Int) := of_decide_eq_true (by first | (with_reducible assumption) | assumption)
                                                                                                  have q203 : x11_4 < (l1.length : Int) := of_decide_eq_true (by first | (with_reducible assumption) | assumption)
                                                                                                  obtain ⟨ad203, e203, hx203_0⟩ := Kd.at_int HR1.out x11_4 p203 q203
                                                                                                  obtain rfl : ad190 = ad203 := (by injection e203)
                                                                                                  replace hx203_0 := (HB.out.cell (World.block_lt_of_cell? w _ hx203_0)).trans hx203_0
                                                                                                  replace p203 := eq_true p203
                                                                                                  replace q203 := eq_true q203
                                                                                                  have p204 : 0 ≤ (x8_2 : Int) := of_decide_eq_true (by first | (with_reducible assumption) | assumption)
                                                                                                  have q204 : x8_2 < (l1.length : Int) := of_decide_eq_true (by first | (with_reducible assumption) | assumption)
                                                                                                  obtain ⟨ad204, e204, hx204_0⟩ := Kd.at_int HR1.out x8_2 p204 q204
                                                                                                  obtain rfl : ad190 = ad204 := (by injection e204)
                                                                                                  replace hx204_0 := (HB.out.cell (World.block_lt_of_cell? w _ hx204_0)).trans hx204_0
                                                                                                  replace p204 := eq_true p204
                                                                                                  replace q204 := eq_true q204
                                                                                                  have p205 : 0 ≤ (x11_4 : Int) := of_decide_eq_true (by first | (with_reducible assumption) | assumption)
                                                                                                  have q205 : x11_4 < (t182.length : Int) := of_decide_eq_true (by first | (with_reducible assumption) | assumption)
                                                                                                  obtain ⟨ad205, e205, hx205_0⟩ := Kd.at_int (Kd.R_reads' HO_5.out).2.2 x11_4 p205 q205
                                                                                                  obtain rfl : ad197 = ad205 := (by injection e205)
                                                                                                  replace p205 := eq_true p205
                                                                                                  replace q205 := eq_true q205
                                                                                                  have p206 : 0 ≤ (x8_2 : Int) := of_decide_eq_true (by first | (with_reducible assumption) | assumption)
                                                                                                  have q206 : x8_2 < (t182.length : Int) := of_decide_eq_true (by first | (with_reducible assumption) | assumption)
                                                                                                  obtain ⟨ad206, e206, hx206_0⟩ := Kd.at_int (Kd.R_reads' HO_5.out).2.2 x8_2 p206 q206
                                                                                                  obtain rfl : ad197 = ad206 := (by injection e206)
                                                                                                  replace p206 := eq_true p206
                                                                                                  replace q206 := eq_true q206
                                                                                                  have p207 : 0 ≤ (x11_4 : Int) := of_decide_eq_true (by first | (with_reducible assumption) | assumption)
                                                                                                  have q207 : x11_4 < (t182.length : Int) := of_decide_eq_true (by first | (with_reducible assumption) | assumption)
                                                                                                  obtain ⟨ad207, e207, hx207_0⟩ := Kd.at_int (Kd.R_reads' HO_5.out).2.2 x11_4 p207 q207
                                                                                                  obtain rfl : ad197 = ad207 := (by injection e207)
                                                                                                  replace p207 := eq_true p207
                                                                                                  replace q207 := eq_true q207
                                                                                                  have p208 : 0 ≤ (x8_2 : Int) := of_decide_eq_true (by first | (with_reducible assumption) | assumption)
                                                                                                  have q208 : x8_2 < (t182.length : Int) := of_decide_eq_true (by first | (with_reducible assumption) | assumption)
                                                                                                  obtain ⟨ad208, e208, hx208_0⟩ := Kd.at_int (Kd.R_reads' HO_5.out).2.2 x8_2 p208 q208
                                                                                                  obtain rfl : ad197 = ad208 := (by injection e208)
                                                                                                  replace p208 := eq_true p208
                                                                                                  replace q208 := eq_true q208
                                                                                                  go_wp2
                                                                                                  repeat (go_quiet (fail); try go_wp2)
                                                                                                  go_roundg k4
                                                                                                  case measure => have := HJ7.out; have := HK2.out; have := HJ19.out; have := HK4.out; omega
                                                                                                  case rel => exact ⟨(wrap64 (x11_4 + 1)), (by first | rfl | (simp; done) | (simp [*]; done)), H', ⟨by have := HJ7.out; have := HK2.out; have := HJ19.out; have := HK4.out; omega⟩, ⟨by (with_reducible repeat (first | apply Kd.R_alloc | apply Kd.R_drewN | apply Kd.R_drew)); exact HO_5.out⟩, ⟨by repeat (first | (with_reducible first | exact HB.out | apply below_alloc | apply pw_below_drewN | apply below_drew1) | exact HB.out)⟩⟩
                                                                                          · as_aux_lemma =>
                                                                                              rw [if_neg c36] at H
                                                                                              have c36b0 : ((rd l1 x11_4) == (rd l1 x8_2)) = false := beq_eq_false_iff_ne.mpr c36
                                                                                              have c36b1 : ((rd l1 x11_4) != (rd l1 x8_2)) = true := bne_iff_ne.mpr c36
                                                                                              have H' := Aside0.mk H
                                                                                              clear H
                                                                                              have p195 : 0 ≤ (x11_4 : Int) := of_decide_eq_true (by first | (with_reducible assumption) | assumption)
                                                                                              have q195 : x11_4 < (l1.length : Int) := of_decide_eq_true (by first | (with_reducible assumption) | assumption)
                                                                                              obtain ⟨ad195, e195, hx195_0⟩ := Kd.at_int HR1.out x11_4 p195 q195
                                                                                              obtain rfl : ad190 = ad195 := (by injection e195)
                                                                                              replace hx195_0 := (HB.out.cell (World.block_lt_of_cell? w _ hx195_0)).trans hx195_0
                                                                                              replace p195 := eq_true p195
                                                                                              replace q195 := eq_true q195
                                                                                              have p196 : 0 ≤ (x8_2 : Int) := of_decide_eq_true (by first | (with_reducible assumption) | assumption)
                                                                                              have q196 : x8_2 < (l1.length : Int) := of_decide_eq_true (by first | (with_reducible assumption) | assumption)
                                                                                              obtain ⟨ad196, e196, hx196_0⟩ := Kd.at_int HR1.out x8_2 p196 q196
                                                                                              obtain rfl : ad190 = ad196 := (by injection e196)
                                                                                              replace hx196_0 := (HB.out.cell (World.block_lt_of_cell? w _ hx196_0)).trans hx196_0
                                                                                              replace p196 := eq_true p196
                                                                                              replace q196 := eq_true q196
                                                                                              have p197 : 0 ≤ (x11_4 : Int) := of_decide_eq_true (by first | (with_reducible assumption) | assumption)
                                                                                              have q197 : x11_4 < (t182.length : Int) := of_decide_eq_true (by first | (with_reducible assumption) | assumption)
                                                                                              obtain ⟨ad197, e197, hx197_0⟩ := Kd.at_int (Kd.R_reads' HO_5.out).2.2 x11_4 p197 q197
                                                                                              cases e197
                                                                                              replace p197 := eq_true p197
                                                                                              replace q197 := eq_true q197
                                                                                              have p198 : 0 ≤ (x8_2 : Int) := of_decide_eq_true (by first | (with_reducible assumption) | assumption)
                                                                                              have q198 : x8_2 < (t182.length : Int) := of_decide_eq_true (by first | (with_reducible assumption) | assumption)
                                                                                              obtain ⟨ad198, e198, hx198_0⟩ := Kd.at_int (Kd.R_reads' HO_5.out).2.2 x8_2 p198 q198
                                                                                              obtain rfl : ad197 = ad198 := (by injection e198)
                                                                                              replace p198 := eq_true p198
                                                                                              replace q198 := eq_true q198
                                                                                              have p199 : 0 ≤ (x11_4 : Int) := of_decide_eq_true (by first | (with_reducible assumption) | assumption)
                                                                                              have q199 : x11_4 < (l1.length : Int) := of_decide_eq_true (by first | (with_reducible assumption) | assumption)
                                                                                              obtain ⟨ad199, e199, hx199_0⟩ := Kd.at_int HR1.out x11_4 p199 q199
                                                                                              obtain rfl : ad190 = ad199 := (by injection e199)
                                                                                              replace hx199_0 := (HB.out.cell (World.block_lt_of_cell? w _ hx199_0)).trans hx199_0
                                                                                              replace p199 := eq_true p199
                                                                                              replace q199 := eq_true q199
                                                                                              have p200 : 0 ≤ (x8_2 : Int) := of_decide_eq_true (by first | (with_reducible assumption) | assumption)
                                                                                              have q200 : x8_2 < (l1.length : Int) := of_decide_eq_true (by first | (with_reducible assumption) | assumption)
                                                                                              obtain ⟨ad200, e200, hx200_0⟩ := Kd.at_int HR1.out x8_2 p200 q200
                                                                                              obtain rfl : ad190 = ad200 := (by injection e200)
                                                                                              replace hx200_0 := (HB.out.cell (World.block_lt_of_cell? w _ hx200_0)).trans hx200_0
                                                                                              replace p200 := eq_true p200
                                                                                              replace q200 := eq_true q200
                                                                                              have p201 : 0 ≤ (x11_4 : Int) := of_decide_eq_true (by first | (with_reducible assumption) | assumption)
                                                                                              have q201 : x11_4 < (t182.length : Int) := of_decide_eq_true (by first | (with_reducible assumption) | assumption)
                                                                                              obtain ⟨ad201, e201, hx201_0⟩ := Kd.at_int (Kd.R_reads' HO_5.out).2.2 x11_4 p201 q201
                                                                                              obtain rfl : ad197 = ad201 := (by injection e201)
                                                                                              replace p201 := eq_true p201
                                                                                              replace q201 := eq_true q201
                                                                                              have p202 : 0 ≤ (x8_2 : Int) := of_decide_eq_true (by first | (with_reducible assumption) | assumption)
                                                                                              have q202 : x8_2 < (t182.length : Int) := of_decide_eq_true (by first | (with_reducible assumption) | assumption)
                                                                                              obtain ⟨ad202, e202, hx202_0⟩ := Kd.at_int (Kd.R_reads' HO_5.out).2.2 x8_2 p202 q202
                                                                                              obtain rfl : ad197 = ad202 := (by injection e202)
                                                                                              replace p202 := eq_true p202
                                                                                              replace q202 := eq_true q202
                                                                                              have p203 : 0 ≤ (x11_4 : Int) := of_decide_eq_true (by first | (with_reducible assumption) | assumption)
                                                                                              have q203 : x11_4 < (l1.length : Int) := of_decide_eq_true (by first | (with_reducible assumption) | assumption)
                                                                                              obtain ⟨ad203, e203, hx203_0⟩ := Kd.at_int HR1.out x11_4 p203 q203
                                                                                              obtain rfl : ad190 = ad203 := (by injection e203)
                                                                                              replace hx203_0 := (HB.out.cell (World.block_lt_of_cell? w _ hx203_0)).trans hx203_0
                                                                                              replace p203 := eq_true p203
                                                                                              replace q203 := eq_true q203
                                                                                              have p204 : 0 ≤ (x8_2 : Int) := of_decide_eq_true (by first | (with_reducible assumption) | assumption)
                                                                                              have q204 : x8_2 < (l1.length : Int) := of_decide_eq_true (by first | (with_reducible assumption) | assumption)
                                                                                              obtain ⟨ad204, e204, hx204_0⟩ := Kd.at_int HR1.out x8_2 p204 q204
                                                                                              obtain rfl : ad190 = ad204 := (by injection e204)
                                                                                              replace hx204_0 := (HB.out.cell (World.block_lt_of_cell? w _ hx204_0)).trans hx204_0
                                                                                              replace p204 := eq_true p204
                                                                                              replace q204 := eq_true q204
                                                                                              go_wp2
                                                                                              repeat (go_quiet (fail); try go_wp2)
                                                                                              go_roundg k4
                                                                                              case measure => have := HJ7.out; have := HK2.out; have := HJ19.out; have := HK4.out; omega
                                                                                              case rel => exact ⟨(wrap64 (x11_4 + 1)), (by first | rfl | (simp; done) | (simp [*]; done)), H', ⟨by have := HJ7.out; have := HK2.out; have := HJ19.out; have := HK4.out; omega⟩, ⟨by (with_reducible repeat (first | apply Kd.R_alloc | apply Kd.R_drewN | apply Kd.R_drew)); exact HO_5.out⟩, ⟨by repeat (first | (with_reducible first | exact HB.out | apply below_alloc | apply pw_below_drewN | apply below_drew1) | exact HB.out)⟩⟩
                                                                                  · as_aux_lemma =>
                                                                                      rw [if_neg c34] at H
                                                                                      have c34b0 : decide ((rd l1 x8_2) < (rd l1 x11_4)) = false := decide_eq_false c34
                                                                                      clear c34
                                                                                      by_cases c38 : (rd l1 x11_4) = (rd l1 x8_2)
                                                                                      · as_aux_lemma =>
                                                                                          rw [if_pos c38] at H
                                                                                          have c38b0 : ((rd l1 x11_4) == (rd l1 x8_2)) = true := beq_iff_eq.mpr c38
                                                                                          have c38b1 : ((rd l1 x11_4) != (rd l1 x8_2)) = false := bne_eq_false_iff_eq.mpr c38
                                                                                          clear c38
                                                                                          by_cases c39 : (rd t182 x11_4) < (rd t182 x8_2)
                                                                                          · rw [if_pos c39] at H
                                                                                            exact absurd H (by simp)
                                                                                          · as_aux_lemma =>
                                                                                              rw [if_neg c39] at H
                                                                                              have c39b0 : decide ((rd t182 x11_4) < (rd t182 x8_2)) = false := decide_eq_false c39
                                                                                              clear c39
                                                                                              by_cases c40 : (rd t182 x11_4) > (wrap64 ((rd t182 x8_2) + 1))
                                                                                              · rw [if_pos c40] at H
                                                                                                exact absurd H (by simp)
                                                                                              · as_aux_lemma =>
                                                                                                  rw [if_neg c40] at H
                                                                                                  have c40b0 : decide ((wrap64 ((rd t182 x8_2) + 1)) < (rd t182 x11_4)) = false := decide_eq_false c40
                                                                                                  clear c40
                                                                                                  have H' := Aside0.mk H
                                                                                                  clear H
                                                                                                  have p195 : 0 ≤ (x11_4 : Int) := of_decide_eq_true (by first | (with_reducible assumption) | assumption)
                                                                                                  have q195 : x11_4 < (l1.length : Int) := of_decide_eq_true (by first | (with_reducible assumption) | assumption)
                                                                                                  obtain ⟨ad195, e195, hx195_0⟩ := Kd.at_int HR1.out x11_4 p195 q195
                                                                                                  obtain rfl : ad190 = ad195 := (by injection e195)
                                                                                                  replace hx195_0 := (HB.out.cell (World.block_lt_of_cell? w _ hx195_0)).trans hx195_0
                                                                                                  replace p195 := eq_true p195
                                                                                                  replace q195 := eq_true q195
                                                                                                  have p196 : 0 ≤ (x8_2 : Int) := of_decide_eq_true (by first | (with_reducible assumption) | assumption)
                                                                                                  have q196 : x8_2 < (l1.length : Int) := of_decide_eq_true (by first | (with_reducible assumption) | assumption)
                                                                                                  obtain ⟨ad196, e196, hx196_0⟩ := Kd.at_int HR1.out x8_2 p196 q196
                                                                                                  obtain rfl : ad190 = ad196 := (by injection e196)
                                                                                                  replace hx196_0 := (HB.out.cell (World.block_lt_of_cell? w _ hx196_0)).trans hx196_0
                                                                                                  replace p196 := eq_true p196
                                                                                                  replace q196 := eq_true q196
                                                                                                  have p197 : 0 ≤ (x11_4 : Int) := of_decide_eq_true (by first | (with_reducible assumption) | assumption)
                                                                                                  have q197 : x11_4 < (t182.length : Int) := of_decide_eq_true (by first | (with_reducible assumption) | assumption)
                                                                                                  obtain ⟨ad197, e197, hx197_0⟩ := Kd.at_int (Kd.R_reads' HO_5.out).2.2 x11_4 p197 q197
                                                                                                  cases e197
                                                                                                  replace p197 := eq_true p197
                                                                                                  replace q197 := eq_true q197
                                                                                                  have p198 : 0 ≤ (x8_2 : Int) := of_decide_eq_true (by first | (with_reducible assumption) | assumption)
                                                                                                  have q198 : x8_2 < (t182.length : Int) := of_decide_eq_true (by first | (with_reducible assumption) | assumption)
                                                                                                  obtain ⟨ad198, e198, hx198_0⟩ := Kd.at_int (Kd.R_reads' HO_5.out).2.2 x8_2 p198 q198
                                                                                                  obtain rfl : ad197 = ad198 := (by injection e198)
                                                                                                  replace p198 := eq_true p198
                                                                                                  replace q198 := eq_true q198
                                                                                                  have p199 : 0 ≤ (x11_4 : Int) := of_decide_eq_true (by first | (with_reducible assumption) | assumption)
                                                                                                  have q199 : x11_4 < (l1.length : Int) := of_decide_eq_true (by first | (with_reducible assumption) | assumption)
                                                                                                  obtain ⟨ad199, e199, hx199_0⟩ := Kd.at_int HR1.out x11_4 p199 q199
                                                                                                  obtain rfl : ad190 = ad199 := (by injection e199)
                                                                                                  replace hx199_0 := (HB.out.cell (World.block_lt_of_cell? w _ hx199_0)).trans hx199_0
                                                                                                  replace p199 := eq_true p199
                                                                                                  replace q199 := eq_true q199
                                                                                                  have p200 : 0 ≤ (x8_2 : Int) := of_decide_eq_true (by first | (with_reducible assumption) | assumption)
                                                                                                  have q200 : x8_2 < (l1.length : Int) := of_decide_eq_true (by first | (with_reducible assumption) | assumption)
                                                                                                  obtain ⟨ad200, e200, hx200_0⟩ := Kd.at_int HR1.out x8_2 p200 q200
                                                                                                  obtain rfl : ad190 = ad200 := (by injection e200)
                                                                                                  replace hx200_0 := (HB.out.cell (World.block_lt_of_cell? w _ hx200_0)).trans hx200_0
                                                                                                  replace p200 := eq_true p200
                                                                                                  replace q200 := eq_true q200
                                                                                                  have p209 : 0 ≤ (x11_4 : Int) := of_decide_eq_true (by first | (with_reducible assumption) | assumption)
                                                                                                  have q209 : x11_4 < (l1.length : Int) := of_decide_eq_true (by first | (with_reducible assumption) | assumption)
                                                                                                  obtain ⟨ad209, e209, hx209_0⟩ := Kd.at_int HR1.out x11_4 p209 q209
                                                                                                  obtain rfl : ad190 = ad209 := (by injection e209)
                                                                                                  replace hx209_0 := (HB.out.cell (World.block_lt_of_cell? w _ hx209_0)).trans hx209_0
                                                                                                  replace p209 := eq_true p209
                                                                                                  replace q209 := eq_true q209
                                                                                                  have p210 : 0 ≤ (x8_2 : Int) := of_decide_eq_true (by first | (with_reducible assumption) | assumption)
                                                                                                  have q210 : x8_2 < (l1.length : Int) := of_decide_eq_true (by first | (with_reducible assumption) | assumption)
                                                                                                  obtain ⟨ad210, e210, hx210_0⟩ := Kd.at_int HR1.out x8_2 p210 q210
                                                                                                  obtain rfl : ad190 = ad210 := (by injection e210)
                                                                                                  replace hx210_0 := (HB.out.cell (World.block_lt_of_cell? w _ hx210_0)).trans hx210_0
                                                                                                  replace p210 := eq_true p210
                                                                                                  replace q210 := eq_true q210
                                                                                                  have p211 : 0 ≤ (x11_4 : Int) := of_decide_eq_true (by first | (with_reducible assumption) | assumption)
                                                                                                  have q211 : x11_4 < (t182.length : Int) := of_decide_eq_true (by first | (with_reducible assumption) | assumption)
                                                                                                  obtain ⟨ad211, e211, hx211_0⟩ := Kd.at_int (Kd.R_reads' HO_5.out).2.2 x11_4 p211 q211
                                                                                                  obtain rfl : ad197 = ad211 := (by injection e211)
                                                                                                  replace p211 := eq_true p211
                                                                                                  replace q211 := eq_true q211
                                                                                                  have p212 : 0 ≤ (x8_2 : Int) := of_decide_eq_true (by first | (with_reducible assumption) | assumption)
                                                                                                  have q212 : x8_2 < (t182.length : Int) := of_decide_eq_true (by first | (with_reducible assumption) | assumption)
                                                                                                  obtain ⟨ad212, e212, hx212_0⟩ := Kd.at_int (Kd.R_reads' HO_5.out).2.2 x8_2 p212 q212
                                                                                                  obtain rfl : ad197 = ad212 := (by injection e212)
                                                                                                  replace p212 := eq_true p212
                                                                                                  replace q212 := eq_true q212
                                                                                                  have p213 : 0 ≤ (x11_4 : Int) := of_decide_eq_true (by first | (with_reducible assumption) | assumption)
                                                                                                  have q213 : x11_4 < (t182.length : Int) := of_decide_eq_true (by first | (with_reducible assumption) | assumption)
                                                                                                  obtain ⟨ad213, e213, hx213_0⟩ := Kd.at_int (Kd.R_reads' HO_5.out).2.2 x11_4 p213 q213
                                                                                                  obtain rfl : ad197 = ad213 := (by injection e213)
                                                                                                  replace p213 := eq_true p213
                                                                                                  replace q213 := eq_true q213
                                                                                                  have p214 : 0 ≤ (x8_2 : Int) := of_decide_eq_true (by first | (with_reducible assumption) | assumption)
                                                                                                  have q214 : x8_2 < (t182.length : Int) := of_decide_eq_true (by first | (with_reducible assumption) | assumption)
                                                                                                  obtain ⟨ad214, e214, hx214_0⟩ := Kd.at_int (Kd.R_reads' HO_5.out).2.2 x8_2 p214 q214
                                                                                                  obtain rfl : ad197 = ad214 := (by injection e214)
                                                                                                  replace p214 := eq_true p214
                                                                                                  replace q214 := eq_true q214
                                                                                                  go_wp2
                                                                                                  repeat (go_quiet (fail); try go_wp2)
                                                                                                  go_roundg k4
                                                                                                  case measure => have := HJ7.out; have := HK2.out; have := HJ19.out; have := HK4.out; omega
                                                                                                  case rel => exact ⟨(wrap64 (x11_4 + 1)), (by first | rfl | (simp; done) | (simp [*]; done)), H', ⟨by have := HJ7.out; have := HK2.out; have := HJ19.out; have := HK4.out; omega⟩, ⟨by (with_reducible repeat (first | apply Kd.R_alloc | apply Kd.R_drewN | apply Kd.R_drew)); exact HO_5.out⟩, ⟨by repeat (first | (with_reducible first | exact HB.out | apply below_alloc | apply pw_below_drewN | apply below_drew1) | exact HB.out)⟩⟩
                                                                                      · as_aux_lemma =>
                                                                                          rw [if_neg c38] at H
                                                                                          have c38b0 : ((rd l1 x11_4) == (rd l1 x8_2)) = false := beq_eq_false_iff_ne.mpr c38
                                                                                          have c38b1 : ((rd l1 x11_4) != (rd l1 x8_2)) = true := bne_iff_ne.mpr c38
                                                                                          have H' := Aside0.mk H
                                                                                          clear H
                                                                                          have p195 : 0 ≤ (x11_4 : Int) := of_decide_eq_true (by first | (with_reducible assumption) | assumption)
                                                                                          have q195 : x11_4 < (l1.length : Int) := of_decide_eq_true (by first | (with_reducible assumption) | assumption)
                                                                                          obtain ⟨ad195, e195, hx195_0⟩ := Kd.at_int HR1.out x11_4 p195 q195
                                                                                          obtain rfl : ad190 = ad195 := (by injection e195)
                                                                                          replace hx195_0 := (HB.out.cell (World.block_lt_of_cell? w _ hx195_0)).trans hx195_0
                                                                                          replace p195 := eq_true p195
                                                                                          replace q195 := eq_true q195
                                                                                          have p196 : 0 ≤ (x8_2 : Int) := of_decide_eq_true (by first | (with_reducible assumption) | assumption)
                                                                                          have q196 : x8_2 < (l1.length : Int) := of_decide_eq_true (by first | (with_reducible assumption) | assumption)
                                                                                          obtain ⟨ad196, e196, hx196_0⟩ := Kd.at_int HR1.out x8_2 p196 q196
                                                                                          obtain rfl : ad190 = ad196 := (by injection e196)
                                                                                          replace hx196_0 := (HB.out.cell (World.block_lt_of_cell? w _ hx196_0)).trans hx196_0
                                                                                          replace p196 := eq_true p196
                                                                                          replace q196 := eq_true q196
                                                                                          have p197 : 0 ≤ (x11_4 : Int) := of_decide_eq_true (by first | (with_reducible assumption) | assumption)
                                                                                          have q197 : x11_4 < (t182.length : Int) := of_decide_eq_true (by first | (with_reducible assumption) | assumption)
                                                                                          obtain ⟨ad197, e197, hx197_0⟩ := Kd.at_int (Kd.R_reads' HO_5.out).2.2 x11_4 p197 q197
                                                                                          cases e197
                                                                                          replace p197 := eq_true p197
                                                                                          replace q197 := eq_true q197
                                                                                          have p198 : 0 ≤ (x8_2 : Int) := of_decide_eq_true (by first | (with_reducible assumption) | assumption)
                                                                                          have q198 : x8_2 < (t182.length : Int) := of_decide_eq_true (by first | (with_reducible assumption) | assumption)
                                                                                          obtain ⟨ad198, e198, hx198_0⟩ := Kd.at_int (Kd.R_reads' HO_5.out).2.2 x8_2 p198 q198
                                                                                          obtain rfl : ad197 = ad198 := (by injection e198)
                                                                                          replace p198 := eq_true p198
                                                                                          replace q198 := eq_true q198
                                                                                          have p199 : 0 ≤ (x11_4 : Int) := of_decide_eq_true (by first | (with_reducible assumption) | assumption)
                                                                                          have q199 : x11_4 < (l1.length : Int) := of_decide_eq_true (by first | (with_reducible assumption) | assumption)
                                                                                          obtain ⟨ad199, e199, hx199_0⟩ := Kd.at_int HR1.out x11_4 p199 q199
                                                                                          obtain rfl : ad190 = ad199 := (by injection e199)
                                                                                          replace hx199_0 := (HB.out.cell (World.block_lt_of_cell? w _ hx199_0)).trans hx199_0
                                                                                          replace p199 := eq_true p199
                                                                                          replace q199 := eq_true q199
                                                                                          have p200 : 0 ≤ (x8_2 : Int) := of_decide_eq_true (by first | (with_reducible assumption) | assumption)
                                                                                          have q200 : x8_2 < (l1.length : Int) := of_decide_eq_true (by first | (with_reducible assumption) | assumption)
                                                                                          obtain ⟨ad200, e200, hx200_0⟩ := Kd.at_int HR1.out x8_2 p200 q200
                                                                                          obtain rfl : ad190 = ad200 := (by injection e200)
                                                                                          replace hx200_0 := (HB.out.cell (World.block_lt_of_cell? w _ hx200_0)).trans hx200_0
                                                                                          replace p200 := eq_true p200
                                                                                          replace q200 := eq_true q200
                                                                                          have p209 : 0 ≤ (x11_4 : Int) := of_decide_eq_true (by first | (with_reducible assumption) | assumption)
                                                                                          have q209 : x11_4 < (l1.length : Int) := of_decide_eq_true (by first | (with_reducible assumption) | assumption)
                                                                                          obtain ⟨ad209, e209, hx209_0⟩ := Kd.at_int HR1.out x11_4 p209 q209
                                                                                          obtain rfl : ad190 = ad209 := (by injection e209)
                                                                                          replace hx209_0 := (HB.out.cell (World.block_lt_of_cell? w _ hx209_0)).trans hx209_0
                                                                                          replace p209 := eq_true p209
                                                                                          replace q209 := eq_true q209
                                                                                          have p210 : 0 ≤ (x8_2 : Int) := of_decide_eq_true (by first | (with_reducible assumption) | assumption)
                                                                                          have q210 : x8_2 < (l1.length : Int) := of_decide_eq_true (by first | (with_reducible assumption) | assumption)
                                                                                          obtain ⟨ad210, e210, hx210_0⟩ := Kd.at_int HR1.out x8_2 p210 q210
                                                                                          obtain rfl : ad190 = ad210 := (by injection e210)
                                                                                          replace hx210_0 := (HB.out.cell (World.block_lt_of_cell? w _ hx210_0)).trans hx210_0
                                                                                          replace p210 := eq_true p210
                                                                                          replace q210 := eq_true q210
                                                                                          go_wp2
                                                                                          repeat (go_quiet (fail); try go_wp2)
                                                                                          go_roundg k4
                                                                                          case measure => have := HJ7.out; have := HK2.out; have := HJ19.out; have := HK4.out; omega
                                                                                          case rel => exact ⟨(wrap64 (x11_4 + 1)), (by first | rfl | (simp; done) | (simp [*]; done)), H', ⟨by have := HJ7.out; have := HK2.out; have := HJ19.out; have := HK4.out; omega⟩, ⟨by (with_reducible repeat (first | apply Kd.R_alloc | apply Kd.R_drewN | apply Kd.R_drew)); exact HO_5.out⟩, ⟨by repeat (first | (with_reducible first | exact HB.out | apply below_alloc | apply pw_below_drewN | apply below_drew1) | exact HB.out)⟩⟩
                                                                          · rw [if_neg c32] at H
                                                                            exact absurd H (by simp)
                                                                      · rw [if_neg c31] at H
                                                                        exact absurd H (by simp)
                                                                  · as_aux_lemma =>
                                                                      rw [if_neg c30] at H
                                                                      have c30b0 : decide ((rd l1 x11_4) < (rd l1 x8_2)) = false := decide_eq_false c30
                                                                      clear c30
                                                                      by_cases c41 : (rd l1 x11_4) > (rd l1 x8_2)
                                                                      · as_aux_lemma =>
                                                                          rw [if_pos c41] at H
                                                                          have c41b0 : decide ((rd l1 x8_2) < (rd l1 x11_4)) = true := decide_eq_true c41
                                                                          clear c41
                                                                          by_cases c42 : x11_4 < (t182.length : Int)
                                                                          · as_aux_lemma =>
                                                                              rw [if_pos c42] at H
                                                                              have c42b0 : decide (x11_4 < (t182.length : Int)) = true := decide_eq_true c42
                                                                              clear c42
                                                                              by_cases c43 : x8_2 < (t182.length : Int)
                                                                              · as_aux_lemma =>
                                                                                  rw [if_pos c43] at H
                                                                                  have c43b0 : decide (x8_2 < (t182.length : Int)) = true := decide_eq_true c43
                                                                                  clear c43
                                                                                  by_cases c44 : (rd t182 x11_4) < (rd t182 x8_2)
                                                                                  · rw [if_pos c44] at H
                                                                                    exact absurd H (by simp)
                                                                                  · as_aux_lemma =>
                                                                                      rw [if_neg c44] at H
                                                                                      have c44b0 : decide ((rd t182 x11_4) < (rd t182 x8_2)) = false := decide_eq_false c44
                                                                                      clear c44
                                                                                      by_cases c45 : (rd l1 x11_4) = (rd l1 x8_2)
                                                                                      · as_aux_lemma =>
                                                                                          rw [if_pos c45] at H
                                                                                          have c45b0 : ((rd l1 x11_4) == (rd l1 x8_2)) = true := beq_iff_eq.mpr c45
                                                                                          have c45b1 : ((rd l1 x11_4) != (rd l1 x8_2)) = false := bne_eq_false_iff_eq.mpr c45
                                                                                          clear c45
                                                                                          by_cases c46 : (rd t182 x11_4) > (wrap64 ((rd t182 x8_2) + 1))
                                                                                          · rw [if_pos c46] at H
                                                                                            exact absurd H (by simp)
                                                                                          · as_aux_lemma =>
                                                                                              rw [if_neg c46] at H
                                                                                              have c46b0 : decide ((wrap64 ((rd t182 x8_2) + 1)) < (rd t182 x11_4)) = false := decide_eq_false c46
                                                                                              clear c46
                                                                                              have H' := Aside0.mk H
                                                                                              clear H
                                                                                              have p195 : 0 ≤ (x11_4 : Int) := of_decide_eq_true (by first | (with_reducible assumption) | assumption)
                                                                                              have q195 : x11_4 < (l1.length : Int) := of_decide_eq_true (by first | (with_reducible assumption) | assumption)
                                                                                              obtain ⟨ad195, e195, hx195_0⟩ := Kd.at_int HR1.out x11_4 p195 q195
                                                                                              obtain rfl : ad190 = ad195 := (by injection e195)
                                                                                              replace hx195_0 := (HB.out.cell (World.block_lt_of_cell? w _ hx195_0)).trans hx195_0
                                                                                              replace p195 := eq_true p195
                                                                                              replace q195 := eq_true q195
                                                                                              have p196 : 0 ≤ (x8_2 : Int) := of_decide_eq_true (by first | (with_reducible assumption) | assumption)
                                                                                              have q196 : x8_2 < (l1.length : Int) := of_decide_eq_true (by first | (with_reducible assumption) | assumption)
                                                                                              obtain ⟨ad196, e196, hx196_0⟩ := Kd.at_int HR1.out x8_2 p196 q196
                                                                                              obtain rfl : ad190 = ad196 := (by injection e196)
                                                                                              replace hx196_0 := (HB.out.cell (World.block_lt_of_cell? w _ hx196_0)).trans hx196_0
                                                                                              replace p196 := eq_true p196
                                                                                              replace q196 := eq_true q196
                                                                                              have p215 : 0 ≤ (x11_4 : Int) := of_decide_eq_true (by first | (with_reducible assumption) | assumption)
                                                                                              have q215 : x11_4 < (l1.length : Int) := of_decide_eq_true (by first | (with_reducible assumption) | assumption)
                                                                                              obtain ⟨ad215, e215, hx215_0⟩ := Kd.at_int HR1.out x11_4 p215 q215
                                                                                              obtain rfl : ad190 = ad215 := (by injection e215)
                                                                                              replace hx215_0 := (HB.out.cell (World.block_lt_of_cell? w _ hx215_0)).trans hx215_0
                                                                                              replace p215 := eq_true p215
                                                                                              replace q215 := eq_true q215
                                                                                              have p216 : 0 ≤ (x8_2 : Int) := of_decide_eq_true (by first | (with_reducible assumption) | assumption)
                                                                                              have q216 : x8_2 < (l1.length : Int) := of_decide_eq_true (by first | (with_reducible assumption) | assumption)
                                                                                              obtain ⟨ad216, e216, hx216_0⟩ := Kd.at_int HR1.out x8_2 p216 q216
                                                                                              obtain rfl : ad190 = ad216 := (by injection e216)
                                                                                              replace hx216_0 := (HB.out.cell (World.block_lt_of_cell? w _ hx216_0)).trans hx216_0
                                                                                              replace p216 := eq_true p216
                                                                                              replace q216 := eq_true q216
                                                                                              have p217 : 0 ≤ (x11_4 : Int) := of_decide_eq_true (by first | (with_reducible assumption) | assumption)
                                                                                              have q217 : x11_4 < (t182.length : Int) := of_decide_eq_true (by first | (with_reducible assumption) | assumption)
                                                                                              obtain ⟨ad217, e217, hx217_0⟩ := Kd.at_int (Kd.R_reads' HO_5.out).2.2 x11_4 p217 q217
                                                                                              cases e217
                                                                                              replace p217 := eq_true p217
                                                                                              replace q217 := eq_true q217
                                                                                              have p218 : 0 ≤ (x8_2 : Int) := of_decide_eq_true (by first | (with_reducible assumption) | assumption)
                                                                                              have q218 : x8_2 < (t182.length : Int) := of_decide_eq_true (by first | (with_reducible assumption) | assumption)
                                                                                              obtain ⟨ad218, e218, hx218_0⟩ := Kd.at_int (Kd.R_reads' HO_5.out).2.2 x8_2 p218 q218
                                                                                              obtain rfl : ad217 = ad218 := (by injection e218)
                                                                                              replace p218 := eq_true p218
                                                                                              replace q218 := eq_true q218
                                                                                              have p219 : 0 ≤ (x11_4 : Int) := of_decide_eq_true (by first | (with_reducible assumption) | assumption)
                                                                                              have q219 : x11_4 < (l1.length : Int) := of_decide_eq_true (by first | (with_reducible assumption) | assumption)
                                                                                              obtain ⟨ad219, e219, hx219_0⟩ := Kd.at_int HR1.out x11_4 p219 q219
                                                                                              obtain rfl : ad190 = ad219 := (by injection e219)
                                                                                              replace hx219_0 := (HB.out.cell (World.block_lt_of_cell? w _ hx219_0)).trans hx219_0
                                                                                              replace p219 := eq_true p219
                                                                                              replace q219 := eq_true q219
                                                                                              have p220 : 0 ≤ (x8_2 : Int) := of_decide_eq_true (by first | (with_reducible assumption) | assumption)
                                                                                              have q220 : x8_2 < (l1.length : Int) := of_decide_eq_true (by first | (with_reducible assumption) | assumption)
                                                                                              obtain ⟨ad220, e220, hx220_0⟩ := Kd.at_int HR1.out x8_2 p220 q220
                                                                                              obtain rfl : ad190 = ad220 := (by injection e220)
                                                                                              replace hx220_0 := (HB.out.cell (World.block_lt_of_cell? w _ hx220_0)).trans hx220_0
                                                                                              replace p220 := eq_true p220
                                                                                              replace q220 := eq_true q220
                                                                                              have p221 : 0 ≤ (x11_4 : Int) := of_decide_eq_true (by first | (with_reducible assumption) | assumption)
                                                                                              have q221 : x11_4 < (t182.length : Int) := of_decide_eq_true (by first | (with_reducible assumption) | assumption)
                                                                                              obtain ⟨ad221, e221, hx221_0⟩ := Kd.at_int (Kd.R_reads' HO_5.out).2.2 x11_4 p221 q221
                                                                                              obtain rfl : ad217 = ad221 := (by injection e221)
                                                                                              replace p221 := eq_true p221
                                                                                              replace q221 := eq_true q221
                                                                                              have p222 : 0 ≤ (x8_2 : Int) := of_decide_eq_true (by first | (with_reducible assumption) | assumption)
                                                                                              have q222 : x8_2 < (t182.length : Int) := of_decide_eq_true (by first | (with_reducible assumption) | assumption)
                                                                                              obtain ⟨ad222, e222, hx222_0⟩ := Kd.at_int (Kd.R_reads' HO_5.out).2.2 x8_2 p222 q222
                                                                                              obtain rfl : ad217 = ad222 := (by injection e222)
                                                                                              replace p222 := eq_true p222
                                                                                              replace q222 := eq_true q222
                                                                                              have p223 : 0 ≤ (x11_4 : Int) := of_decide_eq_true (by first | (with_reducible assumption) | assumption)
                                                                                              have q223 : x11_4 < (t182.length : Int) := of_decide_eq_true (by first | (with_reducible assumption) | assumption)
                                                                                              obtain ⟨ad223, e223, hx223_0⟩ := Kd.at_int (Kd.R_reads' HO_5.out).2.2 x11_4 p223 q223
                                                                                              obtain rfl : ad217 = ad223 := (by injection e223)
                                                                                              replace p223 := eq_true p223
                                                                                              replace q223 := eq_true q223
                                                                                              have p224 : 0 ≤ (x8_2 : Int) := of_decide_eq_true (by first | (with_reducible assumption) | assumption)
                                                                                              have q224 : x8_2 < (t182.length : Int) := of_decide_eq_true (by first | (with_reducible assumption) | assumption)
                                                                                              obtain ⟨ad224, e224, hx224_0⟩ := Kd.at_int (Kd.R_reads' HO_5.out).2.2 x8_2 p224 q224
                                                                                              obtain rfl : ad217 = ad224 := (by injection e224)
                                                                                              replace p224 := eq_true p224
                                                                                              replace q224 := eq_true q224
                                                                                              go_wp2
                                                                                              repeat (go_quiet (fail); try go_wp2)
                                                                                              go_roundg k4
                                                                                              case measure => have := HJ7.out; have := HK2.out; have := HJ19.out; have := HK4.out; omega
                                                                                              case rel => exact ⟨(wrap64 (x11_4 + 1)), (by first | rfl | (simp; done) | (simp [*]; done)), H', ⟨by have := HJ7.out; have := HK2.out; have := HJ19.out; have := HK4.out; omega⟩, ⟨by (with_reducible repeat (first | apply Kd.R_alloc | apply Kd.R_drewN | apply Kd.R_drew)); exact HO_5.out⟩, ⟨by repeat (first | (with_reducible first | exact HB.out | apply below_alloc | apply pw_below_drewN | apply below_drew1) | exact HB.out)⟩⟩
                                                                                      · as_aux_lemma =>
                                                                                          rw [if_neg c45] at H
                                                                                          have c45b0 : ((rd l1 x11_4) == (rd l1 x8_2)) = false := beq_eq_false_iff_ne.mpr c45
                                                                                          have c45b1 : ((rd l1 x11_4) != (rd l1 x8_2)) = true := bne_iff_ne.mpr c45
                                                                                          have H' := Aside0.mk H
                                                                                          clear H
                                                                                          have p195 : 0 ≤ (x11_4 : Int) := of_decide_eq_true (by first | (with_reducible assumption) | assumption)
                                                                                          have q195 : x11_4 < (l1.length : Int) := of_decide_eq_true (by first | (with_reducible assumption) | assumption)
                                                                                          obtain ⟨ad195, e195, hx195_0⟩ := Kd.at_int HR1.out x11_4 p195 q195
                                                                                          obtain rfl : ad190 = ad195 := (by injection e195)
                                                                                          replace hx195_0 := (HB.out.cell (World.block_lt_of_cell? w _ hx195_0)).trans hx195_0
                                                                                          replace p195 := eq_true p195
                                                                                          replace q195 := eq_true q195
                                                                                          have p196 : 0 ≤ (x8_2 : Int) := of_decide_eq_true (by first | (with_reducible assumption) | assumption)
                                                                                          have q196 : x8_2 < (l1.length : Int) := of_decide_eq_true (by first | (with_reducible assumption) | assumption)
                                                                                          obtain ⟨ad196, e196, hx196_0⟩ := Kd.at_int HR1.out x8_2 p196 q196
                                                                                          obtain rfl : ad190 = ad196 := (by injection e196)
                                                                                          replace hx196_0 := (HB.out.cell (World.block_lt_of_cell? w _ hx196_0)).trans hx196_0
                                                                                          replace p196 := eq_true p196
                                                                                          replace q196 := eq_true q196
                                                                                          have p215 : 0 ≤ (x11_4 : Int) := of_decide_eq_true (by first | (with_reducible assumption) | assumption)
                                                                                          have q215 : x11_4 < (l1.length : Int) := of_decide_eq_true (by first | (with_reducible assumption) | assumption)
                                                                                          obtain ⟨ad215, e215, hx215_0⟩ := Kd.at_int HR1.out x11_4 p215 q215
                                                                                          obtain rfl : ad190 = ad215 := (by injection e215)
                                                                                          replace hx215_0 := (HB.out.cell (World.block_lt_of_cell? w _ hx215_0)).trans hx215_0
                                                                                          replace p215 := eq_true p215
                                                                                          replace q215 := eq_true q215
                                                                                          have p216 : 0 ≤ (x8_2 : Int) := of_decide_eq_true (by first | (with_reducible assumption) | assumption)
                                                                                          have q216 : x8_2 < (l1.length : Int) := of_decide_eq_true (by first | (with_reducible assumption) | assumption)
                                                                                          obtain ⟨ad216, e216, hx216_0⟩ := Kd.at_int HR1.out x8_2 p216 q216
                                                                                          obtain rfl : ad190 = ad216 := (by injection e216)
                                                                                          replace hx216_0 := (HB.out.cell (World.block_lt_of_cell? w _ hx216_0)).trans hx216_0
                                                                                          replace p216 := eq_true p216
                                                                                          replace q216 := eq_true q216
                                                                                          have p217 : 0 ≤ (x11_4 : Int) := of_decide_eq_true (by first | (with_reducible assumption) | assumption)
                                                                                          have q217 : x11_4 < (t182.length : Int) := of_decide_eq_true (by first | (with_reducible assumption) | assumption)
                                                                                          obtain ⟨ad217, e217, hx217_0⟩ := Kd.at_int (Kd.R_reads' HO_5.out).2.2 x11_4 p217 q217
                                                                                          cases e217
                                                                                          replace p217 := eq_true p217
                                                                                          replace q217 := eq_true q217
                                                                                          have p218 : 0 ≤ (x8_2 : Int) := of_decide_eq_true (by first | (with_reducible assumption) | assumption)
                                                                                          have q218 : x8_2 < (t182.length : Int) := of_decide_eq_true (by first | (with_reducible assumption) | assumption)
                                                                                          obtain ⟨ad218, e218, hx218_0⟩ := Kd.at_int (Kd.R_reads' HO_5.out).2.2 x8_2 p218 q218
                                                                                          obtain rfl : ad217 = ad218 := (by injection e218)
                                                                                          replace p218 := eq_true p218
                                                                                          replace q218 := eq_true q218
                                                                                          have p219 : 0 ≤ (x11_4 : Int) := of_decide_eq_true (by first | (with_reducible assumption) | assumption)
                                                                                          have q219 : x11_4 < (l1.length : Int) := of_decide_eq_true (by first | (with_reducible assumption) | assumption)
                                                                                          obtain ⟨ad219, e219, hx219_0⟩ := Kd.at_int HR1.out x11_4 p219 q219
                                                                                          obtain rfl : ad190 = ad219 := (by injection e219)
                                                                                          replace hx219_0 := (HB.out.cell (World.block_lt_of_cell? w _ hx219_0)).trans hx219_0
                                                                                          replace p219 := eq_true p219
                                                                                          replace q219 := eq_true q219
                                                                                          have p220 : 0 ≤ (x8_2 : Int) := of_decide_eq_true (by first | (with_reducible assumption) | assumption)
                                                                                          have q220 : x8_2 < (l1.length : Int) := of_decide_eq_true (by first | (with_reducible assumption) | assumption)
                                                                                          obtain ⟨ad220, e220, hx220_0⟩ := Kd.at_int HR1.out x8_2 p220 q220
                                                                                          obtain rfl : ad190 = ad220 := (by injection e220)
                                                                                          replace hx220_0 := (HB.out.cell (World.block_lt_of_cell? w _ hx220_0)).trans hx220_0
                                                                                          replace p220 := eq_true p220
                                                                                          replace q220 := eq_true q220
                                                                                          go_wp2
                                                                                          repeat (go_quiet (fail); try go_wp2)
                                                                                          go_roundg k4
                                                                                          case measure => have := HJ7.out; have := HK2.out; have := HJ19.out; have := HK4.out; omega
                                                                                          case rel => exact ⟨(wrap64 (x11_4 + 1)), (by first | rfl | (simp; done) | (simp [*]; done)), H', ⟨by have := HJ7.out; have := HK2.out; have := HJ19.out; have := HK4.out; omega⟩, ⟨by (with_reducible repeat (first | apply Kd.R_alloc | apply Kd.R_drewN | apply Kd.R_drew)); exact HO_5.out⟩, ⟨by repeat (first | (with_reducible first | exact HB.out | apply below_alloc | apply pw_below_drewN | apply below_drew1) | exact HB.out)⟩⟩
                                                                              · rw [if_neg c43] at H
                                                                                exact absurd H (by simp)
                                                                          · rw [if_neg c42] at H
                                                                            exact absurd H (by simp)
                                                                      · as_aux_lemma =>
                                                                          rw [if_neg c41] at H
                                                                          have c41b0 : decide ((rd l1 x8_2) < (rd l1 x11_4)) = false := decide_eq_false c41
                                                                          clear c41
                                                                          by_cases c47 : (rd l1 x11_4) = (rd l1 x8_2)
                                                                          · as_aux_lemma =>
                                                                              rw [if_pos c47] at H
                                                                              have c47b0 : ((rd l1 x11_4) == (rd l1 x8_2)) = true := beq_iff_eq.mpr c47
                                                                              have c47b1 : ((rd l1 x11_4) != (rd l1 x8_2)) = false := bne_eq_false_iff_eq.mpr c47
                                                                              clear c47
                                                                              by_cases c48 : x11_4 < (t182.length : Int)
                                                                              · as_aux_lemma =>
                                                                                  rw [if_pos c48] at H
                                                                                  have c48b0 : decide (x11_4 < (t182.length : Int)) = true := decide_eq_true c48
                                                                                  clear c48
                                                                                  by_cases c49 : x8_2 < (t182.length : Int)
                                                                                  · as_aux_lemma =>
                                                                                      rw [if_pos c49] at H
                                                                                      have c49b0 : decide (x8_2 < (t182.length : Int)) = true := decide_eq_true c49
                                                                                      clear c49
                                                                                      by_cases c50 : (rd t182 x11_4) < (rd t182 x8_2)
                                                                                      · rw [if_pos c50] at H
                                                                                        exact absurd H (by simp)
                                                                                      · as_aux_lemma =>
                                                                                          rw [if_neg c50] at H
                                                                                          have c50b0 : decide ((rd t182 x11_4) < (rd t182 x8_2)) = false := decide_eq_false c50
                                                                                          clear c50
                                                                                          by_cases c51 : (rd t182 x11_4) > (wrap64 ((rd t182 x8_2) + 1))
                                                                                          · rw [if_pos c51] at H
                                                                                            exact absurd H (by simp)
                                                                                          · as_aux_lemma =>
                                                                                              rw [if_neg c51] at H
                                                                                              have c51b0 : decide ((wrap64 ((rd t182 x8_2) + 1)) < (rd t182 x11_4)) = false := decide_eq_false c51
                                                                                              clear c51
                                                                                              have H' := Aside0.mk H
                                                                                              clear H
                                                                                              have p195 : 0 ≤ (x11_4 : Int) := of_decide_eq_true (by first | (with_reducible assumption) | assumption)
                                                                                              have q195 : x11_4 < (l1.length : Int) := of_decide_eq_true (by first | (with_reducible assumption) | assumption)
                                                                                              obtain ⟨ad195, e195, hx195_0⟩ := Kd.at_int HR1.out x11_4 p195 q195
                                                                                              obtain rfl : ad190 = ad195 := (by injection e195)
                                                                                              replace hx195_0 := (HB.out.cell (World.block_lt_of_cell? w _ hx195_0)).trans hx195_0
                                                                                              replace p195 := eq_true p195
                                                                                              replace q195 := eq_true q195
                                                                                              have p196 : 0 ≤ (x8_2 : Int) := of_decide_eq_true (by first | (with_reducible assumption) | assumption)
                                                                                              have q196 : x8_2 < (l1.length : Int) := of_decide_eq_true (by first | (with_reducible assumption) | assumption)
                                                                                              obtain ⟨ad196, e196, hx196_0⟩ := Kd.at_int HR1.out x8_2 p196 q196
                                                                                              obtain rfl : ad190 = ad196 := (by injection e196)
                                                                                              replace hx196_0 := (HB.out.cell (World.block_lt_of_cell? w _ hx196_0)).trans hx196_0
                                                                                              replace p196 := eq_true p196
                                                                                              replace q196 := eq_true q196
                                                                                              have p215 : 0 ≤ (x11_4 : Int) := of_decide_eq_true (by first | (with_reducible assumption) | assumption)
                                                                                              have q215 : x11_4 < (l1.length : Int) := of_decide_eq_true (by first | (with_reducible assumption) | assumption)
                                                                                              obtain ⟨ad215, e215, hx215_0⟩ := Kd.at_int HR1.out x11_4 p215 q215
                                                                                              obtain rfl : ad190 = ad215 := (by injection e215)
                                                                                              replace hx215_0 := (HB.out.cell (World.block_lt_of_cell? w _ hx215_0)).trans hx215_0
                                                                                              replace p215 := eq_true p215
                                                                                              replace q215 := eq_true q215
                                                                                              have p216 : 0 ≤ (x8_2 : Int) := of_decide_eq_true (by first | (with_reducible assumption) | assumption)
                                                                                              have q216 : x8_2 < (l1.length : Int) := of_decide_eq_true (by first | (with_reducible assumption) | assumption)
                                                                                              obtain ⟨ad216, e216, hx216_0⟩ := Kd.at_int HR1.out x8_2 p216 q216
                                                                                              obtain rfl : ad190 = ad216 := (by injection e216)
                                                                                              replace hx216_0 := (HB.out.cell (World.block_lt_of_cell? w _ hx216_0)).trans hx216_0
                                                                                              replace p216 := eq_true p216
                                                                                              replace q216 := eq_true q216
                                                                                              have p225 : 0 ≤ (x11_4 : Int) := of_decide_eq_true (by first | (with_reducible assumption) | assumption)
                                                                                              have q225 : x11_4 < (l1.length : Int) := of_decide_eq_true (by first | (with_reducible assumption) | assumption)
                                                                                              obtain ⟨ad225, e225, hx225_0⟩ := Kd.at_int HR1.out x11_4 p225 q225
                                                                                              obtain rfl : ad190 = ad225 := (by injection e225)
                                                                                              replace hx225_0 := (HB.out.cell (World.block_lt_of_cell? w _ hx225_0)).trans hx225_0
                                                                                              replace p225 := eq_true p225
                                                                                              replace q225 := eq_true q225
                                                                                              have p226 : 0 ≤ (x8_2 : Int) := of_decide_eq_true (by first | (with_reducible assumption) | assumption)
                                                                                              have q226 : x8_2 < (l1.length : Int) := of_decide_eq_true (by first | (with_reducible assumption) | assumption)
                                                                                              obtain ⟨ad226, e226, hx226_0⟩ := Kd.at_int HR1.out x8_2 p226 q226
                                                                                              obtain rfl : ad190 = ad226 := (by injection e226)
                                                                                              replace hx226_0 := (HB.out.cell (World.block_lt_of_cell? w _ hx226_0)).trans hx226_0
                                                                                              replace p226 := eq_true p226
                                                                                              replace q226 := eq_true q226
                                                                                              have p227 : 0 ≤ (x11_4 : Int) := of_decide_eq_true (by first | (with_reducible assumption) | assumption)
                                                                                              have q227 : x11_4 < (t182.length : Int) := of_decide_eq_true (by first | (with_reducible assumption) | assumption)
                                                                                              obtain ⟨ad227, e227, hx227_0⟩ := Kd.at_int (Kd.R_reads' HO_5.out).2.2 x11_4 p227 q227
                                                                                              cases e227
                                                                                              replace p227 := eq_true p227
                                                                                              replace q227 := eq_true q227
                                                                                              have p228 : 0 ≤ (x8_2 : Int) := of_decide_eq_true (by first | (with_reducible assumption) | assumption)
                                                                                              have q228 : x8_2 < (t182.length : Int) := of_decide_eq_true (by first | (with_reducible assumption) | assumption)
                                                                                              obtain ⟨ad228, e228, hx228_0⟩ := Kd.at_int (Kd.R_reads' HO_5.out).2.2 x8_2 p228 q228
                                                                                              obtain rfl : ad227 = ad228 := (by injection e228)
                                                                                              replace p228 := eq_true p228
                                                                                              replace q228 := eq_true q228
                                                                                              have p229 : 0 ≤ (x11_4 : Int) := of_decide_eq_true (by first | (with_reducible assumption) | assumption)
                                                                                              have q229 : x11_4 < (t182.length : Int) := of_decide_eq_true (by first | (with_reducible assumption) | assumption)
                                                                                              obtain ⟨ad229, e229, hx229_0⟩ := Kd.at_int (Kd.R_reads' HO_5.out).2.2 x11_4 p229 q229
                                                                                              obtain rfl : ad227 = ad229 := (by injection e229)
                                                                                              replace p229 := eq_true p229
                                                                                              replace q229 := eq_true q229
                                                                                              have p230 : 0 ≤ (x8_2 : Int) := of_decide_eq_true (by first | (with_reducible assumption) | assumption)
                                                                                              have q230 : x8_2 < (t182.length : Int) := of_decide_eq_true (by first | (with_reducible assumption) | assumption)
                                                                                              obtain ⟨ad230, e230, hx230_0⟩ := Kd.at_int (Kd.R_reads' HO_5.out).2.2 x8_2 p230 q230
                                                                                              obtain rfl : ad227 = ad230 := (by injection e230)
                                                                                              replace p230 := eq_true p230
                                                                                              replace q230 := eq_true q230
                                                                                              go_wp2
                                                                                              repeat (go_quiet (fail); try go_wp2)
                                                                                              go_roundg k4
                                                                                              case measure => have := HJ7.out; have := HK2.out; have := HJ19.out; have := HK4.out; omega
                                                                                              case rel => exact ⟨(wrap64 (x11_4 + 1)), (by first | rfl | (simp; done) | (simp [*]; done)), H', ⟨by have := HJ7.out; have := HK2.out; have := HJ19.out; have := HK4.out; omega⟩, ⟨by (with_reducible repeat (first | apply Kd.R_alloc | apply Kd.R_drewN | apply Kd.R_drew)); exact HO_5.out⟩, ⟨by repeat (first | (with_reducible first | exact HB.out | apply below_alloc | apply pw_below_drewN | apply below_drew1) | exact HB.out)⟩⟩
                                                                                  · rw [if_neg c49] at H
                                                                                    exact absurd H (by simp)
                                                                              · rw [if_neg c48] at H
                                                                                exact absurd H (by simp)
                                                                          · rw [if_neg c47] at H
                                                                            have c47b0 : ((rd l1 x11_4) == (rd l1 x8_2)) = false := beq_eq_false_iff_ne.mpr c47
                                                                            have c47b1 : ((rd l1 x11_4) != (rd l1 x8_2)) = true := bne_iff_ne.mpr c47
                                                                            have H' := Aside0.mk H
                                                                            clear H
                                                                            have p195 : 0 ≤ (x11_4 : Int) := of_decide_eq_true (by first | (with_reducible assumption) | assumption)
                                                                            have q195 : x11_4 < (l1.length : Int) := of_decide_eq_true (by first | (with_reducible assumption) | assumption)
                                                                            obtain ⟨ad195, e195, hx195_0⟩ := Kd.at_int HR1.out x11_4 p195 q195
                                                                            obtain rfl : ad190 = ad195 := (by injection e195)
                                                                            replace hx195_0 := (HB.out.cell (World.block_lt_of_cell? w _ hx195_0)).trans hx195_0
                                                                            replace p195 := eq_true p195
                                                                            replace q195 := eq_true q195
                                                                            have p196 : 0 ≤ (x8_2 : Int) := of_decide_eq_true (by first | (with_reducible assumption) | assumption)
                                                                            have q196 : x8_2 < (l1.length : Int) := of_decide_eq_true (by first | (with_reducible assumption) | assumption)
                                                                            obtain ⟨ad196, e196, hx196_0⟩ := Kd.at_int HR1.out x8_2 p196 q196
                                                                            obtain rfl : ad190 = ad196 := (by injection e196)
                                                                            replace hx196_0 := (HB.out.cell (World.block_lt_of_cell? w _ hx196_0)).trans hx196_0
                                                                            replace p196 := eq_true p196
                                                                            replace q196 := eq_true q196
                                                                            have p215 : 0 ≤ (x11_4 : Int) := of_decide_eq_true (by first | (with_reducible assumption) | assumption)
                                                                            have q215 : x11_4 < (l1.length : Int) := of_decide_eq_true (by first | (with_reducible assumption) | assumption)
                                                                            obtain ⟨ad215, e215, hx215_0⟩ := Kd.at_int HR1.out x11_4 p215 q215
                                                                            obtain rfl : ad190 = ad215 := (by injection e215)
                                                                            replace hx215_0 := (HB.out.cell (World.block_lt_of_cell? w _ hx215_0)).trans hx215_0
                                                                            replace p215 := eq_true p215
                                                                            replace q215 := eq_true q215
                                                                            have p216 : 0 ≤ (x8_2 : Int) := of_decide_eq_true (by first | (with_reducible assumption) | assumption)
                                                                            have q216 : x8_2 < (l1.length : Int) := of_decide_eq_true (by first | (with_reducible assumption) | assumption)
                                                                            obtain ⟨ad216, e216, hx216_0⟩ := Kd.at_int HR1.out x8_2 p216 q216
                                                                            obtain rfl : ad190 = ad216 := (by injection e216)
                                                                            replace hx216_0 := (HB.out.cell (World.block_lt_of_cell? w _ hx216_0)).trans hx216_0
                                                                            replace p216 := eq_true p216
                                                                            replace q216 := eq_true q216
                                                                            have p225 : 0 ≤ (x11_4 : Int) := of_decide_eq_true (by first | (with_reducible assumption) | assumption)
                                                                            have q225 : x11_4 < (l1.length : Int) := of_decide_eq_true (by first | (with_reducible assumption) | assumption)
                                                                            obtain ⟨ad225, e225, hx225_0⟩ := Kd.at_int HR1.out x11_4 p225 q225
                                                                            obtain rfl : ad190 = ad225 := (by injection e225)
                                                                            replace hx225_0 := (HB.out.cell (World.block_lt_of_cell? w _ hx225_0)).trans hx225_0
                                                                            replace p225 := eq_true p225
                                                                            replace q225 := eq_true q225
                                                                            have p226 : 0 ≤ (x8_2 : Int) := of_decide_eq_true (by first | (with_reducible assumption) | assumption)
                                                                            have q226 : x8_2 < (l1.length : Int) := of_decide_eq_true (by first | (with_reducible assumption) | assumption)
                                                                            obtain ⟨ad226, e226, hx226_0⟩ := Kd.at_int HR1.out x8_2 p226 q226
                                                                            obtain rfl : ad190 = ad226 := (by injection e226)
                                                                            replace hx226_0 := (HB.out.cell (World.block_lt_of_cell? w _ hx226_0)).trans hx226_0
                                                                            replace p226 := eq_true p226
                                                                            replace q226 := eq_true q226
                                                                            go_wp2
                                                                            repeat (go_quiet (fail); try go_wp2)
                                                                            go_roundg k4
                                                                            case measure => have := HJ7.out; have := HK2.out; have := HJ19.out; have := HK4.out; omega
                                                                            case rel => exact ⟨(wrap64 (x11_4 + 1)), (by first | rfl | (simp; done) | (simp [*]; done)), H', ⟨by have := HJ7.out; have := HK2.out; have := HJ19.out; have := HK4.out; omega⟩, ⟨by (with_reducible repeat (first | apply Kd.R_alloc | apply Kd.R_drewN | apply Kd.R_drew)); exact HO_5.out⟩, ⟨by repeat (first | (with_reducible first | exact HB.out | apply below_alloc | apply pw_below_drewN | apply below_drew1) | exact HB.out)⟩⟩
                                                              · rw [if_neg c29] at H
                                                                exact absurd H (by simp)
                                                          · rw [if_neg c28] at H
                                                            exact absurd H (by simp)
                                                      · rw [if_neg c27] at H
                                                        exact absurd H (by simp)
                                                  · rw [if_neg c26] at H
                                                    exact absurd H (by simp)
                                              · rw [if_neg c25] at H
                                                have c25b0 : decide (x11_4 < x8_2) = false := decide_eq_false c25
                                                clear c25
                                                have H' := Aside0.mk H
                                                clear H
                                                go_wp2
                                                repeat (go_quiet (fail); try go_wp2)
                                                go_roundg k4
                                                case measure => have := HJ7.out; have := HK2.out; have := HJ19.out; have := HK4.out; omega
                                                case rel => exact ⟨(wrap64 (x8_2 + 1)), (by first | rfl | (simp; done) | (simp [*]; done)), H', ⟨by have := HJ7.out; have := HK2.out; have := HJ19.out; have := HK4.out; omega⟩, ⟨by (with_reducible repeat (first | apply Kd.R_alloc | apply Kd.R_drewN | apply Kd.R_drew)); exact HO_5.out⟩, ⟨by repeat (first | (with_reducible first | exact HB.out | apply below_alloc | apply pw_below_drewN | apply below_drew1) | exact HB.out)⟩⟩
                              · rw [if_neg c18] at H
                                exact absurd H (by simp)
                          · rw [if_neg c17] at H
                            exact absurd H (by simp)
                      · rw [if_neg c16] at H
                        have c16b0 : decide (x8_2 < (t182.length : Int)) = false := decide_eq_false c16
                        clear c16
                        replace H := Option.bind_eq_some_iff.mp H
                        obtain ⟨t189, A520, H⟩ := H
                        replace H : (some t189) = some r := H
                        have A52 := Aside0.mk A520
                        clear A520
                        obtain rfl := Option.some.inj H
                        obtain ⟨Ao53, co53, eo53⟩ := Kd.R_slice HO_5.out
                        subst eo53
                        go_wp2_with (first | (go_at_call 9; (with_reducible refine (contangolaw02_goes.calls k2  t189 _ A52.out).mono ?_); rintro e w54 ⟨rfl, hb⟩; have n0_ := Aside0.mk (Kd.R_below (by (with_reducible repeat (first | apply Kd.R_alloc | apply Kd.R_drewN | apply Kd.R_drew)); exact HO_5.out) hb); have n1_ := Aside0.mk (below_step (by repeat (first | (with_reducible first | exact HB.out | apply below_alloc | apply pw_below_drewN | apply below_drew1) | exact HB.out)) hb); clear HO_5; clear HB; have HO_5 := n0_; have HB := n1_; clear n0_ n1_; (try clear hb); (try clear hb2); (try clear hk); (try clear hi)))
                        repeat (go_quiet (first | (go_at_call 9; (with_reducible refine (contangolaw02_goes.calls k2  t189 _ A52.out).mono ?_); rintro e w54 ⟨rfl, hb⟩; have n0_ := Aside0.mk (Kd.R_below (by (with_reducible repeat (first | apply Kd.R_alloc | apply Kd.R_drewN | apply Kd.R_drew)); exact HO_5.out) hb); have n1_ := Aside0.mk (below_step (by repeat (first | (with_reducible first | exact HB.out | apply below_alloc | apply pw_below_drewN | apply below_drew1) | exact HB.out)) hb); clear HO_5; clear HB; have HO_5 := n0_; have HB := n1_; clear n0_ n1_; (try clear hb); (try clear hb2); (try clear hk); (try clear hi))); try go_wp2_with (first | (go_at_call 9; (with_reducible refine (contangolaw02_goes.calls k2  t189 _ A52.out).mono ?_); rintro e w54 ⟨rfl, hb⟩; have n0_ := Aside0.mk (Kd.R_below (by (with_reducible repeat (first | apply Kd.R_alloc | apply Kd.R_drewN | apply Kd.R_drew)); exact HO_5.out) hb); have n1_ := Aside0.mk (below_step (by repeat (first | (with_reducible first | exact HB.out | apply below_alloc | apply pw_below_drewN | apply below_drew1) | exact HB.out)) hb); clear HO_5; clear HB; have HO_5 := n0_; have HB := n1_; clear n0_ n1_; (try clear hb); (try clear hb2); (try clear hk); (try clear hi))))
                        go_ret
                        exact ⟨by first | rfl | (simp [errW_none, errW_some] <;> rfl) | (simp [*, errW_none, errW_some] <;> rfl), by repeat (first | (with_reducible first | exact HB.out | apply below_alloc | apply pw_below_drewN | apply below_drew1) | exact HB.out)⟩
      · rw [if_neg c7] at H
        have c7b0 : (t183 == 0) = false := beq_eq_false_iff_ne.mpr c7
        have c7b1 : (t183 != 0) = true := bne_iff_ne.mpr c7
        by_cases c55 : (t182.length : Int) = 0
        · rw [if_pos c55] at H
          have c55b0 : ((t182.length : Int) == 0) = true := beq_iff_eq.mpr c55
          have c55b1 : ((t182.length : Int) != 0) = false := bne_eq_false_iff_eq.mpr c55
          clear c55
          replace H := Option.bind_eq_some_iff.mp H
          obtain ⟨t186, A560, H⟩ := H
          replace H : (some t186) = some r := H
          have A56 := Aside0.mk A560
          clear A560
          obtain rfl := Option.some.inj H
          go_enter Try.func4, Try.ntmps4
          go_wp2_with (first | (go_at_call 15; (with_reducible refine (share_Split.calls a0 _ _ l1 t182 t183 _ ?side1 ?side2 A6.out).mono ?_); (case side1 => repeat (first | exact HR1.out | (with_reducible refine Kd.C_alloc ?_ _) | (with_reducible refine Kd.C_drewN ?_ _) | (with_reducible refine Kd.C_drew ?_))); (case side2 => exact HC1.out); rintro e w57 ⟨v184, rfl, ho0, hb⟩; have n0_ := Aside0.mk (Kd.R_lower ho0 (below_size (by repeat (first | (with_reducible first | exact HB.out | apply below_alloc | apply pw_below_drewN | apply below_drew1) | exact HB.out)))); have n1_ := Aside0.mk (below_step (by repeat (first | (with_reducible first | exact HB.out | apply below_alloc | apply pw_below_drewN | apply below_drew1) | exact HB.out)) hb); clear HB; have HO185 := n0_; have HB := n1_; clear n0_ n1_; (try clear hb); (try clear hb2); (try clear hk); (try clear hi); (try clear ho0); obtain ⟨Ao58, co58, eo58⟩ := Kd.R_slice HO185.out; subst eo58) | (go_at_call 9; (with_reducible refine (contangolaw02_goes.calls k  t186 _ A56.out).mono ?_); rintro e w59 ⟨rfl, hb⟩; have n0_ := Aside0.mk (Kd.R_below (by (with_reducible repeat (first | apply Kd.R_alloc | apply Kd.R_drewN | apply Kd.R_drew)); exact HO185.out) hb); have n1_ := Aside0.mk (below_step (by repeat (first | (with_reducible first | exact HB.out | apply below_alloc | apply pw_below_drewN | apply below_drew1) | exact HB.out)) hb); clear HO185; clear HB; have HO185 := n0_; have HB := n1_; clear n0_ n1_; (try clear hb); (try clear hb2); (try clear hk); (try clear hi)))
          repeat (go_quiet (first | (go_at_call 15; (with_reducible refine (share_Split.calls a0 _ _ l1 t182 t183 _ ?side1 ?side2 A6.out).mono ?_); (case side1 => repeat (first | exact HR1.out | (with_reducible refine Kd.C_alloc ?_ _) | (with_reducible refine Kd.C_drewN ?_ _) | (with_reducible refine Kd.C_drew ?_))); (case side2 => exact HC1.out); rintro e w57 ⟨v184, rfl, ho0, hb⟩; have n0_ := Aside0.mk (Kd.R_lower ho0 (below_size (by repeat (first | (with_reducible first | exact HB.out | apply below_alloc | apply pw_below_drewN | apply below_drew1) | exact HB.out)))); have n1_ := Aside0.mk (below_step (by repeat (first | (with_reducible first | exact HB.out | apply below_alloc | apply pw_below_drewN | apply below_drew1) | exact HB.out)) hb); clear HB; have HO185 := n0_; have HB := n1_; clear n0_ n1_; (try clear hb); (try clear hb2); (try clear hk); (try clear hi); (try clear ho0); obtain ⟨Ao58, co58, eo58⟩ := Kd.R_slice HO185.out; subst eo58) | (go_at_call 9; (with_reducible refine (contangolaw02_goes.calls k  t186 _ A56.out).mono ?_); rintro e w59 ⟨rfl, hb⟩; have n0_ := Aside0.mk (Kd.R_below (by (with_reducible repeat (first | apply Kd.R_alloc | apply Kd.R_drewN | apply Kd.R_drew)); exact HO185.out) hb); have n1_ := Aside0.mk (below_step (by repeat (first | (with_reducible first | exact HB.out | apply below_alloc | apply pw_below_drewN | apply below_drew1) | exact HB.out)) hb); clear HO185; clear HB; have HO185 := n0_; have HB := n1_; clear n0_ n1_; (try clear hb); (try clear hb2); (try clear hk); (try clear hi))); try go_wp2_with (first | (go_at_call 15; (with_reducible refine (share_Split.calls a0 _ _ l1 t182 t183 _ ?side1 ?side2 A6.out).mono ?_); (case side1 => repeat (first | exact HR1.out | (with_reducible refine Kd.C_alloc ?_ _) | (with_reducible refine Kd.C_drewN ?_ _) | (with_reducible refine Kd.C_drew ?_))); (case side2 => exact HC1.out); rintro e w57 ⟨v184, rfl, ho0, hb⟩; have n0_ := Aside0.mk (Kd.R_lower ho0 (below_size (by repeat (first | (with_reducible first | exact HB.out | apply below_alloc | apply pw_below_drewN | apply below_drew1) | exact HB.out)))); have n1_ := Aside0.mk (below_step (by repeat (first | (with_reducible first | exact HB.out | apply below_alloc | apply pw_below_drewN | apply below_drew1) | exact HB.out)) hb); clear HB; have HO185 := n0_; have HB := n1_; clear n0_ n1_; (try clear hb); (try clear hb2); (try clear hk); (try clear hi); (try clear ho0); obtain ⟨Ao58, co58, eo58⟩ := Kd.R_slice HO185.out; subst eo58) | (go_at_call 9; (with_reducible refine (contangolaw02_goes.calls k  t186 _ A56.out).mono ?_); rintro e w59 ⟨rfl, hb⟩; have n0_ := Aside0.mk (Kd.R_below (by (with_reducible repeat (first | apply Kd.R_alloc | apply Kd.R_drewN | apply Kd.R_drew)); exact HO185.out) hb); have n1_ := Aside0.mk (below_step (by repeat (first | (with_reducible first | exact HB.out | apply below_alloc | apply pw_below_drewN | apply below_drew1) | exact HB.out)) hb); clear HO185; clear HB; have HO185 := n0_; have HB := n1_; clear n0_ n1_; (try clear hb); (try clear hb2); (try clear hk); (try clear hi))))
          go_ret
          exact ⟨by first | rfl | (simp [errW_none, errW_some] <;> rfl) | (simp [*, errW_none, errW_some] <;> rfl), by repeat (first | (with_reducible first | exact HB.out | apply below_alloc | apply pw_below_drewN | apply below_drew1) | exact HB.out)⟩
        · rw [if_neg c55] at H
          exact absurd H (by simp)

/-- THE ONE PURE STATEMENT of contangolaw02_ShareWhole: yours. -/
def contangolaw02_ShareWhole.Pure : Prop := ∀ (a0 : Int) (l1 : List Int), (Lit.int .i64 a0).wf = true → l1.length ≤ maxLen → l1.length * 8 ≤ 140737488351232 → (∀ x ∈ l1, (Lit.int .i64 x).wf = true) → ∃ k, contangolaw02_ShareWhole.f k a0 l1 = some true
theorem contangolaw02_ShareWhole.walk (P : contangolaw02_ShareWhole.Pure) (a0 : Int) (a1 : Option Addr) (len1 cap1 : Nat) (z1 : List Int) (w : World) (w0 : (Lit.int .i64 a0).wf = true) (w1 : (a1 = none ∧ len1 = 0 ∧ cap1 = 0 ∧ z1 = []) ∨ ∃ x, a1 = some x ∧ len1 ≤ cap1 ∧ cap1 ≤ maxLen ∧ z1.length = cap1 ∧ (∀ i, i < z1.length → w.cell? (x.add i) = some (.int .i64 (z1.getD i 0))) ∧ ∀ n ∈ z1, (Lit.int .i64 n).wf = true) (y1 : len1 * 8 ≤ 140737488351232) :
    Calls Try.prog 4 #[.int .i64 a0, .slice a1 len1 cap1] w fun e w' => e = .returned (.bool true) ∧ Below w.heap.size w w' := by
  obtain ⟨l1, rfl, hr1, hm1, hw1, hc1⟩ := ReadsInt.ofRowC w1
  obtain ⟨k, h⟩ := P a0 l1 w0 hm1 y1 hw1
  refine (contangolaw02_ShareWhole.calls k a0 _ _ l1 true w (Kd.C_of_reads (d := (0 : Int)) (h1 := fun _ => rfl) hr1) hc1 h).mono ?_
  rintro e w' ⟨rfl, hd⟩
  exact ⟨rfl, hd⟩

end Go.Proofs.Ytmldekbjilcffaa.PShareWhole
