/- Laid for this claim by a program of this session's (wip/mkprint.py, wip/ext.py); not trusted: Lean checks it. -/
import Derived.Test.YtmhlajgeihjaeaaDoorPDateSplitsx0
import Derived.Test.YtmhlajgeihjaeaaDoorPDateSplitsx1
import Derived.Test.YtmhlajgeihjaeaaDoorPDateSplitsx2
import Derived.Test.YtmhlajgeihjaeaaDoorPDateSplitsx3
namespace Go.Proofs.YtmhlajgeihjaeaaDoor.PDateSplits
open Go.RowKit Go.Proofs.YtmhlajgeihjaeaaDoorW.PrintWords Go.Proofs.YtmhlajgeihjaeaaDoorW.PrintLast Go.Proofs.YtmhlajgeihjaeaaDoorW.PrintMore
attribute [local go_sem] max2_int min2_int max_two min_two max_three min_three max_four min_four   -- for this text's walks alone
set_option linter.unusedVariables false
set_option linter.unusedSimpArgs false

/-! ### contangolaw05_DateSplits: function 4 -/
def contangolaw05_DateSplits.j0 : Nat → Int → Int → Int → Int → Int → Bool → Option (Bool)
  | 0, _, _, _, _, _, _ => none
  | k + 1, x0, x3, x4, x5, x6, x60 => if x60 = true then (none) else (if x6 = 0 then ((date_Of.f x3 x4 x5).bind fun bt143 => ((date_Print.f x0).bind fun t145 => ((date_Parse.f t145).bind fun bt146 => (if bt143.1 = x0 then (if bt143.2 = 0 then (if bt146.1 = x0 then (if bt146.2 = 0 then ((contangolaw05_goes.f k).bind fun t148 => (some t148)) else (none)) else (none)) else (none)) else (none))))) else ((date_Print.f x0).bind fun t141 => (if t141.toList = ([] : List UInt8) then ((contangolaw05_goes.f k).bind fun t142 => (some t142)) else (none))))
def contangolaw05_DateSplits.f (k : Nat) (a0 : Int) : Option (Bool) := (date_Split.f a0).bind fun bt129 => ((contangoref05_Split.f k a0).bind fun bt133 => (if bt129.1 = bt133.1 then (if bt129.2.1 = bt133.2.1 then (if bt129.2.2.1 = bt133.2.2.1 then (if bt129.2.2.2 = bt133.2.2.2 then ((date_Weekday.f a0).bind fun t137 => ((contangoref05_Weekday.f a0).bind fun t138 => (if t137 = t138 then ((date_Print.f a0).bind fun t139 => ((contangoref05_Print.f k a0).bind fun t140 => (contangolaw05_DateSplits.j0 k a0 bt129.1 bt129.2.1 bt129.2.2.1 bt129.2.2.2 (t139.toList != t140.toList)))) else (contangolaw05_DateSplits.j0 k a0 bt129.1 bt129.2.1 bt129.2.2.1 bt129.2.2.2 true)))) else (contangolaw05_DateSplits.j0 k a0 bt129.1 bt129.2.1 bt129.2.2.1 bt129.2.2.2 true)) else (contangolaw05_DateSplits.j0 k a0 bt129.1 bt129.2.1 bt129.2.2.1 bt129.2.2.2 true)) else (contangolaw05_DateSplits.j0 k a0 bt129.1 bt129.2.1 bt129.2.2.1 bt129.2.2.2 true)) else (contangolaw05_DateSplits.j0 k a0 bt129.1 bt129.2.1 bt129.2.2.1 bt129.2.2.2 true)))
theorem contangolaw05_DateSplits.mono_l : ∀ k, (∀ y0 y1 y2 y3 y4 y5, LeO (contangolaw05_DateSplits.j0 k y0 y1 y2 y3 y4 y5) (contangolaw05_DateSplits.j0 (k + 1) y0 y1 y2 y3 y4 y5))
  | 0 => fun _ _ _ _ _ _ r h => by simp [contangolaw05_DateSplits.j0] at h
  | k + 1 => by
    have ih0 := contangolaw05_DateSplits.mono_l k
    · intro y0 y1 y2 y3 y4 y5
      unfold contangolaw05_DateSplits.j0
      repeat' first
      | (with_reducible exact ih0 _ _ _ _ _ _)
      | (with_reducible exact contangolaw05_goes.mono _)
      | (with_reducible exact contangoref05_Print.mono _ _)
      | (with_reducible exact contangoref05_Split.mono _ _)
      | (with_reducible exact LeO.refl _)
      | (with_reducible exact LeO.none _)
      | (with_reducible refine LeO.ite ?_ ?_)
      | (with_reducible refine LeO.bind ?_ (fun _ => ?_))
      | exact ih0 _ _ _ _ _ _
      | exact contangolaw05_goes.mono _
      | exact contangoref05_Print.mono _ _
      | exact contangoref05_Split.mono _ _
      | exact LeO.none _
      | refine LeO.ite ?_ ?_
      | refine LeO.bind ?_ (fun _ => ?_)
theorem contangolaw05_DateSplits.mono : ∀ a0 k, LeO (contangolaw05_DateSplits.f k a0) (contangolaw05_DateSplits.f (k + 1) a0) := by
  intro a0 k
  have ih0 := contangolaw05_DateSplits.mono_l k
  unfold contangolaw05_DateSplits.f
  repeat' first
      | (with_reducible exact ih0 _ _ _ _ _ _)
      | (with_reducible exact contangolaw05_goes.mono _)
      | (with_reducible exact contangoref05_Print.mono _ _)
      | (with_reducible exact contangoref05_Split.mono _ _)
      | (with_reducible exact LeO.refl _)
      | (with_reducible exact LeO.none _)
      | (with_reducible refine LeO.ite ?_ ?_)
      | (with_reducible refine LeO.bind ?_ (fun _ => ?_))
      | exact ih0 _ _ _ _ _ _
      | exact contangolaw05_goes.mono _
      | exact contangoref05_Print.mono _ _
      | exact contangoref05_Split.mono _ _
      | exact LeO.none _
      | refine LeO.ite ?_ ?_
      | refine LeO.bind ?_ (fun _ => ?_)
set_option maxHeartbeats 8000000 in
set_option maxRecDepth 100000 in
theorem contangolaw05_DateSplits.calls (k : Nat) (a0 : Int) (r : Bool) (w : World) (hL : LongAt w) (h : contangolaw05_DateSplits.f k a0 = some r) :
    Calls Tryd.prog 4 #[.int .i64 a0] w fun e w' => e = .returned (.bool r) ∧ Below w.heap.size w w' := by
  have HLONG := Aside0.mk hL
  clear hL
  have HB := Aside0.mk (Below.refl w.heap.size w)
  have H : ((date_Split.f a0).bind fun bt129 => ((contangoref05_Split.f k a0).bind fun bt133 => (if bt129.1 = bt133.1 then (if bt129.2.1 = bt133.2.1 then (if bt129.2.2.1 = bt133.2.2.1 then (if bt129.2.2.2 = bt133.2.2.2 then ((date_Weekday.f a0).bind fun t137 => ((contangoref05_Weekday.f a0).bind fun t138 => (if t137 = t138 then ((date_Print.f a0).bind fun t139 => ((contangoref05_Print.f k a0).bind fun t140 => (contangolaw05_DateSplits.j0 k a0 bt129.1 bt129.2.1 bt129.2.2.1 bt129.2.2.2 (t139.toList != t140.toList)))) else (contangolaw05_DateSplits.j0 k a0 bt129.1 bt129.2.1 bt129.2.2.1 bt129.2.2.2 true)))) else (contangolaw05_DateSplits.j0 k a0 bt129.1 bt129.2.1 bt129.2.2.1 bt129.2.2.2 true)) else (contangolaw05_DateSplits.j0 k a0 bt129.1 bt129.2.1 bt129.2.2.1 bt129.2.2.2 true)) else (contangolaw05_DateSplits.j0 k a0 bt129.1 bt129.2.1 bt129.2.2.1 bt129.2.2.2 true)) else (contangolaw05_DateSplits.j0 k a0 bt129.1 bt129.2.1 bt129.2.2.1 bt129.2.2.2 true)))) = some r := h
  clear h
  replace H := Option.bind_eq_some_iff.mp H
  obtain ⟨⟨t129, t130, t131, t132⟩, A20, H⟩ := H
  replace H : ((contangoref05_Split.f k a0).bind fun bt133 => (if t129 = bt133.1 then (if t130 = bt133.2.1 then (if t131 = bt133.2.2.1 then (if t132 = bt133.2.2.2 then ((date_Weekday.f a0).bind fun t137 => ((contangoref05_Weekday.f a0).bind fun t138 => (if t137 = t138 then ((date_Print.f a0).bind fun t139 => ((contangoref05_Print.f k a0).bind fun t140 => (contangolaw05_DateSplits.j0 k a0 t129 t130 t131 t132 (t139.toList != t140.toList)))) else (contangolaw05_DateSplits.j0 k a0 t129 t130 t131 t132 true)))) else (contangolaw05_DateSplits.j0 k a0 t129 t130 t131 t132 true)) else (contangolaw05_DateSplits.j0 k a0 t129 t130 t131 t132 true)) else (contangolaw05_DateSplits.j0 k a0 t129 t130 t131 t132 true)) else (contangolaw05_DateSplits.j0 k a0 t129 t130 t131 t132 true))) = some r := H
  have A2 := Aside0.mk A20
  clear A20
  replace H := Option.bind_eq_some_iff.mp H
  obtain ⟨⟨t133, t134, t135, t136⟩, A30, H⟩ := H
  replace H : (if t129 = t133 then (if t130 = t134 then (if t131 = t135 then (if t132 = t136 then ((date_Weekday.f a0).bind fun t137 => ((contangoref05_Weekday.f a0).bind fun t138 => (if t137 = t138 then ((date_Print.f a0).bind fun t139 => ((contangoref05_Print.f k a0).bind fun t140 => (contangolaw05_DateSplits.j0 k a0 t129 t130 t131 t132 (t139.toList != t140.toList)))) else (contangolaw05_DateSplits.j0 k a0 t129 t130 t131 t132 true)))) else (contangolaw05_DateSplits.j0 k a0 t129 t130 t131 t132 true)) else (contangolaw05_DateSplits.j0 k a0 t129 t130 t131 t132 true)) else (contangolaw05_DateSplits.j0 k a0 t129 t130 t131 t132 true)) else (contangolaw05_DateSplits.j0 k a0 t129 t130 t131 t132 true)) = some r := H
  have A3 := Aside0.mk A30
  clear A30
  have HC4 := Aside0.mk H
  clear H
  go_enter Tryd.func4, Tryd.ntmps4
  go_upto_region 3 with (first | ((with_reducible refine gate_callee (f := 16) rfl ?_); refine goesL_ (some 17) rfl rfl Tryd.func16 (by kernel_rfl) rfl #[.int .i64 a0] rfl (by (try simp only [List.map_toArray, List.map_cons, List.map_nil]); first | done | rfl | (simp only [List.length_drop, List.length_take]; rfl)) ?_; (with_reducible refine (date_Split.calls a0 t129 t130 t131 t132 _ (by repeat (first | exact HLONG.out | exact LongAt.after HLONG.out (by assumption) | exact LongAt.below HLONG.out (by assumption) | apply LongAt.drewN | apply LongAt.drew | apply LongAt.alloc)) A2.out).mono ?_); rintro e w5 ⟨rfl, hb⟩; refine ⟨_, rfl, ?_⟩; have n0_ := Aside0.mk (below_step (by repeat (first | (with_reducible first | exact HB.out | apply below_alloc | apply pw_below_drewN | apply below_drew1) | exact HB.out)) hb); clear HB; have HB := n0_; clear n0_; (try clear hb); (try clear hb2); (try clear hk); (try clear hi)) | ((with_reducible refine gate_callee (f := 17) rfl ?_); refine goesL_ (some 24) rfl rfl Tryd.func17 (by kernel_rfl) rfl #[.int .i64 a0] rfl (by (try simp only [List.map_toArray, List.map_cons, List.map_nil]); first | done | rfl | (simp only [List.length_drop, List.length_take]; rfl)) ?_; (with_reducible refine (contangoref05_Split.calls k a0 t133 t134 t135 t136 _ A3.out).mono ?_); rintro e w' ⟨rfl, ⟨nd, rfl⟩⟩; refine ⟨_, rfl, ?_⟩))
  (try simp only [Act.put, List.setIfInBounds_toArray, List.set_cons_zero, List.set_cons_succ])
  go_cut [60] (fun v60 wc => ∃ (kq : Nat) (x60_3 : Bool), v60 = .bool x60_3 ∧ Aside0 (contangolaw05_DateSplits.j0 kq a0 t129 t130 t131 t132 x60_3 = some r) ∧ Aside0 (kq ≤ k) ∧ Aside0 (Below w.heap.size w wc))
  case first =>
    have H := HC4.out
    clear HC4
    by_cases c6 : t129 = t133
    · rw [if_pos c6] at H
      have c6b0 : (t129 == t133) = true := beq_iff_eq.mpr c6
      have c6b1 : (t129 != t133) = false := bne_eq_false_iff_eq.mpr c6
      clear c6
      (first | rw [c6b0] | (simp only [i64_w, i32_w]; rw [c6b0]) | rw [c6b1] | skip)
      by_cases c7 : t130 = t134
      · rw [if_pos c7] at H
        have c7b0 : (t130 == t134) = true := beq_iff_eq.mpr c7
        have c7b1 : (t130 != t134) = false := bne_eq_false_iff_eq.mpr c7
        clear c7
        by_cases c8 : t131 = t135
        · rw [if_pos c8] at H
          have c8b0 : (t131 == t135) = true := beq_iff_eq.mpr c8
          have c8b1 : (t131 != t135) = false := bne_eq_false_iff_eq.mpr c8
          clear c8
          by_cases c9 : t132 = t136
          · rw [if_pos c9] at H
            have c9b0 : (t132 == t136) = true := beq_iff_eq.mpr c9
            have c9b1 : (t132 != t136) = false := bne_eq_false_iff_eq.mpr c9
            clear c9
            replace H := Option.bind_eq_some_iff.mp H
            obtain ⟨t137, A100, H⟩ := H
            replace H : ((contangoref05_Weekday.f a0).bind fun t138 => (if t137 = t138 then ((date_Print.f a0).bind fun t139 => ((contangoref05_Print.f k a0).bind fun t140 => (contangolaw05_DateSplits.j0 k a0 t129 t130 t131 t132 (t139.toList != t140.toList)))) else (contangolaw05_DateSplits.j0 k a0 t129 t130 t131 t132 true))) = some r := H
            have A10 := Aside0.mk A100
            clear A100
            replace H := Option.bind_eq_some_iff.mp H
            obtain ⟨t138, A110, H⟩ := H
            replace H : (if t137 = t138 then ((date_Print.f a0).bind fun t139 => ((contangoref05_Print.f k a0).bind fun t140 => (contangolaw05_DateSplits.j0 k a0 t129 t130 t131 t132 (t139.toList != t140.toList)))) else (contangolaw05_DateSplits.j0 k a0 t129 t130 t131 t132 true)) = some r := H
            have A11 := Aside0.mk A110
            clear A110
            by_cases c12 : t137 = t138
            · rw [if_pos c12] at H
              have c12b0 : (t137 == t138) = true := beq_iff_eq.mpr c12
              have c12b1 : (t137 != t138) = false := bne_eq_false_iff_eq.mpr c12
              clear c12
              replace H := Option.bind_eq_some_iff.mp H
              obtain ⟨t139, A130, H⟩ := H
              replace H : ((contangoref05_Print.f k a0).bind fun t140 => (contangolaw05_DateSplits.j0 k a0 t129 t130 t131 t132 (t139.toList != t140.toList))) = some r := H
              have A13 := Aside0.mk A130
              clear A130
              replace H := Option.bind_eq_some_iff.mp H
              obtain ⟨t140, A140, H⟩ := H
              replace H : (contangolaw05_DateSplits.j0 k a0 t129 t130 t131 t132 (t139.toList != t140.toList)) = some r := H
              have A14 := Aside0.mk A140
              clear A140
              have H' := Aside0.mk H
              clear H
              go_wp2_with (first | (go_at_call 18; (with_reducible refine (date_Weekday.calls a0 t137 _ A10.out).mono ?_); rintro e w' ⟨rfl, ⟨nd, rfl⟩⟩) | (go_at_call 19; (with_reducible refine (contangoref05_Weekday.calls a0 t138 _ A11.out).mono ?_); rintro e w' ⟨rfl, ⟨nd, rfl⟩⟩) | (go_at_call 20; (with_reducible refine (date_Print.calls a0 t139 _ (by repeat (first | exact HLONG.out | exact LongAt.after HLONG.out (by assumption) | exact LongAt.below HLONG.out (by assumption) | apply LongAt.drewN | apply LongAt.drew | apply LongAt.alloc)) A13.out).mono ?_); rintro e w15 ⟨rfl, hb⟩; have n0_ := Aside0.mk (below_step (by repeat (first | (with_reducible first | exact HB.out | apply below_alloc | apply pw_below_drewN | apply below_drew1) | exact HB.out)) hb); clear HB; have HB := n0_; clear n0_; (try clear hb); (try clear hb2); (try clear hk); (try clear hi)) | (go_at_call 21; (with_reducible refine (contangoref05_Print.calls k a0 t140 _ A14.out).mono ?_); rintro e w' ⟨rfl, ⟨nd, rfl⟩⟩))
              go_meet
              case rel => exact ⟨_, ((t139.toList != t140.toList)), (by first | rfl | (simp; done) | (simp [*]; done)), H', ⟨by first | omega | exact Nat.le_refl _⟩, ⟨by repeat (first | (with_reducible first | exact HB.out | apply below_alloc | apply pw_below_drewN | apply below_drew1) | exact HB.out)⟩⟩
            · rw [if_neg c12] at H
              have c12b0 : (t137 == t138) = false := beq_eq_false_iff_ne.mpr c12
              have c12b1 : (t137 != t138) = true := bne_iff_ne.mpr c12
              have H' := Aside0.mk H
              clear H
              go_wp2_with (first | (go_at_call 18; (with_reducible refine (date_Weekday.calls a0 t137 _ A10.out).mono ?_); rintro e w' ⟨rfl, ⟨nd, rfl⟩⟩) | (go_at_call 19; (with_reducible refine (contangoref05_Weekday.calls a0 t138 _ A11.out).mono ?_); rintro e w' ⟨rfl, ⟨nd, rfl⟩⟩))
              go_meet
              case rel => exact ⟨_, (true), (by first | rfl | (simp; done) | (simp [*]; done)), H', ⟨by first | omega | exact Nat.le_refl _⟩, ⟨by repeat (first | (with_reducible first | exact HB.out | apply below_alloc | apply pw_below_drewN | apply below_drew1) | exact HB.out)⟩⟩
          · rw [if_neg c9] at H
            have c9b0 : (t132 == t136) = false := beq_eq_false_iff_ne.mpr c9
            have c9b1 : (t132 != t136) = true := bne_iff_ne.mpr c9
            have H' := Aside0.mk H
            clear H
            go_wp2
            go_meet
            case rel => exact ⟨_, (true), (by first | rfl | (simp; done) | (simp [*]; done)), H', ⟨by first | omega | exact Nat.le_refl _⟩, ⟨by repeat (first | (with_reducible first | exact HB.out | apply below_alloc | apply pw_below_drewN | apply below_drew1) | exact HB.out)⟩⟩
        · rw [if_neg c8] at H
          have c8b0 : (t131 == t135) = false := beq_eq_false_iff_ne.mpr c8
          have c8b1 : (t131 != t135) = true := bne_iff_ne.mpr c8
          have H' := Aside0.mk H
          clear H
          go_wp2
          go_meet
          case rel => exact ⟨_, (true), (by first | rfl | (simp; done) | (simp [*]; done)), H', ⟨by first | omega | exact Nat.le_refl _⟩, ⟨by repeat (first | (with_reducible first | exact HB.out | apply below_alloc | apply pw_below_drewN | apply below_drew1) | exact HB.out)⟩⟩
      · rw [if_neg c7] at H
        have c7b0 : (t130 == t134) = false := beq_eq_false_iff_ne.mpr c7
        have c7b1 : (t130 != t134) = true := bne_iff_ne.mpr c7
        have H' := Aside0.mk H
        clear H
        go_wp2
        go_meet
        case rel => exact ⟨_, (true), (by first | rfl | (simp; done) | (simp [*]; done)), H', ⟨by first | omega | exact Nat.le_refl _⟩, ⟨by repeat (first | (with_reducible first | exact HB.out | apply below_alloc | apply pw_below_drewN | apply below_drew1) | exact HB.out)⟩⟩
    · rw [if_neg c6] at H
      have c6b0 : (t129 == t133) = false := beq_eq_false_iff_ne.mpr c6
      have c6b1 : (t129 != t133) = true := bne_iff_ne.mpr c6
      (first | rw [c6b0] | (simp only [i64_w, i32_w]; rw [c6b0]) | rw [c6b1] | skip)
      have H' := Aside0.mk H
      clear H
      go_wp2
      go_meet
      case rel => exact ⟨_, (true), (by first | rfl | (simp; done) | (simp [*]; done)), H', ⟨by first | omega | exact Nat.le_refl _⟩, ⟨by repeat (first | (with_reducible first | exact HB.out | apply below_alloc | apply pw_below_drewN | apply below_drew1) | exact HB.out)⟩⟩
  case rest =>
    clear HC4
    try clear c1
    try clear p2
    try clear c4
    try clear c6
    try clear c6b0
    try clear c6b1
    try clear c7
    try clear c7b0
    try clear c7b1
    try clear c8
    try clear c8b0
    try clear c8b1
    try clear c9
    try clear c9b0
    try clear c9b1
    try clear c12
    try clear c12b0
    try clear c12b1
    obtain ⟨kq, x60_3, rfl, HA, HJ3, HB⟩ := hcut
    cases kq with
    | zero => exact absurd HA.out (by simp [contangolaw05_DateSplits.j0])
    | succ kj3 =>
      have H := HA.out
      clear HA
      simp only [contangolaw05_DateSplits.j0] at H
      by_cases c16 : x60_3 = true
      · subst c16
        have H1 : (none) = some r := by rw [if_pos rfl] at H; exact H
        clear H
        have H := H1
        clear H1
        exact absurd H (by simp)
      · replace c16 := Bool.eq_false_iff.mpr c16
        subst c16
        have H1 : (if t132 = 0 then ((date_Of.f t129 t130 t131).bind fun bt143 => ((date_Print.f a0).bind fun t145 => ((date_Parse.f t145).bind fun bt146 => (if bt143.1 = a0 then (if bt143.2 = 0 then (if bt146.1 = a0 then (if bt146.2 = 0 then ((contangolaw05_goes.f kj3).bind fun t148 => (some t148)) else (none)) else (none)) else (none)) else (none))))) else ((date_Print.f a0).bind fun t141 => (if t141.toList = ([] : List UInt8) then ((contangolaw05_goes.f kj3).bind fun t142 => (some t142)) else (none)))) = some r := by rw [if_neg (show ¬ (false = true) by decide)] at H; exact H
        clear H
        have H := H1
        clear H1
        by_cases c17 : t132 = 0
        · rw [if_pos c17] at H
          have c17b0 : (t132 == 0) = true := beq_iff_eq.mpr c17
          have c17b1 : (t132 != 0) = false := bne_eq_false_iff_eq.mpr c17
          clear c17
          replace H := Option.bind_eq_some_iff.mp H
          obtain ⟨⟨t143, t144⟩, A180, H⟩ := H
          replace H : ((date_Print.f a0).bind fun t145 => ((date_Parse.f t145).bind fun bt146 => (if t143 = a0 then (if t144 = 0 then (if bt146.1 = a0 then (if bt146.2 = 0 then ((contangolaw05_goes.f kj3).bind fun t148 => (some t148)) else (none)) else (none)) else (none)) else (none)))) = some r := H
          have A18 := Aside0.mk A180
          clear A180
          replace H := Option.bind_eq_some_iff.mp H
          obtain ⟨t145, A190, H⟩ := H
          replace H : ((date_Parse.f t145).bind fun bt146 => (if t143 = a0 then (if t144 = 0 then (if bt146.1 = a0 then (if bt146.2 = 0 then ((contangolaw05_goes.f kj3).bind fun t148 => (some t148)) else (none)) else (none)) else (none)) else (none))) = some r := H
          have A19 := Aside0.mk A190
          clear A190
          replace H := Option.bind_eq_some_iff.mp H
          obtain ⟨⟨t146, t147⟩, A200, H⟩ := H
          replace H : (if t143 = a0 then (if t144 = 0 then (if t146 = a0 then (if t147 = 0 then ((contangolaw05_goes.f kj3).bind fun t148 => (some t148)) else (none)) else (none)) else (none)) else (none)) = some r := H
          have A20 := Aside0.mk A200
          clear A200
          by_cases c21 : t143 = a0
          · rw [if_pos c21] at H
            have c21b0 : (t143 == a0) = true := beq_iff_eq.mpr c21
            have c21b1 : (t143 != a0) = false := bne_eq_false_iff_eq.mpr c21
            clear c21
            by_cases c22 : t144 = 0
            · rw [if_pos c22] at H
              have c22b0 : (t144 == 0) = true := beq_iff_eq.mpr c22
              have c22b1 : (t144 != 0) = false := bne_eq_false_iff_eq.mpr c22
              clear c22
              by_cases c23 : t146 = a0
              · rw [if_pos c23] at H
                have c23b0 : (t146 == a0) = true := beq_iff_eq.mpr c23
                have c23b1 : (t146 != a0) = false := bne_eq_false_iff_eq.mpr c23
                clear c23
                by_cases c24 : t147 = 0
                · rw [if_pos c24] at H
                  have c24b0 : (t147 == 0) = true := beq_iff_eq.mpr c24
                  have c24b1 : (t147 != 0) = false := bne_eq_false_iff_eq.mpr c24
                  clear c24
                  replace H := Option.bind_eq_some_iff.mp H
                  obtain ⟨t148, A250, H⟩ := H
                  replace H : (some t148) = some r := H
                  have A25 := Aside0.mk A250
                  clear A250
                  obtain rfl := Option.some.inj H
                  go_wp2_with (first | ((with_reducible refine gate_callee (f := 9) rfl ?_); refine goesL_ (some 73) rfl rfl Tryd.func9 (by kernel_rfl) rfl #[.int .i64 t129, .int .i64 t130, .int .i64 t131] rfl (by (try simp only [List.map_toArray, List.map_cons, List.map_nil]); first | done | rfl | (simp only [List.length_drop, List.length_take]; rfl)) ?_; (with_reducible refine (date_Of.calls t129 t130 t131 t143 t144 _ (by repeat (first | exact HLONG.out | exact LongAt.after HLONG.out (by assumption) | exact LongAt.below HLONG.out (by assumption) | apply LongAt.drewN | apply LongAt.drew | apply LongAt.alloc)) A18.out).mono ?_); rintro e w26 ⟨rfl, hb⟩; refine ⟨_, rfl, ?_⟩; have n0_ := Aside0.mk (below_step (by repeat (first | (with_reducible first | exact HB.out | apply below_alloc | apply pw_below_drewN | apply below_drew1) | exact HB.out)) hb); clear HB; have HB := n0_; clear n0_; (try clear hb); (try clear hb2); (try clear hk); (try clear hi)) | ((with_reducible refine gate_callee (f := 20) rfl ?_); refine goesL_ (some 78) rfl rfl Tryd.func20 (by kernel_rfl) rfl #[.int .i64 a0] rfl (by (try simp only [List.map_toArray, List.map_cons, List.map_nil]); first | done | rfl | (simp only [List.length_drop, List.length_take]; rfl)) ?_; (with_reducible refine (date_Print.calls a0 t145 _ (by repeat (first | exact HLONG.out | exact LongAt.after HLONG.out (by assumption) | exact LongAt.below HLONG.out (by assumption) | apply LongAt.drewN | apply LongAt.drew | apply LongAt.alloc)) A19.out).mono ?_); rintro e w27 ⟨rfl, hb⟩; refine ⟨_, rfl, ?_⟩; have n0_ := Aside0.mk (below_step (by repeat (first | (with_reducible first | exact HB.out | apply below_alloc | apply pw_below_drewN | apply below_drew1) | exact HB.out)) hb); clear HB; have HB := n0_; clear n0_; (try clear hb); (try clear hb2); (try clear hk); (try clear hi)) | ((with_reducible refine gate_callee (f := 22) rfl ?_); refine goesL_ (some 79) rfl rfl Tryd.func22 (by kernel_rfl) rfl #[.string t145] rfl (by (try simp only [List.map_toArray, List.map_cons, List.map_nil]); first | done | rfl | (simp only [List.length_drop, List.length_take]; rfl)) ?_; (with_reducible refine (date_Parse.calls t145 t146 t147 _ (by repeat (first | exact HLONG.out | exact LongAt.after HLONG.out (by assumption) | exact LongAt.below HLONG.out (by assumption) | apply LongAt.drewN | apply LongAt.drew | apply LongAt.alloc)) A20.out).mono ?_); rintro e w28 ⟨rfl, hb⟩; refine ⟨_, rfl, ?_⟩; have n0_ := Aside0.mk (below_step (by repeat (first | (with_reducible first | exact HB.out | apply below_alloc | apply pw_below_drewN | apply below_drew1) | exact HB.out)) hb); clear HB; have HB := n0_; clear n0_; (try clear hb); (try clear hb2); (try clear hk); (try clear hi)) | (go_at_call 15; (with_reducible refine (contangolaw05_goes.calls kj3  t148 _ (by repeat (first | exact HLONG.out | exact LongAt.after HLONG.out (by assumption) | exact LongAt.below HLONG.out (by assumption) | apply LongAt.drewN | apply LongAt.drew | apply LongAt.alloc)) A25.out).mono ?_); rintro e w29 ⟨rfl, hb⟩; have n0_ := Aside0.mk (below_step (by repeat (first | (with_reducible first | exact HB.out | apply below_alloc | apply pw_below_drewN | apply below_drew1) | exact HB.out)) hb); clear HB; have HB := n0_; clear n0_; (try clear hb); (try clear hb2); (try clear hk); (try clear hi)))
                  go_ret
                  exact ⟨by first | rfl | (simp [errW_none, errW_some] <;> rfl) | (simp [*, errW_none, errW_some] <;> rfl), by repeat (first | (with_reducible first | exact HB.out | apply below_alloc | apply pw_below_drewN | apply below_drew1) | exact HB.out)⟩
                · rw [if_neg c24] at H
                  exact absurd H (by simp)
              · rw [if_neg c23] at H
                exact absurd H (by simp)
            · rw [if_neg c22] at H
              exact absurd H (by simp)
          · rw [if_neg c21] at H
            exact absurd H (by simp)
        · rw [if_neg c17] at H
          have c17b0 : (t132 == 0) = false := beq_eq_false_iff_ne.mpr c17
          have c17b1 : (t132 != 0) = true := bne_iff_ne.mpr c17
          replace H := Option.bind_eq_some_iff.mp H
          obtain ⟨t141, A300, H⟩ := H
          replace H : (if t141.toList = ([] : List UInt8) then ((contangolaw05_goes.f kj3).bind fun t142 => (some t142)) else (none)) = some r := H
          have A30 := Aside0.mk A300
          clear A300
          by_cases c31 : t141.toList = ([] : List UInt8)
          · rw [if_pos c31] at H
            have c31b0 : (t141.toList == ([] : List UInt8)) = true := beq_iff_eq.mpr c31
            have c31b1 : (t141.toList != ([] : List UInt8)) = false := bne_eq_false_iff_eq.mpr c31
            clear c31
            replace H := Option.bind_eq_some_iff.mp H
            obtain ⟨t142, A320, H⟩ := H
            replace H : (some t142) = some r := H
            have A32 := Aside0.mk A320
            clear A320
            obtain rfl := Option.some.inj H
            go_wp2_with (first | ((with_reducible refine gate_callee (f := 20) rfl ?_); refine goesL_ (some 64) rfl rfl Tryd.func20 (by kernel_rfl) rfl #[.int .i64 a0] rfl (by (try simp only [List.map_toArray, List.map_cons, List.map_nil]); first | done | rfl | (simp only [List.length_drop, List.length_take]; rfl)) ?_; (with_reducible refine (date_Print.calls a0 t141 _ (by repeat (first | exact HLONG.out | exact LongAt.after HLONG.out (by assumption) | exact LongAt.below HLONG.out (by assumption) | apply LongAt.drewN | apply LongAt.drew | apply LongAt.alloc)) A30.out).mono ?_); rintro e w33 ⟨rfl, hb⟩; refine ⟨_, rfl, ?_⟩; have n0_ := Aside0.mk (below_step (by repeat (first | (with_reducible first | exact HB.out | apply below_alloc | apply pw_below_drewN | apply below_drew1) | exact HB.out)) hb); clear HB; have HB := n0_; clear n0_; (try clear hb); (try clear hb2); (try clear hk); (try clear hi)) | (go_at_call 15; (with_reducible refine (contangolaw05_goes.calls kj3  t142 _ (by repeat (first | exact HLONG.out | exact LongAt.after HLONG.out (by assumption) | exact LongAt.below HLONG.out (by assumption) | apply LongAt.drewN | apply LongAt.drew | apply LongAt.alloc)) A32.out).mono ?_); rintro e w34 ⟨rfl, hb⟩; have n0_ := Aside0.mk (below_step (by repeat (first | (with_reducible first | exact HB.out | apply below_alloc | apply pw_below_drewN | apply below_drew1) | exact HB.out)) hb); clear HB; have HB := n0_; clear n0_; (try clear hb); (try clear hb2); (try clear hk); (try clear hi)))
            go_ret
            exact ⟨by first | rfl | (simp [errW_none, errW_some] <;> rfl) | (simp [*, errW_none, errW_some] <;> rfl), by repeat (first | (with_reducible first | exact HB.out | apply below_alloc | apply pw_below_drewN | apply below_drew1) | exact HB.out)⟩
          · rw [if_neg c31] at H
            exact absurd H (by simp)

/-- THE ONE PURE STATEMENT of contangolaw05_DateSplits: yours. -/
def contangolaw05_DateSplits.Pure : Prop := ∀ (a0 : Int), (Lit.int .i64 a0).wf = true → ∃ k, contangolaw05_DateSplits.f k a0 = some true
theorem contangolaw05_DateSplits.walk (P : contangolaw05_DateSplits.Pure) (a0 : Int) (w : World) (hL : LongAt w) (w0 : (Lit.int .i64 a0).wf = true) :
    Calls Tryd.prog 4 #[.int .i64 a0] w fun e w' => e = .returned (.bool true) ∧ Below w.heap.size w w' := by
  obtain ⟨k, h⟩ := P a0 w0
  refine (contangolaw05_DateSplits.calls k a0 true w hL h).mono ?_
  rintro e w' ⟨rfl, hd⟩
  exact ⟨rfl, hd⟩

end Go.Proofs.YtmhlajgeihjaeaaDoor.PDateSplits
