/- Laid for this claim by a program of this session's (wip/mkprint.py, wip/ext.py); not trusted: Lean checks it. -/
import Derived.Test.YtmhlajgeihjaeaaDoorPDateNextx0
import Derived.Test.YtmhlajgeihjaeaaDoorPDateNextx1
import Derived.Test.YtmhlajgeihjaeaaDoorPDateNextx2
namespace Go.Proofs.YtmhlajgeihjaeaaDoor.PDateNext
open Go.RowKit Go.Proofs.YtmhlajgeihjaeaaDoorW.PrintWords Go.Proofs.YtmhlajgeihjaeaaDoorW.PrintLast Go.Proofs.YtmhlajgeihjaeaaDoorW.PrintMore
attribute [local go_sem] max2_int min2_int max_two min_two max_three min_three max_four min_four   -- for this text's walks alone
set_option linter.unusedVariables false
set_option linter.unusedSimpArgs false

/-! ### contangolaw05_DateNext: function 7 -/
mutual
def contangolaw05_DateNext.j0 : Nat → Int → Bool → Option (Bool)
  | 0, _, _ => none
  | k + 1, x0, x16 => if x16 = true then ((contangolaw05_goes.f k).bind fun t117 => (some t117)) else ((date_Split.f x0).bind fun bt118 => ((date_Split.f (wrap64 (x0 + 1))).bind fun bt122 => (if bt118.2.2.2 = 0 then (if bt122.2.2.2 = 0 then ((date_Print.f x0).bind fun t126 => ((date_Print.f (wrap64 (x0 + 1))).bind fun t127 => (if ((Op.bytesLess t126.toList t127.toList) = true) then ((date_Weekday.f (wrap64 (x0 + 1))).bind fun t128 => ((date_Weekday.f x0).bind fun t129 => (contangolaw05_DateNext.j1 k bt118.1 bt118.2.1 bt118.2.2.1 bt122.1 bt122.2.1 bt122.2.2.1 (t128 != (wrap64 ((Int.tmod t129 7) + 1)))))) else (contangolaw05_DateNext.j1 k bt118.1 bt118.2.1 bt118.2.2.1 bt122.1 bt122.2.1 bt122.2.2.1 true)))) else (contangolaw05_DateNext.j1 k bt118.1 bt118.2.1 bt118.2.2.1 bt122.1 bt122.2.1 bt122.2.2.1 true)) else (contangolaw05_DateNext.j1 k bt118.1 bt118.2.1 bt118.2.2.1 bt122.1 bt122.2.1 bt122.2.2.1 true))))
def contangolaw05_DateNext.j1 : Nat → Int → Int → Int → Int → Int → Int → Bool → Option (Bool)
  | 0, _, _, _, _, _, _, _ => none
  | k + 1, x3, x4, x5, x7, x8, x9, x56 => if x56 = true then (none) else ((date_Days.f x3 x4).bind fun t130 => (if x5 < t130 then (if x7 = x3 then (if x8 = x4 then (if x9 = (wrap64 (x5 + 1)) then ((contangolaw05_goes.f k).bind fun t131 => (some t131)) else (none)) else (none)) else (none)) else (if x4 < 12 then (if x7 = x3 then (if x8 = (wrap64 (x4 + 1)) then (if x9 = 1 then ((contangolaw05_goes.f k).bind fun t132 => (some t132)) else (none)) else (none)) else (none)) else (if x7 = (wrap64 (x3 + 1)) then (if x8 = 1 then (if x9 = 1 then ((contangolaw05_goes.f k).bind fun t133 => (some t133)) else (none)) else (none)) else (none)))))
end
def contangolaw05_DateNext.f (k : Nat) (a0 : Int) : Option (Bool) := if a0 < 0 then (contangolaw05_DateNext.j0 k a0 true) else (contangolaw05_DateNext.j0 k a0 (decide (a0 ≥ 73048)))
theorem contangolaw05_DateNext.mono_l : ∀ k, (∀ y0 y1, LeO (contangolaw05_DateNext.j0 k y0 y1) (contangolaw05_DateNext.j0 (k + 1) y0 y1)) ∧ (∀ y0 y1 y2 y3 y4 y5 y6, LeO (contangolaw05_DateNext.j1 k y0 y1 y2 y3 y4 y5 y6) (contangolaw05_DateNext.j1 (k + 1) y0 y1 y2 y3 y4 y5 y6))
  | 0 => ⟨fun _ _ r h => by simp [contangolaw05_DateNext.j0] at h, fun _ _ _ _ _ _ _ r h => by simp [contangolaw05_DateNext.j1] at h⟩
  | k + 1 => by
    obtain ⟨ih0, ih1⟩ := contangolaw05_DateNext.mono_l k
    refine ⟨?_, ?_⟩
    · intro y0 y1
      unfold contangolaw05_DateNext.j0
      repeat' first
      | (with_reducible exact ih0 _ _)
      | (with_reducible exact ih1 _ _ _ _ _ _ _)
      | (with_reducible exact contangolaw05_goes.mono _)
      | (with_reducible exact LeO.refl _)
      | (with_reducible exact LeO.none _)
      | (with_reducible refine LeO.ite ?_ ?_)
      | (with_reducible refine LeO.bind ?_ (fun _ => ?_))
      | exact ih0 _ _
      | exact ih1 _ _ _ _ _ _ _
      | exact contangolaw05_goes.mono _
      | exact LeO.none _
      | refine LeO.ite ?_ ?_
      | refine LeO.bind ?_ (fun _ => ?_)
    · intro y0 y1 y2 y3 y4 y5 y6
      unfold contangolaw05_DateNext.j1
      repeat' first
      | (with_reducible exact ih0 _ _)
      | (with_reducible exact ih1 _ _ _ _ _ _ _)
      | (with_reducible exact contangolaw05_goes.mono _)
      | (with_reducible exact LeO.refl _)
      | (with_reducible exact LeO.none _)
      | (with_reducible refine LeO.ite ?_ ?_)
      | (with_reducible refine LeO.bind ?_ (fun _ => ?_))
      | exact ih0 _ _
      | exact ih1 _ _ _ _ _ _ _
      | exact contangolaw05_goes.mono _
      | exact LeO.none _
      | refine LeO.ite ?_ ?_
      | refine LeO.bind ?_ (fun _ => ?_)
theorem contangolaw05_DateNext.mono : ∀ a0 k, LeO (contangolaw05_DateNext.f k a0) (contangolaw05_DateNext.f (k + 1) a0) := by
  intro a0 k
  obtain ⟨ih0, ih1⟩ := contangolaw05_DateNext.mono_l k
  unfold contangolaw05_DateNext.f
  repeat' first
      | (with_reducible exact ih0 _ _)
      | (with_reducible exact ih1 _ _ _ _ _ _ _)
      | (with_reducible exact contangolaw05_goes.mono _)
      | (with_reducible exact LeO.refl _)
      | (with_reducible exact LeO.none _)
      | (with_reducible refine LeO.ite ?_ ?_)
      | (with_reducible refine LeO.bind ?_ (fun _ => ?_))
      | exact ih0 _ _
      | exact ih1 _ _ _ _ _ _ _
      | exact contangolaw05_goes.mono _
      | exact LeO.none _
      | refine LeO.ite ?_ ?_
      | refine LeO.bind ?_ (fun _ => ?_)
set_option maxHeartbeats 8000000 in
set_option maxRecDepth 100000 in
theorem contangolaw05_DateNext.calls (k : Nat) (a0 : Int) (r : Bool) (w : World) (hL : LongAt w) (h : contangolaw05_DateNext.f k a0 = some r) :
    Calls Tryd.prog 7 #[.int .i64 a0] w fun e w' => e = .returned (.bool r) ∧ Below w.heap.size w w' := by
  have HLONG := Aside0.mk hL
  clear hL
  have HB := Aside0.mk (Below.refl w.heap.size w)
  have H : (if a0 < 0 then (contangolaw05_DateNext.j0 k a0 true) else (contangolaw05_DateNext.j0 k a0 (decide (a0 ≥ 73048)))) = some r := h
  clear h
  have HC2 := Aside0.mk H
  clear H
  go_enter Tryd.func7, Tryd.ntmps7
  go_upto_region 1 with (fail)
  go_cut [16] (fun v16 wc => ∃ (kq : Nat) (x16_1 : Bool), v16 = .bool x16_1 ∧ Aside0 (contangolaw05_DateNext.j0 kq a0 x16_1 = some r) ∧ Aside0 (kq ≤ k) ∧ Aside0 (Below w.heap.size w wc))
  case first =>
    have H := HC2.out
    clear HC2
    by_cases c3 : a0 < 0
    · rw [if_pos c3] at H
      have c3b0 : decide (a0 < 0) = true := decide_eq_true c3
      clear c3
      (first | rw [c3b0] | (simp only [i64_w, i32_w]; rw [c3b0]) | skip)
      have H' := Aside0.mk H
      clear H
      go_wp2
      go_meet
      case rel => exact ⟨_, (true), (by first | rfl | (simp; done) | (simp [*]; done)), H', ⟨by first | omega | exact Nat.le_refl _⟩, ⟨by repeat (first | (with_reducible first | exact HB.out | apply below_alloc | apply pw_below_drewN | apply below_drew1) | exact HB.out)⟩⟩
    · rw [if_neg c3] at H
      have c3b0 : decide (a0 < 0) = false := decide_eq_false c3
      clear c3
      (first | rw [c3b0] | (simp only [i64_w, i32_w]; rw [c3b0]) | skip)
      have H' := Aside0.mk H
      clear H
      go_wp2
      go_meet
      case rel => exact ⟨_, (decide (a0 ≥ 73048)), (by first | rfl | (simp; done) | (simp [*]; done)), H', ⟨by first | omega | exact Nat.le_refl _⟩, ⟨by repeat (first | (with_reducible first | exact HB.out | apply below_alloc | apply pw_below_drewN | apply below_drew1) | exact HB.out)⟩⟩
  case rest =>
    clear HC2
    try clear p2
    try clear c3
    try clear c3b0
    obtain ⟨kq, x16_1, rfl, HA, HJ1, HB⟩ := hcut
    cases kq with
    | zero => exact absurd HA.out (by simp [contangolaw05_DateNext.j0])
    | succ kj1 =>
      have H := HA.out
      clear HA
      simp only [contangolaw05_DateNext.j0] at H
      by_cases c4 : x16_1 = true
      · subst c4
        have H1 : ((contangolaw05_goes.f kj1).bind fun t117 => (some t117)) = some r := by rw [if_pos rfl] at H; exact H
        clear H
        have H := H1
        clear H1
        replace H := Option.bind_eq_some_iff.mp H
        obtain ⟨t117, A50, H⟩ := H
        replace H : (some t117) = some r := H
        have A5 := Aside0.mk A50
        clear A50
        obtain rfl := Option.some.inj H
        go_wp2_with (first | ((with_reducible refine gate_callee (f := 15) rfl ?_); refine goesL_ (some 17) rfl rfl Tryd.func15 (by kernel_rfl) rfl #[] rfl (by (try simp only [List.map_toArray, List.map_cons, List.map_nil]); first | done | rfl | (simp only [List.length_drop, List.length_take]; rfl)) ?_; (with_reducible refine (contangolaw05_goes.calls kj1  t117 _ (by repeat (first | exact HLONG.out | exact LongAt.after HLONG.out (by assumption) | exact LongAt.below HLONG.out (by assumption) | apply LongAt.drewN | apply LongAt.drew | apply LongAt.alloc)) A5.out).mono ?_); rintro e w6 ⟨rfl, hb⟩; refine ⟨_, rfl, ?_⟩; have n0_ := Aside0.mk (below_step (by repeat (first | (with_reducible first | exact HB.out | apply below_alloc | apply pw_below_drewN | apply below_drew1) | exact HB.out)) hb); clear HB; have HB := n0_; clear n0_; (try clear hb); (try clear hb2); (try clear hk); (try clear hi)))
        go_ret
        exact ⟨by first | rfl | (simp [errW_none, errW_some] <;> rfl) | (simp [*, errW_none, errW_some] <;> rfl), by repeat (first | (with_reducible first | exact HB.out | apply below_alloc | apply pw_below_drewN | apply below_drew1) | exact HB.out)⟩
      · replace c4 := Bool.eq_false_iff.mpr c4
        subst c4
        have H1 : ((date_Split.f a0).bind fun bt118 => ((date_Split.f (wrap64 (a0 + 1))).bind fun bt122 => (if bt118.2.2.2 = 0 then (if bt122.2.2.2 = 0 then ((date_Print.f a0).bind fun t126 => ((date_Print.f (wrap64 (a0 + 1))).bind fun t127 => (if ((Op.bytesLess t126.toList t127.toList) = true) then ((date_Weekday.f (wrap64 (a0 + 1))).bind fun t128 => ((date_Weekday.f a0).bind fun t129 => (contangolaw05_DateNext.j1 kj1 bt118.1 bt118.2.1 bt118.2.2.1 bt122.1 bt122.2.1 bt122.2.2.1 (t128 != (wrap64 ((Int.tmod t129 7) + 1)))))) else (contangolaw05_DateNext.j1 kj1 bt118.1 bt118.2.1 bt118.2.2.1 bt122.1 bt122.2.1 bt122.2.2.1 true)))) else (contangolaw05_DateNext.j1 kj1 bt118.1 bt118.2.1 bt118.2.2.1 bt122.1 bt122.2.1 bt122.2.2.1 true)) else (contangolaw05_DateNext.j1 kj1 bt118.1 bt118.2.1 bt118.2.2.1 bt122.1 bt122.2.1 bt122.2.2.1 true)))) = some r := by rw [if_neg (show ¬ (false = true) by decide)] at H; exact H
        clear H
        have H := H1
        clear H1
        replace H := Option.bind_eq_some_iff.mp H
        obtain ⟨⟨t118, t119, t120, t121⟩, A70, H⟩ := H
        replace H : ((date_Split.f (wrap64 (a0 + 1))).bind fun bt122 => (if t121 = 0 then (if bt122.2.2.2 = 0 then ((date_Print.f a0).bind fun t126 => ((date_Print.f (wrap64 (a0 + 1))).bind fun t127 => (if ((Op.bytesLess t126.toList t127.toList) = true) then ((date_Weekday.f (wrap64 (a0 + 1))).bind fun t128 => ((date_Weekday.f a0).bind fun t129 => (contangolaw05_DateNext.j1 kj1 t118 t119 t120 bt122.1 bt122.2.1 bt122.2.2.1 (t128 != (wrap64 ((Int.tmod t129 7) + 1)))))) else (contangolaw05_DateNext.j1 kj1 t118 t119 t120 bt122.1 bt122.2.1 bt122.2.2.1 true)))) else (contangolaw05_DateNext.j1 kj1 t118 t119 t120 bt122.1 bt122.2.1 bt122.2.2.1 true)) else (contangolaw05_DateNext.j1 kj1 t118 t119 t120 bt122.1 bt122.2.1 bt122.2.2.1 true))) = some r := H
        have A7 := Aside0.mk A70
        clear A70
        replace H := Option.bind_eq_some_iff.mp H
        obtain ⟨⟨t122, t123, t124, t125⟩, A80, H⟩ := H
        replace H : (if t121 = 0 then (if t125 = 0 then ((date_Print.f a0).bind fun t126 => ((date_Print.f (wrap64 (a0 + 1))).bind fun t127 => (if ((Op.bytesLess t126.toList t127.toList) = true) then ((date_Weekday.f (wrap64 (a0 + 1))).bind fun t128 => ((date_Weekday.f a0).bind fun t129 => (contangolaw05_DateNext.j1 kj1 t118 t119 t120 t122 t123 t124 (t128 != (wrap64 ((Int.tmod t129 7) + 1)))))) else (contangolaw05_DateNext.j1 kj1 t118 t119 t120 t122 t123 t124 true)))) else (contangolaw05_DateNext.j1 kj1 t118 t119 t120 t122 t123 t124 true)) else (contangolaw05_DateNext.j1 kj1 t118 t119 t120 t122 t123 t124 true)) = some r := H
        have A8 := Aside0.mk A80
        clear A80
        have HC9 := Aside0.mk H
        clear H
        go_upto_region 5 with (first | ((with_reducible refine gate_callee (f := 16) rfl ?_); refine goesL_ (some 20) rfl rfl Tryd.func16 (by kernel_rfl) rfl #[.int .i64 a0] rfl (by (try simp only [List.map_toArray, List.map_cons, List.map_nil]); first | done | rfl | (simp only [List.length_drop, List.length_take]; rfl)) ?_; (with_reducible refine (date_Split.calls a0 t118 t119 t120 t121 _ (by repeat (first | exact HLONG.out | exact LongAt.after HLONG.out (by assumption) | exact LongAt.below HLONG.out (by assumption) | apply LongAt.drewN | apply LongAt.drew | apply LongAt.alloc)) A7.out).mono ?_); rintro e w10 ⟨rfl, hb⟩; refine ⟨_, rfl, ?_⟩; have n0_ := Aside0.mk (below_step (by repeat (first | (with_reducible first | exact HB.out | apply below_alloc | apply pw_below_drewN | apply below_drew1) | exact HB.out)) hb); clear HB; have HB := n0_; clear n0_; (try clear hb); (try clear hb2); (try clear hk); (try clear hi)) | ((with_reducible refine gate_callee (f := 16) rfl ?_); refine goesL_ (some 28) rfl rfl Tryd.func16 (by kernel_rfl) rfl #[.int .i64 (wrap64 (a0 + 1))] rfl (by (try simp only [List.map_toArray, List.map_cons, List.map_nil]); first | done | rfl | (simp only [List.length_drop, List.length_take]; rfl)) ?_; (with_reducible refine (date_Split.calls (wrap64 (a0 + 1)) t122 t123 t124 t125 _ (by repeat (first | exact HLONG.out | exact LongAt.after HLONG.out (by assumption) | exact LongAt.below HLONG.out (by assumption) | apply LongAt.drewN | apply LongAt.drew | apply LongAt.alloc)) A8.out).mono ?_); rintro e w11 ⟨rfl, hb⟩; refine ⟨_, rfl, ?_⟩; have n0_ := Aside0.mk (below_step (by repeat (first | (with_reducible first | exact HB.out | apply below_alloc | apply pw_below_drewN | apply below_drew1) | exact HB.out)) hb); clear HB; have HB := n0_; clear n0_; (try clear hb); (try clear hb2); (try clear hk); (try clear hi)))
        (try simp only [Act.put, List.setIfInBounds_toArray, List.set_cons_zero, List.set_cons_succ])
        go_cut [56] (fun v56 wc => ∃ (kq : Nat) (x56_8 : Bool), v56 = .bool x56_8 ∧ Aside0 (contangolaw05_DateNext.j1 kq t118 t119 t120 t122 t123 t124 x56_8 = some r) ∧ Aside0 (kq ≤ kj1) ∧ Aside0 (Below w.heap.size w wc))
        case first =>
          have H := HC9.out
          clear HC9
          by_cases c12 : t121 = 0
          · rw [if_pos c12] at H
            have c12b0 : (t121 == 0) = true := beq_iff_eq.mpr c12
            have c12b1 : (t121 != 0) = false := bne_eq_false_iff_eq.mpr c12
            clear c12
            (first | rw [c12b0] | (simp only [i64_w, i32_w]; rw [c12b0]) | rw [c12b1] | skip)
            by_cases c13 : t125 = 0
            · rw [if_pos c13] at H
              have c13b0 : (t125 == 0) = true := beq_iff_eq.mpr c13
              have c13b1 : (t125 != 0) = false := bne_eq_false_iff_eq.mpr c13
              clear c13
              replace H := Option.bind_eq_some_iff.mp H
              obtain ⟨t126, A140, H⟩ := H
              replace H : ((date_Print.f (wrap64 (a0 + 1))).bind fun t127 => (if ((Op.bytesLess t126.toList t127.toList) = true) then ((date_Weekday.f (wrap64 (a0 + 1))).bind fun t128 => ((date_Weekday.f a0).bind fun t129 => (contangolaw05_DateNext.j1 kj1 t118 t119 t120 t122 t123 t124 (t128 != (wrap64 ((Int.tmod t129 7) + 1)))))) else (contangolaw05_DateNext.j1 kj1 t118 t119 t120 t122 t123 t124 true))) = some r := H
              have A14 := Aside0.mk A140
              clear A140
              replace H := Option.bind_eq_some_iff.mp H
              obtain ⟨t127, A150, H⟩ := H
              replace H : (if ((Op.bytesLess t126.toList t127.toList) = true) then ((date_Weekday.f (wrap64 (a0 + 1))).bind fun t128 => ((date_Weekday.f a0).bind fun t129 => (contangolaw05_DateNext.j1 kj1 t118 t119 t120 t122 t123 t124 (t128 != (wrap64 ((Int.tmod t129 7) + 1)))))) else (contangolaw05_DateNext.j1 kj1 t118 t119 t120 t122 t123 t124 true)) = some r := H
              have A15 := Aside0.mk A150
              clear A150
              by_cases c16 : ((Op.bytesLess t126.toList t127.toList) = true)
              · rw [if_pos c16] at H
                have c16b0 : (Op.bytesLess t126.toList t127.toList) = true := c16
                clear c16
                replace H := Option.bind_eq_some_iff.mp H
                obtain ⟨t128, A170, H⟩ := H
                replace H : ((date_Weekday.f a0).bind fun t129 => (contangolaw05_DateNext.j1 kj1 t118 t119 t120 t122 t123 t124 (t128 != (wrap64 ((Int.tmod t129 7) + 1))))) = some r := H
                have A17 := Aside0.mk A170
                clear A170
                replace H := Option.bind_eq_some_iff.mp H
                obtain ⟨t129, A180, H⟩ := H
                replace H : (contangolaw05_DateNext.j1 kj1 t118 t119 t120 t122 t123 t124 (t128 != (wrap64 ((Int.tmod t129 7) + 1)))) = some r := H
                have A18 := Aside0.mk A180
                clear A180
                have H' := Aside0.mk H
                clear H
                go_wp2_with (first | (go_at_call 20; (with_reducible refine (date_Print.calls a0 t126 _ (by repeat (first | exact HLONG.out | exact LongAt.after HLONG.out (by assumption) | exact LongAt.below HLONG.out (by assumption) | apply LongAt.drewN | apply LongAt.drew | apply LongAt.alloc)) A14.out).mono ?_); rintro e w19 ⟨rfl, hb⟩; have n0_ := Aside0.mk (below_step (by repeat (first | (with_reducible first | exact HB.out | apply below_alloc | apply pw_below_drewN | apply below_drew1) | exact HB.out)) hb); clear HB; have HB := n0_; clear n0_; (try clear hb); (try clear hb2); (try clear hk); (try clear hi)) | (go_at_call 20; (with_reducible refine (date_Print.calls (wrap64 (a0 + 1)) t127 _ (by repeat (first | exact HLONG.out | exact LongAt.after HLONG.out (by assumption) | exact LongAt.below HLONG.out (by assumption) | apply LongAt.drewN | apply LongAt.drew | apply LongAt.alloc)) A15.out).mono ?_); rintro e w20 ⟨rfl, hb⟩; have n0_ := Aside0.mk (below_step (by repeat (first | (with_reducible first | exact HB.out | apply below_alloc | apply pw_below_drewN | apply below_drew1) | exact HB.out)) hb); clear HB; have HB := n0_; clear n0_; (try clear hb); (try clear hb2); (try clear hk); (try clear hi)) | (go_at_call 18; (with_reducible refine (date_Weekday.calls (wrap64 (a0 + 1)) t128 _ A17.out).mono ?_); rintro e w' ⟨rfl, ⟨nd, rfl⟩⟩) | (go_at_call 18; (with_reducible refine (date_Weekday.calls a0 t129 _ A18.out).mono ?_); rintro e w' ⟨rfl, ⟨nd, rfl⟩⟩))
                go_meet
                case rel => exact ⟨_, ((t128 != (wrap64 ((Int.tmod t129 7) + 1)))), (by first | rfl | (simp; done) | (simp [*]; done)), H', ⟨by have := HJ1.out; first | omega | exact Nat.le_refl _⟩, ⟨by repeat (first | (with_reducible first | exact HB.out | apply below_alloc | apply pw_below_drewN | apply below_drew1) | exact HB.out)⟩⟩
              · rw [if_neg c16] at H
                have c16b0 : (Op.bytesLess t126.toList t127.toList) = false := by simpa using c16
                clear c16
                have H' := Aside0.mk H
                clear H
                go_wp2_with (first | (go_at_call 20; (with_reducible refine (date_Print.calls a0 t126 _ (by repeat (first | exact HLONG.out | exact LongAt.after HLONG.out (by assumption) | exact LongAt.below HLONG.out (by assumption) | apply LongAt.drewN | apply LongAt.drew | apply LongAt.alloc)) A14.out).mono ?_); rintro e w21 ⟨rfl, hb⟩; have n0_ := Aside0.mk (below_step (by repeat (first | (with_reducible first | exact HB.out | apply below_alloc | apply pw_below_drewN | apply below_drew1) | exact HB.out)) hb); clear HB; have HB := n0_; clear n0_; (try clear hb); (try clear hb2); (try clear hk); (try clear hi)) | (go_at_call 20; (with_reducible refine (date_Print.calls (wrap64 (a0 + 1)) t127 _ (by repeat (first | exact HLONG.out | exact LongAt.after HLONG.out (by assumption) | exact LongAt.below HLONG.out (by assumption) | apply LongAt.drewN | apply LongAt.drew | apply LongAt.alloc)) A15.out).mono ?_); rintro e w22 ⟨rfl, hb⟩; have n0_ := Aside0.mk (below_step (by repeat (first | (with_reducible first | exact HB.out | apply below_alloc | apply pw_below_drewN | apply below_drew1) | exact HB.out)) hb); clear HB; have HB := n0_; clear n0_; (try clear hb); (try clear hb2); (try clear hk); (try clear hi)))
                go_meet
                case rel => exact ⟨_, (true), (by first | rfl | (simp; done) | (simp [*]; done)), H', ⟨by have := HJ1.out; first | omega | exact Nat.le_refl _⟩, ⟨by repeat (first | (with_reducible first | exact HB.out | apply below_alloc | apply pw_below_drewN | apply below_drew1) | exact HB.out)⟩⟩
            · rw [if_neg c13] at H
              have c13b0 : (t125 == 0) = false := beq_eq_false_iff_ne.mpr c13
              have c13b1 : (t125 != 0) = true := bne_iff_ne.mpr c13
              have H' := Aside0.mk H
              clear H
              go_wp2
              go_meet
              case rel => exact ⟨_, (true), (by first | rfl | (simp; done) | (simp [*]; done)), H', ⟨by have := HJ1.out; first | omega | exact Nat.le_refl _⟩, ⟨by repeat (first | (with_reducible first | exact HB.out | apply below_alloc | apply pw_below_drewN | apply below_drew1) | exact HB.out)⟩⟩
          · rw [if_neg c12] at H
            have c12b0 : (t121 == 0) = false := beq_eq_false_iff_ne.mpr c12
            have c12b1 : (t121 != 0) = true := bne_iff_ne.mpr c12
            (first | rw [c12b0] | (simp only [i64_w, i32_w]; rw [c12b0]) | rw [c12b1] | skip)
            have H' := Aside0.mk H
            clear H
            go_wp2
            go_meet
            case rel => exact ⟨_, (true), (by first | rfl | (simp; done) | (simp [*]; done)), H', ⟨by have := HJ1.out; first | omega | exact Nat.le_refl _⟩, ⟨by repeat (first | (with_reducible first | exact HB.out | apply below_alloc | apply pw_below_drewN | apply below_drew1) | exact HB.out)⟩⟩
        case rest =>
          clear HC9
          try clear c1
          try clear p2
          try clear c3
          try clear c3b0
          try clear c4
          try clear p6
          try clear c7
          try clear c12
          try clear c12b0
          try clear c12b1
          try clear c13
          try clear c13b0
          try clear c13b1
          try clear c15
          try clear c16
          try clear c16b0
          try clear p2
          obtain ⟨kq, x56_8, rfl, HA, HJ8, HB⟩ := hcut
          cases kq with
          | zero => exact absurd HA.out (by simp [contangolaw05_DateNext.j1])
          | succ kj8 =>
            have H := HA.out
            clear HA
            simp only [contangolaw05_DateNext.j1] at H
            by_cases c23 : x56_8 = true
            · subst c23
              have H1 : (none) = some r := by rw [if_pos rfl] at H; exact H
              clear H
              have H := H1
              clear H1
              exact absurd H (by simp)
            · replace c23 := Bool.eq_false_iff.mpr c23
              subst c23
              have H1 : ((date_Days.f t118 t119).bind fun t130 => (if t120 < t130 then (if t122 = t118 then (if t123 = t119 then (if t124 = (wrap64 (t120 + 1)) then ((contangolaw05_goes.f kj8).bind fun t131 => (some t131)) else (none)) else (none)) else (none)) else (if t119 < 12 then (if t122 = t118 then (if t123 = (wrap64 (t119 + 1)) then (if t124 = 1 then ((contangolaw05_goes.f kj8).bind fun t132 => (some t132)) else (none)) else (none)) else (none)) else (if t122 = (wrap64 (t118 + 1)) then (if t123 = 1 then (if t124 = 1 then ((contangolaw05_goes.f kj8).bind fun t133 => (some t133)) else (none)) else (none)) else (none))))) = some r := by rw [if_neg (show ¬ (false = true) by decide)] at H; exact H
              clear H
              have H := H1
              clear H1
              replace H := Option.bind_eq_some_iff.mp H
              obtain ⟨t130, A240, H⟩ := H
              replace H : (if t120 < t130 then (if t122 = t118 then (if t123 = t119 then (if t124 = (wrap64 (t120 + 1)) then ((contangolaw05_goes.f kj8).bind fun t131 => (some t131)) else (none)) else (none)) else (none)) else (if t119 < 12 then (if t122 = t118 then (if t123 = (wrap64 (t119 + 1)) then (if t124 = 1 then ((contangolaw05_goes.f kj8).bind fun t132 => (some t132)) else (none)) else (none)) else (none)) else (if t122 = (wrap64 (t118 + 1)) then (if t123 = 1 then (if t124 = 1 then ((contangolaw05_goes.f kj8).bind fun t133 => (some t133)) else (none)) else (none)) else (none)))) = some r := H
              have A24 := Aside0.mk A240
              clear A240
              by_cases c25 : t120 < t130
              · rw [if_pos c25] at H
                have c25b0 : decide (t120 < t130) = true := decide_eq_true c25
                clear c25
                by_cases c26 : t122 = t118
                · rw [if_pos c26] at H
                  have c26b0 : (t122 == t118) = true := beq_iff_eq.mpr c26
                  have c26b1 : (t122 != t118) = false := bne_eq_false_iff_eq.mpr c26
                  clear c26
                  by_cases c27 : t123 = t119
                  · rw [if_pos c27] at H
                    have c27b0 : (t123 == t119) = true := beq_iff_eq.mpr c27
                    have c27b1 : (t123 != t119) = false := bne_eq_false_iff_eq.mpr c27
                    clear c27
                    by_cases c28 : t124 = (wrap64 (t120 + 1))
                    · rw [if_pos c28] at H
                      have c28b0 : (t124 == (wrap64 (t120 + 1))) = true := beq_iff_eq.mpr c28
                      have c28b1 : (t124 != (wrap64 (t120 + 1))) = false := bne_eq_false_iff_eq.mpr c28
                      clear c28
                      replace H := Option.bind_eq_some_iff.mp H
                      obtain ⟨t131, A290, H⟩ := H
                      replace H : (some t131) = some r := H
                      have A29 := Aside0.mk A290
                      clear A290
                      obtain rfl := Option.some.inj H
                      go_wp2_with (first | ((with_reducible refine gate_callee (f := 13) rfl ?_); refine goesL_ (some 61) rfl rfl Tryd.func13 (by kernel_rfl) rfl #[.int .i64 t118, .int .i64 t119] rfl (by (try simp only [List.map_toArray, List.map_cons, List.map_nil]); first | done | rfl | (simp only [List.length_drop, List.length_take]; rfl)) ?_; (with_reducible refine (date_Days.calls t118 t119 t130 _ (by repeat (first | exact HLONG.out | exact LongAt.after HLONG.out (by assumption) | exact LongAt.below HLONG.out (by assumption) | apply LongAt.drewN | apply LongAt.drew | apply LongAt.alloc)) A24.out).mono ?_); rintro e w30 ⟨rfl, hb⟩; refine ⟨_, rfl, ?_⟩; have n0_ := Aside0.mk (below_step (by repeat (first | (with_reducible first | exact HB.out | apply below_alloc | apply pw_below_drewN | apply below_drew1) | exact HB.out)) hb); clear HB; have HB := n0_; clear n0_; (try clear hb); (try clear hb2); (try clear hk); (try clear hi)) | (go_at_call 15; (with_reducible refine (contangolaw05_goes.calls kj8  t131 _ (by repeat (first | exact HLONG.out | exact LongAt.after HLONG.out (by assumption) | exact LongAt.below HLONG.out (by assumption) | apply LongAt.drewN | apply LongAt.drew | apply LongAt.alloc)) A29.out).mono ?_); rintro e w31 ⟨rfl, hb⟩; have n0_ := Aside0.mk (below_step (by repeat (first | (with_reducible first | exact HB.out | apply below_alloc | apply pw_below_drewN | apply below_drew1) | exact HB.out)) hb); clear HB; have HB := n0_; clear n0_; (try clear hb); (try clear hb2); (try clear hk); (try clear hi)))
                      go_ret
                      exact ⟨by first | rfl | (simp [errW_none, errW_some] <;> rfl) | (simp [*, errW_none, errW_some] <;> rfl), by repeat (first | (with_reducible first | exact HB.out | apply below_alloc | apply pw_below_drewN | apply below_drew1) | exact HB.out)⟩
                    · rw [if_neg c28] at H
                      exact absurd H (by simp)
                  · rw [if_neg c27] at H
                    exact absurd H (by simp)
                · rw [if_neg c26] at H
                  exact absurd H (by simp)
              · rw [if_neg c25] at H
                have c25b0 : decide (t120 < t130) = false := decide_eq_false c25
                clear c25
                by_cases c32 : t119 < 12
                · rw [if_pos c32] at H
                  have c32b0 : decide (t119 < 12) = true := decide_eq_true c32
                  clear c32
                  by_cases c33 : t122 = t118
                  · rw [if_pos c33] at H
                    have c33b0 : (t122 == t118) = true := beq_iff_eq.mpr c33
                    have c33b1 : (t122 != t118) = false := bne_eq_false_iff_eq.mpr c33
                    clear c33
                    by_cases c34 : t123 = (wrap64 (t119 + 1))
                    · rw [if_pos c34] at H
                      have c34b0 : (t123 == (wrap64 (t119 + 1))) = true := beq_iff_eq.mpr c34
                      have c34b1 : (t123 != (wrap64 (t119 + 1))) = false := bne_eq_false_iff_eq.mpr c34
                      clear c34
                      by_cases c35 : t124 = 1
                      · rw [if_pos c35] at H
                        have c35b0 : (t124 == 1) = true := beq_iff_eq.mpr c35
                        have c35b1 : (t124 != 1) = false := bne_eq_false_iff_eq.mpr c35
                        clear c35
                        replace H := Option.bind_eq_some_iff.mp H
                        obtain ⟨t132, A360, H⟩ := H
                        replace H : (some t132) = some r := H
                        have A36 := Aside0.mk A360
                        clear A360
                        obtain rfl := Option.some.inj H
                        go_wp2_with (first | ((with_reducible refine gate_callee (f := 13) rfl ?_); refine goesL_ (some 61) rfl rfl Tryd.func13 (by kernel_rfl) rfl #[.int .i64 t118, .int .i64 t119] rfl (by (try simp only [List.map_toArray, List.map_cons, List.map_nil]); first | done | rfl | (simp only [List.length_drop, List.length_take]; rfl)) ?_; (with_reducible refine (date_Days.calls t118 t119 t130 _ (by repeat (first | exact HLONG.out | exact LongAt.after HLONG.out (by assumption) | exact LongAt.below HLONG.out (by assumption) | apply LongAt.drewN | apply LongAt.drew | apply LongAt.alloc)) A24.out).mono ?_); rintro e w37 ⟨rfl, hb⟩; refine ⟨_, rfl, ?_⟩; have n0_ := Aside0.mk (below_step (by repeat (first | (with_reducible first | exact HB.out | apply below_alloc | apply pw_below_drewN | apply below_drew1) | exact HB.out)) hb); clear HB; have HB := n0_; clear n0_; (try clear hb); (try clear hb2); (try clear hk); (try clear hi)) | (go_at_call 15; (with_reducible refine (contangolaw05_goes.calls kj8  t132 _ (by repeat (first | exact HLONG.out | exact LongAt.after HLONG.out (by assumption) | exact LongAt.below HLONG.out (by assumption) | apply LongAt.drewN | apply LongAt.drew | apply LongAt.alloc)) A36.out).mono ?_); rintro e w38 ⟨rfl, hb⟩; have n0_ := Aside0.mk (below_step (by repeat (first | (with_reducible first | exact HB.out | apply below_alloc | apply pw_below_drewN | apply below_drew1) | exact HB.out)) hb); clear HB; have HB := n0_; clear n0_; (try clear hb); (try clear hb2); (try clear hk); (try clear hi)))
                        go_ret
                        exact ⟨by first | rfl | (simp [errW_none, errW_some] <;> rfl) | (simp [*, errW_none, errW_some] <;> rfl), by repeat (first | (with_reducible first | exact HB.out | apply below_alloc | apply pw_below_drewN | apply below_drew1) | exact HB.out)⟩
                      · rw [if_neg c35] at H
                        exact absurd H (by simp)
                    · rw [if_neg c34] at H
                      exact absurd H (by simp)
                  · rw [if_neg c33] at H
                    exact absurd H (by simp)
                · rw [if_neg c32] at H
                  have c32b0 : decide (t119 < 12) = false := decide_eq_false c32
                  clear c32
                  by_cases c39 : t122 = (wrap64 (t118 + 1))
                  · rw [if_pos c39] at H
                    have c39b0 : (t122 == (wrap64 (t118 + 1))) = true := beq_iff_eq.mpr c39
                    have c39b1 : (t122 != (wrap64 (t118 + 1))) = false := bne_eq_false_iff_eq.mpr c39
                    clear c39
                    by_cases c40 : t123 = 1
                    · rw [if_pos c40] at H
                      have c40b0 : (t123 == 1) = true := beq_iff_eq.mpr c40
                      have c40b1 : (t123 != 1) = false := bne_eq_false_iff_eq.mpr c40
                      clear c40
                      by_cases c41 : t124 = 1
                      · rw [if_pos c41] at H
                        have c41b0 : (t124 == 1) = true := beq_iff_eq.mpr c41
                        have c41b1 : (t124 != 1) = false := bne_eq_false_iff_eq.mpr c41
                        clear c41
                        replace H := Option.bind_eq_some_iff.mp H
                        obtain ⟨t133, A420, H⟩ := H
                        replace H : (some t133) = some r := H
                        have A42 := Aside0.mk A420
                        clear A420
                        obtain rfl := Option.some.inj H
                        go_wp2_with (first | ((with_reducible refine gate_callee (f := 13) rfl ?_); refine goesL_ (some 61) rfl rfl Tryd.func13 (by kernel_rfl) rfl #[.int .i64 t118, .int .i64 t119] rfl (by (try simp only [List.map_toArray, List.map_cons, List.map_nil]); first | done | rfl | (simp only [List.length_drop, List.length_take]; rfl)) ?_; (with_reducible refine (date_Days.calls t118 t119 t130 _ (by repeat (first | exact HLONG.out | exact LongAt.after HLONG.out (by assumption) | exact LongAt.below HLONG.out (by assumption) | apply LongAt.drewN | apply LongAt.drew | apply LongAt.alloc)) A24.out).mono ?_); rintro e w43 ⟨rfl, hb⟩; refine ⟨_, rfl, ?_⟩; have n0_ := Aside0.mk (below_step (by repeat (first | (with_reducible first | exact HB.out | apply below_alloc | apply pw_below_drewN | apply below_drew1) | exact HB.out)) hb); clear HB; have HB := n0_; clear n0_; (try clear hb); (try clear hb2); (try clear hk); (try clear hi)) | (go_at_call 15; (with_reducible refine (contangolaw05_goes.calls kj8  t133 _ (by repeat (first | exact HLONG.out | exact LongAt.after HLONG.out (by assumption) | exact LongAt.below HLONG.out (by assumption) | apply LongAt.drewN | apply LongAt.drew | apply LongAt.alloc)) A42.out).mono ?_); rintro e w44 ⟨rfl, hb⟩; have n0_ := Aside0.mk (below_step (by repeat (first | (with_reducible first | exact HB.out | apply below_alloc | apply pw_below_drewN | apply below_drew1) | exact HB.out)) hb); clear HB; have HB := n0_; clear n0_; (try clear hb); (try clear hb2); (try clear hk); (try clear hi)))
                        go_ret
                        exact ⟨by first | rfl | (simp [errW_none, errW_some] <;> rfl) | (simp [*, errW_none, errW_some] <;> rfl), by repeat (first | (with_reducible first | exact HB.out | apply below_alloc | apply pw_below_drewN | apply below_drew1) | exact HB.out)⟩
                      · rw [if_neg c41] at H
                        exact absurd H (by simp)
                    · rw [if_neg c40] at H
                      exact absurd H (by simp)
                  · rw [if_neg c39] at H
                    exact absurd H (by simp)

/-- THE ONE PURE STATEMENT of contangolaw05_DateNext: yours. -/
def contangolaw05_DateNext.Pure : Prop := ∀ (a0 : Int), (Lit.int .i64 a0).wf = true → ∃ k, contangolaw05_DateNext.f k a0 = some true
theorem contangolaw05_DateNext.walk (P : contangolaw05_DateNext.Pure) (a0 : Int) (w : World) (hL : LongAt w) (w0 : (Lit.int .i64 a0).wf = true) :
    Calls Tryd.prog 7 #[.int .i64 a0] w fun e w' => e = .returned (.bool true) ∧ Below w.heap.size w w' := by
  obtain ⟨k, h⟩ := P a0 w0
  refine (contangolaw05_DateNext.calls k a0 true w hL h).mono ?_
  rintro e w' ⟨rfl, hd⟩
  exact ⟨rfl, hd⟩

end Go.Proofs.YtmhlajgeihjaeaaDoor.PDateNext
