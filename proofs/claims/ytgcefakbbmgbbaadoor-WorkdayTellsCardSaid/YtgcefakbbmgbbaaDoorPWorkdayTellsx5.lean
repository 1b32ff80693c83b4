/- Laid for this claim by a program of this session's (wip/mkprint.py, wip/ext.py); not trusted: Lean checks it. -/
import Derived.Test.YtgcefakbbmgbbaaDoorPWorkdayTellsx0
import Derived.Test.YtgcefakbbmgbbaaDoorPWorkdayTellsx1
import Derived.Test.YtgcefakbbmgbbaaDoorPWorkdayTellsx2
import Derived.Test.YtgcefakbbmgbbaaDoorPWorkdayTellsx4
namespace Go.Proofs.YtgcefakbbmgbbaaDoor.PWorkdayTells
open Go.RowKit Go.Proofs.YtgcefakbbmgbbaaDoorW.PrintWords Go.Proofs.YtgcefakbbmgbbaaDoorW.PrintLast Go.Proofs.YtgcefakbbmgbbaaDoorW.PrintMore
attribute [local go_sem] max2_int min2_int max_two min_two max_three min_three max_four min_four   -- for this text's walks alone
set_option linter.unusedVariables false
set_option linter.unusedSimpArgs false

/-! ### contangoref06_toward: function 33 -/
mutual
def contangoref06_toward.l0 : Nat → List Int → Int → Int → Int → Option (Int × Int)
  | 0, _, _, _, _ => none
  | k + 1, x0, x2, x3, x12 => if x12 ≥ 0 then (contangoref06_toward.j1 k x0 x2 x3 x12 (decide (x12 ≤ 73048))) else (contangoref06_toward.j1 k x0 x2 x3 x12 false)
def contangoref06_toward.j1 : Nat → List Int → Int → Int → Int → Bool → Option (Int × Int)
  | 0, _, _, _, _, _ => none
  | k + 1, x0, x2, x3, x12, x30 => if x30 = true then ((contangoref06_works.f k x0 x12).bind fun t156 => (if t156 = true then (if (wrap64 (x2 - 1)) = 0 then (some (x12, 0)) else (contangoref06_toward.l0 k x0 (wrap64 (x2 - 1)) x3 (wrap64 (x12 + x3)))) else (if x2 = 0 then (some (x12, 0)) else (contangoref06_toward.l0 k x0 x2 x3 (wrap64 (x12 + x3)))))) else (some (0, 15))
end
def contangoref06_toward.f (k : Nat) (l0 : List Int) (a1 : Int) (a2 : Int) (a3 : Int) : Option (Int × Int) := (contangoref06_Works.f k l0 a1).bind fun bt154 => (if bt154.2 = 0 then (contangoref06_toward.l0 k l0 a2 a3 (wrap64 (a1 + a3))) else (some (0, bt154.2)))
theorem contangoref06_toward.mono_l : ∀ k, (∀ y0 y1 y2 y3, LeO (contangoref06_toward.l0 k y0 y1 y2 y3) (contangoref06_toward.l0 (k + 1) y0 y1 y2 y3)) ∧ (∀ y0 y1 y2 y3 y4, LeO (contangoref06_toward.j1 k y0 y1 y2 y3 y4) (contangoref06_toward.j1 (k + 1) y0 y1 y2 y3 y4))
  | 0 => ⟨fun _ _ _ _ r h => by simp [contangoref06_toward.l0] at h, fun _ _ _ _ _ r h => by simp [contangoref06_toward.j1] at h⟩
  | k + 1 => by
    obtain ⟨ih0, ih1⟩ := contangoref06_toward.mono_l k
    refine ⟨?_, ?_⟩
    · intro y0 y1 y2 y3
      unfold contangoref06_toward.l0
      repeat' first
      | (with_reducible exact ih0 _ _ _ _)
      | (with_reducible exact ih1 _ _ _ _ _)
      | (with_reducible exact contangoref06_Works.mono _ _ _)
      | (with_reducible exact contangoref06_works.mono _ _ _)
      | (with_reducible exact LeO.refl _)
      | (with_reducible exact LeO.none _)
      | (with_reducible refine LeO.ite ?_ ?_)
      | (with_reducible refine LeO.bind ?_ (fun _ => ?_))
      | exact ih0 _ _ _ _
      | exact ih1 _ _ _ _ _
      | exact contangoref06_Works.mono _ _ _
      | exact contangoref06_works.mono _ _ _
      | exact LeO.none _
      | refine LeO.ite ?_ ?_
      | refine LeO.bind ?_ (fun _ => ?_)
    · intro y0 y1 y2 y3 y4
      unfold contangoref06_toward.j1
      repeat' first
      | (with_reducible exact ih0 _ _ _ _)
      | (with_reducible exact ih1 _ _ _ _ _)
      | (with_reducible exact contangoref06_Works.mono _ _ _)
      | (with_reducible exact contangoref06_works.mono _ _ _)
      | (with_reducible exact LeO.refl _)
      | (with_reducible exact LeO.none _)
      | (with_reducible refine LeO.ite ?_ ?_)
      | (with_reducible refine LeO.bind ?_ (fun _ => ?_))
      | exact ih0 _ _ _ _
      | exact ih1 _ _ _ _ _
      | exact contangoref06_Works.mono _ _ _
      | exact contangoref06_works.mono _ _ _
      | exact LeO.none _
      | refine LeO.ite ?_ ?_
      | refine LeO.bind ?_ (fun _ => ?_)
theorem contangoref06_toward.mono : ∀ a0 a1 a2 a3 k, LeO (contangoref06_toward.f k a0 a1 a2 a3) (contangoref06_toward.f (k + 1) a0 a1 a2 a3) := by
  intro a0 a1 a2 a3 k
  obtain ⟨ih0, ih1⟩ := contangoref06_toward.mono_l k
  unfold contangoref06_toward.f
  repeat' first
      | (with_reducible exact ih0 _ _ _ _)
      | (with_reducible exact ih1 _ _ _ _ _)
      | (with_reducible exact contangoref06_Works.mono _ _ _)
      | (with_reducible exact contangoref06_works.mono _ _ _)
      | (with_reducible exact LeO.refl _)
      | (with_reducible exact LeO.none _)
      | (with_reducible refine LeO.ite ?_ ?_)
      | (with_reducible refine LeO.bind ?_ (fun _ => ?_))
      | exact ih0 _ _ _ _
      | exact ih1 _ _ _ _ _
      | exact contangoref06_Works.mono _ _ _
      | exact contangoref06_works.mono _ _ _
      | exact LeO.none _
      | refine LeO.ite ?_ ?_
      | refine LeO.bind ?_ (fun _ => ?_)
set_option maxHeartbeats 8000000 in
set_option maxRecDepth 100000 in
theorem contangoref06_toward.calls (k : Nat) (A0 : Option Addr) (c0 : Nat) (l0 : List Int) (a1 : Int) (a2 : Int) (a3 : Int) (r1 : Int) (r2 : Int) (w : World) (hr0 : Kd.C (Kd.int .i64) w A0 l0.length l0) (hc0 : l0.length ≤ c0) (h : contangoref06_toward.f k l0 a1 a2 a3 = some (r1, r2)) :
    Calls Tryd.prog 33 #[.slice A0 l0.length c0, .int .i64 a1, .int .i64 a2, .int .i64 a3] w fun e w' => e = .returned (.tuple #[.int .i64 r1, .int .i64 r2]) ∧ Drawn0 w w' := by
  have HR0 := Aside0.mk hr0
  have HC0 := Aside0.mk hc0
  clear hr0 hc0
  have H : ((contangoref06_Works.f k l0 a1).bind fun bt154 => (if bt154.2 = 0 then (contangoref06_toward.l0 k l0 a2 a3 (wrap64 (a1 + a3))) else (some (0, bt154.2)))) = some (r1, r2) := h
  clear h
  replace H := Option.bind_eq_some_iff.mp H
  obtain ⟨⟨t154, t155⟩, A50, H⟩ := H
  replace H : (if t155 = 0 then (contangoref06_toward.l0 k l0 a2 a3 (wrap64 (a1 + a3))) else (some (0, t155))) = some (r1, r2) := H
  have A5 := Aside0.mk A50
  clear A50
  by_cases c6 : t155 = 0
  · rw [if_pos c6] at H
    have c6b0 : (t155 == 0) = true := beq_iff_eq.mpr c6
    have c6b1 : (t155 != 0) = false := bne_eq_false_iff_eq.mpr c6
    clear c6
    have H' := Aside0.mk H
    clear H
    go_enter Tryd.func33, Tryd.ntmps33
    go_wp2_with (first | ((with_reducible refine gate_callee (f := 12) rfl ?_); refine goesL_ (some 16) rfl rfl Tryd.func12 (by kernel_rfl) rfl #[.slice A0 l0.length c0, .int .i64 a1] rfl (by (try simp only [List.map_toArray, List.map_cons, List.map_nil]); first | done | rfl | (simp only [List.length_drop, List.length_take]; rfl)) ?_; (with_reducible refine (contangoref06_Works.calls k _ _ l0 a1 t154 t155 _ ?side1 ?side2 A5.out).mono ?_); (case side1 => repeat (first | exact HR0.out | (with_reducible refine Kd.C_alloc ?_ _) | (with_reducible refine Kd.C_drewN ?_ _) | (with_reducible refine Kd.C_drew ?_))); (case side2 => exact HC0.out); rintro e w' ⟨rfl, ⟨nd, rfl⟩⟩; refine ⟨_, rfl, ?_⟩))
    go_loopg [2, 12] k (fun kq v2 v12 w' => ∃ (x2_1 : Int) (x12_1 : Int), v2 = .int .i64 x2_1 ∧ v12 = .int .i64 x12_1 ∧ Aside0 (contangoref06_toward.l0 kq l0 x2_1 a3 x12_1 = some (r1, r2)) ∧ Aside0 (kq ≤ k) ∧ Drawn0 w w')
    case atStart => exact ⟨(a2), (wrap64 (a1 + a3)), (by first | rfl | (simp; done) | (simp [*]; done)), (by first | rfl | (simp; done) | (simp [*]; done)), H', ⟨Nat.le_refl _⟩, by repeat (first | exact Drawn0.refl _ | apply Drawn0.step)⟩
    case round =>
      clear H'
      try clear c1
      try clear p2
      try clear c3
      try clear c6
      try clear c6b0
      try clear c6b1
      try clear p6
      obtain ⟨x2_1, x12_1, rfl, rfl, HA, HK1, ⟨m1, rfl⟩⟩ := hrel
      cases gk with
      | zero => exact absurd HA.out (by simp [contangoref06_toward.l0])
      | succ k1 =>
        have H := HA.out
        clear HA
        simp only [contangoref06_toward.l0] at H
        have HC7 := Aside0.mk H
        clear H
        go_upto_region 5 with (fail)
        go_cut [30] (fun v30 wc => ∃ (kq : Nat) (x30_6 : Bool), v30 = .bool x30_6 ∧ Aside0 (contangoref06_toward.j1 kq l0 x2_1 a3 x12_1 x30_6 = some (r1, r2)) ∧ Aside0 (kq ≤ k1) ∧ Drawn0 w wc)
        case first =>
          have H := HC7.out
          clear HC7
          by_cases c8 : x12_1 ≥ 0
          · rw [if_pos c8] at H
            have c8b0 : decide (0 ≤ x12_1) = true := decide_eq_true c8
            clear c8
            (first | rw [c8b0] | (simp only [i64_w, i32_w]; rw [c8b0]) | skip)
            have H' := Aside0.mk H
            clear H
            go_wp2
            go_meet
            case rel => exact ⟨_, (decide (x12_1 ≤ 73048)), (by first | rfl | (simp; done) | (simp [*]; done)), H', ⟨by have := HK1.out; first | omega | exact Nat.le_refl _⟩, by repeat (first | exact Drawn0.refl _ | apply Drawn0.step)⟩
          · rw [if_neg c8] at H
            have c8b0 : decide (0 ≤ x12_1) = false := decide_eq_false c8
            clear c8
            (first | rw [c8b0] | (simp only [i64_w, i32_w]; rw [c8b0]) | skip)
            have H' := Aside0.mk H
            clear H
            go_wp2
            go_meet
            case rel => exact ⟨_, (false), (by first | rfl | (simp; done) | (simp [*]; done)), H', ⟨by have := HK1.out; first | omega | exact Nat.le_refl _⟩, by repeat (first | exact Drawn0.refl _ | apply Drawn0.step)⟩
        case rest =>
          clear HC7
          try clear c1
          try clear p2
          try clear c3
          try clear c6
          try clear c6b0
          try clear c6b1
          try clear p6
          try clear c8
          try clear c8b0
          try clear p2
          try clear p6
          obtain ⟨kq, x30_6, rfl, HA, HJ6, ⟨mc6, rfl⟩⟩ := hcut
          cases kq with
          | zero => exact absurd HA.out (by simp [contangoref06_toward.j1])
          | succ kj6 =>
            have H := HA.out
            clear HA
            simp only [contangoref06_toward.j1] at H
            by_cases c9 : x30_6 = true
            · subst c9
              have H1 : ((contangoref06_works.f kj6 l0 x12_1).bind fun t156 => (if t156 = true then (if (wrap64 (x2_1 - 1)) = 0 then (some (x12_1, 0)) else (contangoref06_toward.l0 kj6 l0 (wrap64 (x2_1 - 1)) a3 (wrap64 (x12_1 + a3)))) else (if x2_1 = 0 then (some (x12_1, 0)) else (contangoref06_toward.l0 kj6 l0 x2_1 a3 (wrap64 (x12_1 + a3)))))) = some (r1, r2) := by rw [if_pos rfl] at H; exact H
              clear H
              have H := H1
              clear H1
              replace H := Option.bind_eq_some_iff.mp H
              obtain ⟨t156, A100, H⟩ := H
              replace H : (if t156 = true then (if (wrap64 (x2_1 - 1)) = 0 then (some (x12_1, 0)) else (contangoref06_toward.l0 kj6 l0 (wrap64 (x2_1 - 1)) a3 (wrap64 (x12_1 + a3)))) else (if x2_1 = 0 then (some (x12_1, 0)) else (contangoref06_toward.l0 kj6 l0 x2_1 a3 (wrap64 (x12_1 + a3))))) = some (r1, r2) := H
              have A10 := Aside0.mk A100
              clear A100
              by_cases c11 : t156 = true
              · subst c11
                have H1 : (if (wrap64 (x2_1 - 1)) = 0 then (some (x12_1, 0)) else (contangoref06_toward.l0 kj6 l0 (wrap64 (x2_1 - 1)) a3 (wrap64 (x12_1 + a3)))) = some (r1, r2) := by rw [if_pos rfl] at H; exact H
                clear H
                have H := H1
                clear H1
                by_cases c12 : (wrap64 (x2_1 - 1)) = 0
                · rw [if_pos c12] at H
                  have c12b0 : ((wrap64 (x2_1 - 1)) == 0) = true := beq_iff_eq.mpr c12
                  have c12b1 : ((wrap64 (x2_1 - 1)) != 0) = false := bne_eq_false_iff_eq.mpr c12
                  clear c12
                  simp only [Option.some.injEq, Prod.mk.injEq] at H
                  obtain ⟨rfl, rfl⟩ := H
                  go_wp2_with (first | ((with_reducible refine gate_callee (f := 31) rfl ?_); refine goesL_ (some 36) rfl rfl Tryd.func31 (by kernel_rfl) rfl #[.slice A0 l0.length c0, .int .i64 x12_1] rfl (by (try simp only [List.map_toArray, List.map_cons, List.map_nil]); first | done | rfl | (simp only [List.length_drop, List.length_take]; rfl)) ?_; (with_reducible refine (contangoref06_works.calls kj6 _ _ l0 x12_1 true _ ?side1 ?side2 A10.out).mono ?_); (case side1 => repeat (first | exact HR0.out | (with_reducible refine Kd.C_alloc ?_ _) | (with_reducible refine Kd.C_drewN ?_ _) | (with_reducible refine Kd.C_drew ?_))); (case side2 => exact HC0.out); rintro e w' ⟨rfl, ⟨nd, rfl⟩⟩; refine ⟨_, rfl, ?_⟩))
                  go_ret2
                  exact ⟨by first | rfl | (simp; done) | (simp [*]; done), by repeat (first | exact Drawn0.refl _ | apply Drawn0.step)⟩
                · rw [if_neg c12] at H
                  have c12b0 : ((wrap64 (x2_1 - 1)) == 0) = false := beq_eq_false_iff_ne.mpr c12
                  have c12b1 : ((wrap64 (x2_1 - 1)) != 0) = true := bne_iff_ne.mpr c12
                  have H' := Aside0.mk H
                  clear H
                  go_wp2_with (first | ((with_reducible refine gate_callee (f := 31) rfl ?_); refine goesL_ (some 36) rfl rfl Tryd.func31 (by kernel_rfl) rfl #[.slice A0 l0.length c0, .int .i64 x12_1] rfl (by (try simp only [List.map_toArray, List.map_cons, List.map_nil]); first | done | rfl | (simp only [List.length_drop, List.length_take]; rfl)) ?_; (with_reducible refine (contangoref06_works.calls kj6 _ _ l0 x12_1 true _ ?side1 ?side2 A10.out).mono ?_); (case side1 => repeat (first | exact HR0.out | (with_reducible refine Kd.C_alloc ?_ _) | (with_reducible refine Kd.C_drewN ?_ _) | (with_reducible refine Kd.C_drew ?_))); (case side2 => exact HC0.out); rintro e w' ⟨rfl, ⟨nd, rfl⟩⟩; refine ⟨_, rfl, ?_⟩))
                  go_roundg kj6
                  case measure => have := HK1.out; have := HJ6.out; omega
                  case rel => exact ⟨(wrap64 (x2_1 - 1)), (wrap64 (x12_1 + a3)), (by first | rfl | (simp; done) | (simp [*]; done)), (by first | rfl | (simp; done) | (simp [*]; done)), H', ⟨by have := HK1.out; have := HJ6.out; omega⟩, by repeat (first | exact Drawn0.refl _ | apply Drawn0.step)⟩
              · replace c11 := Bool.eq_false_iff.mpr c11
                subst c11
                have H1 : (if x2_1 = 0 then (some (x12_1, 0)) else (contangoref06_toward.l0 kj6 l0 x2_1 a3 (wrap64 (x12_1 + a3)))) = some (r1, r2) := by rw [if_neg (show ¬ (false = true) by decide)] at H; exact H
                clear H
                have H := H1
                clear H1
                by_cases c13 : x2_1 = 0
                · rw [if_pos c13] at H
                  have c13b0 : (x2_1 == 0) = true := beq_iff_eq.mpr c13
                  have c13b1 : (x2_1 != 0) = false := bne_eq_false_iff_eq.mpr c13
                  clear c13
                  simp only [Option.some.injEq, Prod.mk.injEq] at H
                  obtain ⟨rfl, rfl⟩ := H
                  go_wp2_with (first | ((with_reducible refine gate_callee (f := 31) rfl ?_); refine goesL_ (some 36) rfl rfl Tryd.func31 (by kernel_rfl) rfl #[.slice A0 l0.length c0, .int .i64 x12_1] rfl (by (try simp only [List.map_toArray, List.map_cons, List.map_nil]); first | done | rfl | (simp only [List.length_drop, List.length_take]; rfl)) ?_; (with_reducible refine (contangoref06_works.calls kj6 _ _ l0 x12_1 false _ ?side1 ?side2 A10.out).mono ?_); (case side1 => repeat (first | exact HR0.out | (with_reducible refine Kd.C_alloc ?_ _) | (with_reducible refine Kd.C_drewN ?_ _) | (with_reducible refine Kd.C_drew ?_))); (case side2 => exact HC0.out); rintro e w' ⟨rfl, ⟨nd, rfl⟩⟩; refine ⟨_, rfl, ?_⟩))
                  go_ret2
                  exact ⟨by first | rfl | (simp; done) | (simp [*]; done), by repeat (first | exact Drawn0.refl _ | apply Drawn0.step)⟩
                · rw [if_neg c13] at H
                  have c13b0 : (x2_1 == 0) = false := beq_eq_false_iff_ne.mpr c13
                  have c13b1 : (x2_1 != 0) = true := bne_iff_ne.mpr c13
                  have H' := Aside0.mk H
                  clear H
                  go_wp2_with (first | ((with_reducible refine gate_callee (f := 31) rfl ?_); refine goesL_ (some 36) rfl rfl Tryd.func31 (by kernel_rfl) rfl #[.slice A0 l0.length c0, .int .i64 x12_1] rfl (by (try simp only [List.map_toArray, List.map_cons, List.map_nil]); first | done | rfl | (simp only [List.length_drop, List.length_take]; rfl)) ?_; (with_reducible refine (contangoref06_works.calls kj6 _ _ l0 x12_1 false _ ?side1 ?side2 A10.out).mono ?_); (case side1 => repeat (first | exact HR0.out | (with_reducible refine Kd.C_alloc ?_ _) | (with_reducible refine Kd.C_drewN ?_ _) | (with_reducible refine Kd.C_drew ?_))); (case side2 => exact HC0.out); rintro e w' ⟨rfl, ⟨nd, rfl⟩⟩; refine ⟨_, rfl, ?_⟩))
                  go_roundg kj6
                  case measure => have := HK1.out; have := HJ6.out; omega
                  case rel => exact ⟨(x2_1), (wrap64 (x12_1 + a3)), (by first | rfl | (simp; done) | (simp [*]; done)), (by first | rfl | (simp; done) | (simp [*]; done)), H', ⟨by have := HK1.out; have := HJ6.out; omega⟩, by repeat (first | exact Drawn0.refl _ | apply Drawn0.step)⟩
            · replace c9 := Bool.eq_false_iff.mpr c9
              subst c9
              have H1 : (some (0, 15)) = some (r1, r2) := by rw [if_neg (show ¬ (false = true) by decide)] at H; exact H
              clear H
              have H := H1
              clear H1
              simp only [Option.some.injEq, Prod.mk.injEq] at H
              obtain ⟨rfl, rfl⟩ := H
              go_wp2
              go_ret2
              exact ⟨by first | rfl | (simp; done) | (simp [*]; done), by repeat (first | exact Drawn0.refl _ | apply Drawn0.step)⟩
  · rw [if_neg c6] at H
    have c6b0 : (t155 == 0) = false := beq_eq_false_iff_ne.mpr c6
    have c6b1 : (t155 != 0) = true := bne_iff_ne.mpr c6
    simp only [Option.some.injEq, Prod.mk.injEq] at H
    obtain ⟨rfl, rfl⟩ := H
    go_enter Tryd.func33, Tryd.ntmps33
    go_wp2_with (first | ((with_reducible refine gate_callee (f := 12) rfl ?_); refine goesL_ (some 16) rfl rfl Tryd.func12 (by kernel_rfl) rfl #[.slice A0 l0.length c0, .int .i64 a1] rfl (by (try simp only [List.map_toArray, List.map_cons, List.map_nil]); first | done | rfl | (simp only [List.length_drop, List.length_take]; rfl)) ?_; (with_reducible refine (contangoref06_Works.calls k _ _ l0 a1 t154 t155 _ ?side1 ?side2 A5.out).mono ?_); (case side1 => repeat (first | exact HR0.out | (with_reducible refine Kd.C_alloc ?_ _) | (with_reducible refine Kd.C_drewN ?_ _) | (with_reducible refine Kd.C_drew ?_))); (case side2 => exact HC0.out); rintro e w' ⟨rfl, ⟨nd, rfl⟩⟩; refine ⟨_, rfl, ?_⟩))
    go_ret2
    exact ⟨by first | rfl | (simp; done) | (simp [*]; done), by repeat (first | exact Drawn0.refl _ | apply Drawn0.step)⟩

/-! ### contangoref06_Next: function 14 -/
def contangoref06_Next.f (k : Nat) (l0 : List Int) (a1 : Int) : Option (Int × Int) := (contangoref06_toward.f k l0 a1 1 1).bind fun bt157 => (some (bt157.1, bt157.2))
theorem contangoref06_Next.mono : ∀ a0 a1 k, LeO (contangoref06_Next.f k a0 a1) (contangoref06_Next.f (k + 1) a0 a1) := by
  intro a0 a1 k
  unfold contangoref06_Next.f
  repeat' first
      | (with_reducible exact contangoref06_toward.mono _ _ _ _ _)
      | (with_reducible exact LeO.refl _)
      | (with_reducible exact LeO.none _)
      | (with_reducible refine LeO.ite ?_ ?_)
      | (with_reducible refine LeO.bind ?_ (fun _ => ?_))
      | exact contangoref06_toward.mono _ _ _ _ _
      | exact LeO.none _
      | refine LeO.ite ?_ ?_
      | refine LeO.bind ?_ (fun _ => ?_)
set_option maxHeartbeats 8000000 in
set_option maxRecDepth 100000 in
theorem contangoref06_Next.calls (k : Nat) (A0 : Option Addr) (c0 : Nat) (l0 : List Int) (a1 : Int) (r1 : Int) (r2 : Int) (w : World) (hr0 : Kd.C (Kd.int .i64) w A0 l0.length l0) (hc0 : l0.length ≤ c0) (h : contangoref06_Next.f k l0 a1 = some (r1, r2)) :
    Calls Tryd.prog 14 #[.slice A0 l0.length c0, .int .i64 a1] w fun e w' => e = .returned (.tuple #[.int .i64 r1, .int .i64 r2]) ∧ Drawn0 w w' := by
  have HR0 := Aside0.mk hr0
  have HC0 := Aside0.mk hc0
  clear hr0 hc0
  have H : ((contangoref06_toward.f k l0 a1 1 1).bind fun bt157 => (some (bt157.1, bt157.2))) = some (r1, r2) := h
  clear h
  replace H := Option.bind_eq_some_iff.mp H
  obtain ⟨⟨t157, t158⟩, A30, H⟩ := H
  replace H : (some (t157, t158)) = some (r1, r2) := H
  have A3 := Aside0.mk A30
  clear A30
  simp only [Option.some.injEq, Prod.mk.injEq] at H
  obtain ⟨rfl, rfl⟩ := H
  go_enter Tryd.func14, Tryd.ntmps14
  go_wp2_with (first | ((with_reducible refine gate_callee (f := 33) rfl ?_); refine goesL_ (some 8) rfl rfl Tryd.func33 (by kernel_rfl) rfl #[.slice A0 l0.length c0, .int .i64 a1, .int .i64 1, .int .i64 1] rfl (by (try simp only [List.map_toArray, List.map_cons, List.map_nil]); first | done | rfl | (simp only [List.length_drop, List.length_take]; rfl)) ?_; (with_reducible refine (contangoref06_toward.calls k _ _ l0 a1 1 1 t157 t158 _ ?side1 ?side2 A3.out).mono ?_); (case side1 => repeat (first | exact HR0.out | (with_reducible refine Kd.C_alloc ?_ _) | (with_reducible refine Kd.C_drewN ?_ _) | (with_reducible refine Kd.C_drew ?_))); (case side2 => exact HC0.out); rintro e w' ⟨rfl, ⟨nd, rfl⟩⟩; refine ⟨_, rfl, ?_⟩))
  go_ret2
  exact ⟨by first | rfl | (simp; done) | (simp [*]; done), by repeat (first | exact Drawn0.refl _ | apply Drawn0.step)⟩

/-! ### contangoref06_Before: function 16 -/
def contangoref06_Before.f (k : Nat) (l0 : List Int) (a1 : Int) : Option (Int × Int) := (contangoref06_toward.f k l0 a1 1 (-1)).bind fun bt159 => (some (bt159.1, bt159.2))
theorem contangoref06_Before.mono : ∀ a0 a1 k, LeO (contangoref06_Before.f k a0 a1) (contangoref06_Before.f (k + 1) a0 a1) := by
  intro a0 a1 k
  unfold contangoref06_Before.f
  repeat' first
      | (with_reducible exact contangoref06_toward.mono _ _ _ _ _)
      | (with_reducible exact LeO.refl _)
      | (with_reducible exact LeO.none _)
      | (with_reducible refine LeO.ite ?_ ?_)
      | (with_reducible refine LeO.bind ?_ (fun _ => ?_))
      | exact contangoref06_toward.mono _ _ _ _ _
      | exact LeO.none _
      | refine LeO.ite ?_ ?_
      | refine LeO.bind ?_ (fun _ => ?_)
set_option maxHeartbeats 8000000 in
set_option maxRecDepth 100000 in
theorem contangoref06_Before.calls (k : Nat) (A0 : Option Addr) (c0 : Nat) (l0 : List Int) (a1 : Int) (r1 : Int) (r2 : Int) (w : World) (hr0 : Kd.C (Kd.int .i64) w A0 l0.length l0) (hc0 : l0.length ≤ c0) (h : contangoref06_Before.f k l0 a1 = some (r1, r2)) :
    Calls Tryd.prog 16 #[.slice A0 l0.length c0, .int .i64 a1] w fun e w' => e = .returned (.tuple #[.int .i64 r1, .int .i64 r2]) ∧ Drawn0 w w' := by
  have HR0 := Aside0.mk hr0
  have HC0 := Aside0.mk hc0
  clear hr0 hc0
  have H : ((contangoref06_toward.f k l0 a1 1 (-1)).bind fun bt159 => (some (bt159.1, bt159.2))) = some (r1, r2) := h
  clear h
  replace H := Option.bind_eq_some_iff.mp H
  obtain ⟨⟨t159, t160⟩, A30, H⟩ := H
  replace H : (some (t159, t160)) = some (r1, r2) := H
  have A3 := Aside0.mk A30
  clear A30
  simp only [Option.some.injEq, Prod.mk.injEq] at H
  obtain ⟨rfl, rfl⟩ := H
  go_enter Tryd.func16, Tryd.ntmps16
  go_wp2_with (first | ((with_reducible refine gate_callee (f := 33) rfl ?_); refine goesL_ (some 8) rfl rfl Tryd.func33 (by kernel_rfl) rfl #[.slice A0 l0.length c0, .int .i64 a1, .int .i64 1, .int .i64 (-1)] rfl (by (try simp only [List.map_toArray, List.map_cons, List.map_nil]); first | done | rfl | (simp only [List.length_drop, List.length_take]; rfl)) ?_; (with_reducible refine (contangoref06_toward.calls k _ _ l0 a1 1 (-1) t159 t160 _ ?side1 ?side2 A3.out).mono ?_); (case side1 => repeat (first | exact HR0.out | (with_reducible refine Kd.C_alloc ?_ _) | (with_reducible refine Kd.C_drewN ?_ _) | (with_reducible refine Kd.C_drew ?_))); (case side2 => exact HC0.out); rintro e w' ⟨rfl, ⟨nd, rfl⟩⟩; refine ⟨_, rfl, ?_⟩))
  go_ret2
  exact ⟨by first | rfl | (simp; done) | (simp [*]; done), by repeat (first | exact Drawn0.refl _ | apply Drawn0.step)⟩

/-! ### contangoref06_On: function 18 -/
def contangoref06_On.f (k : Nat) (l0 : List Int) (a1 : Int) : Option (Int × Int) := (contangoref06_Works.f k l0 a1).bind fun bt161 => (if bt161.2 = 0 then (if bt161.1 = true then (some (a1, 0)) else ((contangoref06_Next.f k l0 a1).bind fun bt163 => (some (bt163.1, bt163.2)))) else (some (0, bt161.2)))
theorem contangoref06_On.mono : ∀ a0 a1 k, LeO (contangoref06_On.f k a0 a1) (contangoref06_On.f (k + 1) a0 a1) := by
  intro a0 a1 k
  unfold contangoref06_On.f
  repeat' first
      | (with_reducible exact contangoref06_Next.mono _ _ _)
      | (with_reducible exact contangoref06_Works.mono _ _ _)
      | (with_reducible exact LeO.refl _)
      | (with_reducible exact LeO.none _)
      | (with_reducible refine LeO.ite ?_ ?_)
      | (with_reducible refine LeO.bind ?_ (fun _ => ?_))
      | exact contangoref06_Next.mono _ _ _
      | exact contangoref06_Works.mono _ _ _
      | exact LeO.none _
      | refine LeO.ite ?_ ?_
      | refine LeO.bind ?_ (fun _ => ?_)
set_option maxHeartbeats 8000000 in
set_option maxRecDepth 100000 in
theorem contangoref06_On.calls (k : Nat) (A0 : Option Addr) (c0 : Nat) (l0 : List Int) (a1 : Int) (r1 : Int) (r2 : Int) (w : World) (hr0 : Kd.C (Kd.int .i64) w A0 l0.length l0) (hc0 : l0.length ≤ c0) (h : contangoref06_On.f k l0 a1 = some (r1, r2)) :
    Calls Tryd.prog 18 #[.slice A0 l0.length c0, .int .i64 a1] w fun e w' => e = .returned (.tuple #[.int .i64 r1, .int .i64 r2]) ∧ Drawn0 w w' := by
  have HR0 := Aside0.mk hr0
  have HC0 := Aside0.mk hc0
  clear hr0 hc0
  have H : ((contangoref06_Works.f k l0 a1).bind fun bt161 => (if bt161.2 = 0 then (if bt161.1 = true then (some (a1, 0)) else ((contangoref06_Next.f k l0 a1).bind fun bt163 => (some (bt163.1, bt163.2)))) else (some (0, bt161.2)))) = some (r1, r2) := h
  clear h
  replace H := Option.bind_eq_some_iff.mp H
  obtain ⟨⟨t161, t162⟩, A30, H⟩ := H
  replace H : (if t162 = 0 then (if t161 = true then (some (a1, 0)) else ((contangoref06_Next.f k l0 a1).bind fun bt163 => (some (bt163.1, bt163.2)))) else (some (0, t162))) = some (r1, r2) := H
  have A3 := Aside0.mk A30
  clear A30
  by_cases c4 : t162 = 0
  · rw [if_pos c4] at H
    have c4b0 : (t162 == 0) = true := beq_iff_eq.mpr c4
    have c4b1 : (t162 != 0) = false := bne_eq_false_iff_eq.mpr c4
    clear c4
    by_cases c5 : t161 = true
    · subst c5
      have H1 : (some (a1, 0)) = some (r1, r2) := by rw [if_pos rfl] at H; exact H
      clear H
      have H := H1
      clear H1
      simp only [Option.some.injEq, Prod.mk.injEq] at H
      obtain ⟨rfl, rfl⟩ := H
      go_enter Tryd.func18, Tryd.ntmps18
      go_wp2_with (first | ((with_reducible refine gate_callee (f := 12) rfl ?_); refine goesL_ (some 11) rfl rfl Tryd.func12 (by kernel_rfl) rfl #[.slice A0 l0.length c0, .int .i64 a1] rfl (by (try simp only [List.map_toArray, List.map_cons, List.map_nil]); first | done | rfl | (simp only [List.length_drop, List.length_take]; rfl)) ?_; (with_reducible refine (contangoref06_Works.calls k _ _ l0 a1 true t162 _ ?side1 ?side2 A3.out).mono ?_); (case side1 => repeat (first | exact HR0.out | (with_reducible refine Kd.C_alloc ?_ _) | (with_reducible refine Kd.C_drewN ?_ _) | (with_reducible refine Kd.C_drew ?_))); (case side2 => exact HC0.out); rintro e w' ⟨rfl, ⟨nd, rfl⟩⟩; refine ⟨_, rfl, ?_⟩))
      go_ret2
      exact ⟨by first | rfl | (simp; done) | (simp [*]; done), by repeat (first | exact Drawn0.refl _ | apply Drawn0.step)⟩
    · replace c5 := Bool.eq_false_iff.mpr c5
      subst c5
      have H1 : ((contangoref06_Next.f k l0 a1).bind fun bt163 => (some (bt163.1, bt163.2))) = some (r1, r2) := by rw [if_neg (show ¬ (false = true) by decide)] at H; exact H
      clear H
      have H := H1
      clear H1
      replace H := Option.bind_eq_some_iff.mp H
      obtain ⟨⟨t163, t164⟩, A60, H⟩ := H
      replace H : (some (t163, t164)) = some (r1, r2) := H
      have A6 := Aside0.mk A60
      clear A60
      simp only [Option.some.injEq, Prod.mk.injEq] at H
      obtain ⟨rfl, rfl⟩ := H
      go_enter Tryd.func18, Tryd.ntmps18
      go_wp2_with (first | ((with_reducible refine gate_callee (f := 12) rfl ?_); refine goesL_ (some 11) rfl rfl Tryd.func12 (by kernel_rfl) rfl #[.slice A0 l0.length c0, .int .i64 a1] rfl (by (try simp only [List.map_toArray, List.map_cons, List.map_nil]); first | done | rfl | (simp only [List.length_drop, List.length_take]; rfl)) ?_; (with_reducible refine (contangoref06_Works.calls k _ _ l0 a1 false t162 _ ?side1 ?side2 A3.out).mono ?_); (case side1 => repeat (first | exact HR0.out | (with_reducible refine Kd.C_alloc ?_ _) | (with_reducible refine Kd.C_drewN ?_ _) | (with_reducible refine Kd.C_drew ?_))); (case side2 => exact HC0.out); rintro e w' ⟨rfl, ⟨nd, rfl⟩⟩; refine ⟨_, rfl, ?_⟩) | ((with_reducible refine gate_callee (f := 14) rfl ?_); refine goesL_ (some 21) rfl rfl Tryd.func14 (by kernel_rfl) rfl #[.slice A0 l0.length c0, .int .i64 a1] rfl (by (try simp only [List.map_toArray, List.map_cons, List.map_nil]); first | done | rfl | (simp only [List.length_drop, List.length_take]; rfl)) ?_; (with_reducible refine (contangoref06_Next.calls k _ _ l0 a1 t163 t164 _ ?side1 ?side2 A6.out).mono ?_); (case side1 => repeat (first | exact HR0.out | (with_reducible refine Kd.C_alloc ?_ _) | (with_reducible refine Kd.C_drewN ?_ _) | (with_reducible refine Kd.C_drew ?_))); (case side2 => exact HC0.out); rintro e w' ⟨rfl, ⟨nd, rfl⟩⟩; refine ⟨_, rfl, ?_⟩))
      go_ret2
      exact ⟨by first | rfl | (simp; done) | (simp [*]; done), by repeat (first | exact Drawn0.refl _ | apply Drawn0.step)⟩
  · rw [if_neg c4] at H
    have c4b0 : (t162 == 0) = false := beq_eq_false_iff_ne.mpr c4
    have c4b1 : (t162 != 0) = true := bne_iff_ne.mpr c4
    simp only [Option.some.injEq, Prod.mk.injEq] at H
    obtain ⟨rfl, rfl⟩ := H
    go_enter Tryd.func18, Tryd.ntmps18
    go_wp2_with (first | ((with_reducible refine gate_callee (f := 12) rfl ?_); refine goesL_ (some 11) rfl rfl Tryd.func12 (by kernel_rfl) rfl #[.slice A0 l0.length c0, .int .i64 a1] rfl (by (try simp only [List.map_toArray, List.map_cons, List.map_nil]); first | done | rfl | (simp only [List.length_drop, List.length_take]; rfl)) ?_; (with_reducible refine (contangoref06_Works.calls k _ _ l0 a1 t161 t162 _ ?side1 ?side2 A3.out).mono ?_); (case side1 => repeat (first | exact HR0.out | (with_reducible refine Kd.C_alloc ?_ _) | (with_reducible refine Kd.C_drewN ?_ _) | (with_reducible refine Kd.C_drew ?_))); (case side2 => exact HC0.out); rintro e w' ⟨rfl, ⟨nd, rfl⟩⟩; refine ⟨_, rfl, ?_⟩))
    go_ret2
    exact ⟨by first | rfl | (simp; done) | (simp [*]; done), by repeat (first | exact Drawn0.refl _ | apply Drawn0.step)⟩

/-! ### contangolaw06_WorkdayTells: function 3 -/
def contangolaw06_WorkdayTells.f (k : Nat) (l0 : List Int) (a1 : Int) : Option (Bool) := (contangolaw06_few.f l0).bind fun t165 => (if t165 = true then ((workday_Works.f l0 a1).bind fun bt167 => ((contangoref06_Works.f k l0 a1).bind fun bt169 => ((workday_Next.f l0 a1).bind fun bt171 => ((contangoref06_Next.f k l0 a1).bind fun bt173 => ((workday_Before.f l0 a1).bind fun bt175 => ((contangoref06_Before.f k l0 a1).bind fun bt177 => ((workday_On.f l0 a1).bind fun bt179 => ((contangoref06_On.f k l0 a1).bind fun bt181 => ((workday_Check.f k l0).bind fun t183 => ((contangoref06_Check.f k l0).bind fun t184 => (if t183 = t184 then (if (bt167.1 == bt169.1) = true then (if bt167.2 = bt169.2 then (if bt171.1 = bt173.1 then (if bt171.2 = bt173.2 then (if bt175.1 = bt177.1 then (if bt175.2 = bt177.2 then (if bt179.1 = bt181.1 then (if bt179.2 = bt181.2 then ((contangolaw06_goes.f k).bind fun t185 => (some t185)) else (none)) else (none)) else (none)) else (none)) else (none)) else (none)) else (none)) else (none)) else (none)))))))))))) else ((contangolaw06_goes.f k).bind fun t166 => (some t166)))
theorem contangolaw06_WorkdayTells.mono : ∀ a0 a1 k, LeO (contangolaw06_WorkdayTells.f k a0 a1) (contangolaw06_WorkdayTells.f (k + 1) a0 a1) := by
  intro a0 a1 k
  unfold contangolaw06_WorkdayTells.f
  repeat' first
      | (with_reducible exact contangolaw06_goes.mono _)
      | (with_reducible exact contangoref06_Before.mono _ _ _)
      | (with_reducible exact contangoref06_Check.mono _ _)
      | (with_reducible exact contangoref06_Next.mono _ _ _)
      | (with_reducible exact contangoref06_On.mono _ _ _)
      | (with_reducible exact contangoref06_Works.mono _ _ _)
      | (with_reducible exact workday_Check.mono _ _)
      | (with_reducible exact LeO.refl _)
      | (with_reducible exact LeO.none _)
      | (with_reducible refine LeO.ite ?_ ?_)
      | (with_reducible refine LeO.bind ?_ (fun _ => ?_))
      | exact contangolaw06_goes.mono _
      | exact contangoref06_Before.mono _ _ _
      | exact contangoref06_Check.mono _ _
      | exact contangoref06_Next.mono _ _ _
      | exact contangoref06_On.mono _ _ _
      | exact contangoref06_Works.mono _ _ _
      | exact workday_Check.mono _ _
      | exact LeO.none _
      | refine LeO.ite ?_ ?_
      | refine LeO.bind ?_ (fun _ => ?_)
set_option maxHeartbeats 8000000 in
set_option maxRecDepth 100000 in
theorem contangolaw06_WorkdayTells.calls (k : Nat) (A0 : Option Addr) (c0 : Nat) (l0 : List Int) (a1 : Int) (r : Bool) (w : World) (hL : LongAt w) (hr0 : Kd.C (Kd.int .i64) w A0 l0.length l0) (hc0 : l0.length ≤ c0) (h : contangolaw06_WorkdayTells.f k l0 a1 = some r) :
    Calls Tryd.prog 3 #[.slice A0 l0.length c0, .int .i64 a1] w fun e w' => e = .returned (.bool r) ∧ Below w.heap.size w w' := by
  have HLONG := Aside0.mk hL
  clear hL
  have HR0 := Aside0.mk hr0
  have HC0 := Aside0.mk hc0
  clear hr0 hc0
  have HB := Aside0.mk (Below.refl w.heap.size w)
  have H : ((contangolaw06_few.f l0).bind fun t165 => (if t165 = true then ((workday_Works.f l0 a1).bind fun bt167 => ((contangoref06_Works.f k l0 a1).bind fun bt169 => ((workday_Next.f l0 a1).bind fun bt171 => ((contangoref06_Next.f k l0 a1).bind fun bt173 => ((workday_Before.f l0 a1).bind fun bt175 => ((contangoref06_Before.f k l0 a1).bind fun bt177 => ((workday_On.f l0 a1).bind fun bt179 => ((contangoref06_On.f k l0 a1).bind fun bt181 => ((workday_Check.f k l0).bind fun t183 => ((contangoref06_Check.f k l0).bind fun t184 => (if t183 = t184 then (if (bt167.1 == bt169.1) = true then (if bt167.2 = bt169.2 then (if bt171.1 = bt173.1 then (if bt171.2 = bt173.2 then (if bt175.1 = bt177.1 then (if bt175.2 = bt177.2 then (if bt179.1 = bt181.1 then (if bt179.2 = bt181.2 then ((contangolaw06_goes.f k).bind fun t185 => (some t185)) else (none)) else (none)) else (none)) else (none)) else (none)) else (none)) else (none)) else (none)) else (none)))))))))))) else ((contangolaw06_goes.f k).bind fun t166 => (some t166)))) = some r := h
  clear h
  replace H := Option.bind_eq_some_iff.mp H
  obtain ⟨t165, A30, H⟩ := H
  replace H : (if t165 = true then ((workday_Works.f l0 a1).bind fun bt167 => ((contangoref06_Works.f k l0 a1).bind fun bt169 => ((workday_Next.f l0 a1).bind fun bt171 => ((contangoref06_Next.f k l0 a1).bind fun bt173 => ((workday_Before.f l0 a1).bind fun bt175 => ((contangoref06_Before.f k l0 a1).bind fun bt177 => ((workday_On.f l0 a1).bind fun bt179 => ((contangoref06_On.f k l0 a1).bind fun bt181 => ((workday_Check.f k l0).bind fun t183 => ((contangoref06_Check.f k l0).bind fun t184 => (if t183 = t184 then (if (bt167.1 == bt169.1) = true then (if bt167.2 = bt169.2 then (if bt171.1 = bt173.1 then (if bt171.2 = bt173.2 then (if bt175.1 = bt177.1 then (if bt175.2 = bt177.2 then (if bt179.1 = bt181.1 then (if bt179.2 = bt181.2 then ((contangolaw06_goes.f k).bind fun t185 => (some t185)) else (none)) else (none)) else (none)) else (none)) else (none)) else (none)) else (none)) else (none)) else (none)))))))))))) else ((contangolaw06_goes.f k).bind fun t166 => (some t166))) = some r := H
  have A3 := Aside0.mk A30
  clear A30
  by_cases c4 : t165 = true
  · subst c4
    have H1 : ((workday_Works.f l0 a1).bind fun bt167 => ((contangoref06_Works.f k l0 a1).bind fun bt169 => ((workday_Next.f l0 a1).bind fun bt171 => ((contangoref06_Next.f k l0 a1).bind fun bt173 => ((workday_Before.f l0 a1).bind fun bt175 => ((contangoref06_Before.f k l0 a1).bind fun bt177 => ((workday_On.f l0 a1).bind fun bt179 => ((contangoref06_On.f k l0 a1).bind fun bt181 => ((workday_Check.f k l0).bind fun t183 => ((contangoref06_Check.f k l0).bind fun t184 => (if t183 = t184 then (if (bt167.1 == bt169.1) = true then (if bt167.2 = bt169.2 then (if bt171.1 = bt173.1 then (if bt171.2 = bt173.2 then (if bt175.1 = bt177.1 then (if bt175.2 = bt177.2 then (if bt179.1 = bt181.1 then (if bt179.2 = bt181.2 then ((contangolaw06_goes.f k).bind fun t185 => (some t185)) else (none)) else (none)) else (none)) else (none)) else (none)) else (none)) else (none)) else (none)) else (none)))))))))))) = some r := by rw [if_pos rfl] at H; exact H
    clear H
    have H := H1
    clear H1
    replace H := Option.bind_eq_some_iff.mp H
    obtain ⟨⟨t167, t168⟩, A50, H⟩ := H
    replace H : ((contangoref06_Works.f k l0 a1).bind fun bt169 => ((workday_Next.f l0 a1).bind fun bt171 => ((contangoref06_Next.f k l0 a1).bind fun bt173 => ((workday_Before.f l0 a1).bind fun bt175 => ((contangoref06_Before.f k l0 a1).bind fun bt177 => ((workday_On.f l0 a1).bind fun bt179 => ((contangoref06_On.f k l0 a1).bind fun bt181 => ((workday_Check.f k l0).bind fun t183 => ((contangoref06_Check.f k l0).bind fun t184 => (if t183 = t184 then (if (t167 == bt169.1) = true then (if t168 = bt169.2 then (if bt171.1 = bt173.1 then (if bt171.2 = bt173.2 then (if bt175.1 = bt177.1 then (if bt175.2 = bt177.2 then (if bt179.1 = bt181.1 then (if bt179.2 = bt181.2 then ((contangolaw06_goes.f k).bind fun t185 => (some t185)) else (none)) else (none)) else (none)) else (none)) else (none)) else (none)) else (none)) else (none)) else (none))))))))))) = some r := H
    have A5 := Aside0.mk A50
    clear A50
    replace H := Option.bind_eq_some_iff.mp H
    obtain ⟨⟨t169, t170⟩, A60, H⟩ := H
    replace H : ((workday_Next.f l0 a1).bind fun bt171 => ((contangoref06_Next.f k l0 a1).bind fun bt173 => ((workday_Before.f l0 a1).bind fun bt175 => ((contangoref06_Before.f k l0 a1).bind fun bt177 => ((workday_On.f l0 a1).bind fun bt179 => ((contangoref06_On.f k l0 a1).bind fun bt181 => ((workday_Check.f k l0).bind fun t183 => ((contangoref06_Check.f k l0).bind fun t184 => (if t183 = t184 then (if (t167 == t169) = true then (if t168 = t170 then (if bt171.1 = bt173.1 then (if bt171.2 = bt173.2 then (if bt175.1 = bt177.1 then (if bt175.2 = bt177.2 then (if bt179.1 = bt181.1 then (if bt179.2 = bt181.2 then ((contangolaw06_goes.f k).bind fun t185 => (some t185)) else (none)) else (none)) else (none)) else (none)) else (none)) else (none)) else (none)) else (none)) else (none)))))))))) = some r := H
    have A6 := Aside0.mk A60
    clear A60
    replace H := Option.bind_eq_some_iff.mp H
    obtain ⟨⟨t171, t172⟩, A70, H⟩ := H
    replace H : ((contangoref06_Next.f k l0 a1).bind fun bt173 => ((workday_Before.f l0 a1).bind fun bt175 => ((contangoref06_Before.f k l0 a1).bind fun bt177 => ((workday_On.f l0 a1).bind fun bt179 => ((contangoref06_On.f k l0 a1).bind fun bt181 => ((workday_Check.f k l0).bind fun t183 => ((contangoref06_Check.f k l0).bind fun t184 => (if t183 = t184 then (if (t167 == t169) = true then (if t168 = t170 then (if t171 = bt173.1 then (if t172 = bt173.2 then (if bt175.1 = bt177.1 then (if bt175.2 = bt177.2 then (if bt179.1 = bt181.1 then (if bt179.2 = bt181.2 then ((contangolaw06_goes.f k).bind fun t185 => (some t185)) else (none)) else (none)) else (none)) else (none)) else (none)) else (none)) else (none)) else (none)) else (none))))))))) = some r := H
    have A7 := Aside0.mk A70
    clear A70
    replace H := Option.bind_eq_some_iff.mp H
    obtain ⟨⟨t173, t174⟩, A80, H⟩ := H
    replace H : ((workday_Before.f l0 a1).bind fun bt175 => ((contangoref06_Before.f k l0 a1).bind fun bt177 => ((workday_On.f l0 a1).bind fun bt179 => ((contangoref06_On.f k l0 a1).bind fun bt181 => ((workday_Check.f k l0).bind fun t183 => ((contangoref06_Check.f k l0).bind fun t184 => (if t183 = t184 then (if (t167 == t169) = true then (if t168 = t170 then (if t171 = t173 then (if t172 = t174 then (if bt175.1 = bt177.1 then (if bt175.2 = bt177.2 then (if bt179.1 = bt181.1 then (if bt179.2 = bt181.2 then ((contangolaw06_goes.f k).bind fun t185 => (some t185)) else (none)) else (none)) else (none)) else (none)) else (none)) else (none)) else (none)) else (none)) else (none)))))))) = some r := H
    have A8 := Aside0.mk A80
    clear A80
    replace H := Option.bind_eq_some_iff.mp H
    obtain ⟨⟨t175, t176⟩, A90, H⟩ := H
    replace H : ((contangoref06_Before.f k l0 a1).bind fun bt177 => ((workday_On.f l0 a1).bind fun bt179 => ((contangoref06_On.f k l0 a1).bind fun bt181 => ((workday_Check.f k l0).bind fun t183 => ((contangoref06_Check.f k l0).bind fun t184 => (if t183 = t184 then (if (t167 == t169) = true then (if t168 = t170 then (if t171 = t173 then (if t172 = t174 then (if t175 = bt177.1 then (if t176 = bt177.2 then (if bt179.1 = bt181.1 then (if bt179.2 = bt181.2 then ((contangolaw06_goes.f k).bind fun t185 => (some t185)) else (none)) else (none)) else (none)) else (none)) else (none)) else (none)) else (none)) else (none)) else (none))))))) = some r := H
    have A9 := Aside0.mk A90
    clear A90
    replace H := Option.bind_eq_some_iff.mp H
    obtain ⟨⟨t177, t178⟩, A100, H⟩ := H
    replace H : ((workday_On.f l0 a1).bind fun bt179 => ((contangoref06_On.f k l0 a1).bind fun bt181 => ((workday_Check.f k l0).bind fun t183 => ((contangoref06_Check.f k l0).bind fun t184 => (if t183 = t184 then (if (t167 == t169) = true then (if t168 = t170 then (if t171 = t173 then (if t172 = t174 then (if t175 = t177 then (if t176 = t178 then (if bt179.1 = bt181.1 then (if bt179.2 = bt181.2 then ((contangolaw06_goes.f k).bind fun t185 => (some t185)) else (none)) else (none)) else (none)) else (none)) else (none)) else (none)) else (none)) else (none)) else (none)))))) = some r := H
    have A10 := Aside0.mk A100
    clear A100
    replace H := Option.bind_eq_some_iff.mp H
    obtain ⟨⟨t179, t180⟩, A110, H⟩ := H
    replace H : ((contangoref06_On.f k l0 a1).bind fun bt181 => ((workday_Check.f k l0).bind fun t183 => ((contangoref06_Check.f k l0).bind fun t184 => (if t183 = t184 then (if (t167 == t169) = true then (if t168 = t170 then (if t171 = t173 then (if t172 = t174 then (if t175 = t177 then (if t176 = t178 then (if t179 = bt181.1 then (if t180 = bt181.2 then ((contangolaw06_goes.f k).bind fun t185 => (some t185)) else (none)) else (none)) else (none)) else (none)) else (none)) else (none)) else (none)) else (none)) else (none))))) = some r := H
    have A11 := Aside0.mk A110
    clear A110
    replace H := Option.bind_eq_some_iff.mp H
    obtain ⟨⟨t181, t182⟩, A120, H⟩ := H
    replace H : ((workday_Check.f k l0).bind fun t183 => ((contangoref06_Check.f k l0).bind fun t184 => (if t183 = t184 then (if (t167 == t169) = true then (if t168 = t170 then (if t171 = t173 then (if t172 = t174 then (if t175 = t177 then (if t176 = t178 then (if t179 = t181 then (if t180 = t182 then ((contangolaw06_goes.f k).bind fun t185 => (some t185)) else (none)) else (none)) else (none)) else (none)) else (none)) else (none)) else (none)) else (none)) else (none)))) = some r := H
    have A12 := Aside0.mk A120
    clear A120
    replace H := Option.bind_eq_some_iff.mp H
    obtain ⟨t183, A130, H⟩ := H
    replace H : ((contangoref06_Check.f k l0).bind fun t184 => (if t183 = t184 then (if (t167 == t169) = true then (if t168 = t170 then (if t171 = t173 then (if t172 = t174 then (if t175 = t177 then (if t176 = t178 then (if t179 = t181 then (if t180 = t182 then ((contangolaw06_goes.f k).bind fun t185 => (some t185)) else (none)) else (none)) else (none)) else (none)) else (none)) else (none)) else (none)) else (none)) else (none))) = some r := H
    have A13 := Aside0.mk A130
    clear A130
    replace H := Option.bind_eq_some_iff.mp H
    obtain ⟨t184, A140, H⟩ := H
    replace H : (if t183 = t184 then (if (t167 == t169) = true then (if t168 = t170 then (if t171 = t173 then (if t172 = t174 then (if t175 = t177 then (if t176 = t178 then (if t179 = t181 then (if t180 = t182 then ((contangolaw06_goes.f k).bind fun t185 => (some t185)) else (none)) else (none)) else (none)) else (none)) else (none)) else (none)) else (none)) else (none)) else (none)) = some r := H
    have A14 := Aside0.mk A140
    clear A140
    by_cases c15 : t183 = t184
    · rw [if_pos c15] at H
      have c15b0 : (t183 == t184) = true := beq_iff_eq.mpr c15
      have c15b1 : (t183 != t184) = false := bne_eq_false_iff_eq.mpr c15
      clear c15
      by_cases c16 : (t167 == t169) = true
      · rw [if_pos c16] at H
        have c16b0 : (t167 == t169) = true := c16
        (try (have c16b1 : decide (t167 = t169) = true := by simpa using c16))
        (try (have c16b2 : (t167 == t169) = true := by simpa using c16))
        clear c16
        by_cases c17 : t168 = t170
        · rw [if_pos c17] at H
          have c17b0 : (t168 == t170) = true := beq_iff_eq.mpr c17
          have c17b1 : (t168 != t170) = false := bne_eq_false_iff_eq.mpr c17
          clear c17
          by_cases c18 : t171 = t173
          · rw [if_pos c18] at H
            have c18b0 : (t171 == t173) = true := beq_iff_eq.mpr c18
            have c18b1 : (t171 != t173) = false := bne_eq_false_iff_eq.mpr c18
            clear c18
            by_cases c19 : t172 = t174
            · rw [if_pos c19] at H
              have c19b0 : (t172 == t174) = true := beq_iff_eq.mpr c19
              have c19b1 : (t172 != t174) = false := bne_eq_false_iff_eq.mpr c19
              clear c19
              by_cases c20 : t175 = t177
              · rw [if_pos c20] at H
                have c20b0 : (t175 == t177) = true := beq_iff_eq.mpr c20
                have c20b1 : (t175 != t177) = false := bne_eq_false_iff_eq.mpr c20
                clear c20
                by_cases c21 : t176 = t178
                · rw [if_pos c21] at H
                  have c21b0 : (t176 == t178) = true := beq_iff_eq.mpr c21
                  have c21b1 : (t176 != t178) = false := bne_eq_false_iff_eq.mpr c21
                  clear c21
                  by_cases c22 : t179 = t181
                  · rw [if_pos c22] at H
                    have c22b0 : (t179 == t181) = true := beq_iff_eq.mpr c22
                    have c22b1 : (t179 != t181) = false := bne_eq_false_iff_eq.mpr c22
                    clear c22
                    by_cases c23 : t180 = t182
                    · rw [if_pos c23] at H
                      have c23b0 : (t180 == t182) = true := beq_iff_eq.mpr c23
                      have c23b1 : (t180 != t182) = false := bne_eq_false_iff_eq.mpr c23
                      clear c23
                      replace H := Option.bind_eq_some_iff.mp H
                      obtain ⟨t185, A240, H⟩ := H
                      replace H : (some t185) = some r := H
                      have A24 := Aside0.mk A240
                      clear A240
                      obtain rfl := Option.some.inj H
                      go_enter Tryd.func3, Tryd.ntmps3
                      go_wp2_with (first | ((with_reducible refine gate_callee (f := 9) rfl ?_); refine goesL_ (some 22) rfl rfl Tryd.func9 (by kernel_rfl) rfl #[.slice A0 l0.length c0] rfl (by (try simp only [List.map_toArray, List.map_cons, List.map_nil]); first | done | rfl | (simp only [List.length_drop, List.length_take]; rfl)) ?_; (with_reducible refine (contangolaw06_few.calls _ _ l0 true _ ?side1 ?side2 A3.out).mono ?_); (case side1 => repeat (first | exact HR0.out | (with_reducible refine Kd.C_alloc ?_ _) | (with_reducible refine Kd.C_drewN ?_ _) | (with_reducible refine Kd.C_drew ?_))); (case side2 => exact HC0.out); rintro e w' ⟨rfl, ⟨nd, rfl⟩⟩; refine ⟨_, rfl, ?_⟩) | ((with_reducible refine gate_callee (f := 11) rfl ?_); refine goesL_ (some 28) rfl rfl Tryd.func11 (by kernel_rfl) rfl #[.slice A0 l0.length c0, .int .i64 a1] rfl (by (try simp only [List.map_toArray, List.map_cons, List.map_nil]); first | done | rfl | (simp only [List.length_drop, List.length_take]; rfl)) ?_; (with_reducible refine (workday_Works.calls _ _ l0 a1 t167 t168 _ ?side1 ?side2 A5.out).mono ?_); (case side1 => repeat (first | exact HR0.out | (with_reducible refine Kd.C_alloc ?_ _) | (with_reducible refine Kd.C_drewN ?_ _) | (with_reducible refine Kd.C_drew ?_))); (case side2 => exact HC0.out); rintro e w25 ⟨rfl, hb⟩; refine ⟨_, rfl, ?_⟩; have n0_ := Aside0.mk (below_step (by repeat (first | (with_reducible first | exact HB.out | apply below_alloc | apply pw_below_drewN | apply below_drew1) | exact HB.out)) hb); clear HB; have HB := n0_; clear n0_; (try clear hb); (try clear hb2); (try clear hk); (try clear hi)) | ((with_reducible refine gate_callee (f := 12) rfl ?_); refine goesL_ (some 34) rfl rfl Tryd.func12 (by kernel_rfl) rfl #[.slice A0 l0.length c0, .int .i64 a1] rfl (by (try simp only [List.map_toArray, List.map_cons, List.map_nil]); first | done | rfl | (simp only [List.length_drop, List.length_take]; rfl)) ?_; (with_reducible refine (contangoref06_Works.calls k _ _ l0 a1 t169 t170 _ ?side1 ?side2 A6.out).mono ?_); (case side1 => repeat (first | exact (Kd.C_below HR0.out HB.out) | (with_reducible refine Kd.C_alloc ?_ _) | (with_reducible refine Kd.C_drewN ?_ _) | (with_reducible refine Kd.C_drew ?_))); (case side2 => exact HC0.out); rintro e w' ⟨rfl, ⟨nd, rfl⟩⟩; refine ⟨_, rfl, ?_⟩) | ((with_reducible refine gate_callee (f := 13) rfl ?_); refine goesL_ (some 40) rfl rfl Tryd.func13 (by kernel_rfl) rfl #[.slice A0 l0.length c0, .int .i64 a1] rfl (by (try simp only [List.map_toArray, List.map_cons, List.map_nil]); first | done | rfl | (simp only [List.length_drop, List.length_take]; rfl)) ?_; (with_reducible refine (workday_Next.calls _ _ l0 a1 t171 t172 _ ?side1 ?side2 A7.out).mono ?_); (case side1 => repeat (first | exact (Kd.C_below HR0.out (by repeat (first | (with_reducible first | exact HB.out | apply below_alloc | apply pw_below_drewN | apply below_drew1) | exact HB.out))) | (with_reducible refine Kd.C_alloc ?_ _) | (with_reducible refine Kd.C_drewN ?_ _) | (with_reducible refine Kd.C_drew ?_))); (case side2 => exact HC0.out); rintro e w26 ⟨rfl, hb⟩; refine ⟨_, rfl, ?_⟩; have n0_ := Aside0.mk (below_step (by repeat (first | (with_reducible first | exact HB.out | apply below_alloc | apply pw_below_drewN | apply below_drew1) | exact HB.out)) hb); clear HB; have HB := n0_; clear n0_; (try clear hb); (try clear hb2); (try clear hk); (try clear hi)) | ((with_reducible refine gate_callee (f := 14) rfl ?_); refine goesL_ (some 46) rfl rfl Tryd.func14 (by kernel_rfl) rfl #[.slice A0 l0.length c0, .int .i64 a1] rfl (by (try simp only [List.map_toArray, List.map_cons, List.map_nil]); first | done | rfl | (simp only [List.length_drop, List.length_take]; rfl)) ?_; (with_reducible refine (contangoref06_Next.calls k _ _ l0 a1 t173 t174 _ ?side1 ?side2 A8.out).mono ?_); (case side1 => repeat (first | exact (Kd.C_below HR0.out HB.out) | (with_reducible refine Kd.C_alloc ?_ _) | (with_reducible refine Kd.C_drewN ?_ _) | (with_reducible refine Kd.C_drew ?_))); (case side2 => exact HC0.out); rintro e w' ⟨rfl, ⟨nd, rfl⟩⟩; refine ⟨_, rfl, ?_⟩) | ((with_reducible refine gate_callee (f := 15) rfl ?_); refine goesL_ (some 52) rfl rfl Tryd.func15 (by kernel_rfl) rfl #[.slice A0 l0.length c0, .int .i64 a1] rfl (by (try simp only [List.map_toArray, List.map_cons, List.map_nil]); first | done | rfl | (simp only [List.length_drop, List.length_take]; rfl)) ?_; (with_reducible refine (workday_Before.calls _ _ l0 a1 t175 t176 _ ?side1 ?side2 A9.out).mono ?_); (case side1 => repeat (first | exact (Kd.C_below HR0.out (by repeat (first | (with_reducible first | exact HB.out | apply below_alloc | apply pw_below_drewN | apply below_drew1) | exact HB.out))) | (with_reducible refine Kd.C_alloc ?_ _) | (with_reducible refine Kd.C_drewN ?_ _) | (with_reducible refine Kd.C_drew ?_))); (case side2 => exact HC0.out); rintro e w27 ⟨rfl, hb⟩; refine ⟨_, rfl, ?_⟩; have n0_ := Aside0.mk (below_step (by repeat (first | (with_reducible first | exact HB.out | apply below_alloc | apply pw_below_drewN | apply below_drew1) | exact HB.out)) hb); clear HB; have HB := n0_; clear n0_; (try clear hb); (try clear hb2); (try clear hk); (try clear hi)) | ((with_reducible refine gate_callee (f := 16) rfl ?_); refine goesL_ (some 58) rfl rfl Tryd.func16 (by kernel_rfl) rfl #[.slice A0 l0.length c0, .int .i64 a1] rfl (by (try simp only [List.map_toArray, List.map_cons, List.map_nil]); first | done | rfl | (simp only [List.length_drop, List.length_take]; rfl)) ?_; (with_reducible refine (contangoref06_Before.calls k _ _ l0 a1 t177 t178 _ ?side1 ?side2 A10.out).mono ?_); (case side1 => repeat (first | exact (Kd.C_below HR0.out HB.out) | (with_reducible refine Kd.C_alloc ?_ _) | (with_reducible refine Kd.C_drewN ?_ _) | (with_reducible refine Kd.C_drew ?_))); (case side2 => exact HC0.out); rintro e w' ⟨rfl, ⟨nd, rfl⟩⟩; refine ⟨_, rfl, ?_⟩) | ((with_reducible refine gate_callee (f := 17) rfl ?_); refine goesL_ (some 64) rfl rfl Tryd.func17 (by kernel_rfl) rfl #[.slice A0 l0.length c0, .int .i64 a1] rfl (by (try simp only [List.map_toArray, List.map_cons, List.map_nil]); first | done | rfl | (simp only [List.length_drop, List.length_take]; rfl)) ?_; (with_reducible refine (workday_On.calls _ _ l0 a1 t179 t180 _ ?side1 ?side2 A11.out).mono ?_); (case side1 => repeat (first | exact (Kd.C_below HR0.out (by repeat (first | (with_reducible first | exact HB.out | apply below_alloc | apply pw_below_drewN | apply below_drew1) | exact HB.out))) | (with_reducible refine Kd.C_alloc ?_ _) | (with_reducible refine Kd.C_drewN ?_ _) | (with_reducible refine Kd.C_drew ?_))); (case side2 => exact HC0.out); rintro e w28 ⟨rfl, hb⟩; refine ⟨_, rfl, ?_⟩; have n0_ := Aside0.mk (below_step (by repeat (first | (with_reducible first | exact HB.out | apply below_alloc | apply pw_below_drewN | apply below_drew1) | exact HB.out)) hb); clear HB; have HB := n0_; clear n0_; (try clear hb); (try clear hb2); (try clear hk); (try clear hi)) | ((with_reducible refine gate_callee (f := 18) rfl ?_); refine goesL_ (some 70) rfl rfl Tryd.func18 (by kernel_rfl) rfl #[.slice A0 l0.length c0, .int .i64 a1] rfl (by (try simp only [List.map_toArray, List.map_cons, List.map_nil]); first | done | rfl | (simp only [List.length_drop, List.length_take]; rfl)) ?_; (with_reducible refine (contangoref06_On.calls k _ _ l0 a1 t181 t182 _ ?side1 ?side2 A12.out).mono ?_); (case side1 => repeat (first | exact (Kd.C_below HR0.out HB.out) | (with_reducible refine Kd.C_alloc ?_ _) | (with_reducible refine Kd.C_drewN ?_ _) | (with_reducible refine Kd.C_drew ?_))); (case side2 => exact HC0.out); rintro e w' ⟨rfl, ⟨nd, rfl⟩⟩; refine ⟨_, rfl, ?_⟩) | ((with_reducible refine gate_callee (f := 19) rfl ?_); refine goesL_ (some 74) rfl rfl Tryd.func19 (by kernel_rfl) rfl #[.slice A0 l0.length c0] rfl (by (try simp only [List.map_toArray, List.map_cons, List.map_nil]); first | done | rfl | (simp only [List.length_drop, List.length_take]; rfl)) ?_; (with_reducible refine (workday_Check.calls k _ _ l0 t183 _ ?side1 ?side2 A13.out).mono ?_); (case side1 => repeat (first | exact (Kd.C_below HR0.out (by repeat (first | (with_reducible first | exact HB.out | apply below_alloc | apply pw_below_drewN | apply below_drew1) | exact HB.out))) | (with_reducible refine Kd.C_alloc ?_ _) | (with_reducible refine Kd.C_drewN ?_ _) | (with_reducible refine Kd.C_drew ?_))); (case side2 => exact HC0.out); rintro e w' ⟨rfl, ⟨nd, rfl⟩⟩; refine ⟨_, rfl, ?_⟩) | ((with_reducible refine gate_callee (f := 20) rfl ?_); refine goesL_ (some 76) rfl rfl Tryd.func20 (by kernel_rfl) rfl #[.slice A0 l0.length c0] rfl (by (try simp only [List.map_toArray, List.map_cons, List.map_nil]); first | done | rfl | (simp only [List.length_drop, List.length_take]; rfl)) ?_; (with_reducible refine (contangoref06_Check.calls k _ _ l0 t184 _ ?side1 ?side2 A14.out).mono ?_); (case side1 => repeat (first | exact (Kd.C_below HR0.out (by repeat (first | (with_reducible first | exact HB.out | apply below_alloc | apply pw_below_drewN | apply below_drew1) | exact HB.out))) | (with_reducible refine Kd.C_alloc ?_ _) | (with_reducible refine Kd.C_drewN ?_ _) | (with_reducible refine Kd.C_drew ?_))); (case side2 => exact HC0.out); rintro e w' ⟨rfl, ⟨nd, rfl⟩⟩; refine ⟨_, rfl, ?_⟩) | (go_at_call 10; (with_reducible refine (contangolaw06_goes.calls k  t185 _ (by repeat (first | exact HLONG.out | exact LongAt.after HLONG.out (by assumption) | exact LongAt.below HLONG.out (by assumption) | apply LongAt.drewN | apply LongAt.drew | apply LongAt.alloc)) A24.out).mono ?_); rintro e w29 ⟨rfl, hb⟩; have n0_ := Aside0.mk (below_step (by repeat (first | (with_reducible first | exact HB.out | apply below_alloc | apply pw_below_drewN | apply below_drew1) | exact HB.out)) hb); clear HB; have HB := n0_; clear n0_; (try clear hb); (try clear hb2); (try clear hk); (try clear hi)))
                      go_ret
                      exact ⟨by first | rfl | (simp [errW_none, errW_some] <;> rfl) | (simp [*, errW_none, errW_some] <;> rfl), by repeat (first | (with_reducible first | exact HB.out | apply below_alloc | apply pw_below_drewN | apply below_drew1) | exact HB.out)⟩
                    · rw [if_neg c23] at H
                      exact absurd H (by simp)
                  · rw [if_neg c22] at H
                    exact absurd H (by simp)
                · rw [if_neg c21] at H
                  exact absurd H (by simp)
              · rw [if_neg c20] at H
                exact absurd H (by simp)
            · rw [if_neg c19] at H
              exact absurd H (by simp)
          · rw [if_neg c18] at H
            exact absurd H (by simp)
        · rw [if_neg c17] at H
          exact absurd H (by simp)
      · rw [if_neg c16] at H
        exact absurd H (by simp)
    · rw [if_neg c15] at H
      exact absurd H (by simp)
  · replace c4 := Bool.eq_false_iff.mpr c4
    subst c4
    have H1 : ((contangolaw06_goes.f k).bind fun t166 => (some t166)) = some r := by rw [if_neg (show ¬ (false = true) by decide)] at H; exact H
    clear H
    have H := H1
    clear H1
    replace H := Option.bind_eq_some_iff.mp H
    obtain ⟨t166, A300, H⟩ := H
    replace H : (some t166) = some r := H
    have A30 := Aside0.mk A300
    clear A300
    obtain rfl := Option.some.inj H
    go_enter Tryd.func3, Tryd.ntmps3
    go_wp2_with (first | ((with_reducible refine gate_callee (f := 9) rfl ?_); refine goesL_ (some 22) rfl rfl Tryd.func9 (by kernel_rfl) rfl #[.slice A0 l0.length c0] rfl (by (try simp only [List.map_toArray, List.map_cons, List.map_nil]); first | done | rfl | (simp only [List.length_drop, List.length_take]; rfl)) ?_; (with_reducible refine (contangolaw06_few.calls _ _ l0 false _ ?side1 ?side2 A3.out).mono ?_); (case side1 => repeat (first | exact HR0.out | (with_reducible refine Kd.C_alloc ?_ _) | (with_reducible refine Kd.C_drewN ?_ _) | (with_reducible refine Kd.C_drew ?_))); (case side2 => exact HC0.out); rintro e w' ⟨rfl, ⟨nd, rfl⟩⟩; refine ⟨_, rfl, ?_⟩) | ((with_reducible refine gate_callee (f := 10) rfl ?_); refine goesL_ (some 24) rfl rfl Tryd.func10 (by kernel_rfl) rfl #[] rfl (by (try simp only [List.map_toArray, List.map_cons, List.map_nil]); first | done | rfl | (simp only [List.length_drop, List.length_take]; rfl)) ?_; (with_reducible refine (contangolaw06_goes.calls k  t166 _ (by repeat (first | exact HLONG.out | exact LongAt.after HLONG.out (by assumption) | exact LongAt.below HLONG.out (by assumption) | apply LongAt.drewN | apply LongAt.drew | apply LongAt.alloc)) A30.out).mono ?_); rintro e w31 ⟨rfl, hb⟩; refine ⟨_, rfl, ?_⟩; have n0_ := Aside0.mk (below_step (by repeat (first | (with_reducible first | exact HB.out | apply below_alloc | apply pw_below_drewN | apply below_drew1) | exact HB.out)) hb); clear HB; have HB := n0_; clear n0_; (try clear hb); (try clear hb2); (try clear hk); (try clear hi)))
    go_ret
    exact ⟨by first | rfl | (simp [errW_none, errW_some] <;> rfl) | (simp [*, errW_none, errW_some] <;> rfl), by repeat (first | (with_reducible first | exact HB.out | apply below_alloc | apply pw_below_drewN | apply below_drew1) | exact HB.out)⟩

/-- THE ONE PURE STATEMENT of contangolaw06_WorkdayTells: yours. -/
def contangolaw06_WorkdayTells.Pure : Prop := ∀ (l0 : List Int) (a1 : Int), l0.length ≤ maxLen → l0.length * 8 ≤ 140737488351232 → (∀ x ∈ l0, (Lit.int .i64 x).wf = true) → (Lit.int .i64 a1).wf = true → ∃ k, contangolaw06_WorkdayTells.f k l0 a1 = some true
theorem contangolaw06_WorkdayTells.walk (P : contangolaw06_WorkdayTells.Pure) (a0 : Option Addr) (len0 cap0 : Nat) (z0 : List Int) (a1 : Int) (w : World) (hL : LongAt w) (w0 : (a0 = none ∧ len0 = 0 ∧ cap0 = 0 ∧ z0 = []) ∨ ∃ x, a0 = some x ∧ len0 ≤ cap0 ∧ cap0 ≤ maxLen ∧ z0.length = cap0 ∧ (∀ i, i < z0.length → w.cell? (x.add i) = some (.int .i64 (z0.getD i 0))) ∧ ∀ n ∈ z0, (Lit.int .i64 n).wf = true) (y0 : len0 * 8 ≤ 140737488351232) (w1 : (Lit.int .i64 a1).wf = true) :
    Calls Tryd.prog 3 #[.slice a0 len0 cap0, .int .i64 a1] w fun e w' => e = .returned (.bool true) ∧ Below w.heap.size w w' := by
  obtain ⟨l0, rfl, hr0, hm0, hw0, hc0⟩ := ReadsInt.ofRowC w0
  obtain ⟨k, h⟩ := P l0 a1 hm0 y0 hw0 w1
  refine (contangolaw06_WorkdayTells.calls k _ _ l0 a1 true w hL (Kd.C_of_reads (d := (0 : Int)) (h1 := fun _ => rfl) hr0) hc0 h).mono ?_
  rintro e w' ⟨rfl, hd⟩
  exact ⟨rfl, hd⟩

end Go.Proofs.YtgcefakbbmgbbaaDoor.PWorkdayTells
