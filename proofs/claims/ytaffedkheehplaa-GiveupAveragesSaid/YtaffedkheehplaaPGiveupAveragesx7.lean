/- Laid for this claim by a program of this session's (wip/mkprint.py, wip/ext.py); not trusted: Lean checks it. -/
import Derived.Test.YtaffedkheehplaaPGiveupAveragesx0
import Derived.Test.YtaffedkheehplaaPGiveupAveragesx1
namespace Go.Proofs.Ytaffedkheehplaa.PGiveupAverages
open Go.RowKit Go.Proofs.YtaffedkheehplaaW.PrintWords Go.Proofs.YtaffedkheehplaaW.PrintLast Go.Proofs.YtaffedkheehplaaW.PrintMore
attribute [local go_sem] max2_int min2_int max_two min_two max_three min_three max_four min_four   -- for this text's walks alone
set_option linter.unusedVariables false
set_option linter.unusedSimpArgs false

attribute [local go_sem high] eqA38
/-! ### contangoref14_check: function 22 -/
mutual
def contangoref14_check.j0 : Nat → List (S42) → Bool → Option (Int)
  | 0, _, _ => none
  | k + 1, x0, x13 => if x13 = true then (some 16) else (if (x0.length : Int) = 0 then (contangoref14_check.j1 k x0 true) else (contangoref14_check.j1 k x0 (decide ((x0.length : Int) > 1024))))
def contangoref14_check.j1 : Nat → List (S42) → Bool → Option (Int)
  | 0, _, _ => none
  | k + 1, x0, x21 => if x21 = true then (some 8) else (contangoref14_check.l0 k x0 0)
def contangoref14_check.l0 : Nat → List (S42) → Int → Option (Int)
  | 0, _, _ => none
  | k + 1, x0, x5 => if x5 < (x0.length : Int) then (if 0 ≤ x5 then (if 0 < (x0.length : Int) then (if (!((((rd_T42 x0 x5).f3.f0).toList) == (((rd_T42 x0 0).f3.f0).toList)) || (!(((rd_T42 x0 x5).f3.f1) == ((rd_T42 x0 0).f3.f1)) || (!(((rd_T42 x0 x5).f3.f2) == ((rd_T42 x0 0).f3.f2)) || (!(((rd_T42 x0 x5).f3.f3) == ((rd_T42 x0 0).f3.f3)))))) = true then (some 19) else (contangoref14_check.l0 k x0 (wrap64 (x5 + 1)))) else (none)) else (none)) else (contangoref14_check.l1 k x0 0)
def contangoref14_check.l1 : Nat → List (S42) → Int → Option (Int)
  | 0, _, _ => none
  | k + 1, x0, x6 => if x6 < (x0.length : Int) then (if 0 ≤ x6 then (if ((rd_T42 x0 x6).f4) < 1 then (some 18) else (if ((rd_T42 x0 x6).f4) > 1048576 then (some 18) else (contangoref14_check.l1 k x0 (wrap64 (x6 + 1))))) else (none)) else (contangoref14_check.l2 k x0 0)
def contangoref14_check.l2 : Nat → List (S42) → Int → Option (Int)
  | 0, _, _ => none
  | k + 1, x0, x7 => if x7 < (x0.length : Int) then (if 0 ≤ x7 then (if ((rd_T42 x0 x7).f5) < (-16777216) then (some 17) else (if ((rd_T42 x0 x7).f5) > 16777216 then (some 17) else (contangoref14_check.l2 k x0 (wrap64 (x7 + 1))))) else (none)) else (some 0)
end
def contangoref14_check.f (k : Nat) (l0 : List (S42)) (a1 : Int) : Option (Int) := if a1 < 1 then (contangoref14_check.j0 k l0 true) else (contangoref14_check.j0 k l0 (decide (a1 > 16777216)))
theorem contangoref14_check.mono_l : ∀ k, (∀ y0 y1, LeO (contangoref14_check.j0 k y0 y1) (contangoref14_check.j0 (k + 1) y0 y1)) ∧ (∀ y0 y1, LeO (contangoref14_check.j1 k y0 y1) (contangoref14_check.j1 (k + 1) y0 y1)) ∧ (∀ y0 y1, LeO (contangoref14_check.l0 k y0 y1) (contangoref14_check.l0 (k + 1) y0 y1)) ∧ (∀ y0 y1, LeO (contangoref14_check.l1 k y0 y1) (contangoref14_check.l1 (k + 1) y0 y1)) ∧ (∀ y0 y1, LeO (contangoref14_check.l2 k y0 y1) (contangoref14_check.l2 (k + 1) y0 y1))
  | 0 => ⟨fun _ _ r h => by simp [contangoref14_check.j0] at h, fun _ _ r h => by simp [contangoref14_check.j1] at h, fun _ _ r h => by simp [contangoref14_check.l0] at h, fun _ _ r h => by simp [contangoref14_check.l1] at h, fun _ _ r h => by simp [contangoref14_check.l2] at h⟩
  | k + 1 => by
    obtain ⟨ih0, ih1, ih2, ih3, ih4⟩ := contangoref14_check.mono_l k
    refine ⟨?_, ?_, ?_, ?_, ?_⟩
    · intro y0 y1
      unfold contangoref14_check.j0
      repeat' first
      | (with_reducible exact ih0 _ _)
      | (with_reducible exact ih1 _ _)
      | (with_reducible exact ih2 _ _)
      | (with_reducible exact ih3 _ _)
      | (with_reducible exact ih4 _ _)
      | (with_reducible exact LeO.refl _)
      | (with_reducible exact LeO.none _)
      | (with_reducible refine LeO.ite ?_ ?_)
      | (with_reducible refine LeO.bind ?_ (fun _ => ?_))
      | exact ih0 _ _
      | exact ih1 _ _
      | exact ih2 _ _
      | exact ih3 _ _
      | exact ih4 _ _
      | exact LeO.none _
      | refine LeO.ite ?_ ?_
      | refine LeO.bind ?_ (fun _ => ?_)
    · intro y0 y1
      unfold contangoref14_check.j1
      repeat' first
      | (with_reducible exact ih0 _ _)
      | (with_reducible exact ih1 _ _)
      | (with_reducible exact ih2 _ _)
      | (with_reducible exact ih3 _ _)
      | (with_reducible exact ih4 _ _)
      | (with_reducible exact LeO.refl _)
      | (with_reducible exact LeO.none _)
      | (with_reducible refine LeO.ite ?_ ?_)
      | (with_reducible refine LeO.bind ?_ (fun _ => ?_))
      | exact ih0 _ _
      | exact ih1 _ _
      | exact ih2 _ _
      | exact ih3 _ _
      | exact ih4 _ _
      | exact LeO.none _
      | refine LeO.ite ?_ ?_
      | refine LeO.bind ?_ (fun _ => ?_)
    · intro y0 y1
      unfold contangoref14_check.l0
      repeat' first
      | (with_reducible exact ih0 _ _)
      | (with_reducible exact ih1 _ _)
      | (with_reducible exact ih2 _ _)
      | (with_reducible exact ih3 _ _)
      | (with_reducible exact ih4 _ _)
      | (with_reducible exact LeO.refl _)
      | (with_reducible exact LeO.none _)
      | (with_reducible refine LeO.ite ?_ ?_)
      | (with_reducible refine LeO.bind ?_ (fun _ => ?_))
      | exact ih0 _ _
      | exact ih1 _ _
      | exact ih2 _ _
      | exact ih3 _ _
      | exact ih4 _ _
      | exact LeO.none _
      | refine LeO.ite ?_ ?_
      | refine LeO.bind ?_ (fun _ => ?_)
    · intro y0 y1
      unfold contangoref14_check.l1
      repeat' first
      | (with_reducible exact ih0 _ _)
      | (with_reducible exact ih1 _ _)
      | (with_reducible exact ih2 _ _)
      | (with_reducible exact ih3 _ _)
      | (with_reducible exact ih4 _ _)
      | (with_reducible exact LeO.refl _)
      | (with_reducible exact LeO.none _)
      | (with_reducible refine LeO.ite ?_ ?_)
      | (with_reducible refine LeO.bind ?_ (fun _ => ?_))
      | exact ih0 _ _
      | exact ih1 _ _
      | exact ih2 _ _
      | exact ih3 _ _
      | exact ih4 _ _
      | exact LeO.none _
      | refine LeO.ite ?_ ?_
      | refine LeO.bind ?_ (fun _ => ?_)
    · intro y0 y1
      unfold contangoref14_check.l2
      repeat' first
      | (with_reducible exact ih0 _ _)
      | (with_reducible exact ih1 _ _)
      | (with_reducible exact ih2 _ _)
      | (with_reducible exact ih3 _ _)
      | (with_reducible exact ih4 _ _)
      | (with_reducible exact LeO.refl _)
      | (with_reducible exact LeO.none _)
      | (with_reducible refine LeO.ite ?_ ?_)
      | (with_reducible refine LeO.bind ?_ (fun _ => ?_))
      | exact ih0 _ _
      | exact ih1 _ _
      | exact ih2 _ _
      | exact ih3 _ _
      | exact ih4 _ _
      | exact LeO.none _
      | refine LeO.ite ?_ ?_
      | refine LeO.bind ?_ (fun _ => ?_)
theorem contangoref14_check.mono : ∀ a0 a1 k, LeO (contangoref14_check.f k a0 a1) (contangoref14_check.f (k + 1) a0 a1) := by
  intro a0 a1 k
  obtain ⟨ih0, ih1, ih2, ih3, ih4⟩ := contangoref14_check.mono_l k
  unfold contangoref14_check.f
  repeat' first
      | (with_reducible exact ih0 _ _)
      | (with_reducible exact ih1 _ _)
      | (with_reducible exact ih2 _ _)
      | (with_reducible exact ih3 _ _)
      | (with_reducible exact ih4 _ _)
      | (with_reducible exact LeO.refl _)
      | (with_reducible exact LeO.none _)
      | (with_reducible refine LeO.ite ?_ ?_)
      | (with_reducible refine LeO.bind ?_ (fun _ => ?_))
      | exact ih0 _ _
      | exact ih1 _ _
      | exact ih2 _ _
      | exact ih3 _ _
      | exact ih4 _ _
      | exact LeO.none _
      | refine LeO.ite ?_ ?_
      | refine LeO.bind ?_ (fun _ => ?_)
set_option maxHeartbeats 8000000 in
set_option maxRecDepth 100000 in
theorem contangoref14_check.calls (k : Nat) (A0 : Option Addr) (c0 : Nat) (l0 : List (S42)) (a1 : Int) (r : Int) (w : World) (hr0 : Kd.C k42 w A0 l0.length l0) (hc0 : l0.length ≤ c0) (h : contangoref14_check.f k l0 a1 = some r) :
    Calls Try.prog 22 #[.slice A0 l0.length c0, .int .i64 a1] w fun e w' => e = .returned (.int .i64 r) ∧ Drawn0 w w' := by
  have hu38 := Try.underlying38
  have HR0 := Aside0.mk hr0
  have HC0 := Aside0.mk hc0
  clear hr0 hc0
  have H : (if a1 < 1 then (contangoref14_check.j0 k l0 true) else (contangoref14_check.j0 k l0 (decide (a1 > 16777216)))) = some r := h
  clear h
  have HC3 := Aside0.mk H
  clear H
  go_enter Try.func22, Try.ntmps22
  go_upto_region 1 with (fail)
  repeat (go_quiet (fail); go_upto_region 1 with (fail))
  go_cut [13] (fun v13 wc => ∃ (kq : Nat) (x13_2 : Bool), v13 = .bool x13_2 ∧ Aside0 (contangoref14_check.j0 kq l0 x13_2 = some r) ∧ Aside0 (kq ≤ k) ∧ Drawn0 w wc)
  case first =>
    have H := HC3.out
    clear HC3
    by_cases c4 : a1 < 1
    · rw [if_pos c4] at H
      have c4b0 : decide (a1 < 1) = true := decide_eq_true c4
      clear c4
      (first | rw [c4b0] | (simp only [i64_w, i32_w]; rw [c4b0]) | skip)
      have H' := Aside0.mk H
      clear H
      go_wp2
      repeat (go_quiet (fail); try go_wp2)
      go_meet
      case rel => exact ⟨_, (true), (by first | rfl | (simp; done) | (simp [*]; done)), H', ⟨by first | omega | exact Nat.le_refl _⟩, by repeat (first | exact Drawn0.refl _ | apply Drawn0.step)⟩
    · rw [if_neg c4] at H
      have c4b0 : decide (a1 < 1) = false := decide_eq_false c4
      clear c4
      (first | rw [c4b0] | (simp only [i64_w, i32_w]; rw [c4b0]) | skip)
      have H' := Aside0.mk H
      clear H
      go_wp2
      repeat (go_quiet (fail); try go_wp2)
      go_meet
      case rel => exact ⟨_, (decide (a1 > 16777216)), (by first | rfl | (simp; done) | (simp [*]; done)), H', ⟨by first | omega | exact Nat.le_refl _⟩, by repeat (first | exact Drawn0.refl _ | apply Drawn0.step)⟩
  case rest =>
    clear HC3
    try clear c2
    try clear p2
    try clear c4
    try clear c4b0
    obtain ⟨kq, x13_2, rfl, HA, HJ2, ⟨mc2, rfl⟩⟩ := hcut
    cases kq with
    | zero => exact absurd HA.out (by simp [contangoref14_check.j0])
    | succ kj2 =>
      have H := HA.out
      clear HA
      simp only [contangoref14_check.j0] at H
      by_cases c5 : x13_2 = true
      · subst c5
        have H1 : (some 16) = some r := by rw [if_pos rfl] at H; exact H
        clear H
        have H := H1
        clear H1
        obtain rfl := Option.some.inj H
        go_wp2
        repeat (go_quiet (fail); try go_wp2)
        go_ret
        exact ⟨by first | rfl | (simp; done) | (simp [*]; done), by repeat (first | exact Drawn0.refl _ | apply Drawn0.step)⟩
      · replace c5 := Bool.eq_false_iff.mpr c5
        subst c5
        have H1 : (if (l0.length : Int) = 0 then (contangoref14_check.j1 kj2 l0 true) else (contangoref14_check.j1 kj2 l0 (decide ((l0.length : Int) > 1024)))) = some r := by rw [if_neg (show ¬ (false = true) by decide)] at H; exact H
        clear H
        have H := H1
        clear H1
        have HC6 := Aside0.mk H
        clear H
        go_upto_region 3 with (fail)
        repeat (go_quiet (fail); go_upto_region 3 with (fail))
        go_cut [21] (fun v21 wc => ∃ (kq : Nat) (x21_5 : Bool), v21 = .bool x21_5 ∧ Aside0 (contangoref14_check.j1 kq l0 x21_5 = some r) ∧ Aside0 (kq ≤ kj2) ∧ Drawn0 w wc)
        case first =>
          have H := HC6.out
          clear HC6
          by_cases c7 : (l0.length : Int) = 0
          · rw [if_pos c7] at H
            have c7b0 : ((l0.length : Int) == 0) = true := beq_iff_eq.mpr c7
            have c7b1 : ((l0.length : Int) != 0) = false := bne_eq_false_iff_eq.mpr c7
            clear c7
            (first | rw [c7b0] | (simp only [i64_w, i32_w]; rw [c7b0]) | rw [c7b1] | skip)
            have H' := Aside0.mk H
            clear H
            go_wp2
            repeat (go_quiet (fail); try go_wp2)
            go_meet
            case rel => exact ⟨_, (true), (by first | rfl | (simp; done) | (simp [*]; done)), H', ⟨by have := HJ2.out; first | omega | exact Nat.le_refl _⟩, by repeat (first | exact Drawn0.refl _ | apply Drawn0.step)⟩
          · rw [if_neg c7] at H
            have c7b0 : ((l0.length : Int) == 0) = false := beq_eq_false_iff_ne.mpr c7
            have c7b1 : ((l0.length : Int) != 0) = true := bne_iff_ne.mpr c7
            have c7b2 : ¬ (l0 = []) := fun h_ => c7 (by rw [h_]; rfl)
            (first | rw [c7b0] | (simp only [i64_w, i32_w]; rw [c7b0]) | rw [c7b1] | rw [c7b2] | skip)
            have H' := Aside0.mk H
            clear H
            go_wp2
            repeat (go_quiet (fail); try go_wp2)
            go_meet
            case rel => exact ⟨_, (decide ((l0.length : Int) > 1024)), (by first | rfl | (simp; done) | (simp [*]; done)), H', ⟨by have := HJ2.out; first | omega | exact Nat.le_refl _⟩, by repeat (first | exact Drawn0.refl _ | apply Drawn0.step)⟩
        case rest =>
          clear HC6
          try clear c2
          try clear p2
          try clear c4
          try clear c4b0
          try clear c5
          try clear c7
          try clear c7b0
          try clear c7b1
          try clear c7b2
          try clear p2
          obtain ⟨kq, x21_5, rfl, HA, HJ5, ⟨mc5, rfl⟩⟩ := hcut
          cases kq with
          | zero => exact absurd HA.out (by simp [contangoref14_check.j1])
          | succ kj5 =>
            have H := HA.out
            clear HA
            simp only [contangoref14_check.j1] at H
            by_cases c8 : x21_5 = true
            · subst c8
              have H1 : (some 8) = some r := by rw [if_pos rfl] at H; exact H
              clear H
              have H := H1
              clear H1
              obtain rfl := Option.some.inj H
              go_wp2
              repeat (go_quiet (fail); try go_wp2)
              go_ret
              exact ⟨by first | rfl | (simp; done) | (simp [*]; done), by repeat (first | exact Drawn0.refl _ | apply Drawn0.step)⟩
            · replace c8 := Bool.eq_false_iff.mpr c8
              subst c8
              have H1 : (contangoref14_check.l0 kj5 l0 0) = some r := by rw [if_neg (show ¬ (false = true) by decide)] at H; exact H
              clear H
              have H := H1
              clear H1
              have H' := Aside0.mk H
              clear H
              go_wp2
              repeat (go_quiet (fail); try go_wp2)
              go_loopg [5] kj5 (fun kq v5 w' => ∃ (x5_3 : Int), v5 = .int .i64 x5_3 ∧ Aside0 (contangoref14_check.l0 kq l0 x5_3 = some r) ∧ Aside0 (kq ≤ kj5) ∧ Drawn0 w w')
              case atStart => exact ⟨(0), (by first | rfl | (simp; done) | (simp [*]; done)), H', ⟨Nat.le_refl _⟩, by repeat (first | exact Drawn0.refl _ | apply Drawn0.step)⟩
              case round =>
                clear H'
                try clear c2
                try clear p2
                try clear c4
                try clear c4b0
                try clear c5
                try clear c7
                try clear c7b0
                try clear c7b1
                try clear c7b2
                try clear c8
                try clear p2
                obtain ⟨x5_3, rfl, HA, HK3, ⟨m3, rfl⟩⟩ := hrel
                cases gk with
                | zero => exact absurd HA.out (by simp [contangoref14_check.l0])
                | succ k3 =>
                  have H := HA.out
                  clear HA
                  simp only [contangoref14_check.l0] at H
                  by_cases c9 : x5_3 < (l0.length : Int)
                  · rw [if_pos c9] at H
                    have c9b0 : decide (x5_3 < (l0.length : Int)) = true := decide_eq_true c9
                    clear c9
                    by_cases c10 : 0 ≤ x5_3
                    · rw [if_pos c10] at H
                      have c10b0 : decide (0 ≤ x5_3) = true := decide_eq_true c10
                      clear c10
                      by_cases c11 : 0 < (l0.length : Int)
                      · rw [if_pos c11] at H
                        have c11b0 : decide (0 < (l0.length : Int)) = true := decide_eq_true c11
                        have c11b1 : decide (0 < l0.length) = true := decide_eq_true (by omega)
                        clear c11
                        by_cases c12 : (!((((rd_T42 l0 x5_3).f3.f0).toList) == (((rd_T42 l0 0).f3.f0).toList)) || (!(((rd_T42 l0 x5_3).f3.f1) == ((rd_T42 l0 0).f3.f1)) || (!(((rd_T42 l0 x5_3).f3.f2) == ((rd_T42 l0 0).f3.f2)) || (!(((rd_T42 l0 x5_3).f3.f3) == ((rd_T42 l0 0).f3.f3)))))) = true
                        · rw [if_pos c12] at H
                          have c12b0 : (!((((rd_T42 l0 x5_3).f3.f0).toList) == (((rd_T42 l0 0).f3.f0).toList)) || (!(((rd_T42 l0 x5_3).f3.f1) == ((rd_T42 l0 0).f3.f1)) || (!(((rd_T42 l0 x5_3).f3.f2) == ((rd_T42 l0 0).f3.f2)) || (!(((rd_T42 l0 x5_3).f3.f3) == ((rd_T42 l0 0).f3.f3)))))) = true := c12
                          clear c12
                          obtain rfl := Option.some.inj H
                          have p143 : 0 ≤ (x5_3 : Int) := of_decide_eq_true (by first | (with_reducible assumption) | assumption)
                          have q143 : x5_3 < (l0.length : Int) := of_decide_eq_true (by first | (with_reducible assumption) | assumption)
                          obtain ⟨ad143, e143, hx143_0, hx143_1, hx143_2, hx143_3, hx143_4, hx143_5, hx143_6, hx143_7, hx143_8, hx143_9, hx143_10, hx143_11, hx143_12⟩ := at_T42 HR0.out x5_3 p143 q143
                          cases e143
                          replace p143 := eq_true p143
                          replace q143 := eq_true q143
                          have p144 : 0 ≤ (0 : Int) := (by omega)
                          have q144 : 0 < (l0.length : Int) := of_decide_eq_true (by first | (with_reducible assumption) | assumption)
                          obtain ⟨ad144, e144, hx144_0, hx144_1, hx144_2, hx144_3, hx144_4, hx144_5, hx144_6, hx144_7, hx144_8, hx144_9, hx144_10, hx144_11, hx144_12⟩ := at_T42 HR0.out 0 p144 q144
                          obtain rfl : ad143 = ad144 := (by injection e144)
                          have qi144 : (0 < l0.length) = True := eq_true (by omega)
                          (try rw [show ((0 : Int)).toNat = 0 from rfl] at hx144_0)
                          (try rw [show 0 * 13 = 0 from rfl] at hx144_0)
                          (try rw [Addr.add_zero'] at hx144_0)
                          (try rw [show ((0 : Int)).toNat = 0 from rfl] at hx144_1)
                          (try rw [show 0 * 13 = 0 from rfl] at hx144_1)
                          (try rw [Addr.add_zero'] at hx144_1)
                          (try rw [show ((0 : Int)).toNat = 0 from rfl] at hx144_2)
                          (try rw [show 0 * 13 = 0 from rfl] at hx144_2)
                          (try rw [Addr.add_zero'] at hx144_2)
                          (try rw [show ((0 : Int)).toNat = 0 from rfl] at hx144_3)
                          (try rw [show 0 * 13 = 0 from rfl] at hx144_3)
                          (try rw [Addr.add_zero'] at hx144_3)
                          (try rw [show ((0 : Int)).toNat = 0 from rfl] at hx144_4)
                          (try rw [show 0 * 13 = 0 from rfl] at hx144_4)
                          (try rw [Addr.add_zero'] at hx144_4)
                          (try rw [show ((0 : Int)).toNat = 0 from rfl] at hx144_5)
                          (try rw [show 0 * 13 = 0 from rfl] at hx144_5)
                          (try rw [Addr.add_zero'] at hx144_5)
                          (try rw [show ((0 : Int)).toNat = 0 from rfl] at hx144_6)
                          (try rw [show 0 * 13 = 0 from rfl] at hx144_6)
                          (try rw [Addr.add_zero'] at hx144_6)
                          (try rw [show ((0 : Int)).toNat = 0 from rfl] at hx144_7)
                          (try rw [show 0 * 13 = 0 from rfl] at hx144_7)
                          (try rw [Addr.add_zero'] at hx144_7)
                          (try rw [show ((0 : Int)).toNat = 0 from rfl] at hx144_8)
                          (try rw [show 0 * 13 = 0 from rfl] at hx144_8)
                          (try rw [Addr.add_zero'] at hx144_8)
                          (try rw [show ((0 : Int)).toNat = 0 from rfl] at hx144_9)
                          (try rw [show 0 * 13 = 0 from rfl] at hx144_9)
                          (try rw [Addr.add_zero'] at hx144_9)
                          (try rw [show ((0 : Int)).toNat = 0 from rfl] at hx144_10)
                          (try rw [show 0 * 13 = 0 from rfl] at hx144_10)
                          (try rw [Addr.add_zero'] at hx144_10)
                          (try rw [show ((0 : Int)).toNat = 0 from rfl] at hx144_11)
                          (try rw [show 0 * 13 = 0 from rfl] at hx144_11)
                          (try rw [Addr.add_zero'] at hx144_11)
                          (try rw [show ((0 : Int)).toNat = 0 from rfl] at hx144_12)
                          (try rw [show 0 * 13 = 0 from rfl] at hx144_12)
                          (try rw [Addr.add_zero'] at hx144_12)
                          replace p144 := eq_true p144
                          replace q144 := eq_true q144
                          go_wp2
                          repeat (go_quiet (fail); try go_wp2)
                          go_ret
                          exact ⟨by first | rfl | (simp; done) | (simp [*]; done), by repeat (first | exact Drawn0.refl _ | apply Drawn0.step)⟩
                        · rw [if_neg c12] at H
                          have c12b0 : (!((((rd_T42 l0 x5_3).f3.f0).toList) == (((rd_T42 l0 0).f3.f0).toList)) || (!(((rd_T42 l0 x5_3).f3.f1) == ((rd_T42 l0 0).f3.f1)) || (!(((rd_T42 l0 x5_3).f3.f2) == ((rd_T42 l0 0).f3.f2)) || (!(((rd_T42 l0 x5_3).f3.f3) == ((rd_T42 l0 0).f3.f3)))))) = false := by simpa using c12
                          clear c12
                          have H' := Aside0.mk H
                          clear H
                          have p143 : 0 ≤ (x5_3 : Int) := of_decide_eq_true (by first | (with_reducible assumption) | assumption)
                          have q143 : x5_3 < (l0.length : Int) := of_decide_eq_true (by first | (with_reducible assumption) | assumption)
                          obtain ⟨ad143, e143, hx143_0, hx143_1, hx143_2, hx143_3, hx143_4, hx143_5, hx143_6, hx143_7, hx143_8, hx143_9, hx143_10, hx143_11, hx143_12⟩ := at_T42 HR0.out x5_3 p143 q143
                          cases e143
                          replace p143 := eq_true p143
                          replace q143 := eq_true q143
                          have p144 : 0 ≤ (0 : Int) := (by omega)
                          have q144 : 0 < (l0.length : Int) := of_decide_eq_true (by first | (with_reducible assumption) | assumption)
                          obtain ⟨ad144, e144, hx144_0, hx144_1, hx144_2, hx144_3, hx144_4, hx144_5, hx144_6, hx144_7, hx144_8, hx144_9, hx144_10, hx144_11, hx144_12⟩ := at_T42 HR0.out 0 p144 q144
                          obtain rfl : ad143 = ad144 := (by injection e144)
                          have qi144 : (0 < l0.length) = True := eq_true (by omega)
                          (try rw [show ((0 : Int)).toNat = 0 from rfl] at hx144_0)
                          (try rw [show 0 * 13 = 0 from rfl] at hx144_0)
                          (try rw [Addr.add_zero'] at hx144_0)
                          (try rw [show ((0 : Int)).toNat = 0 from rfl] at hx144_1)
                          (try rw [show 0 * 13 = 0 from rfl] at hx144_1)
                          (try rw [Addr.add_zero'] at hx144_1)
                          (try rw [show ((0 : Int)).toNat = 0 from rfl] at hx144_2)
                          (try rw [show 0 * 13 = 0 from rfl] at hx144_2)
                          (try rw [Addr.add_zero'] at hx144_2)
                          (try rw [show ((0 : Int)).toNat = 0 from rfl] at hx144_3)
                          (try rw [show 0 * 13 = 0 from rfl] at hx144_3)
                          (try rw [Addr.add_zero'] at hx144_3)
                          (try rw [show ((0 : Int)).toNat = 0 from rfl] at hx144_4)
                          (try rw [show 0 * 13 = 0 from rfl] at hx144_4)
                          (try rw [Addr.add_zero'] at hx144_4)
                          (try rw [show ((0 : Int)).toNat = 0 from rfl] at hx144_5)
                          (try rw [show 0 * 13 = 0 from rfl] at hx144_5)
                          (try rw [Addr.add_zero'] at hx144_5)
                          (try rw [show ((0 : Int)).toNat = 0 from rfl] at hx144_6)
                          (try rw [show 0 * 13 = 0 from rfl] at hx144_6)
                          (try rw [Addr.add_zero'] at hx144_6)
                          (try rw [show ((0 : Int)).toNat = 0 from rfl] at hx144_7)
                          (try rw [show 0 * 13 = 0 from rfl] at hx144_7)
                          (try rw [Addr.add_zero'] at hx144_7)
                          (try rw [show ((0 : Int)).toNat = 0 from rfl] at hx144_8)
                          (try rw [show 0 * 13 = 0 from rfl] at hx144_8)
                          (try rw [Addr.add_zero'] at hx144_8)
                          (try rw [show ((0 : Int)).toNat = 0 from rfl] at hx144_9)
                          (try rw [show 0 * 13 = 0 from rfl] at hx144_9)
                          (try rw [Addr.add_zero'] at hx144_9)
                          (try rw [show ((0 : Int)).toNat = 0 from rfl] at hx144_10)
                          (try rw [show 0 * 13 = 0 from rfl] at hx144_10)
                          (try rw [Addr.add_zero'] at hx144_10)
                          (try rw [show ((0 : Int)).toNat = 0 from rfl] at hx144_11)
                          (try rw [show 0 * 13 = 0 from rfl] at hx144_11)
                          (try rw [Addr.add_zero'] at hx144_11)
                          (try rw [show ((0 : Int)).toNat = 0 from rfl] at hx144_12)
                          (try rw [show 0 * 13 = 0 from rfl] at hx144_12)
                          (try rw [Addr.add_zero'] at hx144_12)
                          replace p144 := eq_true p144
                          replace q144 := eq_true q144
                          go_wp2
                          repeat (go_quiet (fail); try go_wp2)
                          go_roundg k3
                          case measure => have := HJ2.out; have := HJ5.out; have := HK3.out; omega
                          case rel => exact ⟨(wrap64 (x5_3 + 1)), (by first | rfl | (simp; done) | (simp [*]; done)), H', ⟨by have := HJ2.out; have := HJ5.out; have := HK3.out; omega⟩, by repeat (first | exact Drawn0.refl _ | apply Drawn0.step)⟩
                      · rw [if_neg c11] at H
                        exact absurd H (by simp)
                    · rw [if_neg c10] at H
                      exact absurd H (by simp)
                  · rw [if_neg c9] at H
                    have c9b0 : decide (x5_3 < (l0.length : Int)) = false := decide_eq_false c9
                    clear c9
                    have H' := Aside0.mk H
                    clear H
                    go_wp2
                    repeat (go_quiet (fail); try go_wp2)
                    go_loopg [6] k3 (fun kq v6 w' => ∃ (x6_4 : Int), v6 = .int .i64 x6_4 ∧ Aside0 (contangoref14_check.l1 kq l0 x6_4 = some r) ∧ Aside0 (kq ≤ k3) ∧ Drawn0 w w')
                    case atStart => exact ⟨(0), (by first | rfl | (simp; done) | (simp [*]; done)), H', ⟨Nat.le_refl _⟩, by repeat (first | exact Drawn0.refl _ | apply Drawn0.step)⟩
                    case round =>
                      clear H'
                      try clear c1
                      try clear p1
                      try clear q1
                      try clear hx1
                      try clear qi1
                      try clear c2
                      try clear p2
                      try clear c4
                      try clear c4b0
                      try clear c5
                      try clear p6
                      try clear c7
                      try clear c7b0
                      try clear c7b1
                      try clear c7b2
                      try clear c8
                      try clear c9
                      try clear c9b0
                      try clear c10
                      try clear c10b0
                      try clear c11
                      try clear c11b0
                      try clear c11b1
                      try clear c12
                      try clear c12b0
                      try clear hx143_0
                      try clear hx143_1
                      try clear hx143_10
                      try clear hx143_11
                      try clear hx143_12
                      try clear hx143_2
                      try clear hx143_3
                      try clear hx143_4
                      try clear hx143_5
                      try clear hx143_6
                      try clear hx143_7
                      try clear hx143_8
                      try clear hx143_9
                      try clear hx144_0
                      try clear hx144_1
                      try clear hx144_10
                      try clear hx144_11
                      try clear hx144_12
                      try clear hx144_2
                      try clear hx144_3
                      try clear hx144_4
                      try clear hx144_5
                      try clear hx144_6
                      try clear hx144_7
                      try clear hx144_8
                      try clear hx144_9
                      try clear p143
                      try clear p144
                      try clear p2
                      try clear q143
                      try clear q144
                      obtain ⟨x6_4, rfl, HA, HK4, ⟨m4, rfl⟩⟩ := hrel
                      cases gk with
                      | zero => exact absurd HA.out (by simp [contangoref14_check.l1])
                      | succ k4 =>
                        have H := HA.out
                        clear HA
                        simp only [contangoref14_check.l1] at H
                        by_cases c13 : x6_4 < (l0.length : Int)
                        · rw [if_pos c13] at H
                          have c13b0 : decide (x6_4 < (l0.length : Int)) = true := decide_eq_true c13
                          clear c13
                          by_cases c14 : 0 ≤ x6_4
                          · rw [if_pos c14] at H
                            have c14b0 : decide (0 ≤ x6_4) = true := decide_eq_true c14
                            clear c14
                            by_cases c15 : ((rd_T42 l0 x6_4).f4) < 1
                            · rw [if_pos c15] at H
                              have c15b0 : decide (((rd_T42 l0 x6_4).f4) < 1) = true := decide_eq_true c15
                              clear c15
                              obtain rfl := Option.some.inj H
                              have p145 : 0 ≤ (x6_4 : Int) := of_decide_eq_true (by first | (with_reducible assumption) | assumption)
                              have q145 : x6_4 < (l0.length : Int) := of_decide_eq_true (by first | (with_reducible assumption) | assumption)
                              obtain ⟨ad145, e145, hx145_0, hx145_1, hx145_2, hx145_3, hx145_4, hx145_5, hx145_6, hx145_7, hx145_8, hx145_9, hx145_10, hx145_11, hx145_12⟩ := at_T42 HR0.out x6_4 p145 q145
                              cases e145
                              replace p145 := eq_true p145
                              replace q145 := eq_true q145
                              go_wp2
                              repeat (go_quiet (fail); try go_wp2)
                              go_ret
                              exact ⟨by first | rfl | (simp; done) | (simp [*]; done), by repeat (first | exact Drawn0.refl _ | apply Drawn0.step)⟩
                            · rw [if_neg c15] at H
                              have c15b0 : decide (((rd_T42 l0 x6_4).f4) < 1) = false := decide_eq_false c15
                              clear c15
                              by_cases c16 : ((rd_T42 l0 x6_4).f4) > 1048576
                              · rw [if_pos c16] at H
                                have c16b0 : decide (1048576 < ((rd_T42 l0 x6_4).f4)) = true := decide_eq_true c16
                                clear c16
                                obtain rfl := Option.some.inj H
                                have p145 : 0 ≤ (x6_4 : Int) := of_decide_eq_true (by first | (with_reducible assumption) | assumption)
                                have q145 : x6_4 < (l0.length : Int) := of_decide_eq_true (by first | (with_reducible assumption) | assumption)
                                obtain ⟨ad145, e145, hx145_0, hx145_1, hx145_2, hx145_3, hx145_4, hx145_5, hx145_6, hx145_7, hx145_8, hx145_9, hx145_10, hx145_11, hx145_12⟩ := at_T42 HR0.out x6_4 p145 q145
                                cases e145
                                replace p145 := eq_true p145
                                replace q145 := eq_true q145
                                have p146 : 0 ≤ (x6_4 : Int) := of_decide_eq_true (by first | (with_reducible assumption) | assumption)
                                have q146 : x6_4 < (l0.length : Int) := of_decide_eq_true (by first | (with_reducible assumption) | assumption)
                                obtain ⟨ad146, e146, hx146_0, hx146_1, hx146_2, hx146_3, hx146_4, hx146_5, hx146_6, hx146_7, hx146_8, hx146_9, hx146_10, hx146_11, hx146_12⟩ := at_T42 HR0.out x6_4 p146 q146
                                obtain rfl : ad145 = ad146 := (by injection e146)
                                replace p146 := eq_true p146
                                replace q146 := eq_true q146
                                go_wp2
                                repeat (go_quiet (fail); try go_wp2)
                                go_ret
                                exact ⟨by first | rfl | (simp; done) | (simp [*]; done), by repeat (first | exact Drawn0.refl _ | apply Drawn0.step)⟩
                              · rw [if_neg c16] at H
                                have c16b0 : decide (1048576 < ((rd_T42 l0 x6_4).f4)) = false := decide_eq_false c16
                                clear c16
                                have H' := Aside0.mk H
                                clear H
                                have p145 : 0 ≤ (x6_4 : Int) := of_decide_eq_true (by first | (with_reducible assumption) | assumption)
                                have q145 : x6_4 < (l0.length : Int) := of_decide_eq_true (by first | (with_reducible assumption) | assumption)
                                obtain ⟨ad145, e145, hx145_0, hx145_1, hx145_2, hx145_3, hx145_4, hx145_5, hx145_6, hx145_7, hx145_8, hx145_9, hx145_10, hx145_11, hx145_12⟩ := at_T42 HR0.out x6_4 p145 q145
                                cases e145
                                replace p145 := eq_true p145
                                replace q145 := eq_true q145
                                have p146 : 0 ≤ (x6_4 : Int) := of_decide_eq_true (by first | (with_reducible assumption) | assumption)
                                have q146 : x6_4 < (l0.length : Int) := of_decide_eq_true (by first | (with_reducible assumption) | assumption)
                                obtain ⟨ad146, e146, hx146_0, hx146_1, hx146_2, hx146_3, hx146_4, hx146_5, hx146_6, hx146_7, hx146_8, hx146_9, hx146_10, hx146_11, hx146_12⟩ := at_T42 HR0.out x6_4 p146 q146
                                obtain rfl : ad145 = ad146 := (by injection e146)
                                replace p146 := eq_true p146
                                replace q146 := eq_true q146
                                go_wp2
                                repeat (go_quiet (fail); try go_wp2)
                                go_roundg k4
                                case measure => have := HJ2.out; have := HJ5.out; have := HK3.out; have := HK4.out; omega
                                case rel => exact ⟨(wrap64 (x6_4 + 1)), (by first | rfl | (simp; done) | (simp [*]; done)), H', ⟨by have := HJ2.out; have := HJ5.out; have := HK3.out; have := HK4.out; omega⟩, by repeat (first | exact Drawn0.refl _ | apply Drawn0.step)⟩
                          · rw [if_neg c14] at H
                            exact absurd H (by simp)
                        · rw [if_neg c13] at H
                          have c13b0 : decide (x6_4 < (l0.length : Int)) = false := decide_eq_false c13
                          clear c13
                          have H' := Aside0.mk H
                          clear H
                          go_wp2
                          repeat (go_quiet (fail); try go_wp2)
                          go_loopg [7] k4 (fun kq v7 w' => ∃ (x7_5 : Int), v7 = .int .i64 x7_5 ∧ Aside0 (contangoref14_check.l2 kq l0 x7_5 = some r) ∧ Aside0 (kq ≤ k4) ∧ Drawn0 w w')
                          case atStart => exact ⟨(0), (by first | rfl | (simp; done) | (simp [*]; done)), H', ⟨Nat.le_refl _⟩, by repeat (first | exact Drawn0.refl _ | apply Drawn0.step)⟩
                          case round =>
                            clear H'
                            try clear c1
                            try clear p1
                            try clear q1
                            try clear hx1
                            try clear qi1
                            try clear c2
                            try clear p2
                            try clear c4
                            try clear c4b0
                            try clear c5
                            try clear p6
                            try clear c7
                            try clear c7b0
                            try clear c7b1
                            try clear c7b2
                            try clear c8
                            try clear c9
                            try clear c9b0
                            try clear c10
                            try clear c10b0
                            try clear c11
                            try clear c11b0
                            try clear c11b1
                            try clear c12
                            try clear c12b0
                            try clear c13
                            try clear c13b0
                            try clear c14
                            try clear c14b0
                            try clear p14
                            try clear q14
                            try clear hx14
                            try clear qi14
                            try clear c15
                            try clear c15b0
                            try clear c16
                            try clear c16b0
                            try clear hx143_0
                            try clear hx143_1
                            try clear hx143_10
                            try clear hx143_11
                            try clear hx143_12
                            try clear hx143_2
                            try clear hx143_3
                            try clear hx143_4
                            try clear hx143_5
                            try clear hx143_6
                            try clear hx143_7
                            try clear hx143_8
                            try clear hx143_9
                            try clear hx144_0
                            try clear hx144_1
                            try clear hx144_10
                            try clear hx144_11
                            try clear hx144_12
                            try clear hx144_2
                            try clear hx144_3
                            try clear hx144_4
                            try clear hx144_5
                            try clear hx144_6
                            try clear hx144_7
                            try clear hx144_8
                            try clear hx144_9
                            try clear hx145_0
                            try clear hx145_1
                            try clear hx145_10
                            try clear hx145_11
                            try clear hx145_12
                            try clear hx145_2
                            try clear hx145_3
                            try clear hx145_4
                            try clear hx145_5
                            try clear hx145_6
                            try clear hx145_7
                            try clear hx145_8
                            try clear hx145_9
                            try clear hx146_0
                            try clear hx146_1
                            try clear hx146_10
                            try clear hx146_11
                            try clear hx146_12
                            try clear hx146_2
                            try clear hx146_3
                            try clear hx146_4
                            try clear hx146_5
                            try clear hx146_6
                            try clear hx146_7
                            try clear hx146_8
                            try clear hx146_9
                            try clear p1
                            try clear p143
                            try clear p144
                            try clear p145
                            try clear p146
                            try clear p2
                            try clear p6
                            try clear q1
                            try clear q143
                            try clear q144
                            try clear q145
                            try clear q146
                            obtain ⟨x7_5, rfl, HA, HK5, ⟨m5, rfl⟩⟩ := hrel
                            cases gk with
                            | zero => exact absurd HA.out (by simp [contangoref14_check.l2])
                            | succ k5 =>
                              have H := HA.out
                              clear HA
                              simp only [contangoref14_check.l2] at H
                              by_cases c17 : x7_5 < (l0.length : Int)
                              · rw [if_pos c17] at H
                                have c17b0 : decide (x7_5 < (l0.length : Int)) = true := decide_eq_true c17
                                clear c17
                                by_cases c18 : 0 ≤ x7_5
                                · rw [if_pos c18] at H
                                  have c18b0 : decide (0 ≤ x7_5) = true := decide_eq_true c18
                                  clear c18
                                  by_cases c19 : ((rd_T42 l0 x7_5).f5) < (-16777216)
                                  · rw [if_pos c19] at H
                                    have c19b0 : decide (((rd_T42 l0 x7_5).f5) < (-16777216)) = true := decide_eq_true c19
                                    clear c19
                                    obtain rfl := Option.some.inj H
                                    have p147 : 0 ≤ (x7_5 : Int) := of_decide_eq_true (by first | (with_reducible assumption) | assumption)
                                    have q147 : x7_5 < (l0.length : Int) := of_decide_eq_true (by first | (with_reducible assumption) | assumption)
                                    obtain ⟨ad147, e147, hx147_0, hx147_1, hx147_2, hx147_3, hx147_4, hx147_5, hx147_6, hx147_7, hx147_8, hx147_9, hx147_10, hx147_11, hx147_12⟩ := at_T42 HR0.out x7_5 p147 q147
                                    cases e147
                                    replace p147 := eq_true p147
                                    replace q147 := eq_true q147
                                    go_wp2
                                    repeat (go_quiet (fail); try go_wp2)
                                    go_ret
                                    exact ⟨by first | rfl | (simp; done) | (simp [*]; done), by repeat (first | exact Drawn0.refl _ | apply Drawn0.step)⟩
                                  · rw [if_neg c19] at H
                                    have c19b0 : decide (((rd_T42 l0 x7_5).f5) < (-16777216)) = false := decide_eq_false c19
                                    clear c19
                                    by_cases c20 : ((rd_T42 l0 x7_5).f5) > 16777216
                                    · rw [if_pos c20] at H
                                      have c20b0 : decide (16777216 < ((rd_T42 l0 x7_5).f5)) = true := decide_eq_true c20
                                      clear c20
                                      obtain rfl := Option.some.inj H
                                      have p147 : 0 ≤ (x7_5 : Int) := of_decide_eq_true (by first | (with_reducible assumption) | assumption)
                                      have q147 : x7_5 < (l0.length : Int) := of_decide_eq_true (by first | (with_reducible assumption) | assumption)
                                      obtain ⟨ad147, e147, hx147_0, hx147_1, hx147_2, hx147_3, hx147_4, hx147_5, hx147_6, hx147_7, hx147_8, hx147_9, hx147_10, hx147_11, hx147_12⟩ := at_T42 HR0.out x7_5 p147 q147
                                      cases e147
                                      replace p147 := eq_true p147
                                      replace q147 := eq_true q147
                                      have p148 : 0 ≤ (x7_5 : Int) := of_decide_eq_true (by first | (with_reducible assumption) | assumption)
                                      have q148 : x7_5 < (l0.length : Int) := of_decide_eq_true (by first | (with_reducible assumption) | assumption)
                                      obtain ⟨ad148, e148, hx148_0, hx148_1, hx148_2, hx148_3, hx148_4, hx148_5, hx148_6, hx148_7, hx148_8, hx148_9, hx148_10, hx148_11, hx148_12⟩ := at_T42 HR0.out x7_5 p148 q148
                                      obtain rfl : ad147 = ad148 := (by injection e148)
                                      replace p148 := eq_true p148
                                      replace q148 := eq_true q148
                                      go_wp2
                                      repeat (go_quiet (fail); try go_wp2)
                                      go_ret
                                      exact ⟨by first | rfl | (simp; done) | (simp [*]; done), by repeat (first | exact Drawn0.refl _ | apply Drawn0.step)⟩
                                    · rw [if_neg c20] at H
                                      have c20b0 : decide (16777216 < ((rd_T42 l0 x7_5).f5)) = false := decide_eq_false c20
                                      clear c20
                                      have H' := Aside0.mk H
                                      clear H
                                      have p147 : 0 ≤ (x7_5 : Int) := of_decide_eq_true (by first | (with_reducible assumption) | assumption)
                                      have q147 : x7_5 < (l0.length : Int) := of_decide_eq_true (by first | (with_reducible assumption) | assumption)
                                      obtain ⟨ad147, e147, hx147_0, hx147_1, hx147_2, hx147_3, hx147_4, hx147_5, hx147_6, hx147_7, hx147_8, hx147_9, hx147_10, hx147_11, hx147_12⟩ := at_T42 HR0.out x7_5 p147 q147
                                      cases e147
                                      replace p147 := eq_true p147
                                      replace q147 := eq_true q147
                                      have p148 : 0 ≤ (x7_5 : Int) := of_decide_eq_true (by first | (with_reducible assumption) | assumption)
                                      have q148 : x7_5 < (l0.length : Int) := of_decide_eq_true (by first | (with_reducible assumption) | assumption)
                                      obtain ⟨ad148, e148, hx148_0, hx148_1, hx148_2, hx148_3, hx148_4, hx148_5, hx148_6, hx148_7, hx148_8, hx148_9, hx148_10, hx148_11, hx148_12⟩ := at_T42 HR0.out x7_5 p148 q148
                                      obtain rfl : ad147 = ad148 := (by injection e148)
                                      replace p148 := eq_true p148
                                      replace q148 := eq_true q148
                                      go_wp2
                                      repeat (go_quiet (fail); try go_wp2)
                                      go_roundg k5
                                      case measure => have := HJ2.out; have := HJ5.out; have := HK3.out; have := HK4.out; have := HK5.out; omega
                                      case rel => exact ⟨(wrap64 (x7_5 + 1)), (by first | rfl | (simp; done) | (simp [*]; done)), H', ⟨by have := HJ2.out; have := HJ5.out; have := HK3.out; have := HK4.out; have := HK5.out; omega⟩, by repeat (first | exact Drawn0.refl _ | apply Drawn0.step)⟩
                                · rw [if_neg c18] at H
                                  exact absurd H (by simp)
                              · rw [if_neg c17] at H
                                have c17b0 : decide (x7_5 < (l0.length : Int)) = false := decide_eq_false c17
                                clear c17
                                obtain rfl := Option.some.inj H
                                go_wp2
                                repeat (go_quiet (fail); try go_wp2)
                                go_ret
                                exact ⟨by first | rfl | (simp; done) | (simp [*]; done), by repeat (first | exact Drawn0.refl _ | apply Drawn0.step)⟩

/-! ### contangoref14_Qty: function 23 -/
def contangoref14_Qty.l0 : Nat → List (S42) → Int → Int → Option (Int)
  | 0, _, _, _ => none
  | k + 1, x0, x3, x4 => if x4 < (x0.length : Int) then (if 0 ≤ x4 then (contangoref14_Qty.l0 k x0 (wrap64 (x3 + ((rd_T42 x0 x4).f4))) (wrap64 (x4 + 1))) else (none)) else (some x3)
def contangoref14_Qty.f (k : Nat) (l0 : List (S42)) : Option (Int) := contangoref14_Qty.l0 k l0 0 0
theorem contangoref14_Qty.mono_l : ∀ k, (∀ y0 y1 y2, LeO (contangoref14_Qty.l0 k y0 y1 y2) (contangoref14_Qty.l0 (k + 1) y0 y1 y2))
  | 0 => fun _ _ _ r h => by simp [contangoref14_Qty.l0] at h
  | k + 1 => by
    have ih0 := contangoref14_Qty.mono_l k
    · intro y0 y1 y2
      unfold contangoref14_Qty.l0
      repeat' first
      | (with_reducible exact ih0 _ _ _)
      | (with_reducible exact LeO.refl _)
      | (with_reducible exact LeO.none _)
      | (with_reducible refine LeO.ite ?_ ?_)
      | (with_reducible refine LeO.bind ?_ (fun _ => ?_))
      | exact ih0 _ _ _
      | exact LeO.none _
      | refine LeO.ite ?_ ?_
      | refine LeO.bind ?_ (fun _ => ?_)
theorem contangoref14_Qty.mono : ∀ a0 k, LeO (contangoref14_Qty.f k a0) (contangoref14_Qty.f (k + 1) a0) := by
  intro a0 k
  have ih0 := contangoref14_Qty.mono_l k
  unfold contangoref14_Qty.f
  repeat' first
      | (with_reducible exact ih0 _ _ _)
      | (with_reducible exact LeO.refl _)
      | (with_reducible exact LeO.none _)
      | (with_reducible refine LeO.ite ?_ ?_)
      | (with_reducible refine LeO.bind ?_ (fun _ => ?_))
      | exact ih0 _ _ _
      | exact LeO.none _
      | refine LeO.ite ?_ ?_
      | refine LeO.bind ?_ (fun _ => ?_)
set_option maxHeartbeats 8000000 in
set_option maxRecDepth 100000 in
theorem contangoref14_Qty.calls (k : Nat) (A0 : Option Addr) (c0 : Nat) (l0 : List (S42)) (r : Int) (w : World) (hr0 : Kd.C k42 w A0 l0.length l0) (hc0 : l0.length ≤ c0) (h : contangoref14_Qty.f k l0 = some r) :
    Calls Try.prog 23 #[.slice A0 l0.length c0] w fun e w' => e = .returned (.int .i64 r) ∧ Drawn0 w w' := by
  have HR0 := Aside0.mk hr0
  have HC0 := Aside0.mk hc0
  clear hr0 hc0
  have H : (contangoref14_Qty.l0 k l0 0 0) = some r := h
  clear h
  have H' := Aside0.mk H
  clear H
  go_enter Try.func23, Try.ntmps23
  go_wp2
  go_loopg [3, 4] k (fun kq v3 v4 w' => ∃ (x3_1 : Int) (x4_1 : Int), v3 = .int .i64 x3_1 ∧ v4 = .int .i64 x4_1 ∧ Aside0 (contangoref14_Qty.l0 kq l0 x3_1 x4_1 = some r) ∧ Aside0 (kq ≤ k) ∧ Drawn0 w w')
  case atStart => exact ⟨(0), (0), (by first | rfl | (simp; done) | (simp [*]; done)), (by first | rfl | (simp; done) | (simp [*]; done)), H', ⟨Nat.le_refl _⟩, by repeat (first | exact Drawn0.refl _ | apply Drawn0.step)⟩
  case round =>
    clear H'
    obtain ⟨x3_1, x4_1, rfl, rfl, HA, HK1, ⟨m1, rfl⟩⟩ := hrel
    cases gk with
    | zero => exact absurd HA.out (by simp [contangoref14_Qty.l0])
    | succ k1 =>
      have H := HA.out
      clear HA
      simp only [contangoref14_Qty.l0] at H
      by_cases c2 : x4_1 < (l0.length : Int)
      · rw [if_pos c2] at H
        have c2b0 : decide (x4_1 < (l0.length : Int)) = true := decide_eq_true c2
        clear c2
        by_cases c3 : 0 ≤ x4_1
        · rw [if_pos c3] at H
          have c3b0 : decide (0 ≤ x4_1) = true := decide_eq_true c3
          clear c3
          have H' := Aside0.mk H
          clear H
          have p149 : 0 ≤ (x4_1 : Int) := of_decide_eq_true (by first | (with_reducible assumption) | assumption)
          have q149 : x4_1 < (l0.length : Int) := of_decide_eq_true (by first | (with_reducible assumption) | assumption)
          obtain ⟨ad149, e149, hx149_0, hx149_1, hx149_2, hx149_3, hx149_4, hx149_5, hx149_6, hx149_7, hx149_8, hx149_9, hx149_10, hx149_11, hx149_12⟩ := at_T42 HR0.out x4_1 p149 q149
          cases e149
          replace p149 := eq_true p149
          replace q149 := eq_true q149
          go_wp2
          go_roundg k1
          case measure => have := HK1.out; omega
          case rel => exact ⟨(wrap64 (x3_1 + ((rd_T42 l0 x4_1).f4))), (wrap64 (x4_1 + 1)), (by first | rfl | (simp; done) | (simp [*]; done)), (by first | rfl | (simp; done) | (simp [*]; done)), H', ⟨by have := HK1.out; omega⟩, by repeat (first | exact Drawn0.refl _ | apply Drawn0.step)⟩
        · rw [if_neg c3] at H
          exact absurd H (by simp)
      · rw [if_neg c2] at H
        have c2b0 : decide (x4_1 < (l0.length : Int)) = false := decide_eq_false c2
        clear c2
        obtain rfl := Option.some.inj H
        go_wp2
        go_ret
        exact ⟨by first | rfl | (simp; done) | (simp [*]; done), by repeat (first | exact Drawn0.refl _ | apply Drawn0.step)⟩

end Go.Proofs.Ytaffedkheehplaa.PGiveupAverages
