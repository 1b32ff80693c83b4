/- Laid for this claim by a program of this session's (wip/mkprint.py, wip/ext.py); not trusted: Lean checks it. -/
import Derived.Test.YtmhlajgeihjaeaaDoorPDateOfx0
import Derived.Test.YtmhlajgeihjaeaaDoorPDateOfx1
namespace Go.Proofs.YtmhlajgeihjaeaaDoor.PDateOf
open Go.RowKit Go.Proofs.YtmhlajgeihjaeaaDoorW.PrintWords Go.Proofs.YtmhlajgeihjaeaaDoorW.PrintLast Go.Proofs.YtmhlajgeihjaeaaDoorW.PrintMore
attribute [local go_sem] max2_int min2_int max_two min_two max_three min_three max_four min_four   -- for this text's walks alone
set_option linter.unusedVariables false
set_option linter.unusedSimpArgs false

/-! ### contangoref05_Of: function 10 -/
mutual
def contangoref05_Of.j0 : Nat → Int → Int → Int → Bool → Option (Int × Int)
  | 0, _, _, _, _ => none
  | k + 1, x0, x1, x2, x27 => if x27 = true then (some (0, 15)) else (contangoref05_Of.l0 k x0 x1 (wrap64 (x2 - 1)) 1)
def contangoref05_Of.l0 : Nat → Int → Int → Int → Int → Option (Int × Int)
  | 0, _, _, _, _ => none
  | k + 1, x0, x1, x8, x9 => if x9 < x1 then ((contangoref05_Days.f k x0 x9).bind fun t103 => (contangoref05_Of.l0 k x0 x1 (wrap64 (x8 + t103)) (wrap64 (x9 + 1)))) else (contangoref05_Of.l1 k x0 x8 2000)
def contangoref05_Of.l1 : Nat → Int → Int → Int → Option (Int × Int)
  | 0, _, _, _ => none
  | k + 1, x0, x8, x10 => if x10 < x0 then ((contangoref05_Leap.f x10).bind fun t104 => (if t104 = true then (contangoref05_Of.l1 k x0 (wrap64 ((wrap64 (x8 + 365)) + 1)) (wrap64 (x10 + 1))) else (contangoref05_Of.l1 k x0 (wrap64 (x8 + 365)) (wrap64 (x10 + 1))))) else (some (x8, 0))
end
def contangoref05_Of.f (k : Nat) (a0 : Int) (a1 : Int) (a2 : Int) : Option (Int × Int) := if a0 < 2000 then (contangoref05_Of.j0 k a0 a1 a2 true) else (if a0 > 2199 then (contangoref05_Of.j0 k a0 a1 a2 true) else (if a2 < 1 then (contangoref05_Of.j0 k a0 a1 a2 true) else ((contangoref05_Days.f k a0 a1).bind fun t102 => (contangoref05_Of.j0 k a0 a1 a2 (decide (a2 > t102))))))
theorem contangoref05_Of.mono_l : ∀ k, (∀ y0 y1 y2 y3, LeO (contangoref05_Of.j0 k y0 y1 y2 y3) (contangoref05_Of.j0 (k + 1) y0 y1 y2 y3)) ∧ (∀ y0 y1 y2 y3, LeO (contangoref05_Of.l0 k y0 y1 y2 y3) (contangoref05_Of.l0 (k + 1) y0 y1 y2 y3)) ∧ (∀ y0 y1 y2, LeO (contangoref05_Of.l1 k y0 y1 y2) (contangoref05_Of.l1 (k + 1) y0 y1 y2))
  | 0 => ⟨fun _ _ _ _ r h => by simp [contangoref05_Of.j0] at h, fun _ _ _ _ r h => by simp [contangoref05_Of.l0] at h, fun _ _ _ r h => by simp [contangoref05_Of.l1] at h⟩
  | k + 1 => by
    obtain ⟨ih0, ih1, ih2⟩ := contangoref05_Of.mono_l k
    refine ⟨?_, ?_, ?_⟩
    · intro y0 y1 y2 y3
      unfold contangoref05_Of.j0
      repeat' first
      | (with_reducible exact ih0 _ _ _ _)
      | (with_reducible exact ih1 _ _ _ _)
      | (with_reducible exact ih2 _ _ _)
      | (with_reducible exact contangoref05_Days.mono _ _ _)
      | (with_reducible exact LeO.refl _)
      | (with_reducible exact LeO.none _)
      | (with_reducible refine LeO.ite ?_ ?_)
      | (with_reducible refine LeO.bind ?_ (fun _ => ?_))
      | exact ih0 _ _ _ _
      | exact ih1 _ _ _ _
      | exact ih2 _ _ _
      | exact contangoref05_Days.mono _ _ _
      | exact LeO.none _
      | refine LeO.ite ?_ ?_
      | refine LeO.bind ?_ (fun _ => ?_)
    · intro y0 y1 y2 y3
      unfold contangoref05_Of.l0
      repeat' first
      | (with_reducible exact ih0 _ _ _ _)
      | (with_reducible exact ih1 _ _ _ _)
      | (with_reducible exact ih2 _ _ _)
      | (with_reducible exact contangoref05_Days.mono _ _ _)
      | (with_reducible exact LeO.refl _)
      | (with_reducible exact LeO.none _)
      | (with_reducible refine LeO.ite ?_ ?_)
      | (with_reducible refine LeO.bind ?_ (fun _ => ?_))
      | exact ih0 _ _ _ _
      | exact ih1 _ _ _ _
      | exact ih2 _ _ _
      | exact contangoref05_Days.mono _ _ _
      | exact LeO.none _
      | refine LeO.ite ?_ ?_
      | refine LeO.bind ?_ (fun _ => ?_)
    · intro y0 y1 y2
      unfold contangoref05_Of.l1
      repeat' first
      | (with_reducible exact ih0 _ _ _ _)
      | (with_reducible exact ih1 _ _ _ _)
      | (with_reducible exact ih2 _ _ _)
      | (with_reducible exact contangoref05_Days.mono _ _ _)
      | (with_reducible exact LeO.refl _)
      | (with_reducible exact LeO.none _)
      | (with_reducible refine LeO.ite ?_ ?_)
      | (with_reducible refine LeO.bind ?_ (fun _ => ?_))
      | exact ih0 _ _ _ _
      | exact ih1 _ _ _ _
      | exact ih2 _ _ _
      | exact contangoref05_Days.mono _ _ _
      | exact LeO.none _
      | refine LeO.ite ?_ ?_
      | refine LeO.bind ?_ (fun _ => ?_)
theorem contangoref05_Of.mono : ∀ a0 a1 a2 k, LeO (contangoref05_Of.f k a0 a1 a2) (contangoref05_Of.f (k + 1) a0 a1 a2) := by
  intro a0 a1 a2 k
  obtain ⟨ih0, ih1, ih2⟩ := contangoref05_Of.mono_l k
  unfold contangoref05_Of.f
  repeat' first
      | (with_reducible exact ih0 _ _ _ _)
      | (with_reducible exact ih1 _ _ _ _)
      | (with_reducible exact ih2 _ _ _)
      | (with_reducible exact contangoref05_Days.mono _ _ _)
      | (with_reducible exact LeO.refl _)
      | (with_reducible exact LeO.none _)
      | (with_reducible refine LeO.ite ?_ ?_)
      | (with_reducible refine LeO.bind ?_ (fun _ => ?_))
      | exact ih0 _ _ _ _
      | exact ih1 _ _ _ _
      | exact ih2 _ _ _
      | exact contangoref05_Days.mono _ _ _
      | exact LeO.none _
      | refine LeO.ite ?_ ?_
      | refine LeO.bind ?_ (fun _ => ?_)
set_option maxHeartbeats 8000000 in
set_option maxRecDepth 100000 in
theorem contangoref05_Of.calls (k : Nat) (a0 : Int) (a1 : Int) (a2 : Int) (r1 : Int) (r2 : Int) (w : World) (h : contangoref05_Of.f k a0 a1 a2 = some (r1, r2)) :
    Calls Tryd.prog 10 #[.int .i64 a0, .int .i64 a1, .int .i64 a2] w fun e w' => e = .returned (.tuple #[.int .i64 r1, .int .i64 r2]) ∧ Drawn0 w w' := by
  have H : (if a0 < 2000 then (contangoref05_Of.j0 k a0 a1 a2 true) else (if a0 > 2199 then (contangoref05_Of.j0 k a0 a1 a2 true) else (if a2 < 1 then (contangoref05_Of.j0 k a0 a1 a2 true) else ((contangoref05_Days.f k a0 a1).bind fun t102 => (contangoref05_Of.j0 k a0 a1 a2 (decide (a2 > t102))))))) = some (r1, r2) := h
  clear h
  have HC4 := Aside0.mk H
  clear H
  go_enter Tryd.func10, Tryd.ntmps10
  go_upto_region 1 with (fail)
  go_cut [27] (fun v27 wc => ∃ (kq : Nat) (x27_3 : Bool), v27 = .bool x27_3 ∧ Aside0 (contangoref05_Of.j0 kq a0 a1 a2 x27_3 = some (r1, r2)) ∧ Aside0 (kq ≤ k) ∧ Drawn0 w wc)
  case first =>
    have H := HC4.out
    clear HC4
    by_cases c5 : a0 < 2000
    · rw [if_pos c5] at H
      have c5b0 : decide (a0 < 2000) = true := decide_eq_true c5
      clear c5
      (first | rw [c5b0] | (simp only [i64_w, i32_w]; rw [c5b0]) | skip)
      have H' := Aside0.mk H
      clear H
      go_wp2
      go_meet
      case rel => exact ⟨_, (true), (by first | rfl | (simp; done) | (simp [*]; done)), H', ⟨by first | omega | exact Nat.le_refl _⟩, by repeat (first | exact Drawn0.refl _ | apply Drawn0.step)⟩
    · rw [if_neg c5] at H
      have c5b0 : decide (a0 < 2000) = false := decide_eq_false c5
      clear c5
      (first | rw [c5b0] | (simp only [i64_w, i32_w]; rw [c5b0]) | skip)
      by_cases c6 : a0 > 2199
      · rw [if_pos c6] at H
        have c6b0 : decide (2199 < a0) = true := decide_eq_true c6
        clear c6
        have H' := Aside0.mk H
        clear H
        go_wp2
        go_meet
        case rel => exact ⟨_, (true), (by first | rfl | (simp; done) | (simp [*]; done)), H', ⟨by first | omega | exact Nat.le_refl _⟩, by repeat (first | exact Drawn0.refl _ | apply Drawn0.step)⟩
      · rw [if_neg c6] at H
        have c6b0 : decide (2199 < a0) = false := decide_eq_false c6
        clear c6
        by_cases c7 : a2 < 1
        · rw [if_pos c7] at H
          have c7b0 : decide (a2 < 1) = true := decide_eq_true c7
          clear c7
          have H' := Aside0.mk H
          clear H
          go_wp2
          go_meet
          case rel => exact ⟨_, (true), (by first | rfl | (simp; done) | (simp [*]; done)), H', ⟨by first | omega | exact Nat.le_refl _⟩, by repeat (first | exact Drawn0.refl _ | apply Drawn0.step)⟩
        · rw [if_neg c7] at H
          have c7b0 : decide (a2 < 1) = false := decide_eq_false c7
          clear c7
          replace H := Option.bind_eq_some_iff.mp H
          obtain ⟨t102, A80, H⟩ := H
          replace H : (contangoref05_Of.j0 k a0 a1 a2 (decide (a2 > t102))) = some (r1, r2) := H
          have A8 := Aside0.mk A80
          clear A80
          have H' := Aside0.mk H
          clear H
          go_wp2_with (first | (go_at_call 14; (with_reducible refine (contangoref05_Days.calls k a0 a1 t102 _ A8.out).mono ?_); rintro e w' ⟨rfl, ⟨nd, rfl⟩⟩))
          go_meet
          case rel => exact ⟨_, (decide (a2 > t102)), (by first | rfl | (simp; done) | (simp [*]; done)), H', ⟨by first | omega | exact Nat.le_refl _⟩, by repeat (first | exact Drawn0.refl _ | apply Drawn0.step)⟩
  case rest =>
    clear HC4
    try clear c1
    try clear p2
    try clear c5
    try clear c5b0
    try clear c6
    try clear c6b0
    try clear c7
    try clear c7b0
    obtain ⟨kq, x27_3, rfl, HA, HJ3, ⟨mc3, rfl⟩⟩ := hcut
    cases kq with
    | zero => exact absurd HA.out (by simp [contangoref05_Of.j0])
    | succ kj3 =>
      have H := HA.out
      clear HA
      simp only [contangoref05_Of.j0] at H
      by_cases c9 : x27_3 = true
      · subst c9
        have H1 : (some (0, 15)) = some (r1, r2) := by rw [if_pos rfl] at H; exact H
        clear H
        have H := H1
        clear H1
        simp only [Option.some.injEq, Prod.mk.injEq] at H
        obtain ⟨rfl, rfl⟩ := H
        go_wp2
        go_ret2
        exact ⟨by first | rfl | (simp; done) | (simp [*]; done), by repeat (first | exact Drawn0.refl _ | apply Drawn0.step)⟩
      · replace c9 := Bool.eq_false_iff.mpr c9
        subst c9
        have H1 : (contangoref05_Of.l0 kj3 a0 a1 (wrap64 (a2 - 1)) 1) = some (r1, r2) := by rw [if_neg (show ¬ (false = true) by decide)] at H; exact H
        clear H
        have H := H1
        clear H1
        have H' := Aside0.mk H
        clear H
        go_wp2
        go_loopg [8, 9] kj3 (fun kq v8 v9 w' => ∃ (x8_2 : Int) (x9_2 : Int), v8 = .int .i64 x8_2 ∧ v9 = .int .i64 x9_2 ∧ Aside0 (contangoref05_Of.l0 kq a0 a1 x8_2 x9_2 = some (r1, r2)) ∧ Aside0 (kq ≤ kj3) ∧ Drawn0 w w')
        case atStart => exact ⟨(wrap64 (a2 - 1)), (1), (by first | rfl | (simp; done) | (simp [*]; done)), (by first | rfl | (simp; done) | (simp [*]; done)), H', ⟨Nat.le_refl _⟩, by repeat (first | exact Drawn0.refl _ | apply Drawn0.step)⟩
        case round =>
          clear H'
          try clear c1
          try clear p2
          try clear c3
          try clear c5
          try clear c5b0
          try clear c6
          try clear c6b0
          try clear p6
          try clear c7
          try clear c7b0
          try clear c9
          try clear p2
          obtain ⟨x8_2, x9_2, rfl, rfl, HA, HK2, ⟨m2, rfl⟩⟩ := hrel
          cases gk with
          | zero => exact absurd HA.out (by simp [contangoref05_Of.l0])
          | succ k2 =>
            have H := HA.out
            clear HA
            simp only [contangoref05_Of.l0] at H
            by_cases c10 : x9_2 < a1
            · rw [if_pos c10] at H
              have c10b0 : decide (x9_2 < a1) = true := decide_eq_true c10
              clear c10
              replace H := Option.bind_eq_some_iff.mp H
              obtain ⟨t103, A110, H⟩ := H
              replace H : (contangoref05_Of.l0 k2 a0 a1 (wrap64 (x8_2 + t103)) (wrap64 (x9_2 + 1))) = some (r1, r2) := H
              have A11 := Aside0.mk A110
              clear A110
              have H' := Aside0.mk H
              clear H
              go_wp2_with (first | ((with_reducible refine gate_callee (f := 14) rfl ?_); refine goesL_ (some 38) rfl rfl Tryd.func14 (by kernel_rfl) rfl #[.int .i64 a0, .int .i64 x9_2] rfl (by (try simp only [List.map_toArray, List.map_cons, List.map_nil]); first | done | rfl | (simp only [List.length_drop, List.length_take]; rfl)) ?_; (with_reducible refine (contangoref05_Days.calls k2 a0 x9_2 t103 _ A11.out).mono ?_); rintro e w' ⟨rfl, ⟨nd, rfl⟩⟩; refine ⟨_, rfl, ?_⟩))
              go_roundg k2
              case measure => have := HJ3.out; have := HK2.out; omega
              case rel => exact ⟨(wrap64 (x8_2 + t103)), (wrap64 (x9_2 + 1)), (by first | rfl | (simp; done) | (simp [*]; done)), (by first | rfl | (simp; done) | (simp [*]; done)), H', ⟨by have := HJ3.out; have := HK2.out; omega⟩, by repeat (first | exact Drawn0.refl _ | apply Drawn0.step)⟩
            · rw [if_neg c10] at H
              have c10b0 : decide (x9_2 < a1) = false := decide_eq_false c10
              clear c10
              have H' := Aside0.mk H
              clear H
              go_wp2
              go_loopg [8, 10] k2 (fun kq v8 v10 w' => ∃ (x8_3 : Int) (x10_3 : Int), v8 = .int .i64 x8_3 ∧ v10 = .int .i64 x10_3 ∧ Aside0 (contangoref05_Of.l1 kq a0 x8_3 x10_3 = some (r1, r2)) ∧ Aside0 (kq ≤ k2) ∧ Drawn0 w w')
              case atStart => exact ⟨(x8_2), (2000), (by first | rfl | (simp; done) | (simp [*]; done)), (by first | rfl | (simp; done) | (simp [*]; done)), H', ⟨Nat.le_refl _⟩, by repeat (first | exact Drawn0.refl _ | apply Drawn0.step)⟩
              case round =>
                clear H'
                try clear c1
                try clear p2
                try clear c3
                try clear c5
                try clear c5b0
                try clear c6
                try clear c6b0
                try clear p6
                try clear c7
                try clear c7b0
                try clear c9
                try clear c10
                try clear c10b0
                try clear p2
                try clear p6
                obtain ⟨x8_3, x10_3, rfl, rfl, HA, HK3, ⟨m3, rfl⟩⟩ := hrel
                cases gk with
                | zero => exact absurd HA.out (by simp [contangoref05_Of.l1])
                | succ k3 =>
                  have H := HA.out
                  clear HA
                  simp only [contangoref05_Of.l1] at H
                  by_cases c12 : x10_3 < a0
                  · rw [if_pos c12] at H
                    have c12b0 : decide (x10_3 < a0) = true := decide_eq_true c12
                    clear c12
                    replace H := Option.bind_eq_some_iff.mp H
                    obtain ⟨t104, A130, H⟩ := H
                    replace H : (if t104 = true then (contangoref05_Of.l1 k3 a0 (wrap64 ((wrap64 (x8_3 + 365)) + 1)) (wrap64 (x10_3 + 1))) else (contangoref05_Of.l1 k3 a0 (wrap64 (x8_3 + 365)) (wrap64 (x10_3 + 1)))) = some (r1, r2) := H
                    have A13 := Aside0.mk A130
                    clear A130
                    by_cases c14 : t104 = true
                    · subst c14
                      have H1 : (contangoref05_Of.l1 k3 a0 (wrap64 ((wrap64 (x8_3 + 365)) + 1)) (wrap64 (x10_3 + 1))) = some (r1, r2) := by rw [if_pos rfl] at H; exact H
                      clear H
                      have H := H1
                      clear H1
                      have H' := Aside0.mk H
                      clear H
                      go_wp2_with (first | ((with_reducible refine gate_callee (f := 12) rfl ?_); refine goesL_ (some 48) rfl rfl Tryd.func12 (by kernel_rfl) rfl #[.int .i64 x10_3] rfl (by (try simp only [List.map_toArray, List.map_cons, List.map_nil]); first | done | rfl | (simp only [List.length_drop, List.length_take]; rfl)) ?_; (with_reducible refine (contangoref05_Leap.calls x10_3 true _ A13.out).mono ?_); rintro e w' ⟨rfl, ⟨nd, rfl⟩⟩; refine ⟨_, rfl, ?_⟩))
                      go_roundg k3
                      case measure => have := HJ3.out; have := HK2.out; have := HK3.out; omega
                      case rel => exact ⟨(wrap64 ((wrap64 (x8_3 + 365)) + 1)), (wrap64 (x10_3 + 1)), (by first | rfl | (simp; done) | (simp [*]; done)), (by first | rfl | (simp; done) | (simp [*]; done)), H', ⟨by have := HJ3.out; have := HK2.out; have := HK3.out; omega⟩, by repeat (first | exact Drawn0.refl _ | apply Drawn0.step)⟩
                    · replace c14 := Bool.eq_false_iff.mpr c14
                      subst c14
                      have H1 : (contangoref05_Of.l1 k3 a0 (wrap64 (x8_3 + 365)) (wrap64 (x10_3 + 1))) = some (r1, r2) := by rw [if_neg (show ¬ (false = true) by decide)] at H; exact H
                      clear H
                      have H := H1
                      clear H1
                      have H' := Aside0.mk H
                      clear H
                      go_wp2_with (first | ((with_reducible refine gate_callee (f := 12) rfl ?_); refine goesL_ (some 48) rfl rfl Tryd.func12 (by kernel_rfl) rfl #[.int .i64 x10_3] rfl (by (try simp only [List.map_toArray, List.map_cons, List.map_nil]); first | done | rfl | (simp only [List.length_drop, List.length_take]; rfl)) ?_; (with_reducible refine (contangoref05_Leap.calls x10_3 false _ A13.out).mono ?_); rintro e w' ⟨rfl, ⟨nd, rfl⟩⟩; refine ⟨_, rfl, ?_⟩))
                      go_roundg k3
                      case measure => have := HJ3.out; have := HK2.out; have := HK3.out; omega
                      case rel => exact ⟨(wrap64 (x8_3 + 365)), (wrap64 (x10_3 + 1)), (by first | rfl | (simp; done) | (simp [*]; done)), (by first | rfl | (simp; done) | (simp [*]; done)), H', ⟨by have := HJ3.out; have := HK2.out; have := HK3.out; omega⟩, by repeat (first | exact Drawn0.refl _ | apply Drawn0.step)⟩
                  · rw [if_neg c12] at H
                    have c12b0 : decide (x10_3 < a0) = false := decide_eq_false c12
                    clear c12
                    simp only [Option.some.injEq, Prod.mk.injEq] at H
                    obtain ⟨rfl, rfl⟩ := H
                    go_wp2
                    go_ret2
                    exact ⟨by first | rfl | (simp; done) | (simp [*]; done), by repeat (first | exact Drawn0.refl _ | apply Drawn0.step)⟩

/-! ### date_here: function 29 -/
def date_here.f (a0 : Int) : Option (Bool) := if a0 ≥ 0 then (some (decide (a0 ≤ 73048))) else (some false)
set_option maxHeartbeats 8000000 in
set_option maxRecDepth 100000 in
theorem date_here.calls (a0 : Int) (r : Bool) (w : World) (h : date_here.f a0 = some r) :
    Calls Tryd.prog 29 #[.int .i64 a0] w fun e w' => e = .returned (.bool r) ∧ Drawn0 w w' := by
  have H : (if a0 ≥ 0 then (some (decide (a0 ≤ 73048))) else (some false)) = some r := h
  clear h
  by_cases c2 : a0 ≥ 0
  · rw [if_pos c2] at H
    have c2b0 : decide (0 ≤ a0) = true := decide_eq_true c2
    clear c2
    obtain rfl := Option.some.inj H
    go_enter Tryd.func29, Tryd.ntmps29
    go_wp2
    go_ret
    exact ⟨by first | rfl | (simp; done) | (simp [*]; done), by repeat (first | exact Drawn0.refl _ | apply Drawn0.step)⟩
  · rw [if_neg c2] at H
    have c2b0 : decide (0 ≤ a0) = false := decide_eq_false c2
    clear c2
    obtain rfl := Option.some.inj H
    go_enter Tryd.func29, Tryd.ntmps29
    go_wp2
    go_ret
    exact ⟨by first | rfl | (simp; done) | (simp [*]; done), by repeat (first | exact Drawn0.refl _ | apply Drawn0.step)⟩

/-! ### date_Weekday: function 18 -/
def date_Weekday.f (a0 : Int) : Option (Int) := (date_here.f a0).bind fun t105 => (if t105 = true then (some (wrap64 ((Int.tmod (wrap64 (a0 + 5)) 7) + 1))) else (some 0))
set_option maxHeartbeats 8000000 in
set_option maxRecDepth 100000 in
theorem date_Weekday.calls (a0 : Int) (r : Int) (w : World) (h : date_Weekday.f a0 = some r) :
    Calls Tryd.prog 18 #[.int .i64 a0] w fun e w' => e = .returned (.int .i64 r) ∧ Drawn0 w w' := by
  have H : ((date_here.f a0).bind fun t105 => (if t105 = true then (some (wrap64 ((Int.tmod (wrap64 (a0 + 5)) 7) + 1))) else (some 0))) = some r := h
  clear h
  replace H := Option.bind_eq_some_iff.mp H
  obtain ⟨t105, A20, H⟩ := H
  replace H : (if t105 = true then (some (wrap64 ((Int.tmod (wrap64 (a0 + 5)) 7) + 1))) else (some 0)) = some r := H
  have A2 := Aside0.mk A20
  clear A20
  by_cases c3 : t105 = true
  · subst c3
    have H1 : (some (wrap64 ((Int.tmod (wrap64 (a0 + 5)) 7) + 1))) = some r := by rw [if_pos rfl] at H; exact H
    clear H
    have H := H1
    clear H1
    obtain rfl := Option.some.inj H
    go_enter Tryd.func18, Tryd.ntmps18
    go_wp2_with (first | ((with_reducible refine gate_callee (f := 29) rfl ?_); refine goesL_ (some 4) rfl rfl Tryd.func29 (by kernel_rfl) rfl #[.int .i64 a0] rfl (by (try simp only [List.map_toArray, List.map_cons, List.map_nil]); first | done | rfl | (simp only [List.length_drop, List.length_take]; rfl)) ?_; (with_reducible refine (date_here.calls a0 true _ A2.out).mono ?_); rintro e w' ⟨rfl, ⟨nd, rfl⟩⟩; refine ⟨_, rfl, ?_⟩))
    go_ret
    exact ⟨by first | rfl | (simp; done) | (simp [*]; done), by repeat (first | exact Drawn0.refl _ | apply Drawn0.step)⟩
  · replace c3 := Bool.eq_false_iff.mpr c3
    subst c3
    have H1 : (some 0) = some r := by rw [if_neg (show ¬ (false = true) by decide)] at H; exact H
    clear H
    have H := H1
    clear H1
    obtain rfl := Option.some.inj H
    go_enter Tryd.func18, Tryd.ntmps18
    go_wp2_with (first | ((with_reducible refine gate_callee (f := 29) rfl ?_); refine goesL_ (some 4) rfl rfl Tryd.func29 (by kernel_rfl) rfl #[.int .i64 a0] rfl (by (try simp only [List.map_toArray, List.map_cons, List.map_nil]); first | done | rfl | (simp only [List.length_drop, List.length_take]; rfl)) ?_; (with_reducible refine (date_here.calls a0 false _ A2.out).mono ?_); rintro e w' ⟨rfl, ⟨nd, rfl⟩⟩; refine ⟨_, rfl, ?_⟩))
    go_ret
    exact ⟨by first | rfl | (simp; done) | (simp [*]; done), by repeat (first | exact Drawn0.refl _ | apply Drawn0.step)⟩

-- NOT PRINTED: function 30 (sort_Search)

-- NOT PRINTED: function 31 (date_Split_1)

/-! ### date_Split: function 16 -/
def yearGo : Nat → Int → Int → Int
  | 0, y, _ => y
  | f + 1, y, day => if startD (y + 1) > day then y else yearGo f (y + 1) day
def yearOf (day : Int) : Int := yearGo 199 2000 day
def monGo : Nat → Bool → Int → Int → Int × Int
  | 0, _, m, d => (m, d + 1)
  | f + 1, b, m, d => if d < dl b m then (m, d + 1) else monGo f b (m + 1) (d - dl b m)
def splitV (day : Int) : Int × Int × Int := (yearOf day, (monGo 12 (leapV (yearOf day)) 1 (day - startD (yearOf day))).1, (monGo 12 (leapV (yearOf day)) 1 (day - startD (yearOf day))).2)
def date_Split.f (a0 : Int) : Option (Int × Int × Int × Int) := some (if a0 < 0 ∨ a0 > 73048 then (0, 0, 0, 15) else ((splitV a0).1, (splitV a0).2.1, (splitV a0).2.2, 0))
theorem leap_emod (y : Int) (h : 0 ≤ y) : leapV y = (((y % 4 == 0) && (y % 100 != 0)) || (y % 400 == 0)) := by
  unfold leapV date_Leap.f
  rw [Int.tmod_eq_emod_of_nonneg h, Int.tmod_eq_emod_of_nonneg h, Int.tmod_eq_emod_of_nonneg h]
  by_cases h4 : y % 4 = 0
  · rw [if_pos h4]
    by_cases h1 : y % 100 = 0
    · rw [if_pos h1]; simp [h4, h1]
    · rw [if_neg h1]; simp [h4, h1]
  · rw [if_neg h4]
    have : y % 400 ≠ 0 := by omega
    simp [h4, this]
theorem msum12 (b : Bool) : msum b 12 = 365 + (if b = true then 1 else 0) := by cases b <;> rfl
theorem start_step (y : Int) (h : 2000 ≤ y) (h2 : y ≤ 2199) : startD (y + 1) = startD y + msum (leapV y) 12 := by
  rw [leap_emod y (by omega), msum12]
  unfold startD
  by_cases h4 : y % 4 = 0
  · by_cases h1 : y % 100 = 0
    · by_cases h5 : y % 400 = 0
      · have e : (((y % 4 == 0) && (y % 100 != 0)) || (y % 400 == 0)) = true := by simp [h4, h1, h5]
        rw [e, if_pos rfl]; omega
      · have e : (((y % 4 == 0) && (y % 100 != 0)) || (y % 400 == 0)) = false := by simp [h4, h1, h5]
        rw [e, if_neg (by decide)]; omega
    · have e : (((y % 4 == 0) && (y % 100 != 0)) || (y % 400 == 0)) = true := by simp [h4, h1]
      rw [e, if_pos rfl]; omega
  · have h5 : y % 400 ≠ 0 := by omega
    have e : (((y % 4 == 0) && (y % 100 != 0)) || (y % 400 == 0)) = false := by simp [h4, h5]
    rw [e, if_neg (by decide)]; omega
theorem msum12_pos (b : Bool) : 365 ≤ msum b 12 ∧ msum b 12 ≤ 366 := by rw [msum12]; split <;> omega
theorem start_mono (y z : Int) (h : 2000 ≤ y) (h2 : y ≤ z) (h3 : z ≤ 2200) : startD y ≤ startD z := by unfold startD; omega
theorem yearGo_spec (f : Nat) : ∀ (y day : Int), 2000 ≤ y → y + f = 2199 → startD y ≤ day → day < startD 2200 → 2000 ≤ yearGo f y day ∧ yearGo f y day ≤ 2199 ∧ startD (yearGo f y day) ≤ day ∧ day < startD (yearGo f y day + 1) := by
  induction f with
  | zero =>
    intro y day h1 h2 h3 h4
    obtain rfl : y = 2199 := by omega
    exact ⟨by simp [yearGo], by simp [yearGo], h3, h4⟩
  | succ f ih =>
    intro y day h1 h2 h3 h4
    simp only [yearGo]
    by_cases hc : startD (y + 1) > day
    · rw [if_pos hc]; exact ⟨h1, by omega, h3, hc⟩
    · rw [if_neg hc]; exact ih (y + 1) day (by omega) (by omega) (by omega) h4
theorem yearOf_spec (day : Int) (h : 0 ≤ day) (h2 : day ≤ 73048) : 2000 ≤ yearOf day ∧ yearOf day ≤ 2199 ∧ startD (yearOf day) ≤ day ∧ day < startD (yearOf day + 1) :=
  yearGo_spec 199 2000 day (by omega) (by omega) (by rw [show startD 2000 = 0 from rfl]; exact h) (by rw [show startD 2200 = 73049 from rfl]; omega)
set_option maxHeartbeats 4000000 in
set_option maxRecDepth 100000 in
theorem search_any (n lo : Nat) (p : Nat → Bool) (gt : Nat) (w : World) (hn : n ≤ 1000000) (hln : lo ≤ n) (hlo : ∀ t, t < lo → p t = false) (hhi : ∀ t, lo ≤ t → t < n → p t = true)
    (hf : ∀ (W : World) (i : Nat), Below w.heap.size w W → i < n → Calls Tryd.prog 31 #[.int .i64 (i : Int), .pointer (some ⟨gt, 0, none⟩)] W fun e w' => e = .returned (.bool (p i)) ∧ Below W.heap.size W w') :
    Calls Tryd.prog 30 #[.int .i64 (n : Int), .func (.func 31) #[] #[.pointer (some ⟨gt, 0, none⟩)]] w fun e w' => e = .returned (.int .i64 (lo : Int)) ∧ Below w.heap.size w w' := by
  have HF := Aside0.mk hf
  have HA := Aside0.mk hlo
  have HB := Aside0.mk hhi
  clear hf hlo hhi
  go_enter Tryd.func30, Tryd.ntmps30
  go_wp2_with fail
  go_loopw [5, 6] (fun v5 v6 wr => ∃ (i j : Nat), v5 = .int .i64 (i : Int) ∧ v6 = .int .i64 (j : Int) ∧ i ≤ lo ∧ lo ≤ j ∧ j ≤ n ∧ Aside0 (Below w.heap.size w wr)) (fun v5 v6 _ => (intOf v6).toNat - (intOf v5).toNat)
  case atStart => exact ⟨0, n, rfl, rfl, by omega, hln, by omega, ⟨Below.refl _ _⟩⟩
  case round =>
    obtain ⟨i, j, rfl, rfl, h1, h2, h3, HW⟩ := hrel
    by_cases hlt : i < j
    · have hh : (i + j) / 2 < n := by omega
      have hc := HF.out wr ((i + j) / 2) HW.out hh
      rw [show (((i + j) / 2 : Nat) : Int) = ((i : Int) + (j : Int)) / 2 by omega] at hc
      cases hp : p ((i + j) / 2) with
      | false =>
        rw [hp] at hc
        have hlo2 : (i + j) / 2 < lo := by
          apply Classical.byContradiction; intro hx
          have := HB.out _ (by omega) hh
          rw [hp] at this; cases this
        clear hp
        have HC := Aside0.mk hc
        clear hc
        go_wp2_with fail
        refine HC.out.mono ?_
        rintro e w2 ⟨rfl, hb⟩
        have HW2 := Aside0.mk (below_step HW.out hb)
        clear hb
        go_wp2
        go_roundw
        case measure => show _ < _; simp [intOf]; omega
        case rel => exact ⟨(i + j) / 2 + 1, j, by go_num, rfl, by omega, h2, h3, HW2⟩
      | true =>
        rw [hp] at hc
        have hlo2 : lo ≤ (i + j) / 2 := by
          apply Classical.byContradiction; intro hx
          have := HA.out ((i + j) / 2) (by omega)
          rw [hp] at this; cases this
        clear hp
        have HC := Aside0.mk hc
        clear hc
        go_wp2_with fail
        refine HC.out.mono ?_
        rintro e w2 ⟨rfl, hb⟩
        have HW2 := Aside0.mk (below_step HW.out hb)
        clear hb
        go_wp2
        go_roundw
        case measure => show _ < _; simp [intOf]; omega
        case rel => exact ⟨i, (i + j) / 2, rfl, by go_num, h1, hlo2, by omega, HW2⟩
    · obtain rfl : i = lo := by omega
      go_wp2
      go_ret
      exact ⟨rfl, HW.out⟩
theorem w64 (n : Int) (h : -9223372036854775808 ≤ n) (h2 : n ≤ 9223372036854775807) : wrap64 n = n := by unfold wrap64; omega
set_option maxHeartbeats 4000000 in
set_option maxRecDepth 100000 in
theorem split1_any (i : Nat) (day : Int) (gt : Nat) (w : World) (hi : i < 199) (hg : w.heap[gt]? = some (.cells #[.int .i64 day] 3 (0, 0))) :
    Calls Tryd.prog 31 #[.int .i64 (i : Int), .pointer (some ⟨gt, 0, none⟩)] w fun e w' => e = .returned (.bool (decide (startD (2001 + (i : Int)) > day))) ∧ Below w.heap.size w w' := by
  have hw : IntKind.i64.wrap (IntKind.i64.wrap (2000 + (i : Int)) + 1) = 2001 + (i : Int) := by
    simp only [i64_w]; rw [w64 (2000 + (i : Int)) (by omega) (by omega), w64 _ (by omega) (by omega)]; omega
  have hs : ∀ W : World, Calls Tryd.prog 27 #[.int .i64 (IntKind.i64.wrap (IntKind.i64.wrap (2000 + (i : Int)) + 1))] W fun e w' => e = .returned (.int .i64 (startD (2001 + (i : Int)))) ∧ Drawn0 W w' := fun W => by
    rw [hw]; exact start_any _ W (by omega) (by omega)
  clear hw
  generalize startD (2001 + (i : Int)) = s at *
  have HS := Aside0.mk hs
  have HG := Aside0.mk hg
  clear hs hg
  have hcond : decide (s > day) = decide (day < s) := rfl
  rw [hcond]
  go_enter Tryd.func31, Tryd.ntmps31
  go_wp2_with fail
  have hc0 : w.drew.cell? ⟨gt, 0, none⟩ = some (.int .i64 day) := (blk_cell (blk_drew HG.out) 0).trans rfl
  go_region_with (go_at_call 27; (with_reducible refine (HS.out _).mono ?_); rintro e w2 ⟨rfl, hd⟩; have HB := Aside0.mk hd.below; have hc2 := (blk_cell (blk_below (blk_drew HG.out) hd.below) 0).trans (rfl : _ = some (Value.int .i64 day)); clear hd)
  all_goals (go_wp2; go_ret; exact ⟨rfl, by first | exact (below_drew (Below.refl _ _)).trans HB.out | exact HB.out⟩)
theorem sp_w64 (n : Int) (h : -9223372036854775808 ≤ n) (h2 : n ≤ 9223372036854775807) : wrap64 n = n := w64 n h h2
set_option maxHeartbeats 4000000 in
set_option maxRecDepth 100000 in
theorem split_bad (day : Int) (w : World) (h : day < 0 ∨ day > 73048) :
    Calls Tryd.prog 16 #[.int .i64 day] w fun e w' => e = .returned (.tuple #[.int .i64 0, .int .i64 0, .int .i64 0, .int .i64 15]) ∧ Below w.heap.size w w' := by
  have hh : date_here.f day = some false := by
    unfold date_here.f
    by_cases h0 : day ≥ 0
    · rw [if_pos h0]; congr 1; exact decide_eq_false (by omega)
    · rw [if_neg h0]
  have HH := Aside0.mk hh
  clear h hh
  go_enter Tryd.func16, Tryd.ntmps16
  go_wp2_with (go_at_call 29; (with_reducible refine (date_here.calls day false _ HH.out).mono ?_); rintro e w2 ⟨rfl, hd⟩; have HB := Aside0.mk (below_step (below_alloc (Below.refl _ _) _) hd.below); clear hd)
  refine bodyPost_ret (v := .tuple #[.int .i64 0, .int .i64 0, .int .i64 0, .int .i64 15]) (by simp [results, Tryd.results16, go_sem]) rfl ?_
  exact ⟨rfl, HB.out⟩
set_option maxHeartbeats 4000000 in
set_option maxRecDepth 100000 in
theorem split_good (day : Int) (w : World) (hL : LongAt w) (h : 0 ≤ day) (h2 : day ≤ 73048) :
    Calls Tryd.prog 16 #[.int .i64 day] w fun e w' => e = .returned (.tuple #[.int .i64 (splitV day).1, .int .i64 (splitV day).2.1, .int .i64 (splitV day).2.2, .int .i64 0]) ∧ Below w.heap.size w w' := by
  have hh : date_here.f day = some true := by
    unfold date_here.f
    rw [if_pos h]; congr 1; exact decide_eq_true (by omega)
  have hmf : ∀ (fn : Fn) (first cap : Array Value) (w : World), (Instr.makeFunc fn first cap).run Tryd.prog w = .ok (.func fn first cap) w := fun _ _ _ _ => rfl
  obtain ⟨hy1, hy2, hy3, hy4⟩ := yearOf_spec day h h2
  unfold splitV
  obtain ⟨lo, hlo, hlo9⟩ : ∃ lo : Nat, yearOf day = 2000 + (lo : Int) ∧ lo ≤ 199 := ⟨(yearOf day - 2000).toNat, by omega, by omega⟩
  rw [hlo] at hy1 hy2 hy3 hy4 ⊢
  have hstep := start_step (2000 + (lo : Int)) hy1 hy2
  rw [hstep] at hy4
  have hlow : ∀ t, t < lo → decide (startD (2001 + (t : Int)) > day) = false := fun t ht => decide_eq_false (by
    have := start_mono (2001 + (t : Int)) (2000 + (lo : Int)) (by omega) (by omega) (by omega); omega)
  have hhigh : ∀ t, lo ≤ t → t < 199 → decide (startD (2001 + (t : Int)) > day) = true := fun t ht ht9 => decide_eq_true (by
    have := start_mono (2000 + (lo : Int) + 1) (2001 + (t : Int)) (by omega) (by omega) (by omega); omega)
  have hst : ∀ W : World, Calls Tryd.prog 27 #[.int .i64 (2000 + (lo : Int))] W fun e w' => e = .returned (.int .i64 (startD (2000 + (lo : Int)))) ∧ Drawn0 W w' := fun W => start_any _ W (by omega) (by omega)
  have hmo : ∀ W : World, Calls Tryd.prog 28 #[.int .i64 (2000 + (lo : Int))] W fun e w' => ∃ gt : Nat, e = .returned (.func (.func 35) #[] #[.pointer (some ⟨gt, 0, none⟩)]) ∧ W.heap.size ≤ gt ∧ w'.heap[gt]? = some (.cells #[.bool (leapV (2000 + (lo : Int)))] 4 (0, 0)) ∧ Below W.heap.size W w' := fun W => month_any _ W
  have hs1 : 0 ≤ startD (2000 + (lo : Int)) := by have := start_mono 2000 (2000 + (lo : Int)) (by omega) (by omega) (by omega); rw [show startD 2000 = 0 from rfl] at this; exact this
  generalize startD (2000 + (lo : Int)) = s at *
  generalize leapV (2000 + (lo : Int)) = b at *
  have hse : ∀ W gt, Below w.heap.size w W → W.heap[gt]? = some (.cells #[.int .i64 day] 3 (0, 0)) → Calls Tryd.prog 30 #[.int .i64 ((199 : Nat) : Int), .func (.func 31) #[] #[.pointer (some ⟨gt, 0, none⟩)]] W fun e w' => e = .returned (.int .i64 (lo : Int)) ∧ Below W.heap.size W w' := fun W gt hB hg =>
    search_any 199 lo (fun t => decide (startD (2001 + (t : Int)) > day)) gt W (by omega) hlo9 hlow hhigh (fun W' i hB' hi => split1_any i day gt W' hi (blk_below hg hB'))
  have hm12 := (msum12_pos b).2
  have HM12 := Aside0.mk hy4
  have HH := Aside0.mk hh
  have HS := Aside0.mk hst
  have HM := Aside0.mk hmo
  have HSE := Aside0.mk hse
  have HL := Aside0.mk hL
  have hds : day - s ≤ 400 := by omega
  clear hh hst hmo hse hL hlow hhigh hstep hy4 hm12 hlo hy2
  go_enter Tryd.func16, Tryd.ntmps16
  go_wp2_with (go_at_call 29; (with_reducible refine (date_here.calls day true _ HH.out).mono ?_); rintro e w2 ⟨rfl, hd⟩; have HB := Aside0.mk (below_step (below_alloc (Below.refl _ _) _) hd.below); have HG := Aside0.mk (blk_below (blk_new w (.cells #[.int .i64 day] 3)) hd.below); have hc2 := (blk_cell HG.out 0).trans (rfl : _ = some (Value.int .i64 day)); clear hd)
  refine (HSE.out _ _ HB.out HG.out).mono ?_
  rintro e w3 ⟨rfl, hb⟩
  have HB3 := Aside0.mk (below_step HB.out hb)
  have HG3 := Aside0.mk (blk_below HG.out hb)
  clear hb hc2 HB HG
  have hc0 : w3.drew.cell? ⟨w.heap.size, 0, none⟩ = some (.int .i64 day) := (blk_cell (blk_drew HG3.out) 0).trans rfl
  go_wp2_with fail
  go_region_with (go_at_call 27; (with_reducible refine (HS.out _).mono ?_); rintro e w4 ⟨rfl, hd⟩; have HB4 := Aside0.mk (below_step (below_drew HB3.out) hd.below); have hc4 := (blk_cell (blk_below (blk_drew HG3.out) hd.below) 0).trans (rfl : _ = some (Value.int .i64 day)); clear hd)
  all_goals (
    go_wp2_with fail
    refine (HM.out _).mono ?_
    rintro e w5 ⟨gt, rfl, hg0, hgt, hb⟩
    have HB5 := Aside0.mk (below_step HB4.out hb)
    have HG5 := Aside0.mk hgt
    clear hb hgt hg0 hc0 hc4
    go_wp2_with fail
    go_loopw [3, 4] (fun v3 v4 wr => ∃ (k f : Nat) (x : Int), 1 ≤ k ∧ k + f = 13 ∧ 1 ≤ f ∧ v3 = .int .i64 (k : Int) ∧ v4 = .int .i64 x ∧ 0 ≤ x ∧ x ≤ 400 ∧ Aside0 (msum b (k - 1) + x = day - s) ∧ Aside0 (monGo f b (k : Int) x = monGo 12 b 1 (day - s)) ∧ Aside0 (wr.heap[gt]? = some (.cells #[.bool b] 4 (0, 0))) ∧ Aside0 (Below w.heap.size w wr)) (fun v3 _ _ => 13 - (intOf v3).toNat)
    case atStart => exact ⟨1, 12, day - s, by omega, by omega, by omega, rfl, by (try simp only [i64_w]); (try rw [sp_w64 _ (by omega) (by omega)]), by omega, by omega, ⟨by simp [msum]⟩, ⟨rfl⟩, HG5, HB5⟩
    case round =>
      clear HG5 HB5
      obtain ⟨k, f, x, hk1, hkf, hf1, rfl, rfl, hx0, hx1, HX, HMG, HG, HB⟩ := hrel
      have hr2 := dl_range b (k : Int) (by omega) (by omega)
      have hms : msum b k = msum b (k - 1) + dl b (k : Int) := by
        obtain ⟨j, rfl⟩ : ∃ j, k = j + 1 := ⟨k - 1, by omega⟩
        simp [msum]
      obtain ⟨f, rfl⟩ : ∃ j, f = j + 1 := ⟨f - 1, by omega⟩
      have hmg := HMG.out
      rw [monGo] at hmg
      have hcall : ∀ W : World, Below w.heap.size w W → W.heap[gt]? = some (.cells #[.bool b] 4 (0, 0)) → Calls Tryd.prog 35 #[.int .i64 (k : Int), .pointer (some ⟨gt, 0, none⟩)] W fun e w' => e = .returned (.int .i64 (dl b (k : Int))) ∧ Below W.heap.size W w' := fun W hB hg => month1_any (k : Int) b gt W (by omega) (by omega) (HL.out.below hB) hg
      have hnext : ¬ x < dl b (k : Int) → k < 12 := by
        intro hge
        apply Classical.byContradiction
        intro hk
        obtain rfl : k = 12 := by omega
        have h3 := HM12.out
        have h4 := HX.out
        omega
      have HMS := Aside0.mk hms
      have HCALL := Aside0.mk hcall
      clear hms hcall HMG
      generalize dl b (k : Int) = z at *
      by_cases hlt : x < z
      · have dx : decide (z ≤ x) = false := decide_eq_false (by omega)
        rw [if_pos hlt] at hmg
        have HMG := Aside0.mk hmg
        clear hnext hmg
        go_wp2_with fail
        refine (HCALL.out _ HB.out HG.out).mono ?_
        rintro e w6 ⟨rfl, hb⟩
        have HB6 := Aside0.mk (below_step HB.out hb)
        clear hb
        go_wp2
        refine bodyPost_ret (v := .tuple #[.int .i64 (2000 + (lo : Int)), .int .i64 (k : Int), .int .i64 (x + 1), .int .i64 0]) (by simp [results, Tryd.results16, go_sem]) rfl ?_
        exact ⟨by rw [← HMG.out], HB6.out⟩
      · have dx : decide (z ≤ x) = true := decide_eq_true (by omega)
        have hk12 := hnext hlt
        rw [if_neg hlt] at hmg
        have HMG := Aside0.mk hmg
        clear hnext hmg
        go_wp2_with fail
        refine (HCALL.out _ HB.out HG.out).mono ?_
        rintro e w6 ⟨rfl, hb⟩
        have HB6 := Aside0.mk (below_step HB.out hb)
        have HG6 := Aside0.mk (blk_below HG.out hb)
        clear hb
        go_wp2_with fail
        refine (HCALL.out _ HB6.out HG6.out).mono ?_
        rintro e w7 ⟨rfl, hb⟩
        have HB7 := Aside0.mk (below_step HB6.out hb)
        have HG7 := Aside0.mk (blk_below HG6.out hb)
        clear hb HB HG HB6 HG6
        go_wp2
        go_roundw
        case measure => show _ < _; simp [intOf]; omega
        case rel => exact ⟨k + 1, f, x - z, by omega, by omega, by omega, by go_num, rfl, by omega, by omega, ⟨by have := HX.out; have := HMS.out; rw [show k + 1 - 1 = k from rfl]; omega⟩, ⟨by rw [← HMG.out]; congr 1⟩, HG7, HB7⟩)
theorem date_Split.calls (a0 r1 r2 r3 r4 : Int) (w : World) (hL : LongAt w) (h : date_Split.f a0 = some (r1, r2, r3, r4)) :
    Calls Tryd.prog 16 #[.int .i64 a0] w fun e w' => e = .returned (.tuple #[.int .i64 r1, .int .i64 r2, .int .i64 r3, .int .i64 r4]) ∧ Below w.heap.size w w' := by
  unfold date_Split.f at h
  have h := Option.some.inj h
  by_cases hc : a0 < 0 ∨ a0 > 73048
  · rw [if_pos hc] at h
    simp only [Prod.mk.injEq] at h
    obtain ⟨rfl, rfl, rfl, rfl⟩ := h
    exact split_bad a0 w hc
  · rw [if_neg hc] at h
    simp only [Prod.mk.injEq] at h
    obtain ⟨rfl, rfl, rfl, rfl⟩ := h
    exact split_good a0 w hL (by omega) (by omega)

end Go.Proofs.YtmhlajgeihjaeaaDoor.PDateOf
-- HLONG: seen
