/- Laid for this claim by a program of this session's (wip/mkprint.py, wip/ext.py); not trusted: Lean checks it. -/
import Derived.Test.YtpieipeppanahaaPPhaseNextsx0
import Derived.Test.YtpieipeppanahaaPPhaseNextsx1
namespace Go.Proofs.Ytpieipeppanahaa.PPhaseNexts
open Go.RowKit Go.Proofs.YtpieipeppanahaaW.PrintWords Go.Proofs.YtpieipeppanahaaW.PrintLast Go.Proofs.YtpieipeppanahaaW.PrintMore
attribute [local go_sem] max2_int min2_int max_two min_two max_three min_three max_four min_four   -- for this text's walks alone
set_option linter.unusedVariables false
set_option linter.unusedSimpArgs false

/-! ### phase_Of: function 20 -/

set_option maxHeartbeats 1000000 in
set_option maxRecDepth 100000 in
theorem names_of (w : World) : Calls Try.prog 25 #[] w fun e w' => e = .returned (.agg #[.string (⟨#[111, 112, 101, 110]⟩ : ByteArray), .string (⟨#[99, 117, 116]⟩ : ByteArray), .string (⟨#[112, 114, 105, 99, 101]⟩ : ByteArray), .string (⟨#[109, 97, 114, 103, 105, 110]⟩ : ByteArray), .string (⟨#[115, 101, 116, 116, 108, 101]⟩ : ByteArray), .string (⟨#[99, 108, 111, 115, 101, 100]⟩ : ByteArray)]) ∧ Below w.heap.size w w' := by
  go_enter Try.func25, Try.ntmps25
  go_wp2
  refine bodyPost_ret (v := .agg #[.string (⟨#[111, 112, 101, 110]⟩ : ByteArray), .string (⟨#[99, 117, 116]⟩ : ByteArray), .string (⟨#[112, 114, 105, 99, 101]⟩ : ByteArray), .string (⟨#[109, 97, 114, 103, 105, 110]⟩ : ByteArray), .string (⟨#[115, 101, 116, 116, 108, 101]⟩ : ByteArray), .string (⟨#[99, 108, 111, 115, 101, 100]⟩ : ByteArray)]) (by simp [results, Try.results25, go_sem]) rfl ?_
  exact ⟨rfl, (Below.refl _ _).alloc (Nat.le_refl _) _⟩
def phase_Of.f (a0 : ByteArray) : Option (Int × Bool) := some (if a0.toList = ([111, 112, 101, 110] : List UInt8) then (1, true) else if a0.toList = ([99, 117, 116] : List UInt8) then (2, true) else if a0.toList = ([112, 114, 105, 99, 101] : List UInt8) then (3, true) else if a0.toList = ([109, 97, 114, 103, 105, 110] : List UInt8) then (4, true) else if a0.toList = ([115, 101, 116, 116, 108, 101] : List UInt8) then (5, true) else if a0.toList = ([99, 108, 111, 115, 101, 100] : List UInt8) then (6, true) else (0, false))
set_option maxHeartbeats 2000000 in
set_option maxRecDepth 100000 in
theorem of_0 (a0 : ByteArray) (w : World) (e0 : (([111, 112, 101, 110] : List UInt8) == a0.toList) = true) : Calls Try.prog 20 #[.string a0] w fun e w' => e = .returned (.tuple #[.int .i64 1, .bool true]) ∧ Below w.heap.size w w' := by
  have i0 : ∀ w, (Instr.index 39 (.agg #[.string (⟨#[111, 112, 101, 110]⟩ : ByteArray), .string (⟨#[99, 117, 116]⟩ : ByteArray), .string (⟨#[112, 114, 105, 99, 101]⟩ : ByteArray), .string (⟨#[109, 97, 114, 103, 105, 110]⟩ : ByteArray), .string (⟨#[115, 101, 116, 116, 108, 101]⟩ : ByteArray), .string (⟨#[99, 108, 111, 115, 101, 100]⟩ : ByteArray)]) (.int .i64 0)).run Try.prog w = .ok (.string (⟨#[111, 112, 101, 110]⟩ : ByteArray)) w := fun _ => by kernel_rfl
  go_enter Try.func20, Try.ntmps20
  go_wp2_with (go_at_call 25; refine (names_of _).mono ?_; rintro e w1 ⟨rfl, hb⟩)
  refine wp_loop_rounds 7 ?_
  rw [rounds_succ]
  go_wp2
  go_ret2
  exact ⟨rfl, by assumption⟩
set_option maxHeartbeats 2000000 in
set_option maxRecDepth 100000 in
theorem of_1 (a0 : ByteArray) (w : World) (e0 : (([111, 112, 101, 110] : List UInt8) == a0.toList) = false) (e1 : (([99, 117, 116] : List UInt8) == a0.toList) = true) : Calls Try.prog 20 #[.string a0] w fun e w' => e = .returned (.tuple #[.int .i64 2, .bool true]) ∧ Below w.heap.size w w' := by
  have i0 : ∀ w, (Instr.index 39 (.agg #[.string (⟨#[111, 112, 101, 110]⟩ : ByteArray), .string (⟨#[99, 117, 116]⟩ : ByteArray), .string (⟨#[112, 114, 105, 99, 101]⟩ : ByteArray), .string (⟨#[109, 97, 114, 103, 105, 110]⟩ : ByteArray), .string (⟨#[115, 101, 116, 116, 108, 101]⟩ : ByteArray), .string (⟨#[99, 108, 111, 115, 101, 100]⟩ : ByteArray)]) (.int .i64 0)).run Try.prog w = .ok (.string (⟨#[111, 112, 101, 110]⟩ : ByteArray)) w := fun _ => by kernel_rfl
  have i1 : ∀ w, (Instr.index 39 (.agg #[.string (⟨#[111, 112, 101, 110]⟩ : ByteArray), .string (⟨#[99, 117, 116]⟩ : ByteArray), .string (⟨#[112, 114, 105, 99, 101]⟩ : ByteArray), .string (⟨#[109, 97, 114, 103, 105, 110]⟩ : ByteArray), .string (⟨#[115, 101, 116, 116, 108, 101]⟩ : ByteArray), .string (⟨#[99, 108, 111, 115, 101, 100]⟩ : ByteArray)]) (.int .i64 1)).run Try.prog w = .ok (.string (⟨#[99, 117, 116]⟩ : ByteArray)) w := fun _ => by kernel_rfl
  go_enter Try.func20, Try.ntmps20
  go_wp2_with (go_at_call 25; refine (names_of _).mono ?_; rintro e w1 ⟨rfl, hb⟩)
  refine wp_loop_rounds 7 ?_
  rw [rounds_succ]
  go_wp2
  rw [rounds_succ]
  go_wp2
  go_ret2
  exact ⟨rfl, by assumption⟩
set_option maxHeartbeats 2000000 in
set_option maxRecDepth 100000 in
theorem of_2 (a0 : ByteArray) (w : World) (e0 : (([111, 112, 101, 110] : List UInt8) == a0.toList) = false) (e1 : (([99, 117, 116] : List UInt8) == a0.toList) = false) (e2 : (([112, 114, 105, 99, 101] : List UInt8) == a0.toList) = true) : Calls Try.prog 20 #[.string a0] w fun e w' => e = .returned (.tuple #[.int .i64 3, .bool true]) ∧ Below w.heap.size w w' := by
  have i0 : ∀ w, (Instr.index 39 (.agg #[.string (⟨#[111, 112, 101, 110]⟩ : ByteArray), .string (⟨#[99, 117, 116]⟩ : ByteArray), .string (⟨#[112, 114, 105, 99, 101]⟩ : ByteArray), .string (⟨#[109, 97, 114, 103, 105, 110]⟩ : ByteArray), .string (⟨#[115, 101, 116, 116, 108, 101]⟩ : ByteArray), .string (⟨#[99, 108, 111, 115, 101, 100]⟩ : ByteArray)]) (.int .i64 0)).run Try.prog w = .ok (.string (⟨#[111, 112, 101, 110]⟩ : ByteArray)) w := fun _ => by kernel_rfl
  have i1 : ∀ w, (Instr.index 39 (.agg #[.string (⟨#[111, 112, 101, 110]⟩ : ByteArray), .string (⟨#[99, 117, 116]⟩ : ByteArray), .string (⟨#[112, 114, 105, 99, 101]⟩ : ByteArray), .string (⟨#[109, 97, 114, 103, 105, 110]⟩ : ByteArray), .string (⟨#[115, 101, 116, 116, 108, 101]⟩ : ByteArray), .string (⟨#[99, 108, 111, 115, 101, 100]⟩ : ByteArray)]) (.int .i64 1)).run Try.prog w = .ok (.string (⟨#[99, 117, 116]⟩ : ByteArray)) w := fun _ => by kernel_rfl
  have i2 : ∀ w, (Instr.index 39 (.agg #[.string (⟨#[111, 112, 101, 110]⟩ : ByteArray), .string (⟨#[99, 117, 116]⟩ : ByteArray), .string (⟨#[112, 114, 105, 99, 101]⟩ : ByteArray), .string (⟨#[109, 97, 114, 103, 105, 110]⟩ : ByteArray), .string (⟨#[115, 101, 116, 116, 108, 101]⟩ : ByteArray), .string (⟨#[99, 108, 111, 115, 101, 100]⟩ : ByteArray)]) (.int .i64 2)).run Try.prog w = .ok (.string (⟨#[112, 114, 105, 99, 101]⟩ : ByteArray)) w := fun _ => by kernel_rfl
  go_enter Try.func20, Try.ntmps20
  go_wp2_with (go_at_call 25; refine (names_of _).mono ?_; rintro e w1 ⟨rfl, hb⟩)
  refine wp_loop_rounds 7 ?_
  rw [rounds_succ]
  go_wp2
  rw [rounds_succ]
  go_wp2
  rw [rounds_succ]
  go_wp2
  go_ret2
  exact ⟨rfl, by assumption⟩
set_option maxHeartbeats 2000000 in
set_option maxRecDepth 100000 in
theorem of_3 (a0 : ByteArray) (w : World) (e0 : (([111, 112, 101, 110] : List UInt8) == a0.toList) = false) (e1 : (([99, 117, 116] : List UInt8) == a0.toList) = false) (e2 : (([112, 114, 105, 99, 101] : List UInt8) == a0.toList) = false) (e3 : (([109, 97, 114, 103, 105, 110] : List UInt8) == a0.toList) = true) : Calls Try.prog 20 #[.string a0] w fun e w' => e = .returned (.tuple #[.int .i64 4, .bool true]) ∧ Below w.heap.size w w' := by
  have i0 : ∀ w, (Instr.index 39 (.agg #[.string (⟨#[111, 112, 101, 110]⟩ : ByteArray), .string (⟨#[99, 117, 116]⟩ : ByteArray), .string (⟨#[112, 114, 105, 99, 101]⟩ : ByteArray), .string (⟨#[109, 97, 114, 103, 105, 110]⟩ : ByteArray), .string (⟨#[115, 101, 116, 116, 108, 101]⟩ : ByteArray), .string (⟨#[99, 108, 111, 115, 101, 100]⟩ : ByteArray)]) (.int .i64 0)).run Try.prog w = .ok (.string (⟨#[111, 112, 101, 110]⟩ : ByteArray)) w := fun _ => by kernel_rfl
  have i1 : ∀ w, (Instr.index 39 (.agg #[.string (⟨#[111, 112, 101, 110]⟩ : ByteArray), .string (⟨#[99, 117, 116]⟩ : ByteArray), .string (⟨#[112, 114, 105, 99, 101]⟩ : ByteArray), .string (⟨#[109, 97, 114, 103, 105, 110]⟩ : ByteArray), .string (⟨#[115, 101, 116, 116, 108, 101]⟩ : ByteArray), .string (⟨#[99, 108, 111, 115, 101, 100]⟩ : ByteArray)]) (.int .i64 1)).run Try.prog w = .ok (.string (⟨#[99, 117, 116]⟩ : ByteArray)) w := fun _ => by kernel_rfl
  have i2 : ∀ w, (Instr.index 39 (.agg #[.string (⟨#[111, 112, 101, 110]⟩ : ByteArray), .string (⟨#[99, 117, 116]⟩ : ByteArray), .string (⟨#[112, 114, 105, 99, 101]⟩ : ByteArray), .string (⟨#[109, 97, 114, 103, 105, 110]⟩ : ByteArray), .string (⟨#[115, 101, 116, 116, 108, 101]⟩ : ByteArray), .string (⟨#[99, 108, 111, 115, 101, 100]⟩ : ByteArray)]) (.int .i64 2)).run Try.prog w = .ok (.string (⟨#[112, 114, 105, 99, 101]⟩ : ByteArray)) w := fun _ => by kernel_rfl
  have i3 : ∀ w, (Instr.index 39 (.agg #[.string (⟨#[111, 112, 101, 110]⟩ : ByteArray), .string (⟨#[99, 117, 116]⟩ : ByteArray), .string (⟨#[112, 114, 105, 99, 101]⟩ : ByteArray), .string (⟨#[109, 97, 114, 103, 105, 110]⟩ : ByteArray), .string (⟨#[115, 101, 116, 116, 108, 101]⟩ : ByteArray), .string (⟨#[99, 108, 111, 115, 101, 100]⟩ : ByteArray)]) (.int .i64 3)).run Try.prog w = .ok (.string (⟨#[109, 97, 114, 103, 105, 110]⟩ : ByteArray)) w := fun _ => by kernel_rfl
  go_enter Try.func20, Try.ntmps20
  go_wp2_with (go_at_call 25; refine (names_of _).mono ?_; rintro e w1 ⟨rfl, hb⟩)
  refine wp_loop_rounds 7 ?_
  rw [rounds_succ]
  go_wp2
  rw [rounds_succ]
  go_wp2
  rw [rounds_succ]
  go_wp2
  rw [rounds_succ]
  go_wp2
  go_ret2
  exact ⟨rfl, by assumption⟩
set_option maxHeartbeats 2000000 in
set_option maxRecDepth 100000 in
theorem of_4 (a0 : ByteArray) (w : World) (e0 : (([111, 112, 101, 110] : List UInt8) == a0.toList) = false) (e1 : (([99, 117, 116] : List UInt8) == a0.toList) = false) (e2 : (([112, 114, 105, 99, 101] : List UInt8) == a0.toList) = false) (e3 : (([109, 97, 114, 103, 105, 110] : List UInt8) == a0.toList) = false) (e4 : (([115, 101, 116, 116, 108, 101] : List UInt8) == a0.toList) = true) : Calls Try.prog 20 #[.string a0] w fun e w' => e = .returned (.tuple #[.int .i64 5, .bool true]) ∧ Below w.heap.size w w' := by
  have i0 : ∀ w, (Instr.index 39 (.agg #[.string (⟨#[111, 112, 101, 110]⟩ : ByteArray), .string (⟨#[99, 117, 116]⟩ : ByteArray), .string (⟨#[112, 114, 105, 99, 101]⟩ : ByteArray), .string (⟨#[109, 97, 114, 103, 105, 110]⟩ : ByteArray), .string (⟨#[115, 101, 116, 116, 108, 101]⟩ : ByteArray), .string (⟨#[99, 108, 111, 115, 101, 100]⟩ : ByteArray)]) (.int .i64 0)).run Try.prog w = .ok (.string (⟨#[111, 112, 101, 110]⟩ : ByteArray)) w := fun _ => by kernel_rfl
  have i1 : ∀ w, (Instr.index 39 (.agg #[.string (⟨#[111, 112, 101, 110]⟩ : ByteArray), .string (⟨#[99, 117, 116]⟩ : ByteArray), .string (⟨#[112, 114, 105, 99, 101]⟩ : ByteArray), .string (⟨#[109, 97, 114, 103, 105, 110]⟩ : ByteArray), .string (⟨#[115, 101, 116, 116, 108, 101]⟩ : ByteArray), .string (⟨#[99, 108, 111, 115, 101, 100]⟩ : ByteArray)]) (.int .i64 1)).run Try.prog w = .ok (.string (⟨#[99, 117, 116]⟩ : ByteArray)) w := fun _ => by kernel_rfl
  have i2 : ∀ w, (Instr.index 39 (.agg #[.string (⟨#[111, 112, 101, 110]⟩ : ByteArray), .string (⟨#[99, 117, 116]⟩ : ByteArray), .string (⟨#[112, 114, 105, 99, 101]⟩ : ByteArray), .string (⟨#[109, 97, 114, 103, 105, 110]⟩ : ByteArray), .string (⟨#[115, 101, 116, 116, 108, 101]⟩ : ByteArray), .string (⟨#[99, 108, 111, 115, 101, 100]⟩ : ByteArray)]) (.int .i64 2)).run Try.prog w = .ok (.string (⟨#[112, 114, 105, 99, 101]⟩ : ByteArray)) w := fun _ => by kernel_rfl
  have i3 : ∀ w, (Instr.index 39 (.agg #[.string (⟨#[111, 112, 101, 110]⟩ : ByteArray), .string (⟨#[99, 117, 116]⟩ : ByteArray), .string (⟨#[112, 114, 105, 99, 101]⟩ : ByteArray), .string (⟨#[109, 97, 114, 103, 105, 110]⟩ : ByteArray), .string (⟨#[115, 101, 116, 116, 108, 101]⟩ : ByteArray), .string (⟨#[99, 108, 111, 115, 101, 100]⟩ : ByteArray)]) (.int .i64 3)).run Try.prog w = .ok (.string (⟨#[109, 97, 114, 103, 105, 110]⟩ : ByteArray)) w := fun _ => by kernel_rfl
  have i4 : ∀ w, (Instr.index 39 (.agg #[.string (⟨#[111, 112, 101, 110]⟩ : ByteArray), .string (⟨#[99, 117, 116]⟩ : ByteArray), .string (⟨#[112, 114, 105, 99, 101]⟩ : ByteArray), .string (⟨#[109, 97, 114, 103, 105, 110]⟩ : ByteArray), .string (⟨#[115, 101, 116, 116, 108, 101]⟩ : ByteArray), .string (⟨#[99, 108, 111, 115, 101, 100]⟩ : ByteArray)]) (.int .i64 4)).run Try.prog w = .ok (.string (⟨#[115, 101, 116, 116, 108, 101]⟩ : ByteArray)) w := fun _ => by kernel_rfl
  go_enter Try.func20, Try.ntmps20
  go_wp2_with (go_at_call 25; refine (names_of _).mono ?_; rintro e w1 ⟨rfl, hb⟩)
  refine wp_loop_rounds 7 ?_
  rw [rounds_succ]
  go_wp2
  rw [rounds_succ]
  go_wp2
  rw [rounds_succ]
  go_wp2
  rw [rounds_succ]
  go_wp2
  rw [rounds_succ]
  go_wp2
  go_ret2
  exact ⟨rfl, by assumption⟩
set_option maxHeartbeats 2000000 in
set_option maxRecDepth 100000 in
theorem of_5 (a0 : ByteArray) (w : World) (e0 : (([111, 112, 101, 110] : List UInt8) == a0.toList) = false) (e1 : (([99, 117, 116] : List UInt8) == a0.toList) = false) (e2 : (([112, 114, 105, 99, 101] : List UInt8) == a0.toList) = false) (e3 : (([109, 97, 114, 103, 105, 110] : List UInt8) == a0.toList) = false) (e4 : (([115, 101, 116, 116, 108, 101] : List UInt8) == a0.toList) = false) (e5 : (([99, 108, 111, 115, 101, 100] : List UInt8) == a0.toList) = true) : Calls Try.prog 20 #[.string a0] w fun e w' => e = .returned (.tuple #[.int .i64 6, .bool true]) ∧ Below w.heap.size w w' := by
  have i0 : ∀ w, (Instr.index 39 (.agg #[.string (⟨#[111, 112, 101, 110]⟩ : ByteArray), .string (⟨#[99, 117, 116]⟩ : ByteArray), .string (⟨#[112, 114, 105, 99, 101]⟩ : ByteArray), .string (⟨#[109, 97, 114, 103, 105, 110]⟩ : ByteArray), .string (⟨#[115, 101, 116, 116, 108, 101]⟩ : ByteArray), .string (⟨#[99, 108, 111, 115, 101, 100]⟩ : ByteArray)]) (.int .i64 0)).run Try.prog w = .ok (.string (⟨#[111, 112, 101, 110]⟩ : ByteArray)) w := fun _ => by kernel_rfl
  have i1 : ∀ w, (Instr.index 39 (.agg #[.string (⟨#[111, 112, 101, 110]⟩ : ByteArray), .string (⟨#[99, 117, 116]⟩ : ByteArray), .string (⟨#[112, 114, 105, 99, 101]⟩ : ByteArray), .string (⟨#[109, 97, 114, 103, 105, 110]⟩ : ByteArray), .string (⟨#[115, 101, 116, 116, 108, 101]⟩ : ByteArray), .string (⟨#[99, 108, 111, 115, 101, 100]⟩ : ByteArray)]) (.int .i64 1)).run Try.prog w = .ok (.string (⟨#[99, 117, 116]⟩ : ByteArray)) w := fun _ => by kernel_rfl
  have i2 : ∀ w, (Instr.index 39 (.agg #[.string (⟨#[111, 112, 101, 110]⟩ : ByteArray), .string (⟨#[99, 117, 116]⟩ : ByteArray), .string (⟨#[112, 114, 105, 99, 101]⟩ : ByteArray), .string (⟨#[109, 97, 114, 103, 105, 110]⟩ : ByteArray), .string (⟨#[115, 101, 116, 116, 108, 101]⟩ : ByteArray), .string (⟨#[99, 108, 111, 115, 101, 100]⟩ : ByteArray)]) (.int .i64 2)).run Try.prog w = .ok (.string (⟨#[112, 114, 105, 99, 101]⟩ : ByteArray)) w := fun _ => by kernel_rfl
  have i3 : ∀ w, (Instr.index 39 (.agg #[.string (⟨#[111, 112, 101, 110]⟩ : ByteArray), .string (⟨#[99, 117, 116]⟩ : ByteArray), .string (⟨#[112, 114, 105, 99, 101]⟩ : ByteArray), .string (⟨#[109, 97, 114, 103, 105, 110]⟩ : ByteArray), .string (⟨#[115, 101, 116, 116, 108, 101]⟩ : ByteArray), .string (⟨#[99, 108, 111, 115, 101, 100]⟩ : ByteArray)]) (.int .i64 3)).run Try.prog w = .ok (.string (⟨#[109, 97, 114, 103, 105, 110]⟩ : ByteArray)) w := fun _ => by kernel_rfl
  have i4 : ∀ w, (Instr.index 39 (.agg #[.string (⟨#[111, 112, 101, 110]⟩ : ByteArray), .string (⟨#[99, 117, 116]⟩ : ByteArray), .string (⟨#[112, 114, 105, 99, 101]⟩ : ByteArray), .string (⟨#[109, 97, 114, 103, 105, 110]⟩ : ByteArray), .string (⟨#[115, 101, 116, 116, 108, 101]⟩ : ByteArray), .string (⟨#[99, 108, 111, 115, 101, 100]⟩ : ByteArray)]) (.int .i64 4)).run Try.prog w = .ok (.string (⟨#[115, 101, 116, 116, 108, 101]⟩ : ByteArray)) w := fun _ => by kernel_rfl
  have i5 : ∀ w, (Instr.index 39 (.agg #[.string (⟨#[111, 112, 101, 110]⟩ : ByteArray), .string (⟨#[99, 117, 116]⟩ : ByteArray), .string (⟨#[112, 114, 105, 99, 101]⟩ : ByteArray), .string (⟨#[109, 97, 114, 103, 105, 110]⟩ : ByteArray), .string (⟨#[115, 101, 116, 116, 108, 101]⟩ : ByteArray), .string (⟨#[99, 108, 111, 115, 101, 100]⟩ : ByteArray)]) (.int .i64 5)).run Try.prog w = .ok (.string (⟨#[99, 108, 111, 115, 101, 100]⟩ : ByteArray)) w := fun _ => by kernel_rfl
  go_enter Try.func20, Try.ntmps20
  go_wp2_with (go_at_call 25; refine (names_of _).mono ?_; rintro e w1 ⟨rfl, hb⟩)
  refine wp_loop_rounds 7 ?_
  rw [rounds_succ]
  go_wp2
  rw [rounds_succ]
  go_wp2
  rw [rounds_succ]
  go_wp2
  rw [rounds_succ]
  go_wp2
  rw [rounds_succ]
  go_wp2
  rw [rounds_succ]
  go_wp2
  go_ret2
  exact ⟨rfl, by assumption⟩
set_option maxHeartbeats 2000000 in
set_option maxRecDepth 100000 in
theorem of_6 (a0 : ByteArray) (w : World) (e0 : (([111, 112, 101, 110] : List UInt8) == a0.toList) = false) (e1 : (([99, 117, 116] : List UInt8) == a0.toList) = false) (e2 : (([112, 114, 105, 99, 101] : List UInt8) == a0.toList) = false) (e3 : (([109, 97, 114, 103, 105, 110] : List UInt8) == a0.toList) = false) (e4 : (([115, 101, 116, 116, 108, 101] : List UInt8) == a0.toList) = false) (e5 : (([99, 108, 111, 115, 101, 100] : List UInt8) == a0.toList) = false) : Calls Try.prog 20 #[.string a0] w fun e w' => e = .returned (.tuple #[.int .i64 0, .bool false]) ∧ Below w.heap.size w w' := by
  have i0 : ∀ w, (Instr.index 39 (.agg #[.string (⟨#[111, 112, 101, 110]⟩ : ByteArray), .string (⟨#[99, 117, 116]⟩ : ByteArray), .string (⟨#[112, 114, 105, 99, 101]⟩ : ByteArray), .string (⟨#[109, 97, 114, 103, 105, 110]⟩ : ByteArray), .string (⟨#[115, 101, 116, 116, 108, 101]⟩ : ByteArray), .string (⟨#[99, 108, 111, 115, 101, 100]⟩ : ByteArray)]) (.int .i64 0)).run Try.prog w = .ok (.string (⟨#[111, 112, 101, 110]⟩ : ByteArray)) w := fun _ => by kernel_rfl
  have i1 : ∀ w, (Instr.index 39 (.agg #[.string (⟨#[111, 112, 101, 110]⟩ : ByteArray), .string (⟨#[99, 117, 116]⟩ : ByteArray), .string (⟨#[112, 114, 105, 99, 101]⟩ : ByteArray), .string (⟨#[109, 97, 114, 103, 105, 110]⟩ : ByteArray), .string (⟨#[115, 101, 116, 116, 108, 101]⟩ : ByteArray), .string (⟨#[99, 108, 111, 115, 101, 100]⟩ : ByteArray)]) (.int .i64 1)).run Try.prog w = .ok (.string (⟨#[99, 117, 116]⟩ : ByteArray)) w := fun _ => by kernel_rfl
  have i2 : ∀ w, (Instr.index 39 (.agg #[.string (⟨#[111, 112, 101, 110]⟩ : ByteArray), .string (⟨#[99, 117, 116]⟩ : ByteArray), .string (⟨#[112, 114, 105, 99, 101]⟩ : ByteArray), .string (⟨#[109, 97, 114, 103, 105, 110]⟩ : ByteArray), .string (⟨#[115, 101, 116, 116, 108, 101]⟩ : ByteArray), .string (⟨#[99, 108, 111, 115, 101, 100]⟩ : ByteArray)]) (.int .i64 2)).run Try.prog w = .ok (.string (⟨#[112, 114, 105, 99, 101]⟩ : ByteArray)) w := fun _ => by kernel_rfl
  have i3 : ∀ w, (Instr.index 39 (.agg #[.string (⟨#[111, 112, 101, 110]⟩ : ByteArray), .string (⟨#[99, 117, 116]⟩ : ByteArray), .string (⟨#[112, 114, 105, 99, 101]⟩ : ByteArray), .string (⟨#[109, 97, 114, 103, 105, 110]⟩ : ByteArray), .string (⟨#[115, 101, 116, 116, 108, 101]⟩ : ByteArray), .string (⟨#[99, 108, 111, 115, 101, 100]⟩ : ByteArray)]) (.int .i64 3)).run Try.prog w = .ok (.string (⟨#[109, 97, 114, 103, 105, 110]⟩ : ByteArray)) w := fun _ => by kernel_rfl
  have i4 : ∀ w, (Instr.index 39 (.agg #[.string (⟨#[111, 112, 101, 110]⟩ : ByteArray), .string (⟨#[99, 117, 116]⟩ : ByteArray), .string (⟨#[112, 114, 105, 99, 101]⟩ : ByteArray), .string (⟨#[109, 97, 114, 103, 105, 110]⟩ : ByteArray), .string (⟨#[115, 101, 116, 116, 108, 101]⟩ : ByteArray), .string (⟨#[99, 108, 111, 115, 101, 100]⟩ : ByteArray)]) (.int .i64 4)).run Try.prog w = .ok (.string (⟨#[115, 101, 116, 116, 108, 101]⟩ : ByteArray)) w := fun _ => by kernel_rfl
  have i5 : ∀ w, (Instr.index 39 (.agg #[.string (⟨#[111, 112, 101, 110]⟩ : ByteArray), .string (⟨#[99, 117, 116]⟩ : ByteArray), .string (⟨#[112, 114, 105, 99, 101]⟩ : ByteArray), .string (⟨#[109, 97, 114, 103, 105, 110]⟩ : ByteArray), .string (⟨#[115, 101, 116, 116, 108, 101]⟩ : ByteArray), .string (⟨#[99, 108, 111, 115, 101, 100]⟩ : ByteArray)]) (.int .i64 5)).run Try.prog w = .ok (.string (⟨#[99, 108, 111, 115, 101, 100]⟩ : ByteArray)) w := fun _ => by kernel_rfl
  go_enter Try.func20, Try.ntmps20
  go_wp2_with (go_at_call 25; refine (names_of _).mono ?_; rintro e w1 ⟨rfl, hb⟩)
  refine wp_loop_rounds 7 ?_
  rw [rounds_succ]
  go_wp2
  rw [rounds_succ]
  go_wp2
  rw [rounds_succ]
  go_wp2
  rw [rounds_succ]
  go_wp2
  rw [rounds_succ]
  go_wp2
  rw [rounds_succ]
  go_wp2
  rw [rounds_succ]
  go_wp2
  go_ret2
  exact ⟨rfl, hb⟩
theorem phase_Of.calls (a0 : ByteArray) (r1 : Int) (r2 : Bool) (w : World) (h : phase_Of.f a0 = some (r1, r2)) :
    Calls Try.prog 20 #[.string a0] w fun e w' => e = .returned (.tuple #[.int .i64 r1, .bool r2]) ∧ Below w.heap.size w w' := by
  unfold phase_Of.f at h
  have sw : ∀ {l : List UInt8}, a0.toList = l → (l == a0.toList) = true := fun h => by rw [h]; exact beq_self_eq_true _
  have sn : ∀ {l : List UInt8}, ¬ a0.toList = l → (l == a0.toList) = false := fun h => beq_eq_false_iff_ne.2 (fun e => h e.symm)
  by_cases h0 : a0.toList = ([111, 112, 101, 110] : List UInt8)
  · rw [if_pos h0] at h; simp only [Option.some.injEq, Prod.mk.injEq] at h; obtain ⟨rfl, rfl⟩ := h; exact of_0 a0 w  (sw h0)
  by_cases h1 : a0.toList = ([99, 117, 116] : List UInt8)
  · rw [if_neg h0, if_pos h1] at h; simp only [Option.some.injEq, Prod.mk.injEq] at h; obtain ⟨rfl, rfl⟩ := h; exact of_1 a0 w (sn h0) (sw h1)
  by_cases h2 : a0.toList = ([112, 114, 105, 99, 101] : List UInt8)
  · rw [if_neg h0, if_neg h1, if_pos h2] at h; simp only [Option.some.injEq, Prod.mk.injEq] at h; obtain ⟨rfl, rfl⟩ := h; exact of_2 a0 w (sn h0) (sn h1) (sw h2)
  by_cases h3 : a0.toList = ([109, 97, 114, 103, 105, 110] : List UInt8)
  · rw [if_neg h0, if_neg h1, if_neg h2, if_pos h3] at h; simp only [Option.some.injEq, Prod.mk.injEq] at h; obtain ⟨rfl, rfl⟩ := h; exact of_3 a0 w (sn h0) (sn h1) (sn h2) (sw h3)
  by_cases h4 : a0.toList = ([115, 101, 116, 116, 108, 101] : List UInt8)
  · rw [if_neg h0, if_neg h1, if_neg h2, if_neg h3, if_pos h4] at h; simp only [Option.some.injEq, Prod.mk.injEq] at h; obtain ⟨rfl, rfl⟩ := h; exact of_4 a0 w (sn h0) (sn h1) (sn h2) (sn h3) (sw h4)
  by_cases h5 : a0.toList = ([99, 108, 111, 115, 101, 100] : List UInt8)
  · rw [if_neg h0, if_neg h1, if_neg h2, if_neg h3, if_neg h4, if_pos h5] at h; simp only [Option.some.injEq, Prod.mk.injEq] at h; obtain ⟨rfl, rfl⟩ := h; exact of_5 a0 w (sn h0) (sn h1) (sn h2) (sn h3) (sn h4) (sw h5)
  rw [if_neg h0, if_neg h1, if_neg h2, if_neg h3, if_neg h4, if_neg h5] at h; simp only [Option.some.injEq, Prod.mk.injEq] at h; obtain ⟨rfl, rfl⟩ := h; exact of_6 a0 w (sn h0) (sn h1) (sn h2) (sn h3) (sn h4) (sn h5)

/-! ### contangolaw07_goes: function 14 -/
def contangolaw07_goes.f (k : Nat)  : Option (Bool) := (phase_Next.f 5).bind fun bt114 => ((phase_Of.f (⟨#[99, 117, 116]⟩ : ByteArray)).bind fun bt116 => (if bt114.1 = 6 then (if bt114.2 = 0 then ((phase_Acts.f k 5).bind fun t118 => ((contangoref07_Same.f k t118 (([7, 8, 10] : List Int))).bind fun t124 => (if t124 = true then (if bt116.1 = 2 then (if bt116.2 = true then ((phase_Ahead.f 2 3).bind fun t125 => (some t125)) else (some false)) else (some false)) else (some false)))) else (some false)) else (some false)))
theorem contangolaw07_goes.mono : ∀ k, LeO (contangolaw07_goes.f k ) (contangolaw07_goes.f (k + 1) ) := by
  intro  k
  unfold contangolaw07_goes.f
  repeat' first
      | (with_reducible exact contangoref07_Same.mono _ _ _)
      | (with_reducible exact phase_Acts.mono _ _)
      | (with_reducible exact LeO.refl _)
      | (with_reducible exact LeO.none _)
      | (with_reducible refine LeO.ite ?_ ?_)
      | (with_reducible refine LeO.bind ?_ (fun _ => ?_))
      | exact contangoref07_Same.mono _ _ _
      | exact phase_Acts.mono _ _
      | exact LeO.none _
      | refine LeO.ite ?_ ?_
      | refine LeO.bind ?_ (fun _ => ?_)
set_option maxHeartbeats 8000000 in
set_option maxRecDepth 100000 in
theorem contangolaw07_goes.calls (k : Nat)  (r : Bool) (w : World) (h : contangolaw07_goes.f k  = some r) :
    Calls Try.prog 14 #[] w fun e w' => e = .returned (.bool r) ∧ Below w.heap.size w w' := by
  have HB := Aside0.mk (Below.refl w.heap.size w)
  have H : ((phase_Next.f 5).bind fun bt114 => ((phase_Of.f (⟨#[99, 117, 116]⟩ : ByteArray)).bind fun bt116 => (if bt114.1 = 6 then (if bt114.2 = 0 then ((phase_Acts.f k 5).bind fun t118 => ((contangoref07_Same.f k t118 (([7, 8, 10] : List Int))).bind fun t124 => (if t124 = true then (if bt116.1 = 2 then (if bt116.2 = true then ((phase_Ahead.f 2 3).bind fun t125 => (some t125)) else (some false)) else (some false)) else (some false)))) else (some false)) else (some false)))) = some r := h
  clear h
  replace H := Option.bind_eq_some_iff.mp H
  obtain ⟨⟨t114, t115⟩, A10, H⟩ := H
  replace H : ((phase_Of.f (⟨#[99, 117, 116]⟩ : ByteArray)).bind fun bt116 => (if t114 = 6 then (if t115 = 0 then ((phase_Acts.f k 5).bind fun t118 => ((contangoref07_Same.f k t118 (([7, 8, 10] : List Int))).bind fun t124 => (if t124 = true then (if bt116.1 = 2 then (if bt116.2 = true then ((phase_Ahead.f 2 3).bind fun t125 => (some t125)) else (some false)) else (some false)) else (some false)))) else (some false)) else (some false))) = some r := H
  have A1 := Aside0.mk A10
  clear A10
  replace H := Option.bind_eq_some_iff.mp H
  obtain ⟨⟨t116, t117⟩, A20, H⟩ := H
  replace H : (if t114 = 6 then (if t115 = 0 then ((phase_Acts.f k 5).bind fun t118 => ((contangoref07_Same.f k t118 (([7, 8, 10] : List Int))).bind fun t124 => (if t124 = true then (if t116 = 2 then (if t117 = true then ((phase_Ahead.f 2 3).bind fun t125 => (some t125)) else (some false)) else (some false)) else (some false)))) else (some false)) else (some false)) = some r := H
  have A2 := Aside0.mk A20
  clear A20
  by_cases c3 : t114 = 6
  · rw [if_pos c3] at H
    have c3b0 : (t114 == 6) = true := beq_iff_eq.mpr c3
    have c3b1 : (t114 != 6) = false := bne_eq_false_iff_eq.mpr c3
    clear c3
    by_cases c4 : t115 = 0
    · rw [if_pos c4] at H
      have c4b0 : (t115 == 0) = true := beq_iff_eq.mpr c4
      have c4b1 : (t115 != 0) = false := bne_eq_false_iff_eq.mpr c4
      clear c4
      replace H := Option.bind_eq_some_iff.mp H
      obtain ⟨t118, A50, H⟩ := H
      replace H : ((contangoref07_Same.f k t118 (([7, 8, 10] : List Int))).bind fun t124 => (if t124 = true then (if t116 = 2 then (if t117 = true then ((phase_Ahead.f 2 3).bind fun t125 => (some t125)) else (some false)) else (some false)) else (some false))) = some r := H
      have A5 := Aside0.mk A50
      clear A50
      obtain ⟨y121, hy121⟩ : ∃ y_ : List Int, y_ = (([7, 8, 10] : List Int)) := ⟨_, rfl⟩
      replace H : ((contangoref07_Same.f k t118 y121).bind fun t124 => (if t124 = true then (if t116 = 2 then (if t117 = true then ((phase_Ahead.f 2 3).bind fun t125 => (some t125)) else (some false)) else (some false)) else (some false))) = some r := by first | (rw [hy121]; with_reducible exact H) | (have H2_ := (Option.bind_some _ _).symm.trans H; rw [hy121]; with_reducible exact H2_) | (have H2_ := (Option.bind_some _ _).symm.trans H; with_reducible exact H2_) | with_reducible exact H | (rw [hy121]; exact H) | exact H
      have Ny121 := Aside0.mk hy121
      clear hy121
      replace H := Option.bind_eq_some_iff.mp H
      obtain ⟨t124, A60, H⟩ := H
      replace H : (if t124 = true then (if t116 = 2 then (if t117 = true then ((phase_Ahead.f 2 3).bind fun t125 => (some t125)) else (some false)) else (some false)) else (some false)) = some r := H
      have A6 := Aside0.mk A60
      clear A60
      by_cases c7 : t124 = true
      · subst c7
        have H1 : (if t116 = 2 then (if t117 = true then ((phase_Ahead.f 2 3).bind fun t125 => (some t125)) else (some false)) else (some false)) = some r := by rw [if_pos rfl] at H; exact H
        clear H
        have H := H1
        clear H1
        by_cases c8 : t116 = 2
        · rw [if_pos c8] at H
          have c8b0 : (t116 == 2) = true := beq_iff_eq.mpr c8
          have c8b1 : (t116 != 2) = false := bne_eq_false_iff_eq.mpr c8
          clear c8
          by_cases c9 : t117 = true
          · subst c9
            have H1 : ((phase_Ahead.f 2 3).bind fun t125 => (some t125)) = some r := by rw [if_pos rfl] at H; exact H
            clear H
            have H := H1
            clear H1
            replace H := Option.bind_eq_some_iff.mp H
            obtain ⟨t125, A100, H⟩ := H
            replace H : (some t125) = some r := H
            have A10 := Aside0.mk A100
            clear A100
            obtain rfl := Option.some.inj H
            go_enter Try.func14, Try.ntmps14
            go_wp2_with (first | ((with_reducible refine gate_callee (f := 8) rfl ?_); refine goesL_ (some 6) rfl rfl Try.func8 (by kernel_rfl) rfl #[.int .i64 5] rfl (by (try simp only [List.map_toArray, List.map_cons, List.map_nil]); first | done | rfl | (simp only [List.length_drop, List.length_take]; rfl)) ?_; (with_reducible refine (phase_Next.calls 5 t114 t115 _ A1.out).mono ?_); rintro e w' ⟨rfl, ⟨nd, rfl⟩⟩; refine ⟨_, rfl, ?_⟩) | ((with_reducible refine gate_callee (f := 20) rfl ?_); refine goesL_ (some 10) rfl rfl Try.func20 (by kernel_rfl) rfl #[.string (⟨#[99, 117, 116]⟩ : ByteArray)] rfl (by (try simp only [List.map_toArray, List.map_cons, List.map_nil]); first | done | rfl | (simp only [List.length_drop, List.length_take]; rfl)) ?_; (with_reducible refine (phase_Of.calls (⟨#[99, 117, 116]⟩ : ByteArray) t116 true _ A2.out).mono ?_); rintro e w11 ⟨rfl, hb⟩; refine ⟨_, rfl, ?_⟩; have n0_ := Aside0.mk (below_step (by repeat (first | (with_reducible first | exact HB.out | apply below_alloc | apply pw_below_drewN | apply below_drew1) | exact HB.out)) hb); clear HB; have HB := n0_; clear n0_; (try clear hb); (try clear hb2); (try clear hk); (try clear hi)) | (go_at_call 15; (with_reducible refine (phase_Acts.calls k 5 t118 _ A5.out).mono ?_); rintro e w12 ⟨v119, rfl, ho0, hb⟩; have n0_ := Aside0.mk (Kd.R_lower ho0 (below_size (by repeat (first | (with_reducible first | exact HB.out | apply below_alloc | apply pw_below_drewN | apply below_drew1) | exact HB.out)))); have n1_ := Aside0.mk (below_step (by repeat (first | (with_reducible first | exact HB.out | apply below_alloc | apply pw_below_drewN | apply below_drew1) | exact HB.out)) hb); clear HB; have HO120 := n0_; have HB := n1_; clear n0_ n1_; (try clear hb); (try clear hb2); (try clear hk); (try clear hi); (try clear ho0)) | ((with_reducible refine gate_dst (N := 21) rfl ?_); (try (refine gate_guard (by rfl) ?_; dsimp only)); refine Kd.R_lit (Kd.int .i64) _ 3 ?hg (N := 21) ?hd (xs := ([7, 8, 10] : List Int)) (inner := [.int .i64 7, .int .i64 8, .int .i64 10]) (ok := fun _ => True) (okp := fun _ => True) ?hr ?hp (fun _ hk => hk) trivial (Below.refl _ _) (Nat.le_refl _) (by simp) ?_; (case hd => rfl); (case hg => rfl); (case hr => first | (go_simp; done) | (go_simp; rfl)); (case hp => exact (Reps.one (show Kd.M (Kd.int .i64) _ _ _ 7 [.int .i64 7] from rfl) (Reps.one (show Kd.M (Kd.int .i64) _ _ _ 8 [.int .i64 8] from rfl) (Reps.one (show Kd.M (Kd.int .i64) _ _ _ 10 [.int .i64 10] from rfl) (Reps.none _ _))))); intro v122 w13 ho14 hb hg_ hnew_; clear hg_ hnew_; (first | rw [← Ny121.out] at ho14 | (simp only [Int.reduceToNat] at ho14; rw [← Ny121.out] at ho14)); have n0_ := Aside0.mk (Kd.R_elder' (by (with_reducible repeat (first | apply Kd.R_alloc | apply Kd.R_drewN | apply Kd.R_drew)); exact HO120.out) (Kd.R_base ho14) hb); have n1_ := Aside0.mk (Kd.R_lower (Kd.R_new' ho14 (Kd.R_lt (by (with_reducible repeat (first | apply Kd.R_alloc | apply Kd.R_drewN | apply Kd.R_drew)); exact HO120.out))) (below_size (by repeat (first | (with_reducible first | exact HB.out | apply below_alloc | apply pw_below_drewN | apply below_drew1) | exact HB.out)))); have n2_ := Aside0.mk (below_step (by repeat (first | (with_reducible first | exact HB.out | apply below_alloc | apply pw_below_drewN | apply below_drew1) | exact HB.out)) hb); clear HO120; clear HB; have HO120 := n0_; have HO123 := n1_; have HB := n2_; clear n0_ n1_ n2_; clear hb ho14; obtain ⟨Ao15, co15, eo15⟩ := Kd.R_slice HO120.out; subst eo15; obtain ⟨Ao16, co16, eo16⟩ := Kd.R_slice HO123.out; subst eo16) | (go_at_call 17; (with_reducible refine (contangoref07_Same.calls k _ _ t118 _ _ y121 true _ ?side1 ?side2 ?side3 ?side4 A6.out).mono ?_); (case side1 => repeat (first | exact (Kd.R_reads' HO120.out).2.2 | (with_reducible refine Kd.C_alloc ?_ _) | (with_reducible refine Kd.C_drewN ?_ _) | (with_reducible refine Kd.C_drew ?_))); (case side2 => exact (Kd.R_reads' HO120.out).2.1); (case side3 => repeat (first | exact (Kd.R_reads' HO123.out).2.2 | (with_reducible refine Kd.C_alloc ?_ _) | (with_reducible refine Kd.C_drewN ?_ _) | (with_reducible refine Kd.C_drew ?_))); (case side4 => exact (Kd.R_reads' HO123.out).2.1); rintro e w' ⟨rfl, ⟨nd, rfl⟩⟩) | (go_at_call 12; (with_reducible refine (phase_Ahead.calls 2 3 t125 _ A10.out).mono ?_); rintro e w' ⟨rfl, ⟨nd, rfl⟩⟩))
            go_ret
            exact ⟨by first | rfl | (simp [errW_none, errW_some] <;> rfl) | (simp [*, errW_none, errW_some] <;> rfl), by repeat (first | (with_reducible first | exact HB.out | apply below_alloc | apply pw_below_drewN | apply below_drew1) | exact HB.out)⟩
          · replace c9 := Bool.eq_false_iff.mpr c9
            subst c9
            have H1 : (some false) = some r := by rw [if_neg (show ¬ (false = true) by decide)] at H; exact H
            clear H
            have H := H1
            clear H1
            obtain rfl := Option.some.inj H
            go_enter Try.func14, Try.ntmps14
            go_wp2_with (first | ((with_reducible refine gate_callee (f := 8) rfl ?_); refine goesL_ (some 6) rfl rfl Try.func8 (by kernel_rfl) rfl #[.int .i64 5] rfl (by (try simp only [List.map_toArray, List.map_cons, List.map_nil]); first | done | rfl | (simp only [List.length_drop, List.length_take]; rfl)) ?_; (with_reducible refine (phase_Next.calls 5 t114 t115 _ A1.out).mono ?_); rintro e w' ⟨rfl, ⟨nd, rfl⟩⟩; refine ⟨_, rfl, ?_⟩) | ((with_reducible refine gate_callee (f := 20) rfl ?_); refine goesL_ (some 10) rfl rfl Try.func20 (by kernel_rfl) rfl #[.string (⟨#[99, 117, 116]⟩ : ByteArray)] rfl (by (try simp only [List.map_toArray, List.map_cons, List.map_nil]); first | done | rfl | (simp only [List.length_drop, List.length_take]; rfl)) ?_; (with_reducible refine (phase_Of.calls (⟨#[99, 117, 116]⟩ : ByteArray) t116 false _ A2.out).mono ?_); rintro e w17 ⟨rfl, hb⟩; refine ⟨_, rfl, ?_⟩; have n0_ := Aside0.mk (below_step (by repeat (first | (with_reducible first | exact HB.out | apply below_alloc | apply pw_below_drewN | apply below_drew1) | exact HB.out)) hb); clear HB; have HB := n0_; clear n0_; (try clear hb); (try clear hb2); (try clear hk); (try clear hi)) | (go_at_call 15; (with_reducible refine (phase_Acts.calls k 5 t118 _ A5.out).mono ?_); rintro e w18 ⟨v119, rfl, ho0, hb⟩; have n0_ := Aside0.mk (Kd.R_lower ho0 (below_size (by repeat (first | (with_reducible first | exact HB.out | apply below_alloc | apply pw_below_drewN | apply below_drew1) | exact HB.out)))); have n1_ := Aside0.mk (below_step (by repeat (first | (with_reducible first | exact HB.out | apply below_alloc | apply pw_below_drewN | apply below_drew1) | exact HB.out)) hb); clear HB; have HO120 := n0_; have HB := n1_; clear n0_ n1_; (try clear hb); (try clear hb2); (try clear hk); (try clear hi); (try clear ho0)) | ((with_reducible refine gate_dst (N := 21) rfl ?_); (try (refine gate_guard (by rfl) ?_; dsimp only)); refine Kd.R_lit (Kd.int .i64) _ 3 ?hg (N := 21) ?hd (xs := ([7, 8, 10] : List Int)) (inner := [.int .i64 7, .int .i64 8, .int .i64 10]) (ok := fun _ => True) (okp := fun _ => True) ?hr ?hp (fun _ hk => hk) trivial (Below.refl _ _) (Nat.le_refl _) (by simp) ?_; (case hd => rfl); (case hg => rfl); (case hr => first | (go_simp; done) | (go_simp; rfl)); (case hp => exact (Reps.one (show Kd.M (Kd.int .i64) _ _ _ 7 [.int .i64 7] from rfl) (Reps.one (show Kd.M (Kd.int .i64) _ _ _ 8 [.int .i64 8] from rfl) (Reps.one (show Kd.M (Kd.int .i64) _ _ _ 10 [.int .i64 10] from rfl) (Reps.none _ _))))); intro v122 w19 ho20 hb hg_ hnew_; clear hg_ hnew_; (first | rw [← Ny121.out] at ho20 | (simp only [Int.reduceToNat] at ho20; rw [← Ny121.out] at ho20)); have n0_ := Aside0.mk (Kd.R_elder' (by (with_reducible repeat (first | apply Kd.R_alloc | apply Kd.R_drewN | apply Kd.R_drew)); exact HO120.out) (Kd.R_base ho20) hb); have n1_ := Aside0.mk (Kd.R_lower (Kd.R_new' ho20 (Kd.R_lt (by (with_reducible repeat (first | apply Kd.R_alloc | apply Kd.R_drewN | apply Kd.R_drew)); exact HO120.out))) (below_size (by repeat (first | (with_reducible first | exact HB.out | apply below_alloc | apply pw_below_drewN | apply below_drew1) | exact HB.out)))); have n2_ := Aside0.mk (below_step (by repeat (first | (with_reducible first | exact HB.out | apply below_alloc | apply pw_below_drewN | apply below_drew1) | exact HB.out)) hb); clear HO120; clear HB; have HO120 := n0_; have HO123 := n1_; have HB := n2_; clear n0_ n1_ n2_; clear hb ho20; obtain ⟨Ao21, co21, eo21⟩ := Kd.R_slice HO120.out; subst eo21; obtain ⟨Ao22, co22, eo22⟩ := Kd.R_slice HO123.out; subst eo22) | (go_at_call 17; (with_reducible refine (contangoref07_Same.calls k _ _ t118 _ _ y121 true _ ?side1 ?side2 ?side3 ?side4 A6.out).mono ?_); (case side1 => repeat (first | exact (Kd.R_reads' HO120.out).2.2 | (with_reducible refine Kd.C_alloc ?_ _) | (with_reducible refine Kd.C_drewN ?_ _) | (with_reducible refine Kd.C_drew ?_))); (case side2 => exact (Kd.R_reads' HO120.out).2.1); (case side3 => repeat (first | exact (Kd.R_reads' HO123.out).2.2 | (with_reducible refine Kd.C_alloc ?_ _) | (with_reducible refine Kd.C_drewN ?_ _) | (with_reducible refine Kd.C_drew ?_))); (case side4 => exact (Kd.R_reads' HO123.out).2.1); rintro e w' ⟨rfl, ⟨nd, rfl⟩⟩))
            go_ret
            exact ⟨by first | rfl | (simp [errW_none, errW_some] <;> rfl) | (simp [*, errW_none, errW_some] <;> rfl), by repeat (first | (with_reducible first | exact HB.out | apply below_alloc | apply pw_below_drewN | apply below_drew1) | exact HB.out)⟩
        · rw [if_neg c8] at H
          have c8b0 : (t116 == 2) = false := beq_eq_false_iff_ne.mpr c8
          have c8b1 : (t116 != 2) = true := bne_iff_ne.mpr c8
          obtain rfl := Option.some.inj H
          go_enter Try.func14, Try.ntmps14
          go_wp2_with (first | ((with_reducible refine gate_callee (f := 8) rfl ?_); refine goesL_ (some 6) rfl rfl Try.func8 (by kernel_rfl) rfl #[.int .i64 5] rfl (by (try simp only [List.map_toArray, List.map_cons, List.map_nil]); first | done | rfl | (simp only [List.length_drop, List.length_take]; rfl)) ?_; (with_reducible refine (phase_Next.calls 5 t114 t115 _ A1.out).mono ?_); rintro e w' ⟨rfl, ⟨nd, rfl⟩⟩; refine ⟨_, rfl, ?_⟩) | ((with_reducible refine gate_callee (f := 20) rfl ?_); refine goesL_ (some 10) rfl rfl Try.func20 (by kernel_rfl) rfl #[.string (⟨#[99, 117, 116]⟩ : ByteArray)] rfl (by (try simp only [List.map_toArray, List.map_cons, List.map_nil]); first | done | rfl | (simp only [List.length_drop, List.length_take]; rfl)) ?_; (with_reducible refine (phase_Of.calls (⟨#[99, 117, 116]⟩ : ByteArray) t116 t117 _ A2.out).mono ?_); rintro e w23 ⟨rfl, hb⟩; refine ⟨_, rfl, ?_⟩; have n0_ := Aside0.mk (below_step (by repeat (first | (with_reducible first | exact HB.out | apply below_alloc | apply pw_below_drewN | apply below_drew1) | exact HB.out)) hb); clear HB; have HB := n0_; clear n0_; (try clear hb); (try clear hb2); (try clear hk); (try clear hi)) | (go_at_call 15; (with_reducible refine (phase_Acts.calls k 5 t118 _ A5.out).mono ?_); rintro e w24 ⟨v119, rfl, ho0, hb⟩; have n0_ := Aside0.mk (Kd.R_lower ho0 (below_size (by repeat (first | (with_reducible first | exact HB.out | apply below_alloc | apply pw_below_drewN | apply below_drew1) | exact HB.out)))); have n1_ := Aside0.mk (below_step (by repeat (first | (with_reducible first | exact HB.out | apply below_alloc | apply pw_below_drewN | apply below_drew1) | exact HB.out)) hb); clear HB; have HO120 := n0_; have HB := n1_; clear n0_ n1_; (try clear hb); (try clear hb2); (try clear hk); (try clear hi); (try clear ho0)) | ((with_reducible refine gate_dst (N := 21) rfl ?_); (try (refine gate_guard (by rfl) ?_; dsimp only)); refine Kd.R_lit (Kd.int .i64) _ 3 ?hg (N := 21) ?hd (xs := ([7, 8, 10] : List Int)) (inner := [.int .i64 7, .int .i64 8, .int .i64 10]) (ok := fun _ => True) (okp := fun _ => True) ?hr ?hp (fun _ hk => hk) trivial (Below.refl _ _) (Nat.le_refl _) (by simp) ?_; (case hd => rfl); (case hg => rfl); (case hr => first | (go_simp; done) | (go_simp; rfl)); (case hp => exact (Reps.one (show Kd.M (Kd.int .i64) _ _ _ 7 [.int .i64 7] from rfl) (Reps.one (show Kd.M (Kd.int .i64) _ _ _ 8 [.int .i64 8] from rfl) (Reps.one (show Kd.M (Kd.int .i64) _ _ _ 10 [.int .i64 10] from rfl) (Reps.none _ _))))); intro v122 w25 ho26 hb hg_ hnew_; clear hg_ hnew_; (first | rw [← Ny121.out] at ho26 | (simp only [Int.reduceToNat] at ho26; rw [← Ny121.out] at ho26)); have n0_ := Aside0.mk (Kd.R_elder' (by (with_reducible repeat (first | apply Kd.R_alloc | apply Kd.R_drewN | apply Kd.R_drew)); exact HO120.out) (Kd.R_base ho26) hb); have n1_ := Aside0.mk (Kd.R_lower (Kd.R_new' ho26 (Kd.R_lt (by (with_reducible repeat (first | apply Kd.R_alloc | apply Kd.R_drewN | apply Kd.R_drew)); exact HO120.out))) (below_size (by repeat (first | (with_reducible first | exact HB.out | apply below_alloc | apply pw_below_drewN | apply below_drew1) | exact HB.out)))); have n2_ := Aside0.mk (below_step (by repeat (first | (with_reducible first | exact HB.out | apply below_alloc | apply pw_below_drewN | apply below_drew1) | exact HB.out)) hb); clear HO120; clear HB; have HO120 := n0_; have HO123 := n1_; have HB := n2_; clear n0_ n1_ n2_; clear hb ho26; obtain ⟨Ao27, co27, eo27⟩ := Kd.R_slice HO120.out; subst eo27; obtain ⟨Ao28, co28, eo28⟩ := Kd.R_slice HO123.out; subst eo28) | (go_at_call 17; (with_reducible refine (contangoref07_Same.calls k _ _ t118 _ _ y121 true _ ?side1 ?side2 ?side3 ?side4 A6.out).mono ?_); (case side1 => repeat (first | exact (Kd.R_reads' HO120.out).2.2 | (with_reducible refine Kd.C_alloc ?_ _) | (with_reducible refine Kd.C_drewN ?_ _) | (with_reducible refine Kd.C_drew ?_))); (case side2 => exact (Kd.R_reads' HO120.out).2.1); (case side3 => repeat (first | exact (Kd.R_reads' HO123.out).2.2 | (with_reducible refine Kd.C_alloc ?_ _) | (with_reducible refine Kd.C_drewN ?_ _) | (with_reducible refine Kd.C_drew ?_))); (case side4 => exact (Kd.R_reads' HO123.out).2.1); rintro e w' ⟨rfl, ⟨nd, rfl⟩⟩))
          go_ret
          exact ⟨by first | rfl | (simp [errW_none, errW_some] <;> rfl) | (simp [*, errW_none, errW_some] <;> rfl), by repeat (first | (with_reducible first | exact HB.out | apply below_alloc | apply pw_below_drewN | apply below_drew1) | exact HB.out)⟩
      · replace c7 := Bool.eq_false_iff.mpr c7
        subst c7
        have H1 : (some false) = some r := by rw [if_neg (show ¬ (false = true) by decide)] at H; exact H
        clear H
        have H := H1
        clear H1
        obtain rfl := Option.some.inj H
        go_enter Try.func14, Try.ntmps14
        go_wp2_with (first | ((with_reducible refine gate_callee (f := 8) rfl ?_); refine goesL_ (some 6) rfl rfl Try.func8 (by kernel_rfl) rfl #[.int .i64 5] rfl (by (try simp only [List.map_toArray, List.map_cons, List.map_nil]); first | done | rfl | (simp only [List.length_drop, List.length_take]; rfl)) ?_; (with_reducible refine (phase_Next.calls 5 t114 t115 _ A1.out).mono ?_); rintro e w' ⟨rfl, ⟨nd, rfl⟩⟩; refine ⟨_, rfl, ?_⟩) | ((with_reducible refine gate_callee (f := 20) rfl ?_); refine goesL_ (some 10) rfl rfl Try.func20 (by kernel_rfl) rfl #[.string (⟨#[99, 117, 116]⟩ : ByteArray)] rfl (by (try simp only [List.map_toArray, List.map_cons, List.map_nil]); first | done | rfl | (simp only [List.length_drop, List.length_take]; rfl)) ?_; (with_reducible refine (phase_Of.calls (⟨#[99, 117, 116]⟩ : ByteArray) t116 t117 _ A2.out).mono ?_); rintro e w29 ⟨rfl, hb⟩; refine ⟨_, rfl, ?_⟩; have n0_ := Aside0.mk (below_step (by repeat (first | (with_reducible first | exact HB.out | apply below_alloc | apply pw_below_drewN | apply below_drew1) | exact HB.out)) hb); clear HB; have HB := n0_; clear n0_; (try clear hb); (try clear hb2); (try clear hk); (try clear hi)) | (go_at_call 15; (with_reducible refine (phase_Acts.calls k 5 t118 _ A5.out).mono ?_); rintro e w30 ⟨v119, rfl, ho0, hb⟩; have n0_ := Aside0.mk (Kd.R_lower ho0 (below_size (by repeat (first | (with_reducible first | exact HB.out | apply below_alloc | apply pw_below_drewN | apply below_drew1) | exact HB.out)))); have n1_ := Aside0.mk (below_step (by repeat (first | (with_reducible first | exact HB.out | apply below_alloc | apply pw_below_drewN | apply below_drew1) | exact HB.out)) hb); clear HB; have HO120 := n0_; have HB := n1_; clear n0_ n1_; (try clear hb); (try clear hb2); (try clear hk); (try clear hi); (try clear ho0)) | ((with_reducible refine gate_dst (N := 21) rfl ?_); (try (refine gate_guard (by rfl) ?_; dsimp only)); refine Kd.R_lit (Kd.int .i64) _ 3 ?hg (N := 21) ?hd (xs := ([7, 8, 10] : List Int)) (inner := [.int .i64 7, .int .i64 8, .int .i64 10]) (ok := fun _ => True) (okp := fun _ => True) ?hr ?hp (fun _ hk => hk) trivial (Below.refl _ _) (Nat.le_refl _) (by simp) ?_; (case hd => rfl); (case hg => rfl); (case hr => first | (go_simp; done) | (go_simp; rfl)); (case hp => exact (Reps.one (show Kd.M (Kd.int .i64) _ _ _ 7 [.int .i64 7] from rfl) (Reps.one (show Kd.M (Kd.int .i64) _ _ _ 8 [.int .i64 8] from rfl) (Reps.one (show Kd.M (Kd.int .i64) _ _ _ 10 [.int .i64 10] from rfl) (Reps.none _ _))))); intro v122 w31 ho32 hb hg_ hnew_; clear hg_ hnew_; (first | rw [← Ny121.out] at ho32 | (simp only [Int.reduceToNat] at ho32; rw [← Ny121.out] at ho32)); have n0_ := Aside0.mk (Kd.R_elder' (by (with_reducible repeat (first | apply Kd.R_alloc | apply Kd.R_drewN | apply Kd.R_drew)); exact HO120.out) (Kd.R_base ho32) hb); have n1_ := Aside0.mk (Kd.R_lower (Kd.R_new' ho32 (Kd.R_lt (by (with_reducible repeat (first | apply Kd.R_alloc | apply Kd.R_drewN | apply Kd.R_drew)); exact HO120.out))) (below_size (by repeat (first | (with_reducible first | exact HB.out | apply below_alloc | apply pw_below_drewN | apply below_drew1) | exact HB.out)))); have n2_ := Aside0.mk (below_step (by repeat (first | (with_reducible first | exact HB.out | apply below_alloc | apply pw_below_drewN | apply below_drew1) | exact HB.out)) hb); clear HO120; clear HB; have HO120 := n0_; have HO123 := n1_; have HB := n2_; clear n0_ n1_ n2_; clear hb ho32; obtain ⟨Ao33, co33, eo33⟩ := Kd.R_slice HO120.out; subst eo33; obtain ⟨Ao34, co34, eo34⟩ := Kd.R_slice HO123.out; subst eo34) | (go_at_call 17; (with_reducible refine (contangoref07_Same.calls k _ _ t118 _ _ y121 false _ ?side1 ?side2 ?side3 ?side4 A6.out).mono ?_); (case side1 => repeat (first | exact (Kd.R_reads' HO120.out).2.2 | (with_reducible refine Kd.C_alloc ?_ _) | (with_reducible refine Kd.C_drewN ?_ _) | (with_reducible refine Kd.C_drew ?_))); (case side2 => exact (Kd.R_reads' HO120.out).2.1); (case side3 => repeat (first | exact (Kd.R_reads' HO123.out).2.2 | (with_reducible refine Kd.C_alloc ?_ _) | (with_reducible refine Kd.C_drewN ?_ _) | (with_reducible refine Kd.C_drew ?_))); (case side4 => exact (Kd.R_reads' HO123.out).2.1); rintro e w' ⟨rfl, ⟨nd, rfl⟩⟩))
        go_ret
        exact ⟨by first | rfl | (simp [errW_none, errW_some] <;> rfl) | (simp [*, errW_none, errW_some] <;> rfl), by repeat (first | (with_reducible first | exact HB.out | apply below_alloc | apply pw_below_drewN | apply below_drew1) | exact HB.out)⟩
    · rw [if_neg c4] at H
      have c4b0 : (t115 == 0) = false := beq_eq_false_iff_ne.mpr c4
      have c4b1 : (t115 != 0) = true := bne_iff_ne.mpr c4
      obtain rfl := Option.some.inj H
      go_enter Try.func14, Try.ntmps14
      go_wp2_with (first | ((with_reducible refine gate_callee (f := 8) rfl ?_); refine goesL_ (some 6) rfl rfl Try.func8 (by kernel_rfl) rfl #[.int .i64 5] rfl (by (try simp only [List.map_toArray, List.map_cons, List.map_nil]); first | done | rfl | (simp only [List.length_drop, List.length_take]; rfl)) ?_; (with_reducible refine (phase_Next.calls 5 t114 t115 _ A1.out).mono ?_); rintro e w' ⟨rfl, ⟨nd, rfl⟩⟩; refine ⟨_, rfl, ?_⟩) | ((with_reducible refine gate_callee (f := 20) rfl ?_); refine goesL_ (some 10) rfl rfl Try.func20 (by kernel_rfl) rfl #[.string (⟨#[99, 117, 116]⟩ : ByteArray)] rfl (by (try simp only [List.map_toArray, List.map_cons, List.map_nil]); first | done | rfl | (simp only [List.length_drop, List.length_take]; rfl)) ?_; (with_reducible refine (phase_Of.calls (⟨#[99, 117, 116]⟩ : ByteArray) t116 t117 _ A2.out).mono ?_); rintro e w35 ⟨rfl, hb⟩; refine ⟨_, rfl, ?_⟩; have n0_ := Aside0.mk (below_step (by repeat (first | (with_reducible first | exact HB.out | apply below_alloc | apply pw_below_drewN | apply below_drew1) | exact HB.out)) hb); clear HB; have HB := n0_; clear n0_; (try clear hb); (try clear hb2); (try clear hk); (try clear hi)))
      go_ret
      exact ⟨by first | rfl | (simp [errW_none, errW_some] <;> rfl) | (simp [*, errW_none, errW_some] <;> rfl), by repeat (first | (with_reducible first | exact HB.out | apply below_alloc | apply pw_below_drewN | apply below_drew1) | exact HB.out)⟩
  · rw [if_neg c3] at H
    have c3b0 : (t114 == 6) = false := beq_eq_false_iff_ne.mpr c3
    have c3b1 : (t114 != 6) = true := bne_iff_ne.mpr c3
    obtain rfl := Option.some.inj H
    go_enter Try.func14, Try.ntmps14
    go_wp2_with (first | ((with_reducible refine gate_callee (f := 8) rfl ?_); refine goesL_ (some 6) rfl rfl Try.func8 (by kernel_rfl) rfl #[.int .i64 5] rfl (by (try simp only [List.map_toArray, List.map_cons, List.map_nil]); first | done | rfl | (simp only [List.length_drop, List.length_take]; rfl)) ?_; (with_reducible refine (phase_Next.calls 5 t114 t115 _ A1.out).mono ?_); rintro e w' ⟨rfl, ⟨nd, rfl⟩⟩; refine ⟨_, rfl, ?_⟩) | ((with_reducible refine gate_callee (f := 20) rfl ?_); refine goesL_ (some 10) rfl rfl Try.func20 (by kernel_rfl) rfl #[.string (⟨#[99, 117, 116]⟩ : ByteArray)] rfl (by (try simp only [List.map_toArray, List.map_cons, List.map_nil]); first | done | rfl | (simp only [List.length_drop, List.length_take]; rfl)) ?_; (with_reducible refine (phase_Of.calls (⟨#[99, 117, 116]⟩ : ByteArray) t116 t117 _ A2.out).mono ?_); rintro e w36 ⟨rfl, hb⟩; refine ⟨_, rfl, ?_⟩; have n0_ := Aside0.mk (below_step (by repeat (first | (with_reducible first | exact HB.out | apply below_alloc | apply pw_below_drewN | apply below_drew1) | exact HB.out)) hb); clear HB; have HB := n0_; clear n0_; (try clear hb); (try clear hb2); (try clear hk); (try clear hi)))
    go_ret
    exact ⟨by first | rfl | (simp [errW_none, errW_some] <;> rfl) | (simp [*, errW_none, errW_some] <;> rfl), by repeat (first | (with_reducible first | exact HB.out | apply below_alloc | apply pw_below_drewN | apply below_drew1) | exact HB.out)⟩

/-! ### contangolaw07_PhaseNexts: function 3 -/
def contangolaw07_PhaseNexts.f (k : Nat) (a0 : Int) (a1 : Int) : Option (Bool) := (phase_Next.f a0).bind fun bt126 => ((contangoref07_Next.f a0).bind fun bt128 => ((phase_Right.f a0).bind fun t130 => ((contangoref07_Right.f a0).bind fun t131 => (if (t130 == t131) = true then (if bt126.1 = bt128.1 then (if bt126.2 = bt128.2 then ((phase_Ahead.f a0 a1).bind fun t132 => ((contangoref07_Ahead.f a0 a1).bind fun t133 => (if (t132 == t133) = true then ((contangolaw07_goes.f k).bind fun t134 => (some t134)) else (some false)))) else (some false)) else (some false)) else (some false)))))
theorem contangolaw07_PhaseNexts.mono : ∀ a0 a1 k, LeO (contangolaw07_PhaseNexts.f k a0 a1) (contangolaw07_PhaseNexts.f (k + 1) a0 a1) := by
  intro a0 a1 k
  unfold contangolaw07_PhaseNexts.f
  repeat' first
      | (with_reducible exact contangolaw07_goes.mono _)
      | (with_reducible exact LeO.refl _)
      | (with_reducible exact LeO.none _)
      | (with_reducible refine LeO.ite ?_ ?_)
      | (with_reducible refine LeO.bind ?_ (fun _ => ?_))
      | exact contangolaw07_goes.mono _
      | exact LeO.none _
      | refine LeO.ite ?_ ?_
      | refine LeO.bind ?_ (fun _ => ?_)
set_option maxHeartbeats 8000000 in
set_option maxRecDepth 100000 in
theorem contangolaw07_PhaseNexts.calls (k : Nat) (a0 : Int) (a1 : Int) (r : Bool) (w : World) (h : contangolaw07_PhaseNexts.f k a0 a1 = some r) :
    Calls Try.prog 3 #[.int .i64 a0, .int .i64 a1] w fun e w' => e = .returned (.bool r) ∧ Below w.heap.size w w' := by
  have HB := Aside0.mk (Below.refl w.heap.size w)
  have H : ((phase_Next.f a0).bind fun bt126 => ((contangoref07_Next.f a0).bind fun bt128 => ((phase_Right.f a0).bind fun t130 => ((contangoref07_Right.f a0).bind fun t131 => (if (t130 == t131) = true then (if bt126.1 = bt128.1 then (if bt126.2 = bt128.2 then ((phase_Ahead.f a0 a1).bind fun t132 => ((contangoref07_Ahead.f a0 a1).bind fun t133 => (if (t132 == t133) = true then ((contangolaw07_goes.f k).bind fun t134 => (some t134)) else (some false)))) else (some false)) else (some false)) else (some false)))))) = some r := h
  clear h
  replace H := Option.bind_eq_some_iff.mp H
  obtain ⟨⟨t126, t127⟩, A30, H⟩ := H
  replace H : ((contangoref07_Next.f a0).bind fun bt128 => ((phase_Right.f a0).bind fun t130 => ((contangoref07_Right.f a0).bind fun t131 => (if (t130 == t131) = true then (if t126 = bt128.1 then (if t127 = bt128.2 then ((phase_Ahead.f a0 a1).bind fun t132 => ((contangoref07_Ahead.f a0 a1).bind fun t133 => (if (t132 == t133) = true then ((contangolaw07_goes.f k).bind fun t134 => (some t134)) else (some false)))) else (some false)) else (some false)) else (some false))))) = some r := H
  have A3 := Aside0.mk A30
  clear A30
  replace H := Option.bind_eq_some_iff.mp H
  obtain ⟨⟨t128, t129⟩, A40, H⟩ := H
  replace H : ((phase_Right.f a0).bind fun t130 => ((contangoref07_Right.f a0).bind fun t131 => (if (t130 == t131) = true then (if t126 = t128 then (if t127 = t129 then ((phase_Ahead.f a0 a1).bind fun t132 => ((contangoref07_Ahead.f a0 a1).bind fun t133 => (if (t132 == t133) = true then ((contangolaw07_goes.f k).bind fun t134 => (some t134)) else (some false)))) else (some false)) else (some false)) else (some false)))) = some r := H
  have A4 := Aside0.mk A40
  clear A40
  replace H := Option.bind_eq_some_iff.mp H
  obtain ⟨t130, A50, H⟩ := H
  replace H : ((contangoref07_Right.f a0).bind fun t131 => (if (t130 == t131) = true then (if t126 = t128 then (if t127 = t129 then ((phase_Ahead.f a0 a1).bind fun t132 => ((contangoref07_Ahead.f a0 a1).bind fun t133 => (if (t132 == t133) = true then ((contangolaw07_goes.f k).bind fun t134 => (some t134)) else (some false)))) else (some false)) else (some false)) else (some false))) = some r := H
  have A5 := Aside0.mk A50
  clear A50
  replace H := Option.bind_eq_some_iff.mp H
  obtain ⟨t131, A60, H⟩ := H
  replace H : (if (t130 == t131) = true then (if t126 = t128 then (if t127 = t129 then ((phase_Ahead.f a0 a1).bind fun t132 => ((contangoref07_Ahead.f a0 a1).bind fun t133 => (if (t132 == t133) = true then ((contangolaw07_goes.f k).bind fun t134 => (some t134)) else (some false)))) else (some false)) else (some false)) else (some false)) = some r := H
  have A6 := Aside0.mk A60
  clear A60
  by_cases c7 : (t130 == t131) = true
  · rw [if_pos c7] at H
    have c7b0 : (t130 == t131) = true := c7
    (try (have c7b1 : decide (t130 = t131) = true := by simpa using c7))
    (try (have c7b2 : (t130 == t131) = true := by simpa using c7))
    clear c7
    by_cases c8 : t126 = t128
    · rw [if_pos c8] at H
      have c8b0 : (t126 == t128) = true := beq_iff_eq.mpr c8
      have c8b1 : (t126 != t128) = false := bne_eq_false_iff_eq.mpr c8
      clear c8
      by_cases c9 : t127 = t129
      · rw [if_pos c9] at H
        have c9b0 : (t127 == t129) = true := beq_iff_eq.mpr c9
        have c9b1 : (t127 != t129) = false := bne_eq_false_iff_eq.mpr c9
        clear c9
        replace H := Option.bind_eq_some_iff.mp H
        obtain ⟨t132, A100, H⟩ := H
        replace H : ((contangoref07_Ahead.f a0 a1).bind fun t133 => (if (t132 == t133) = true then ((contangolaw07_goes.f k).bind fun t134 => (some t134)) else (some false))) = some r := H
        have A10 := Aside0.mk A100
        clear A100
        replace H := Option.bind_eq_some_iff.mp H
        obtain ⟨t133, A110, H⟩ := H
        replace H : (if (t132 == t133) = true then ((contangolaw07_goes.f k).bind fun t134 => (some t134)) else (some false)) = some r := H
        have A11 := Aside0.mk A110
        clear A110
        by_cases c12 : (t132 == t133) = true
        · rw [if_pos c12] at H
          have c12b0 : (t132 == t133) = true := c12
          (try (have c12b1 : decide (t132 = t133) = true := by simpa using c12))
          (try (have c12b2 : (t132 == t133) = true := by simpa using c12))
          clear c12
          replace H := Option.bind_eq_some_iff.mp H
          obtain ⟨t134, A130, H⟩ := H
          replace H : (some t134) = some r := H
          have A13 := Aside0.mk A130
          clear A130
          obtain rfl := Option.some.inj H
          go_enter Try.func3, Try.ntmps3
          go_wp2_with (first | ((with_reducible refine gate_callee (f := 8) rfl ?_); refine goesL_ (some 11) rfl rfl Try.func8 (by kernel_rfl) rfl #[.int .i64 a0] rfl (by (try simp only [List.map_toArray, List.map_cons, List.map_nil]); first | done | rfl | (simp only [List.length_drop, List.length_take]; rfl)) ?_; (with_reducible refine (phase_Next.calls a0 t126 t127 _ A3.out).mono ?_); rintro e w' ⟨rfl, ⟨nd, rfl⟩⟩; refine ⟨_, rfl, ?_⟩) | ((with_reducible refine gate_callee (f := 9) rfl ?_); refine goesL_ (some 16) rfl rfl Try.func9 (by kernel_rfl) rfl #[.int .i64 a0] rfl (by (try simp only [List.map_toArray, List.map_cons, List.map_nil]); first | done | rfl | (simp only [List.length_drop, List.length_take]; rfl)) ?_; (with_reducible refine (contangoref07_Next.calls a0 t128 t129 _ A4.out).mono ?_); rintro e w' ⟨rfl, ⟨nd, rfl⟩⟩; refine ⟨_, rfl, ?_⟩) | ((with_reducible refine gate_callee (f := 10) rfl ?_); refine goesL_ (some 20) rfl rfl Try.func10 (by kernel_rfl) rfl #[.int .i64 a0] rfl (by (try simp only [List.map_toArray, List.map_cons, List.map_nil]); first | done | rfl | (simp only [List.length_drop, List.length_take]; rfl)) ?_; (with_reducible refine (phase_Right.calls a0 t130 _ A5.out).mono ?_); rintro e w' ⟨rfl, ⟨nd, rfl⟩⟩; refine ⟨_, rfl, ?_⟩) | ((with_reducible refine gate_callee (f := 11) rfl ?_); refine goesL_ (some 22) rfl rfl Try.func11 (by kernel_rfl) rfl #[.int .i64 a0] rfl (by (try simp only [List.map_toArray, List.map_cons, List.map_nil]); first | done | rfl | (simp only [List.length_drop, List.length_take]; rfl)) ?_; (with_reducible refine (contangoref07_Right.calls a0 t131 _ A6.out).mono ?_); rintro e w' ⟨rfl, ⟨nd, rfl⟩⟩; refine ⟨_, rfl, ?_⟩) | (go_at_call 12; (with_reducible refine (phase_Ahead.calls a0 a1 t132 _ A10.out).mono ?_); rintro e w' ⟨rfl, ⟨nd, rfl⟩⟩) | (go_at_call 13; (with_reducible refine (contangoref07_Ahead.calls a0 a1 t133 _ A11.out).mono ?_); rintro e w' ⟨rfl, ⟨nd, rfl⟩⟩) | (go_at_call 14; (with_reducible refine (contangolaw07_goes.calls k  t134 _ A13.out).mono ?_); rintro e w14 ⟨rfl, hb⟩; have n0_ := Aside0.mk (below_step (by repeat (first | (with_reducible first | exact HB.out | apply below_alloc | apply pw_below_drewN | apply below_drew1) | exact HB.out)) hb); clear HB; have HB := n0_; clear n0_; (try clear hb); (try clear hb2); (try clear hk); (try clear hi)))
          go_ret
          exact ⟨by first | rfl | (simp [errW_none, errW_some] <;> rfl) | (simp [*, errW_none, errW_some] <;> rfl), by repeat (first | (with_reducible first | exact HB.out | apply below_alloc | apply pw_below_drewN | apply below_drew1) | exact HB.out)⟩
        · rw [if_neg c12] at H
          have c12b0 : (t132 == t133) = false := by simpa using c12
          (try (have c12b1 : decide (t132 = t133) = false := by simpa using c12))
          (try (have c12b2 : (t132 == t133) = false := by simpa using c12))
          (try (have c12b3 : ¬ (t132 = t133) := by simpa using c12))
          clear c12
          obtain rfl := Option.some.inj H
          go_enter Try.func3, Try.ntmps3
          go_wp2_with (first | ((with_reducible refine gate_callee (f := 8) rfl ?_); refine goesL_ (some 11) rfl rfl Try.func8 (by kernel_rfl) rfl #[.int .i64 a0] rfl (by (try simp only [List.map_toArray, List.map_cons, List.map_nil]); first | done | rfl | (simp only [List.length_drop, List.length_take]; rfl)) ?_; (with_reducible refine (phase_Next.calls a0 t126 t127 _ A3.out).mono ?_); rintro e w' ⟨rfl, ⟨nd, rfl⟩⟩; refine ⟨_, rfl, ?_⟩) | ((with_reducible refine gate_callee (f := 9) rfl ?_); refine goesL_ (some 16) rfl rfl Try.func9 (by kernel_rfl) rfl #[.int .i64 a0] rfl (by (try simp only [List.map_toArray, List.map_cons, List.map_nil]); first | done | rfl | (simp only [List.length_drop, List.length_take]; rfl)) ?_; (with_reducible refine (contangoref07_Next.calls a0 t128 t129 _ A4.out).mono ?_); rintro e w' ⟨rfl, ⟨nd, rfl⟩⟩; refine ⟨_, rfl, ?_⟩) | ((with_reducible refine gate_callee (f := 10) rfl ?_); refine goesL_ (some 20) rfl rfl Try.func10 (by kernel_rfl) rfl #[.int .i64 a0] rfl (by (try simp only [List.map_toArray, List.map_cons, List.map_nil]); first | done | rfl | (simp only [List.length_drop, List.length_take]; rfl)) ?_; (with_reducible refine (phase_Right.calls a0 t130 _ A5.out).mono ?_); rintro e w' ⟨rfl, ⟨nd, rfl⟩⟩; refine ⟨_, rfl, ?_⟩) | ((with_reducible refine gate_callee (f := 11) rfl ?_); refine goesL_ (some 22) rfl rfl Try.func11 (by kernel_rfl) rfl #[.int .i64 a0] rfl (by (try simp only [List.map_toArray, List.map_cons, List.map_nil]); first | done | rfl | (simp only [List.length_drop, List.length_take]; rfl)) ?_; (with_reducible refine (contangoref07_Right.calls a0 t131 _ A6.out).mono ?_); rintro e w' ⟨rfl, ⟨nd, rfl⟩⟩; refine ⟨_, rfl, ?_⟩) | (go_at_call 12; (with_reducible refine (phase_Ahead.calls a0 a1 t132 _ A10.out).mono ?_); rintro e w' ⟨rfl, ⟨nd, rfl⟩⟩) | (go_at_call 13; (with_reducible refine (contangoref07_Ahead.calls a0 a1 t133 _ A11.out).mono ?_); rintro e w' ⟨rfl, ⟨nd, rfl⟩⟩))
          go_ret
          exact ⟨by first | rfl | (simp [errW_none, errW_some] <;> rfl) | (simp [*, errW_none, errW_some] <;> rfl), by repeat (first | (with_reducible first | exact HB.out | apply below_alloc | apply pw_below_drewN | apply below_drew1) | exact HB.out)⟩
      · rw [if_neg c9] at H
        have c9b0 : (t127 == t129) = false := beq_eq_false_iff_ne.mpr c9
        have c9b1 : (t127 != t129) = true := bne_iff_ne.mpr c9
        obtain rfl := Option.some.inj H
        go_enter Try.func3, Try.ntmps3
        go_wp2_with (first | ((with_reducible refine gate_callee (f := 8) rfl ?_); refine goesL_ (some 11) rfl rfl Try.func8 (by kernel_rfl) rfl #[.int .i64 a0] rfl (by (try simp only [List.map_toArray, List.map_cons, List.map_nil]); first | done | rfl | (simp only [List.length_drop, List.length_take]; rfl)) ?_; (with_reducible refine (phase_Next.calls a0 t126 t127 _ A3.out).mono ?_); rintro e w' ⟨rfl, ⟨nd, rfl⟩⟩; refine ⟨_, rfl, ?_⟩) | ((with_reducible refine gate_callee (f := 9) rfl ?_); refine goesL_ (some 16) rfl rfl Try.func9 (by kernel_rfl) rfl #[.int .i64 a0] rfl (by (try simp only [List.map_toArray, List.map_cons, List.map_nil]); first | done | rfl | (simp only [List.length_drop, List.length_take]; rfl)) ?_; (with_reducible refine (contangoref07_Next.calls a0 t128 t129 _ A4.out).mono ?_); rintro e w' ⟨rfl, ⟨nd, rfl⟩⟩; refine ⟨_, rfl, ?_⟩) | ((with_reducible refine gate_callee (f := 10) rfl ?_); refine goesL_ (some 20) rfl rfl Try.func10 (by kernel_rfl) rfl #[.int .i64 a0] rfl (by (try simp only [List.map_toArray, List.map_cons, List.map_nil]); first | done | rfl | (simp only [List.length_drop, List.length_take]; rfl)) ?_; (with_reducible refine (phase_Right.calls a0 t130 _ A5.out).mono ?_); rintro e w' ⟨rfl, ⟨nd, rfl⟩⟩; refine ⟨_, rfl, ?_⟩) | ((with_reducible refine gate_callee (f := 11) rfl ?_); refine goesL_ (some 22) rfl rfl Try.func11 (by kernel_rfl) rfl #[.int .i64 a0] rfl (by (try simp only [List.map_toArray, List.map_cons, List.map_nil]); first | done | rfl | (simp only [List.length_drop, List.length_take]; rfl)) ?_; (with_reducible refine (contangoref07_Right.calls a0 t131 _ A6.out).mono ?_); rintro e w' ⟨rfl, ⟨nd, rfl⟩⟩; refine ⟨_, rfl, ?_⟩))
        go_ret
        exact ⟨by first | rfl | (simp [errW_none, errW_some] <;> rfl) | (simp [*, errW_none, errW_some] <;> rfl), by repeat (first | (with_reducible first | exact HB.out | apply below_alloc | apply pw_below_drewN | apply below_drew1) | exact HB.out)⟩
    · rw [if_neg c8] at H
      have c8b0 : (t126 == t128) = false := beq_eq_false_iff_ne.mpr c8
      have c8b1 : (t126 != t128) = true := bne_iff_ne.mpr c8
      obtain rfl := Option.some.inj H
      go_enter Try.func3, Try.ntmps3
      go_wp2_with (first | ((with_reducible refine gate_callee (f := 8) rfl ?_); refine goesL_ (some 11) rfl rfl Try.func8 (by kernel_rfl) rfl #[.int .i64 a0] rfl (by (try simp only [List.map_toArray, List.map_cons, List.map_nil]); first | done | rfl | (simp only [List.length_drop, List.length_take]; rfl)) ?_; (with_reducible refine (phase_Next.calls a0 t126 t127 _ A3.out).mono ?_); rintro e w' ⟨rfl, ⟨nd, rfl⟩⟩; refine ⟨_, rfl, ?_⟩) | ((with_reducible refine gate_callee (f := 9) rfl ?_); refine goesL_ (some 16) rfl rfl Try.func9 (by kernel_rfl) rfl #[.int .i64 a0] rfl (by (try simp only [List.map_toArray, List.map_cons, List.map_nil]); first | done | rfl | (simp only [List.length_drop, List.length_take]; rfl)) ?_; (with_reducible refine (contangoref07_Next.calls a0 t128 t129 _ A4.out).mono ?_); rintro e w' ⟨rfl, ⟨nd, rfl⟩⟩; refine ⟨_, rfl, ?_⟩) | ((with_reducible refine gate_callee (f := 10) rfl ?_); refine goesL_ (some 20) rfl rfl Try.func10 (by kernel_rfl) rfl #[.int .i64 a0] rfl (by (try simp only [List.map_toArray, List.map_cons, List.map_nil]); first | done | rfl | (simp only [List.length_drop, List.length_take]; rfl)) ?_; (with_reducible refine (phase_Right.calls a0 t130 _ A5.out).mono ?_); rintro e w' ⟨rfl, ⟨nd, rfl⟩⟩; refine ⟨_, rfl, ?_⟩) | ((with_reducible refine gate_callee (f := 11) rfl ?_); refine goesL_ (some 22) rfl rfl Try.func11 (by kernel_rfl) rfl #[.int .i64 a0] rfl (by (try simp only [List.map_toArray, List.map_cons, List.map_nil]); first | done | rfl | (simp only [List.length_drop, List.length_take]; rfl)) ?_; (with_reducible refine (contangoref07_Right.calls a0 t131 _ A6.out).mono ?_); rintro e w' ⟨rfl, ⟨nd, rfl⟩⟩; refine ⟨_, rfl, ?_⟩))
      go_ret
      exact ⟨by first | rfl | (simp [errW_none, errW_some] <;> rfl) | (simp [*, errW_none, errW_some] <;> rfl), by repeat (first | (with_reducible first | exact HB.out | apply below_alloc | apply pw_below_drewN | apply below_drew1) | exact HB.out)⟩
  · rw [if_neg c7] at H
    have c7b0 : (t130 == t131) = false := by simpa using c7
    (try (have c7b1 : decide (t130 = t131) = false := by simpa using c7))
    (try (have c7b2 : (t130 == t131) = false := by simpa using c7))
    (try (have c7b3 : ¬ (t130 = t131) := by simpa using c7))
    clear c7
    obtain rfl := Option.some.inj H
    go_enter Try.func3, Try.ntmps3
    go_wp2_with (first | ((with_reducible refine gate_callee (f := 8) rfl ?_); refine goesL_ (some 11) rfl rfl Try.func8 (by kernel_rfl) rfl #[.int .i64 a0] rfl (by (try simp only [List.map_toArray, List.map_cons, List.map_nil]); first | done | rfl | (simp only [List.length_drop, List.length_take]; rfl)) ?_; (with_reducible refine (phase_Next.calls a0 t126 t127 _ A3.out).mono ?_); rintro e w' ⟨rfl, ⟨nd, rfl⟩⟩; refine ⟨_, rfl, ?_⟩) | ((with_reducible refine gate_callee (f := 9) rfl ?_); refine goesL_ (some 16) rfl rfl Try.func9 (by kernel_rfl) rfl #[.int .i64 a0] rfl (by (try simp only [List.map_toArray, List.map_cons, List.map_nil]); first | done | rfl | (simp only [List.length_drop, List.length_take]; rfl)) ?_; (with_reducible refine (contangoref07_Next.calls a0 t128 t129 _ A4.out).mono ?_); rintro e w' ⟨rfl, ⟨nd, rfl⟩⟩; refine ⟨_, rfl, ?_⟩) | ((with_reducible refine gate_callee (f := 10) rfl ?_); refine goesL_ (some 20) rfl rfl Try.func10 (by kernel_rfl) rfl #[.int .i64 a0] rfl (by (try simp only [List.map_toArray, List.map_cons, List.map_nil]); first | done | rfl | (simp only [List.length_drop, List.length_take]; rfl)) ?_; (with_reducible refine (phase_Right.calls a0 t130 _ A5.out).mono ?_); rintro e w' ⟨rfl, ⟨nd, rfl⟩⟩; refine ⟨_, rfl, ?_⟩) | ((with_reducible refine gate_callee (f := 11) rfl ?_); refine goesL_ (some 22) rfl rfl Try.func11 (by kernel_rfl) rfl #[.int .i64 a0] rfl (by (try simp only [List.map_toArray, List.map_cons, List.map_nil]); first | done | rfl | (simp only [List.length_drop, List.length_take]; rfl)) ?_; (with_reducible refine (contangoref07_Right.calls a0 t131 _ A6.out).mono ?_); rintro e w' ⟨rfl, ⟨nd, rfl⟩⟩; refine ⟨_, rfl, ?_⟩))
    go_ret
    exact ⟨by first | rfl | (simp [errW_none, errW_some] <;> rfl) | (simp [*, errW_none, errW_some] <;> rfl), by repeat (first | (with_reducible first | exact HB.out | apply below_alloc | apply pw_below_drewN | apply below_drew1) | exact HB.out)⟩

/-- THE ONE PURE STATEMENT of contangolaw07_PhaseNexts: yours. -/
def contangolaw07_PhaseNexts.Pure : Prop := ∀ (a0 : Int) (a1 : Int), (Lit.int .i64 a0).wf = true → (Lit.int .i64 a1).wf = true → ∃ k, contangolaw07_PhaseNexts.f k a0 a1 = some true
theorem contangolaw07_PhaseNexts.walk (P : contangolaw07_PhaseNexts.Pure) (a0 : Int) (a1 : Int) (w : World) (w0 : (Lit.int .i64 a0).wf = true) (w1 : (Lit.int .i64 a1).wf = true) :
    Calls Try.prog 3 #[.int .i64 a0, .int .i64 a1] w fun e w' => e = .returned (.bool true) ∧ Below w.heap.size w w' := by
  obtain ⟨k, h⟩ := P a0 a1 w0 w1
  refine (contangolaw07_PhaseNexts.calls k a0 a1 true w h).mono ?_
  rintro e w' ⟨rfl, hd⟩
  exact ⟨rfl, hd⟩

end Go.Proofs.Ytpieipeppanahaa.PPhaseNexts
