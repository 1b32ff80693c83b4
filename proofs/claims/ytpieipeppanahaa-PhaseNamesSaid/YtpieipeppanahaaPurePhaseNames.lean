/- The pure statement of the law PhaseNames, proved: plain Lean over numbers and lists, no program in sight. -/
import Derived.Test.YtpieipeppanahaaPPhaseNamesx2
namespace Go.Proofs.Ytpieipeppanahaa.Pure
open Go.RowKit Go.Proofs.Ytpieipeppanahaa.PPhaseNames Go.Proofs.YtpieipeppanahaaW.PrintWords Go.Proofs.YtpieipeppanahaaW.PrintLast
theorem goes_true : contangolaw07_goes.f 20 = some true := by decide +kernel
theorem name_same (a : Int) : contangoref07_Name.f a = phase_Name.f a := by
  by_cases h : 1 ≤ a ∧ a ≤ 6
  · obtain rfl | rfl | rfl | rfl | rfl | rfl : a = 1 ∨ a = 2 ∨ a = 3 ∨ a = 4 ∨ a = 5 ∨ a = 6 := by omega
    all_goals decide +kernel
  · have hr : contangoref07_Right.f a = some false := by
      unfold contangoref07_Right.f
      by_cases h1 : a ≥ 1
      · rw [if_pos h1]; simp; omega
      · rw [if_neg h1]
    unfold phase_Name.f contangoref07_Name.f
    rw [hr, if_neg (by omega), if_neg (by omega), if_neg (by omega), if_neg (by omega), if_neg (by omega), if_neg (by omega)]
    simp
theorem of_round (k : Nat) (s : ByteArray) (i j : Int) (n : ByteArray) (h : i ≤ 6) (hn : contangoref07_Name.f i = some n) (hj : wrap64 (i + 1) = j) :
    contangoref07_Of.l0 (k + 1) s i = if s.toList = n.toList then some (i, true) else contangoref07_Of.l0 k s j := by
  rw [contangoref07_Of.l0, if_pos h, hn, hj]
  simp only [Option.bind_some, eq_comm]
theorem of_same (s : ByteArray) : contangoref07_Of.f 20 s = phase_Of.f s := by
  unfold contangoref07_Of.f phase_Of.f
  rw [of_round 19 s 1 2 (⟨#[111, 112, 101, 110]⟩ : ByteArray) (by omega) (by decide +kernel) (by decide +kernel), of_round 18 s 2 3 (⟨#[99, 117, 116]⟩ : ByteArray) (by omega) (by decide +kernel) (by decide +kernel), of_round 17 s 3 4 (⟨#[112, 114, 105, 99, 101]⟩ : ByteArray) (by omega) (by decide +kernel) (by decide +kernel), of_round 16 s 4 5 (⟨#[109, 97, 114, 103, 105, 110]⟩ : ByteArray) (by omega) (by decide +kernel) (by decide +kernel), of_round 15 s 5 6 (⟨#[115, 101, 116, 116, 108, 101]⟩ : ByteArray) (by omega) (by decide +kernel) (by decide +kernel), of_round 14 s 6 7 (⟨#[99, 108, 111, 115, 101, 100]⟩ : ByteArray) (by omega) (by decide +kernel) (by decide +kernel)]
  have hz : contangoref07_Of.l0 14 s 7 = some (0, false) := by rw [contangoref07_Of.l0, if_neg (by omega)]
  rw [hz]
  simp only [ByteArray.toList_eq]
  split
  · rfl
  split
  · rfl
  split
  · rfl
  split
  · rfl
  split
  · rfl
  split
  · rfl
  rfl
theorem PhaseNames : contangolaw07_PhaseNames.Pure := by
  intro a s _ _
  refine ⟨20, ?_⟩
  unfold contangolaw07_PhaseNames.f
  rw [of_same, name_same, goes_true]
  have h1 : ∃ r, phase_Of.f s = some r := ⟨_, rfl⟩
  have h2 : ∃ r, phase_Name.f a = some r := ⟨_, rfl⟩
  obtain ⟨r, hr⟩ := h1
  obtain ⟨r2, hr2⟩ := h2
  rw [hr, hr2]
  simp
end Go.Proofs.Ytpieipeppanahaa.Pure
