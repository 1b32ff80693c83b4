import Derived.Test.YtpieipeppanahaaPPhaseNextsx2
namespace Go.Proofs.Ytpieipeppanahaa.Pure
open Go.RowKit Go.Proofs.Ytpieipeppanahaa.PPhaseNexts Go.Proofs.YtpieipeppanahaaW.PrintWords Go.Proofs.YtpieipeppanahaaW.PrintLast

/- The pure statement of PhaseNexts, proved.
-/
theorem goes_true : contangolaw07_goes.f 20 = some true := by decide +kernel
theorem right_same (a : Int) : contangoref07_Right.f a = phase_Right.f a := rfl
theorem ahead_same (a b : Int) : contangoref07_Ahead.f a b = phase_Ahead.f a b := rfl
theorem ahead_some (a b : Int) : ∃ r, phase_Ahead.f a b = some r := by
  unfold phase_Ahead.f phase_Right.f
  by_cases h : a ≥ 1 <;> by_cases h2 : b ≥ 1 <;> by_cases h3 : a ≤ 6 <;> by_cases h4 : b ≤ 6 <;> simp [h, h2, h3, h4]
theorem next_same (a : Int) : contangoref07_Next.f a = phase_Next.f a := by
  unfold contangoref07_Next.f phase_Next.f contangoref07_Right.f phase_Right.f
  by_cases h : a ≥ 1
  · by_cases h3 : a ≤ 6
    · obtain rfl | rfl | rfl | rfl | rfl | rfl : a = 1 ∨ a = 2 ∨ a = 3 ∨ a = 4 ∨ a = 5 ∨ a = 6 := by omega
      all_goals decide +kernel
    · simp [h, h3]
  · simp [h]
theorem next_some (a : Int) : ∃ r, phase_Next.f a = some r := by
  unfold phase_Next.f phase_Right.f
  by_cases h : a ≥ 1
  · by_cases h3 : a ≤ 6
    · by_cases h4 : a = 6 <;> simp [h, h3, h4]
    · simp [h, h3]
  · simp [h]
theorem right_some (a : Int) : ∃ r, phase_Right.f a = some r := by
  unfold phase_Right.f
  by_cases h : a ≥ 1 <;> simp [h]
theorem PhaseNexts : contangolaw07_PhaseNexts.Pure := by
  intro a b _ _
  refine ⟨20, ?_⟩
  unfold contangolaw07_PhaseNexts.f
  rw [right_same, ahead_same, next_same]
  obtain ⟨r, hr⟩ := next_some a
  obtain ⟨r2, hr2⟩ := right_some a
  obtain ⟨r3, hr3⟩ := ahead_some a b
  rw [hr, hr2, hr3, goes_true]
  simp
end Go.Proofs.Ytpieipeppanahaa.Pure
