import Derived.Test.YtpieipeppanahaaPPhaseRoundx2
namespace Go.Proofs.Ytpieipeppanahaa.Pure
open Go.RowKit Go.Proofs.Ytpieipeppanahaa.PPhaseRound Go.Proofs.YtpieipeppanahaaW.PrintWords Go.Proofs.YtpieipeppanahaaW.PrintLast

/- The pure statement of PhaseRound, proved.
-/
theorem goes_true : contangolaw07_goes.f 20 = some true := by decide +kernel
theorem PhaseRound : contangolaw07_PhaseRound.Pure := by
  intro a _
  refine ⟨30, ?_⟩
  by_cases h : 1 ≤ a ∧ a ≤ 6
  · obtain rfl | rfl | rfl | rfl | rfl | rfl : a = 1 ∨ a = 2 ∨ a = 3 ∨ a = 4 ∨ a = 5 ∨ a = 6 := by omega
    all_goals decide +kernel
  · have hr : phase_Right.f a = some false := by
      unfold phase_Right.f
      by_cases h1 : a ≥ 1
      · rw [if_pos h1]; simp; omega
      · rw [if_neg h1]
    have hn : phase_Name.f a = some ⟨#[]⟩ := by
      unfold phase_Name.f
      rw [if_neg (by omega), if_neg (by omega), if_neg (by omega), if_neg (by omega), if_neg (by omega), if_neg (by omega)]
    have hx : phase_Next.f a = some (0, 14) := by unfold phase_Next.f; rw [hr]; simp
    have hg : contangolaw07_goes.f 30 = some true := by decide +kernel
    unfold contangolaw07_PhaseRound.f
    rw [hr, hx, hn, hg]
    simp
end Go.Proofs.Ytpieipeppanahaa.Pure
