/- The pure statement of the law PhaseEach, proved: plain Lean over numbers and lists, no program in sight. -/
import Derived.Test.YtpieipeppanahaaPPhaseEachx2
namespace Go.Proofs.Ytpieipeppanahaa.Pure
open Go.RowKit Go.Proofs.Ytpieipeppanahaa.PPhaseEach Go.Proofs.YtpieipeppanahaaW.PrintWords Go.Proofs.YtpieipeppanahaaW.PrintLast
theorem may_far (a b : Int) (h : ¬ (1 ≤ b ∧ b ≤ 10)) : phase_May.f a b = some false := by
  unfold phase_May.f
  by_cases h1 : b ≥ 1
  · rw [if_pos h1, if_neg (by omega)]
  · rw [if_neg h1]
theorem acts_range (a : Int) : ∀ k l i r, 1 ≤ i → (∀ x ∈ l, 1 ≤ x ∧ x ≤ 10) → phase_Acts.l0 k a l i = some r → ∀ x ∈ r, 1 ≤ x ∧ x ≤ 10 := by
  intro k
  induction k with
  | zero => intro l i r _ _ h; simp [phase_Acts.l0] at h
  | succ k ih =>
    intro l i r hi hl h
    rw [phase_Acts.l0] at h
    by_cases h1 : i ≤ 10
    · rw [if_pos h1] at h
      have hw : wrap64 (i + 1) = i + 1 := by unfold wrap64; omega
      rw [hw] at h
      obtain ⟨b, _, h⟩ := Option.bind_eq_some_iff.1 h
      by_cases h2 : b = true
      · rw [if_pos h2] at h
        by_cases h3 : l.length < 17592186044416
        · rw [if_pos h3] at h
          refine ih _ _ _ (by omega) ?_ h
          intro x hx
          rcases List.mem_append.1 hx with h | h
          · exact hl x h
          · rw [List.mem_singleton.1 h]; omega
        · rw [if_neg h3] at h; cases h
      · rw [if_neg h2] at h
        exact ih _ _ _ (by omega) hl h
    · rw [if_neg h1] at h
      obtain rfl := Option.some.inj h
      exact hl
theorem rd_ne (l : List Int) (hl : ∀ x ∈ l, 1 ≤ x ∧ x ≤ 10) (i a : Int) (h0 : 0 ≤ i) (h1 : i < (l.length : Int)) (ha : ¬ (1 ≤ a ∧ a ≤ 10)) : (rd l i == a) = false := by
  unfold rd
  have hlt : i.toNat < l.length := by omega
  rw [List.getD_eq_getElem?_getD, List.getElem?_eq_getElem hlt]
  have := hl _ (List.getElem_mem hlt)
  simp only [Option.getD_some, beq_eq_false_iff_ne]
  omega
theorem both (a : Int) (ha : ¬ (1 ≤ a ∧ a ≤ 10)) : ∀ k,
    (∀ x3 x4, contangolaw07_PhaseEach.l0 k a x3 x4 = contangolaw07_PhaseEach.l0 k 0 x3 x4) ∧
    (∀ x3 x4 x5 x6 x7, (∀ x ∈ x5, 1 ≤ x ∧ x ≤ 10) → contangolaw07_PhaseEach.l1 k a x3 x4 x5 x6 x7 = contangolaw07_PhaseEach.l1 k 0 x3 x4 x5 x6 x7) := by
  intro k
  induction k with
  | zero => exact ⟨fun _ _ => rfl, fun _ _ _ _ _ _ => rfl⟩
  | succ k ih =>
    obtain ⟨ih0, ih1⟩ := ih
    constructor
    · intro x3 x4
      simp only [contangolaw07_PhaseEach.l0]
      by_cases h : x4 ≤ 8
      · rw [if_pos h, if_pos h]
        cases hA : phase_Acts.f k x4 with
        | none => rfl
        | some l =>
          simp only [Option.bind_some]
          exact ih1 _ _ _ _ _ (acts_range x4 k [] 1 l (by omega) (by simp) hA)
      · rw [if_neg h, if_neg h]
        rw [show (if (0 : Int) ≥ 1 then (if (x3 == (decide ((0 : Int) ≤ 10))) = true then ((contangolaw07_goes.f k).bind fun t123 => (some t123)) else (some false)) else (if (x3 == false) = true then ((contangolaw07_goes.f k).bind fun t124 => (some t124)) else (some false))) = (if (x3 == false) = true then ((contangolaw07_goes.f k).bind fun t124 => (some t124)) else (some false)) from if_neg (by omega)]
        by_cases h1 : a ≥ 1
        · rw [if_pos h1, show decide (a ≤ 10) = false from decide_eq_false (by omega)]
        · rw [if_neg h1]
    · intro x3 x4 x5 x6 x7 hl
      simp only [contangolaw07_PhaseEach.l1, may_far x4 a ha, may_far x4 0 (by omega), ih0]
      by_cases h : x7 < (x5.length : Int)
      · by_cases h0 : 0 ≤ x7
        · simp only [if_pos h, rd_ne x5 hl x7 a h0 h ha, rd_ne x5 hl x7 0 h0 h (by omega), ih1 _ _ _ _ _ hl]
        · simp only [if_pos h, if_neg h0, show ¬ x7 > 0 from by omega, ih1 _ _ _ _ _ hl, if_false]
      · simp only [if_neg h]
theorem near : ∀ b : Fin 11, contangolaw07_PhaseEach.f 60 (b.val : Int) = some true := by decide +kernel
theorem PhaseEach : contangolaw07_PhaseEach.Pure := by
  intro a _
  refine ⟨60, ?_⟩
  by_cases h : 1 ≤ a ∧ a ≤ 10
  · have := near ⟨a.toNat, by omega⟩
    simp only [Int.toNat_of_nonneg (show 0 ≤ a by omega)] at this
    exact this
  · unfold contangolaw07_PhaseEach.f
    rw [(both a h 60).1]
    exact near 0
end Go.Proofs.Ytpieipeppanahaa.Pure
