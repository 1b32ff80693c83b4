/- The pure statement of the law PhaseMays, proved: plain Lean over numbers and lists, no program in sight. -/
import Derived.Test.YtpieipeppanahaaPPhaseMaysx2
namespace Go.Proofs.Ytpieipeppanahaa.Pure
open Go.RowKit Go.Proofs.Ytpieipeppanahaa.PPhaseMays Go.Proofs.YtpieipeppanahaaW.PrintWords Go.Proofs.YtpieipeppanahaaW.PrintLast
theorem acts_other (a : Int) (h : ¬ (1 ≤ a ∧ a ≤ 6)) : phase_acts.f a = phase_acts.f 0 := by
  unfold phase_acts.f
  rw [if_neg (by omega), if_neg (by omega), if_neg (by omega), if_neg (by omega), if_neg (by omega), if_neg (by omega)]
  rfl
theorem may_other (a b : Int) (h : ¬ (1 ≤ a ∧ a ≤ 6)) : phase_May.f a b = phase_May.f 0 b := by
  unfold phase_May.f
  rw [acts_other a h]
theorem Acts_other (a : Int) (h : ¬ (1 ≤ a ∧ a ≤ 6)) : ∀ k l i, phase_Acts.l0 k a l i = phase_Acts.l0 k 0 l i := by
  intro k
  induction k with
  | zero => intro l i; rfl
  | succ k ih => intro l i; simp only [phase_Acts.l0, may_other a _ h, ih]
theorem acts_f_other (a : Int) (h : ¬ (1 ≤ a ∧ a ≤ 6)) (k : Nat) : phase_Acts.f k a = phase_Acts.f k 0 := Acts_other a h k _ _
theorem ref_acts_other (a : Int) (h : ¬ (1 ≤ a ∧ a ≤ 6)) : contangoref07_Acts.f a = contangoref07_Acts.f 0 := by
  unfold contangoref07_Acts.f
  rw [if_neg (by omega), if_neg (by omega), if_neg (by omega), if_neg (by omega), if_neg (by omega), if_neg (by omega)]
  rfl
theorem l0_other (a : Int) (h : ¬ (1 ≤ a ∧ a ≤ 6)) : ∀ k l m n i, contangolaw07_PhaseMays.l0 k a l m n i = contangolaw07_PhaseMays.l0 k 0 l m n i := by
  intro k
  induction k with
  | zero => intro l m n i; rfl
  | succ k ih => intro l m n i; simp only [contangolaw07_PhaseMays.l0, acts_f_other a h, ih]
theorem j0_other (a : Int) (h : ¬ (1 ≤ a ∧ a ≤ 6)) (k : Nat) (l m : List Int) (b : Bool) : contangolaw07_PhaseMays.j0 k a l m b = contangolaw07_PhaseMays.j0 k 0 l m b := by
  cases k with
  | zero => rfl
  | succ k => simp only [contangolaw07_PhaseMays.j0, l0_other a h]
theorem all_other (a b : Int) (h : ¬ (1 ≤ a ∧ a ≤ 6)) (k : Nat) : contangolaw07_PhaseMays.f k a b = contangolaw07_PhaseMays.f k 0 b := by
  unfold contangolaw07_PhaseMays.f contangoref07_May.f
  simp only [acts_f_other a h, ref_acts_other a h, may_other a b h, j0_other a h]
theorem may_far (a b : Int) (h : ¬ (1 ≤ b ∧ b ≤ 10)) : phase_May.f a b = some false := by
  unfold phase_May.f
  by_cases h1 : b ≥ 1
  · rw [if_pos h1, if_neg (by omega)]
  · rw [if_neg h1]
theorem ref_none (x : Int) (l : List Int) (hl : ∀ a ∈ l, a ≠ x) (hn : l.length ≤ 15) (d : Nat) : ∀ (k : Nat) (i : Int), 0 ≤ i → (l.length : Int) - i = d → d < k → contangoref07_May.l0 k x l i = some false := by
  induction d with
  | zero =>
    intro k i h0 hd hk
    obtain ⟨k, rfl⟩ : ∃ m, k = m + 1 := ⟨k - 1, by omega⟩
    rw [contangoref07_May.l0, if_neg (by omega)]
  | succ d ih =>
    intro k i h0 hd hk
    obtain ⟨k, rfl⟩ : ∃ m, k = m + 1 := ⟨k - 1, by omega⟩
    have hw : wrap64 (i + 1) = i + 1 := by unfold wrap64; omega
    have hr : ¬ rd l i = x := by
      unfold rd
      have hlt : i.toNat < l.length := by omega
      rw [List.getD_eq_getElem?_getD, List.getElem?_eq_getElem hlt]
      exact hl _ (List.getElem_mem hlt)
    rw [contangoref07_May.l0, if_pos (by omega), if_pos h0, if_neg hr, hw]
    exact ih k (i + 1) (by omega) (by omega) (by omega)
theorem far (a b : Int) (h : ¬ (1 ≤ b ∧ b ≤ 10)) (l : List Int) (hl : contangoref07_Acts.f a = some l) (hn : l.length ≤ 15) (hx : ∀ x ∈ l, 1 ≤ x ∧ x ≤ 10) : contangoref07_May.f 20 a b = some false := by
  unfold contangoref07_May.f
  rw [hl]
  exact ref_none b l (fun x hm => by have := hx x hm; omega) hn l.length 20 0 (by omega) (by omega) (by omega)
theorem here (a b : Int) (h : 0 ≤ a ∧ a ≤ 6) (hb : ¬ (1 ≤ b ∧ b ≤ 10)) : contangolaw07_PhaseMays.f 20 a b = some true := by
  have h1 := may_far a b hb
  obtain rfl | rfl | rfl | rfl | rfl | rfl | rfl : a = 0 ∨ a = 1 ∨ a = 2 ∨ a = 3 ∨ a = 4 ∨ a = 5 ∨ a = 6 := by omega
  · have h2 := far 0 b hb [] rfl (by simp) (by simp)
    unfold contangolaw07_PhaseMays.f; rw [h1, h2]; decide +kernel
  · have h2 := far 1 b hb [1, 2, 3, 4, 8, 10] rfl (by simp) (by simp)
    unfold contangolaw07_PhaseMays.f; rw [h1, h2]; decide +kernel
  · have h2 := far 2 b hb [2, 3, 4, 8, 10] rfl (by simp) (by simp)
    unfold contangolaw07_PhaseMays.f; rw [h1, h2]; decide +kernel
  · have h2 := far 3 b hb [5, 8] rfl (by simp) (by simp)
    unfold contangolaw07_PhaseMays.f; rw [h1, h2]; decide +kernel
  · have h2 := far 4 b hb [6, 8] rfl (by simp) (by simp)
    unfold contangolaw07_PhaseMays.f; rw [h1, h2]; decide +kernel
  · have h2 := far 5 b hb [7, 8, 10] rfl (by simp) (by simp)
    unfold contangolaw07_PhaseMays.f; rw [h1, h2]; decide +kernel
  · have h2 := far 6 b hb [9] rfl (by simp) (by simp)
    unfold contangolaw07_PhaseMays.f; rw [h1, h2]; decide +kernel
theorem near : ∀ a : Fin 7, ∀ b : Fin 11, contangolaw07_PhaseMays.f 20 (a.val : Int) (b.val : Int) = some true := by decide +kernel
theorem upto (a b : Int) (h : 0 ≤ a ∧ a ≤ 6) : contangolaw07_PhaseMays.f 20 a b = some true := by
  by_cases hb : 1 ≤ b ∧ b ≤ 10
  · have := near ⟨a.toNat, by omega⟩ ⟨b.toNat, by omega⟩
    simp only [Int.toNat_of_nonneg h.1, Int.toNat_of_nonneg (show 0 ≤ b by omega)] at this
    exact this
  · exact here a b h hb
theorem PhaseMays : contangolaw07_PhaseMays.Pure := by
  intro a b _ _
  refine ⟨20, ?_⟩
  by_cases h : 1 ≤ a ∧ a ≤ 6
  · exact upto a b (by omega)
  · rw [all_other a b h]; exact upto 0 b (by omega)
end Go.Proofs.Ytpieipeppanahaa.Pure
