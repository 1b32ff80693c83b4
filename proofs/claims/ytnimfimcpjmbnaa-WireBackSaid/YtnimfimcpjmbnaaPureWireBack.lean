/- The pure statement of the law WireBack, proved: plain Lean over numbers and lists, no program in sight. -/
import Derived.Test.YtnimfimcpjmbnaaPWireBackx
namespace Go.Proofs.Ytnimfimcpjmbnaa.Pure
open Go.RowKit Go.Proofs.Ytnimfimcpjmbnaa.PWireBack Go.Proofs.YtnimfimcpjmbnaaW.PrintWords Go.Proofs.YtnimfimcpjmbnaaW.PrintLast Go.Proofs.YtnimfimcpjmbnaaW.PrintMore
set_option linter.unusedVariables false
set_option linter.unusedSimpArgs false
theorem fourOf_bytes (a : Int) : ∀ c ∈ fourOf a, 0 ≤ c ∧ c ≤ 255 := by
  intro c hc
  simp only [fourOf, List.mem_cons, List.not_mem_nil, or_false] at hc
  omega
theorem wf8 {x : Int} (h : (Lit.int .u8 x).wf = true) : 0 ≤ x ∧ x ≤ 255 := by
  simp only [Lit.wf, Bool.and_eq_true, decide_eq_true_eq] at h
  exact h
theorem wf64 {x : Int} (h : (Lit.int .i64 x).wf = true) : -9223372036854775808 ≤ x ∧ x ≤ 9223372036854775807 := by
  simp only [Lit.wf, Bool.and_eq_true, decide_eq_true_eq] at h
  exact h
theorem WireBack : ∀ (l0 : List Int) (a1 : Int) (a2 : ByteArray), l0.length ≤ maxLen → (∀ x0 ∈ l0, (Lit.int .u8 x0).wf = true) → (Lit.int .i64 a1).wf = true → a2.size ≤ maxLen → ∃ k, contangolaw04_WireBack.f k l0 a1 a2 = some true := by
  intro l n s _ hw hn hs
  have hb : ∀ c ∈ l, 0 ≤ c ∧ c ≤ 255 := fun c hc => wf8 (hw c hc)
  have hn2 := wf64 hn
  have hsz : s.size ≤ 9223372036854775807 := Nat.le_trans hs (by decide)
  obtain ⟨K0, h0⟩ := goes_ev
  have hbl : (bytesOf s).length = s.size := bytesOf_length s
  have hbb : ∀ c ∈ bytesOf s, 0 ≤ c ∧ c ≤ 255 := by
    intro c hc
    obtain ⟨x, _, rfl⟩ := List.mem_map.1 hc
    have := x.toNat_lt
    omega
  by_cases hsmall : ¬ ((l.length : Int) > 5000) ∧ ¬ ((s.size : Int) > 70000)
  · obtain ⟨g1, g2⟩ := hsmall
    obtain ⟨K1, h1⟩ := putframe_ev l (bytesOf s) (by omega) hbb (by omega)
    rw [hbl] at h1
    by_cases h6 : (s.size : Int) > 65536
    · have hp := piece_long l (bytesOf s) (fourOf (adl (bytesOf s))) (by omega) (by omega)
      rw [hbl] at hp
      have hcb := code_bytes (s.size : Int) (by omega) (by omega)
      have hcl := wcode_len 9 (zz s.size)
      refine ⟨K0 + K1, ?_⟩
      unfold contangolaw04_WireBack.f
      have hfr : wire_Frame.f (K0 + K1) (l ++ (wcode 9 (zz s.size) ++ (bytesOf s ++ fourOf (adl (bytesOf s))))) l.length = some ([], 0, 8) := by
        unfold wire_Frame.f
        have hlen : (l ++ (wcode 9 (zz s.size) ++ (bytesOf s ++ fourOf (adl (bytesOf s))))).length ≤ 1000000 := by
          simp only [List.length_append, hbl, show (fourOf (adl (bytesOf s))).length = 4 from rfl]; omega
        have hall : ∀ c ∈ l ++ (wcode 9 (zz s.size) ++ (bytesOf s ++ fourOf (adl (bytesOf s)))), 0 ≤ c ∧ c ≤ 255 := by
          intro c hc
          rcases List.mem_append.1 hc with hc | hc
          · exact hb c hc
          · rcases List.mem_append.1 hc with hc | hc
            · exact hcb c hc
            · rcases List.mem_append.1 hc with hc | hc
              · exact hbb c hc
              · exact fourOf_bytes _ c hc
        rw [if_pos ⟨hlen, hall⟩, hp, if_neg (by decide)]
      rw [if_pos ⟨hb, hn2.1, hn2.2, hsz, fun _ _ => ⟨h1 _ (by omega), fun g => absurd h6 g, fun _ => hfr⟩⟩]
      exact h0 _ (by omega)
    · have hcb := code_bytes (s.size : Int) (by omega) (by omega)
      have hcl := wcode_len 9 (zz s.size)
      have hf := frame_read l (bytesOf s) (fourOf (adl (bytesOf s))) [] rfl (by omega) (by
        intro c hc
        rw [List.append_nil, hbl] at hc
        rcases List.mem_append.1 hc with hc | hc
        · exact hb c hc
        · rcases List.mem_append.1 hc with hc | hc
          · exact hcb c hc
          · rcases List.mem_append.1 hc with hc | hc
            · exact hbb c hc
            · exact fourOf_bytes _ c hc) (by
        rw [List.append_nil]
        simp only [List.length_append, hbl, show (fourOf (adl (bytesOf s))).length = 4 from rfl]; omega)
      rw [if_pos rfl, List.append_nil, hbl] at hf
      obtain ⟨K2, h2⟩ := hf
      refine ⟨K0 + K1 + K2, ?_⟩
      unfold contangolaw04_WireBack.f
      rw [if_pos ⟨hb, hn2.1, hn2.2, hsz, fun _ _ => ⟨h1 _ (by omega), fun _ => h2 _ (by omega), fun g => absurd g h6⟩⟩]
      exact h0 _ (by omega)
  · refine ⟨K0, ?_⟩
    unfold contangolaw04_WireBack.f
    rw [if_pos ⟨hb, hn2.1, hn2.2, hsz, fun g1 g2 => absurd ⟨g1, g2⟩ hsmall⟩]
    exact h0 _ (Nat.le_refl _)
end Go.Proofs.Ytnimfimcpjmbnaa.Pure
