/- The pure statement of the law NovateLegs, proved: plain Lean over numbers and lists, no program in sight. -/
import Derived.Test.YtpifobhpijnehaaPNovateLegsx7
namespace Go.Proofs.Ytpifobhpijnehaa.Pure
open Go.RowKit Go.Proofs.Ytpifobhpijnehaa.PNovateLegs Go.Proofs.YtpifobhpijnehaaW.PrintWords Go.Proofs.YtpifobhpijnehaaW.PrintLast Go.Proofs.YtpifobhpijnehaaW.PrintMore
set_option linter.unusedVariables false
set_option linter.unusedSimpArgs false
/-! ### from some number of rounds on: steps -/
theorem ev_pos {α : Type} {c : Prop} [Decidable c] {a b : Nat → Option α} {r : α} (h : c) (k : Ev a r) : Ev (fun n => if c then a n else b n) r := Ev.congr (fun _ => if_pos h) k
theorem ev_neg {α : Type} {c : Prop} [Decidable c] {a b : Nat → Option α} {r : α} (h : ¬ c) (k : Ev b r) : Ev (fun n => if c then a n else b n) r := Ev.congr (fun _ => if_neg h) k
theorem ev_val {α β : Type} {g : Option α} {f : Nat → α → Option β} {a : α} {r : β} (h : g = some a) (k : Ev (fun n => f n a) r) : Ev (fun n => g.bind (f n)) r := by
  subst h; exact k
theorem ev_some {α : Type} {x r : α} (h : x = r) : Ev (fun _ => some x) r := h ▸ Ev.now x
theorem ev_rw {α : Type} {g : Nat → Option α} {r s : α} (h : r = s) (k : Ev g r) : Ev g s := h ▸ k
theorem wsucc (i : Nat) (h : i ≤ 4611686018427387904) : wrap64 ((i : Int) + 1) = ((i + 1 : Nat) : Int) := by
  unfold wrap64; omega
theorem rd_nat (l : List Int) (i : Nat) : rd l (i : Int) = l.getD i 0 := rfl
/-! ### a loop, from its end backwards -/
theorem ev_down {ρ S : Type} {n : Nat} {g : Nat → Nat → S → Option ρ} {spec : Nat → S → ρ} {inv : Nat → S → Prop}
    (he : ∀ s, inv n s → Ev (fun k => g k n s) (spec n s))
    (hs : ∀ i s, i < n → inv i s → (∀ s', inv (i + 1) s' → Ev (fun k => g k (i + 1) s') (spec (i + 1) s')) → Ev (fun k => g k i s) (spec i s)) :
    ∀ i s, i ≤ n → inv i s → Ev (fun k => g k i s) (spec i s) := by
  intro i s hi h
  generalize hd : n - i = d
  induction d generalizing i s with
  | zero =>
    obtain rfl : i = n := by omega
    exact he s h
  | succ d ih => exact hs i s (by omega) h (fun s' h' => ih (i + 1) s' (by omega) h' (by omega))
theorem dropD {α : Type} (z : α) (l : List α) (i : Nat) (h : i < l.length) : l.drop i = l.getD i z :: l.drop (i + 1) := by
  rw [List.drop_eq_getElem_cons h, List.getD_eq_getElem?_getD, List.getElem?_eq_getElem h]; rfl
theorem getD_mem' {α : Type} (z : α) (l : List α) (i : Nat) (h : i < l.length) : l.getD i z ∈ l := by
  rw [List.getD_eq_getElem?_getD, List.getElem?_eq_getElem h]; exact List.getElem_mem h
theorem drop_end {α : Type} (l : List α) : l.drop l.length = [] := List.drop_length
theorem ev_bnd {α β : Type} {g : Nat → Option α} {f : Nat → α → Option β} {a : α} {r : β} (h : Ev g a) (k : Ev (fun n => f n a) r) : Ev (fun n => (g n).bind (f n)) r := h.bind k
theorem w64id (x : Int) (h0 : -9223372036854775808 ≤ x) (h1 : x ≤ 9223372036854775807) : wrap64 x = x := by unfold wrap64; omega
theorem ev_end {α : Type} {g : Nat → Option α} {x r : α} (hg : ∀ k, g (k + 1) = some x) (h : x = r) : Ev g r := Ev.step (f := fun _ => some x) hg (ev_some h)
theorem ev_iff {α : Type} {c d : Prop} [Decidable c] [Decidable d] {a b : Nat → Option α} {x y : α} (hd : c ↔ d) (h1 : c → Ev a x) (h2 : ¬ c → Ev b y) : Ev (fun n => if c then a n else b n) (if d then x else y) := by
  by_cases h : c
  · exact ev_pos h (ev_rw (if_pos (hd.1 h)).symm (h1 h))
  · exact ev_neg h (ev_rw (if_neg (fun k => h (hd.2 k))).symm (h2 h))
theorem ev_if {α : Type} {c : Prop} [Decidable c] {a b : Nat → Option α} {x y : α} (h1 : c → Ev a x) (h2 : ¬ c → Ev b y) : Ev (fun n => if c then a n else b n) (if c then x else y) := ev_iff Iff.rfl h1 h2
theorem ev_no {α : Type} {c : Prop} [Decidable c] {a b : Nat → Option α} {x : α} (h : ¬ c) (k : Ev b x) : Ev (fun n => if c then a n else b n) x := ev_neg h k
theorem goes13 : Ev (fun k => contangolaw13_goes.f k) true := Ev.of (fun k => contangolaw13_goes.mono k) (k := 200) (by decide +kernel)
theorem goes13t : Ev (fun k => (contangolaw13_goes.f k).bind fun t => some t) true := ev_bnd goes13 (ev_some rfl)
theorem beq_no (a : Int) : (!(a == a)) = false := by simp
theorem beq_nol (a : List UInt8) : (!(a == a)) = false := by simp
theorem same13_ev (l : List S41) (hl : l.length ≤ 1000000) : Ev (fun k => contangoref13_Same.f k l l) true := by
  unfold contangoref13_Same.f
  refine ev_pos rfl ?_
  have hgo := ev_down (n := l.length) (g := fun k i (_ : Unit) => contangoref13_Same.l0 k l l (i : Int)) (spec := fun _ _ => true) (inv := fun _ _ => True)
    (fun _ _ => by
      refine Ev.step (fun _ => by rw [contangoref13_Same.l0]) ?_
      exact ev_neg (by omega) (ev_some rfl))
    (fun i _ hi _ ih => by
      have ih := ih () trivial
      refine Ev.step (fun _ => by rw [contangoref13_Same.l0]) ?_
      refine ev_pos (by omega) (ev_pos (by omega) (ev_pos (by omega) (ev_neg (by simp only [beq_no, beq_nol, Bool.or_self]; decide) ?_)))
      rw [wsucc i (by omega)]
      exact ih)
  exact hgo 0 () (by omega) trivial
theorem rall_ev (l : List S39) (hl : l.length ≤ 1000000) : Ev (fun k => contangoref13_All.f k l) (allV l) := by
  unfold contangoref13_All.f
  have hgo := ev_down (n := l.length) (g := fun k i xs => contangoref13_All.l0 k l xs (i : Int)) (spec := fun i xs => xs ++ allV (l.drop i)) (inv := fun i xs => xs.length = 2 * i)
    (fun xs _ => by
      refine Ev.step (fun _ => by rw [contangoref13_All.l0]) ?_
      exact ev_neg (by omega) (ev_some (by rw [List.drop_length]; simp [allV])))
    (fun i xs hi hx ih => by
      refine Ev.step (fun _ => by rw [contangoref13_All.l0]) ?_
      refine ev_pos (by omega) (ev_pos (by omega) ?_)
      rw [drop_T39 l i hi]
      generalize rd_T39 l (i : Int) = t at *
      refine ev_val rfl (ev_val rfl (ev_pos (by simp only [List.length_cons, List.length_nil]; omega) ?_))
      rw [wsucc i (by omega)]
      refine ev_rw ?_ (ih (xs ++ [boughtV t, soldV t]) (by simp; omega))
      simp [allV])
  have := hgo 0 [] (by omega) rfl
  rw [List.drop_zero, List.nil_append] at this
  exact this
theorem allV_len : ∀ l : List S39, (allV l).length = 2 * l.length
  | [] => rfl
  | t :: l => by
    have := allV_len l
    unfold allV at this ⊢
    simp only [List.flatMap_cons, List.length_append, List.length_cons, List.length_nil]
    omega
theorem all_val13 (l : List S39) (hl : l.length ≤ 1000000) : novate_All.f l = some (allV l) := by
  unfold novate_All.f
  rw [if_pos (by omega)]
theorem NovateLegs : ∀ (a0_0 : Int) (a0_1 : Int) (a0_2 : Int) (a0_3 : ByteArray) (a0_4 : Int) (a0_5 : Int) (a0_6 : Int) (a0_7 : Int) (a0_8 : Int) (a0_9 : ByteArray) (a0_10 : ByteArray) (a0_11 : ByteArray) (a0_12 : ByteArray) (a1_0 : ByteArray) (a1_1 : ByteArray) (a1_2 : ByteArray) (a1_3 : Int) (a1_4 : Int) (a1_5 : Int) (a1_6 : Int) (a1_7 : Int) (a1_8 : Int) (l2 : List (S39)), (Lit.int .i64 a0_0).wf = true → (Lit.int .i64 a0_1).wf = true → (Lit.int .i64 a0_2).wf = true → a0_3.size ≤ maxLen → (Lit.int .i64 a0_4).wf = true → (Lit.int .i64 a0_5).wf = true → (Lit.int .i64 a0_6).wf = true → (Lit.int .i64 a0_7).wf = true → (Lit.int .i64 a0_8).wf = true → a0_9.size ≤ maxLen → a0_10.size ≤ maxLen → a0_11.size ≤ maxLen → a0_12.size ≤ maxLen → a1_0.size ≤ maxLen → a1_1.size ≤ maxLen → a1_2.size ≤ maxLen → (Lit.int .i64 a1_3).wf = true → (Lit.int .i64 a1_4).wf = true → (Lit.int .i64 a1_5).wf = true → (Lit.int .i64 a1_6).wf = true → (Lit.int .i64 a1_7).wf = true → (Lit.int .i64 a1_8).wf = true → l2.length ≤ maxLen → (∀ x0 ∈ l2, (Lit.int .i64 x0.f0).wf = true ∧ (Lit.int .i64 x0.f1).wf = true ∧ (Lit.int .i64 x0.f2).wf = true ∧ x0.f3.f0.size ≤ maxLen ∧ (Lit.int .i64 x0.f3.f1).wf = true ∧ (Lit.int .i64 x0.f3.f2).wf = true ∧ (Lit.int .i64 x0.f3.f3).wf = true ∧ (Lit.int .i64 x0.f4).wf = true ∧ (Lit.int .i64 x0.f5).wf = true ∧ x0.f6.f0.size ≤ maxLen ∧ x0.f6.f1.size ≤ maxLen ∧ x0.f7.f0.size ≤ maxLen ∧ x0.f7.f1.size ≤ maxLen) → ∃ k, contangolaw13_NovateLegs.f k a0_0 a0_1 a0_2 a0_3 a0_4 a0_5 a0_6 a0_7 a0_8 a0_9 a0_10 a0_11 a0_12 a1_0 a1_1 a1_2 a1_3 a1_4 a1_5 a1_6 a1_7 a1_8 l2 = some true := by
  intro a0 a1 a2 a3 a4 a5 a6 a7 a8 a9 a10 a11 a12 b0 b1 b2 b3 b4 b5 b6 b7 b8 l
  intros
  refine Ev.rounds ?_
  unfold contangolaw13_NovateLegs.f
  by_cases h : (l.length : Int) > 500
  · exact ev_pos h goes13t
  refine ev_neg h (ev_val rfl (ev_val rfl (ev_val rfl (ev_pos (by simp only [List.length_nil]; omega) ?_))))
  rw [List.nil_append]
  refine ev_val (all_val13 l (by omega)) (ev_pos (by simp) (ev_pos (by simp) (ev_val rfl (ev_val rfl (ev_pos (by simp) ?_)))))
  exact ev_bnd (rall_ev l (by omega)) (ev_bnd (same13_ev (allV l) (by rw [allV_len]; omega)) (ev_pos rfl goes13t))
end Go.Proofs.Ytpifobhpijnehaa.Pure
