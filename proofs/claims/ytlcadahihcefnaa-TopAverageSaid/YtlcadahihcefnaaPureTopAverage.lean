/- The pure statement of the law TopAverage, proved: plain Lean over numbers and lists, no program in sight. -/
import Derived.Test.YtlcadahihcefnaaPTopAveragex
namespace Go.Proofs.Ytlcadahihcefnaa.Pure
open Go.RowKit Go.Proofs.Ytlcadahihcefnaa.PTopAverage Go.Proofs.YtlcadahihcefnaaW.PrintWords Go.Proofs.YtlcadahihcefnaaW.PrintLast Go.Proofs.YtlcadahihcefnaaW.PrintMore
set_option linter.unusedVariables false
set_option linter.unusedSimpArgs false
/-! ### from some number of rounds on: steps -/
theorem ev_pos {α : Type} {c : Prop} [Decidable c] {a b : Nat → Option α} {r : α} (h : c) (k : Ev a r) : Ev (fun n => if c then a n else b n) r := Ev.congr (fun _ => if_pos h) k
theorem ev_neg {α : Type} {c : Prop} [Decidable c] {a b : Nat → Option α} {r : α} (h : ¬ c) (k : Ev b r) : Ev (fun n => if c then a n else b n) r := Ev.congr (fun _ => if_neg h) k
theorem ev_val {α β : Type} {g : Option α} {f : Nat → α → Option β} {a : α} {r : β} (h : g = some a) (k : Ev (fun n => f n a) r) : Ev (fun n => g.bind (f n)) r := by
  subst h; exact k
theorem ev_some {α : Type} {x r : α} (h : x = r) : Ev (fun _ => some x) r := h ▸ Ev.now x
theorem ev_rw {α : Type} {g : Nat → Option α} {r s : α} (h : r = s) (k : Ev g r) : Ev g s := h ▸ k
theorem wsucc (i : Nat) (h : i ≤ 4611686018427387904) : wrap64 ((i : Int) + 1) = ((i + 1 : Nat) : Int) := by
  unfold wrap64; omega
theorem rd_nat (l : List Int) (i : Nat) : rd l (i : Int) = l.getD i 0 := rfl
/-! ### lists given by a function of the place -/
theorem getD_mem (l : List Int) (x : Int) (h : x ∈ l) : ∃ j, j < l.length ∧ l.getD j 0 = x := by
  obtain ⟨j, hj, e⟩ := List.getElem_of_mem h
  exact ⟨j, hj, by rw [List.getD_eq_getElem?_getD, List.getElem?_eq_getElem hj]; exact e⟩
theorem mem_getD (l : List Int) (j : Nat) (h : j < l.length) : l.getD j 0 ∈ l := by
  rw [List.getD_eq_getElem?_getD, List.getElem?_eq_getElem h]; exact List.getElem_mem h
theorem all_okMoney (l : List Int) : l.all okMoney = true ↔ ∀ j, j < l.length → 0 ≤ l.getD j 0 ∧ l.getD j 0 ≤ 1152921504606846976 := by
  rw [List.all_eq_true]
  constructor
  · intro h j hj; exact (okMoney_iff _).1 (h _ (mem_getD l j hj))
  · intro h x hx
    obtain ⟨j, hj, rfl⟩ := getD_mem l x hx
    exact (okMoney_iff _).2 (h j hj)
/-! ### the greedy hand-out: plain lists -/
theorem g_getD_set (l : List Int) (m : Nat) (x : Int) (i : Nat) (hm : m < l.length) : (l.set m x).getD i 0 = if i = m then x else l.getD i 0 := by
  rw [List.getD_eq_getElem?_getD, List.getD_eq_getElem?_getD, List.getElem?_set]
  by_cases h : m = i
  · rw [if_pos h, if_pos h.symm, if_pos hm]; rfl
  · rw [if_neg h, if_neg (fun e => h e.symm)]
theorem g_isum_set (l : List Int) : ∀ (m : Nat) (x : Int), m < l.length → isum (l.set m x) = isum l - l.getD m 0 + x := by
  induction l with
  | nil => intro m x h; simp at h
  | cons a l ih =>
    intro m x h
    cases m with
    | zero => simp [isum]; omega
    | succ m =>
      have := ih m x (by simpa using h)
      simp only [List.set_cons_succ, isum, List.getD_cons_succ, this]; omega
theorem g_best_take (l : List Int) (hl : 0 < l.length) : ∀ k, k ≤ l.length → (bestGo l (l.take k) 0 0 < l.length) ∧ (bestGo l (l.take k) 0 0 ≤ k - 1) ∧ (∀ j, j < k → l.getD j 0 ≤ l.getD (bestGo l (l.take k) 0 0) 0) ∧ (∀ j, j < bestGo l (l.take k) 0 0 → l.getD j 0 < l.getD (bestGo l (l.take k) 0 0) 0) := by
  intro k
  induction k with
  | zero => intro _; exact ⟨by simpa [bestGo] using hl, by simp [bestGo], by omega, by simp [bestGo]⟩
  | succ k ih =>
    intro hk
    obtain ⟨h1, h2, h3, h4⟩ := ih (by omega)
    have hs : bestGo l (l.take (k + 1)) 0 0 = if l.getD (bestGo l (l.take k) 0 0) 0 < l.getD k 0 then k else bestGo l (l.take k) 0 0 := by
      have e : l.take (k + 1) = l.take k ++ [l.getD k 0] := by
        rw [List.take_succ_eq_append_getElem (by omega), List.getD_eq_getElem?_getD, List.getElem?_eq_getElem (by omega)]; rfl
      rw [e, bestGo_snoc, List.length_take, Nat.min_eq_left (by omega), Nat.zero_add]
    rw [hs]
    generalize bestGo l (l.take k) 0 0 = b at *
    by_cases hc : l.getD b 0 < l.getD k 0
    · rw [if_pos hc]
      refine ⟨by omega, by omega, ?_, ?_⟩
      · intro j hj
        by_cases hjk : j = k
        · rw [hjk]; exact Int.le_refl _
        · have := h3 j (by omega); omega
      · intro j hj
        have := h3 j hj; omega
    · rw [if_neg hc]
      refine ⟨h1, ?_, ?_, h4⟩
      · omega
      · intro j hj
        by_cases hjk : j = k
        · rw [hjk]; omega
        · exact h3 j (by omega)
theorem g_best (l : List Int) (hl : 0 < l.length) : best l < l.length ∧ (∀ j, j < l.length → l.getD j 0 ≤ l.getD (best l) 0) ∧ (∀ j, j < best l → l.getD j 0 < l.getD (best l) 0) := by
  have := g_best_take l hl l.length (Nat.le_refl _)
  rw [List.take_length] at this
  exact ⟨this.1, this.2.2.1, this.2.2.2⟩
structure GInv (q r : List Int) (A : Int) (n : Nat) (p : List Int × List Int) : Prop where
  l1 : p.1.length = q.length
  l2 : p.2.length = q.length
  each : ∀ i, i < q.length → (p.2.getD i 0 = r.getD i 0 ∧ p.1.getD i 0 = q.getD i 0) ∨ (p.2.getD i 0 = -1 ∧ p.1.getD i 0 = q.getD i 0 + 1 ∧ 0 < r.getD i 0)
  ahead : ∀ i j, i < q.length → j < q.length → p.2.getD i 0 = -1 → p.2.getD j 0 ≠ -1 → r.getD j 0 < r.getD i 0 ∨ (r.getD j 0 = r.getD i 0 ∧ i < j)
  sum1 : isum p.1 = isum q + n
  sum2 : isum r - n * A ≤ isum p.2
theorem g_isum_nonpos (l : List Int) (h : ∀ i, i < l.length → l.getD i 0 ≤ 0) : isum l ≤ 0 := by
  induction l with
  | nil => simp [isum]
  | cons a l ih =>
    have h0 := h 0 (by simp)
    have := ih (fun i hi => by simpa using h (i + 1) (by simpa using hi))
    simp only [List.getD_cons_zero] at h0
    simp only [isum]; omega
theorem g_step (q r : List Int) (A : Int) (n : Nat) (p : List Int × List Int) (hp : GInv q r A n p) (hr0 : ∀ i, i < q.length → 0 ≤ r.getD i 0 ∧ r.getD i 0 < A) (hn : 0 < isum r - n * A) : GInv q r A (n + 1) (giveOne p) := by
  obtain ⟨l1, l2, each, ahead, s1, s2⟩ := hp
  have hpos : 0 < p.2.length := by
    rcases Nat.eq_zero_or_pos p.2.length with h | h
    · have : p.2 = [] := List.length_eq_zero_iff.1 h
      rw [this] at s2; simp only [isum] at s2; omega
    · exact h
  obtain ⟨hb, hmax, hfirst⟩ := g_best p.2 hpos
  have hbig : 0 < p.2.getD (best p.2) 0 := by
    apply Classical.byContradiction
    intro hc
    have := g_isum_nonpos p.2 (fun i hi => by have := hmax i hi; omega)
    omega
  have heach := each (best p.2) (by omega)
  have hbe : p.2.getD (best p.2) 0 = r.getD (best p.2) 0 ∧ p.1.getD (best p.2) 0 = q.getD (best p.2) 0 := by
    rcases heach with h | h
    · exact h
    · omega
  have hrb := hr0 (best p.2) (by omega)
  unfold giveOne
  generalize best p.2 = b at *
  have e1 : ∀ i, (p.1.set b (p.1.getD b 0 + 1)).getD i 0 = if i = b then p.1.getD b 0 + 1 else p.1.getD i 0 := fun i => g_getD_set _ _ _ i (by omega)
  have e2 : ∀ i, (p.2.set b (-1)).getD i 0 = if i = b then -1 else p.2.getD i 0 := fun i => g_getD_set _ _ _ i (by omega)
  refine ⟨by simpa using l1, by simpa using l2, ?_, ?_, ?_, ?_⟩
  · intro i hi
    rw [e1, e2]
    by_cases h : i = b
    · rw [if_pos h, if_pos h, h]; right; exact ⟨rfl, by omega, by omega⟩
    · rw [if_neg h, if_neg h]; exact each i hi
  · intro i j hi hj
    rw [e2, e2]
    intro h1 h2
    by_cases hj' : j = b
    · rw [if_pos hj'] at h2; exact absurd rfl h2
    · rw [if_neg hj'] at h2
      by_cases hi' : i = b
      · rw [hi']
        have hrj : p.2.getD j 0 = r.getD j 0 := by
          rcases each j hj with h | h
          · exact h.1
          · exact absurd h.1 h2
        have := hmax j (by omega)
        by_cases hlt : r.getD j 0 < r.getD b 0
        · exact .inl hlt
        · right
          refine ⟨by omega, ?_⟩
          apply Classical.byContradiction
          intro hc
          have := hfirst j (by omega)
          omega
      · rw [if_neg hi'] at h1
        exact ahead i j hi hj h1 h2
  · show isum (p.1.set b (p.1.getD b 0 + 1)) = isum q + ((n + 1 : Nat) : Int)
    rw [g_isum_set _ _ _ (by omega)]; omega
  · show isum r - ((n + 1 : Nat) : Int) * A ≤ isum (p.2.set b (-1))
    have e : ((n + 1 : Nat) : Int) * A = n * A + A := by rw [Int.natCast_add, Int.add_mul]; simp
    rw [g_isum_set _ _ _ (by omega), e]; omega
theorem g_many (q r : List Int) (A : Int) (hA : 0 < A) (hr : r.length = q.length) (hr0 : ∀ i, i < q.length → 0 ≤ r.getD i 0 ∧ r.getD i 0 < A) : ∀ n : Nat, n * A ≤ isum r → GInv q r A n (giveMany n (q, r)) := by
  intro n
  induction n with
  | zero =>
    intro _
    refine ⟨rfl, hr, fun i hi => .inl ⟨rfl, rfl⟩, ?_, by simp [giveMany], by simp [giveMany]⟩
    intro i j hi hj h1 h2
    have := hr0 i hi
    simp only [giveMany] at h1
    omega
  | succ n ih =>
    intro hn
    have e : ((n + 1 : Nat) : Int) * A = n * A + A := by rw [Int.natCast_add, Int.add_mul]; simp
    rw [giveMany_snoc]
    exact g_step q r A n _ (ih (by omega)) hr0 (by omega)
theorem g_isum_split (T A : Int) (l : List Int) : A * isum (quos T A l) + isum (remsOf T A l) = T * isum l := by
  induction l with
  | nil => simp [quos, remsOf, isum]
  | cons a l ih =>
    have := Int.mul_ediv_add_emod (T * a) A
    simp only [quos, remsOf, List.map_cons, isum] at *
    rw [Int.mul_add, Int.mul_add]; omega
theorem g_quos_getD (T A : Int) (l : List Int) (i : Nat) (h : i < l.length) : (quos T A l).getD i 0 = T * l.getD i 0 / A := by
  unfold quos
  rw [List.getD_eq_getElem?_getD, List.getD_eq_getElem?_getD, List.getElem?_map, List.getElem?_eq_getElem h]; rfl
theorem g_rems_getD (T A : Int) (l : List Int) (i : Nat) (h : i < l.length) : (remsOf T A l).getD i 0 = T * l.getD i 0 % A := by
  unfold remsOf
  rw [List.getD_eq_getElem?_getD, List.getD_eq_getElem?_getD, List.getElem?_map, List.getElem?_eq_getElem h]; rfl
/-- What the split is: each its floor or one more; who got one more has a greater rest than who didn't, or as great a one and stands ahead; all together are the total. -/
theorem split_is (T : Int) (l : List Int) (hT : 0 ≤ T) (hA : 0 < isum l) (h : ∀ a ∈ l, 0 ≤ a) :
    (splitParts T (isum l) l).length = l.length ∧ isum (splitParts T (isum l) l) = T ∧
    ∃ up : Nat → Bool, (∀ i, i < l.length → (splitParts T (isum l) l).getD i 0 = T * l.getD i 0 / isum l + (if up i = true then 1 else 0) ∧ (up i = true → 0 < T * l.getD i 0 % isum l)) ∧
      (∀ i j, i < l.length → j < l.length → up i = true → up j = false → T * l.getD j 0 % isum l < T * l.getD i 0 % isum l ∨ (T * l.getD j 0 % isum l = T * l.getD i 0 % isum l ∧ i < j)) := by
  have hq := isum_quos T (isum l) hT hA l h
  have hs := g_isum_split T (isum l) l
  have hleft : 0 ≤ T - isum (quos T (isum l) l) := by
    have := left_range T l hT hA h l.length
    rw [List.take_length] at this
    exact this.1
  have hlq : (quos T (isum l) l).length = l.length := by simp [quos]
  have hlr : (remsOf T (isum l) l).length = l.length := by simp [remsOf]
  have hm := g_many (quos T (isum l) l) (remsOf T (isum l) l) (isum l) hA (by omega) (by
    intro i hi
    rw [g_rems_getD _ _ _ _ (by omega)]
    exact ⟨Int.emod_nonneg _ (by omega), Int.emod_lt_of_pos _ hA⟩) (T - isum (quos T (isum l) l)).toNat (by
    rw [Int.toNat_of_nonneg hleft, Int.sub_mul]
    rw [Int.mul_comm (isum (quos T (isum l) l))]
    omega)
  obtain ⟨l1, l2, each, ahead, s1, s2⟩ := hm
  unfold splitParts
  generalize giveMany (T - isum (quos T (isum l) l)).toNat (quos T (isum l) l, remsOf T (isum l) l) = p at *
  refine ⟨by omega, by omega, fun i => p.2.getD i 0 == -1, ?_, ?_⟩
  · intro i hi
    have hri : 0 ≤ T * l.getD i 0 % isum l := Int.emod_nonneg _ (by omega)
    have := each i (by omega)
    rw [g_quos_getD _ _ _ _ hi, g_rems_getD _ _ _ _ hi] at this
    rcases this with ⟨h1, h2⟩ | ⟨h1, h2, h3⟩
    · have hne : ¬ (p.2.getD i 0 = -1) := by omega
      simp only [beq_iff_eq, hne, if_false]
      exact ⟨by omega, fun h => h.elim⟩
    · simp only [beq_iff_eq, h1, if_true]
      exact ⟨by omega, fun _ => h3⟩
  · intro i j hi hj h1 h2
    have := ahead i j (by omega) (by omega) (by simpa using h1) (by simpa using h2)
    rwa [g_rems_getD _ _ _ _ hi, g_rems_getD _ _ _ _ hj] at this
/-! ### a loop, from its end backwards -/
theorem ev_down {ρ S : Type} {n : Nat} {g : Nat → Nat → S → Option ρ} {spec : Nat → S → ρ} {inv : Nat → S → Prop}
    (he : ∀ s, inv n s → Ev (fun k => g k n s) (spec n s))
    (hs : ∀ i s, i < n → inv i s → (∀ s', inv (i + 1) s' → Ev (fun k => g k (i + 1) s') (spec (i + 1) s')) → Ev (fun k => g k i s) (spec i s)) :
    ∀ i s, i ≤ n → inv i s → Ev (fun k => g k i s) (spec i s) := by
  intro i s hi h
  generalize hd : n - i = d
  induction d generalizing i s with
  | zero =>
    obtain rfl : i = n := by omega
    exact he s h
  | succ d ih => exact hs i s (by omega) h (fun s' h' => ih (i + 1) s' (by omega) h' (by omega))
theorem dropD {α : Type} (z : α) (l : List α) (i : Nat) (h : i < l.length) : l.drop i = l.getD i z :: l.drop (i + 1) := by
  rw [List.drop_eq_getElem_cons h, List.getD_eq_getElem?_getD, List.getElem?_eq_getElem h]; rfl
theorem ev_bnd {α β : Type} {g : Nat → Option α} {f : Nat → α → Option β} {a : α} {r : β} (h : Ev g a) (k : Ev (fun n => f n a) r) : Ev (fun n => (g n).bind (f n)) r := h.bind k
theorem w64id (x : Int) (h0 : -9223372036854775808 ≤ x) (h1 : x ≤ 9223372036854775807) : wrap64 x = x := by unfold wrap64; omega
theorem ev_end {α : Type} {g : Nat → Option α} {x r : α} (hg : ∀ k, g (k + 1) = some x) (h : x = r) : Ev g r := Ev.step (f := fun _ => some x) hg (ev_some h)
theorem and32 (x : Int) (h₀ : 0 ≤ x) (h₁ : x < 18446744073709551616) : Go.bits .and .u64 x 4294967295 = x % 4294967296 :=
  bits_mask .u64 64 (by decide) wraps_u64 32 (by decide) x h₀ (by omega)
theorem u64w (x : Int) : IntKind.u64.wrap x = x % 18446744073709551616 := IntKind.wrap_u64 x
theorem u64id (x : Int) (h₀ : 0 ≤ x) (h₁ : x < 18446744073709551616) : IntKind.u64.wrap x = x := by rw [u64w]; omega
theorem w64i (n : Int) (h0 : -9223372036854775808 ≤ n) (h1 : n ≤ 9223372036854775807) : wrap64 n = n := by unfold wrap64; omega
theorem mulb (a b m n : Int) (h1 : 0 ≤ a) (h2 : a ≤ m) (h3 : 0 ≤ b) (h4 : b ≤ n) : 0 ≤ a * b ∧ a * b ≤ m * n :=
  ⟨Int.mul_nonneg h1 h3, Int.mul_le_mul h2 h4 h3 (by omega)⟩
theorem mul64_eq (a b : Int) (ha : 0 ≤ a) (ha2 : a < 18446744073709551616) (hb : 0 ≤ b) (hb2 : b < 18446744073709551616) :
    bits_Mul64.f a b = some (a * b / 18446744073709551616, a * b % 18446744073709551616) := by
  obtain ⟨x, y, hx0, hx1, hy0, hy1, rfl, ex, ey⟩ : ∃ x y : Int, 0 ≤ x ∧ x < 4294967296 ∧ 0 ≤ y ∧ y < 4294967296 ∧ a = x * 4294967296 + y ∧ a / 4294967296 = x ∧ a % 4294967296 = y := ⟨a / 4294967296, a % 4294967296, by omega, by omega, by omega, by omega, by omega, rfl, rfl⟩
  obtain ⟨u, v, hu0, hu1, hv0, hv1, rfl, eu, ev⟩ : ∃ x y : Int, 0 ≤ x ∧ x < 4294967296 ∧ 0 ≤ y ∧ y < 4294967296 ∧ b = x * 4294967296 + y ∧ b / 4294967296 = x ∧ b % 4294967296 = y := ⟨b / 4294967296, b % 4294967296, by omega, by omega, by omega, by omega, by omega, rfl, rfl⟩
  unfold bits_Mul64.f
  rw [and32 _ ha ha2, and32 _ hb hb2, ex, ey, eu, ev]
  have e : (x * 4294967296 + y) * (u * 4294967296 + v) = x * u * 18446744073709551616 + (x * v + y * u) * 4294967296 + y * v := by
    simp only [Int.mul_add, Int.add_mul]
    rw [show x * 4294967296 * (u * 4294967296) = x * u * 18446744073709551616 by rw [Int.mul_assoc, ← Int.mul_assoc 4294967296 u, Int.mul_comm 4294967296 u, Int.mul_assoc u, ← Int.mul_assoc]; rfl,
      show x * 4294967296 * v = x * v * 4294967296 by rw [Int.mul_assoc, Int.mul_comm 4294967296 v, ← Int.mul_assoc],
      show y * (u * 4294967296) = y * u * 4294967296 by rw [← Int.mul_assoc]]
    omega
  rw [e, u64w (_ + y * v)]
  have b1 := mulb x u _ _ hx0 (show x ≤ 4294967295 by omega) hu0 (show u ≤ 4294967295 by omega)
  have b2 := mulb x v _ _ hx0 (show x ≤ 4294967295 by omega) hv0 (show v ≤ 4294967295 by omega)
  have b3 := mulb y u _ _ hy0 (show y ≤ 4294967295 by omega) hu0 (show u ≤ 4294967295 by omega)
  have b4 := mulb y v _ _ hy0 (show y ≤ 4294967295 by omega) hv0 (show v ≤ 4294967295 by omega)
  generalize x * u = p at *
  generalize x * v = q at *
  generalize y * u = r at *
  generalize y * v = s at *
  clear e ex ey eu ev ha ha2 hb hb2
  rw [u64id p (by omega) (by omega), u64id q (by omega) (by omega), u64id r (by omega) (by omega), u64id s (by omega) (by omega)]
  rw [u64id (q + s / 4294967296) (by omega) (by omega)]
  rw [and32 _ (by omega) (by omega)]
  rw [u64id (p + _) (by omega) (by omega), u64id ((q + s / 4294967296) % 4294967296 + r) (by omega) (by omega)]
  rw [u64id _ (by omega) (by omega)]
  congr 1
  congr 1
  omega
/-! ### long division by a two-digit number, digit by digit (base 2^32) -/
/-! ### bits.Div64, in closed form -/
/-! ### cents.MulDiv and contangoref01.MulDiv: one law -/
def absI (n : Int) : Int := if n < 0 then -n else n
def fitsP (n : Int) : Prop := -1152921504606846976 ≤ n ∧ n ≤ 1152921504606846976
instance (n : Int) : Decidable (fitsP n) := by unfold fitsP; infer_instance
theorem cfits_eq (n : Int) : cents_Fits.f n = some (decide (fitsP n)) := by
  unfold cents_Fits.f fitsP
  by_cases h : n ≥ (-1152921504606846976)
  · rw [if_pos h]; congr 1; simp [h]
  · rw [if_neg h]; congr 1; simp [h]
theorem csize_eq (n : Int) (h : fitsP n) : cents_size.f n = some (absI n) := by
  unfold cents_size.f absI fitsP at *
  split
  · rw [show wrap64 (-n) = -n by unfold wrap64; omega, u64id _ (by omega) (by omega)]
  · rw [u64id _ (by omega) (by omega)]
theorem csigned_eq (q : Int) (bl : Bool) (h : 0 ≤ q) : cents_signed.f q bl = some (if q > 1152921504606846976 then (0, 3) else (if bl = true then -q else q, 0)) := by
  unfold cents_signed.f
  by_cases hq : q > 1152921504606846976
  · rw [if_pos hq, if_pos hq]
  · rw [if_neg hq, if_neg hq, show wrap64 q = q by unfold wrap64; omega, show wrap64 (-q) = -q by unfold wrap64; omega]
    cases bl <;> simp
theorem ev_iff {α : Type} {c d : Prop} [Decidable c] [Decidable d] {a b : Nat → Option α} {x y : α} (hd : c ↔ d) (h1 : c → Ev a x) (h2 : ¬ c → Ev b y) : Ev (fun n => if c then a n else b n) (if d then x else y) := by
  by_cases h : c
  · exact ev_pos h (ev_rw (if_pos (hd.1 h)).symm (h1 h))
  · exact ev_neg h (ev_rw (if_neg (fun k => h (hd.2 k))).symm (h2 h))
theorem ev_if {α : Type} {c : Prop} [Decidable c] {a b : Nat → Option α} {x y : α} (h1 : c → Ev a x) (h2 : ¬ c → Ev b y) : Ev (fun n => if c then a n else b n) (if c then x else y) := ev_iff Iff.rfl h1 h2
/-! ### names -/
def letterB (c : Int) : Bool := decide (97 ≤ c) && decide (c ≤ 122)
def digitB (c : Int) : Bool := decide (48 ≤ c) && decide (c ≤ 57)
def nameFrom (s : ByteArray) (i : Nat) : Bool := ((List.range s.size).drop i).all (fun i => letterB (bt s i) || digitB (bt s i))
def nameOk (s : ByteArray) : Bool := if s.size = 0 then false else if s.size > 12 then false else letterB (bt s 0) && nameFrom s 0
theorem size_nil (s : ByteArray) : s.toList = ([] : List UInt8) ↔ s.size = 0 := by
  rw [ByteArray.toList_eq, List.eq_nil_iff_length_eq_zero, Array.length_toList]; rfl
theorem nameFrom_cons (s : ByteArray) (i : Nat) (h : i < s.size) : nameFrom s i = ((letterB (bt s i) || digitB (bt s i)) && nameFrom s (i + 1)) := by
  unfold nameFrom
  rw [dropD 0 (List.range s.size) i (by simpa using h), List.all_cons]
  congr 2 <;> simp [List.getD_eq_getElem?_getD, h]
theorem nameFrom_end (s : ByteArray) : nameFrom s s.size = true := by
  unfold nameFrom
  rw [List.drop_eq_nil_of_le (by simp)]; rfl
theorem letter_eq (c : Int) : words_letter.f c = some (letterB c) := by
  unfold words_letter.f letterB; by_cases h : 97 ≤ c <;> simp [h]
theorem digit_eq (c : Int) : words_digit.f c = some (digitB c) := by
  unfold words_digit.f digitB; by_cases h : 48 ≤ c <;> simp [h]
theorem name_go (s : ByteArray) (hs : s.size ≤ 12) : ∀ (i : Nat) (u : Unit), i ≤ s.size → True → Ev (fun k => words_Name.l0 k s (s.size : Int) (i : Int)) (nameFrom s i) := by
  refine ev_down (S := Unit) (g := fun k i _ => words_Name.l0 k s (s.size : Int) (i : Int)) (spec := fun i _ => nameFrom s i) (inv := fun _ _ => True) ?_ ?_
  · intro _ _
    refine Ev.step (fun _ => rfl) (ev_neg (by omega) (ev_some ?_))
    rw [nameFrom_end]
  · intro i _ hi _ ih
    have ih := ih () trivial
    refine Ev.step (fun _ => rfl) (ev_pos (by omega) (ev_pos (by omega) (ev_pos (by omega) (ev_val (letter_eq _) ?_))))
    rw [nameFrom_cons s i hi, wsucc i (by omega)]
    cases h1 : letterB (bt s i) with
    | true => exact ev_pos (by rfl) (by simpa using ih)
    | false =>
      refine ev_neg (by simp) (ev_val (digit_eq _) ?_)
      cases h2 : digitB (bt s i) with
      | true => exact ev_pos (by rfl) (by simpa using ih)
      | false => exact ev_neg (by simp) (ev_some rfl)
theorem name_ev (s : ByteArray) : Ev (fun k => words_Name.f k s) (nameOk s) := by
  unfold words_Name.f nameOk
  by_cases h0 : s.size = 0
  · rw [if_pos h0]
    exact ev_pos ((size_nil s).2 h0) (ev_end (fun _ => rfl) rfl)
  rw [if_neg h0]
  refine ev_neg (fun h => h0 ((size_nil s).1 h)) ?_
  by_cases h1 : s.size > 12
  · rw [if_pos h1]
    exact ev_pos (by omega) (ev_end (fun _ => rfl) rfl)
  rw [if_neg h1]
  refine ev_neg (by omega) (ev_pos (by omega) (ev_val (letter_eq _) (Ev.step (fun _ => rfl) ?_)))
  cases h2 : letterB (bt s 0) with
  | true =>
    have := name_go s (by omega) 0 () (by omega) trivial
    rw [Bool.true_and]; exact this
  | false => exact ev_some rfl
/-! ### products, and what lots are worth -/
def withinB (n m : Int) : Bool := decide (-m ≤ n) && decide (n ≤ m)
theorem within_eq (n m : Int) (h : 0 ≤ m) (h2 : m ≤ 1073741824) : product_within.f n m = some (withinB n m) := by
  unfold product_within.f withinB
  rw [w64id (-m) (by omega) (by omega)]
  by_cases hn : n ≥ -m
  · rw [if_pos hn, decide_eq_true (show -m ≤ n from hn)]; rfl
  · rw [if_neg hn, decide_eq_false (show ¬ -m ≤ n from hn)]; rfl
def prodV (s : ByteArray) (cur mult tick low high : Int) : Int :=
  if nameOk s = true then (if 0 ≤ cur ∧ cur ≤ 7 then (if 1 ≤ mult ∧ mult ≤ 4096 then (if 1 ≤ tick ∧ tick ≤ 16777216 then (if withinB low 16777216 = true then (if withinB high 16777216 = true then (if low > high then 17 else if Int.tmod low tick = 0 then (if Int.tmod high tick = 0 then 0 else 17) else 17) else 17) else 17) else 16) else 2) else 25) else 10
def prodT (tick low high : Int) : Int := if withinB low 16777216 = true then (if withinB high 16777216 = true then (if low > high then 17 else if Int.tmod low tick = 0 then (if Int.tmod high tick = 0 then 0 else 17) else 17) else 17) else 17
theorem pj3 (b : Bool) (s : ByteArray) (cur mult tick low high : Int) (ph : Bool) (ht : b = false → 1 ≤ tick) : Ev (fun k => product_Check.j3 k b s cur mult tick low high ph) (if b = true then 16 else prodT tick low high) := by
  refine Ev.step (fun _ => by rw [product_Check.j3]) ?_
  refine ev_if (fun _ => ev_some rfl) (fun hb => ?_)
  have ht := ht (by simpa using hb)
  unfold prodT
  refine ev_val (within_eq low 16777216 (by omega) (by omega)) (ev_if (fun h1 => ?_) (fun _ => ev_some rfl))
  refine ev_val (within_eq high 16777216 (by omega) (by omega)) (ev_if (fun h1 => ?_) (fun _ => ev_some rfl))
  refine ev_if (fun _ => ev_some rfl) (fun _ => ev_neg (by omega) (ev_if (fun _ => ev_if (fun _ => ev_some rfl) (fun _ => ev_some rfl)) (fun _ => ev_some rfl)))
theorem pj2 (b : Bool) (s : ByteArray) (cur mult tick low high : Int) (ph : Bool) : Ev (fun k => product_Check.j2 k b s cur mult tick low high ph) (if b = true then 2 else (if 1 ≤ tick ∧ tick ≤ 16777216 then prodT tick low high else 16)) := by
  refine Ev.step (fun _ => by rw [product_Check.j2]) ?_
  refine ev_if (fun _ => ev_some rfl) (fun hb => ?_)
  by_cases h1 : tick < 1
  · exact ev_pos h1 (ev_rw (by rw [if_pos rfl, if_neg (show ¬ (1 ≤ tick ∧ tick ≤ 16777216) by omega)]) (pj3 true s cur mult tick low high ph (by simp)))
  · refine ev_neg h1 (ev_rw ?_ (pj3 (decide (tick > 16777216)) s cur mult tick low high ph (fun _ => by omega)))
    by_cases h2 : tick > 16777216
    · rw [decide_eq_true h2, if_pos rfl, if_neg (show ¬ (1 ≤ tick ∧ tick ≤ 16777216) by omega)]
    · rw [decide_eq_false h2, if_neg (show ¬ (false = true) by decide), if_pos (show 1 ≤ tick ∧ tick ≤ 16777216 by omega)]
theorem pj1 (b : Bool) (s : ByteArray) (cur mult tick low high : Int) (ph : Bool) : Ev (fun k => product_Check.j1 k b s cur mult tick low high ph) (if b = true then 25 else (if 1 ≤ mult ∧ mult ≤ 4096 then (if 1 ≤ tick ∧ tick ≤ 16777216 then prodT tick low high else 16) else 2)) := by
  refine Ev.step (fun _ => by rw [product_Check.j1]) ?_
  refine ev_if (fun _ => ev_some rfl) (fun hb => ?_)
  by_cases h1 : mult < 1
  · exact ev_pos h1 (ev_rw (by rw [if_pos rfl, if_neg (show ¬ (1 ≤ mult ∧ mult ≤ 4096) by omega)]) (pj2 true s cur mult tick low high ph))
  · refine ev_neg h1 (ev_rw ?_ (pj2 (decide (mult > 4096)) s cur mult tick low high ph))
    by_cases h2 : mult > 4096
    · rw [decide_eq_true h2, if_pos rfl, if_neg (show ¬ (1 ≤ mult ∧ mult ≤ 4096) by omega)]
    · rw [decide_eq_false h2, if_neg (show ¬ (false = true) by decide), if_pos (show 1 ≤ mult ∧ mult ≤ 4096 by omega)]
theorem pj0 (b : Bool) (s : ByteArray) (cur mult tick low high : Int) (ph : Bool) : Ev (fun k => product_Check.j0 k b s cur mult tick low high ph) (if b = true then 10 else (if 0 ≤ cur ∧ cur ≤ 7 then (if 1 ≤ mult ∧ mult ≤ 4096 then (if 1 ≤ tick ∧ tick ≤ 16777216 then prodT tick low high else 16) else 2) else 25)) := by
  refine Ev.step (fun _ => by rw [product_Check.j0]) ?_
  refine ev_if (fun _ => ev_some rfl) (fun hb => ?_)
  by_cases h1 : cur < 0
  · exact ev_pos h1 (ev_rw (by rw [if_pos rfl, if_neg (show ¬ (0 ≤ cur ∧ cur ≤ 7) by omega)]) (pj1 true s cur mult tick low high ph))
  · refine ev_neg h1 (ev_rw ?_ (pj1 (decide (cur ≥ 8)) s cur mult tick low high ph))
    by_cases h2 : cur ≥ 8
    · rw [decide_eq_true h2, if_pos rfl, if_neg (show ¬ (0 ≤ cur ∧ cur ≤ 7) by omega)]
    · rw [decide_eq_false h2, if_neg (show ¬ (false = true) by decide), if_pos (show 0 ≤ cur ∧ cur ≤ 7 by omega)]
theorem prod_ev (s : ByteArray) (cur mult tick low high : Int) (ph : Bool) : Ev (fun k => product_Check.f k s cur mult tick low high ph) (prodV s cur mult tick low high) := by
  unfold product_Check.f prodV
  by_cases h0 : (s.toList == ([] : List UInt8) && (cur == 0 && (mult == 0 && (tick == 0 && (low == 0 && (high == 0 && (!ph))))))) = true
  · have hs : nameOk s = false := by
      unfold nameOk
      have h1 : s.toList = [] := by
        simp only [Bool.and_eq_true, beq_iff_eq] at h0
        exact h0.1
      rw [if_pos ((size_nil s).1 h1)]
    rw [hs, if_neg (show ¬ (false = true) by decide)]
    exact ev_pos h0 (ev_rw (if_pos rfl) (pj0 true s cur mult tick low high ph))
  · refine ev_neg h0 (ev_bnd (name_ev s) ?_)
    cases hn : nameOk s with
    | true => exact ev_rw (by rw [if_neg (show ¬ ((!true) = true) by decide), if_pos rfl]; rfl) (pj0 (!true) s cur mult tick low high ph)
    | false => exact ev_rw (by rw [if_pos (show (!false) = true from rfl), if_neg (show ¬ (false = true) by decide)]) (pj0 (!false) s cur mult tick low high ph)
def valV (s : ByteArray) (cur mult tick low high price qty : Int) : Int × Int :=
  if prodV s cur mult tick low high = 0 then (if withinB price 33554432 = true then (if withinB qty 1048576 = true then (wrap64 (wrap64 (price * mult) * qty), 0) else (0, 18)) else (0, 17)) else (0, prodV s cur mult tick low high)
theorem val_ev (s : ByteArray) (cur mult tick low high : Int) (ph : Bool) (price qty : Int) : Ev (fun k => product_Value.f k s cur mult tick low high ph price qty) (valV s cur mult tick low high price qty) := by
  unfold product_Value.f valV
  refine ev_bnd (prod_ev s cur mult tick low high ph) (ev_if (fun _ => ?_) (fun _ => ev_some rfl))
  refine ev_val (within_eq price 33554432 (by omega) (by omega)) (ev_if (fun _ => ?_) (fun _ => ev_some rfl))
  exact ev_val (within_eq qty 1048576 (by omega) (by omega)) (ev_if (fun _ => ev_some rfl) (fun _ => ev_some rfl))
/-! ### sums -/
def sumI : List Int → Int
  | [] => 0
  | a :: l => a + sumI l
def sumAns (l : List Int) : Int × Int := if l.all (fun a => decide (fitsP a)) = true then (if fitsP (sumI l) then (sumI l, 0) else (0, 3)) else (0, 2)
theorem sdrop (l : List Int) (i : Nat) (h : i < l.length) : l.drop i = l.getD i 0 :: l.drop (i + 1) := by
  rw [List.drop_eq_getElem_cons h, List.getD_eq_getElem?_getD, List.getElem?_eq_getElem h]; rfl
theorem and32s (x : Int) (h0 : -9223372036854775808 ≤ x) (h1 : x ≤ 9223372036854775807) : Go.bits .and .i64 x 4294967295 = x % 4294967296 := by
  show IntKind.i64.wrap ((BitVec.ofInt 64 x &&& BitVec.ofInt 64 4294967295).toNat : Int) = _
  have h2 : (BitVec.ofInt 64 4294967295).toNat = 2 ^ 32 - 1 := by decide
  rw [BitVec.toNat_and, h2, Nat.and_two_pow_sub_one_eq_mod, BitVec.toNat_ofInt, IntKind.wrap_i64]
  omega
theorem csum_go (l : List Int) (hl : l.length ≤ 1073741824) (d : Nat) : ∀ (i : Nat) (h w : Int), l.length - i = d → i ≤ l.length → -(i * 268435456) ≤ h → h ≤ i * 268435456 → 0 ≤ w → w ≤ i * 4294967296 →
    Ev (fun k => cents_Sum.l0 k l h w (l.length : Int) (i : Int)) (if (l.drop i).all (fun a => decide (fitsP a)) = true then (if fitsP (h * 4294967296 + w + sumI (l.drop i)) then (h * 4294967296 + w + sumI (l.drop i), 0) else (0, 3)) else (0, 2)) := by
  induction d with
  | zero =>
    intro i h w hd hi a1 a2 a3 a4
    refine Ev.step (fun _ => rfl) (ev_neg (by omega) ?_)
    rw [List.drop_eq_nil_of_le (show l.length ≤ i by omega)]
    show Ev _ (if fitsP (h * 4294967296 + w + 0) then (h * 4294967296 + w + 0, 0) else (0, 3))
    rw [Int.add_zero, w64i (h + w / 4294967296) (by omega) (by omega), and32s w (by omega) (by omega)]
    by_cases b1 : h + w / 4294967296 < -268435456
    · refine ev_pos b1 (ev_some ?_)
      rw [if_neg (by unfold fitsP; omega)]
    refine ev_neg b1 ?_
    by_cases b2 : h + w / 4294967296 > 268435456
    · refine ev_pos b2 (ev_some ?_)
      rw [if_neg (by unfold fitsP; omega)]
    refine ev_neg b2 ?_
    rw [w64i ((h + w / 4294967296) * 4294967296) (by omega) (by omega), w64i (_ + w % 4294967296) (by omega) (by omega), show (h + w / 4294967296) * 4294967296 + w % 4294967296 = h * 4294967296 + w by omega]
    unfold cents_fitting.f
    by_cases b3 : fitsP (h * 4294967296 + w)
    · rw [if_pos b3]; refine Ev.congr (f := fun _ => some _) (fun _ => ?_) (Ev.now _)
      rw [cfits_eq, decide_eq_true b3]; rfl
    · rw [if_neg b3]; refine Ev.congr (f := fun _ => some _) (fun _ => ?_) (Ev.now _)
      rw [cfits_eq, decide_eq_false b3]; rfl
  | succ d ih =>
    intro i h w hd hi a1 a2 a3 a4
    rw [sdrop l i (by omega)]
    refine Ev.step (fun _ => rfl) (ev_pos (by omega) (ev_pos (by omega) (ev_pos (by omega) ?_)))
    rw [show rd l (i : Int) = l.getD i 0 from rfl]
    generalize l.getD i 0 = a
    refine ev_val (cfits_eq a) ?_
    by_cases ha : fitsP a
    · refine ev_pos (by simp [ha]) ?_
      have hf : fitsP a := ha
      unfold fitsP at hf
      rw [and32s a (by omega) (by omega), w64i (h + a / 4294967296) (by omega) (by omega), w64i (w + a % 4294967296) (by omega) (by omega), w64i ((i : Int) + 1) (by omega) (by omega)]
      have := ih (i + 1) (h + a / 4294967296) (w + a % 4294967296) (by omega) (by omega) (by omega) (by omega) (by omega) (by omega)
      rw [show ((i + 1 : Nat) : Int) = (i : Int) + 1 by omega, show (h + a / 4294967296) * 4294967296 + (w + a % 4294967296) + sumI (l.drop (i + 1)) = h * 4294967296 + w + sumI (a :: l.drop (i + 1)) by simp only [sumI]; omega] at this
      rw [List.all_cons, decide_eq_true ha, Bool.true_and]
      exact this
    · refine ev_neg (by simp [ha]) (ev_some ?_)
      rw [List.all_cons, decide_eq_false ha, Bool.false_and, if_neg (by simp)]
theorem csum_ev (l : List Int) (hl : l.length ≤ 1073741824) : Ev (fun k => cents_Sum.f k l) (sumAns l) := by
  have h := csum_go l hl l.length 0 0 0 (by omega) (by omega) (by omega) (by omega) (by omega) (by omega)
  rw [List.drop_zero, show (0 : Int) * 4294967296 + 0 + sumI l = sumI l by omega] at h
  exact h
/-! ### giveup: what Even tells, and the page's example -/
theorem w14 (x : Int) (h0 : -9223372036854775808 ≤ x) (h1 : x ≤ 9223372036854775807) : wrap64 x = x := by unfold wrap64; omega
def wts (l : List S43) : List Int := l.map (fun p => p.f1)
def spV (rest : Int) (w : List Int) : List Int × Int := (share_Split.f rest w).getD ([], 0)
def evenV (l : List S41) (tick : Int) (parts : List S43) : Int × List Int × Int :=
  if (avgV l tick).2.2 = 0 then (if partV (sumT l) parts = 0 then (if (spV (avgV l tick).2.1 (wts parts)).2 = 0 then ((avgV l tick).1, (spV (avgV l tick).2.1 (wts parts)).1, 0) else (0, [], (spV (avgV l tick).2.1 (wts parts)).2)) else (0, [], partV (sumT l) parts)) else (0, [], (avgV l tick).2.2)
theorem avg_ok (l : List S41) (tick : Int) (h : (avgV l tick).2.2 = 0) : 1 ≤ tick ∧ tick ≤ 16777216 ∧ 1 ≤ l.length ∧ l.length ≤ 1024 ∧ l.all (fun t => lotsA t.f4) = true ∧ l.all (fun t => pricB t.f5) = true ∧ avgV l tick = avgEnd (sumT l) (costT l) tick := by
  unfold avgV at h ⊢
  by_cases h1 : tick < 1 ∨ tick > 16777216
  · rw [if_pos h1] at h; exact absurd h (by decide)
  · rw [if_neg h1] at h ⊢
    by_cases h2 : l.length = 0 ∨ l.length > 1024
    · rw [if_pos h2] at h; exact absurd h (by decide)
    · rw [if_neg h2] at h ⊢
      by_cases h3 : l.all (fun t => sEq t.f3 (rd_T41 l 0).f3) = true
      · rw [if_pos h3] at h ⊢
        by_cases h4 : l.all (fun t => lotsA t.f4) = true
        · rw [if_pos h4] at h ⊢
          by_cases h5 : l.all (fun t => pricB t.f5) = true
          · rw [if_pos h5]; exact ⟨by omega, by omega, by omega, by omega, h4, h5, rfl⟩
          · rw [if_neg h5] at h; exact absurd h (by decide)
        · rw [if_neg h4] at h; exact absurd h (by decide)
      · rw [if_neg h3] at h; exact absurd h (by decide)
theorem even_qty (parts : List S43) (price rest r : Int) (l : List S41) (hl : l.length ≤ 1024) (ha : l.all (fun t => lotsA t.f4) = true) (res : Int × List Int × Int) (hend : Ev (fun k => (giveup_parted.f (sumT l) parts).bind fun t110 => (if t110 = 0 then (giveup_Even.l1 k price rest ([] : List Int) parts (parts.length : Int) 0) else (some (0, ([] : List Int), t110)))) res) (n : Nat) :
    ∀ (i : Nat) (q : Int), i + n = l.length → 0 ≤ q → q ≤ 1048576 * i → q + sumT (l.drop i) = sumT l → Ev (fun k => giveup_Even.l0 k parts price rest q l (l.length : Int) (i : Int)) res := by
  induction n with
  | zero =>
    intro i q hi _ _ hs
    obtain rfl : i = l.length := by omega
    rw [List.drop_length] at hs
    simp only [sumT, Int.add_zero] at hs
    subst hs
    refine Ev.step (fun _ => by rw [giveup_Even.l0]) ?_
    exact ev_neg (by omega) hend
  | succ n ih =>
    intro i q hi h0 h1 hs
    have hp := lotsA_range _ (by have := List.all_eq_true.1 ha _ (mem_T41 l i (by omega)); exact this)
    rw [drop_T41 l i (by omega)] at hs
    simp only [sumT] at hs
    refine Ev.step (fun _ => by rw [giveup_Even.l0]) ?_
    refine ev_pos (by omega) (ev_pos (by omega) (ev_pos (by omega) ?_))
    rw [w14 (q + _) (by omega) (by omega), w14 ((i : Int) + 1) (by omega) (by omega)]
    exact ih (i + 1) _ (by omega) (by omega) (by omega) (by omega)
theorem even_wts (parts : List S43) (price rest : Int) (hl : parts.length ≤ 1024) (res : Int × List Int × Int) (hend : Ev (fun _ => (share_Split.f rest (wts parts)).bind fun bt => (if bt.2 = 0 then (some (price, bt.1, 0)) else (some (0, ([] : List Int), bt.2)))) res) (n : Nat) :
    ∀ (i : Nat), i + n = parts.length → Ev (fun k => giveup_Even.l1 k price rest (wts (parts.take i)) parts (parts.length : Int) (i : Int)) res := by
  induction n with
  | zero =>
    intro i hi
    obtain rfl : i = parts.length := by omega
    rw [List.take_length]
    refine Ev.step (fun _ => by rw [giveup_Even.l1]) ?_
    exact ev_neg (by omega) hend
  | succ n ih =>
    intro i hi
    have hw : (wts (parts.take i)).length = i := by unfold wts; rw [List.length_map, List.length_take]; omega
    have hn : wts (parts.take i) ++ [(rd_T43 parts (i : Int)).f1] = wts (parts.take (i + 1)) := by
      unfold wts rd_T43
      rw [List.take_add_one, List.map_append, List.getElem?_eq_getElem (by omega), Int.toNat_natCast, List.getD_eq_getElem?_getD, List.getElem?_eq_getElem (by omega)]
      rfl
    refine Ev.step (fun _ => by rw [giveup_Even.l1]) ?_
    refine ev_pos (by omega) (ev_pos (by omega) (ev_pos (by omega) (ev_pos (by rw [hw]; omega) ?_)))
    rw [hn, w14 ((i : Int) + 1) (by omega) (by omega)]
    exact ih (i + 1) (by omega)
theorem part_len (q : Int) (parts : List S43) (h : partV q parts = 0) : 1 ≤ parts.length ∧ parts.length ≤ 1024 := by
  unfold partV at h
  by_cases h1 : parts.length = 0 ∨ parts.length > 1024
  · rw [if_pos h1] at h; exact absurd h (by decide)
  · omega
theorem even_ev (l : List S41) (tick : Int) (parts : List S43) (hsp : ∀ rest w, ∃ r, share_Split.f rest w = some r) : Ev (fun k => giveup_Even.f k l tick parts) (evenV l tick parts) := by
  unfold giveup_Even.f evenV
  refine ev_val (show giveup_Average.f l tick = some (avgV l tick) from rfl) ?_
  by_cases h : (avgV l tick).2.2 = 0
  · refine ev_rw (if_pos h).symm (ev_pos h ?_)
    obtain ⟨_, _, _, h4, h5, _, _⟩ := avg_ok l tick h
    refine even_qty parts _ _ tick l h4 h5 _ ?_ l.length 0 0 (by omega) (by omega) (by omega) (by rw [List.drop_zero]; omega)
    refine ev_val (show giveup_parted.f (sumT l) parts = some (partV (sumT l) parts) from rfl) ?_
    by_cases hp : partV (sumT l) parts = 0
    · refine ev_rw (if_pos hp).symm (ev_pos hp ?_)
      refine even_wts parts _ _ (part_len _ _ hp).2 _ ?_ parts.length 0 (by omega)
      obtain ⟨r, hr⟩ := hsp (avgV l tick).2.1 (wts parts)
      have hv : spV (avgV l tick).2.1 (wts parts) = r := by unfold spV; rw [hr]; rfl
      rw [hv]
      refine ev_val hr ?_
      by_cases he : r.2 = 0
      · exact ev_rw (if_pos he).symm (ev_pos he (ev_some rfl))
      · exact ev_rw (if_neg he).symm (ev_neg he (ev_some rfl))
    · exact ev_rw (if_neg hp).symm (ev_neg hp (ev_some rfl))
  · exact ev_rw (if_neg h).symm (ev_neg h (ev_some rfl))
/-! ### bounds; the price and the rest without wrapping -/
theorem sumT_range : ∀ (l : List S41), l.all (fun t => lotsA t.f4) = true → (l.length : Int) ≤ sumT l ∧ sumT l ≤ 1048576 * l.length := by
  intro l
  induction l with
  | nil => intro _; simp [sumT]
  | cons t l ih =>
    intro h
    rw [List.all_cons, Bool.and_eq_true] at h
    have := ih h.2
    have := lotsA_range _ h.1
    simp only [sumT, List.length_cons]
    omega
theorem mul_range (p q : Int) (hp : -16777216 ≤ p ∧ p ≤ 16777216) (hq : 1 ≤ q ∧ q ≤ 1048576) : -(16777216 * q) ≤ p * q ∧ p * q ≤ 16777216 * q := by
  have h1 := Int.mul_le_mul_of_nonneg_right hp.2 (show 0 ≤ q by omega)
  have h2 := Int.mul_le_mul_of_nonneg_right hp.1 (show 0 ≤ q by omega)
  omega
theorem costT_range : ∀ (l : List S41), l.all (fun t => lotsA t.f4) = true → l.all (fun t => pricB t.f5) = true → -(16777216 * sumT l) ≤ costT l ∧ costT l ≤ 16777216 * sumT l := by
  intro l
  induction l with
  | nil => intro _ _; simp [sumT, costT]
  | cons t l ih =>
    intro h g
    rw [List.all_cons, Bool.and_eq_true] at h g
    have := ih h.2 g.2
    have := mul_range _ _ (pricB_range _ g.1) (lotsA_range _ h.1)
    simp only [sumT, costT]
    omega
theorem scale (a b q : Int) (hq : 1 ≤ q) (h : q * a ≤ b) (hb : 0 ≤ b) : a ≤ b := by
  by_cases ha : 0 ≤ a
  · have := Int.mul_le_mul_of_nonneg_right hq ha
    omega
  · omega
theorem avg_closed (q s tick : Int) (hq : 1 ≤ q ∧ q ≤ 1073741824) (ht : 1 ≤ tick ∧ tick ≤ 16777216) (hs : -(16777216 * q) ≤ s ∧ s ≤ 16777216 * q) :
    1 ≤ q * tick ∧ q * tick ≤ 18014398509481984 ∧ avgEnd q s tick = (s / (q * tick) * tick, s % (q * tick), 0) ∧ (-36028797018963968 ≤ s / (q * tick) * tick ∧ s / (q * tick) * tick ≤ 36028797018963968) ∧ (-36028797018963968 ≤ s / (q * tick) ∧ s / (q * tick) ≤ 36028797018963968) := by
  have h1 : 1 ≤ q * tick := by have := Int.mul_le_mul_of_nonneg_right hq.1 (show 0 ≤ tick by omega); omega
  have h2 : q * tick ≤ 18014398509481984 := by
    have a := Int.mul_le_mul_of_nonneg_right hq.2 (show 0 ≤ tick by omega); omega
  have e1 := Int.emod_nonneg s (show q * tick ≠ 0 by omega)
  have e2 := Int.emod_lt_of_pos s (show 0 < q * tick by omega)
  have e3 := Int.mul_ediv_add_emod s (q * tick)
  have e4 : q * tick * (s / (q * tick)) = q * (s / (q * tick) * tick) := by rw [Int.mul_assoc, Int.mul_comm tick]
  have b1 := scale (s / (q * tick) * tick) 36028797018963968 q hq.1 (by omega) (by omega)
  have b2 := scale (-(s / (q * tick) * tick)) 36028797018963968 q hq.1 (by rw [Int.mul_neg]; omega) (by omega)
  have c1 := scale (s / (q * tick)) 36028797018963968 tick ht.1 (by rw [Int.mul_comm]; omega) (by omega)
  have c2 := scale (-(s / (q * tick))) 36028797018963968 tick ht.1 (by rw [Int.mul_neg, Int.mul_comm]; omega) (by omega)
  refine ⟨h1, h2, ?_, ⟨by omega, by omega⟩, ⟨by omega, by omega⟩⟩
  unfold avgEnd
  rw [w14 (s - s % (q * tick)) (by omega) (by omega), show s - s % (q * tick) = q * (s / (q * tick) * tick) by omega, Int.mul_tdiv_cancel_left _ (show q ≠ 0 by omega), w14 _ (by omega) (by omega)]
/-! ### the reference's lots -/
/-! ### what Even's answer is, where it is one -/
structure EvenIs (l : List S41) (tick : Int) (parts : List S43) (price : Int) (p : List Int) : Prop where
  tk : 1 ≤ tick ∧ tick ≤ 16777216
  l1 : 1 ≤ l.length
  ln : l.length ≤ 1024
  al : l.all (fun t => lotsA t.f4) = true
  ap : l.all (fun t => pricB t.f5) = true
  pn : parts.length ≤ 1024
  pl : p.length = parts.length
  pw : (wts parts).all (fun n => lotsB n) = true
  ws : isum (wts parts) = sumT l
  ps : isum p = costT l % (sumT l * tick)
  p0 : ∀ a ∈ p, 0 ≤ a
  pr : price = costT l / (sumT l * tick) * tick
theorem wts_sum (parts : List S43) : isum (wts parts) = sumQ parts := by
  unfold wts
  induction parts with
  | nil => rfl
  | cons t l ih => simp only [List.map_cons, isum, sumQ, ih]
theorem even_is (l : List S41) (tick : Int) (parts : List S43) (h : (evenV l tick parts).2.2 = 0) : EvenIs l tick parts (evenV l tick parts).1 (evenV l tick parts).2.1 := by
  unfold evenV at h ⊢
  by_cases h1 : (avgV l tick).2.2 = 0
  · rw [if_pos h1] at h ⊢
    by_cases h2 : partV (sumT l) parts = 0
    · rw [if_pos h2] at h ⊢
      by_cases h3 : (spV (avgV l tick).2.1 (wts parts)).2 = 0
      · rw [if_pos h3] at h ⊢
        obtain ⟨ht1, ht2, hl1, hl, ha, hp, hv⟩ := avg_ok l tick h1
        have hs := sumT_range l ha
        have hc := costT_range l ha hp
        obtain ⟨g1, g2, g3, g4, g5⟩ := avg_closed (sumT l) (costT l) tick ⟨by omega, by omega⟩ ⟨ht1, ht2⟩ hc
        have hpl := part_len _ _ h2
        have hq : (parts.all (fun p => lotsB p.f1) = true) ∧ sumQ parts = sumT l := by
          unfold partV at h2
          rw [if_neg (by omega)] at h2
          by_cases k1 : parts.all (fun p => lotsB p.f1) = true
          · rw [if_pos k1] at h2
            by_cases k2 : sumQ parts = sumT l
            · exact ⟨k1, k2⟩
            · rw [if_neg k2] at h2; exact absurd h2 (by decide)
          · rw [if_neg k1] at h2; exact absurd h2 (by decide)
        have hw : (wts parts).all (fun n => lotsB n) = true := by unfold wts; rw [List.all_map]; exact hq.1
        have hnn : ∀ a ∈ wts parts, 0 ≤ a := fun a ha => by have := lots_range _ (List.all_eq_true.1 hw a ha); omega
        have hsw : isum (wts parts) = sumT l := by rw [wts_sum]; exact hq.2
        rw [hv, g3] at h3 ⊢
        have e1 := Int.emod_nonneg (costT l) (show sumT l * tick ≠ 0 by omega)
        have e2 := Int.emod_lt_of_pos (costT l) (show 0 < sumT l * tick by omega)
        have hsp : spV (costT l % (sumT l * tick)) (wts parts) = (splitParts (costT l % (sumT l * tick)) (isum (wts parts)) (wts parts), 0) := by
          have hk : okMoney (costT l % (sumT l * tick)) = true := (okMoney_iff _).2 ⟨e1, by omega⟩
          have hwo : weighedOk (wts parts) = true := by
            unfold weighedOk
            rw [(all_okMoney (wts parts)).2 (fun j hj => by have := lots_range _ (List.all_eq_true.1 hw _ (mem_getD _ j hj)); omega), Bool.true_and]
            exact decide_eq_true (by omega)
          unfold spV share_Split.f
          rw [if_pos hk, if_neg (by unfold wts; rw [List.length_map]; omega), if_pos hwo, if_neg (by omega)]
          rfl
        rw [hsp]
        obtain ⟨s1, s2, up, s3, _⟩ := split_is (costT l % (sumT l * tick)) (wts parts) e1 (by omega) hnn
        refine ⟨⟨ht1, ht2⟩, hl1, hl, ha, hp, hpl.2, by rw [s1]; unfold wts; rw [List.length_map], hw, hsw, s2, ?_, rfl⟩
        intro a ha
        obtain ⟨j, hj, rfl⟩ := getD_mem _ a ha
        rw [s1] at hj
        rw [(s3 j hj).1]
        have : 0 ≤ costT l % (sumT l * tick) * (wts parts).getD j 0 / isum (wts parts) := Int.ediv_nonneg (Int.mul_nonneg e1 (hnn _ (mem_getD _ j hj))) (by omega)
        split <;> omega
      · rw [if_neg h3] at h; exact absurd h h3
    · rw [if_neg h2] at h; exact absurd h h2
  · rw [if_neg h1] at h; exact absurd h h1
theorem wts_rd (parts : List S43) (i : Nat) (h : i < parts.length) : rd (wts parts) (i : Int) = (rd_T43 parts (i : Int)).f1 := by
  unfold rd wts rd_T43
  rw [Int.toNat_natCast, List.getD_eq_getElem?_getD, List.getD_eq_getElem?_getD, List.getElem?_map, List.getElem?_eq_getElem h]
  rfl
theorem goes10_ev : Ev (fun k => contangotop_goes10.f k) true := Ev.of (fun k => contangotop_goes10.mono k) (k := 100) (by decide +kernel)
theorem goes10t : Ev (fun k => (contangotop_goes10.f k).bind fun t => some t) true := ev_bnd goes10_ev (ev_some rfl)
theorem cmul_ev (a b : Int) (ha : 0 ≤ a ∧ a ≤ 1152921504606846976) (hb : 0 < b ∧ b ≤ 1152921504606846976) : Ev (fun k => cents_Mul.f k a b) (if a * b > 1152921504606846976 then (0, 3) else (a * b, 0)) := by
  have fa : fitsP a := by unfold fitsP; omega
  have fb : fitsP b := by unfold fitsP; omega
  unfold cents_Mul.f
  refine ev_val (cfits_eq a) ?_
  rw [decide_eq_true fa]
  refine ev_pos rfl (ev_val (cfits_eq b) ?_)
  rw [decide_eq_true fb]
  refine Ev.step (fun _ => by rw [cents_Mul.j0]) ?_
  refine ev_neg (by decide) (ev_val (csize_eq a fa) (ev_val (csize_eq b fb) ?_))
  have ea : absI a = a := by unfold absI; rw [if_neg (by omega)]
  have eb : absI b = b := by unfold absI; rw [if_neg (by omega)]
  rw [ea, eb]
  have hp := mulb _ _ _ _ ha.1 ha.2 (show 0 ≤ b by omega) hb.2
  refine ev_val (mul64_eq _ _ ha.1 (by omega) (by omega) (by omega)) ?_
  rw [decide_eq_false (show ¬ a < 0 by omega), decide_eq_false (show ¬ b < 0 by omega)]
  generalize a * b = N at *
  by_cases h : N / 18446744073709551616 > 0
  · exact ev_pos h (ev_some (by rw [if_pos (by omega)]))
  · refine ev_neg h (ev_val (csigned_eq _ _ (by omega)) (ev_some ?_))
    rw [show N % 18446744073709551616 = N by omega]
    by_cases h2 : N > 1152921504606846976
    · rw [if_pos h2, if_pos h2]
    · rw [if_neg h2, if_neg h2]; rfl
theorem bnd_mul2 (P q B : Int) (hP : -B ≤ P ∧ P ≤ B) (hq : 0 ≤ q) : -(B * q) ≤ P * q ∧ P * q ≤ B * q := by
  have h1 := Int.mul_le_mul_of_nonneg_right hP.2 hq
  have h2 := Int.mul_le_mul_of_nonneg_right hP.1 hq
  rw [Int.neg_mul] at h2
  omega
theorem even_price {l : List S41} {tick : Int} {parts : List S43} {price : Int} {p : List Int} (h : EvenIs l tick parts price p) : (-33554432 ≤ price ∧ price ≤ 33554432) ∧ sumT l * price + isum p = costT l ∧ isum p ≤ 1152921504606846976 := by
  have hs := sumT_range l h.al
  have hl1 := h.l1
  have hc := costT_range l h.al h.ap
  have hln := h.ln
  have htk := h.tk
  obtain ⟨g1, g2, g3, g4, g5⟩ := avg_closed (sumT l) (costT l) tick ⟨by omega, by omega⟩ htk hc
  have e1 := Int.emod_nonneg (costT l) (show sumT l * tick ≠ 0 by omega)
  have e2 := Int.emod_lt_of_pos (costT l) (show 0 < sumT l * tick by omega)
  have e3 := Int.mul_ediv_add_emod (costT l) (sumT l * tick)
  have hpr := h.pr
  have hps := h.ps
  have e4 : sumT l * tick * (costT l / (sumT l * tick)) = sumT l * price := by rw [hpr, Int.mul_assoc, Int.mul_comm tick]
  have e5 : sumT l * tick ≤ 16777216 * sumT l := by
    have := Int.mul_le_mul_of_nonneg_left htk.2 (show 0 ≤ sumT l by omega); omega
  have b1 : sumT l * price ≤ sumT l * 33554432 := by omega
  have b2 : sumT l * (-33554432) ≤ sumT l * price := by omega
  exact ⟨⟨Int.le_of_mul_le_mul_left b2 (by omega), Int.le_of_mul_le_mul_left b1 (by omega)⟩, by omega, by omega⟩
theorem sumI_app : ∀ (l m : List Int), sumI (l ++ m) = sumI l + sumI m
  | [], m => by simp [sumI]
  | a :: l, m => by rw [List.cons_append, sumI, sumI, sumI_app l m]; omega
theorem prod_mult {s : ByteArray} {cur mult tick low high : Int} (h : prodV s cur mult tick low high = 0) : 1 ≤ mult ∧ mult ≤ 4096 := by
  unfold prodV at h
  by_cases h1 : nameOk s = true
  · rw [if_pos h1] at h
    by_cases h2 : 0 ≤ cur ∧ cur ≤ 7
    · rw [if_pos h2] at h
      by_cases h3 : 1 ≤ mult ∧ mult ≤ 4096
      · exact h3
      · rw [if_neg h3] at h; cases h
    · rw [if_neg h2] at h; cases h
  · rw [if_neg h1] at h; cases h
theorem val_ok {s : ByteArray} {cur mult tick low high : Int} (h : prodV s cur mult tick low high = 0) (price qty : Int) (hp : -33554432 ≤ price ∧ price ≤ 33554432) (hq : 1 ≤ qty ∧ qty ≤ 1048576) : valV s cur mult tick low high price qty = (mult * (price * qty), 0) ∧ fitsP (mult * (price * qty)) := by
  have hm := prod_mult h
  have h1 := bnd_mul2 price mult 33554432 ⟨by omega, by omega⟩ (by omega)
  have h2 := bnd_mul2 (price * mult) qty 137438953472 ⟨by omega, by omega⟩ (by omega)
  have e : price * mult * qty = mult * (price * qty) := by rw [Int.mul_comm price mult, Int.mul_assoc]
  unfold valV
  rw [if_pos h, if_pos (by unfold withinB; rw [decide_eq_true (show -33554432 ≤ price by omega), decide_eq_true (show price ≤ 33554432 by omega)]; rfl), if_pos (by unfold withinB; rw [decide_eq_true (show -1048576 ≤ qty by omega), decide_eq_true (show qty ≤ 1048576 by omega)]; rfl), w64id (price * mult) (by omega) (by omega), w64id _ (by omega) (by omega), e]
  refine ⟨rfl, ?_⟩
  rw [← e]
  unfold fitsP
  omega
theorem sumAns_fits (l : List Int) (h : ∀ a ∈ l, fitsP a) : sumAns l = if fitsP (sumI l) then (sumI l, 0) else (0, 3) := by
  unfold sumAns
  rw [if_pos (List.all_eq_true.2 fun a ha => decide_eq_true (h a ha))]
theorem TopAverage : ∀ (a0_0 : ByteArray) (a0_1 : Int) (a0_2 : Int) (a0_3 : Int) (a0_4 : Int) (a0_5 : Int) (a0_6 : Bool) (l1 : List (S41)) (a2_0 : Int) (l2_1 : List (S43)), a0_0.size ≤ maxLen → (Lit.int .i64 a0_1).wf = true → (Lit.int .i64 a0_2).wf = true → (Lit.int .i64 a0_3).wf = true → (Lit.int .i64 a0_4).wf = true → (Lit.int .i64 a0_5).wf = true → l1.length ≤ maxLen → (∀ x0 ∈ l1, (Lit.int .i64 x0.f0).wf = true ∧ (Lit.int .i64 x0.f1).wf = true ∧ (Lit.int .i64 x0.f2).wf = true ∧ x0.f3.f0.size ≤ maxLen ∧ (Lit.int .i64 x0.f3.f1).wf = true ∧ (Lit.int .i64 x0.f3.f2).wf = true ∧ (Lit.int .i64 x0.f3.f3).wf = true ∧ (Lit.int .i64 x0.f4).wf = true ∧ (Lit.int .i64 x0.f5).wf = true ∧ x0.f6.f0.size ≤ maxLen ∧ x0.f6.f1.size ≤ maxLen ∧ x0.f7.f0.size ≤ maxLen ∧ x0.f7.f1.size ≤ maxLen) → (Lit.int .i64 a2_0).wf = true → l2_1.length ≤ maxLen → (∀ x0 ∈ l2_1, x0.f0.f0.size ≤ maxLen ∧ x0.f0.f1.size ≤ maxLen ∧ (Lit.int .i64 x0.f1).wf = true) → ∃ k, contangotop_TopAverage.f k a0_0 a0_1 a0_2 a0_3 a0_4 a0_5 a0_6 l1 a2_0 l2_1 = some true := by
  intro s cur mult ptick low high ph l tick parts _ _ _ _ _ _ _ _ _ _ _
  refine Ev.rounds ?_
  have hend : Ev (fun k => contangotop_TopAverage.j0 k l true s cur mult ptick low high ph tick parts) true := by
    refine Ev.step (fun _ => by rw [contangotop_TopAverage.j0]) ?_
    exact ev_pos rfl goes10t
  unfold contangotop_TopAverage.f
  by_cases c0 : (l.length : Int) > 60
  · exact ev_pos c0 hend
  refine ev_neg c0 ?_
  by_cases c1 : (parts.length : Int) > 60
  · rw [decide_eq_true c1]; exact hend
  rw [decide_eq_false c1]
  clear hend
  refine Ev.step (fun _ => by rw [contangotop_TopAverage.j0]) ?_
  refine ev_neg (by decide) (ev_bnd (even_ev l tick parts (fun _ _ => ⟨_, rfl⟩)) ?_)
  by_cases he : (evenV l tick parts).2.2 = 0
  case neg =>
    refine ev_neg he ?_
    refine Ev.step (fun _ => by rw [contangotop_TopAverage.j1]) ?_
    exact ev_pos rfl (ev_neg he goes10t)
  refine ev_pos he (ev_bnd (prod_ev s cur mult ptick low high ph) ?_)
  by_cases hp : prodV s cur mult ptick low high = 0
  case neg =>
    refine ev_neg hp ?_
    refine Ev.step (fun _ => by rw [contangotop_TopAverage.j1]) ?_
    exact ev_pos rfl (ev_pos he (ev_bnd (prod_ev s cur mult ptick low high ph) (ev_neg hp goes10t)))
  refine ev_pos hp ?_
  have E := even_is l tick parts he
  generalize (evenV l tick parts).1 = price at *
  generalize (evenV l tick parts).2.1 = p at *
  rw [he]
  have hpl := E.pl
  have hln := E.ln
  have hpn := E.pn
  have hm := prod_mult hp
  obtain ⟨hpb, hpc, hpt⟩ := even_price E
  rw [show ((p.length : Int) != (parts.length : Int)) = false by rw [bne_eq_false_iff_eq]; omega]
  refine Ev.step (fun _ => by rw [contangotop_TopAverage.j1]) ?_
  refine ev_neg (by decide) ?_
  have hcost := costT_range l E.al E.ap
  have hnn : ∀ a ∈ wts parts, 0 ≤ a := fun a ha => by have := lots_range _ (List.all_eq_true.1 E.pw a ha); omega
  have hwl : (wts parts).length = parts.length := by unfold wts; rw [List.length_map]
  have hlast : ∀ cost : List Int, cost.length ≤ 1024 → (∀ a ∈ cost, fitsP a) → sumI cost = mult * costT l → Ev (fun k => contangotop_TopAverage.l1 k price p cost [] 0 s cur mult ptick low high ph tick parts) true := by
    intro cost hcl hcf hcs
    refine ev_down (S := List Int) (n := parts.length) (g := fun k i paid => contangotop_TopAverage.l1 k price p cost paid (i : Int) s cur mult ptick low high ph tick parts) (spec := fun _ _ => true) (inv := fun i paid => paid.length = 2 * i ∧ (∀ a ∈ paid, fitsP a) ∧ sumI paid = mult * (isum ((wts parts).take i) * price + isum (p.take i))) ?_ ?_ 0 [] (by omega) ⟨rfl, by simp, by rw [List.take_zero, List.take_zero, show isum [] = 0 from rfl]; simp [sumI]⟩
    · rintro paid ⟨i1, i2, i3⟩
      rw [List.take_of_length_le (by omega), List.take_of_length_le (by omega), E.ws, hpc] at i3
      refine Ev.step (fun _ => by rw [contangotop_TopAverage.l1]) ?_
      refine ev_neg (by omega) (ev_bnd (csum_ev cost (by omega)) (ev_bnd (csum_ev paid (by omega)) ?_))
      rw [sumAns_fits cost hcf, sumAns_fits paid i2, hcs, i3]
      exact ev_pos rfl (ev_pos rfl goes10t)
    · rintro i paid hi ⟨i1, i2, i3⟩ ih
      have hw := lots_range _ (List.all_eq_true.1 E.pw _ (mem_getD (wts parts) i (by omega)))
      have hr0 := E.p0 _ (mem_getD p i (by omega))
      have hr1 := mem_le_isum p E.p0 _ (mem_getD p i (by omega))
      have s1 : isum ((wts parts).take (i + 1)) = isum ((wts parts).take i) + (wts parts).getD i 0 := isum_succ (wts parts) i (by omega)
      have s2 : isum (p.take (i + 1)) = isum (p.take i) + p.getD i 0 := isum_succ p i (by omega)
      have hwr : (rd_T43 parts (i : Int)).f1 = (wts parts).getD i 0 := (wts_rd parts i hi).symm
      obtain ⟨v1, v2⟩ := val_ok hp price ((wts parts).getD i 0) hpb hw
      refine Ev.step (fun _ => by rw [contangotop_TopAverage.l1]) ?_
      refine ev_pos (by omega) (ev_pos (by omega) ?_)
      rw [hwr, rd_nat, wsucc i (by omega)]
      refine ev_bnd (val_ev s cur mult ptick low high ph price _) ?_
      rw [v1]
      refine ev_pos (by omega) (ev_bnd (cmul_ev (p.getD i 0) mult ⟨by omega, by omega⟩ ⟨by omega, by omega⟩) (ev_pos (by trivial) ?_))
      by_cases ho : p.getD i 0 * mult > 1152921504606846976
      · rw [if_pos ho]
        exact ev_neg (by decide) (ev_pos rfl goes10t)
      · rw [if_neg ho]
        have hmn : 0 ≤ p.getD i 0 * mult := Int.mul_nonneg hr0 (by omega)
        refine ev_pos (by trivial) (ev_val rfl (ev_pos (by show paid.length + 2 < _; omega) ?_))
        refine ih _ ⟨by rw [List.length_append, i1]; show 2 * i + 2 = _; omega, fun a ha => ?_, ?_⟩
        · rcases List.mem_append.1 ha with ha | ha
          · exact i2 a ha
          · rcases List.mem_cons.1 ha with rfl | ha
            · exact v2
            · rw [List.mem_singleton.1 ha]; unfold fitsP; omega
        · rw [sumI_app, i3, s1, s2]
          simp only [sumI]
          rw [Int.add_mul, Int.mul_add, Int.mul_add, Int.mul_add, Int.mul_add, Int.mul_comm price, Int.mul_comm (p.getD i 0) mult]
          omega
  refine ev_down (S := List Int) (n := l.length) (g := fun k i cost => contangotop_TopAverage.l0 k l price p cost (i : Int) s cur mult ptick low high ph tick parts) (spec := fun _ _ => true) (inv := fun i cost => cost.length = i ∧ (∀ a ∈ cost, fitsP a) ∧ sumI cost + mult * costT (l.drop i) = mult * costT l) ?_ ?_ 0 [] (by omega) ⟨rfl, by simp, by rw [List.drop_zero]; simp [sumI]⟩
  · rintro cost ⟨i1, i2, i3⟩
    rw [List.drop_length] at i3
    simp only [costT, Int.mul_zero, Int.add_zero] at i3
    refine Ev.step (fun _ => by rw [contangotop_TopAverage.l0]) ?_
    exact ev_neg (by omega) (hlast cost (by omega) i2 i3)
  · rintro i cost hi ⟨i1, i2, i3⟩ ih
    have hq := lotsA_range _ (by have := List.all_eq_true.1 E.al _ (mem_T41 l i hi); exact this)
    have hr := pricB_range _ (by have := List.all_eq_true.1 E.ap _ (mem_T41 l i hi); exact this)
    obtain ⟨v1, v2⟩ := val_ok hp (rd_T41 l (i : Int)).f5 (rd_T41 l (i : Int)).f4 ⟨by omega, by omega⟩ hq
    rw [drop_T41 l i hi] at i3
    simp only [costT] at i3
    refine Ev.step (fun _ => by rw [contangotop_TopAverage.l0]) ?_
    refine ev_pos (by omega) (ev_pos (by omega) (ev_bnd (val_ev s cur mult ptick low high ph _ _) ?_))
    rw [v1, wsucc i (by omega)]
    refine ev_pos (by trivial) (ev_pos (by omega) (ih _ ⟨by rw [List.length_append, i1]; rfl, fun a ha => ?_, ?_⟩))
    · rcases List.mem_append.1 ha with ha | ha
      · exact i2 a ha
      · rw [List.mem_singleton.1 ha]; exact v2
    · rw [sumI_app]
      simp only [sumI]
      rw [Int.mul_add] at i3
      omega
end Go.Proofs.Ytlcadahihcefnaa.Pure
