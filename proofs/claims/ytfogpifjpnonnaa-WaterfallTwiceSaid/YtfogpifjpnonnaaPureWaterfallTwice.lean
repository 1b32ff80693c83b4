/- The pure statement of the law WaterfallTwice, proved: plain Lean over numbers and lists, no program in sight. -/
import Derived.Test.YtfogpifjpnonnaaPWaterfallTwicex
namespace Go.Proofs.Ytfogpifjpnonnaa.Pure
open Go.RowKit Go.Proofs.Ytfogpifjpnonnaa.PWaterfallTwice Go.Proofs.YtfogpifjpnonnaaW.PrintWords Go.Proofs.YtfogpifjpnonnaaW.PrintLast Go.Proofs.YtfogpifjpnonnaaW.PrintMore
set_option linter.unusedVariables false
set_option linter.unusedSimpArgs false
/-! ### from some number of rounds on: steps -/
theorem ev_pos {α : Type} {c : Prop} [Decidable c] {a b : Nat → Option α} {r : α} (h : c) (k : Ev a r) : Ev (fun n => if c then a n else b n) r := Ev.congr (fun _ => if_pos h) k
theorem ev_neg {α : Type} {c : Prop} [Decidable c] {a b : Nat → Option α} {r : α} (h : ¬ c) (k : Ev b r) : Ev (fun n => if c then a n else b n) r := Ev.congr (fun _ => if_neg h) k
theorem ev_val {α β : Type} {g : Option α} {f : Nat → α → Option β} {a : α} {r : β} (h : g = some a) (k : Ev (fun n => f n a) r) : Ev (fun n => g.bind (f n)) r := by
  subst h; exact k
theorem ev_some {α : Type} {x r : α} (h : x = r) : Ev (fun _ => some x) r := h ▸ Ev.now x
theorem wsucc (i : Nat) (h : i ≤ 4611686018427387904) : wrap64 ((i : Int) + 1) = ((i + 1 : Nat) : Int) := by
  unfold wrap64; omega
theorem rd_nat (l : List Int) (i : Nat) : rd l (i : Int) = l.getD i 0 := rfl
/-! ### lists given by a function of the place -/
def tab (n : Nat) (f : Nat → Int) : List Int := (List.range n).map f
theorem tab_len (n : Nat) (f : Nat → Int) : (tab n f).length = n := by simp [tab]
theorem tab_getD (n : Nat) (f : Nat → Int) (i : Nat) (h : i < n) : (tab n f).getD i 0 = f i := by
  simp [tab, List.getD_eq_getElem?_getD, h]
theorem list_ext (l m : List Int) (h : l.length = m.length) (he : ∀ i, i < l.length → l.getD i 0 = m.getD i 0) : l = m := by
  apply List.ext_getElem h
  intro i h1 h2
  have := he i h1
  rwa [List.getD_eq_getElem?_getD, List.getD_eq_getElem?_getD, List.getElem?_eq_getElem h1, List.getElem?_eq_getElem h2] at this
theorem tab_congr (n : Nat) (f g : Nat → Int) (h : ∀ j, j < n → f j = g j) : tab n f = tab n g := by
  unfold tab; exact List.map_congr_left (fun a ha => h a (List.mem_range.1 ha))
theorem tab_set (n : Nat) (f : Nat → Int) (i : Nat) (v : Int) : (tab n f).set i v = tab n (fun j => if j = i then v else f j) := by
  apply list_ext
  · simp [tab]
  · intro j hj
    have hj' : j < n := by simpa [tab] using hj
    rw [tab_getD n _ j hj', List.getD_eq_getElem?_getD, List.getElem?_set, tab_len]
    by_cases h : i = j
    · subst h; simp [hj']
    · rw [if_neg h, if_neg (fun e => h e.symm)]
      have := tab_getD n f j hj'
      rwa [List.getD_eq_getElem?_getD] at this
theorem tab_of (l : List Int) : l = tab l.length (fun j => l.getD j 0) := by
  apply list_ext
  · rw [tab_len]
  · intro i hi; rw [tab_getD _ _ _ hi]
theorem tab_zero (n : Nat) : List.replicate n (0 : Int) = tab n (fun _ => 0) := by
  apply list_ext
  · simp [tab]
  · intro i hi
    have hi' : i < n := by simpa using hi
    rw [tab_getD n _ i hi', List.getD_eq_getElem?_getD, List.getElem?_replicate, if_pos hi']; rfl
theorem tab_succ (n : Nat) (f : Nat → Int) : tab (n + 1) f = tab n f ++ [f n] := by simp [tab, List.range_succ]
def sumTo (f : Nat → Int) : Nat → Int
  | 0 => 0
  | n + 1 => sumTo f n + f n
theorem isum_tab (n : Nat) (f : Nat → Int) : isum (tab n f) = sumTo f n := by
  induction n with
  | zero => rfl
  | succ n ih => rw [tab_succ, isum_append, ih]; simp [isum, sumTo]
theorem isum_sumTo (l : List Int) : isum l = sumTo (fun j => l.getD j 0) l.length := by
  conv => lhs; rw [tab_of l]
  exact isum_tab _ _
theorem sumTo_congr (f g : Nat → Int) (n : Nat) (h : ∀ j, j < n → f j = g j) : sumTo f n = sumTo g n := by
  induction n with
  | zero => rfl
  | succ n ih => simp only [sumTo]; rw [ih (fun j hj => h j (by omega)), h n (by omega)]
theorem sumTo_le (f g : Nat → Int) (n : Nat) (h : ∀ j, j < n → f j ≤ g j) : sumTo f n ≤ sumTo g n := by
  induction n with
  | zero => exact Int.le_refl _
  | succ n ih => simp only [sumTo]; have := ih (fun j hj => h j (by omega)); have := h n (by omega); omega
theorem sumTo_nonneg (f : Nat → Int) (n : Nat) (h : ∀ j, j < n → 0 ≤ f j) : 0 ≤ sumTo f n := by
  induction n with
  | zero => exact Int.le_refl _
  | succ n ih => simp only [sumTo]; have := ih (fun j hj => h j (by omega)); have := h n (by omega); omega
theorem sumTo_mono (f : Nat → Int) (i n : Nat) (hi : i ≤ n) (h : ∀ j, j < n → 0 ≤ f j) : sumTo f i ≤ sumTo f n := by
  induction n with
  | zero => have : i = 0 := by omega
            subst this; exact Int.le_refl _
  | succ n ih =>
    by_cases e : i = n + 1
    · subst e; exact Int.le_refl _
    · simp only [sumTo]; have := ih (by omega) (fun j hj => h j (by omega)); have := h n (by omega); omega
theorem sumTo_sub (f g : Nat → Int) (n : Nat) : sumTo (fun j => f j - g j) n = sumTo f n - sumTo g n := by
  induction n with
  | zero => rfl
  | succ n ih => simp only [sumTo]; rw [ih]; omega
theorem getD_mem (l : List Int) (x : Int) (h : x ∈ l) : ∃ j, j < l.length ∧ l.getD j 0 = x := by
  obtain ⟨j, hj, e⟩ := List.getElem_of_mem h
  exact ⟨j, hj, by rw [List.getD_eq_getElem?_getD, List.getElem?_eq_getElem hj]; exact e⟩
theorem mem_getD (l : List Int) (j : Nat) (h : j < l.length) : l.getD j 0 ∈ l := by
  rw [List.getD_eq_getElem?_getD, List.getElem?_eq_getElem h]; exact List.getElem_mem h
/-! ### contangoref02's functions, in closed form -/
/-! ### the greedy hand-out: plain lists -/
theorem g_getD_set (l : List Int) (m : Nat) (x : Int) (i : Nat) (hm : m < l.length) : (l.set m x).getD i 0 = if i = m then x else l.getD i 0 := by
  rw [List.getD_eq_getElem?_getD, List.getD_eq_getElem?_getD, List.getElem?_set]
  by_cases h : m = i
  · rw [if_pos h, if_pos h.symm, if_pos hm]; rfl
  · rw [if_neg h, if_neg (fun e => h e.symm)]
theorem g_isum_set (l : List Int) : ∀ (m : Nat) (x : Int), m < l.length → isum (l.set m x) = isum l - l.getD m 0 + x := by
  induction l with
  | nil => intro m x h; simp at h
  | cons a l ih =>
    intro m x h
    cases m with
    | zero => simp [isum]; omega
    | succ m =>
      have := ih m x (by simpa using h)
      simp only [List.set_cons_succ, isum, List.getD_cons_succ, this]; omega
theorem g_best_take (l : List Int) (hl : 0 < l.length) : ∀ k, k ≤ l.length → (bestGo l (l.take k) 0 0 < l.length) ∧ (bestGo l (l.take k) 0 0 ≤ k - 1) ∧ (∀ j, j < k → l.getD j 0 ≤ l.getD (bestGo l (l.take k) 0 0) 0) ∧ (∀ j, j < bestGo l (l.take k) 0 0 → l.getD j 0 < l.getD (bestGo l (l.take k) 0 0) 0) := by
  intro k
  induction k with
  | zero => intro _; exact ⟨by simpa [bestGo] using hl, by simp [bestGo], by omega, by simp [bestGo]⟩
  | succ k ih =>
    intro hk
    obtain ⟨h1, h2, h3, h4⟩ := ih (by omega)
    have hs : bestGo l (l.take (k + 1)) 0 0 = if l.getD (bestGo l (l.take k) 0 0) 0 < l.getD k 0 then k else bestGo l (l.take k) 0 0 := by
      have e : l.take (k + 1) = l.take k ++ [l.getD k 0] := by
        rw [List.take_succ_eq_append_getElem (by omega), List.getD_eq_getElem?_getD, List.getElem?_eq_getElem (by omega)]; rfl
      rw [e, bestGo_snoc, List.length_take, Nat.min_eq_left (by omega), Nat.zero_add]
    rw [hs]
    generalize bestGo l (l.take k) 0 0 = b at *
    by_cases hc : l.getD b 0 < l.getD k 0
    · rw [if_pos hc]
      refine ⟨by omega, by omega, ?_, ?_⟩
      · intro j hj
        by_cases hjk : j = k
        · rw [hjk]; exact Int.le_refl _
        · have := h3 j (by omega); omega
      · intro j hj
        have := h3 j hj; omega
    · rw [if_neg hc]
      refine ⟨h1, ?_, ?_, h4⟩
      · omega
      · intro j hj
        by_cases hjk : j = k
        · rw [hjk]; omega
        · exact h3 j (by omega)
theorem g_best (l : List Int) (hl : 0 < l.length) : best l < l.length ∧ (∀ j, j < l.length → l.getD j 0 ≤ l.getD (best l) 0) ∧ (∀ j, j < best l → l.getD j 0 < l.getD (best l) 0) := by
  have := g_best_take l hl l.length (Nat.le_refl _)
  rw [List.take_length] at this
  exact ⟨this.1, this.2.2.1, this.2.2.2⟩
structure GInv (q r : List Int) (A : Int) (n : Nat) (p : List Int × List Int) : Prop where
  l1 : p.1.length = q.length
  l2 : p.2.length = q.length
  each : ∀ i, i < q.length → (p.2.getD i 0 = r.getD i 0 ∧ p.1.getD i 0 = q.getD i 0) ∨ (p.2.getD i 0 = -1 ∧ p.1.getD i 0 = q.getD i 0 + 1 ∧ 0 < r.getD i 0)
  ahead : ∀ i j, i < q.length → j < q.length → p.2.getD i 0 = -1 → p.2.getD j 0 ≠ -1 → r.getD j 0 < r.getD i 0 ∨ (r.getD j 0 = r.getD i 0 ∧ i < j)
  sum1 : isum p.1 = isum q + n
  sum2 : isum r - n * A ≤ isum p.2
theorem g_isum_nonpos (l : List Int) (h : ∀ i, i < l.length → l.getD i 0 ≤ 0) : isum l ≤ 0 := by
  induction l with
  | nil => simp [isum]
  | cons a l ih =>
    have h0 := h 0 (by simp)
    have := ih (fun i hi => by simpa using h (i + 1) (by simpa using hi))
    simp only [List.getD_cons_zero] at h0
    simp only [isum]; omega
theorem g_step (q r : List Int) (A : Int) (n : Nat) (p : List Int × List Int) (hp : GInv q r A n p) (hr0 : ∀ i, i < q.length → 0 ≤ r.getD i 0 ∧ r.getD i 0 < A) (hn : 0 < isum r - n * A) : GInv q r A (n + 1) (giveOne p) := by
  obtain ⟨l1, l2, each, ahead, s1, s2⟩ := hp
  have hpos : 0 < p.2.length := by
    rcases Nat.eq_zero_or_pos p.2.length with h | h
    · have : p.2 = [] := List.length_eq_zero_iff.1 h
      rw [this] at s2; simp only [isum] at s2; omega
    · exact h
  obtain ⟨hb, hmax, hfirst⟩ := g_best p.2 hpos
  have hbig : 0 < p.2.getD (best p.2) 0 := by
    apply Classical.byContradiction
    intro hc
    have := g_isum_nonpos p.2 (fun i hi => by have := hmax i hi; omega)
    omega
  have heach := each (best p.2) (by omega)
  have hbe : p.2.getD (best p.2) 0 = r.getD (best p.2) 0 ∧ p.1.getD (best p.2) 0 = q.getD (best p.2) 0 := by
    rcases heach with h | h
    · exact h
    · omega
  have hrb := hr0 (best p.2) (by omega)
  unfold giveOne
  generalize best p.2 = b at *
  have e1 : ∀ i, (p.1.set b (p.1.getD b 0 + 1)).getD i 0 = if i = b then p.1.getD b 0 + 1 else p.1.getD i 0 := fun i => g_getD_set _ _ _ i (by omega)
  have e2 : ∀ i, (p.2.set b (-1)).getD i 0 = if i = b then -1 else p.2.getD i 0 := fun i => g_getD_set _ _ _ i (by omega)
  refine ⟨by simpa using l1, by simpa using l2, ?_, ?_, ?_, ?_⟩
  · intro i hi
    rw [e1, e2]
    by_cases h : i = b
    · rw [if_pos h, if_pos h, h]; right; exact ⟨rfl, by omega, by omega⟩
    · rw [if_neg h, if_neg h]; exact each i hi
  · intro i j hi hj
    rw [e2, e2]
    intro h1 h2
    by_cases hj' : j = b
    · rw [if_pos hj'] at h2; exact absurd rfl h2
    · rw [if_neg hj'] at h2
      by_cases hi' : i = b
      · rw [hi']
        have hrj : p.2.getD j 0 = r.getD j 0 := by
          rcases each j hj with h | h
          · exact h.1
          · exact absurd h.1 h2
        have := hmax j (by omega)
        by_cases hlt : r.getD j 0 < r.getD b 0
        · exact .inl hlt
        · right
          refine ⟨by omega, ?_⟩
          apply Classical.byContradiction
          intro hc
          have := hfirst j (by omega)
          omega
      · rw [if_neg hi'] at h1
        exact ahead i j hi hj h1 h2
  · show isum (p.1.set b (p.1.getD b 0 + 1)) = isum q + ((n + 1 : Nat) : Int)
    rw [g_isum_set _ _ _ (by omega)]; omega
  · show isum r - ((n + 1 : Nat) : Int) * A ≤ isum (p.2.set b (-1))
    have e : ((n + 1 : Nat) : Int) * A = n * A + A := by rw [Int.natCast_add, Int.add_mul]; simp
    rw [g_isum_set _ _ _ (by omega), e]; omega
theorem g_many (q r : List Int) (A : Int) (hA : 0 < A) (hr : r.length = q.length) (hr0 : ∀ i, i < q.length → 0 ≤ r.getD i 0 ∧ r.getD i 0 < A) : ∀ n : Nat, n * A ≤ isum r → GInv q r A n (giveMany n (q, r)) := by
  intro n
  induction n with
  | zero =>
    intro _
    refine ⟨rfl, hr, fun i hi => .inl ⟨rfl, rfl⟩, ?_, by simp [giveMany], by simp [giveMany]⟩
    intro i j hi hj h1 h2
    have := hr0 i hi
    simp only [giveMany] at h1
    omega
  | succ n ih =>
    intro hn
    have e : ((n + 1 : Nat) : Int) * A = n * A + A := by rw [Int.natCast_add, Int.add_mul]; simp
    rw [giveMany_snoc]
    exact g_step q r A n _ (ih (by omega)) hr0 (by omega)
theorem g_isum_split (T A : Int) (l : List Int) : A * isum (quos T A l) + isum (remsOf T A l) = T * isum l := by
  induction l with
  | nil => simp [quos, remsOf, isum]
  | cons a l ih =>
    have := Int.mul_ediv_add_emod (T * a) A
    simp only [quos, remsOf, List.map_cons, isum] at *
    rw [Int.mul_add, Int.mul_add]; omega
theorem g_quos_getD (T A : Int) (l : List Int) (i : Nat) (h : i < l.length) : (quos T A l).getD i 0 = T * l.getD i 0 / A := by
  unfold quos
  rw [List.getD_eq_getElem?_getD, List.getD_eq_getElem?_getD, List.getElem?_map, List.getElem?_eq_getElem h]; rfl
theorem g_rems_getD (T A : Int) (l : List Int) (i : Nat) (h : i < l.length) : (remsOf T A l).getD i 0 = T * l.getD i 0 % A := by
  unfold remsOf
  rw [List.getD_eq_getElem?_getD, List.getD_eq_getElem?_getD, List.getElem?_map, List.getElem?_eq_getElem h]; rfl
/-- What the split is: each its floor or one more; who got one more has a greater rest than who didn't, or as great a one and stands ahead; all together are the total. -/
theorem split_is (T : Int) (l : List Int) (hT : 0 ≤ T) (hA : 0 < isum l) (h : ∀ a ∈ l, 0 ≤ a) :
    (splitParts T (isum l) l).length = l.length ∧ isum (splitParts T (isum l) l) = T ∧
    ∃ up : Nat → Bool, (∀ i, i < l.length → (splitParts T (isum l) l).getD i 0 = T * l.getD i 0 / isum l + (if up i = true then 1 else 0) ∧ (up i = true → 0 < T * l.getD i 0 % isum l)) ∧
      (∀ i j, i < l.length → j < l.length → up i = true → up j = false → T * l.getD j 0 % isum l < T * l.getD i 0 % isum l ∨ (T * l.getD j 0 % isum l = T * l.getD i 0 % isum l ∧ i < j)) := by
  have hq := isum_quos T (isum l) hT hA l h
  have hs := g_isum_split T (isum l) l
  have hleft : 0 ≤ T - isum (quos T (isum l) l) := by
    have := left_range T l hT hA h l.length
    rw [List.take_length] at this
    exact this.1
  have hlq : (quos T (isum l) l).length = l.length := by simp [quos]
  have hlr : (remsOf T (isum l) l).length = l.length := by simp [remsOf]
  have hm := g_many (quos T (isum l) l) (remsOf T (isum l) l) (isum l) hA (by omega) (by
    intro i hi
    rw [g_rems_getD _ _ _ _ (by omega)]
    exact ⟨Int.emod_nonneg _ (by omega), Int.emod_lt_of_pos _ hA⟩) (T - isum (quos T (isum l) l)).toNat (by
    rw [Int.toNat_of_nonneg hleft, Int.sub_mul]
    rw [Int.mul_comm (isum (quos T (isum l) l))]
    omega)
  obtain ⟨l1, l2, each, ahead, s1, s2⟩ := hm
  unfold splitParts
  generalize giveMany (T - isum (quos T (isum l) l)).toNat (quos T (isum l) l, remsOf T (isum l) l) = p at *
  refine ⟨by omega, by omega, fun i => p.2.getD i 0 == -1, ?_, ?_⟩
  · intro i hi
    have hri : 0 ≤ T * l.getD i 0 % isum l := Int.emod_nonneg _ (by omega)
    have := each i (by omega)
    rw [g_quos_getD _ _ _ _ hi, g_rems_getD _ _ _ _ hi] at this
    rcases this with ⟨h1, h2⟩ | ⟨h1, h2, h3⟩
    · have hne : ¬ (p.2.getD i 0 = -1) := by omega
      simp only [beq_iff_eq, hne, if_false]
      exact ⟨by omega, fun h => h.elim⟩
    · simp only [beq_iff_eq, h1, if_true]
      exact ⟨by omega, fun _ => h3⟩
  · intro i j hi hj h1 h2
    have := ahead i j (by omega) (by omega) (by simpa using h1) (by simpa using h2)
    rwa [g_rems_getD _ _ _ _ hi, g_rems_getD _ _ _ _ hj] at this
def splitSpec (a0 : Int) (l1 : List Int) : List Int × Int := if okMoney a0 = true then (if l1.length > 1024 then ([], 8) else if weighedOk l1 = true then (if isum l1 = 0 then ([], 26) else (splitParts a0 (isum l1) l1, 0)) else ([], 26)) else ([], 2)
theorem split_spec (a0 : Int) (l1 : List Int) : share_Split.f a0 l1 = some (splitSpec a0 l1) := rfl
/-! ### a loop, from its end backwards -/
theorem ev_down {ρ S : Type} {n : Nat} {g : Nat → Nat → S → Option ρ} {spec : Nat → S → ρ} {inv : Nat → S → Prop}
    (he : ∀ s, inv n s → Ev (fun k => g k n s) (spec n s))
    (hs : ∀ i s, i < n → inv i s → (∀ s', inv (i + 1) s' → Ev (fun k => g k (i + 1) s') (spec (i + 1) s')) → Ev (fun k => g k i s) (spec i s)) :
    ∀ i s, i ≤ n → inv i s → Ev (fun k => g k i s) (spec i s) := by
  intro i s hi h
  generalize hd : n - i = d
  induction d generalizing i s with
  | zero =>
    obtain rfl : i = n := by omega
    exact he s h
  | succ d ih => exact hs i s (by omega) h (fun s' h' => ih (i + 1) s' (by omega) h' (by omega))
theorem dropD {α : Type} (z : α) (l : List α) (i : Nat) (h : i < l.length) : l.drop i = l.getD i z :: l.drop (i + 1) := by
  rw [List.drop_eq_getElem_cons h, List.getD_eq_getElem?_getD, List.getElem?_eq_getElem h]; rfl
theorem getD_mem' {α : Type} (z : α) (l : List α) (i : Nat) (h : i < l.length) : l.getD i z ∈ l := by
  rw [List.getD_eq_getElem?_getD, List.getElem?_eq_getElem h]; exact List.getElem_mem h
theorem drop_end {α : Type} (l : List α) : l.drop l.length = [] := List.drop_length
theorem ev_bnd {α β : Type} {g : Nat → Option α} {f : Nat → α → Option β} {a : α} {r : β} (h : Ev g a) (k : Ev (fun n => f n a) r) : Ev (fun n => (g n).bind (f n)) r := h.bind k
theorem w64id (x : Int) (h0 : -9223372036854775808 ≤ x) (h1 : x ≤ 9223372036854775807) : wrap64 x = x := by unfold wrap64; omega
theorem ev_end {α : Type} {g : Nat → Option α} {x r : α} (hg : ∀ k, g (k + 1) = some x) (h : x = r) : Ev g r := Ev.step (f := fun _ => some x) hg (ev_some h)
theorem w64i (n : Int) (h0 : -9223372036854775808 ≤ n) (h1 : n ≤ 9223372036854775807) : wrap64 n = n := by unfold wrap64; omega
/-! ### long division by a two-digit number, digit by digit (base 2^32) -/
/-! ### bits.Div64, in closed form -/
/-! ### cents.MulDiv and contangoref01.MulDiv: one law -/
def fitsP (n : Int) : Prop := -1152921504606846976 ≤ n ∧ n ≤ 1152921504606846976
instance (n : Int) : Decidable (fitsP n) := by unfold fitsP; infer_instance
theorem cfits_eq (n : Int) : cents_Fits.f n = some (decide (fitsP n)) := by
  unfold cents_Fits.f fitsP
  by_cases h : n ≥ (-1152921504606846976)
  · rw [if_pos h]; congr 1; simp [h]
  · rw [if_neg h]; congr 1; simp [h]
/-! ### names -/
def letterB (c : Int) : Bool := decide (97 ≤ c) && decide (c ≤ 122)
def digitB (c : Int) : Bool := decide (48 ≤ c) && decide (c ≤ 57)
def nameFrom (s : ByteArray) (i : Nat) : Bool := ((List.range s.size).drop i).all (fun i => letterB (bt s i) || digitB (bt s i))
def nameOk (s : ByteArray) : Bool := if s.size = 0 then false else if s.size > 12 then false else letterB (bt s 0) && nameFrom s 0
theorem size_nil (s : ByteArray) : s.toList = ([] : List UInt8) ↔ s.size = 0 := by
  rw [ByteArray.toList_eq, List.eq_nil_iff_length_eq_zero, Array.length_toList]; rfl
theorem nameFrom_cons (s : ByteArray) (i : Nat) (h : i < s.size) : nameFrom s i = ((letterB (bt s i) || digitB (bt s i)) && nameFrom s (i + 1)) := by
  unfold nameFrom
  rw [dropD 0 (List.range s.size) i (by simpa using h), List.all_cons]
  congr 2 <;> simp [List.getD_eq_getElem?_getD, h]
theorem nameFrom_end (s : ByteArray) : nameFrom s s.size = true := by
  unfold nameFrom
  rw [List.drop_eq_nil_of_le (by simp)]; rfl
theorem letter_eq (c : Int) : words_letter.f c = some (letterB c) := by
  unfold words_letter.f letterB; by_cases h : 97 ≤ c <;> simp [h]
theorem digit_eq (c : Int) : words_digit.f c = some (digitB c) := by
  unfold words_digit.f digitB; by_cases h : 48 ≤ c <;> simp [h]
theorem name_go (s : ByteArray) (hs : s.size ≤ 12) : ∀ (i : Nat) (u : Unit), i ≤ s.size → True → Ev (fun k => words_Name.l0 k s (s.size : Int) (i : Int)) (nameFrom s i) := by
  refine ev_down (S := Unit) (g := fun k i _ => words_Name.l0 k s (s.size : Int) (i : Int)) (spec := fun i _ => nameFrom s i) (inv := fun _ _ => True) ?_ ?_
  · intro _ _
    refine Ev.step (fun _ => rfl) (ev_neg (by omega) (ev_some ?_))
    rw [nameFrom_end]
  · intro i _ hi _ ih
    have ih := ih () trivial
    refine Ev.step (fun _ => rfl) (ev_pos (by omega) (ev_pos (by omega) (ev_pos (by omega) (ev_val (letter_eq _) ?_))))
    rw [nameFrom_cons s i hi, wsucc i (by omega)]
    cases h1 : letterB (bt s i) with
    | true => exact ev_pos (by rfl) (by simpa using ih)
    | false =>
      refine ev_neg (by simp) (ev_val (digit_eq _) ?_)
      cases h2 : digitB (bt s i) with
      | true => exact ev_pos (by rfl) (by simpa using ih)
      | false => exact ev_neg (by simp) (ev_some rfl)
theorem name_ev (s : ByteArray) : Ev (fun k => words_Name.f k s) (nameOk s) := by
  unfold words_Name.f nameOk
  by_cases h0 : s.size = 0
  · rw [if_pos h0]
    exact ev_pos ((size_nil s).2 h0) (ev_end (fun _ => rfl) rfl)
  rw [if_neg h0]
  refine ev_neg (fun h => h0 ((size_nil s).1 h)) ?_
  by_cases h1 : s.size > 12
  · rw [if_pos h1]
    exact ev_pos (by omega) (ev_end (fun _ => rfl) rfl)
  rw [if_neg h1]
  refine ev_neg (by omega) (ev_pos (by omega) (ev_val (letter_eq _) (Ev.step (fun _ => rfl) ?_)))
  cases h2 : letterB (bt s 0) with
  | true =>
    have := name_go s (by omega) 0 () (by omega) trivial
    rw [Bool.true_and]; exact this
  | false => exact ev_some rfl
/-! ### sums -/
def sumI : List Int → Int
  | [] => 0
  | a :: l => a + sumI l
def sumAns (l : List Int) : Int × Int := if l.all (fun a => decide (fitsP a)) = true then (if fitsP (sumI l) then (sumI l, 0) else (0, 3)) else (0, 2)
theorem sdrop (l : List Int) (i : Nat) (h : i < l.length) : l.drop i = l.getD i 0 :: l.drop (i + 1) := by
  rw [List.drop_eq_getElem_cons h, List.getD_eq_getElem?_getD, List.getElem?_eq_getElem h]; rfl
theorem and32s (x : Int) (h0 : -9223372036854775808 ≤ x) (h1 : x ≤ 9223372036854775807) : Go.bits .and .i64 x 4294967295 = x % 4294967296 := by
  show IntKind.i64.wrap ((BitVec.ofInt 64 x &&& BitVec.ofInt 64 4294967295).toNat : Int) = _
  have h2 : (BitVec.ofInt 64 4294967295).toNat = 2 ^ 32 - 1 := by decide
  rw [BitVec.toNat_and, h2, Nat.and_two_pow_sub_one_eq_mod, BitVec.toNat_ofInt, IntKind.wrap_i64]
  omega
theorem csum_go (l : List Int) (hl : l.length ≤ 1073741824) (d : Nat) : ∀ (i : Nat) (h w : Int), l.length - i = d → i ≤ l.length → -(i * 268435456) ≤ h → h ≤ i * 268435456 → 0 ≤ w → w ≤ i * 4294967296 →
    Ev (fun k => cents_Sum.l0 k l h w (l.length : Int) (i : Int)) (if (l.drop i).all (fun a => decide (fitsP a)) = true then (if fitsP (h * 4294967296 + w + sumI (l.drop i)) then (h * 4294967296 + w + sumI (l.drop i), 0) else (0, 3)) else (0, 2)) := by
  induction d with
  | zero =>
    intro i h w hd hi a1 a2 a3 a4
    refine Ev.step (fun _ => rfl) (ev_neg (by omega) ?_)
    rw [List.drop_eq_nil_of_le (show l.length ≤ i by omega)]
    show Ev _ (if fitsP (h * 4294967296 + w + 0) then (h * 4294967296 + w + 0, 0) else (0, 3))
    rw [Int.add_zero, w64i (h + w / 4294967296) (by omega) (by omega), and32s w (by omega) (by omega)]
    by_cases b1 : h + w / 4294967296 < -268435456
    · refine ev_pos b1 (ev_some ?_)
      rw [if_neg (by unfold fitsP; omega)]
    refine ev_neg b1 ?_
    by_cases b2 : h + w / 4294967296 > 268435456
    · refine ev_pos b2 (ev_some ?_)
      rw [if_neg (by unfold fitsP; omega)]
    refine ev_neg b2 ?_
    rw [w64i ((h + w / 4294967296) * 4294967296) (by omega) (by omega), w64i (_ + w % 4294967296) (by omega) (by omega), show (h + w / 4294967296) * 4294967296 + w % 4294967296 = h * 4294967296 + w by omega]
    unfold cents_fitting.f
    by_cases b3 : fitsP (h * 4294967296 + w)
    · rw [if_pos b3]; refine Ev.congr (f := fun _ => some _) (fun _ => ?_) (Ev.now _)
      rw [cfits_eq, decide_eq_true b3]; rfl
    · rw [if_neg b3]; refine Ev.congr (f := fun _ => some _) (fun _ => ?_) (Ev.now _)
      rw [cfits_eq, decide_eq_false b3]; rfl
  | succ d ih =>
    intro i h w hd hi a1 a2 a3 a4
    rw [sdrop l i (by omega)]
    refine Ev.step (fun _ => rfl) (ev_pos (by omega) (ev_pos (by omega) (ev_pos (by omega) ?_)))
    rw [show rd l (i : Int) = l.getD i 0 from rfl]
    generalize l.getD i 0 = a
    refine ev_val (cfits_eq a) ?_
    by_cases ha : fitsP a
    · refine ev_pos (by simp [ha]) ?_
      have hf : fitsP a := ha
      unfold fitsP at hf
      rw [and32s a (by omega) (by omega), w64i (h + a / 4294967296) (by omega) (by omega), w64i (w + a % 4294967296) (by omega) (by omega), w64i ((i : Int) + 1) (by omega) (by omega)]
      have := ih (i + 1) (h + a / 4294967296) (w + a % 4294967296) (by omega) (by omega) (by omega) (by omega) (by omega) (by omega)
      rw [show ((i + 1 : Nat) : Int) = (i : Int) + 1 by omega, show (h + a / 4294967296) * 4294967296 + (w + a % 4294967296) + sumI (l.drop (i + 1)) = h * 4294967296 + w + sumI (a :: l.drop (i + 1)) by simp only [sumI]; omega] at this
      rw [List.all_cons, decide_eq_true ha, Bool.true_and]
      exact this
    · refine ev_neg (by simp [ha]) (ev_some ?_)
      rw [List.all_cons, decide_eq_false ha, Bool.false_and, if_neg (by simp)]
theorem csum_ev (l : List Int) (hl : l.length ≤ 1073741824) : Ev (fun k => cents_Sum.f k l) (sumAns l) := by
  have h := csum_go l hl l.length 0 0 0 (by omega) (by omega) (by omega) (by omega) (by omega) (by omega)
  rw [List.drop_zero, show (0 : Int) * 4294967296 + 0 + sumI l = sumI l by omega] at h
  exact h
/-! ### resources: the check -/
theorem rdR (l : List S37) (i : Nat) : rd_T37 l (i : Int) = l.getD i z37 := rfl
theorem sumI_isum (l : List Int) : sumI l = isum l := by
  induction l with
  | nil => rfl
  | cons a l ih => simp only [sumI, isum, ih]
def rcB (x : S37) : Bool := decide (1 ≤ x.f0) && (decide (x.f0 ≤ 8) && (decide (0 ≤ x.f1) && (decide (x.f1 ≤ 9) && okMoney x.f3)))
theorem rcB_iff (x : S37) : rcB x = true ↔ 1 ≤ x.f0 ∧ x.f0 ≤ 8 ∧ 0 ≤ x.f1 ∧ x.f1 ≤ 9 ∧ okMoney x.f3 = true := by
  unfold rcB; simp only [Bool.and_eq_true, decide_eq_true_eq]
def rcErr (x : S37) : Int := if rcB x = true then (if nameOk x.f2 = true then 0 else 10) else 2
def aheadB (a b : S37) : Bool := if a.f0 = b.f0 then (if a.f1 = b.f1 then Op.bytesLess a.f2.toList b.f2.toList else decide (a.f1 < b.f1)) else decide (a.f0 < b.f0)
def aheadO : Option S37 → S37 → Bool
  | none, _ => true
  | some q, x => aheadB q x
def chkGo : Option S37 → List S37 → Int
  | _, [] => 0
  | p, x :: l => if rcErr x = 0 then (if aheadO p x = true then chkGo (some x) l else 12) else rcErr x
def centsOf (l : List S37) : List Int := l.map fun x => x.f3
def chk47 (l : List S37) : Int := if l.length > 1024 then 8 else if chkGo none l = 0 then (if isum (centsOf l) ≤ 1152921504606846976 then 0 else 3) else chkGo none l
def prevO (l : List S37) (i : Nat) : Option S37 := if i = 0 then none else some (l.getD (i - 1) z37)
theorem prevO_succ (l : List S37) (i : Nat) : prevO l (i + 1) = some (l.getD i z37) := by unfold prevO; rw [if_neg (by omega)]; rfl
theorem wmoney_eq (n : Int) : waterfall_money.f n = some (okMoney n) := by
  unfold waterfall_money.f okMoney
  by_cases h : n ≥ 0
  · rw [if_pos h, decide_eq_true (by omega : 0 ≤ n), Bool.true_and]
  · rw [if_neg h, decide_eq_false (by omega : ¬ 0 ≤ n)]; rfl
theorem ahead_eq (a b : S37) : waterfall_ahead.f a.f0 a.f1 a.f2 a.f3 b.f0 b.f1 b.f2 b.f3 = some (aheadB a b) := by
  unfold waterfall_ahead.f aheadB
  by_cases h : a.f0 = b.f0
  · rw [if_pos h, if_pos h]
    by_cases h2 : a.f1 = b.f1
    · rw [if_pos h2, if_pos h2]
    · rw [if_neg h2, if_neg h2]
  · rw [if_neg h, if_neg h]
theorem chkGo_money : ∀ (p : Option S37) (l : List S37), chkGo p l = 0 → ∀ x ∈ l, rcErr x = 0
  | _, [], _ => by simp
  | p, x :: l, h => by
    rw [chkGo] at h
    by_cases h1 : rcErr x = 0
    · rw [if_pos h1] at h
      by_cases h2 : aheadO p x = true
      · rw [if_pos h2] at h
        intro y hy
        rcases List.mem_cons.1 hy with rfl | hy
        · exact h1
        · exact chkGo_money _ l h y hy
      · rw [if_neg h2] at h; cases h
    · rw [if_neg h1] at h; exact absurd h h1
theorem rcErr_zero (x : S37) (h : rcErr x = 0) : rcB x = true ∧ nameOk x.f2 = true := by
  unfold rcErr at h
  by_cases h1 : rcB x = true
  · rw [if_pos h1] at h
    by_cases h2 : nameOk x.f2 = true
    · exact ⟨h1, h2⟩
    · rw [if_neg h2] at h; cases h
  · rw [if_neg h1] at h; cases h
theorem sumAns_money (l : List Int) (h : ∀ x ∈ l, okMoney x = true) : (sumAns l).2 = if isum l ≤ 1152921504606846976 then 0 else 3 := by
  have h0 : 0 ≤ isum l := by
    induction l with
    | nil => simp [isum]
    | cons a l ih =>
      have := (okMoney_iff a).1 (h a (by simp)); have := ih (fun x hx => h x (by simp [hx]))
      simp only [isum]; omega
  unfold sumAns
  rw [if_pos (List.all_eq_true.2 fun x hx => decide_eq_true (show fitsP x by have := (okMoney_iff x).1 (h x hx); unfold fitsP; omega)), sumI_isum]
  by_cases hs : isum l ≤ 1152921504606846976
  · rw [if_pos hs, if_pos (by unfold fitsP; omega)]
  · rw [if_neg hs, if_neg (by unfold fitsP; omega)]
theorem rcSteps {α : Type} (x : S37) (g : Bool → Nat → Option α) (m : Int → Option Bool) (hm : m x.f3 = some (okMoney x.f3)) (r : α) (h1 : rcB x = true → Ev (g false) r) (h2 : rcB x = false → Ev (g true) r) :
    Ev (fun k => if x.f0 < 1 then g true k else if x.f0 > 8 then g true k else if x.f1 < 0 then g true k else if x.f1 > 9 then g true k else (m x.f3).bind fun t => g (!t) k) r := by
  by_cases a1 : x.f0 < 1
  · exact ev_pos a1 (h2 (by unfold rcB; rw [decide_eq_false (by omega : ¬ 1 ≤ x.f0)]; rfl))
  refine ev_neg a1 ?_
  by_cases a2 : x.f0 > 8
  · exact ev_pos a2 (h2 (by unfold rcB; rw [decide_eq_false (by omega : ¬ x.f0 ≤ 8), Bool.false_and, Bool.and_false]))
  refine ev_neg a2 ?_
  by_cases a3 : x.f1 < 0
  · exact ev_pos a3 (h2 (by unfold rcB; rw [decide_eq_false (by omega : ¬ 0 ≤ x.f1), Bool.false_and, Bool.and_false, Bool.and_false]))
  refine ev_neg a3 ?_
  by_cases a4 : x.f1 > 9
  · exact ev_pos a4 (h2 (by unfold rcB; rw [decide_eq_false (by omega : ¬ x.f1 ≤ 9), Bool.false_and, Bool.and_false, Bool.and_false, Bool.and_false]))
  refine ev_neg a4 (ev_val hm ?_)
  have e : rcB x = okMoney x.f3 := by unfold rcB; rw [decide_eq_true (by omega : 1 ≤ x.f0), decide_eq_true (by omega : x.f0 ≤ 8), decide_eq_true (by omega : 0 ≤ x.f1), decide_eq_true (by omega : x.f1 ≤ 9)]; simp
  rw [← e]
  cases hb : rcB x with
  | true => exact h1 hb
  | false => exact h2 hb
theorem wcheck_go (l : List S37) (hl : l.length ≤ 1024) : ∀ (i : Nat) (cs : List Int), i ≤ l.length → cs = centsOf (l.take i) → Ev (fun k => waterfall_Check.l0 k l cs l (l.length : Int) (i : Int)) (if chkGo (prevO l i) (l.drop i) = 0 then (sumAns (centsOf l)).2 else chkGo (prevO l i) (l.drop i)) := by
  refine ev_down (S := List Int) (g := fun k i cs => waterfall_Check.l0 k l cs l (l.length : Int) (i : Int)) (spec := fun i _ => if chkGo (prevO l i) (l.drop i) = 0 then (sumAns (centsOf l)).2 else chkGo (prevO l i) (l.drop i)) (inv := fun i cs => cs = centsOf (l.take i)) ?_ ?_
  · intro cs hcs
    subst hcs
    rw [List.take_length]
    refine Ev.step (fun _ => rfl) (ev_neg (by omega) ?_)
    refine ev_bnd (csum_ev (centsOf l) (by unfold centsOf; rw [List.length_map]; omega)) (ev_some ?_)
    rw [drop_end, chkGo, if_pos rfl]
  · intro i cs hi hcs ih
    have hlc : cs.length = i := by rw [hcs]; unfold centsOf; rw [List.length_map, List.length_take]; omega
    have ih := ih (cs ++ [(l.getD i z37).f3]) (by rw [hcs]; unfold centsOf; rw [List.take_add_one, List.map_append, List.getD_eq_getElem?_getD, List.getElem?_eq_getElem hi]; simp)
    refine Ev.step (fun _ => rfl) (ev_pos (by omega) (ev_pos (by omega) (ev_pos (by omega) ?_)))
    rw [dropD z37 l i hi, rdR, chkGo]
    rw [prevO_succ] at ih
    have hp : prevO l i = if i = 0 then none else some (l.getD (i - 1) z37) := rfl
    generalize prevO l i = P at *
    generalize l.getD i z37 = x at *
    refine rcSteps x (fun b k => waterfall_Check.j1 k l cs (i : Int) l (l.length : Int) (i : Int) b x.f0 x.f1 x.f2 x.f3) waterfall_money.f (wmoney_eq _) _ ?_ ?_
    · intro hb
      unfold rcErr
      rw [if_pos hb]
      show Ev (fun k => waterfall_Check.j1 k l cs (i : Int) l (l.length : Int) (i : Int) false x.f0 x.f1 x.f2 x.f3) _
      refine Ev.step (fun _ => by rw [waterfall_Check.j1]) ?_
      refine ev_neg (by decide) (ev_bnd (name_ev _) ?_)
      by_cases hn : nameOk x.f2 = true
      · refine ev_pos hn ?_
        rw [if_pos hn, if_pos rfl]
        by_cases h0 : i = 0
        · rw [if_pos h0] at hp
          subst hp
          refine ev_neg (by omega) (ev_pos (by omega) ?_)
          rw [wsucc i (by omega), show aheadO none x = true from rfl, if_pos rfl]
          exact ih
        · rw [if_neg h0] at hp
          subst hp
          refine ev_pos (by omega) ?_
          rw [w64id ((i : Int) - 1) (by omega) (by omega), show (i : Int) - 1 = ((i - 1 : Nat) : Int) by omega]
          refine ev_pos (by omega) (ev_pos (by omega) ?_)
          rw [rdR]
          generalize l.getD (i - 1) z37 = y
          refine ev_val (ahead_eq y x) ?_
          rw [show aheadO (some y) x = aheadB y x from rfl]
          by_cases ha : aheadB y x = true
          · refine ev_pos ha (ev_pos (by omega) ?_)
            rw [wsucc i (by omega), if_pos ha]
            exact ih
          · rw [if_neg ha]
            exact ev_neg ha (ev_some (by rw [if_neg (by decide)]))
      · rw [if_neg hn]
        exact ev_neg hn (ev_some (by rw [if_neg (show ¬ ((10 : Int) = 0) by decide), if_neg (show ¬ ((10 : Int) = 0) by decide)]))
    · intro hb
      have hb' : ¬ rcB x = true := by rw [hb]; decide
      unfold rcErr
      rw [if_neg hb']
      show Ev (fun k => waterfall_Check.j1 k l cs (i : Int) l (l.length : Int) (i : Int) true x.f0 x.f1 x.f2 x.f3) _
      refine Ev.step (fun _ => by rw [waterfall_Check.j1]) ?_
      exact ev_pos rfl (ev_some (by rw [if_neg (show ¬ ((2 : Int) = 0) by decide), if_neg (show ¬ ((2 : Int) = 0) by decide)]))
theorem wcheck_ev (l : List S37) : Ev (fun k => waterfall_Check.f k l) (chk47 l) := by
  unfold waterfall_Check.f chk47
  by_cases h : l.length > 1024
  · rw [if_pos h]; exact ev_pos (by omega) (ev_some rfl)
  · rw [if_neg h]
    refine ev_neg (by omega) ?_
    have := wcheck_go l (by omega) 0 [] (by omega) rfl
    rw [List.drop_zero, show prevO l 0 = none from rfl] at this
    by_cases hc : chkGo none l = 0
    · rw [if_pos hc] at this ⊢
      rwa [sumAns_money _ (fun x hx => by
        unfold centsOf at hx
        obtain ⟨y, hy, rfl⟩ := List.mem_map.1 hx
        exact ((rcB_iff y).1 (rcErr_zero y (chkGo_money _ _ hc y hy)).1).2.2.2.2)] at this
    · rw [if_neg hc] at this ⊢; exact this
/-! ### what a turn takes: all, or parted; a list with zeros around it is parted alike -/
def takeS (left : Int) (p : List Int) : List Int := if isum p ≤ left then p else (splitSpec left p).1
theorem isum_nn (l : List Int) (h : ∀ a ∈ l, 0 ≤ a) : 0 ≤ isum l := by
  have := (isum_take_le l h l.length).1
  rwa [List.take_length] at this
structure MoneyL (p : List Int) : Prop where
  ok : ∀ a ∈ p, 0 ≤ a
  top : isum p ≤ 1152921504606846976
  len : p.length ≤ 1024
theorem MoneyL.each {p : List Int} (h : MoneyL p) (a : Int) (ha : a ∈ p) : 0 ≤ a ∧ a ≤ 1152921504606846976 := ⟨h.ok a ha, Int.le_trans (mem_le_isum p h.ok a ha) h.top⟩
theorem split_val (left : Int) (p : List Int) (h0 : 0 ≤ left) (hp : MoneyL p) (hn : ¬ isum p ≤ left) : splitSpec left p = (splitParts left (isum p) p, 0) := by
  unfold splitSpec
  have ht := hp.top
  rw [if_pos ((okMoney_iff left).2 ⟨h0, by omega⟩), if_neg (by have := hp.len; omega), if_pos (by
    unfold weighedOk
    simp only [Bool.and_eq_true, decide_eq_true_eq, List.all_eq_true]
    exact ⟨fun a ha => (okMoney_iff a).2 (hp.each a ha), ht⟩), if_neg (by omega)]
theorem ceil_le (T A w : Int) (hT : 0 ≤ T) (hA : T < A) (hw : 0 ≤ w) (u : Bool) (hu : u = true → 0 < T * w % A) : 0 ≤ T * w / A + (if u = true then 1 else 0) ∧ T * w / A + (if u = true then 1 else 0) ≤ w := by
  have h1 := Int.mul_ediv_add_emod (T * w) A
  have h2 : 0 ≤ T * w / A := Int.ediv_nonneg (Int.mul_nonneg hT hw) (by omega)
  have h3 : T * w ≤ A * w := Int.mul_le_mul_of_nonneg_right (by omega) hw
  have h4 := Int.emod_nonneg (T * w) (show A ≠ 0 by omega)
  cases u with
  | false =>
    simp only [Bool.false_eq_true, if_false]
    have : A * (T * w / A) ≤ A * w := by omega
    have := Int.le_of_mul_le_mul_left this (by omega)
    omega
  | true =>
    have := hu rfl
    simp only [if_true]
    have : A * (T * w / A) < A * w := by omega
    have := Int.lt_of_mul_lt_mul_left this (by omega)
    omega
theorem take_facts (left : Int) (p : List Int) (h0 : 0 ≤ left) (hp : MoneyL p) : (takeS left p).length = p.length ∧ isum (takeS left p) = (if isum p ≤ left then isum p else left) ∧ ∀ i, i < p.length → 0 ≤ (takeS left p).getD i 0 ∧ (takeS left p).getD i 0 ≤ p.getD i 0 := by
  unfold takeS
  by_cases h : isum p ≤ left
  · rw [if_pos h, if_pos h]
    exact ⟨rfl, rfl, fun i hi => ⟨hp.ok _ (mem_getD p i hi), Int.le_refl _⟩⟩
  · rw [if_neg h, if_neg h, split_val left p h0 hp h]
    obtain ⟨s1, s2, up, s3, _⟩ := split_is left p h0 (by omega) hp.ok
    refine ⟨s1, s2, fun i hi => ?_⟩
    obtain ⟨e, hu⟩ := s3 i hi
    rw [e]
    exact ceil_le left (isum p) _ h0 (by omega) (hp.ok _ (mem_getD p i hi)) _ hu
theorem take_nn (left : Int) (p : List Int) (h0 : 0 ≤ left) (hp : MoneyL p) : ∀ a ∈ takeS left p, 0 ≤ a := by
  obtain ⟨h1, _, h3⟩ := take_facts left p h0 hp
  intro a ha
  obtain ⟨j, hj, rfl⟩ := getD_mem _ a ha
  exact (h3 j (by omega)).1
theorem total_go (l : List Int) (hn : ∀ a ∈ l, 0 ≤ a) (hs : isum l ≤ 4611686018427387904) (hl : l.length ≤ 4611686018427387904) : ∀ (i : Nat) (a : Int), i ≤ l.length → a = isum (l.take i) → Ev (fun k => waterfall_total.l0 k a l (l.length : Int) (i : Int)) (isum l) := by
  refine ev_down (S := Int) (g := fun k i a => waterfall_total.l0 k a l (l.length : Int) (i : Int)) (spec := fun _ _ => isum l) (inv := fun i a => a = isum (l.take i)) ?_ ?_
  · intro a ha
    rw [List.take_length] at ha
    exact Ev.step (fun _ => rfl) (ev_neg (by omega) (ev_some ha))
  · intro i a hi ha ih
    have h1 := isum_take_le l hn i
    have h2 := isum_take_le l hn (i + 1)
    have h3 := isum_succ l i hi
    refine Ev.step (fun _ => rfl) (ev_pos (by omega) (ev_pos (by omega) (ev_pos (by omega) ?_)))
    rw [w64id (a + _) (by omega) (by omega), wsucc i (by omega)]
    exact ih _ (by omega)
theorem total_ev (l : List Int) (hn : ∀ a ∈ l, 0 ≤ a) (hs : isum l ≤ 4611686018427387904) (hl : l.length ≤ 4611686018427387904) : Ev (fun k => waterfall_total.f k l) (isum l) := total_go l hn hs hl 0 0 (by omega) rfl
theorem takeF_ev (left : Int) (p : List Int) (h0 : 0 ≤ left) (h1 : left ≤ 1152921504606846976) (hp : MoneyL p) : Ev (fun k => takeF k left p) (takeS left p, left - isum (takeS left p)) := by
  have ht := hp.top
  have hl := hp.len
  have h2 := isum_nn p hp.ok
  obtain ⟨f1, f2, f3⟩ := take_facts left p h0 hp
  have f4 := take_nn left p h0 hp
  unfold takeF
  refine ev_bnd (total_ev p hp.ok (by omega) (by omega)) ?_
  unfold takeS at *
  by_cases h : isum p ≤ left
  · rw [if_pos h] at f1 f2 f4 ⊢
    refine ev_neg (by omega) (ev_bnd (total_ev p hp.ok (by omega) (by omega)) (ev_some ?_))
    rw [w64id _ (by omega) (by omega)]
  · rw [if_neg h] at f1 f4 f2 ⊢
    rw [if_neg h] at f2
    refine ev_pos (by omega) (ev_val (split_spec left p) ?_)
    refine ev_bnd (total_ev _ f4 (by omega) (by omega)) (ev_some ?_)
    rw [w64id _ (by omega) (by omega)]
/-! ### one split alone -/
/-! ### zeros around a list -/
def padL (n a : Nat) (p : List Int) : List Int := List.replicate a 0 ++ p ++ List.replicate (n - a - p.length) 0
theorem pad_len (n a : Nat) (p : List Int) (h : a + p.length ≤ n) : (padL n a p).length = n := by
  unfold padL; simp; omega
theorem isum_zeros (n : Nat) : isum (List.replicate n 0) = 0 := by
  induction n with
  | zero => rfl
  | succ n ih => rw [List.replicate_succ, isum, ih]; rfl
theorem isum_pad (n a : Nat) (p : List Int) : isum (padL n a p) = isum p := by
  unfold padL; rw [isum_append, isum_append, isum_zeros, isum_zeros]; omega
theorem pad_getD (n a : Nat) (p : List Int) (i : Nat) : (padL n a p).getD i 0 = if a ≤ i ∧ i < a + p.length then p.getD (i - a) 0 else 0 := by
  unfold padL
  simp only [List.getD_eq_getElem?_getD, List.getElem?_append, List.length_append, List.length_replicate, List.getElem?_replicate]
  by_cases h1 : i < a
  · rw [if_pos (show i < a + p.length by omega), if_neg (show ¬ (a ≤ i ∧ i < a + p.length) by omega)]
    simp [h1]
  · by_cases h2 : i < a + p.length
    · rw [if_pos h2, if_neg h1, if_pos (show a ≤ i ∧ i < a + p.length from ⟨by omega, h2⟩)]
    · rw [if_neg h2, if_neg (show ¬ (a ≤ i ∧ i < a + p.length) by omega)]
      split <;> rfl
/-! ### turns -/
def sameT (a b : S37) : Bool := decide (a.f0 = b.f0) && decide (a.f1 = b.f1)
theorem sameT_iff (a b : S37) : sameT a b = true ↔ a.f0 = b.f0 ∧ a.f1 = b.f1 := by unfold sameT; simp only [Bool.and_eq_true, decide_eq_true_eq]
theorem turn_eq (a b : S37) : cr47_Turn.f a.f0 a.f1 a.f2 a.f3 b.f0 b.f1 b.f2 b.f3 = some (sameT a b) := by
  unfold cr47_Turn.f sameT
  by_cases h : a.f0 = b.f0
  · rw [if_pos h, decide_eq_true h, Bool.true_and, Bool.beq_eq_decide_eq]
  · rw [if_neg h, decide_eq_false h]; rfl
def startB (l : List S37) (i : Nat) : Bool := decide (i = 0) || !(sameT (l.getD (i - 1) z37) (l.getD i z37))
def bndsGo (l : List S37) : Nat → Nat → List Int
  | 0, _ => [(l.length : Int)]
  | d + 1, i => if startB l i = true then (i : Int) :: bndsGo l d (i + 1) else bndsGo l d (i + 1)
def bnds (l : List S37) (i : Nat) : List Int := bndsGo l (l.length - i) i
def nbGo (l : List S37) : Nat → Nat → Nat
  | 0, _ => l.length
  | d + 1, i => if startB l i = true then i else nbGo l d (i + 1)
def nb (l : List S37) (i : Nat) : Nat := nbGo l (l.length - i) i
theorem bnds_end (l : List S37) : bnds l l.length = [(l.length : Int)] := by unfold bnds; rw [Nat.sub_self]; rfl
theorem nb_end (l : List S37) : nb l l.length = l.length := by unfold nb; rw [Nat.sub_self]; rfl
theorem bnds_step (l : List S37) (i : Nat) (h : i < l.length) : bnds l i = if startB l i = true then (i : Int) :: bnds l (i + 1) else bnds l (i + 1) := by
  unfold bnds; rw [show l.length - i = (l.length - (i + 1)) + 1 by omega]; rfl
theorem nb_step (l : List S37) (i : Nat) (h : i < l.length) : nb l i = if startB l i = true then i else nb l (i + 1) := by
  unfold nb; rw [show l.length - i = (l.length - (i + 1)) + 1 by omega]; rfl
theorem down_ind {n : Nat} {P : Nat → Prop} (h0 : P n) (hs : ∀ i, i < n → P (i + 1) → P i) : ∀ i, i ≤ n → P i := by
  intro i hi
  generalize hd : n - i = d
  induction d generalizing i with
  | zero => obtain rfl : i = n := by omega
            exact h0
  | succ d ih => exact hs i (by omega) (ih (i + 1) (by omega) (by omega))
theorem nb_facts (l : List S37) : ∀ i, i ≤ l.length → i ≤ nb l i ∧ nb l i ≤ l.length ∧ (∀ j, i ≤ j → j < nb l i → startB l j = false) ∧ (nb l i < l.length → startB l (nb l i) = true) ∧ bnds l i = (nb l i : Int) :: (if nb l i < l.length then bnds l (nb l i + 1) else []) := by
  refine down_ind ?_ ?_
  · rw [nb_end, bnds_end, if_neg (by omega)]
    exact ⟨by omega, by omega, fun j h1 h2 => by omega, fun h => by omega, rfl⟩
  · intro i hi ih
    rw [nb_step l i hi, bnds_step l i hi]
    cases hs : startB l i with
    | true =>
      simp only [if_true]
      exact ⟨by omega, by omega, fun j h1 h2 => by omega, fun _ => hs, by rw [if_pos hi]⟩
    | false =>
      simp only [Bool.false_eq_true, if_false]
      obtain ⟨a1, a2, a3, a4, a5⟩ := ih
      refine ⟨by omega, a2, fun j h1 h2 => ?_, a4, a5⟩
      by_cases hj : j = i
      · subst hj; exact hs
      · exact a3 j (by omega) h2
theorem turns_go (l : List S37) (hl : l.length ≤ 1024) : ∀ (i : Nat) (acc : List Int), i ≤ l.length → acc.length ≤ i → Ev (fun k => waterfall_turns.l0 k l acc l (l.length : Int) (i : Int)) (acc ++ bnds l i) := by
  refine ev_down (S := List Int) (g := fun k i acc => waterfall_turns.l0 k l acc l (l.length : Int) (i : Int)) (spec := fun i acc => acc ++ bnds l i) (inv := fun i acc => acc.length ≤ i) ?_ ?_
  · intro acc ha
    exact Ev.step (fun _ => rfl) (ev_neg (by omega) (ev_pos (by omega) (ev_some (by rw [bnds_end]))))
  · intro i acc hi ha ih
    refine Ev.step (fun _ => rfl) (ev_pos (by omega) (ev_pos (by omega) (ev_pos (by omega) ?_)))
    rw [bnds_step l i hi]
    have i1 := ih (acc ++ [(i : Int)]) (by rw [List.length_append, List.length_singleton]; omega)
    have i2 := ih acc (by omega)
    rw [List.append_assoc, List.singleton_append] at i1
    by_cases h0 : i = 0
    · refine ev_pos (by omega) (ev_pos (by omega) ?_)
      rw [show startB l i = true by unfold startB; rw [decide_eq_true h0]; rfl, if_pos rfl, wsucc i (by omega)]
      exact i1
    · refine ev_neg (by omega) ?_
      rw [w64id ((i : Int) - 1) (by omega) (by omega), show (i : Int) - 1 = ((i - 1 : Nat) : Int) by omega]
      refine ev_pos (by omega) (ev_pos (by omega) ?_)
      rw [rdR, rdR, wsucc i (by omega)]
      have hst : startB l i = !(sameT (l.getD (i - 1) z37) (l.getD i z37)) := by unfold startB; rw [decide_eq_false h0, Bool.false_or]
      rw [hst]
      by_cases b1 : (l.getD i z37).f0 = (l.getD (i - 1) z37).f0
      · refine ev_pos b1 ?_
        by_cases b2 : (l.getD i z37).f1 = (l.getD (i - 1) z37).f1
        · refine ev_pos b2 ?_
          rw [(sameT_iff _ _).2 ⟨b1.symm, b2.symm⟩]
          exact i2
        · refine ev_neg b2 (ev_pos (by omega) ?_)
          rw [show sameT (l.getD (i - 1) z37) (l.getD i z37) = false by rw [Bool.eq_false_iff]; intro h; exact b2 ((sameT_iff _ _).1 h).2.symm]
          exact i1
      · refine ev_neg b1 (ev_pos (by omega) ?_)
        rw [show sameT (l.getD (i - 1) z37) (l.getD i z37) = false by rw [Bool.eq_false_iff]; intro h; exact b1 ((sameT_iff _ _).1 h).1.symm]
        exact i1
theorem turns_ev (l : List S37) (hl : l.length ≤ 1024) : Ev (fun k => waterfall_turns.f k l) (bnds l 0) := turns_go l hl 0 [] (by omega) (by simp)
/-! ### the order -/
structure Rows (l : List S37) : Prop where
  len : l.length ≤ 1024
  row : ∀ i, i < l.length → rcB (l.getD i z37) = true
  top : isum (centsOf l) ≤ 1152921504606846976
  ord : ∀ i, 0 < i → i < l.length → aheadB (l.getD (i - 1) z37) (l.getD i z37) = true
theorem chkGo_ord : ∀ (p : Option S37) (l : List S37), chkGo p l = 0 → ∀ i, i < l.length → aheadO (if i = 0 then p else some (l.getD (i - 1) z37)) (l.getD i z37) = true
  | _, [], _ => by simp
  | p, x :: l, h => by
    rw [chkGo] at h
    by_cases h1 : rcErr x = 0
    · rw [if_pos h1] at h
      by_cases h2 : aheadO p x = true
      · rw [if_pos h2] at h
        intro i hi
        cases i with
        | zero => exact h2
        | succ i =>
          have := chkGo_ord _ l h i (by simpa using hi)
          rw [if_neg (by omega)]
          cases i with
          | zero => exact this
          | succ i => rw [if_neg (by omega)] at this; exact this
      · rw [if_neg h2] at h; cases h
    · rw [if_neg h1] at h; exact absurd h h1
theorem chk_rows (l : List S37) (h : chk47 l = 0) : Rows l := by
  unfold chk47 at h
  by_cases h1 : l.length > 1024
  · rw [if_pos h1] at h; cases h
  · rw [if_neg h1] at h
    by_cases h2 : chkGo none l = 0
    · rw [if_pos h2] at h
      by_cases h3 : isum (centsOf l) ≤ 1152921504606846976
      · refine ⟨by omega, fun i hi => (rcErr_zero _ (chkGo_money _ _ h2 _ (getD_mem' z37 l i hi))).1, h3, fun i h0 hi => ?_⟩
        have := chkGo_ord none l h2 i hi
        rwa [if_neg (by omega)] at this
      · rw [if_neg h3] at h; cases h
    · rw [if_neg h2] at h; exact absurd h h2
def keyT (x : S37) : Int := x.f0 * 16 + x.f1
theorem same_key (a b : S37) (ha : rcB a = true) (hb : rcB b = true) : sameT a b = true ↔ keyT a = keyT b := by
  have h1 := (rcB_iff a).1 ha
  have h2 := (rcB_iff b).1 hb
  rw [sameT_iff]; unfold keyT; omega
theorem ahead_key (a b : S37) (ha : rcB a = true) (hb : rcB b = true) (h : aheadB a b = true) : keyT a ≤ keyT b := by
  have h1 := (rcB_iff a).1 ha
  have h2 := (rcB_iff b).1 hb
  unfold aheadB at h
  unfold keyT
  by_cases c1 : a.f0 = b.f0
  · rw [if_pos c1] at h
    by_cases c2 : a.f1 = b.f1
    · omega
    · rw [if_neg c2] at h; have := of_decide_eq_true h; omega
  · rw [if_neg c1] at h; have := of_decide_eq_true h; omega
theorem Rows.mono {l : List S37} (R : Rows l) (i : Nat) : ∀ j, i ≤ j → j < l.length → keyT (l.getD i z37) ≤ keyT (l.getD j z37) := by
  intro j hij hj
  induction j with
  | zero => obtain rfl : i = 0 := by omega
            exact Int.le_refl _
  | succ j ih =>
    by_cases h : i = j + 1
    · subst h; exact Int.le_refl _
    · have h1 := ih (by omega) (by omega)
      have h2 := ahead_key _ _ (R.row j (by omega)) (R.row (j + 1) hj) (R.ord (j + 1) (by omega) hj)
      omega
theorem start_key {l : List S37} (R : Rows l) (i : Nat) (h0 : 0 < i) (hi : i < l.length) : startB l i = true ↔ keyT (l.getD (i - 1) z37) < keyT (l.getD i z37) := by
  have h1 := R.mono (i - 1) i (by omega) hi
  have h2 := same_key _ _ (R.row (i - 1) (by omega)) (R.row i hi)
  unfold startB
  rw [decide_eq_false (by omega : ¬ i = 0), Bool.false_or, Bool.not_eq_true']
  rw [Bool.eq_false_iff, ne_eq, h2]; omega
/-- who is of the turn that begins at i -/
theorem turn_at {l : List S37} (R : Rows l) (i : Nat) (hi : i < l.length) (hs : startB l i = true) (j : Nat) (hj : j < l.length) : sameT (l.getD j z37) (l.getD i z37) = true ↔ i ≤ j ∧ j < nb l (i + 1) := by
  rw [same_key _ _ (R.row j hj) (R.row i hi)]
  obtain ⟨n1, n2, n3, n4, _⟩ := nb_facts l (i + 1) (by omega)
  constructor
  · intro h
    constructor
    · by_cases hji : i ≤ j
      · exact hji
      · have h1 := (start_key R i (by omega) hi).1 hs
        have h2 := R.mono j (i - 1) (by omega) (by omega)
        omega
    · by_cases hb : j < nb l (i + 1)
      · exact hb
      · have h1 := (start_key R (nb l (i + 1)) (by omega) (by omega)).1 (n4 (by omega))
        have h2 := R.mono (nb l (i + 1)) j (by omega) hj
        have h3 := R.mono i (nb l (i + 1) - 1) (by omega) (by omega)
        omega
  · rintro ⟨h1, h2⟩
    clear hj
    induction j with
    | zero => obtain rfl : i = 0 := by omega
              rfl
    | succ j ih =>
      by_cases h : i = j + 1
      · subst h; rfl
      · have ih := ih (by omega) (by omega)
        have h3 := n3 (j + 1) (by omega) h2
        have h4 := (start_key R (j + 1) (by omega) (by omega))
        rw [h3] at h4
        have h5 := R.mono j (j + 1) (by omega) (by omega)
        have h6 : ¬ keyT (l.getD (j + 1 - 1) z37) < keyT (l.getD (j + 1) z37) := fun h => by cases h4.2 h
        rw [show j + 1 - 1 = j by omega] at h6
        omega
/-! ### losses, turn by turn -/
def absS (has : List Int) : List Int → List Int → Int → List Int × Int
  | a :: b :: r, out, left => if 0 < left then absS has (b :: r) (overlay out a.toNat (takeS left ((has.take b.toNat).drop a.toNat))) (left - isum (takeS left ((has.take b.toNat).drop a.toNat))) else (out, left)
  | _, out, left => (out, left)
theorem absS_stop (has L out : List Int) (left : Int) (h : ¬ 0 < left) : absS has L out left = (out, left) := by
  match L with
  | [] => rfl
  | [_] => rfl
  | a :: b :: r => rw [absS, if_neg h]
def Inc (n : Nat) : List Int → Prop
  | a :: b :: r => 0 ≤ a ∧ a < b ∧ b ≤ (n : Int) ∧ Inc n (b :: r)
  | _ => True
theorem bnds_inc (l : List S37) : ∀ i, i ≤ l.length → Inc l.length (bnds l i) := by
  refine down_ind ?_ ?_
  · rw [bnds_end]; trivial
  · intro i hi ih
    rw [bnds_step l i hi]
    split
    · obtain ⟨n1, n2, _, _, n5⟩ := nb_facts l (i + 1) (by omega)
      rw [n5] at ih ⊢
      exact ⟨by omega, by omega, by omega, ih⟩
    · exact ih
theorem isum_drop (l : List Int) (a : Nat) : isum l = isum (l.take a) + isum (l.drop a) := by
  rw [← isum_append, List.take_append_drop]
theorem piece_len (has : List Int) (a b : Nat) (h : b ≤ has.length) : ((has.take b).drop a).length = b - a := by
  rw [List.length_drop, List.length_take]; omega
theorem piece_getD (has : List Int) (a b j : Nat) (h : j < b - a) : ((has.take b).drop a).getD j 0 = has.getD (a + j) 0 := by
  rw [List.getD_eq_getElem?_getD, List.getD_eq_getElem?_getD, List.getElem?_drop, List.getElem?_take, if_pos (by omega)]
theorem piece_money (has : List Int) (hm : MoneyL has) (a b : Nat) : MoneyL ((has.take b).drop a) := by
  have hok : ∀ x ∈ has.take b, 0 ≤ x := fun x hx => hm.ok x (List.mem_of_mem_take hx)
  refine ⟨fun x hx => hok x (List.mem_of_mem_drop hx), ?_, ?_⟩
  · have h1 := isum_drop (has.take b) a
    have h2 := (isum_take_le _ hok a).1
    have h3 := (isum_take_le has hm.ok b).2
    have h4 := hm.top
    omega
  · rw [List.length_drop, List.length_take]; have := hm.len; omega
theorem overlay_len (out p : List Int) (a : Nat) (h : a + p.length ≤ out.length) : (overlay out a p).length = out.length := by
  unfold overlay; simp; omega
theorem overlay_getD (out p : List Int) (a : Nat) (h : a + p.length ≤ out.length) (i : Nat) : (overlay out a p).getD i 0 = if a ≤ i ∧ i < a + p.length then p.getD (i - a) 0 else out.getD i 0 := by
  unfold overlay
  simp only [List.getD_eq_getElem?_getD, List.getElem?_append, List.length_append, List.length_take, List.getElem?_take, List.getElem?_drop]
  rw [show min a out.length = a by omega]
  by_cases h1 : i < a
  · rw [if_pos (show i < a + p.length by omega), if_neg (show ¬ (a ≤ i ∧ i < a + p.length) by omega), if_pos h1, if_pos h1]
  · by_cases h2 : i < a + p.length
    · rw [if_pos h2, if_neg h1, if_pos (show a ≤ i ∧ i < a + p.length from ⟨by omega, h2⟩)]
    · rw [if_neg h2, if_neg (show ¬ (a ≤ i ∧ i < a + p.length) by omega), show a + p.length + (i - (a + p.length)) = i by omega]
theorem abs_ev (has : List Int) (hm : MoneyL has) : ∀ (L out : List Int) (left : Int), Inc has.length L → out.length = has.length → 0 ≤ left → left ≤ 1152921504606846976 → Ev (fun k => absGo k has L out left) (absS has L out left)
  | [], out, left, _, _, _, _ => Ev.now _
  | [_], out, left, _, _, _, _ => Ev.now _
  | a :: b :: r, out, left, hI, ho, h0, h1 => by
    obtain ⟨i1, i2, i3, hI⟩ := hI
    simp only [absGo, absS]
    by_cases hl : 0 < left
    · rw [if_pos hl]
      refine ev_pos hl (ev_pos ⟨i1, i2, i3, by omega⟩ ?_)
      have hp := piece_money has hm a.toNat b.toNat
      have hpl := piece_len has a.toNat b.toNat (by omega)
      generalize (has.take b.toNat).drop a.toNat = p at *
      obtain ⟨f1, f2, f3⟩ := take_facts left p h0 hp
      have f4 := isum_nn _ (take_nn left p h0 hp)
      have f5 := isum_nn p hp.ok
      refine ev_bnd (takeF_ev left p h0 h1 hp) (ev_pos (by simp only; omega) ?_)
      exact abs_ev has hm (b :: r) _ _ hI (by rw [overlay_len _ _ _ (by simp only; omega), ho]) (by simp only; split at f2 <;> omega) (by simp only; omega)
    · rw [if_neg hl]; exact ev_neg hl (ev_some rfl)
theorem rd_set_tab (l : List S37) (n : Nat) (hn : n = l.length) : centsOf l = tab n (fun j => (l.getD j z37).f3) := by
  subst hn
  refine list_ext _ _ (by unfold centsOf; rw [List.length_map, tab_len]) fun i hi => ?_
  unfold centsOf at hi ⊢
  rw [List.length_map] at hi
  rw [tab_getD _ _ _ hi, List.getD_eq_getElem?_getD, List.getElem?_map, List.getElem?_eq_getElem hi, List.getD_eq_getElem?_getD, List.getElem?_eq_getElem hi]; rfl
theorem cents_getD (l : List S37) (i : Nat) (hi : i < l.length) : (centsOf l).getD i 0 = (l.getD i z37).f3 := by
  rw [rd_set_tab l _ rfl, tab_getD _ _ _ hi]
theorem cents_len (l : List S37) : (centsOf l).length = l.length := by unfold centsOf; rw [List.length_map]
theorem Rows.money {l : List S37} (R : Rows l) : MoneyL (centsOf l) := by
  refine ⟨fun a ha => ?_, R.top, by rw [cents_len]; exact R.len⟩
  obtain ⟨j, hj, rfl⟩ := getD_mem _ a ha
  rw [cents_len] at hj
  rw [cents_getD l j hj]
  exact ((okMoney_iff _).1 ((rcB_iff _).1 (R.row j hj)).2.2.2.2).1
/-! ### the document's loop -/
def partF (l : List S37) (m : List Int) (at_ : Nat) (j : Nat) : Int := if sameT (l.getD j z37) (l.getD at_ z37) = true then m.getD j 0 else 0
theorem part_pad {l : List S37} (R : Rows l) (m : List Int) (hm : m.length = l.length) (i : Nat) (hi : i < l.length) (hs : startB l i = true) : tab l.length (partF l m i) = padL l.length i ((m.take (nb l (i + 1))).drop i) := by
  obtain ⟨n1, n2, _⟩ := nb_facts l (i + 1) (by omega)
  have hpl := piece_len m i (nb l (i + 1)) (by omega)
  refine list_ext _ _ (by rw [tab_len, pad_len _ _ _ (by omega)]) fun j hj => ?_
  rw [tab_len] at hj
  rw [tab_getD _ _ _ hj, pad_getD, hpl]
  unfold partF
  have ht := turn_at R i hi hs j hj
  by_cases h : i ≤ j ∧ j < nb l (i + 1)
  · rw [if_pos (ht.2 h), if_pos (by omega), piece_getD _ _ _ _ (by omega), show i + (j - i) = j by omega]
  · rw [if_neg (fun e => h (ht.1 e)), if_neg (by omega)]
structure AbsInv (n z : Nat) (out : List Int) (left : Int) : Prop where
  len : out.length = n
  l0 : 0 ≤ left
  l1 : left ≤ 1152921504606846976
  row : ∀ j, j < n → 0 ≤ out.getD j 0 ∧ out.getD j 0 ≤ 1152921504606846976
  zero : ∀ j, z ≤ j → out.getD j 0 = 0
theorem AbsInv.step {n a b : Nat} {out p : List Int} {left : Int} (I : AbsInv n a out left) (hp : MoneyL p) (hpl : p.length = b - a) (hab : a < b) (hb : b ≤ n) : AbsInv n b (overlay out a (takeS left p)) (left - isum (takeS left p)) := by
  obtain ⟨f1, f2, f3⟩ := take_facts left p I.l0 hp
  have f4 := isum_nn _ (take_nn left p I.l0 hp)
  have f5 := isum_nn p hp.ok
  have hl := I.len
  have h0 := I.l0
  have h1 := I.l1
  refine ⟨by rw [overlay_len _ _ _ (by omega)]; exact hl, by split at f2 <;> omega, by omega, fun j hj => ?_, fun j hj => ?_⟩
  · rw [overlay_getD _ _ _ (by omega)]
    by_cases hw : a ≤ j ∧ j < a + (takeS left p).length
    · rw [if_pos hw]
      have := f3 (j - a) (by omega)
      have := hp.each _ (mem_getD p (j - a) (by omega))
      omega
    · rw [if_neg hw]; exact I.row j hj
  · rw [overlay_getD _ _ _ (by omega), if_neg (by omega)]
    exact I.zero j (by omega)
theorem amounts_go (l : List S37) (hl : l.length ≤ 1024) : ∀ (i : Nat) (out : List Int), i ≤ l.length → out = tab l.length (fun j => if j < i then (l.getD j z37).f3 else 0) → Ev (fun k => waterfall_amounts.l0 k out l (l.length : Int) (i : Int)) (centsOf l) := by
  refine ev_down (S := List Int) (g := fun k i out => waterfall_amounts.l0 k out l (l.length : Int) (i : Int)) (spec := fun _ _ => centsOf l) (inv := fun i out => out = tab l.length (fun j => if j < i then (l.getD j z37).f3 else 0)) ?_ ?_
  · intro out ho
    refine Ev.step (fun _ => rfl) (ev_neg (by omega) (ev_some ?_))
    rw [ho, rd_set_tab l _ rfl]
    exact tab_congr _ _ _ fun j hj => by rw [if_pos hj]
  · intro i out hi ho ih
    refine Ev.step (fun _ => rfl) (ev_pos (by omega) (ev_pos (by omega) (ev_pos (by omega) (ev_pos (by rw [ho, tab_len]; omega) ?_))))
    rw [rdR, wsucc i (by omega), Int.toNat_natCast]
    refine ih _ ?_
    rw [ho, tab_set]
    refine tab_congr _ _ _ fun j hj => ?_
    by_cases h1 : j = i
    · subst h1; rw [if_pos rfl, if_pos (by omega)]
    · rw [if_neg h1]
      by_cases h2 : j < i
      · rw [if_pos h2, if_pos (by omega)]
      · rw [if_neg h2, if_neg (by omega)]
theorem amounts_ev (l : List S37) (hl : l.length ≤ 1024) : Ev (fun k => waterfall_amounts.f k l) (centsOf l) := by
  unfold waterfall_amounts.f
  refine ev_pos (by omega) (ev_pos (by rw [Int.toNat_natCast]; omega) ?_)
  rw [Int.toNat_natCast, tab_zero]
  exact amounts_go l hl 0 _ (by omega) (tab_congr _ _ _ fun j hj => by rw [if_neg (by omega)])
def absAns (loss : Int) (l : List S37) : List Int × Int × Int := if chk47 l = 0 then (if okMoney loss = true then ((absS (centsOf l) (bnds l 0) (List.replicate l.length 0) loss).1, (absS (centsOf l) (bnds l 0) (List.replicate l.length 0) loss).2, 0) else ([], 0, 2)) else ([], 0, chk47 l)
theorem absorb_ev (loss : Int) (l : List S37) : Ev (fun k => waterfall_Absorb.f k loss l) (absAns loss l) := by
  unfold waterfall_Absorb.f absAns
  refine ev_bnd (wcheck_ev l) ?_
  by_cases hc : chk47 l = 0
  · rw [if_pos hc]
    have R := chk_rows l hc
    have hl := R.len
    refine ev_pos hc (ev_val (wmoney_eq loss) ?_)
    by_cases hm : okMoney loss = true
    · rw [if_pos hm]
      have hm2 := (okMoney_iff loss).1 hm
      refine ev_pos hm (ev_pos hl (ev_bnd (amounts_ev l hl) (ev_bnd (turns_ev l hl) ?_)))
      have hbl : 0 < (bnds l 0).length ∧ (bnds l 0).length ≤ 1048576 := by
        have : ∀ i, i ≤ l.length → 0 < (bnds l i).length ∧ (bnds l i).length ≤ l.length - i + 1 := by
          refine down_ind ?_ ?_
          · rw [bnds_end]; simp
          · intro i hi ih
            rw [bnds_step l i hi]
            split
            · rw [List.length_cons]; omega
            · omega
        have := this 0 (by omega)
        omega
      refine ev_pos hbl (ev_bnd (abs_ev (centsOf l) R.money (bnds l 0) (List.replicate l.length 0) loss (by rw [cents_len]; exact bnds_inc l 0 (by omega)) (by rw [List.length_replicate, cents_len]) hm2.1 hm2.2) (ev_some rfl))
    · rw [if_neg hm]; exact ev_neg hm (ev_some rfl)
  · rw [if_neg hc]; exact ev_neg hc (ev_some rfl)
/-! ### may numbers be what was paid? -/
structure Paid (l : List S37) (paid : List Int) : Prop extends Rows l where
  plen : paid.length = l.length
  each : ∀ j, j < l.length → 0 ≤ paid.getD j 0 ∧ paid.getD j 0 ≤ (l.getD j z37).f3
theorem Paid.money {l : List S37} {paid : List Int} (F : Paid l paid) : MoneyL paid := by
  have hc := F.toRows.money
  refine ⟨fun a ha => ?_, ?_, by rw [F.plen]; exact F.len⟩
  · obtain ⟨j, hj, rfl⟩ := getD_mem _ a ha
    exact (F.each j (by rw [← F.plen]; exact hj)).1
  · have := sumTo_le (fun j => paid.getD j 0) (fun j => (centsOf l).getD j 0) l.length (fun j hj => by rw [cents_getD l j hj]; exact (F.each j hj).2)
    rw [← F.plen, ← isum_sumTo, F.plen, ← cents_len l, ← isum_sumTo] at this
    have := hc.top
    omega
/-! ### what comes back, the last turn first -/
def bdB (l : List S37) (q : Nat) : Bool := decide (q = l.length) || startB l q
def psC (l : List S37) : Nat → Nat × Nat
  | 0 => (0, 0)
  | q + 1 => if bdB l (q + 1) = true then (q + 1, (psC l q).2 + 1) else psC l q
theorem ps_facts (l : List S37) : ∀ q, (psC l q).1 ≤ q ∧ (bdB l (psC l q).1 = true ∨ (psC l q).1 = 0) ∧ ∀ j, (psC l q).1 < j → j ≤ q → bdB l j = false
  | 0 => ⟨by simp [psC], .inr rfl, fun j h1 h2 => by omega⟩
  | q + 1 => by
    obtain ⟨h1, h2, h3⟩ := ps_facts l q
    rw [psC]
    cases hb : bdB l (q + 1) with
    | true =>
      simp only [if_true]
      exact ⟨by omega, .inl hb, fun j h1 h2 => by omega⟩
    | false =>
      simp only [Bool.false_eq_true, if_false]
      refine ⟨by omega, h2, fun j h4 h5 => ?_⟩
      by_cases hj : j = q + 1
      · subst hj; exact hb
      · exact h3 j h4 (by omega)
structure RetInv (n z : Nat) (out : List Int) (left : Int) : Prop where
  len : out.length = n
  l0 : 0 ≤ left
  l1 : left ≤ 1152921504606846976
  row : ∀ j, j < n → 0 ≤ out.getD j 0 ∧ out.getD j 0 ≤ 1152921504606846976
  zero : ∀ j, j < z → out.getD j 0 = 0
theorem RetInv.step {n a b : Nat} {out p : List Int} {left : Int} (I : RetInv n b out left) (hp : MoneyL p) (hpl : p.length = b - a) (hab : a < b) (hb : b ≤ n) : RetInv n a (overlay out a (takeS left p)) (left - isum (takeS left p)) := by
  obtain ⟨f1, f2, f3⟩ := take_facts left p I.l0 hp
  have f4 := isum_nn _ (take_nn left p I.l0 hp)
  have f5 := isum_nn p hp.ok
  have hl := I.len
  have h0 := I.l0
  have h1 := I.l1
  refine ⟨by rw [overlay_len _ _ _ (by omega)]; exact hl, by split at f2 <;> omega, by omega, fun j hj => ?_, fun j hj => ?_⟩
  · rw [overlay_getD _ _ _ (by omega)]
    by_cases hw : a ≤ j ∧ j < a + (takeS left p).length
    · rw [if_pos hw]
      have := f3 (j - a) (by omega)
      have := hp.each _ (mem_getD p (j - a) (by omega))
      omega
    · rw [if_neg hw]; exact I.row j hj
  · rw [overlay_getD _ _ _ (by omega), if_neg (by omega)]
    exact I.zero j (by omega)
/-! ### who paid out of turn -/
theorem isum_le (a b : List Int) (hl : a.length = b.length) (h : ∀ j, j < a.length → a.getD j 0 ≤ b.getD j 0) : isum a ≤ isum b := by
  have := sumTo_le (fun j => a.getD j 0) (fun j => b.getD j 0) a.length h
  rw [← isum_sumTo, hl, ← isum_sumTo] at this
  exact this
theorem isum_zero_iff (p : List Int) (h : ∀ a ∈ p, 0 ≤ a) : isum p = 0 ↔ ∀ j, j < p.length → p.getD j 0 = 0 := by
  constructor
  · intro hs j hj
    have h1 := mem_le_isum p h _ (mem_getD p j hj)
    have h2 := h _ (mem_getD p j hj)
    omega
  · intro hj
    have h1 := g_isum_nonpos p (fun i hi => by rw [hj i hi]; exact Int.le_refl _)
    have h2 := isum_nn p h
    omega
theorem part_same {l : List S37} (R : Rows l) (m : List Int) (i j : Nat) (hi : i < l.length) (hj : j < l.length) (h : sameT (l.getD j z37) (l.getD i z37) = true) : tab l.length (partF l m j) = tab l.length (partF l m i) := by
  refine tab_congr _ _ _ fun x hx => ?_
  unfold partF
  have k1 := (same_key _ _ (R.row j hj) (R.row i hi)).1 h
  have k2 : sameT (l.getD x z37) (l.getD j z37) = sameT (l.getD x z37) (l.getD i z37) := by
    rw [Bool.eq_iff_iff, same_key _ _ (R.row x hx) (R.row j hj), same_key _ _ (R.row x hx) (R.row i hi), k1]
  rw [k2]
/-! ### what a layer has -/
theorem goes47 : Ev (fun k => cl47_goes.f k) true := Ev.of (fun k => cl47_goes.mono k) (k := 600) (by decide +kernel)
theorem goes47t : Ev (fun k => (cl47_goes.f k).bind fun t => some t) true := ev_bnd goes47 (ev_some rfl)
/-! ### what a loss takes, told by sums -/
theorem getD_take (l : List Int) (q j : Nat) (h : j < q) : (l.take q).getD j 0 = l.getD j 0 := by
  rw [List.getD_eq_getElem?_getD, List.getD_eq_getElem?_getD, List.getElem?_take, if_pos h]
theorem getD_drop (l : List Int) (q j : Nat) : (l.drop q).getD j 0 = l.getD (q + j) 0 := by
  rw [List.getD_eq_getElem?_getD, List.getD_eq_getElem?_getD, List.getElem?_drop]
theorem take_eq_of (x y : List Int) (q : Nat) (hx : q ≤ x.length) (hy : q ≤ y.length) (h : ∀ j, j < q → x.getD j 0 = y.getD j 0) : x.take q = y.take q := by
  refine list_ext _ _ (by rw [List.length_take, List.length_take]; omega) fun j hj => ?_
  rw [List.length_take] at hj
  rw [getD_take _ _ _ (by omega), getD_take _ _ _ (by omega), h j (by omega)]
theorem overlay_take (out p : List Int) (a : Nat) (h : a + p.length ≤ out.length) : (overlay out a p).take (a + p.length) = out.take a ++ p := by
  unfold overlay
  rw [List.take_append_of_le_length (by rw [List.length_append, List.length_take]; omega), List.take_of_length_le (by rw [List.length_append, List.length_take]; omega)]
theorem piece_sum (m : List Int) (a b : Nat) (h : a ≤ b) : isum ((m.take b).drop a) = isum (m.take b) - isum (m.take a) := by
  have h1 := isum_drop (m.take b) a
  rw [List.take_take, Nat.min_eq_left h] at h1
  omega
theorem take_mono (m : List Int) (hm : ∀ a ∈ m, 0 ≤ a) (a b : Nat) (h : a ≤ b) : isum (m.take a) ≤ isum (m.take b) := by
  have h1 := piece_sum m a b h
  have h2 := isum_nn ((m.take b).drop a) (fun x hx => hm x (List.mem_of_mem_take (List.mem_of_mem_drop hx)))
  omega
theorem take_zeros (out : List Int) (z q : Nat) (hz : ∀ j, z ≤ j → out.getD j 0 = 0) (h : z ≤ q) : isum (out.take q) = isum (out.take z) := by
  have h1 := piece_sum out z q h
  have h2 : isum ((out.take q).drop z) = 0 := by
    rw [isum_sumTo]
    rw [sumTo_congr _ (fun _ => 0) _ (fun j hj => by
      rw [List.length_drop, List.length_take] at hj
      rw [getD_drop, getD_take _ _ _ (by omega)]; exact hz _ (by omega))]
    generalize ((out.take q).drop z).length = n
    induction n with
    | zero => rfl
    | succ n ih => simp only [sumTo]; omega
  omega
theorem take_zero (p : List Int) (hp : MoneyL p) : takeS 0 p = List.replicate p.length 0 := by
  obtain ⟨f1, f2, f3⟩ := take_facts 0 p (Int.le_refl _) hp
  have h1 := isum_nn p hp.ok
  have h2 : isum (takeS 0 p) = 0 := by split at f2 <;> omega
  have h3 := (isum_zero_iff _ (take_nn 0 p (Int.le_refl _) hp)).1 h2
  refine list_ext _ _ (by rw [f1, List.length_replicate]) fun j hj => ?_
  rw [h3 j hj, tab_zero, tab_getD _ _ _ (by omega)]
structure AbsRun (l : List S37) (loss : Int) (z : Nat) (out : List Int) (left : Int) : Prop where
  len : out.length = l.length
  lo : left = loss - min loss (isum ((centsOf l).take z))
  each : ∀ j, j < l.length → 0 ≤ out.getD j 0 ∧ out.getD j 0 ≤ (l.getD j z37).f3
  zero : ∀ j, z ≤ j → out.getD j 0 = 0
  cum : ∀ q, bdB l q = true ∨ q = 0 → q ≤ z → isum (out.take q) = min loss (isum ((centsOf l).take q))
  quo : ∀ i, startB l i = true → i < z → ∃ m, 0 ≤ m ∧ (out.take (nb l (i + 1))).drop i = takeS m (((centsOf l).take (nb l (i + 1))).drop i)
theorem nb_before (l : List S37) (i j : Nat) (hi : i < j) (hj : j < l.length) (hs : startB l j = true) : nb l (i + 1) ≤ j := by
  obtain ⟨_, _, n3, _⟩ := nb_facts l (i + 1) (by omega)
  by_cases h : nb l (i + 1) ≤ j
  · exact h
  · have := n3 j (by omega) (by omega)
    rw [hs] at this; cases this
theorem AbsRun.step {l : List S37} (R : Rows l) {loss : Int} {i : Nat} {out : List Int} {left : Int} (A : AbsRun l loss i out left) (hi : i < l.length) (hs : startB l i = true) (hl : 0 < left) :
    AbsRun l loss (nb l (i + 1)) (overlay out i (takeS left (((centsOf l).take (nb l (i + 1))).drop i))) (left - isum (takeS left (((centsOf l).take (nb l (i + 1))).drop i))) := by
  obtain ⟨n1, n2, n3, _, _⟩ := nb_facts l (i + 1) (by omega)
  have hp := piece_money (centsOf l) R.money i (nb l (i + 1))
  have hpl := piece_len (centsOf l) i (nb l (i + 1)) (by rw [cents_len]; omega)
  have hps := piece_sum (centsOf l) i (nb l (i + 1)) (by omega)
  have hpe : ∀ j, j < nb l (i + 1) - i → (((centsOf l).take (nb l (i + 1))).drop i).getD j 0 = (l.getD (i + j) z37).f3 := fun j hj => by
    rw [piece_getD _ _ _ _ hj, cents_getD l _ (by omega)]
  have hmo := take_mono (centsOf l) R.money.ok i (nb l (i + 1)) (by omega)
  have hlo := A.lo
  have hlen := A.len
  generalize hP : ((centsOf l).take (nb l (i + 1))).drop i = p at *
  obtain ⟨f1, f2, f3⟩ := take_facts left p (by omega) hp
  have hbe : i + (takeS left p).length = nb l (i + 1) := by omega
  have htk : (overlay out i (takeS left p)).take (nb l (i + 1)) = out.take i ++ takeS left p := by
    rw [← hbe]; exact overlay_take out _ i (by omega)
  have hci := A.cum i (by unfold bdB; rw [hs, Bool.or_true]; exact .inl rfl) (by omega)
  refine ⟨by rw [overlay_len _ _ _ (by omega), hlen], ?_, fun j hj => ?_, fun j hj => ?_, fun q hq hqb => ?_, fun j hj hjb => ?_⟩
  · split at f2 <;> omega
  · rw [overlay_getD _ _ _ (by omega)]
    by_cases hw : i ≤ j ∧ j < i + (takeS left p).length
    · rw [if_pos hw]
      have := f3 (j - i) (by omega)
      rw [hpe _ (by omega), show i + (j - i) = j by omega] at this
      exact this
    · rw [if_neg hw]; exact A.each j hj
  · rw [overlay_getD _ _ _ (by omega), if_neg (by omega)]
    exact A.zero j (by omega)
  · by_cases hqi : q ≤ i
    · rw [take_eq_of _ out q (by rw [overlay_len _ _ _ (by omega)]; omega) (by omega) (fun j hj => by rw [overlay_getD _ _ _ (by omega), if_neg (by omega)])]
      exact A.cum q hq hqi
    · by_cases hqe : q = nb l (i + 1)
      · subst hqe
        rw [htk, isum_append, hci]
        split at f2 <;> omega
      · exfalso
        have h3 := n3 q (by omega) (by omega)
        rcases hq with hq | hq
        · unfold bdB at hq
          rw [h3, decide_eq_false (by omega)] at hq
          cases hq
        · omega
  · by_cases hji : j < i
    · have hb := nb_before l j i hji hi hs
      obtain ⟨m, m0, hm⟩ := A.quo j hj hji
      refine ⟨m, m0, ?_⟩
      rw [← hm, take_eq_of _ out _ (by rw [overlay_len _ _ _ (by omega)]; omega) (by omega) (fun x hx => by rw [overlay_getD _ _ _ (by omega), if_neg (by omega)])]
    · by_cases hje : j = i
      · subst hje
        refine ⟨left, by omega, ?_⟩
        rw [htk, hP, List.drop_append_of_le_length (by rw [List.length_take]; omega), List.drop_eq_nil_of_le (by rw [List.length_take]; omega)]; rfl
      · exfalso
        have h3 := n3 j (by omega) (by omega)
        rw [h3] at hj; cases hj
theorem AbsRun.stop {l : List S37} (R : Rows l) {loss : Int} {z : Nat} {out : List Int} {left : Int} (A : AbsRun l loss z out left) (hz : z ≤ l.length) (hb : bdB l z = true ∨ z = 0) (hl : ¬ 0 < left) : AbsRun l loss l.length out left := by
  have hlo := A.lo
  have hmo := take_mono (centsOf l) R.money.ok z
  have hcz := A.cum z hb (Nat.le_refl _)
  have hlen := A.len
  refine ⟨A.len, ?_, A.each, fun j hj => A.zero j (by omega), fun q hq hqb => ?_, fun j hj hjb => ?_⟩
  · have := hmo l.length hz
    omega
  · by_cases hqz : q ≤ z
    · exact A.cum q hq hqz
    · rw [take_zeros out z q A.zero (by omega), hcz]
      have := hmo q (by omega)
      omega
  · by_cases hjz : j < z
    · exact A.quo j hj hjz
    · obtain ⟨n1, n2, _⟩ := nb_facts l (j + 1) (by omega)
      have hp := piece_money (centsOf l) R.money j (nb l (j + 1))
      have hpl := piece_len (centsOf l) j (nb l (j + 1)) (by rw [cents_len]; omega)
      have hol := piece_len out j (nb l (j + 1)) (by omega)
      refine ⟨0, Int.le_refl _, ?_⟩
      rw [take_zero _ hp, hpl]
      refine list_ext _ _ (by rw [hol, List.length_replicate]) fun x hx => ?_
      rw [hol] at hx
      rw [piece_getD _ _ _ _ hx, tab_zero, tab_getD _ _ _ hx]
      exact A.zero _ (by omega)
theorem nb_bd (l : List S37) (i : Nat) (hi : i ≤ l.length) : bdB l (nb l i) = true := by
  obtain ⟨_, n2, _, n4, _⟩ := nb_facts l i hi
  unfold bdB
  by_cases h : nb l i < l.length
  · rw [n4 h, Bool.or_true]
  · rw [decide_eq_true (show nb l i = l.length by omega), Bool.true_or]
theorem abs_run {l : List S37} (R : Rows l) (loss : Int) : ∀ i, i ≤ l.length → ∀ (out : List Int) (left : Int), AbsRun l loss (nb l i) out left → AbsRun l loss l.length (absS (centsOf l) (bnds l i) out left).1 (absS (centsOf l) (bnds l i) out left).2 := by
  refine down_ind ?_ ?_
  · intro out left A
    rw [bnds_end]
    rw [nb_end] at A
    exact A
  · intro i hi ih out left A
    by_cases hpos : 0 < left
    · have hb := bnds_step l i hi
      have hn := nb_step l i hi
      cases hs : startB l i with
      | false =>
        rw [hs] at hb hn
        simp only [Bool.false_eq_true, if_false] at hb hn
        rw [hb]
        rw [hn] at A
        exact ih out left A
      | true =>
        rw [hs] at hb hn
        simp only [if_true] at hb hn
        rw [hn] at A
        obtain ⟨n1, n2, _, _, n5⟩ := nb_facts l (i + 1) (by omega)
        have hspec : absS (centsOf l) (bnds l i) out left = absS (centsOf l) (bnds l (i + 1)) (overlay out i (takeS left (((centsOf l).take (nb l (i + 1))).drop i))) (left - isum (takeS left (((centsOf l).take (nb l (i + 1))).drop i))) := by
          rw [hb, n5, absS, if_pos hpos, Int.toNat_natCast, Int.toNat_natCast]
        rw [hspec]
        exact ih _ _ (A.step R hi hs hpos)
    · rw [absS_stop _ _ _ _ hpos]
      exact A.stop R (nb_facts l i (by omega)).2.1 (.inl (nb_bd l i (by omega))) hpos
/-- what is told of a loss that is taken -/
theorem absorb_run (loss : Int) (l : List S37) (h : (absAns loss l).2.2 = 0) : Rows l ∧ okMoney loss = true ∧ AbsRun l loss l.length (absAns loss l).1 (absAns loss l).2.1 := by
  unfold absAns at h ⊢
  by_cases hc : chk47 l = 0
  · rw [if_pos hc] at h ⊢
    by_cases hm : okMoney loss = true
    · rw [if_pos hm] at h ⊢
      have R := chk_rows l hc
      have hm2 := (okMoney_iff loss).1 hm
      have hz : ∀ j, (List.replicate l.length (0 : Int)).getD j 0 = 0 := by
        intro j
        rw [List.getD_eq_getElem?_getD, List.getElem?_replicate]; split <;> rfl
      have hrow : ∀ j, j < l.length → 0 ≤ (l.getD j z37).f3 := fun j hj => ((okMoney_iff _).1 ((rcB_iff _).1 (R.row j hj)).2.2.2.2).1
      have hn0 : nb l 0 = 0 := by
        by_cases h0 : 0 < l.length
        · rw [nb_step l 0 h0]; rfl
        · have := nb_facts l 0 (by omega); omega
      refine ⟨R, hm, abs_run R loss 0 (by omega) _ _ ?_⟩
      rw [hn0]
      refine ⟨List.length_replicate, ?_, fun j hj => by rw [hz j]; exact ⟨Int.le_refl _, hrow j hj⟩, fun j _ => hz j, fun q _ hq => ?_, fun j _ hj => by omega⟩
      · rw [List.take_zero, show isum [] = 0 from rfl]; omega
      · obtain rfl : q = 0 := by omega
        rw [List.take_zero, List.take_zero, show isum [] = 0 from rfl]; omega
    · rw [if_neg hm] at h; cases h
  · rw [if_neg hc] at h; exact absurd h hc
/-! ### what is left of resources that paid -/
theorem list_extS (l m : List S37) (h : l.length = m.length) (he : ∀ i, i < l.length → l.getD i z37 = m.getD i z37) : l = m := by
  refine List.ext_getElem h fun i h1 h2 => ?_
  have := he i h1
  rwa [List.getD_eq_getElem?_getD, List.getD_eq_getElem?_getD, List.getElem?_eq_getElem h1, List.getElem?_eq_getElem h2] at this
def lessR (x : S37) (a : Int) : S37 := ⟨x.f0, x.f1, x.f2, x.f3 - a⟩
def lessTo (l : List S37) (a : List Int) (i : Nat) : List S37 := (List.range l.length).map fun j => if j < i then lessR (l.getD j z37) (a.getD j 0) else l.getD j z37
theorem less_len (l : List S37) (a : List Int) (i : Nat) : (lessTo l a i).length = l.length := by unfold lessTo; rw [List.length_map, List.length_range]
theorem less_getD (l : List S37) (a : List Int) (i j : Nat) (h : j < l.length) : (lessTo l a i).getD j z37 = if j < i then lessR (l.getD j z37) (a.getD j 0) else l.getD j z37 := by
  unfold lessTo
  rw [List.getD_eq_getElem?_getD, List.getElem?_map, List.getElem?_range h]; rfl
theorem less_zero (l : List S37) (a : List Int) : lessTo l a 0 = l := list_extS _ _ (less_len l a 0) fun j hj => by
  rw [less_len] at hj
  rw [less_getD _ _ _ _ hj, if_neg (by omega)]
theorem getD_setS (l : List S37) (i j : Nat) (v : S37) (hi : i < l.length) : (l.set i v).getD j z37 = if j = i then v else l.getD j z37 := by
  rw [List.getD_eq_getElem?_getD, List.getElem?_set, List.getD_eq_getElem?_getD]
  by_cases h : j = i
  · rw [if_pos h.symm, if_pos h, if_pos (by omega)]; rfl
  · rw [if_neg (fun e => h e.symm), if_neg h]
theorem less_set (l : List S37) (a : List Int) (i : Nat) (hi : i < l.length) : (lessTo l a i).set i (lessR (l.getD i z37) (a.getD i 0)) = lessTo l a (i + 1) := by
  refine list_extS _ _ (by rw [List.length_set, less_len, less_len]) fun j hj => ?_
  rw [List.length_set, less_len] at hj
  rw [getD_setS _ _ _ _ (by rw [less_len]; exact hi), less_getD _ _ _ _ hj, less_getD _ _ _ _ hj]
  by_cases h1 : j = i
  · subst h1; rw [if_pos rfl, if_pos (by omega)]
  · rw [if_neg h1]
    by_cases h2 : j < i
    · rw [if_pos h2, if_pos (by omega)]
    · rw [if_neg h2, if_neg (by omega)]
def alikeR (x y : S37) : Prop := y.f0 = x.f0 ∧ y.f1 = x.f1 ∧ y.f2 = x.f2 ∧ okMoney y.f3 = true
def alikeO : Option S37 → Option S37 → Prop
  | none, none => True
  | some x, some y => alikeR x y
  | _, _ => False
theorem alike_rc (x y : S37) (h : alikeR x y) (hx : rcErr x = 0) : rcErr y = 0 := by
  obtain ⟨h1, h2⟩ := rcErr_zero x hx
  obtain ⟨e0, e1, e2, e3⟩ := h
  have hb : rcB y = true := by
    rw [rcB_iff] at h1 ⊢
    rw [e0, e1]; exact ⟨h1.1, h1.2.1, h1.2.2.1, h1.2.2.2.1, e3⟩
  unfold rcErr
  rw [if_pos hb, e2, if_pos h2]
theorem alike_ahead (x y a b : S37) (h : alikeR x y) (h2 : alikeR a b) : aheadB y b = aheadB x a := by
  obtain ⟨e0, e1, e2, _⟩ := h
  obtain ⟨g0, g1, g2, _⟩ := h2
  unfold aheadB
  rw [e0, e1, e2, g0, g1, g2]
theorem chkGo_alike : ∀ (l m : List S37) (p q : Option S37), l.length = m.length → (∀ j, j < l.length → alikeR (l.getD j z37) (m.getD j z37)) → alikeO p q → chkGo p l = 0 → chkGo q m = 0
  | [], [], _, _, _, _, _, _ => rfl
  | [], _ :: _, _, _, h, _, _, _ => by simp at h
  | _ :: _, [], _, _, h, _, _, _ => by simp at h
  | x :: l, y :: m, p, q, hl, he, ho, h => by
    have h0 : alikeR x y := he 0 (by simp)
    rw [chkGo] at h ⊢
    by_cases h1 : rcErr x = 0
    · rw [if_pos h1] at h
      rw [if_pos (alike_rc x y h0 h1)]
      by_cases h2 : aheadO p x = true
      · rw [if_pos h2] at h
        have h3 : aheadO q y = true := by
          match p, q, ho with
          | none, none, _ => rfl
          | some p, some q, ho =>
            show aheadB q y = true
            rw [alike_ahead p q x y ho h0]; exact h2
        rw [if_pos h3]
        exact chkGo_alike l m (some x) (some y) (by simpa using hl) (fun j hj => he (j + 1) (by simpa using hj)) h0 h
      · rw [if_neg h2] at h; cases h
    · rw [if_neg h1] at h; exact absurd h h1
theorem less_at (l : List S37) (a : List Int) (j : Nat) (h : j < l.length) : (lessTo l a l.length).getD j z37 = lessR (l.getD j z37) (a.getD j 0) := by
  rw [less_getD _ _ _ _ h, if_pos h]
theorem less_cents (l : List S37) (a : List Int) : centsOf (lessTo l a l.length) = tab l.length (fun j => (centsOf l).getD j 0 - a.getD j 0) := by
  refine list_ext _ _ (by rw [cents_len, less_len, tab_len]) fun j hj => ?_
  rw [cents_len, less_len] at hj
  rw [cents_getD _ _ (by rw [less_len]; exact hj), less_at l a j hj, tab_getD _ _ _ hj, cents_getD l j hj]; rfl
theorem take_sumTo (m : List Int) (q : Nat) (h : q ≤ m.length) : isum (m.take q) = sumTo (fun j => m.getD j 0) q := by
  rw [isum_sumTo, List.length_take, Nat.min_eq_left h]
  exact sumTo_congr _ _ _ fun j hj => getD_take m q j hj
theorem less_take (l : List S37) (a : List Int) (ha : a.length = l.length) (q : Nat) (h : q ≤ l.length) : isum ((centsOf (lessTo l a l.length)).take q) = isum ((centsOf l).take q) - isum (a.take q) := by
  rw [take_sumTo _ _ (by rw [cents_len, less_len]; exact h), take_sumTo _ _ (by rw [cents_len]; exact h), take_sumTo _ _ (by omega), ← sumTo_sub]
  refine sumTo_congr _ _ _ fun j hj => ?_
  rw [less_cents, tab_getD _ _ _ (by omega)]
theorem less_start (l : List S37) (a : List Int) (i : Nat) (h : i < l.length) : startB (lessTo l a l.length) i = startB l i := by
  have hs : ∀ x y : Nat, x < l.length → y < l.length → sameT ((lessTo l a l.length).getD x z37) ((lessTo l a l.length).getD y z37) = sameT (l.getD x z37) (l.getD y z37) := fun x y hx hy => by
    rw [less_at l a x hx, less_at l a y hy]; rfl
  unfold startB
  by_cases h0 : i = 0
  · rw [decide_eq_true h0, Bool.true_or, Bool.true_or]
  · rw [hs _ _ (by omega) h]
theorem less_bd (l : List S37) (a : List Int) (q : Nat) (h : q ≤ l.length) : bdB (lessTo l a l.length) q = bdB l q := by
  unfold bdB
  rw [less_len]
  by_cases h0 : q = l.length
  · rw [decide_eq_true h0, Bool.true_or, Bool.true_or]
  · rw [less_start l a q (by omega)]
theorem less_chk {l : List S37} {a : List Int} (hc : chk47 l = 0) (ha : a.length = l.length) (he : ∀ j, j < l.length → 0 ≤ a.getD j 0 ∧ a.getD j 0 ≤ (l.getD j z37).f3) : chk47 (lessTo l a l.length) = 0 := by
  have R := chk_rows l hc
  have hcg : chkGo none l = 0 := by
    unfold chk47 at hc
    rw [if_neg (by have := R.len; omega)] at hc
    by_cases h : chkGo none l = 0
    · exact h
    · rw [if_neg h] at hc; exact absurd hc h
  have hgo := chkGo_alike l (lessTo l a l.length) none none (less_len _ _ _).symm (fun j hj => by
    rw [less_at l a j hj]
    have h1 := (okMoney_iff _).1 ((rcB_iff _).1 (R.row j hj)).2.2.2.2
    have h2 := he j hj
    exact ⟨rfl, rfl, rfl, (okMoney_iff _).2 ⟨by show 0 ≤ (l.getD j z37).f3 - a.getD j 0; omega, by show (l.getD j z37).f3 - a.getD j 0 ≤ _; omega⟩⟩) trivial hcg
  unfold chk47
  rw [if_neg (by rw [less_len]; have := R.len; omega), if_pos hgo, if_pos]
  have h1 := isum_le (centsOf (lessTo l a l.length)) (centsOf l) (by rw [cents_len, cents_len, less_len]) (fun j hj => by
    rw [cents_len, less_len] at hj
    rw [less_cents, tab_getD _ _ _ hj]
    have := (he j hj).1; omega)
  have := R.top
  omega
/-! ### what a turn paid -/
theorem lturn_go {l : List S37} (x : List Int) (a : Nat) (hl : l.length ≤ 1024) (ha : a < l.length) (hx : x.length = l.length) (hn : ∀ j, j < l.length → 0 ≤ x.getD j 0) (ht : isum x ≤ 1152921504606846976) : ∀ (i : Nat) (acc : Int), i ≤ l.length → acc = sumTo (partF l x a) i → Ev (fun k => cl47_turn.l0 k l x (a : Int) acc (i : Int)) (isum (tab l.length (partF l x a))) := by
  have hpf : ∀ j, j < l.length → 0 ≤ partF l x a j ∧ partF l x a j ≤ x.getD j 0 := fun j hj => by
    have := hn j hj
    unfold partF
    split <;> omega
  have hle : ∀ i, i ≤ l.length → 0 ≤ sumTo (partF l x a) i ∧ sumTo (partF l x a) i ≤ 1152921504606846976 := fun i hi => by
    have h1 := sumTo_nonneg (partF l x a) i (fun j hj => (hpf j (by omega)).1)
    have h2 := sumTo_mono (partF l x a) i l.length hi (fun j hj => (hpf j hj).1)
    have h3 := sumTo_le (partF l x a) (fun j => x.getD j 0) l.length (fun j hj => (hpf j hj).2)
    rw [isum_sumTo, hx] at ht
    omega
  refine ev_down (S := Int) (g := fun k i acc => cl47_turn.l0 k l x (a : Int) acc (i : Int)) (spec := fun _ _ => isum (tab l.length (partF l x a))) (inv := fun i acc => acc = sumTo (partF l x a) i) ?_ ?_
  · intro acc h
    exact Ev.step (fun _ => rfl) (ev_neg (by omega) (ev_some (by rw [h, isum_tab])))
  · intro i acc hi h ih
    have ih := ih _ (show acc + partF l x a i = sumTo (partF l x a) (i + 1) by rw [h]; rfl)
    have hb := hle (i + 1) (by omega)
    rw [show sumTo (partF l x a) (i + 1) = sumTo (partF l x a) i + partF l x a i from rfl, ← h] at hb
    refine Ev.step (fun _ => rfl) (ev_pos (by omega) (ev_pos (by omega) (ev_pos (by omega) (ev_pos (by omega) ?_))))
    rw [rdR, rdR, wsucc i (by omega), rd_nat]
    refine ev_val (turn_eq _ _) ?_
    unfold partF at ih hb
    by_cases hs : sameT (l.getD i z37) (l.getD a z37) = true
    · rw [if_pos hs] at ih hb
      refine ev_pos hs (ev_pos (by omega) ?_)
      rw [w64id _ (by omega) (by omega)]
      exact ih
    · rw [if_neg hs, Int.add_zero] at ih
      exact ev_neg hs ih
theorem turn_range {l : List S37} (R : Rows l) (i : Nat) (hi : i < l.length) : ∃ s e, s ≤ e ∧ e ≤ l.length ∧ (bdB l s = true ∨ s = 0) ∧ bdB l e = true ∧ ∀ m : List Int, m.length = l.length → isum (tab l.length (partF l m i)) = isum (m.take e) - isum (m.take s) := by
  obtain ⟨p1, p2, p3⟩ := ps_facts l i
  generalize (psC l i).1 = s at *
  have hs : startB l s = true := by
    rcases p2 with p2 | p2
    · unfold bdB at p2
      rwa [decide_eq_false (by omega), Bool.false_or] at p2
    · subst p2; rfl
  obtain ⟨n1, n2, n3, n4, _⟩ := nb_facts l (s + 1) (by omega)
  have hin : i < nb l (s + 1) := by
    by_cases h : i < nb l (s + 1)
    · exact h
    · have h1 := n4 (by omega)
      have h2 := p3 (nb l (s + 1)) (by omega) (by omega)
      unfold bdB at h2
      rw [h1, Bool.or_true] at h2; cases h2
  have hsame := (turn_at R s (by omega) hs i hi).2 ⟨p1, hin⟩
  refine ⟨s, nb l (s + 1), by omega, n2, p2, nb_bd l (s + 1) (by omega), fun m hm => ?_⟩
  rw [part_same R m s i (by omega) hi hsame, part_pad R m hm s (by omega) hs, isum_pad, piece_sum m s _ (by omega)]
theorem wf_i64 (n : Int) (h : (Lit.int .i64 n).wf = true) : -9223372036854775808 ≤ n ∧ n ≤ 9223372036854775807 := by
  have e1 : IntKind.i64.min = -9223372036854775808 := by decide
  have e2 : IntKind.i64.max = 9223372036854775807 := by decide
  have h : (decide (IntKind.i64.min ≤ n) && decide (n ≤ IntKind.i64.max)) = true := h
  rw [e1, e2] at h
  simpa using h
theorem twice_min (f s S : Int) (hf : 0 ≤ f) (hs : 0 ≤ s) (hS : 0 ≤ S) : min f S + min s (S - min f S) = min (f + s) S := by omega
theorem WaterfallTwice : ∀ (a0 : Int) (a1 : Int) (l2 : List (S37)), (Lit.int .i64 a0).wf = true → (Lit.int .i64 a1).wf = true → l2.length ≤ maxLen → (∀ x0 ∈ l2, (Lit.int .i64 x0.f0).wf = true ∧ (Lit.int .i64 x0.f1).wf = true ∧ x0.f2.size ≤ maxLen ∧ (Lit.int .i64 x0.f3).wf = true) → ∃ k, cl47_WaterfallTwice.f k a0 a1 l2 = some true := by
  intro first second l wf0 wf1 _ _
  refine Ev.rounds ?_
  have hr1 := (wf_i64 second wf1).2
  have hend : Ev (fun k => cl47_WaterfallTwice.j0 k first second l true) true := by
    refine Ev.step (fun _ => by rw [cl47_WaterfallTwice.j0]) ?_
    exact ev_pos rfl goes47t
  unfold cl47_WaterfallTwice.f
  by_cases c0 : (l.length : Int) > 60
  · exact ev_pos c0 hend
  refine ev_neg c0 ?_
  by_cases c1 : first < 0
  · exact ev_pos c1 hend
  refine ev_neg c1 ?_
  by_cases c2 : second < 0
  · exact ev_pos c2 hend
  refine ev_neg c2 ?_
  rw [w64id (1152921504606846976 - second) (by omega) (by omega)]
  by_cases c3 : first > 1152921504606846976 - second
  · exact ev_pos c3 hend
  refine ev_neg c3 ?_
  by_cases c4 : second > 1152921504606846976
  · rw [decide_eq_true c4]; exact hend
  rw [decide_eq_false c4]
  clear hend
  refine Ev.step (fun _ => by rw [cl47_WaterfallTwice.j0]) ?_
  rw [w64id (first + second) (by omega) (by omega)]
  refine ev_neg (by decide) (ev_bnd (absorb_ev (first + second) l) (ev_bnd (absorb_ev first l) ?_))
  have hm0 : okMoney (first + second) = true := (okMoney_iff _).2 ⟨by omega, by omega⟩
  have hm1 : okMoney first = true := (okMoney_iff _).2 ⟨by omega, by omega⟩
  have hm2 : okMoney second = true := (okMoney_iff _).2 ⟨by omega, by omega⟩
  by_cases hc : chk47 l = 0
  · have z0 : ∀ x, okMoney x = true → (absAns x l).2.2 = 0 := fun x hx => by unfold absAns; rw [if_pos hc, if_pos hx]
    have e0 := z0 _ hm0
    have e1 := z0 _ hm1
    obtain ⟨R, _, A0⟩ := absorb_run _ l e0
    obtain ⟨_, _, A1⟩ := absorb_run _ l e1
    rw [e0, e1]
    generalize (absAns (first + second) l).1 = all at *
    generalize (absAns (first + second) l).2.1 = rest at *
    generalize (absAns first l).1 = a at *
    generalize (absAns first l).2.1 = over at *
    have l0 := A0.len
    have l1 := A1.len
    refine ev_pos rfl ?_
    refine Ev.step (fun _ => by rw [cl47_WaterfallTwice.j1]) ?_
    refine ev_neg (by decide) (ev_pos (by omega) ?_)
    rw [show ((all.length : Int) != (l.length : Int)) = false by rw [bne_eq_false_iff_eq]; omega]
    refine Ev.step (fun _ => by rw [cl47_WaterfallTwice.j2]) ?_
    refine ev_neg (by decide) (ev_val rfl (ev_pos (by simp only [List.length_nil]; omega) ?_))
    rw [List.nil_append]
    have hstart : Ev (fun k => cl47_WaterfallTwice.l0 k second l all rest a over (lessTo l a 0) 0) true := by
      refine ev_down (S := Unit) (n := l.length) (g := fun k i _ => cl47_WaterfallTwice.l0 k second l all rest a over (lessTo l a i) (i : Int)) (spec := fun _ _ => true) (inv := fun _ _ => True) ?_ ?_ 0 () (by omega) trivial
      · intro _ _
        refine Ev.step (fun _ => by rw [cl47_WaterfallTwice.l0]) ?_
        refine ev_neg (by rw [less_len]; omega) ?_
        have hcl := less_chk hc l1 A1.each
        have e2 : (absAns second (lessTo l a l.length)).2.2 = 0 := by unfold absAns; rw [if_pos hcl, if_pos hm2]
        obtain ⟨_, _, A2⟩ := absorb_run _ _ e2
        refine ev_bnd (absorb_ev second (lessTo l a l.length)) ?_
        generalize (absAns second (lessTo l a l.length)).1 = b at *
        generalize (absAns second (lessTo l a l.length)).2.1 = more at *
        have l2 := A2.len
        rw [less_len] at l2
        have hcb0 := A0.lo
        have hcb1 := A1.lo
        have hcb2 := A2.lo
        have sums : ∀ x : List Int, x.length = l.length → isum (x.take l.length) = isum x := fun x hx => by rw [List.take_of_length_le (by omega)]
        have hnl : ∀ q, q ≤ l.length → isum ((centsOf (lessTo l a l.length)).take q) = isum ((centsOf l).take q) - isum (a.take q) := fun q hq => less_take l a l1 q hq
        have hbn : bdB l l.length = true := by unfold bdB; rw [decide_eq_true rfl]; rfl
        have h1n := A1.cum l.length (.inl hbn) (Nat.le_refl _)
        have h0n := A0.cum l.length (.inl hbn) (Nat.le_refl _)
        have h2n := A2.cum l.length (.inl (by rw [less_bd l a _ (Nat.le_refl _)]; exact hbn)) (by rw [less_len]; omega)
        have hs0 := isum_take_le (centsOf l) R.money.ok l.length
        have htop := R.money.top
        rw [less_len, hnl l.length (Nat.le_refl _)] at hcb2
        rw [hnl l.length (Nat.le_refl _)] at h2n
        have htm := twice_min first second (isum ((centsOf l).take l.length)) (by omega) (by omega) hs0.1
        rw [sums all l0] at h0n
        rw [sums a l1] at h1n h2n
        rw [sums b l2] at h2n
        rw [sums a l1, h1n] at hcb2
        rw [h1n] at h2n
        have hor : over + more = rest ∧ -1152921504606846976 ≤ over + more ∧ over + more ≤ 1152921504606846976 := by
          clear h0n h1n h2n A0 A1 A2 hnl
          generalize isum ((centsOf l).take l.length) = S at *
          refine ⟨by omega, by omega, by omega⟩
        refine ev_pos e2 (ev_pos (by omega) ?_)
        rw [w64id (over + more) (by omega) (by omega), show (over + more != rest) = false by rw [bne_eq_false_iff_eq]; exact hor.1]
        refine Ev.step (fun _ => by rw [cl47_WaterfallTwice.j4]) ?_
        refine ev_neg (by decide) ?_
        refine ev_down (S := Unit) (n := l.length) (g := fun k i _ => cl47_WaterfallTwice.l1 k l all a b (i : Int)) (spec := fun _ _ => true) (inv := fun _ _ => True) ?_ ?_ 0 () (by omega) trivial
        · intro _ _
          refine Ev.step (fun _ => by rw [cl47_WaterfallTwice.l1]) ?_
          exact ev_neg (by omega) goes47t
        · intro i _ hi _ ih
          have ih := ih () trivial
          obtain ⟨s, e, se, en, bs, be, ht⟩ := turn_range R i hi
          have a1s := A1.cum s bs (by omega)
          have a1e := A1.cum e (.inl be) en
          have a0s := A0.cum s bs (by omega)
          have a0e := A0.cum e (.inl be) en
          have a2s := A2.cum s (by rw [less_bd l a s (by omega)]; exact bs) (by rw [less_len]; omega)
          have a2e := A2.cum e (by rw [less_bd l a e en]; exact .inl be) (by rw [less_len]; omega)
          rw [hnl s (by omega), a1s] at a2s
          rw [hnl e en, a1e] at a2e
          have ta := ht a l1
          have tb := ht b l2
          have tall := ht all l0
          have hSs := (isum_take_le (centsOf l) R.money.ok s).1
          have hSe := take_mono (centsOf l) R.money.ok s e se
          have hSt := (isum_take_le (centsOf l) R.money.ok e).2
          refine Ev.step (fun _ => by rw [cl47_WaterfallTwice.l1]) ?_
          refine ev_pos (by omega) ?_
          refine ev_bnd (lturn_go a i R.len hi l1 (fun j hj => (A1.each j hj).1) (by omega) 0 0 (by omega) rfl) ?_
          refine ev_bnd (lturn_go b i R.len hi l2 (fun j hj => (A2.each j (by rw [less_len]; exact hj)).1) (by omega) 0 0 (by omega) rfl) ?_
          refine ev_bnd (lturn_go all i R.len hi l0 (fun j hj => (A0.each j hj).1) (by omega) 0 0 (by omega) rfl) ?_
          rw [ta, tb, tall, a1s, a1e, a2s, a2e, a0s, a0e, wsucc i (by omega)]
          have m1 := twice_min first second _ (by omega) (by omega) hSs
          have m2 := twice_min first second (isum ((centsOf l).take e)) (by omega) (by omega) (Int.le_trans hSs hSe)
          have hfin : min first (isum ((centsOf l).take e)) - min first (isum ((centsOf l).take s)) + (min second (isum ((centsOf l).take e) - min first (isum ((centsOf l).take e))) - min second (isum ((centsOf l).take s) - min first (isum ((centsOf l).take s)))) = min (first + second) (isum ((centsOf l).take e)) - min (first + second) (isum ((centsOf l).take s)) := by
            clear a1s a1e a0s a0e a2s a2e ta tb tall h0n h1n h2n hcb0 hcb1 hcb2 hor htm
            omega
          have hrange : -1152921504606846976 ≤ min (first + second) (isum ((centsOf l).take e)) - min (first + second) (isum ((centsOf l).take s)) ∧ min (first + second) (isum ((centsOf l).take e)) - min (first + second) (isum ((centsOf l).take s)) ≤ 1152921504606846976 := by
            clear hfin m1 m2 a1s a1e a0s a0e a2s a2e ta tb tall h0n h1n h2n hcb0 hcb1 hcb2 hor htm
            omega
          rw [hfin, w64id _ (Int.le_trans (by decide) hrange.1) (Int.le_trans hrange.2 (by decide))]
          exact ev_pos rfl ih
      · intro i _ hi _ ih
        have ih := ih () trivial
        refine Ev.step (fun _ => by rw [cl47_WaterfallTwice.l0]) ?_
        refine ev_pos (by rw [less_len]; omega) (ev_pos (by omega) (ev_pos (by omega) ?_))
        rw [rdR, rd_nat, less_getD l a i i hi, if_neg (by omega), wsucc i (by omega), Int.toNat_natCast]
        have h1 := (okMoney_iff _).1 ((rcB_iff _).1 (R.row i hi)).2.2.2.2
        have h2 := A1.each i hi
        rw [w64id ((l.getD i z37).f3 - a.getD i 0) (by omega) (by omega)]
        rw [← less_set l a i hi] at ih
        exact ih
    rw [less_zero] at hstart
    exact hstart
  · have z0 : ∀ x, absAns x l = ([], 0, chk47 l) := fun x => by unfold absAns; rw [if_neg hc]
    rw [z0, z0]
    refine ev_neg hc ?_
    refine Ev.step (fun _ => by rw [cl47_WaterfallTwice.j1]) ?_
    exact ev_pos rfl (ev_pos rfl (ev_pos rfl (ev_pos rfl goes47t)))
end Go.Proofs.Ytfogpifjpnonnaa.Pure
