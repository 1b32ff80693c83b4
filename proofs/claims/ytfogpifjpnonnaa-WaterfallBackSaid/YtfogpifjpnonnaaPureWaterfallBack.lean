/- The pure statement of the law WaterfallBack, proved: plain Lean over numbers and lists, no program in sight. -/
import Derived.Test.YtfogpifjpnonnaaPWaterfallBackx
namespace Go.Proofs.Ytfogpifjpnonnaa.Pure
open Go.RowKit Go.Proofs.Ytfogpifjpnonnaa.PWaterfallBack Go.Proofs.YtfogpifjpnonnaaW.PrintWords Go.Proofs.YtfogpifjpnonnaaW.PrintLast Go.Proofs.YtfogpifjpnonnaaW.PrintMore
set_option linter.unusedVariables false
set_option linter.unusedSimpArgs false
/-! ### from some number of rounds on: steps -/
theorem ev_pos {α : Type} {c : Prop} [Decidable c] {a b : Nat → Option α} {r : α} (h : c) (k : Ev a r) : Ev (fun n => if c then a n else b n) r := Ev.congr (fun _ => if_pos h) k
theorem ev_neg {α : Type} {c : Prop} [Decidable c] {a b : Nat → Option α} {r : α} (h : ¬ c) (k : Ev b r) : Ev (fun n => if c then a n else b n) r := Ev.congr (fun _ => if_neg h) k
theorem ev_val {α β : Type} {g : Option α} {f : Nat → α → Option β} {a : α} {r : β} (h : g = some a) (k : Ev (fun n => f n a) r) : Ev (fun n => g.bind (f n)) r := by
  subst h; exact k
theorem ev_some {α : Type} {x r : α} (h : x = r) : Ev (fun _ => some x) r := h ▸ Ev.now x
theorem ev_rw {α : Type} {g : Nat → Option α} {r s : α} (h : r = s) (k : Ev g r) : Ev g s := h ▸ k
theorem wsucc (i : Nat) (h : i ≤ 4611686018427387904) : wrap64 ((i : Int) + 1) = ((i + 1 : Nat) : Int) := by
  unfold wrap64; omega
theorem rd_nat (l : List Int) (i : Nat) : rd l (i : Int) = l.getD i 0 := rfl
/-! ### lists given by a function of the place -/
def tab (n : Nat) (f : Nat → Int) : List Int := (List.range n).map f
theorem tab_len (n : Nat) (f : Nat → Int) : (tab n f).length = n := by simp [tab]
theorem tab_getD (n : Nat) (f : Nat → Int) (i : Nat) (h : i < n) : (tab n f).getD i 0 = f i := by
  simp [tab, List.getD_eq_getElem?_getD, h]
theorem list_ext (l m : List Int) (h : l.length = m.length) (he : ∀ i, i < l.length → l.getD i 0 = m.getD i 0) : l = m := by
  apply List.ext_getElem h
  intro i h1 h2
  have := he i h1
  rwa [List.getD_eq_getElem?_getD, List.getD_eq_getElem?_getD, List.getElem?_eq_getElem h1, List.getElem?_eq_getElem h2] at this
theorem tab_congr (n : Nat) (f g : Nat → Int) (h : ∀ j, j < n → f j = g j) : tab n f = tab n g := by
  unfold tab; exact List.map_congr_left (fun a ha => h a (List.mem_range.1 ha))
theorem tab_set (n : Nat) (f : Nat → Int) (i : Nat) (v : Int) : (tab n f).set i v = tab n (fun j => if j = i then v else f j) := by
  apply list_ext
  · simp [tab]
  · intro j hj
    have hj' : j < n := by simpa [tab] using hj
    rw [tab_getD n _ j hj', List.getD_eq_getElem?_getD, List.getElem?_set, tab_len]
    by_cases h : i = j
    · subst h; simp [hj']
    · rw [if_neg h, if_neg (fun e => h e.symm)]
      have := tab_getD n f j hj'
      rwa [List.getD_eq_getElem?_getD] at this
theorem tab_of (l : List Int) : l = tab l.length (fun j => l.getD j 0) := by
  apply list_ext
  · rw [tab_len]
  · intro i hi; rw [tab_getD _ _ _ hi]
theorem tab_zero (n : Nat) : List.replicate n (0 : Int) = tab n (fun _ => 0) := by
  apply list_ext
  · simp [tab]
  · intro i hi
    have hi' : i < n := by simpa using hi
    rw [tab_getD n _ i hi', List.getD_eq_getElem?_getD, List.getElem?_replicate, if_pos hi']; rfl
theorem tab_succ (n : Nat) (f : Nat → Int) : tab (n + 1) f = tab n f ++ [f n] := by simp [tab, List.range_succ]
def sumTo (f : Nat → Int) : Nat → Int
  | 0 => 0
  | n + 1 => sumTo f n + f n
theorem isum_tab (n : Nat) (f : Nat → Int) : isum (tab n f) = sumTo f n := by
  induction n with
  | zero => rfl
  | succ n ih => rw [tab_succ, isum_append, ih]; simp [isum, sumTo]
theorem isum_sumTo (l : List Int) : isum l = sumTo (fun j => l.getD j 0) l.length := by
  conv => lhs; rw [tab_of l]
  exact isum_tab _ _
theorem sumTo_congr (f g : Nat → Int) (n : Nat) (h : ∀ j, j < n → f j = g j) : sumTo f n = sumTo g n := by
  induction n with
  | zero => rfl
  | succ n ih => simp only [sumTo]; rw [ih (fun j hj => h j (by omega)), h n (by omega)]
theorem sumTo_le (f g : Nat → Int) (n : Nat) (h : ∀ j, j < n → f j ≤ g j) : sumTo f n ≤ sumTo g n := by
  induction n with
  | zero => exact Int.le_refl _
  | succ n ih => simp only [sumTo]; have := ih (fun j hj => h j (by omega)); have := h n (by omega); omega
theorem sumTo_nonneg (f : Nat → Int) (n : Nat) (h : ∀ j, j < n → 0 ≤ f j) : 0 ≤ sumTo f n := by
  induction n with
  | zero => exact Int.le_refl _
  | succ n ih => simp only [sumTo]; have := ih (fun j hj => h j (by omega)); have := h n (by omega); omega
theorem sumTo_mono (f : Nat → Int) (i n : Nat) (hi : i ≤ n) (h : ∀ j, j < n → 0 ≤ f j) : sumTo f i ≤ sumTo f n := by
  induction n with
  | zero => have : i = 0 := by omega
            subst this; exact Int.le_refl _
  | succ n ih =>
    by_cases e : i = n + 1
    · subst e; exact Int.le_refl _
    · simp only [sumTo]; have := ih (by omega) (fun j hj => h j (by omega)); have := h n (by omega); omega
theorem sumTo_ge (f : Nat → Int) (n j : Nat) (hj : j < n) (h : ∀ i, i < n → 0 ≤ f i) : f j ≤ sumTo f n := by
  have h1 := sumTo_mono f (j + 1) n (by omega) h
  have h2 := sumTo_nonneg f j (fun i hi => h i (by omega))
  simp only [sumTo] at h1; omega
theorem sumTo_sub (f g : Nat → Int) (n : Nat) : sumTo (fun j => f j - g j) n = sumTo f n - sumTo g n := by
  induction n with
  | zero => rfl
  | succ n ih => simp only [sumTo]; rw [ih]; omega
theorem getD_mem (l : List Int) (x : Int) (h : x ∈ l) : ∃ j, j < l.length ∧ l.getD j 0 = x := by
  obtain ⟨j, hj, e⟩ := List.getElem_of_mem h
  exact ⟨j, hj, by rw [List.getD_eq_getElem?_getD, List.getElem?_eq_getElem hj]; exact e⟩
theorem mem_getD (l : List Int) (j : Nat) (h : j < l.length) : l.getD j 0 ∈ l := by
  rw [List.getD_eq_getElem?_getD, List.getElem?_eq_getElem h]; exact List.getElem_mem h
theorem drop_getD (l : List Int) (i : Nat) (h : i < l.length) : l.drop i = l.getD i 0 :: l.drop (i + 1) := by
  rw [List.drop_eq_getElem_cons h, List.getD_eq_getElem?_getD, List.getElem?_eq_getElem h]; rfl
/-! ### contangoref02's functions, in closed form -/
theorem sum_go (l : List Int) (hn : ∀ a ∈ l, 0 ≤ a) (hs : isum l ≤ 4611686018427387904) (hlen : l.length ≤ 4611686018427387904) (d : Nat) : ∀ (k i : Nat), l.length - i = d → i ≤ l.length → d < k → cr02_Sum.l0 k l (isum (l.take i)) (i : Int) = some (isum l) := by
  induction d with
  | zero =>
    intro k i hd hi hk
    obtain ⟨k, rfl⟩ : ∃ m, k = m + 1 := ⟨k - 1, by omega⟩
    have : i = l.length := by omega
    subst this
    rw [cr02_Sum.l0, if_neg (by omega), List.take_length]
  | succ d ih =>
    intro k i hd hi hk
    obtain ⟨k, rfl⟩ : ∃ m, k = m + 1 := ⟨k - 1, by omega⟩
    have h1 := isum_take_le l hn i
    have h2 := isum_take_le l hn (i + 1)
    have h3 := isum_succ l i (by omega)
    rw [cr02_Sum.l0, if_pos (by omega), if_pos (by omega), w64 _ (by omega) (by omega), w64 _ (by omega) (by omega), ← h3, show ((i : Int) + 1) = ((i + 1 : Nat) : Int) by omega]
    exact ih k (i + 1) (by omega) (by omega) (by omega)
theorem sum_val (l : List Int) (hn : ∀ a ∈ l, 0 ≤ a) (hs : isum l ≤ 4611686018427387904) (hlen : l.length ≤ 4611686018427387904) (k : Nat) (hk : l.length < k) : cr02_Sum.f k l = some (isum l) := by
  have := sum_go l hn hs hlen l.length k 0 (by omega) (by omega) hk
  simpa [cr02_Sum.f, isum] using this
/-! ### the greedy hand-out: plain lists -/
theorem g_getD_set (l : List Int) (m : Nat) (x : Int) (i : Nat) (hm : m < l.length) : (l.set m x).getD i 0 = if i = m then x else l.getD i 0 := by
  rw [List.getD_eq_getElem?_getD, List.getD_eq_getElem?_getD, List.getElem?_set]
  by_cases h : m = i
  · rw [if_pos h, if_pos h.symm, if_pos hm]; rfl
  · rw [if_neg h, if_neg (fun e => h e.symm)]
theorem g_isum_set (l : List Int) : ∀ (m : Nat) (x : Int), m < l.length → isum (l.set m x) = isum l - l.getD m 0 + x := by
  induction l with
  | nil => intro m x h; simp at h
  | cons a l ih =>
    intro m x h
    cases m with
    | zero => simp [isum]; omega
    | succ m =>
      have := ih m x (by simpa using h)
      simp only [List.set_cons_succ, isum, List.getD_cons_succ, this]; omega
theorem g_best_take (l : List Int) (hl : 0 < l.length) : ∀ k, k ≤ l.length → (bestGo l (l.take k) 0 0 < l.length) ∧ (bestGo l (l.take k) 0 0 ≤ k - 1) ∧ (∀ j, j < k → l.getD j 0 ≤ l.getD (bestGo l (l.take k) 0 0) 0) ∧ (∀ j, j < bestGo l (l.take k) 0 0 → l.getD j 0 < l.getD (bestGo l (l.take k) 0 0) 0) := by
  intro k
  induction k with
  | zero => intro _; exact ⟨by simpa [bestGo] using hl, by simp [bestGo], by omega, by simp [bestGo]⟩
  | succ k ih =>
    intro hk
    obtain ⟨h1, h2, h3, h4⟩ := ih (by omega)
    have hs : bestGo l (l.take (k + 1)) 0 0 = if l.getD (bestGo l (l.take k) 0 0) 0 < l.getD k 0 then k else bestGo l (l.take k) 0 0 := by
      have e : l.take (k + 1) = l.take k ++ [l.getD k 0] := by
        rw [List.take_succ_eq_append_getElem (by omega), List.getD_eq_getElem?_getD, List.getElem?_eq_getElem (by omega)]; rfl
      rw [e, bestGo_snoc, List.length_take, Nat.min_eq_left (by omega), Nat.zero_add]
    rw [hs]
    generalize bestGo l (l.take k) 0 0 = b at *
    by_cases hc : l.getD b 0 < l.getD k 0
    · rw [if_pos hc]
      refine ⟨by omega, by omega, ?_, ?_⟩
      · intro j hj
        by_cases hjk : j = k
        · rw [hjk]; exact Int.le_refl _
        · have := h3 j (by omega); omega
      · intro j hj
        have := h3 j hj; omega
    · rw [if_neg hc]
      refine ⟨h1, ?_, ?_, h4⟩
      · omega
      · intro j hj
        by_cases hjk : j = k
        · rw [hjk]; omega
        · exact h3 j (by omega)
theorem g_best (l : List Int) (hl : 0 < l.length) : best l < l.length ∧ (∀ j, j < l.length → l.getD j 0 ≤ l.getD (best l) 0) ∧ (∀ j, j < best l → l.getD j 0 < l.getD (best l) 0) := by
  have := g_best_take l hl l.length (Nat.le_refl _)
  rw [List.take_length] at this
  exact ⟨this.1, this.2.2.1, this.2.2.2⟩
structure GInv (q r : List Int) (A : Int) (n : Nat) (p : List Int × List Int) : Prop where
  l1 : p.1.length = q.length
  l2 : p.2.length = q.length
  each : ∀ i, i < q.length → (p.2.getD i 0 = r.getD i 0 ∧ p.1.getD i 0 = q.getD i 0) ∨ (p.2.getD i 0 = -1 ∧ p.1.getD i 0 = q.getD i 0 + 1 ∧ 0 < r.getD i 0)
  ahead : ∀ i j, i < q.length → j < q.length → p.2.getD i 0 = -1 → p.2.getD j 0 ≠ -1 → r.getD j 0 < r.getD i 0 ∨ (r.getD j 0 = r.getD i 0 ∧ i < j)
  sum1 : isum p.1 = isum q + n
  sum2 : isum r - n * A ≤ isum p.2
theorem g_isum_nonpos (l : List Int) (h : ∀ i, i < l.length → l.getD i 0 ≤ 0) : isum l ≤ 0 := by
  induction l with
  | nil => simp [isum]
  | cons a l ih =>
    have h0 := h 0 (by simp)
    have := ih (fun i hi => by simpa using h (i + 1) (by simpa using hi))
    simp only [List.getD_cons_zero] at h0
    simp only [isum]; omega
theorem g_step (q r : List Int) (A : Int) (n : Nat) (p : List Int × List Int) (hp : GInv q r A n p) (hr0 : ∀ i, i < q.length → 0 ≤ r.getD i 0 ∧ r.getD i 0 < A) (hn : 0 < isum r - n * A) : GInv q r A (n + 1) (giveOne p) := by
  obtain ⟨l1, l2, each, ahead, s1, s2⟩ := hp
  have hpos : 0 < p.2.length := by
    rcases Nat.eq_zero_or_pos p.2.length with h | h
    · have : p.2 = [] := List.length_eq_zero_iff.1 h
      rw [this] at s2; simp only [isum] at s2; omega
    · exact h
  obtain ⟨hb, hmax, hfirst⟩ := g_best p.2 hpos
  have hbig : 0 < p.2.getD (best p.2) 0 := by
    apply Classical.byContradiction
    intro hc
    have := g_isum_nonpos p.2 (fun i hi => by have := hmax i hi; omega)
    omega
  have heach := each (best p.2) (by omega)
  have hbe : p.2.getD (best p.2) 0 = r.getD (best p.2) 0 ∧ p.1.getD (best p.2) 0 = q.getD (best p.2) 0 := by
    rcases heach with h | h
    · exact h
    · omega
  have hrb := hr0 (best p.2) (by omega)
  unfold giveOne
  generalize best p.2 = b at *
  have e1 : ∀ i, (p.1.set b (p.1.getD b 0 + 1)).getD i 0 = if i = b then p.1.getD b 0 + 1 else p.1.getD i 0 := fun i => g_getD_set _ _ _ i (by omega)
  have e2 : ∀ i, (p.2.set b (-1)).getD i 0 = if i = b then -1 else p.2.getD i 0 := fun i => g_getD_set _ _ _ i (by omega)
  refine ⟨by simpa using l1, by simpa using l2, ?_, ?_, ?_, ?_⟩
  · intro i hi
    rw [e1, e2]
    by_cases h : i = b
    · rw [if_pos h, if_pos h, h]; right; exact ⟨rfl, by omega, by omega⟩
    · rw [if_neg h, if_neg h]; exact each i hi
  · intro i j hi hj
    rw [e2, e2]
    intro h1 h2
    by_cases hj' : j = b
    · rw [if_pos hj'] at h2; exact absurd rfl h2
    · rw [if_neg hj'] at h2
      by_cases hi' : i = b
      · rw [hi']
        have hrj : p.2.getD j 0 = r.getD j 0 := by
          rcases each j hj with h | h
          · exact h.1
          · exact absurd h.1 h2
        have := hmax j (by omega)
        by_cases hlt : r.getD j 0 < r.getD b 0
        · exact .inl hlt
        · right
          refine ⟨by omega, ?_⟩
          apply Classical.byContradiction
          intro hc
          have := hfirst j (by omega)
          omega
      · rw [if_neg hi'] at h1
        exact ahead i j hi hj h1 h2
  · show isum (p.1.set b (p.1.getD b 0 + 1)) = isum q + ((n + 1 : Nat) : Int)
    rw [g_isum_set _ _ _ (by omega)]; omega
  · show isum r - ((n + 1 : Nat) : Int) * A ≤ isum (p.2.set b (-1))
    have e : ((n + 1 : Nat) : Int) * A = n * A + A := by rw [Int.natCast_add, Int.add_mul]; simp
    rw [g_isum_set _ _ _ (by omega), e]; omega
theorem g_many (q r : List Int) (A : Int) (hA : 0 < A) (hr : r.length = q.length) (hr0 : ∀ i, i < q.length → 0 ≤ r.getD i 0 ∧ r.getD i 0 < A) : ∀ n : Nat, n * A ≤ isum r → GInv q r A n (giveMany n (q, r)) := by
  intro n
  induction n with
  | zero =>
    intro _
    refine ⟨rfl, hr, fun i hi => .inl ⟨rfl, rfl⟩, ?_, by simp [giveMany], by simp [giveMany]⟩
    intro i j hi hj h1 h2
    have := hr0 i hi
    simp only [giveMany] at h1
    omega
  | succ n ih =>
    intro hn
    have e : ((n + 1 : Nat) : Int) * A = n * A + A := by rw [Int.natCast_add, Int.add_mul]; simp
    rw [giveMany_snoc]
    exact g_step q r A n _ (ih (by omega)) hr0 (by omega)
theorem g_isum_split (T A : Int) (l : List Int) : A * isum (quos T A l) + isum (remsOf T A l) = T * isum l := by
  induction l with
  | nil => simp [quos, remsOf, isum]
  | cons a l ih =>
    have := Int.mul_ediv_add_emod (T * a) A
    simp only [quos, remsOf, List.map_cons, isum] at *
    rw [Int.mul_add, Int.mul_add]; omega
theorem g_quos_getD (T A : Int) (l : List Int) (i : Nat) (h : i < l.length) : (quos T A l).getD i 0 = T * l.getD i 0 / A := by
  unfold quos
  rw [List.getD_eq_getElem?_getD, List.getD_eq_getElem?_getD, List.getElem?_map, List.getElem?_eq_getElem h]; rfl
theorem g_rems_getD (T A : Int) (l : List Int) (i : Nat) (h : i < l.length) : (remsOf T A l).getD i 0 = T * l.getD i 0 % A := by
  unfold remsOf
  rw [List.getD_eq_getElem?_getD, List.getD_eq_getElem?_getD, List.getElem?_map, List.getElem?_eq_getElem h]; rfl
/-- What the split is: each its floor or one more; who got one more has a greater rest than who didn't, or as great a one and stands ahead; all together are the total. -/
theorem split_is (T : Int) (l : List Int) (hT : 0 ≤ T) (hA : 0 < isum l) (h : ∀ a ∈ l, 0 ≤ a) :
    (splitParts T (isum l) l).length = l.length ∧ isum (splitParts T (isum l) l) = T ∧
    ∃ up : Nat → Bool, (∀ i, i < l.length → (splitParts T (isum l) l).getD i 0 = T * l.getD i 0 / isum l + (if up i = true then 1 else 0) ∧ (up i = true → 0 < T * l.getD i 0 % isum l)) ∧
      (∀ i j, i < l.length → j < l.length → up i = true → up j = false → T * l.getD j 0 % isum l < T * l.getD i 0 % isum l ∨ (T * l.getD j 0 % isum l = T * l.getD i 0 % isum l ∧ i < j)) := by
  have hq := isum_quos T (isum l) hT hA l h
  have hs := g_isum_split T (isum l) l
  have hleft : 0 ≤ T - isum (quos T (isum l) l) := by
    have := left_range T l hT hA h l.length
    rw [List.take_length] at this
    exact this.1
  have hlq : (quos T (isum l) l).length = l.length := by simp [quos]
  have hlr : (remsOf T (isum l) l).length = l.length := by simp [remsOf]
  have hm := g_many (quos T (isum l) l) (remsOf T (isum l) l) (isum l) hA (by omega) (by
    intro i hi
    rw [g_rems_getD _ _ _ _ (by omega)]
    exact ⟨Int.emod_nonneg _ (by omega), Int.emod_lt_of_pos _ hA⟩) (T - isum (quos T (isum l) l)).toNat (by
    rw [Int.toNat_of_nonneg hleft, Int.sub_mul]
    rw [Int.mul_comm (isum (quos T (isum l) l))]
    omega)
  obtain ⟨l1, l2, each, ahead, s1, s2⟩ := hm
  unfold splitParts
  generalize giveMany (T - isum (quos T (isum l) l)).toNat (quos T (isum l) l, remsOf T (isum l) l) = p at *
  refine ⟨by omega, by omega, fun i => p.2.getD i 0 == -1, ?_, ?_⟩
  · intro i hi
    have hri : 0 ≤ T * l.getD i 0 % isum l := Int.emod_nonneg _ (by omega)
    have := each i (by omega)
    rw [g_quos_getD _ _ _ _ hi, g_rems_getD _ _ _ _ hi] at this
    rcases this with ⟨h1, h2⟩ | ⟨h1, h2, h3⟩
    · have hne : ¬ (p.2.getD i 0 = -1) := by omega
      simp only [beq_iff_eq, hne, if_false]
      exact ⟨by omega, fun h => h.elim⟩
    · simp only [beq_iff_eq, h1, if_true]
      exact ⟨by omega, fun _ => h3⟩
  · intro i j hi hj h1 h2
    have := ahead i j (by omega) (by omega) (by simpa using h1) (by simpa using h2)
    rwa [g_rems_getD _ _ _ _ hi, g_rems_getD _ _ _ _ hj] at this
def splitSpec (a0 : Int) (l1 : List Int) : List Int × Int := if okMoney a0 = true then (if l1.length > 1024 then ([], 8) else if weighedOk l1 = true then (if isum l1 = 0 then ([], 26) else (splitParts a0 (isum l1) l1, 0)) else ([], 26)) else ([], 2)
theorem split_spec (a0 : Int) (l1 : List Int) : share_Split.f a0 l1 = some (splitSpec a0 l1) := rfl
/-! ### a loop, from its end backwards -/
theorem ev_down {ρ S : Type} {n : Nat} {g : Nat → Nat → S → Option ρ} {spec : Nat → S → ρ} {inv : Nat → S → Prop}
    (he : ∀ s, inv n s → Ev (fun k => g k n s) (spec n s))
    (hs : ∀ i s, i < n → inv i s → (∀ s', inv (i + 1) s' → Ev (fun k => g k (i + 1) s') (spec (i + 1) s')) → Ev (fun k => g k i s) (spec i s)) :
    ∀ i s, i ≤ n → inv i s → Ev (fun k => g k i s) (spec i s) := by
  intro i s hi h
  generalize hd : n - i = d
  induction d generalizing i s with
  | zero =>
    obtain rfl : i = n := by omega
    exact he s h
  | succ d ih => exact hs i s (by omega) h (fun s' h' => ih (i + 1) s' (by omega) h' (by omega))
theorem dropD {α : Type} (z : α) (l : List α) (i : Nat) (h : i < l.length) : l.drop i = l.getD i z :: l.drop (i + 1) := by
  rw [List.drop_eq_getElem_cons h, List.getD_eq_getElem?_getD, List.getElem?_eq_getElem h]; rfl
theorem getD_mem' {α : Type} (z : α) (l : List α) (i : Nat) (h : i < l.length) : l.getD i z ∈ l := by
  rw [List.getD_eq_getElem?_getD, List.getElem?_eq_getElem h]; exact List.getElem_mem h
theorem drop_end {α : Type} (l : List α) : l.drop l.length = [] := List.drop_length
theorem ev_bnd {α β : Type} {g : Nat → Option α} {f : Nat → α → Option β} {a : α} {r : β} (h : Ev g a) (k : Ev (fun n => f n a) r) : Ev (fun n => (g n).bind (f n)) r := h.bind k
theorem w64id (x : Int) (h0 : -9223372036854775808 ≤ x) (h1 : x ≤ 9223372036854775807) : wrap64 x = x := by unfold wrap64; omega
theorem ev_end {α : Type} {g : Nat → Option α} {x r : α} (hg : ∀ k, g (k + 1) = some x) (h : x = r) : Ev g r := Ev.step (f := fun _ => some x) hg (ev_some h)
theorem w64i (n : Int) (h0 : -9223372036854775808 ≤ n) (h1 : n ≤ 9223372036854775807) : wrap64 n = n := by unfold wrap64; omega
/-! ### long division by a two-digit number, digit by digit (base 2^32) -/
/-! ### bits.Div64, in closed form -/
/-! ### cents.MulDiv and contangoref01.MulDiv: one law -/
def fitsP (n : Int) : Prop := -1152921504606846976 ≤ n ∧ n ≤ 1152921504606846976
instance (n : Int) : Decidable (fitsP n) := by unfold fitsP; infer_instance
theorem cfits_eq (n : Int) : cents_Fits.f n = some (decide (fitsP n)) := by
  unfold cents_Fits.f fitsP
  by_cases h : n ≥ (-1152921504606846976)
  · rw [if_pos h]; congr 1; simp [h]
  · rw [if_neg h]; congr 1; simp [h]
/-! ### names -/
def letterB (c : Int) : Bool := decide (97 ≤ c) && decide (c ≤ 122)
def digitB (c : Int) : Bool := decide (48 ≤ c) && decide (c ≤ 57)
def nameFrom (s : ByteArray) (i : Nat) : Bool := ((List.range s.size).drop i).all (fun i => letterB (bt s i) || digitB (bt s i))
def nameOk (s : ByteArray) : Bool := if s.size = 0 then false else if s.size > 12 then false else letterB (bt s 0) && nameFrom s 0
theorem size_nil (s : ByteArray) : s.toList = ([] : List UInt8) ↔ s.size = 0 := by
  rw [ByteArray.toList_eq, List.eq_nil_iff_length_eq_zero, Array.length_toList]; rfl
theorem nameFrom_cons (s : ByteArray) (i : Nat) (h : i < s.size) : nameFrom s i = ((letterB (bt s i) || digitB (bt s i)) && nameFrom s (i + 1)) := by
  unfold nameFrom
  rw [dropD 0 (List.range s.size) i (by simpa using h), List.all_cons]
  congr 2 <;> simp [List.getD_eq_getElem?_getD, h]
theorem nameFrom_end (s : ByteArray) : nameFrom s s.size = true := by
  unfold nameFrom
  rw [List.drop_eq_nil_of_le (by simp)]; rfl
theorem letter_eq (c : Int) : words_letter.f c = some (letterB c) := by
  unfold words_letter.f letterB; by_cases h : 97 ≤ c <;> simp [h]
theorem digit_eq (c : Int) : words_digit.f c = some (digitB c) := by
  unfold words_digit.f digitB; by_cases h : 48 ≤ c <;> simp [h]
theorem name_go (s : ByteArray) (hs : s.size ≤ 12) : ∀ (i : Nat) (u : Unit), i ≤ s.size → True → Ev (fun k => words_Name.l0 k s (s.size : Int) (i : Int)) (nameFrom s i) := by
  refine ev_down (S := Unit) (g := fun k i _ => words_Name.l0 k s (s.size : Int) (i : Int)) (spec := fun i _ => nameFrom s i) (inv := fun _ _ => True) ?_ ?_
  · intro _ _
    refine Ev.step (fun _ => rfl) (ev_neg (by omega) (ev_some ?_))
    rw [nameFrom_end]
  · intro i _ hi _ ih
    have ih := ih () trivial
    refine Ev.step (fun _ => rfl) (ev_pos (by omega) (ev_pos (by omega) (ev_pos (by omega) (ev_val (letter_eq _) ?_))))
    rw [nameFrom_cons s i hi, wsucc i (by omega)]
    cases h1 : letterB (bt s i) with
    | true => exact ev_pos (by rfl) (by simpa using ih)
    | false =>
      refine ev_neg (by simp) (ev_val (digit_eq _) ?_)
      cases h2 : digitB (bt s i) with
      | true => exact ev_pos (by rfl) (by simpa using ih)
      | false => exact ev_neg (by simp) (ev_some rfl)
theorem name_ev (s : ByteArray) : Ev (fun k => words_Name.f k s) (nameOk s) := by
  unfold words_Name.f nameOk
  by_cases h0 : s.size = 0
  · rw [if_pos h0]
    exact ev_pos ((size_nil s).2 h0) (ev_end (fun _ => rfl) rfl)
  rw [if_neg h0]
  refine ev_neg (fun h => h0 ((size_nil s).1 h)) ?_
  by_cases h1 : s.size > 12
  · rw [if_pos h1]
    exact ev_pos (by omega) (ev_end (fun _ => rfl) rfl)
  rw [if_neg h1]
  refine ev_neg (by omega) (ev_pos (by omega) (ev_val (letter_eq _) (Ev.step (fun _ => rfl) ?_)))
  cases h2 : letterB (bt s 0) with
  | true =>
    have := name_go s (by omega) 0 () (by omega) trivial
    rw [Bool.true_and]; exact this
  | false => exact ev_some rfl
/-! ### sums -/
def sumI : List Int → Int
  | [] => 0
  | a :: l => a + sumI l
def sumAns (l : List Int) : Int × Int := if l.all (fun a => decide (fitsP a)) = true then (if fitsP (sumI l) then (sumI l, 0) else (0, 3)) else (0, 2)
theorem sdrop (l : List Int) (i : Nat) (h : i < l.length) : l.drop i = l.getD i 0 :: l.drop (i + 1) := by
  rw [List.drop_eq_getElem_cons h, List.getD_eq_getElem?_getD, List.getElem?_eq_getElem h]; rfl
theorem and32s (x : Int) (h0 : -9223372036854775808 ≤ x) (h1 : x ≤ 9223372036854775807) : Go.bits .and .i64 x 4294967295 = x % 4294967296 := by
  show IntKind.i64.wrap ((BitVec.ofInt 64 x &&& BitVec.ofInt 64 4294967295).toNat : Int) = _
  have h2 : (BitVec.ofInt 64 4294967295).toNat = 2 ^ 32 - 1 := by decide
  rw [BitVec.toNat_and, h2, Nat.and_two_pow_sub_one_eq_mod, BitVec.toNat_ofInt, IntKind.wrap_i64]
  omega
theorem csum_go (l : List Int) (hl : l.length ≤ 1073741824) (d : Nat) : ∀ (i : Nat) (h w : Int), l.length - i = d → i ≤ l.length → -(i * 268435456) ≤ h → h ≤ i * 268435456 → 0 ≤ w → w ≤ i * 4294967296 →
    Ev (fun k => cents_Sum.l0 k l h w (l.length : Int) (i : Int)) (if (l.drop i).all (fun a => decide (fitsP a)) = true then (if fitsP (h * 4294967296 + w + sumI (l.drop i)) then (h * 4294967296 + w + sumI (l.drop i), 0) else (0, 3)) else (0, 2)) := by
  induction d with
  | zero =>
    intro i h w hd hi a1 a2 a3 a4
    refine Ev.step (fun _ => rfl) (ev_neg (by omega) ?_)
    rw [List.drop_eq_nil_of_le (show l.length ≤ i by omega)]
    show Ev _ (if fitsP (h * 4294967296 + w + 0) then (h * 4294967296 + w + 0, 0) else (0, 3))
    rw [Int.add_zero, w64i (h + w / 4294967296) (by omega) (by omega), and32s w (by omega) (by omega)]
    by_cases b1 : h + w / 4294967296 < -268435456
    · refine ev_pos b1 (ev_some ?_)
      rw [if_neg (by unfold fitsP; omega)]
    refine ev_neg b1 ?_
    by_cases b2 : h + w / 4294967296 > 268435456
    · refine ev_pos b2 (ev_some ?_)
      rw [if_neg (by unfold fitsP; omega)]
    refine ev_neg b2 ?_
    rw [w64i ((h + w / 4294967296) * 4294967296) (by omega) (by omega), w64i (_ + w % 4294967296) (by omega) (by omega), show (h + w / 4294967296) * 4294967296 + w % 4294967296 = h * 4294967296 + w by omega]
    unfold cents_fitting.f
    by_cases b3 : fitsP (h * 4294967296 + w)
    · rw [if_pos b3]; refine Ev.congr (f := fun _ => some _) (fun _ => ?_) (Ev.now _)
      rw [cfits_eq, decide_eq_true b3]; rfl
    · rw [if_neg b3]; refine Ev.congr (f := fun _ => some _) (fun _ => ?_) (Ev.now _)
      rw [cfits_eq, decide_eq_false b3]; rfl
  | succ d ih =>
    intro i h w hd hi a1 a2 a3 a4
    rw [sdrop l i (by omega)]
    refine Ev.step (fun _ => rfl) (ev_pos (by omega) (ev_pos (by omega) (ev_pos (by omega) ?_)))
    rw [show rd l (i : Int) = l.getD i 0 from rfl]
    generalize l.getD i 0 = a
    refine ev_val (cfits_eq a) ?_
    by_cases ha : fitsP a
    · refine ev_pos (by simp [ha]) ?_
      have hf : fitsP a := ha
      unfold fitsP at hf
      rw [and32s a (by omega) (by omega), w64i (h + a / 4294967296) (by omega) (by omega), w64i (w + a % 4294967296) (by omega) (by omega), w64i ((i : Int) + 1) (by omega) (by omega)]
      have := ih (i + 1) (h + a / 4294967296) (w + a % 4294967296) (by omega) (by omega) (by omega) (by omega) (by omega) (by omega)
      rw [show ((i + 1 : Nat) : Int) = (i : Int) + 1 by omega, show (h + a / 4294967296) * 4294967296 + (w + a % 4294967296) + sumI (l.drop (i + 1)) = h * 4294967296 + w + sumI (a :: l.drop (i + 1)) by simp only [sumI]; omega] at this
      rw [List.all_cons, decide_eq_true ha, Bool.true_and]
      exact this
    · refine ev_neg (by simp [ha]) (ev_some ?_)
      rw [List.all_cons, decide_eq_false ha, Bool.false_and, if_neg (by simp)]
theorem csum_ev (l : List Int) (hl : l.length ≤ 1073741824) : Ev (fun k => cents_Sum.f k l) (sumAns l) := by
  have h := csum_go l hl l.length 0 0 0 (by omega) (by omega) (by omega) (by omega) (by omega) (by omega)
  rw [List.drop_zero, show (0 : Int) * 4294967296 + 0 + sumI l = sumI l by omega] at h
  exact h
theorem same_go (a b : List Int) (hl : a.length = b.length) (hn : a.length ≤ 4611686018427387904) (d : Nat) : ∀ i : Nat, a.length - i = d → i ≤ a.length → Ev (fun k => cr02_Same.l0 k a b (i : Int)) (decide (a.drop i = b.drop i)) := by
  induction d with
  | zero =>
    intro i hd hi
    have : i = a.length := by omega
    subst this
    refine Ev.step (fun _ => rfl) (ev_neg (by omega) ?_)
    rw [List.drop_length]
    have : b.drop a.length = [] := by rw [hl, List.drop_length]
    rw [this]; simp only [decide_true]; exact Ev.now _
  | succ d ih =>
    intro i hd hi
    have hih := ih (i + 1) (by omega) (by omega)
    refine Ev.step (fun _ => rfl) (ev_pos (by omega) (ev_pos (by omega) (ev_pos (by omega) ?_)))
    rw [wsucc i (by omega)]
    simp only [rd_nat]
    rw [drop_getD a i (by omega), drop_getD b i (by omega)]
    by_cases h : a.getD i 0 = b.getD i 0
    · refine ev_pos h (ev_rw ?_ hih)
      by_cases h2 : a.drop (i + 1) = b.drop (i + 1)
      · rw [h2, h]; simp
      · rw [decide_eq_false h2]; symm; apply decide_eq_false; intro h3; exact h2 (List.cons.inj h3).2
    · refine ev_neg h (ev_some ?_)
      symm; apply decide_eq_false; intro h3; exact h (List.cons.inj h3).1
theorem same_ev (a b : List Int) (hn : a.length ≤ 4611686018427387904) : Ev (fun k => cr02_Same.f k a b) (decide (a = b)) := by
  unfold cr02_Same.f
  by_cases h : a.length = b.length
  · refine ev_pos (by omega) ?_
    have := same_go a b h hn a.length 0 (by omega) (by omega)
    simpa using this
  · refine ev_neg (by omega) (ev_some ?_)
    symm; apply decide_eq_false; intro h2; exact h (by rw [h2])
theorem same_refl (a : List Int) (hn : a.length ≤ 4611686018427387904) : Ev (fun k => cr02_Same.f k a a) true := by
  have := same_ev a a hn
  simpa using this
/-! ### resources: the check -/
theorem rdR (l : List S37) (i : Nat) : rd_T37 l (i : Int) = l.getD i z37 := rfl
theorem sumI_isum (l : List Int) : sumI l = isum l := by
  induction l with
  | nil => rfl
  | cons a l ih => simp only [sumI, isum, ih]
def rcB (x : S37) : Bool := decide (1 ≤ x.f0) && (decide (x.f0 ≤ 8) && (decide (0 ≤ x.f1) && (decide (x.f1 ≤ 9) && okMoney x.f3)))
theorem rcB_iff (x : S37) : rcB x = true ↔ 1 ≤ x.f0 ∧ x.f0 ≤ 8 ∧ 0 ≤ x.f1 ∧ x.f1 ≤ 9 ∧ okMoney x.f3 = true := by
  unfold rcB; simp only [Bool.and_eq_true, decide_eq_true_eq]
def rcErr (x : S37) : Int := if rcB x = true then (if nameOk x.f2 = true then 0 else 10) else 2
def aheadB (a b : S37) : Bool := if a.f0 = b.f0 then (if a.f1 = b.f1 then Op.bytesLess a.f2.toList b.f2.toList else decide (a.f1 < b.f1)) else decide (a.f0 < b.f0)
def aheadO : Option S37 → S37 → Bool
  | none, _ => true
  | some q, x => aheadB q x
def chkGo : Option S37 → List S37 → Int
  | _, [] => 0
  | p, x :: l => if rcErr x = 0 then (if aheadO p x = true then chkGo (some x) l else 12) else rcErr x
def centsOf (l : List S37) : List Int := l.map fun x => x.f3
def chk47 (l : List S37) : Int := if l.length > 1024 then 8 else if chkGo none l = 0 then (if isum (centsOf l) ≤ 1152921504606846976 then 0 else 3) else chkGo none l
def prevO (l : List S37) (i : Nat) : Option S37 := if i = 0 then none else some (l.getD (i - 1) z37)
theorem prevO_succ (l : List S37) (i : Nat) : prevO l (i + 1) = some (l.getD i z37) := by unfold prevO; rw [if_neg (by omega)]; rfl
theorem wmoney_eq (n : Int) : waterfall_money.f n = some (okMoney n) := by
  unfold waterfall_money.f okMoney
  by_cases h : n ≥ 0
  · rw [if_pos h, decide_eq_true (by omega : 0 ≤ n), Bool.true_and]
  · rw [if_neg h, decide_eq_false (by omega : ¬ 0 ≤ n)]; rfl
theorem ahead_eq (a b : S37) : waterfall_ahead.f a.f0 a.f1 a.f2 a.f3 b.f0 b.f1 b.f2 b.f3 = some (aheadB a b) := by
  unfold waterfall_ahead.f aheadB
  by_cases h : a.f0 = b.f0
  · rw [if_pos h, if_pos h]
    by_cases h2 : a.f1 = b.f1
    · rw [if_pos h2, if_pos h2]
    · rw [if_neg h2, if_neg h2]
  · rw [if_neg h, if_neg h]
theorem chkGo_money : ∀ (p : Option S37) (l : List S37), chkGo p l = 0 → ∀ x ∈ l, rcErr x = 0
  | _, [], _ => by simp
  | p, x :: l, h => by
    rw [chkGo] at h
    by_cases h1 : rcErr x = 0
    · rw [if_pos h1] at h
      by_cases h2 : aheadO p x = true
      · rw [if_pos h2] at h
        intro y hy
        rcases List.mem_cons.1 hy with rfl | hy
        · exact h1
        · exact chkGo_money _ l h y hy
      · rw [if_neg h2] at h; cases h
    · rw [if_neg h1] at h; exact absurd h h1
theorem rcErr_zero (x : S37) (h : rcErr x = 0) : rcB x = true ∧ nameOk x.f2 = true := by
  unfold rcErr at h
  by_cases h1 : rcB x = true
  · rw [if_pos h1] at h
    by_cases h2 : nameOk x.f2 = true
    · exact ⟨h1, h2⟩
    · rw [if_neg h2] at h; cases h
  · rw [if_neg h1] at h; cases h
theorem sumAns_money (l : List Int) (h : ∀ x ∈ l, okMoney x = true) : (sumAns l).2 = if isum l ≤ 1152921504606846976 then 0 else 3 := by
  have h0 : 0 ≤ isum l := by
    induction l with
    | nil => simp [isum]
    | cons a l ih =>
      have := (okMoney_iff a).1 (h a (by simp)); have := ih (fun x hx => h x (by simp [hx]))
      simp only [isum]; omega
  unfold sumAns
  rw [if_pos (List.all_eq_true.2 fun x hx => decide_eq_true (show fitsP x by have := (okMoney_iff x).1 (h x hx); unfold fitsP; omega)), sumI_isum]
  by_cases hs : isum l ≤ 1152921504606846976
  · rw [if_pos hs, if_pos (by unfold fitsP; omega)]
  · rw [if_neg hs, if_neg (by unfold fitsP; omega)]
theorem rcSteps {α : Type} (x : S37) (g : Bool → Nat → Option α) (m : Int → Option Bool) (hm : m x.f3 = some (okMoney x.f3)) (r : α) (h1 : rcB x = true → Ev (g false) r) (h2 : rcB x = false → Ev (g true) r) :
    Ev (fun k => if x.f0 < 1 then g true k else if x.f0 > 8 then g true k else if x.f1 < 0 then g true k else if x.f1 > 9 then g true k else (m x.f3).bind fun t => g (!t) k) r := by
  by_cases a1 : x.f0 < 1
  · exact ev_pos a1 (h2 (by unfold rcB; rw [decide_eq_false (by omega : ¬ 1 ≤ x.f0)]; rfl))
  refine ev_neg a1 ?_
  by_cases a2 : x.f0 > 8
  · exact ev_pos a2 (h2 (by unfold rcB; rw [decide_eq_false (by omega : ¬ x.f0 ≤ 8), Bool.false_and, Bool.and_false]))
  refine ev_neg a2 ?_
  by_cases a3 : x.f1 < 0
  · exact ev_pos a3 (h2 (by unfold rcB; rw [decide_eq_false (by omega : ¬ 0 ≤ x.f1), Bool.false_and, Bool.and_false, Bool.and_false]))
  refine ev_neg a3 ?_
  by_cases a4 : x.f1 > 9
  · exact ev_pos a4 (h2 (by unfold rcB; rw [decide_eq_false (by omega : ¬ x.f1 ≤ 9), Bool.false_and, Bool.and_false, Bool.and_false, Bool.and_false]))
  refine ev_neg a4 (ev_val hm ?_)
  have e : rcB x = okMoney x.f3 := by unfold rcB; rw [decide_eq_true (by omega : 1 ≤ x.f0), decide_eq_true (by omega : x.f0 ≤ 8), decide_eq_true (by omega : 0 ≤ x.f1), decide_eq_true (by omega : x.f1 ≤ 9)]; simp
  rw [← e]
  cases hb : rcB x with
  | true => exact h1 hb
  | false => exact h2 hb
theorem wcheck_go (l : List S37) (hl : l.length ≤ 1024) : ∀ (i : Nat) (cs : List Int), i ≤ l.length → cs = centsOf (l.take i) → Ev (fun k => waterfall_Check.l0 k l cs l (l.length : Int) (i : Int)) (if chkGo (prevO l i) (l.drop i) = 0 then (sumAns (centsOf l)).2 else chkGo (prevO l i) (l.drop i)) := by
  refine ev_down (S := List Int) (g := fun k i cs => waterfall_Check.l0 k l cs l (l.length : Int) (i : Int)) (spec := fun i _ => if chkGo (prevO l i) (l.drop i) = 0 then (sumAns (centsOf l)).2 else chkGo (prevO l i) (l.drop i)) (inv := fun i cs => cs = centsOf (l.take i)) ?_ ?_
  · intro cs hcs
    subst hcs
    rw [List.take_length]
    refine Ev.step (fun _ => rfl) (ev_neg (by omega) ?_)
    refine ev_bnd (csum_ev (centsOf l) (by unfold centsOf; rw [List.length_map]; omega)) (ev_some ?_)
    rw [drop_end, chkGo, if_pos rfl]
  · intro i cs hi hcs ih
    have hlc : cs.length = i := by rw [hcs]; unfold centsOf; rw [List.length_map, List.length_take]; omega
    have ih := ih (cs ++ [(l.getD i z37).f3]) (by rw [hcs]; unfold centsOf; rw [List.take_add_one, List.map_append, List.getD_eq_getElem?_getD, List.getElem?_eq_getElem hi]; simp)
    refine Ev.step (fun _ => rfl) (ev_pos (by omega) (ev_pos (by omega) (ev_pos (by omega) ?_)))
    rw [dropD z37 l i hi, rdR, chkGo]
    rw [prevO_succ] at ih
    have hp : prevO l i = if i = 0 then none else some (l.getD (i - 1) z37) := rfl
    generalize prevO l i = P at *
    generalize l.getD i z37 = x at *
    refine rcSteps x (fun b k => waterfall_Check.j1 k l cs (i : Int) l (l.length : Int) (i : Int) b x.f0 x.f1 x.f2 x.f3) waterfall_money.f (wmoney_eq _) _ ?_ ?_
    · intro hb
      unfold rcErr
      rw [if_pos hb]
      show Ev (fun k => waterfall_Check.j1 k l cs (i : Int) l (l.length : Int) (i : Int) false x.f0 x.f1 x.f2 x.f3) _
      refine Ev.step (fun _ => by rw [waterfall_Check.j1]) ?_
      refine ev_neg (by decide) (ev_bnd (name_ev _) ?_)
      by_cases hn : nameOk x.f2 = true
      · refine ev_pos hn ?_
        rw [if_pos hn, if_pos rfl]
        by_cases h0 : i = 0
        · rw [if_pos h0] at hp
          subst hp
          refine ev_neg (by omega) (ev_pos (by omega) ?_)
          rw [wsucc i (by omega), show aheadO none x = true from rfl, if_pos rfl]
          exact ih
        · rw [if_neg h0] at hp
          subst hp
          refine ev_pos (by omega) ?_
          rw [w64id ((i : Int) - 1) (by omega) (by omega), show (i : Int) - 1 = ((i - 1 : Nat) : Int) by omega]
          refine ev_pos (by omega) (ev_pos (by omega) ?_)
          rw [rdR]
          generalize l.getD (i - 1) z37 = y
          refine ev_val (ahead_eq y x) ?_
          rw [show aheadO (some y) x = aheadB y x from rfl]
          by_cases ha : aheadB y x = true
          · refine ev_pos ha (ev_pos (by omega) ?_)
            rw [wsucc i (by omega), if_pos ha]
            exact ih
          · rw [if_neg ha]
            exact ev_neg ha (ev_some (by rw [if_neg (by decide)]))
      · rw [if_neg hn]
        exact ev_neg hn (ev_some (by rw [if_neg (show ¬ ((10 : Int) = 0) by decide), if_neg (show ¬ ((10 : Int) = 0) by decide)]))
    · intro hb
      have hb' : ¬ rcB x = true := by rw [hb]; decide
      unfold rcErr
      rw [if_neg hb']
      show Ev (fun k => waterfall_Check.j1 k l cs (i : Int) l (l.length : Int) (i : Int) true x.f0 x.f1 x.f2 x.f3) _
      refine Ev.step (fun _ => by rw [waterfall_Check.j1]) ?_
      exact ev_pos rfl (ev_some (by rw [if_neg (show ¬ ((2 : Int) = 0) by decide), if_neg (show ¬ ((2 : Int) = 0) by decide)]))
theorem wcheck_ev (l : List S37) : Ev (fun k => waterfall_Check.f k l) (chk47 l) := by
  unfold waterfall_Check.f chk47
  by_cases h : l.length > 1024
  · rw [if_pos h]; exact ev_pos (by omega) (ev_some rfl)
  · rw [if_neg h]
    refine ev_neg (by omega) ?_
    have := wcheck_go l (by omega) 0 [] (by omega) rfl
    rw [List.drop_zero, show prevO l 0 = none from rfl] at this
    by_cases hc : chkGo none l = 0
    · rw [if_pos hc] at this ⊢
      rwa [sumAns_money _ (fun x hx => by
        unfold centsOf at hx
        obtain ⟨y, hy, rfl⟩ := List.mem_map.1 hx
        exact ((rcB_iff y).1 (rcErr_zero y (chkGo_money _ _ hc y hy)).1).2.2.2.2)] at this
    · rw [if_neg hc] at this ⊢; exact this
/-! ### what a turn takes: all, or parted; a list with zeros around it is parted alike -/
def takeS (left : Int) (p : List Int) : List Int := if isum p ≤ left then p else (splitSpec left p).1
theorem isum_nn (l : List Int) (h : ∀ a ∈ l, 0 ≤ a) : 0 ≤ isum l := by
  have := (isum_take_le l h l.length).1
  rwa [List.take_length] at this
structure MoneyL (p : List Int) : Prop where
  ok : ∀ a ∈ p, 0 ≤ a
  top : isum p ≤ 1152921504606846976
  len : p.length ≤ 1024
theorem MoneyL.each {p : List Int} (h : MoneyL p) (a : Int) (ha : a ∈ p) : 0 ≤ a ∧ a ≤ 1152921504606846976 := ⟨h.ok a ha, Int.le_trans (mem_le_isum p h.ok a ha) h.top⟩
theorem split_val (left : Int) (p : List Int) (h0 : 0 ≤ left) (hp : MoneyL p) (hn : ¬ isum p ≤ left) : splitSpec left p = (splitParts left (isum p) p, 0) := by
  unfold splitSpec
  have ht := hp.top
  rw [if_pos ((okMoney_iff left).2 ⟨h0, by omega⟩), if_neg (by have := hp.len; omega), if_pos (by
    unfold weighedOk
    simp only [Bool.and_eq_true, decide_eq_true_eq, List.all_eq_true]
    exact ⟨fun a ha => (okMoney_iff a).2 (hp.each a ha), ht⟩), if_neg (by omega)]
theorem ceil_le (T A w : Int) (hT : 0 ≤ T) (hA : T < A) (hw : 0 ≤ w) (u : Bool) (hu : u = true → 0 < T * w % A) : 0 ≤ T * w / A + (if u = true then 1 else 0) ∧ T * w / A + (if u = true then 1 else 0) ≤ w := by
  have h1 := Int.mul_ediv_add_emod (T * w) A
  have h2 : 0 ≤ T * w / A := Int.ediv_nonneg (Int.mul_nonneg hT hw) (by omega)
  have h3 : T * w ≤ A * w := Int.mul_le_mul_of_nonneg_right (by omega) hw
  have h4 := Int.emod_nonneg (T * w) (show A ≠ 0 by omega)
  cases u with
  | false =>
    simp only [Bool.false_eq_true, if_false]
    have : A * (T * w / A) ≤ A * w := by omega
    have := Int.le_of_mul_le_mul_left this (by omega)
    omega
  | true =>
    have := hu rfl
    simp only [if_true]
    have : A * (T * w / A) < A * w := by omega
    have := Int.lt_of_mul_lt_mul_left this (by omega)
    omega
theorem take_facts (left : Int) (p : List Int) (h0 : 0 ≤ left) (hp : MoneyL p) : (takeS left p).length = p.length ∧ isum (takeS left p) = (if isum p ≤ left then isum p else left) ∧ ∀ i, i < p.length → 0 ≤ (takeS left p).getD i 0 ∧ (takeS left p).getD i 0 ≤ p.getD i 0 := by
  unfold takeS
  by_cases h : isum p ≤ left
  · rw [if_pos h, if_pos h]
    exact ⟨rfl, rfl, fun i hi => ⟨hp.ok _ (mem_getD p i hi), Int.le_refl _⟩⟩
  · rw [if_neg h, if_neg h, split_val left p h0 hp h]
    obtain ⟨s1, s2, up, s3, _⟩ := split_is left p h0 (by omega) hp.ok
    refine ⟨s1, s2, fun i hi => ?_⟩
    obtain ⟨e, hu⟩ := s3 i hi
    rw [e]
    exact ceil_le left (isum p) _ h0 (by omega) (hp.ok _ (mem_getD p i hi)) _ hu
theorem take_nn (left : Int) (p : List Int) (h0 : 0 ≤ left) (hp : MoneyL p) : ∀ a ∈ takeS left p, 0 ≤ a := by
  obtain ⟨h1, _, h3⟩ := take_facts left p h0 hp
  intro a ha
  obtain ⟨j, hj, rfl⟩ := getD_mem _ a ha
  exact (h3 j (by omega)).1
theorem total_go (l : List Int) (hn : ∀ a ∈ l, 0 ≤ a) (hs : isum l ≤ 4611686018427387904) (hl : l.length ≤ 4611686018427387904) : ∀ (i : Nat) (a : Int), i ≤ l.length → a = isum (l.take i) → Ev (fun k => waterfall_total.l0 k a l (l.length : Int) (i : Int)) (isum l) := by
  refine ev_down (S := Int) (g := fun k i a => waterfall_total.l0 k a l (l.length : Int) (i : Int)) (spec := fun _ _ => isum l) (inv := fun i a => a = isum (l.take i)) ?_ ?_
  · intro a ha
    rw [List.take_length] at ha
    exact Ev.step (fun _ => rfl) (ev_neg (by omega) (ev_some ha))
  · intro i a hi ha ih
    have h1 := isum_take_le l hn i
    have h2 := isum_take_le l hn (i + 1)
    have h3 := isum_succ l i hi
    refine Ev.step (fun _ => rfl) (ev_pos (by omega) (ev_pos (by omega) (ev_pos (by omega) ?_)))
    rw [w64id (a + _) (by omega) (by omega), wsucc i (by omega)]
    exact ih _ (by omega)
theorem total_ev (l : List Int) (hn : ∀ a ∈ l, 0 ≤ a) (hs : isum l ≤ 4611686018427387904) (hl : l.length ≤ 4611686018427387904) : Ev (fun k => waterfall_total.f k l) (isum l) := total_go l hn hs hl 0 0 (by omega) rfl
theorem takeF_ev (left : Int) (p : List Int) (h0 : 0 ≤ left) (h1 : left ≤ 1152921504606846976) (hp : MoneyL p) : Ev (fun k => takeF k left p) (takeS left p, left - isum (takeS left p)) := by
  have ht := hp.top
  have hl := hp.len
  have h2 := isum_nn p hp.ok
  obtain ⟨f1, f2, f3⟩ := take_facts left p h0 hp
  have f4 := take_nn left p h0 hp
  unfold takeF
  refine ev_bnd (total_ev p hp.ok (by omega) (by omega)) ?_
  unfold takeS at *
  by_cases h : isum p ≤ left
  · rw [if_pos h] at f1 f2 f4 ⊢
    refine ev_neg (by omega) (ev_bnd (total_ev p hp.ok (by omega) (by omega)) (ev_some ?_))
    rw [w64id _ (by omega) (by omega)]
  · rw [if_neg h] at f1 f4 f2 ⊢
    rw [if_neg h] at f2
    refine ev_pos (by omega) (ev_val (split_spec left p) ?_)
    refine ev_bnd (total_ev _ f4 (by omega) (by omega)) (ev_some ?_)
    rw [w64id _ (by omega) (by omega)]
/-! ### one split alone -/
/-! ### zeros around a list -/
theorem isum_zeros (n : Nat) : isum (List.replicate n 0) = 0 := by
  induction n with
  | zero => rfl
  | succ n ih => rw [List.replicate_succ, isum, ih]; rfl
/-! ### turns -/
def sameT (a b : S37) : Bool := decide (a.f0 = b.f0) && decide (a.f1 = b.f1)
theorem sameT_iff (a b : S37) : sameT a b = true ↔ a.f0 = b.f0 ∧ a.f1 = b.f1 := by unfold sameT; simp only [Bool.and_eq_true, decide_eq_true_eq]
theorem turn_eq (a b : S37) : cr47_Turn.f a.f0 a.f1 a.f2 a.f3 b.f0 b.f1 b.f2 b.f3 = some (sameT a b) := by
  unfold cr47_Turn.f sameT
  by_cases h : a.f0 = b.f0
  · rw [if_pos h, decide_eq_true h, Bool.true_and, Bool.beq_eq_decide_eq]
  · rw [if_neg h, decide_eq_false h]; rfl
def startB (l : List S37) (i : Nat) : Bool := decide (i = 0) || !(sameT (l.getD (i - 1) z37) (l.getD i z37))
def bndsGo (l : List S37) : Nat → Nat → List Int
  | 0, _ => [(l.length : Int)]
  | d + 1, i => if startB l i = true then (i : Int) :: bndsGo l d (i + 1) else bndsGo l d (i + 1)
def bnds (l : List S37) (i : Nat) : List Int := bndsGo l (l.length - i) i
def nbGo (l : List S37) : Nat → Nat → Nat
  | 0, _ => l.length
  | d + 1, i => if startB l i = true then i else nbGo l d (i + 1)
def nb (l : List S37) (i : Nat) : Nat := nbGo l (l.length - i) i
theorem bnds_end (l : List S37) : bnds l l.length = [(l.length : Int)] := by unfold bnds; rw [Nat.sub_self]; rfl
theorem nb_end (l : List S37) : nb l l.length = l.length := by unfold nb; rw [Nat.sub_self]; rfl
theorem bnds_step (l : List S37) (i : Nat) (h : i < l.length) : bnds l i = if startB l i = true then (i : Int) :: bnds l (i + 1) else bnds l (i + 1) := by
  unfold bnds; rw [show l.length - i = (l.length - (i + 1)) + 1 by omega]; rfl
theorem nb_step (l : List S37) (i : Nat) (h : i < l.length) : nb l i = if startB l i = true then i else nb l (i + 1) := by
  unfold nb; rw [show l.length - i = (l.length - (i + 1)) + 1 by omega]; rfl
theorem down_ind {n : Nat} {P : Nat → Prop} (h0 : P n) (hs : ∀ i, i < n → P (i + 1) → P i) : ∀ i, i ≤ n → P i := by
  intro i hi
  generalize hd : n - i = d
  induction d generalizing i with
  | zero => obtain rfl : i = n := by omega
            exact h0
  | succ d ih => exact hs i (by omega) (ih (i + 1) (by omega) (by omega))
theorem nb_facts (l : List S37) : ∀ i, i ≤ l.length → i ≤ nb l i ∧ nb l i ≤ l.length ∧ (∀ j, i ≤ j → j < nb l i → startB l j = false) ∧ (nb l i < l.length → startB l (nb l i) = true) ∧ bnds l i = (nb l i : Int) :: (if nb l i < l.length then bnds l (nb l i + 1) else []) := by
  refine down_ind ?_ ?_
  · rw [nb_end, bnds_end, if_neg (by omega)]
    exact ⟨by omega, by omega, fun j h1 h2 => by omega, fun h => by omega, rfl⟩
  · intro i hi ih
    rw [nb_step l i hi, bnds_step l i hi]
    cases hs : startB l i with
    | true =>
      simp only [if_true]
      exact ⟨by omega, by omega, fun j h1 h2 => by omega, fun _ => hs, by rw [if_pos hi]⟩
    | false =>
      simp only [Bool.false_eq_true, if_false]
      obtain ⟨a1, a2, a3, a4, a5⟩ := ih
      refine ⟨by omega, a2, fun j h1 h2 => ?_, a4, a5⟩
      by_cases hj : j = i
      · subst hj; exact hs
      · exact a3 j (by omega) h2
theorem turns_go (l : List S37) (hl : l.length ≤ 1024) : ∀ (i : Nat) (acc : List Int), i ≤ l.length → acc.length ≤ i → Ev (fun k => waterfall_turns.l0 k l acc l (l.length : Int) (i : Int)) (acc ++ bnds l i) := by
  refine ev_down (S := List Int) (g := fun k i acc => waterfall_turns.l0 k l acc l (l.length : Int) (i : Int)) (spec := fun i acc => acc ++ bnds l i) (inv := fun i acc => acc.length ≤ i) ?_ ?_
  · intro acc ha
    exact Ev.step (fun _ => rfl) (ev_neg (by omega) (ev_pos (by omega) (ev_some (by rw [bnds_end]))))
  · intro i acc hi ha ih
    refine Ev.step (fun _ => rfl) (ev_pos (by omega) (ev_pos (by omega) (ev_pos (by omega) ?_)))
    rw [bnds_step l i hi]
    have i1 := ih (acc ++ [(i : Int)]) (by rw [List.length_append, List.length_singleton]; omega)
    have i2 := ih acc (by omega)
    rw [List.append_assoc, List.singleton_append] at i1
    by_cases h0 : i = 0
    · refine ev_pos (by omega) (ev_pos (by omega) ?_)
      rw [show startB l i = true by unfold startB; rw [decide_eq_true h0]; rfl, if_pos rfl, wsucc i (by omega)]
      exact i1
    · refine ev_neg (by omega) ?_
      rw [w64id ((i : Int) - 1) (by omega) (by omega), show (i : Int) - 1 = ((i - 1 : Nat) : Int) by omega]
      refine ev_pos (by omega) (ev_pos (by omega) ?_)
      rw [rdR, rdR, wsucc i (by omega)]
      have hst : startB l i = !(sameT (l.getD (i - 1) z37) (l.getD i z37)) := by unfold startB; rw [decide_eq_false h0, Bool.false_or]
      rw [hst]
      by_cases b1 : (l.getD i z37).f0 = (l.getD (i - 1) z37).f0
      · refine ev_pos b1 ?_
        by_cases b2 : (l.getD i z37).f1 = (l.getD (i - 1) z37).f1
        · refine ev_pos b2 ?_
          rw [(sameT_iff _ _).2 ⟨b1.symm, b2.symm⟩]
          exact i2
        · refine ev_neg b2 (ev_pos (by omega) ?_)
          rw [show sameT (l.getD (i - 1) z37) (l.getD i z37) = false by rw [Bool.eq_false_iff]; intro h; exact b2 ((sameT_iff _ _).1 h).2.symm]
          exact i1
      · refine ev_neg b1 (ev_pos (by omega) ?_)
        rw [show sameT (l.getD (i - 1) z37) (l.getD i z37) = false by rw [Bool.eq_false_iff]; intro h; exact b1 ((sameT_iff _ _).1 h).1.symm]
        exact i1
theorem turns_ev (l : List S37) (hl : l.length ≤ 1024) : Ev (fun k => waterfall_turns.f k l) (bnds l 0) := turns_go l hl 0 [] (by omega) (by simp)
/-! ### the order -/
structure Rows (l : List S37) : Prop where
  len : l.length ≤ 1024
  row : ∀ i, i < l.length → rcB (l.getD i z37) = true
  top : isum (centsOf l) ≤ 1152921504606846976
  ord : ∀ i, 0 < i → i < l.length → aheadB (l.getD (i - 1) z37) (l.getD i z37) = true
theorem chkGo_ord : ∀ (p : Option S37) (l : List S37), chkGo p l = 0 → ∀ i, i < l.length → aheadO (if i = 0 then p else some (l.getD (i - 1) z37)) (l.getD i z37) = true
  | _, [], _ => by simp
  | p, x :: l, h => by
    rw [chkGo] at h
    by_cases h1 : rcErr x = 0
    · rw [if_pos h1] at h
      by_cases h2 : aheadO p x = true
      · rw [if_pos h2] at h
        intro i hi
        cases i with
        | zero => exact h2
        | succ i =>
          have := chkGo_ord _ l h i (by simpa using hi)
          rw [if_neg (by omega)]
          cases i with
          | zero => exact this
          | succ i => rw [if_neg (by omega)] at this; exact this
      · rw [if_neg h2] at h; cases h
    · rw [if_neg h1] at h; exact absurd h h1
theorem chk_rows (l : List S37) (h : chk47 l = 0) : Rows l := by
  unfold chk47 at h
  by_cases h1 : l.length > 1024
  · rw [if_pos h1] at h; cases h
  · rw [if_neg h1] at h
    by_cases h2 : chkGo none l = 0
    · rw [if_pos h2] at h
      by_cases h3 : isum (centsOf l) ≤ 1152921504606846976
      · refine ⟨by omega, fun i hi => (rcErr_zero _ (chkGo_money _ _ h2 _ (getD_mem' z37 l i hi))).1, h3, fun i h0 hi => ?_⟩
        have := chkGo_ord none l h2 i hi
        rwa [if_neg (by omega)] at this
      · rw [if_neg h3] at h; cases h
    · rw [if_neg h2] at h; exact absurd h h2
def keyT (x : S37) : Int := x.f0 * 16 + x.f1
theorem same_key (a b : S37) (ha : rcB a = true) (hb : rcB b = true) : sameT a b = true ↔ keyT a = keyT b := by
  have h1 := (rcB_iff a).1 ha
  have h2 := (rcB_iff b).1 hb
  rw [sameT_iff]; unfold keyT; omega
theorem ahead_key (a b : S37) (ha : rcB a = true) (hb : rcB b = true) (h : aheadB a b = true) : keyT a ≤ keyT b := by
  have h1 := (rcB_iff a).1 ha
  have h2 := (rcB_iff b).1 hb
  unfold aheadB at h
  unfold keyT
  by_cases c1 : a.f0 = b.f0
  · rw [if_pos c1] at h
    by_cases c2 : a.f1 = b.f1
    · omega
    · rw [if_neg c2] at h; have := of_decide_eq_true h; omega
  · rw [if_neg c1] at h; have := of_decide_eq_true h; omega
theorem Rows.mono {l : List S37} (R : Rows l) (i : Nat) : ∀ j, i ≤ j → j < l.length → keyT (l.getD i z37) ≤ keyT (l.getD j z37) := by
  intro j hij hj
  induction j with
  | zero => obtain rfl : i = 0 := by omega
            exact Int.le_refl _
  | succ j ih =>
    by_cases h : i = j + 1
    · subst h; exact Int.le_refl _
    · have h1 := ih (by omega) (by omega)
      have h2 := ahead_key _ _ (R.row j (by omega)) (R.row (j + 1) hj) (R.ord (j + 1) (by omega) hj)
      omega
theorem start_key {l : List S37} (R : Rows l) (i : Nat) (h0 : 0 < i) (hi : i < l.length) : startB l i = true ↔ keyT (l.getD (i - 1) z37) < keyT (l.getD i z37) := by
  have h1 := R.mono (i - 1) i (by omega) hi
  have h2 := same_key _ _ (R.row (i - 1) (by omega)) (R.row i hi)
  unfold startB
  rw [decide_eq_false (by omega : ¬ i = 0), Bool.false_or, Bool.not_eq_true']
  rw [Bool.eq_false_iff, ne_eq, h2]; omega
/-! ### losses, turn by turn -/
def absS (has : List Int) : List Int → List Int → Int → List Int × Int
  | a :: b :: r, out, left => if 0 < left then absS has (b :: r) (overlay out a.toNat (takeS left ((has.take b.toNat).drop a.toNat))) (left - isum (takeS left ((has.take b.toNat).drop a.toNat))) else (out, left)
  | _, out, left => (out, left)
theorem absS_stop (has L out : List Int) (left : Int) (h : ¬ 0 < left) : absS has L out left = (out, left) := by
  match L with
  | [] => rfl
  | [_] => rfl
  | a :: b :: r => rw [absS, if_neg h]
def Inc (n : Nat) : List Int → Prop
  | a :: b :: r => 0 ≤ a ∧ a < b ∧ b ≤ (n : Int) ∧ Inc n (b :: r)
  | _ => True
theorem bnds_inc (l : List S37) : ∀ i, i ≤ l.length → Inc l.length (bnds l i) := by
  refine down_ind ?_ ?_
  · rw [bnds_end]; trivial
  · intro i hi ih
    rw [bnds_step l i hi]
    split
    · obtain ⟨n1, n2, _, _, n5⟩ := nb_facts l (i + 1) (by omega)
      rw [n5] at ih ⊢
      exact ⟨by omega, by omega, by omega, ih⟩
    · exact ih
theorem isum_drop (l : List Int) (a : Nat) : isum l = isum (l.take a) + isum (l.drop a) := by
  rw [← isum_append, List.take_append_drop]
theorem piece_len (has : List Int) (a b : Nat) (h : b ≤ has.length) : ((has.take b).drop a).length = b - a := by
  rw [List.length_drop, List.length_take]; omega
theorem piece_getD (has : List Int) (a b j : Nat) (h : j < b - a) : ((has.take b).drop a).getD j 0 = has.getD (a + j) 0 := by
  rw [List.getD_eq_getElem?_getD, List.getD_eq_getElem?_getD, List.getElem?_drop, List.getElem?_take, if_pos (by omega)]
theorem piece_money (has : List Int) (hm : MoneyL has) (a b : Nat) : MoneyL ((has.take b).drop a) := by
  have hok : ∀ x ∈ has.take b, 0 ≤ x := fun x hx => hm.ok x (List.mem_of_mem_take hx)
  refine ⟨fun x hx => hok x (List.mem_of_mem_drop hx), ?_, ?_⟩
  · have h1 := isum_drop (has.take b) a
    have h2 := (isum_take_le _ hok a).1
    have h3 := (isum_take_le has hm.ok b).2
    have h4 := hm.top
    omega
  · rw [List.length_drop, List.length_take]; have := hm.len; omega
theorem overlay_len (out p : List Int) (a : Nat) (h : a + p.length ≤ out.length) : (overlay out a p).length = out.length := by
  unfold overlay; simp; omega
theorem overlay_getD (out p : List Int) (a : Nat) (h : a + p.length ≤ out.length) (i : Nat) : (overlay out a p).getD i 0 = if a ≤ i ∧ i < a + p.length then p.getD (i - a) 0 else out.getD i 0 := by
  unfold overlay
  simp only [List.getD_eq_getElem?_getD, List.getElem?_append, List.length_append, List.length_take, List.getElem?_take, List.getElem?_drop]
  rw [show min a out.length = a by omega]
  by_cases h1 : i < a
  · rw [if_pos (show i < a + p.length by omega), if_neg (show ¬ (a ≤ i ∧ i < a + p.length) by omega), if_pos h1, if_pos h1]
  · by_cases h2 : i < a + p.length
    · rw [if_pos h2, if_neg h1, if_pos (show a ≤ i ∧ i < a + p.length from ⟨by omega, h2⟩)]
    · rw [if_neg h2, if_neg (show ¬ (a ≤ i ∧ i < a + p.length) by omega), show a + p.length + (i - (a + p.length)) = i by omega]
theorem abs_ev (has : List Int) (hm : MoneyL has) : ∀ (L out : List Int) (left : Int), Inc has.length L → out.length = has.length → 0 ≤ left → left ≤ 1152921504606846976 → Ev (fun k => absGo k has L out left) (absS has L out left)
  | [], out, left, _, _, _, _ => Ev.now _
  | [_], out, left, _, _, _, _ => Ev.now _
  | a :: b :: r, out, left, hI, ho, h0, h1 => by
    obtain ⟨i1, i2, i3, hI⟩ := hI
    simp only [absGo, absS]
    by_cases hl : 0 < left
    · rw [if_pos hl]
      refine ev_pos hl (ev_pos ⟨i1, i2, i3, by omega⟩ ?_)
      have hp := piece_money has hm a.toNat b.toNat
      have hpl := piece_len has a.toNat b.toNat (by omega)
      generalize (has.take b.toNat).drop a.toNat = p at *
      obtain ⟨f1, f2, f3⟩ := take_facts left p h0 hp
      have f4 := isum_nn _ (take_nn left p h0 hp)
      have f5 := isum_nn p hp.ok
      refine ev_bnd (takeF_ev left p h0 h1 hp) (ev_pos (by simp only; omega) ?_)
      exact abs_ev has hm (b :: r) _ _ hI (by rw [overlay_len _ _ _ (by simp only; omega), ho]) (by simp only; split at f2 <;> omega) (by simp only; omega)
    · rw [if_neg hl]; exact ev_neg hl (ev_some rfl)
theorem rd_set_tab (l : List S37) (n : Nat) (hn : n = l.length) : centsOf l = tab n (fun j => (l.getD j z37).f3) := by
  subst hn
  refine list_ext _ _ (by unfold centsOf; rw [List.length_map, tab_len]) fun i hi => ?_
  unfold centsOf at hi ⊢
  rw [List.length_map] at hi
  rw [tab_getD _ _ _ hi, List.getD_eq_getElem?_getD, List.getElem?_map, List.getElem?_eq_getElem hi, List.getD_eq_getElem?_getD, List.getElem?_eq_getElem hi]; rfl
theorem cents_getD (l : List S37) (i : Nat) (hi : i < l.length) : (centsOf l).getD i 0 = (l.getD i z37).f3 := by
  rw [rd_set_tab l _ rfl, tab_getD _ _ _ hi]
theorem cents_len (l : List S37) : (centsOf l).length = l.length := by unfold centsOf; rw [List.length_map]
theorem Rows.money {l : List S37} (R : Rows l) : MoneyL (centsOf l) := by
  refine ⟨fun a ha => ?_, R.top, by rw [cents_len]; exact R.len⟩
  obtain ⟨j, hj, rfl⟩ := getD_mem _ a ha
  rw [cents_len] at hj
  rw [cents_getD l j hj]
  exact ((okMoney_iff _).1 ((rcB_iff _).1 (R.row j hj)).2.2.2.2).1
/-! ### the document's loop -/
structure AbsInv (n z : Nat) (out : List Int) (left : Int) : Prop where
  len : out.length = n
  l0 : 0 ≤ left
  l1 : left ≤ 1152921504606846976
  row : ∀ j, j < n → 0 ≤ out.getD j 0 ∧ out.getD j 0 ≤ 1152921504606846976
  zero : ∀ j, z ≤ j → out.getD j 0 = 0
theorem AbsInv.step {n a b : Nat} {out p : List Int} {left : Int} (I : AbsInv n a out left) (hp : MoneyL p) (hpl : p.length = b - a) (hab : a < b) (hb : b ≤ n) : AbsInv n b (overlay out a (takeS left p)) (left - isum (takeS left p)) := by
  obtain ⟨f1, f2, f3⟩ := take_facts left p I.l0 hp
  have f4 := isum_nn _ (take_nn left p I.l0 hp)
  have f5 := isum_nn p hp.ok
  have hl := I.len
  have h0 := I.l0
  have h1 := I.l1
  refine ⟨by rw [overlay_len _ _ _ (by omega)]; exact hl, by split at f2 <;> omega, by omega, fun j hj => ?_, fun j hj => ?_⟩
  · rw [overlay_getD _ _ _ (by omega)]
    by_cases hw : a ≤ j ∧ j < a + (takeS left p).length
    · rw [if_pos hw]
      have := f3 (j - a) (by omega)
      have := hp.each _ (mem_getD p (j - a) (by omega))
      omega
    · rw [if_neg hw]; exact I.row j hj
  · rw [overlay_getD _ _ _ (by omega), if_neg (by omega)]
    exact I.zero j (by omega)
theorem amounts_go (l : List S37) (hl : l.length ≤ 1024) : ∀ (i : Nat) (out : List Int), i ≤ l.length → out = tab l.length (fun j => if j < i then (l.getD j z37).f3 else 0) → Ev (fun k => waterfall_amounts.l0 k out l (l.length : Int) (i : Int)) (centsOf l) := by
  refine ev_down (S := List Int) (g := fun k i out => waterfall_amounts.l0 k out l (l.length : Int) (i : Int)) (spec := fun _ _ => centsOf l) (inv := fun i out => out = tab l.length (fun j => if j < i then (l.getD j z37).f3 else 0)) ?_ ?_
  · intro out ho
    refine Ev.step (fun _ => rfl) (ev_neg (by omega) (ev_some ?_))
    rw [ho, rd_set_tab l _ rfl]
    exact tab_congr _ _ _ fun j hj => by rw [if_pos hj]
  · intro i out hi ho ih
    refine Ev.step (fun _ => rfl) (ev_pos (by omega) (ev_pos (by omega) (ev_pos (by omega) (ev_pos (by rw [ho, tab_len]; omega) ?_))))
    rw [rdR, wsucc i (by omega), Int.toNat_natCast]
    refine ih _ ?_
    rw [ho, tab_set]
    refine tab_congr _ _ _ fun j hj => ?_
    by_cases h1 : j = i
    · subst h1; rw [if_pos rfl, if_pos (by omega)]
    · rw [if_neg h1]
      by_cases h2 : j < i
      · rw [if_pos h2, if_pos (by omega)]
      · rw [if_neg h2, if_neg (by omega)]
theorem amounts_ev (l : List S37) (hl : l.length ≤ 1024) : Ev (fun k => waterfall_amounts.f k l) (centsOf l) := by
  unfold waterfall_amounts.f
  refine ev_pos (by omega) (ev_pos (by rw [Int.toNat_natCast]; omega) ?_)
  rw [Int.toNat_natCast, tab_zero]
  exact amounts_go l hl 0 _ (by omega) (tab_congr _ _ _ fun j hj => by rw [if_neg (by omega)])
def absAns (loss : Int) (l : List S37) : List Int × Int × Int := if chk47 l = 0 then (if okMoney loss = true then ((absS (centsOf l) (bnds l 0) (List.replicate l.length 0) loss).1, (absS (centsOf l) (bnds l 0) (List.replicate l.length 0) loss).2, 0) else ([], 0, 2)) else ([], 0, chk47 l)
theorem absorb_ev (loss : Int) (l : List S37) : Ev (fun k => waterfall_Absorb.f k loss l) (absAns loss l) := by
  unfold waterfall_Absorb.f absAns
  refine ev_bnd (wcheck_ev l) ?_
  by_cases hc : chk47 l = 0
  · rw [if_pos hc]
    have R := chk_rows l hc
    have hl := R.len
    refine ev_pos hc (ev_val (wmoney_eq loss) ?_)
    by_cases hm : okMoney loss = true
    · rw [if_pos hm]
      have hm2 := (okMoney_iff loss).1 hm
      refine ev_pos hm (ev_pos hl (ev_bnd (amounts_ev l hl) (ev_bnd (turns_ev l hl) ?_)))
      have hbl : 0 < (bnds l 0).length ∧ (bnds l 0).length ≤ 1048576 := by
        have : ∀ i, i ≤ l.length → 0 < (bnds l i).length ∧ (bnds l i).length ≤ l.length - i + 1 := by
          refine down_ind ?_ ?_
          · rw [bnds_end]; simp
          · intro i hi ih
            rw [bnds_step l i hi]
            split
            · rw [List.length_cons]; omega
            · omega
        have := this 0 (by omega)
        omega
      refine ev_pos hbl (ev_bnd (abs_ev (centsOf l) R.money (bnds l 0) (List.replicate l.length 0) loss (by rw [cents_len]; exact bnds_inc l 0 (by omega)) (by rw [List.length_replicate, cents_len]) hm2.1 hm2.2) (ev_some rfl))
    · rw [if_neg hm]; exact ev_neg hm (ev_some rfl)
  · rw [if_neg hc]; exact ev_neg hc (ev_some rfl)
/-! ### may numbers be what was paid? -/
def badFrom (l : List S37) (paid : List Int) : Nat → Nat → Bool
  | 0, _ => false
  | d + 1, i => (decide (paid.getD i 0 < 0) || decide (paid.getD i 0 > (l.getD i z37).f3)) || badFrom l paid d (i + 1)
def right47 (l : List S37) (paid : List Int) : Int := if chk47 l = 0 then (if paid.length = l.length then (if badFrom l paid l.length 0 = true then 2 else 0) else 2) else chk47 l
theorem bad_not (l : List S37) (paid : List Int) : ∀ d i, badFrom l paid d i = false → ∀ j, i ≤ j → j < i + d → 0 ≤ paid.getD j 0 ∧ paid.getD j 0 ≤ (l.getD j z37).f3
  | 0, i, _, j, h1, h2 => by omega
  | d + 1, i, h, j, h1, h2 => by
    rw [badFrom, Bool.or_eq_false_iff, Bool.or_eq_false_iff, decide_eq_false_iff_not, decide_eq_false_iff_not] at h
    by_cases hj : j = i
    · subst hj; omega
    · exact bad_not l paid d (i + 1) h.2 j (by omega) (by omega)
structure Paid (l : List S37) (paid : List Int) : Prop extends Rows l where
  plen : paid.length = l.length
  each : ∀ j, j < l.length → 0 ≤ paid.getD j 0 ∧ paid.getD j 0 ≤ (l.getD j z37).f3
theorem right_paid (l : List S37) (paid : List Int) (h : right47 l paid = 0) : Paid l paid := by
  unfold right47 at h
  by_cases h1 : chk47 l = 0
  · rw [if_pos h1] at h
    by_cases h2 : paid.length = l.length
    · rw [if_pos h2] at h
      cases h3 : badFrom l paid l.length 0 with
      | true => rw [h3, if_pos rfl] at h; cases h
      | false => exact { toRows := chk_rows l h1, plen := h2, each := fun j hj => bad_not l paid _ _ h3 j (by omega) (by omega) }
    · rw [if_neg h2] at h; cases h
  · rw [if_neg h1] at h; exact absurd h h1
theorem wbad_go (l : List S37) (paid : List Int) (hl : l.length ≤ 1024) (hp : paid.length = l.length) : ∀ (i : Nat) (u : Unit), i ≤ l.length → True → Ev (fun k => waterfall_check.l0 k l paid (paid.length : Int) (i : Int)) (if badFrom l paid (l.length - i) i = true then 2 else 0) := by
  refine ev_down (S := Unit) (g := fun k i _ => waterfall_check.l0 k l paid (paid.length : Int) (i : Int)) (spec := fun i _ => if badFrom l paid (l.length - i) i = true then 2 else 0) (inv := fun _ _ => True) ?_ ?_
  · intro _ _
    refine Ev.step (fun _ => by rw [waterfall_check.l0]) ?_
    exact ev_neg (by omega) (ev_some (by rw [Nat.sub_self]; rfl))
  · intro i _ hi _ ih
    have ih := ih () trivial
    refine Ev.step (fun _ => by rw [waterfall_check.l0]) ?_
    refine ev_pos (by omega) (ev_pos (by omega) (ev_pos (by omega) ?_))
    rw [show l.length - i = (l.length - (i + 1)) + 1 by omega, badFrom, rdR, rd_nat, wsucc i (by omega)]
    by_cases h1 : paid.getD i 0 < 0
    · exact ev_pos h1 (ev_some (by rw [decide_eq_true h1]; rfl))
    · refine ev_neg h1 (ev_pos (by omega) ?_)
      rw [decide_eq_false h1, Bool.false_or]
      by_cases h2 : paid.getD i 0 > (l.getD i z37).f3
      · exact ev_pos h2 (ev_some (by rw [decide_eq_true h2]; rfl))
      · rw [decide_eq_false h2, Bool.false_or]
        exact ev_neg h2 ih
theorem wcheckp_ev (l : List S37) (paid : List Int) (n : Int) : Ev (fun k => waterfall_check.f k l paid n) (if chk47 l = 0 then (if okMoney n = true then right47 l paid else 2) else chk47 l) := by
  unfold waterfall_check.f
  refine ev_bnd (wcheck_ev l) ?_
  by_cases hc : chk47 l = 0
  · rw [if_pos hc]
    have hl := (chk_rows l hc).len
    refine ev_pos hc (ev_val (wmoney_eq n) ?_)
    by_cases hm : okMoney n = true
    · rw [if_pos hm]
      refine ev_pos hm ?_
      refine Ev.step (fun _ => by rw [waterfall_check.j0]) ?_
      unfold right47
      rw [if_pos hc]
      by_cases hp : paid.length = l.length
      · rw [if_pos hp]
        refine ev_neg (by simp [hp]) ?_
        exact wbad_go l paid hl hp 0 () (by omega) trivial
      · rw [if_neg hp]
        exact ev_pos (by simp; omega) (ev_some rfl)
    · rw [if_neg hm]
      refine ev_neg hm ?_
      exact Ev.step (fun _ => by rw [waterfall_check.j0]) (ev_pos rfl (ev_some rfl))
  · rw [if_neg hc]; exact ev_neg hc (ev_some rfl)
theorem Paid.money {l : List S37} {paid : List Int} (F : Paid l paid) : MoneyL paid := by
  have hc := F.toRows.money
  refine ⟨fun a ha => ?_, ?_, by rw [F.plen]; exact F.len⟩
  · obtain ⟨j, hj, rfl⟩ := getD_mem _ a ha
    exact (F.each j (by rw [← F.plen]; exact hj)).1
  · have := sumTo_le (fun j => paid.getD j 0) (fun j => (centsOf l).getD j 0) l.length (fun j hj => by rw [cents_getD l j hj]; exact (F.each j hj).2)
    rw [← F.plen, ← isum_sumTo, F.plen, ← cents_len l, ← isum_sumTo] at this
    have := hc.top
    omega
/-! ### what comes back, the last turn first -/
def bdB (l : List S37) (q : Nat) : Bool := decide (q = l.length) || startB l q
def psC (l : List S37) : Nat → Nat × Nat
  | 0 => (0, 0)
  | q + 1 => if bdB l (q + 1) = true then (q + 1, (psC l q).2 + 1) else psC l q
def bp (l : List S37) : Nat → List Int
  | 0 => [0]
  | q + 1 => if bdB l (q + 1) = true then bp l q ++ [((q + 1 : Nat) : Int)] else bp l q
theorem bp_len (l : List S37) : ∀ q, (bp l q).length = (psC l q).2 + 1
  | 0 => rfl
  | q + 1 => by
    have ih := bp_len l q
    rw [bp, psC]
    split
    · rw [List.length_append, List.length_singleton, ih]
    · exact ih
theorem bp_at (l : List S37) : ∀ q, (bp l q).getD (psC l q).2 0 = ((psC l q).1 : Int)
  | 0 => rfl
  | q + 1 => by
    have ih := bp_at l q
    have hl := bp_len l q
    rw [bp, psC]
    by_cases h : bdB l (q + 1) = true
    · rw [if_pos h, if_pos h, List.getD_eq_getElem?_getD, List.getElem?_append, if_neg (by rw [hl]; simp), hl]; simp
    · rw [if_neg h, if_neg h]; exact ih
theorem bp_pre (l : List S37) : ∀ q, q < l.length → bnds l 0 = bp l q ++ bnds l (q + 1)
  | 0, h => by rw [bnds_step l 0 h, show startB l 0 = true from rfl, if_pos rfl]; rfl
  | q + 1, h => by
    rw [bp_pre l q (by omega), bnds_step l (q + 1) h, bp]
    have hb : bdB l (q + 1) = startB l (q + 1) := by unfold bdB; rw [decide_eq_false (by omega), Bool.false_or]
    rw [hb]
    cases startB l (q + 1) with
    | true => simp
    | false => simp
theorem bp_all (l : List S37) : bnds l 0 = bp l l.length := by
  by_cases h : l.length = 0
  · have : bnds l 0 = bnds l l.length := by rw [h]
    rw [this, bnds_end, h]; rfl
  · obtain ⟨m, hm⟩ : ∃ m, l.length = m + 1 := ⟨l.length - 1, by omega⟩
    rw [bp_pre l m (by omega), ← hm, bnds_end, hm, bp, if_pos (by unfold bdB; rw [decide_eq_true hm.symm]; rfl)]
theorem bnds_at (l : List S37) (q : Nat) (h : q ≤ l.length) : rd (bnds l 0) ((psC l q).2 : Int) = ((psC l q).1 : Int) := by
  rw [rd_nat, ← bp_at l q]
  by_cases hq : q < l.length
  · rw [bp_pre l q hq, List.getD_eq_getElem?_getD, List.getElem?_append, if_pos (by rw [bp_len]; omega), ← List.getD_eq_getElem?_getD]
  · rw [show q = l.length by omega, ← bp_all]
theorem ps_facts (l : List S37) : ∀ q, (psC l q).1 ≤ q ∧ (bdB l (psC l q).1 = true ∨ (psC l q).1 = 0) ∧ ∀ j, (psC l q).1 < j → j ≤ q → bdB l j = false
  | 0 => ⟨by simp [psC], .inr rfl, fun j h1 h2 => by omega⟩
  | q + 1 => by
    obtain ⟨h1, h2, h3⟩ := ps_facts l q
    rw [psC]
    cases hb : bdB l (q + 1) with
    | true =>
      simp only [if_true]
      exact ⟨by omega, .inl hb, fun j h1 h2 => by omega⟩
    | false =>
      simp only [Bool.false_eq_true, if_false]
      refine ⟨by omega, h2, fun j h4 h5 => ?_⟩
      by_cases hj : j = q + 1
      · subst hj; exact hb
      · exact h3 j h4 (by omega)
def retS (has at_ : List Int) : Nat → List Int → Int → List Int × Int
  | 0, out, left => (out, left)
  | i + 1, out, left => if 0 < left then retS has at_ i (overlay out (rd at_ (i : Int)).toNat (takeS left ((has.take (rd at_ ((i : Int) + 1)).toNat).drop (rd at_ (i : Int)).toNat))) (left - isum (takeS left ((has.take (rd at_ ((i : Int) + 1)).toNat).drop (rd at_ (i : Int)).toNat))) else (out, left)
theorem retS_stop (has at_ out : List Int) (left : Int) (h : ¬ 0 < left) : ∀ i, retS has at_ i out left = (out, left)
  | 0 => rfl
  | i + 1 => by rw [retS, if_neg h]
structure RetInv (n z : Nat) (out : List Int) (left : Int) : Prop where
  len : out.length = n
  l0 : 0 ≤ left
  l1 : left ≤ 1152921504606846976
  row : ∀ j, j < n → 0 ≤ out.getD j 0 ∧ out.getD j 0 ≤ 1152921504606846976
  zero : ∀ j, j < z → out.getD j 0 = 0
theorem RetInv.step {n a b : Nat} {out p : List Int} {left : Int} (I : RetInv n b out left) (hp : MoneyL p) (hpl : p.length = b - a) (hab : a < b) (hb : b ≤ n) : RetInv n a (overlay out a (takeS left p)) (left - isum (takeS left p)) := by
  obtain ⟨f1, f2, f3⟩ := take_facts left p I.l0 hp
  have f4 := isum_nn _ (take_nn left p I.l0 hp)
  have f5 := isum_nn p hp.ok
  have hl := I.len
  have h0 := I.l0
  have h1 := I.l1
  refine ⟨by rw [overlay_len _ _ _ (by omega)]; exact hl, by split at f2 <;> omega, by omega, fun j hj => ?_, fun j hj => ?_⟩
  · rw [overlay_getD _ _ _ (by omega)]
    by_cases hw : a ≤ j ∧ j < a + (takeS left p).length
    · rw [if_pos hw]
      have := f3 (j - a) (by omega)
      have := hp.each _ (mem_getD p (j - a) (by omega))
      omega
    · rw [if_neg hw]; exact I.row j hj
  · rw [overlay_getD _ _ _ (by omega), if_neg (by omega)]
    exact I.zero j (by omega)
theorem ps_idem (l : List S37) : ∀ q, psC l (psC l q).1 = psC l q
  | 0 => rfl
  | q + 1 => by
    have ih := ps_idem l q
    by_cases h : bdB l (q + 1) = true
    · have e : psC l (q + 1) = (q + 1, (psC l q).2 + 1) := by rw [psC, if_pos h]
      rw [e]; exact e
    · have e : psC l (q + 1) = psC l q := by rw [psC, if_neg h]
      rw [e]; exact ih
theorem retGo_ev {l : List S37} (R : Rows l) (has : List Int) (hm : MoneyL has) (hlen : has.length = l.length) : ∀ (q : Nat) (out : List Int) (left : Int), q ≤ l.length → bdB l q = true ∨ q = 0 → out.length = l.length → 0 ≤ left → left ≤ 1152921504606846976 → Ev (fun k => retGo k has (bnds l 0) (psC l q).2 out left) (retS has (bnds l 0) (psC l q).2 out left) := by
  intro q
  induction q using Nat.strongRecOn with
  | ind q ih =>
    intro out left hq hb ho h0 h1
    cases q with
    | zero => exact ev_some rfl
    | succ q =>
      have hb : bdB l (q + 1) = true := by rcases hb with hb | hb; exact hb; omega
      obtain ⟨p1, p2, _⟩ := ps_facts l q
      have e1 := bnds_at l (q + 1) hq
      have e0 := bnds_at l q (by omega)
      rw [psC, if_pos hb] at e1 ⊢
      simp only at e1 ⊢
      rw [show (((psC l q).2 + 1 : Nat) : Int) = ((psC l q).2 : Int) + 1 by omega] at e1
      simp only [retGo, retS]
      by_cases hl : 0 < left
      · rw [if_pos hl]
        refine ev_pos hl ?_
        rw [e1, e0, Int.toNat_natCast, Int.toNat_natCast]
        refine ev_pos ⟨by omega, by omega, by omega, by omega⟩ ?_
        have hp := piece_money has hm (psC l q).1 (q + 1)
        have hpl := piece_len has (psC l q).1 (q + 1) (by omega)
        generalize (has.take (q + 1)).drop (psC l q).1 = p at *
        obtain ⟨f1, f2, f3⟩ := take_facts left p h0 hp
        have f4 := isum_nn _ (take_nn left p h0 hp)
        have f5 := isum_nn p hp.ok
        refine ev_bnd (takeF_ev left p h0 h1 hp) (ev_pos (by simp only; omega) ?_)
        have hstep := ih (psC l q).1 (by omega) (overlay out (psC l q).1 (takeS left p)) (left - isum (takeS left p)) (by omega) p2 (by rw [overlay_len _ _ _ (by omega), ho]) (by split at f2 <;> omega) (by omega)
        have hc : (psC l (psC l q).1).2 = (psC l q).2 := by rw [ps_idem]
        rwa [hc] at hstep
      · rw [if_neg hl]; exact ev_neg hl (ev_some rfl)
def retAns (n : Int) (l : List S37) (paid : List Int) : List Int × Int × Int := if chk47 l = 0 then (if okMoney n = true ∧ right47 l paid = 0 then ((retS paid (bnds l 0) (psC l l.length).2 (List.replicate l.length 0) n).1, (retS paid (bnds l 0) (psC l l.length).2 (List.replicate l.length 0) n).2, 0) else ([], 0, 2)) else ([], 0, chk47 l)
theorem bnds_len (l : List S37) : (bnds l 0).length = (psC l l.length).2 + 1 := by rw [bp_all, bp_len]
theorem ps_le (l : List S37) : ∀ q, (psC l q).2 ≤ q
  | 0 => by simp [psC]
  | q + 1 => by
    have := ps_le l q
    rw [psC]; split
    · simp only; omega
    · omega
theorem right_two (l : List S37) (paid : List Int) (hc : chk47 l = 0) (h : right47 l paid ≠ 0) : right47 l paid = 2 := by
  unfold right47 at *
  rw [if_pos hc] at *
  by_cases h2 : paid.length = l.length
  · rw [if_pos h2] at *
    cases h3 : badFrom l paid l.length 0 with
    | true => rfl
    | false => rw [h3] at h; simp at h
  · rw [if_neg h2]
theorem return_ev (n : Int) (l : List S37) (paid : List Int) : Ev (fun k => waterfall_Return.f k n l paid) (retAns n l paid) := by
  unfold waterfall_Return.f retAns
  refine ev_bnd (wcheckp_ev l paid n) ?_
  by_cases hc : chk47 l = 0
  · rw [if_pos hc, if_pos hc]
    have hl := (chk_rows l hc).len
    by_cases hm : okMoney n = true
    · rw [if_pos hm]
      by_cases hr : right47 l paid = 0
      · rw [if_pos ⟨hm, hr⟩]
        have F := right_paid l paid hr
        have hm2 := (okMoney_iff n).1 hm
        have h1 := bnds_len l
        have h2 := ps_le l l.length
        refine ev_pos hr (ev_pos hl (ev_bnd (turns_ev l hl) (ev_pos (by omega) ?_)))
        rw [h1, Nat.add_sub_cancel]
        refine ev_bnd (retGo_ev F.toRows paid F.money F.plen l.length _ n (by omega) (.inl (by unfold bdB; rw [decide_eq_true rfl]; rfl)) List.length_replicate hm2.1 hm2.2) (ev_some rfl)
      · rw [if_neg (fun h => hr h.2), right_two l paid hc hr]
        exact ev_neg (by decide) (ev_some rfl)
    · rw [if_neg hm, if_neg (fun h => hm h.1)]
      exact ev_neg (by decide) (ev_some rfl)
  · rw [if_neg hc, if_neg hc]; exact ev_neg hc (ev_some rfl)
/-! ### who paid out of turn -/
theorem isum_zero_iff (p : List Int) (h : ∀ a ∈ p, 0 ≤ a) : isum p = 0 ↔ ∀ j, j < p.length → p.getD j 0 = 0 := by
  constructor
  · intro hs j hj
    have h1 := mem_le_isum p h _ (mem_getD p j hj)
    have h2 := h _ (mem_getD p j hj)
    omega
  · intro hj
    have h1 := g_isum_nonpos p (fun i hi => by rw [hj i hi]; exact Int.le_refl _)
    have h2 := isum_nn p h
    omega
/-! ### what a layer has -/
theorem goes47 : Ev (fun k => cl47_goes.f k) true := Ev.of (fun k => cl47_goes.mono k) (k := 600) (by decide +kernel)
theorem goes47t : Ev (fun k => (cl47_goes.f k).bind fun t => some t) true := ev_bnd goes47 (ev_some rfl)
/-! ### what a loss takes, told by sums -/
theorem getD_take (l : List Int) (q j : Nat) (h : j < q) : (l.take q).getD j 0 = l.getD j 0 := by
  rw [List.getD_eq_getElem?_getD, List.getD_eq_getElem?_getD, List.getElem?_take, if_pos h]
theorem getD_drop (l : List Int) (q j : Nat) : (l.drop q).getD j 0 = l.getD (q + j) 0 := by
  rw [List.getD_eq_getElem?_getD, List.getD_eq_getElem?_getD, List.getElem?_drop]
theorem take_eq_of (x y : List Int) (q : Nat) (hx : q ≤ x.length) (hy : q ≤ y.length) (h : ∀ j, j < q → x.getD j 0 = y.getD j 0) : x.take q = y.take q := by
  refine list_ext _ _ (by rw [List.length_take, List.length_take]; omega) fun j hj => ?_
  rw [List.length_take] at hj
  rw [getD_take _ _ _ (by omega), getD_take _ _ _ (by omega), h j (by omega)]
theorem drop_eq_of (x y : List Int) (q : Nat) (hx : x.length = y.length) (h : ∀ j, q ≤ j → j < x.length → x.getD j 0 = y.getD j 0) : x.drop q = y.drop q := by
  refine list_ext _ _ (by rw [List.length_drop, List.length_drop, hx]) fun j hj => ?_
  rw [List.length_drop] at hj
  rw [getD_drop, getD_drop, h (q + j) (by omega) (by omega)]
theorem overlay_take (out p : List Int) (a : Nat) (h : a + p.length ≤ out.length) : (overlay out a p).take (a + p.length) = out.take a ++ p := by
  unfold overlay
  rw [List.take_append_of_le_length (by rw [List.length_append, List.length_take]; omega), List.take_of_length_le (by rw [List.length_append, List.length_take]; omega)]
theorem overlay_drop (out p : List Int) (a : Nat) (h : a + p.length ≤ out.length) : (overlay out a p).drop (a + p.length) = out.drop (a + p.length) := by
  refine drop_eq_of _ _ _ (overlay_len out p a h) fun j h1 _ => ?_
  rw [overlay_getD out p a h, if_neg (by omega)]
theorem piece_sum (m : List Int) (a b : Nat) (h : a ≤ b) : isum ((m.take b).drop a) = isum (m.take b) - isum (m.take a) := by
  have h1 := isum_drop (m.take b) a
  rw [List.take_take, Nat.min_eq_left h] at h1
  omega
theorem take_mono (m : List Int) (hm : ∀ a ∈ m, 0 ≤ a) (a b : Nat) (h : a ≤ b) : isum (m.take a) ≤ isum (m.take b) := by
  have h1 := piece_sum m a b h
  have h2 := isum_nn ((m.take b).drop a) (fun x hx => hm x (List.mem_of_mem_take (List.mem_of_mem_drop hx)))
  omega
theorem take_zeros (out : List Int) (z q : Nat) (hz : ∀ j, z ≤ j → out.getD j 0 = 0) (h : z ≤ q) : isum (out.take q) = isum (out.take z) := by
  have h1 := piece_sum out z q h
  have h2 : isum ((out.take q).drop z) = 0 := by
    rw [isum_sumTo]
    rw [sumTo_congr _ (fun _ => 0) _ (fun j hj => by
      rw [List.length_drop, List.length_take] at hj
      rw [getD_drop, getD_take _ _ _ (by omega)]; exact hz _ (by omega))]
    generalize ((out.take q).drop z).length = n
    induction n with
    | zero => rfl
    | succ n ih => simp only [sumTo]; omega
  omega
theorem take_zero (p : List Int) (hp : MoneyL p) : takeS 0 p = List.replicate p.length 0 := by
  obtain ⟨f1, f2, f3⟩ := take_facts 0 p (Int.le_refl _) hp
  have h1 := isum_nn p hp.ok
  have h2 : isum (takeS 0 p) = 0 := by split at f2 <;> omega
  have h3 := (isum_zero_iff _ (take_nn 0 p (Int.le_refl _) hp)).1 h2
  refine list_ext _ _ (by rw [f1, List.length_replicate]) fun j hj => ?_
  rw [h3 j hj, tab_zero, tab_getD _ _ _ (by omega)]
structure AbsRun (l : List S37) (loss : Int) (z : Nat) (out : List Int) (left : Int) : Prop where
  len : out.length = l.length
  lo : left = loss - min loss (isum ((centsOf l).take z))
  each : ∀ j, j < l.length → 0 ≤ out.getD j 0 ∧ out.getD j 0 ≤ (l.getD j z37).f3
  zero : ∀ j, z ≤ j → out.getD j 0 = 0
  cum : ∀ q, bdB l q = true ∨ q = 0 → q ≤ z → isum (out.take q) = min loss (isum ((centsOf l).take q))
  quo : ∀ i, startB l i = true → i < z → ∃ m, 0 ≤ m ∧ (out.take (nb l (i + 1))).drop i = takeS m (((centsOf l).take (nb l (i + 1))).drop i)
theorem nb_before (l : List S37) (i j : Nat) (hi : i < j) (hj : j < l.length) (hs : startB l j = true) : nb l (i + 1) ≤ j := by
  obtain ⟨_, _, n3, _⟩ := nb_facts l (i + 1) (by omega)
  by_cases h : nb l (i + 1) ≤ j
  · exact h
  · have := n3 j (by omega) (by omega)
    rw [hs] at this; cases this
theorem AbsRun.step {l : List S37} (R : Rows l) {loss : Int} {i : Nat} {out : List Int} {left : Int} (A : AbsRun l loss i out left) (hi : i < l.length) (hs : startB l i = true) (hl : 0 < left) :
    AbsRun l loss (nb l (i + 1)) (overlay out i (takeS left (((centsOf l).take (nb l (i + 1))).drop i))) (left - isum (takeS left (((centsOf l).take (nb l (i + 1))).drop i))) := by
  obtain ⟨n1, n2, n3, _, _⟩ := nb_facts l (i + 1) (by omega)
  have hp := piece_money (centsOf l) R.money i (nb l (i + 1))
  have hpl := piece_len (centsOf l) i (nb l (i + 1)) (by rw [cents_len]; omega)
  have hps := piece_sum (centsOf l) i (nb l (i + 1)) (by omega)
  have hpe : ∀ j, j < nb l (i + 1) - i → (((centsOf l).take (nb l (i + 1))).drop i).getD j 0 = (l.getD (i + j) z37).f3 := fun j hj => by
    rw [piece_getD _ _ _ _ hj, cents_getD l _ (by omega)]
  have hmo := take_mono (centsOf l) R.money.ok i (nb l (i + 1)) (by omega)
  have hlo := A.lo
  have hlen := A.len
  generalize hP : ((centsOf l).take (nb l (i + 1))).drop i = p at *
  obtain ⟨f1, f2, f3⟩ := take_facts left p (by omega) hp
  have hbe : i + (takeS left p).length = nb l (i + 1) := by omega
  have htk : (overlay out i (takeS left p)).take (nb l (i + 1)) = out.take i ++ takeS left p := by
    rw [← hbe]; exact overlay_take out _ i (by omega)
  have hci := A.cum i (by unfold bdB; rw [hs, Bool.or_true]; exact .inl rfl) (by omega)
  refine ⟨by rw [overlay_len _ _ _ (by omega), hlen], ?_, fun j hj => ?_, fun j hj => ?_, fun q hq hqb => ?_, fun j hj hjb => ?_⟩
  · split at f2 <;> omega
  · rw [overlay_getD _ _ _ (by omega)]
    by_cases hw : i ≤ j ∧ j < i + (takeS left p).length
    · rw [if_pos hw]
      have := f3 (j - i) (by omega)
      rw [hpe _ (by omega), show i + (j - i) = j by omega] at this
      exact this
    · rw [if_neg hw]; exact A.each j hj
  · rw [overlay_getD _ _ _ (by omega), if_neg (by omega)]
    exact A.zero j (by omega)
  · by_cases hqi : q ≤ i
    · rw [take_eq_of _ out q (by rw [overlay_len _ _ _ (by omega)]; omega) (by omega) (fun j hj => by rw [overlay_getD _ _ _ (by omega), if_neg (by omega)])]
      exact A.cum q hq hqi
    · by_cases hqe : q = nb l (i + 1)
      · subst hqe
        rw [htk, isum_append, hci]
        split at f2 <;> omega
      · exfalso
        have h3 := n3 q (by omega) (by omega)
        rcases hq with hq | hq
        · unfold bdB at hq
          rw [h3, decide_eq_false (by omega)] at hq
          cases hq
        · omega
  · by_cases hji : j < i
    · have hb := nb_before l j i hji hi hs
      obtain ⟨m, m0, hm⟩ := A.quo j hj hji
      refine ⟨m, m0, ?_⟩
      rw [← hm, take_eq_of _ out _ (by rw [overlay_len _ _ _ (by omega)]; omega) (by omega) (fun x hx => by rw [overlay_getD _ _ _ (by omega), if_neg (by omega)])]
    · by_cases hje : j = i
      · subst hje
        refine ⟨left, by omega, ?_⟩
        rw [htk, hP, List.drop_append_of_le_length (by rw [List.length_take]; omega), List.drop_eq_nil_of_le (by rw [List.length_take]; omega)]; rfl
      · exfalso
        have h3 := n3 j (by omega) (by omega)
        rw [h3] at hj; cases hj
theorem AbsRun.stop {l : List S37} (R : Rows l) {loss : Int} {z : Nat} {out : List Int} {left : Int} (A : AbsRun l loss z out left) (hz : z ≤ l.length) (hb : bdB l z = true ∨ z = 0) (hl : ¬ 0 < left) : AbsRun l loss l.length out left := by
  have hlo := A.lo
  have hmo := take_mono (centsOf l) R.money.ok z
  have hcz := A.cum z hb (Nat.le_refl _)
  have hlen := A.len
  refine ⟨A.len, ?_, A.each, fun j hj => A.zero j (by omega), fun q hq hqb => ?_, fun j hj hjb => ?_⟩
  · have := hmo l.length hz
    omega
  · by_cases hqz : q ≤ z
    · exact A.cum q hq hqz
    · rw [take_zeros out z q A.zero (by omega), hcz]
      have := hmo q (by omega)
      omega
  · by_cases hjz : j < z
    · exact A.quo j hj hjz
    · obtain ⟨n1, n2, _⟩ := nb_facts l (j + 1) (by omega)
      have hp := piece_money (centsOf l) R.money j (nb l (j + 1))
      have hpl := piece_len (centsOf l) j (nb l (j + 1)) (by rw [cents_len]; omega)
      have hol := piece_len out j (nb l (j + 1)) (by omega)
      refine ⟨0, Int.le_refl _, ?_⟩
      rw [take_zero _ hp, hpl]
      refine list_ext _ _ (by rw [hol, List.length_replicate]) fun x hx => ?_
      rw [hol] at hx
      rw [piece_getD _ _ _ _ hx, tab_zero, tab_getD _ _ _ hx]
      exact A.zero _ (by omega)
theorem nb_bd (l : List S37) (i : Nat) (hi : i ≤ l.length) : bdB l (nb l i) = true := by
  obtain ⟨_, n2, _, n4, _⟩ := nb_facts l i hi
  unfold bdB
  by_cases h : nb l i < l.length
  · rw [n4 h, Bool.or_true]
  · rw [decide_eq_true (show nb l i = l.length by omega), Bool.true_or]
theorem abs_run {l : List S37} (R : Rows l) (loss : Int) : ∀ i, i ≤ l.length → ∀ (out : List Int) (left : Int), AbsRun l loss (nb l i) out left → AbsRun l loss l.length (absS (centsOf l) (bnds l i) out left).1 (absS (centsOf l) (bnds l i) out left).2 := by
  refine down_ind ?_ ?_
  · intro out left A
    rw [bnds_end]
    rw [nb_end] at A
    exact A
  · intro i hi ih out left A
    by_cases hpos : 0 < left
    · have hb := bnds_step l i hi
      have hn := nb_step l i hi
      cases hs : startB l i with
      | false =>
        rw [hs] at hb hn
        simp only [Bool.false_eq_true, if_false] at hb hn
        rw [hb]
        rw [hn] at A
        exact ih out left A
      | true =>
        rw [hs] at hb hn
        simp only [if_true] at hb hn
        rw [hn] at A
        obtain ⟨n1, n2, _, _, n5⟩ := nb_facts l (i + 1) (by omega)
        have hspec : absS (centsOf l) (bnds l i) out left = absS (centsOf l) (bnds l (i + 1)) (overlay out i (takeS left (((centsOf l).take (nb l (i + 1))).drop i))) (left - isum (takeS left (((centsOf l).take (nb l (i + 1))).drop i))) := by
          rw [hb, n5, absS, if_pos hpos, Int.toNat_natCast, Int.toNat_natCast]
        rw [hspec]
        exact ih _ _ (A.step R hi hs hpos)
    · rw [absS_stop _ _ _ _ hpos]
      exact A.stop R (nb_facts l i (by omega)).2.1 (.inl (nb_bd l i (by omega))) hpos
/-- what is told of a loss that is taken -/
theorem absorb_run (loss : Int) (l : List S37) (h : (absAns loss l).2.2 = 0) : Rows l ∧ okMoney loss = true ∧ AbsRun l loss l.length (absAns loss l).1 (absAns loss l).2.1 := by
  unfold absAns at h ⊢
  by_cases hc : chk47 l = 0
  · rw [if_pos hc] at h ⊢
    by_cases hm : okMoney loss = true
    · rw [if_pos hm] at h ⊢
      have R := chk_rows l hc
      have hm2 := (okMoney_iff loss).1 hm
      have hz : ∀ j, (List.replicate l.length (0 : Int)).getD j 0 = 0 := by
        intro j
        rw [List.getD_eq_getElem?_getD, List.getElem?_replicate]; split <;> rfl
      have hrow : ∀ j, j < l.length → 0 ≤ (l.getD j z37).f3 := fun j hj => ((okMoney_iff _).1 ((rcB_iff _).1 (R.row j hj)).2.2.2.2).1
      have hn0 : nb l 0 = 0 := by
        by_cases h0 : 0 < l.length
        · rw [nb_step l 0 h0]; rfl
        · have := nb_facts l 0 (by omega); omega
      refine ⟨R, hm, abs_run R loss 0 (by omega) _ _ ?_⟩
      rw [hn0]
      refine ⟨List.length_replicate, ?_, fun j hj => by rw [hz j]; exact ⟨Int.le_refl _, hrow j hj⟩, fun j _ => hz j, fun q _ hq => ?_, fun j _ hj => by omega⟩
      · rw [List.take_zero, show isum [] = 0 from rfl]; omega
      · obtain rfl : q = 0 := by omega
        rw [List.take_zero, List.take_zero, show isum [] = 0 from rfl]; omega
    · rw [if_neg hm] at h; cases h
  · rw [if_neg hc] at h; exact absurd h hc
/-! ### what comes back, told by sums -/
structure RetRun (l : List S37) (paid : List Int) (n : Int) (z : Nat) (out : List Int) (left : Int) : Prop where
  len : out.length = l.length
  lo : left = n - min n (isum (paid.drop z))
  each : ∀ j, j < l.length → 0 ≤ out.getD j 0 ∧ out.getD j 0 ≤ paid.getD j 0
  zero : ∀ j, j < z → out.getD j 0 = 0
  cum : ∀ q, bdB l q = true ∨ q = 0 → z ≤ q → q ≤ l.length → isum (out.drop q) = min n (isum (paid.drop q))
theorem zeros_take (out : List Int) (z : Nat) (hz : ∀ j, j < z → out.getD j 0 = 0) (h : z ≤ out.length) : isum (out.take z) = 0 := by
  have h2 : out.take z = List.replicate z 0 := list_ext _ _ (by rw [List.length_take, List.length_replicate]; omega) fun j hj => by
    rw [List.length_take] at hj
    rw [getD_take _ _ _ (by omega), hz j (by omega), tab_zero, tab_getD _ _ _ (by omega)]
  rw [h2, isum_zeros]
theorem drop_mono (m : List Int) (hm : ∀ a ∈ m, 0 ≤ a) (a b : Nat) (h : a ≤ b) : isum (m.drop b) ≤ isum (m.drop a) := by
  have h1 := take_mono m hm a b h
  have h2 := isum_drop m a
  have h3 := isum_drop m b
  omega
theorem RetRun.step {l : List S37} {paid : List Int} (F : Paid l paid) {n : Int} {q : Nat} {out : List Int} {left : Int} (A : RetRun l paid n (q + 1) out left) (hq : q < l.length) (hb : bdB l (q + 1) = true) (hl : 0 < left) :
    RetRun l paid n (psC l q).1 (overlay out (psC l q).1 (takeS left ((paid.take (q + 1)).drop (psC l q).1))) (left - isum (takeS left ((paid.take (q + 1)).drop (psC l q).1))) := by
  obtain ⟨p1, p2, p3⟩ := ps_facts l q
  have hp := piece_money paid F.money (psC l q).1 (q + 1)
  have hpl := piece_len paid (psC l q).1 (q + 1) (by rw [F.plen]; omega)
  have hps := piece_sum paid (psC l q).1 (q + 1) (by omega)
  have hpe : ∀ j, j < q + 1 - (psC l q).1 → ((paid.take (q + 1)).drop (psC l q).1).getD j 0 = paid.getD ((psC l q).1 + j) 0 := fun j hj => piece_getD _ _ _ _ hj
  have hd1 := isum_drop paid (psC l q).1
  have hd2 := isum_drop paid (q + 1)
  have hlo := A.lo
  have hlen := A.len
  generalize hP : (paid.take (q + 1)).drop (psC l q).1 = p at *
  generalize ha : (psC l q).1 = a at *
  obtain ⟨f1, f2, f3⟩ := take_facts left p (by omega) hp
  have hpn := isum_nn p hp.ok
  have hbe : a + (takeS left p).length = q + 1 := by omega
  have htk : (overlay out a (takeS left p)).take (q + 1) = out.take a ++ takeS left p := by
    rw [← hbe]; exact overlay_take out _ a (by omega)
  have hdr : (overlay out a (takeS left p)).drop (q + 1) = out.drop (q + 1) := by
    rw [← hbe]; exact overlay_drop out _ a (by omega)
  have hcq := A.cum (q + 1) (.inl hb) (Nat.le_refl _) (by omega)
  have hz := zeros_take out a (fun j hj => A.zero j (by omega)) (by omega)
  refine ⟨by rw [overlay_len _ _ _ (by omega), hlen], ?_, fun j hj => ?_, fun j hj => ?_, fun x hx hxa hxl => ?_⟩
  · split at f2 <;> omega
  · rw [overlay_getD _ _ _ (by omega)]
    by_cases hw : a ≤ j ∧ j < a + (takeS left p).length
    · rw [if_pos hw]
      have := f3 (j - a) (by omega)
      rw [hpe _ (by omega), show a + (j - a) = j by omega] at this
      exact this
    · rw [if_neg hw]; exact A.each j hj
  · rw [overlay_getD _ _ _ (by omega), if_neg (by omega)]
    exact A.zero j (by omega)
  · by_cases hxq : q + 1 ≤ x
    · rw [drop_eq_of _ out x (overlay_len _ _ _ (by omega)) (fun j hj _ => by rw [overlay_getD _ _ _ (by omega), if_neg (by omega)])]
      exact A.cum x hx hxq hxl
    · by_cases hxe : x = a
      · subst hxe
        have h1 := isum_drop (overlay out x (takeS left p)) x
        have h2 := isum_drop (overlay out x (takeS left p)) (q + 1)
        rw [htk, hdr, isum_append, hz, hcq] at h2
        rw [take_eq_of _ out x (by rw [overlay_len _ _ _ (by omega)]; omega) (by omega) (fun j hj => by rw [overlay_getD _ _ _ (by omega), if_neg (by omega)]), hz] at h1
        split at f2 <;> omega
      · exfalso
        have h3 := p3 x (by omega) (by omega)
        rcases hx with hx | hx
        · rw [h3] at hx; cases hx
        · omega
theorem RetRun.stop {l : List S37} {paid : List Int} (F : Paid l paid) {n : Int} {z : Nat} {out : List Int} {left : Int} (A : RetRun l paid n z out left) (hz : z ≤ l.length) (hb : bdB l z = true ∨ z = 0) (hl : ¬ 0 < left) : RetRun l paid n 0 out left := by
  have hlo := A.lo
  have hmo := drop_mono paid F.money.ok
  have hcz := A.cum z hb (Nat.le_refl _) hz
  have hlen := A.len
  refine ⟨A.len, ?_, A.each, fun j hj => A.zero j (by omega), fun q hq _ hql => ?_⟩
  · have := hmo 0 z (by omega)
    omega
  · by_cases hqz : z ≤ q
    · exact A.cum q hq hqz hql
    · have h1 := isum_drop out q
      have h2 := isum_drop out z
      rw [zeros_take out q (fun j hj => A.zero j (by omega)) (by omega)] at h1
      rw [zeros_take out z (fun j hj => A.zero j (by omega)) (by omega)] at h2
      have := hmo q z (by omega)
      omega
theorem ret_run {l : List S37} {paid : List Int} (F : Paid l paid) (n : Int) : ∀ (q : Nat) (out : List Int) (left : Int), q ≤ l.length → bdB l q = true ∨ q = 0 → RetRun l paid n q out left → RetRun l paid n 0 (retS paid (bnds l 0) (psC l q).2 out left).1 (retS paid (bnds l 0) (psC l q).2 out left).2 := by
  intro q
  induction q using Nat.strongRecOn with
  | ind q ih =>
    intro out left hq hb A
    cases q with
    | zero => exact A
    | succ q =>
      have hb1 : bdB l (q + 1) = true := by rcases hb with hb | hb; exact hb; omega
      by_cases hl : 0 < left
      · obtain ⟨p1, p2, _⟩ := ps_facts l q
        have e1 := bnds_at l (q + 1) hq
        have e0 := bnds_at l q (by omega)
        have A2 := A.step F (by omega) hb1 hl
        rw [psC, if_pos hb1] at e1 ⊢
        simp only at e1 ⊢
        rw [show (((psC l q).2 + 1 : Nat) : Int) = ((psC l q).2 : Int) + 1 by omega] at e1
        simp only [retS]
        rw [if_pos hl, e1, e0, Int.toNat_natCast, Int.toNat_natCast]
        have hstep := ih (psC l q).1 (by omega) _ _ (by omega) p2 A2
        rwa [ps_idem] at hstep
      · rw [retS_stop _ _ _ _ hl]
        exact A.stop F hq hb hl
theorem return_run (n : Int) (l : List S37) (paid : List Int) (hn : okMoney n = true) (hr : right47 l paid = 0) : (retAns n l paid).2.2 = 0 ∧ RetRun l paid n 0 (retAns n l paid).1 (retAns n l paid).2.1 := by
  have F := right_paid l paid hr
  have hc : chk47 l = 0 := by
    by_cases hc : chk47 l = 0
    · exact hc
    · unfold right47 at hr; rw [if_neg hc] at hr; exact absurd hr hc
  unfold retAns
  rw [if_pos hc, if_pos ⟨hn, hr⟩]
  refine ⟨rfl, ret_run F n l.length _ n (by omega) (.inl (by unfold bdB; rw [decide_eq_true rfl]; rfl)) ?_⟩
  have hn2 := (okMoney_iff n).1 hn
  have hz : ∀ j, (List.replicate l.length (0 : Int)).getD j 0 = 0 := by
    intro j
    rw [List.getD_eq_getElem?_getD, List.getElem?_replicate]; split <;> rfl
  have he : ∀ m : List Int, m.length = l.length → isum (m.drop l.length) = 0 := fun m hm => by rw [List.drop_eq_nil_of_le (by omega)]; rfl
  refine ⟨List.length_replicate, ?_, fun j hj => by rw [hz j]; exact ⟨Int.le_refl _, (F.each j hj).1⟩, fun j _ => hz j, fun q _ h1 h2 => ?_⟩
  · rw [he paid F.plen]; omega
  · obtain rfl : q = l.length := by omega
    rw [he paid F.plen, he _ List.length_replicate]; omega
/-! ### lists and sums -/
theorem sum_lt_of (a b : List Int) (hl : a.length = b.length) (h : ∀ j, j < a.length → a.getD j 0 ≤ b.getD j 0) (i : Nat) (hi : i < a.length) (hlt : a.getD i 0 < b.getD i 0) : isum a < isum b := by
  rw [isum_sumTo, isum_sumTo, ← hl]
  have h1 := sumTo_ge (fun j => b.getD j 0 - a.getD j 0) a.length i hi (fun j hj => by have := h j hj; omega)
  rw [sumTo_sub] at h1
  have h2 : 0 < b.getD i 0 - a.getD i 0 := by omega
  have h3 : b.getD i 0 - a.getD i 0 ≤ sumTo (fun j => b.getD j 0) a.length - sumTo (fun j => a.getD j 0) a.length := h1
  omega
theorem eq_of_sum (a b : List Int) (hl : a.length = b.length) (h : ∀ j, j < a.length → a.getD j 0 ≤ b.getD j 0) (hs : isum a = isum b) : a = b := by
  refine list_ext a b hl fun j hj => ?_
  by_cases hlt : a.getD j 0 < b.getD j 0
  · have := sum_lt_of a b hl h j hj hlt; omega
  · have := h j hj; omega
theorem bad_false (l : List S37) (paid : List Int) (h : ∀ j, j < l.length → 0 ≤ paid.getD j 0 ∧ paid.getD j 0 ≤ (l.getD j z37).f3) : ∀ d i, i + d ≤ l.length → badFrom l paid d i = false
  | 0, _, _ => rfl
  | d + 1, i, hd => by
    have := h i (by omega)
    rw [badFrom, bad_false l paid h d (i + 1) (by omega), decide_eq_false (by omega), decide_eq_false (by omega)]; rfl
theorem right_of (l : List S37) (paid : List Int) (hc : chk47 l = 0) (hp : paid.length = l.length) (h : ∀ j, j < l.length → 0 ≤ paid.getD j 0 ∧ paid.getD j 0 ≤ (l.getD j z37).f3) : right47 l paid = 0 := by
  unfold right47
  rw [if_pos hc, if_pos hp, bad_false l paid h l.length 0 (by omega)]; rfl
theorem abs_chk (loss : Int) (l : List S37) (h : (absAns loss l).2.2 = 0) : chk47 l = 0 := by
  unfold absAns at h
  by_cases hc : chk47 l = 0
  · exact hc
  · rw [if_neg hc] at h; exact absurd h hc
theorem bd_between {l : List S37} (R : Rows l) (k i : Nat) (hk : k < i) (hi : i < l.length) (h : sameT (l.getD k z37) (l.getD i z37) = false) : ∃ q, k < q ∧ q ≤ i ∧ startB l q = true := by
  obtain ⟨n1, n2, n3, n4, _⟩ := nb_facts l (k + 1) (by omega)
  by_cases hq : nb l (k + 1) ≤ i
  · exact ⟨nb l (k + 1), by omega, hq, n4 (by omega)⟩
  · exfalso
    have hkey : ∀ j, k ≤ j → j ≤ i → keyT (l.getD j z37) = keyT (l.getD k z37) := by
      intro j h1 h2
      induction j with
      | zero => obtain rfl : k = 0 := by omega
                rfl
      | succ j ih =>
        by_cases hjk : k = j + 1
        · subst hjk; rfl
        · have ih := ih (by omega) (by omega)
          have h3 := n3 (j + 1) (by omega) (by omega)
          have h4 := (start_key R (j + 1) (by omega) (by omega))
          have h5 := R.mono j (j + 1) (by omega) (by omega)
          rw [h3] at h4
          have h6 : ¬ keyT (l.getD (j + 1 - 1) z37) < keyT (l.getD (j + 1) z37) := fun h => by cases h4.2 h
          rw [show j + 1 - 1 = j by omega] at h6
          omega
    have := (same_key _ _ (R.row k (by omega)) (R.row i hi)).2 (hkey i (by omega) (Nat.le_refl _)).symm
    rw [h] at this; cases this
theorem part_sum_le (m : List Int) (hm : ∀ a ∈ m, 0 ≤ a) (k q : Nat) (hk : k < q) (hq : q ≤ m.length) : m.getD k 0 ≤ isum (m.take q) := by
  have h1 := mem_le_isum (m.take q) (fun x hx => hm x (List.mem_of_mem_take hx)) _ (mem_getD (m.take q) k (by rw [List.length_take]; omega))
  rwa [getD_take _ _ _ hk] at h1
theorem back_turn {l : List S37} {paid : List Int} (F : Paid l paid) {n : Int} {back : List Int} {left : Int} (A : RetRun l paid n 0 back left) (k i : Nat) (hk : k < i) (hi : i < l.length) (h1 : back.getD i 0 < paid.getD i 0) (h2 : 0 < back.getD k 0) : sameT (l.getD k z37) (l.getD i z37) = true := by
  cases hs : sameT (l.getD k z37) (l.getD i z37) with
  | true => rfl
  | false =>
    exfalso
    obtain ⟨q, q1, q2, q3⟩ := bd_between F.toRows k i hk hi hs
    have hlen := A.len
    have hpl := F.plen
    have c1 := A.cum q (.inl (by unfold bdB; rw [q3, Bool.or_true])) (by omega) (by omega)
    have c0 := A.cum 0 (.inr rfl) (by omega) (by omega)
    have hnn : ∀ a ∈ back, 0 ≤ a := fun a ha => by
      obtain ⟨j, hj, rfl⟩ := getD_mem _ a ha
      exact (A.each j (by omega)).1
    have hlt := sum_lt_of (back.drop q) (paid.drop q) (by rw [List.length_drop, List.length_drop]; omega) (fun j hj => by
      rw [List.length_drop] at hj
      rw [getD_drop, getD_drop]; exact (A.each _ (by omega)).2) (i - q) (by rw [List.length_drop]; omega) (by rw [getD_drop, getD_drop, show q + (i - q) = i by omega]; exact h1)
    have hps := part_sum_le back hnn k q q1 (by omega)
    have hd := isum_drop back q
    rw [List.drop_zero, List.drop_zero] at c0
    omega
theorem WaterfallBack : ∀ (a0 : Int) (a1 : Int) (l2 : List (S37)), (Lit.int .i64 a0).wf = true → (Lit.int .i64 a1).wf = true → l2.length ≤ maxLen → (∀ x0 ∈ l2, (Lit.int .i64 x0.f0).wf = true ∧ (Lit.int .i64 x0.f1).wf = true ∧ x0.f2.size ≤ maxLen ∧ (Lit.int .i64 x0.f3).wf = true) → ∃ k, cl47_WaterfallBack.f k a0 a1 l2 = some true := by
  intro loss n l _ _ _ _
  refine Ev.rounds ?_
  unfold cl47_WaterfallBack.f
  by_cases hf : (l.length : Int) > 100
  · exact ev_pos hf goes47t
  refine ev_neg hf (ev_bnd (absorb_ev loss l) ?_)
  have hend : Ev (fun k => cl47_WaterfallBack.j0 k loss n l (absAns loss l).1 (absAns loss l).2.1 true) true := by
    refine Ev.step (fun _ => by rw [cl47_WaterfallBack.j0]) ?_
    exact ev_pos rfl goes47t
  by_cases he : (absAns loss l).2.2 = 0
  · refine ev_pos he ?_
    by_cases hn0 : n < 0
    · exact ev_pos hn0 hend
    · refine ev_neg hn0 ?_
      by_cases hn1 : n > 1152921504606846976
      · rw [decide_eq_true hn1]; exact hend
      · rw [decide_eq_false hn1]
        clear hend
        obtain ⟨R, hm, A⟩ := absorb_run loss l he
        have hm2 := (okMoney_iff loss).1 hm
        have hr := right_of l _ (abs_chk loss l he) A.len A.each
        have F := right_paid l _ hr
        have htop := F.money.top
        have hnn := isum_nn _ F.money.ok
        have hlo := A.lo
        have hlen := A.len
        have hcl := A.cum l.length (.inl (by unfold bdB; rw [decide_eq_true rfl]; rfl)) (Nat.le_refl _)
        rw [List.take_of_length_le (by omega)] at hcl
        generalize hP : (absAns loss l).1 = paid at *
        generalize hR : (absAns loss l).2.1 = rest at *
        have hsub : loss - rest = isum paid := by omega
        have hw : wrap64 (loss - rest) = isum paid := by rw [hsub, w64id _ (by omega) (by omega)]
        refine Ev.step (fun _ => by rw [cl47_WaterfallBack.j0]) ?_
        refine ev_neg (by decide) ?_
        rw [hw]
        obtain ⟨r1, W⟩ := return_run (isum paid) l paid ((okMoney_iff _).2 ⟨hnn, htop⟩) hr
        have hwl := W.lo
        have hwc := W.cum 0 (.inr rfl) (by omega) (by omega)
        rw [List.drop_zero] at hwl hwc
        rw [List.drop_zero] at hwc
        have hwe : (retAns (isum paid) l paid).1 = paid := eq_of_sum _ _ (by rw [W.len, hlen]) (fun j hj => (W.each j (by rw [← W.len]; exact hj)).2) (by omega)
        refine ev_bnd (return_ev (isum paid) l paid) (ev_pos r1 (ev_pos (by omega) ?_))
        rw [hwe]
        refine ev_bnd (same_refl paid (by omega)) ?_
        refine Ev.step (fun _ => by rw [cl47_WaterfallBack.j1]) ?_
        refine ev_neg (by decide) ?_
        obtain ⟨s1, B⟩ := return_run n l paid ((okMoney_iff _).2 ⟨by omega, by omega⟩) hr
        have hbl := B.lo
        have hbc := B.cum 0 (.inr rfl) (by omega) (by omega)
        have hbe := B.each
        have hblen := B.len
        have hturn := fun k i h1 h2 h3 h4 => back_turn F B k i h1 h2 h3 h4
        rw [List.drop_zero] at hbl hbc
        rw [List.drop_zero] at hbc
        refine ev_bnd (return_ev n l paid) (ev_pos s1 (ev_pos (by omega) (ev_pos (by omega) ?_)))
        generalize (retAns n l paid).1 = back at *
        generalize (retAns n l paid).2.1 = left at *
        rw [show mn n (wrap64 (loss - rest)) = min n (isum paid) by rw [hw]; unfold mn; split <;> omega]
        rw [w64id (n - min n (isum paid)) (by omega) (by omega)]
        refine ev_pos hbl ?_
        have hbnn : ∀ a ∈ back, 0 ≤ a := fun a ha => by
          obtain ⟨j, hj, rfl⟩ := getD_mem _ a ha
          exact (hbe j (by omega)).1
        refine ev_bnd ⟨back.length + 1, fun k hk => sum_val back hbnn (by omega) (by omega) k (by omega)⟩ ?_
        rw [w64id (n - left) (by omega) (by omega), show (isum back != n - left) = false by rw [bne_eq_false_iff_eq]; omega]
        refine Ev.step (fun _ => by rw [cl47_WaterfallBack.j2]) ?_
        refine ev_neg (by decide) ?_
        refine ev_down (S := Unit) (n := l.length) (g := fun k i _ => cl47_WaterfallBack.l0 k l paid back (i : Int)) (spec := fun i _ => true) (inv := fun _ _ => True) ?_ ?_ 0 () (by omega) trivial
        · intro _ _
          refine Ev.step (fun _ => by rw [cl47_WaterfallBack.l0]) ?_
          exact ev_neg (by omega) goes47t
        · intro i _ hi _ ih
          have ih := ih () trivial
          have hbi := hbe i hi
          refine Ev.step (fun _ => by rw [cl47_WaterfallBack.l0]) ?_
          rw [rd_nat, rd_nat]
          refine ev_pos (by omega) (ev_pos (by omega) (ev_pos (by omega) (ev_neg (by omega) (ev_pos (by omega) ?_))))
          rw [decide_eq_false (by omega)]
          refine Ev.step (fun _ => by rw [cl47_WaterfallBack.j4]) ?_
          refine ev_neg (by decide) ?_
          refine ev_down (S := Unit) (n := i) (g := fun k x _ => cl47_WaterfallBack.l1 k l paid back (i : Int) (x : Int)) (spec := fun _ _ => true) (inv := fun _ _ => True) ?_ ?_ 0 () (by omega) trivial
          · intro _ _
            refine Ev.step (fun _ => by rw [cl47_WaterfallBack.l1]) ?_
            rw [wsucc i (by omega)]
            exact ev_neg (by omega) ih
          · intro x _ hx _ ih2
            have ih2 := ih2 () trivial
            refine Ev.step (fun _ => by rw [cl47_WaterfallBack.l1]) ?_
            rw [rd_nat, rd_nat, rd_nat, wsucc x (by omega), rdR, rdR]
            refine ev_pos (by omega) (ev_pos (by omega) (ev_pos (by omega) (ev_pos (by omega) ?_)))
            by_cases c1 : back.getD i 0 < paid.getD i 0
            · refine ev_pos c1 (ev_pos (by omega) (ev_pos (by omega) ?_))
              by_cases c2 : back.getD x 0 > 0
              · refine ev_pos c2 (ev_pos (by omega) (ev_pos (by omega) ?_))
                exact ev_val (turn_eq _ _) (ev_pos (hturn x i hx hi c1 c2) ih2)
              · exact ev_neg c2 ih2
            · exact ev_neg c1 ih2
  · exact ev_neg he hend
end Go.Proofs.Ytfogpifjpnonnaa.Pure
