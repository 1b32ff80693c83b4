/- The pure statement of the law WaterfallTurns, proved: plain Lean over numbers and lists, no program in sight. -/
import Derived.Test.YtfogpifjpnonnaaPWaterfallTurnsx
namespace Go.Proofs.Ytfogpifjpnonnaa.Pure
open Go.RowKit Go.Proofs.Ytfogpifjpnonnaa.PWaterfallTurns Go.Proofs.YtfogpifjpnonnaaW.PrintWords Go.Proofs.YtfogpifjpnonnaaW.PrintLast Go.Proofs.YtfogpifjpnonnaaW.PrintMore
set_option linter.unusedVariables false
set_option linter.unusedSimpArgs false
/-! ### from some number of rounds on: steps -/
theorem ev_pos {α : Type} {c : Prop} [Decidable c] {a b : Nat → Option α} {r : α} (h : c) (k : Ev a r) : Ev (fun n => if c then a n else b n) r := Ev.congr (fun _ => if_pos h) k
theorem ev_neg {α : Type} {c : Prop} [Decidable c] {a b : Nat → Option α} {r : α} (h : ¬ c) (k : Ev b r) : Ev (fun n => if c then a n else b n) r := Ev.congr (fun _ => if_neg h) k
theorem ev_val {α β : Type} {g : Option α} {f : Nat → α → Option β} {a : α} {r : β} (h : g = some a) (k : Ev (fun n => f n a) r) : Ev (fun n => g.bind (f n)) r := by
  subst h; exact k
theorem ev_some {α : Type} {x r : α} (h : x = r) : Ev (fun _ => some x) r := h ▸ Ev.now x
theorem ev_rw {α : Type} {g : Nat → Option α} {r s : α} (h : r = s) (k : Ev g r) : Ev g s := h ▸ k
theorem wsucc (i : Nat) (h : i ≤ 4611686018427387904) : wrap64 ((i : Int) + 1) = ((i + 1 : Nat) : Int) := by
  unfold wrap64; omega
theorem rd_nat (l : List Int) (i : Nat) : rd l (i : Int) = l.getD i 0 := rfl
/-! ### lists given by a function of the place -/
def tab (n : Nat) (f : Nat → Int) : List Int := (List.range n).map f
theorem tab_len (n : Nat) (f : Nat → Int) : (tab n f).length = n := by simp [tab]
theorem tab_getD (n : Nat) (f : Nat → Int) (i : Nat) (h : i < n) : (tab n f).getD i 0 = f i := by
  simp [tab, List.getD_eq_getElem?_getD, h]
theorem list_ext (l m : List Int) (h : l.length = m.length) (he : ∀ i, i < l.length → l.getD i 0 = m.getD i 0) : l = m := by
  apply List.ext_getElem h
  intro i h1 h2
  have := he i h1
  rwa [List.getD_eq_getElem?_getD, List.getD_eq_getElem?_getD, List.getElem?_eq_getElem h1, List.getElem?_eq_getElem h2] at this
theorem tab_congr (n : Nat) (f g : Nat → Int) (h : ∀ j, j < n → f j = g j) : tab n f = tab n g := by
  unfold tab; exact List.map_congr_left (fun a ha => h a (List.mem_range.1 ha))
theorem tab_set (n : Nat) (f : Nat → Int) (i : Nat) (v : Int) : (tab n f).set i v = tab n (fun j => if j = i then v else f j) := by
  apply list_ext
  · simp [tab]
  · intro j hj
    have hj' : j < n := by simpa [tab] using hj
    rw [tab_getD n _ j hj', List.getD_eq_getElem?_getD, List.getElem?_set, tab_len]
    by_cases h : i = j
    · subst h; simp [hj']
    · rw [if_neg h, if_neg (fun e => h e.symm)]
      have := tab_getD n f j hj'
      rwa [List.getD_eq_getElem?_getD] at this
theorem tab_of (l : List Int) : l = tab l.length (fun j => l.getD j 0) := by
  apply list_ext
  · rw [tab_len]
  · intro i hi; rw [tab_getD _ _ _ hi]
theorem tab_zero (n : Nat) : List.replicate n (0 : Int) = tab n (fun _ => 0) := by
  apply list_ext
  · simp [tab]
  · intro i hi
    have hi' : i < n := by simpa using hi
    rw [tab_getD n _ i hi', List.getD_eq_getElem?_getD, List.getElem?_replicate, if_pos hi']; rfl
theorem tab_succ (n : Nat) (f : Nat → Int) : tab (n + 1) f = tab n f ++ [f n] := by simp [tab, List.range_succ]
def sumTo (f : Nat → Int) : Nat → Int
  | 0 => 0
  | n + 1 => sumTo f n + f n
theorem isum_tab (n : Nat) (f : Nat → Int) : isum (tab n f) = sumTo f n := by
  induction n with
  | zero => rfl
  | succ n ih => rw [tab_succ, isum_append, ih]; simp [isum, sumTo]
theorem isum_sumTo (l : List Int) : isum l = sumTo (fun j => l.getD j 0) l.length := by
  conv => lhs; rw [tab_of l]
  exact isum_tab _ _
theorem sumTo_congr (f g : Nat → Int) (n : Nat) (h : ∀ j, j < n → f j = g j) : sumTo f n = sumTo g n := by
  induction n with
  | zero => rfl
  | succ n ih => simp only [sumTo]; rw [ih (fun j hj => h j (by omega)), h n (by omega)]
theorem sumTo_le (f g : Nat → Int) (n : Nat) (h : ∀ j, j < n → f j ≤ g j) : sumTo f n ≤ sumTo g n := by
  induction n with
  | zero => exact Int.le_refl _
  | succ n ih => simp only [sumTo]; have := ih (fun j hj => h j (by omega)); have := h n (by omega); omega
theorem sumTo_nonneg (f : Nat → Int) (n : Nat) (h : ∀ j, j < n → 0 ≤ f j) : 0 ≤ sumTo f n := by
  induction n with
  | zero => exact Int.le_refl _
  | succ n ih => simp only [sumTo]; have := ih (fun j hj => h j (by omega)); have := h n (by omega); omega
theorem sumTo_mono (f : Nat → Int) (i n : Nat) (hi : i ≤ n) (h : ∀ j, j < n → 0 ≤ f j) : sumTo f i ≤ sumTo f n := by
  induction n with
  | zero => have : i = 0 := by omega
            subst this; exact Int.le_refl _
  | succ n ih =>
    by_cases e : i = n + 1
    · subst e; exact Int.le_refl _
    · simp only [sumTo]; have := ih (by omega) (fun j hj => h j (by omega)); have := h n (by omega); omega
theorem sumTo_ge (f : Nat → Int) (n j : Nat) (hj : j < n) (h : ∀ i, i < n → 0 ≤ f i) : f j ≤ sumTo f n := by
  have h1 := sumTo_mono f (j + 1) n (by omega) h
  have h2 := sumTo_nonneg f j (fun i hi => h i (by omega))
  simp only [sumTo] at h1; omega
theorem sumTo_sub (f g : Nat → Int) (n : Nat) : sumTo (fun j => f j - g j) n = sumTo f n - sumTo g n := by
  induction n with
  | zero => rfl
  | succ n ih => simp only [sumTo]; rw [ih]; omega
theorem getD_mem (l : List Int) (x : Int) (h : x ∈ l) : ∃ j, j < l.length ∧ l.getD j 0 = x := by
  obtain ⟨j, hj, e⟩ := List.getElem_of_mem h
  exact ⟨j, hj, by rw [List.getD_eq_getElem?_getD, List.getElem?_eq_getElem hj]; exact e⟩
theorem mem_getD (l : List Int) (j : Nat) (h : j < l.length) : l.getD j 0 ∈ l := by
  rw [List.getD_eq_getElem?_getD, List.getElem?_eq_getElem h]; exact List.getElem_mem h
theorem drop_getD (l : List Int) (i : Nat) (h : i < l.length) : l.drop i = l.getD i 0 :: l.drop (i + 1) := by
  rw [List.drop_eq_getElem_cons h, List.getD_eq_getElem?_getD, List.getElem?_eq_getElem h]; rfl
/-! ### contangoref02's functions, in closed form -/
/-! ### the greedy hand-out: plain lists -/
theorem g_getD_set (l : List Int) (m : Nat) (x : Int) (i : Nat) (hm : m < l.length) : (l.set m x).getD i 0 = if i = m then x else l.getD i 0 := by
  rw [List.getD_eq_getElem?_getD, List.getD_eq_getElem?_getD, List.getElem?_set]
  by_cases h : m = i
  · rw [if_pos h, if_pos h.symm, if_pos hm]; rfl
  · rw [if_neg h, if_neg (fun e => h e.symm)]
theorem g_isum_set (l : List Int) : ∀ (m : Nat) (x : Int), m < l.length → isum (l.set m x) = isum l - l.getD m 0 + x := by
  induction l with
  | nil => intro m x h; simp at h
  | cons a l ih =>
    intro m x h
    cases m with
    | zero => simp [isum]; omega
    | succ m =>
      have := ih m x (by simpa using h)
      simp only [List.set_cons_succ, isum, List.getD_cons_succ, this]; omega
theorem g_best_take (l : List Int) (hl : 0 < l.length) : ∀ k, k ≤ l.length → (bestGo l (l.take k) 0 0 < l.length) ∧ (bestGo l (l.take k) 0 0 ≤ k - 1) ∧ (∀ j, j < k → l.getD j 0 ≤ l.getD (bestGo l (l.take k) 0 0) 0) ∧ (∀ j, j < bestGo l (l.take k) 0 0 → l.getD j 0 < l.getD (bestGo l (l.take k) 0 0) 0) := by
  intro k
  induction k with
  | zero => intro _; exact ⟨by simpa [bestGo] using hl, by simp [bestGo], by omega, by simp [bestGo]⟩
  | succ k ih =>
    intro hk
    obtain ⟨h1, h2, h3, h4⟩ := ih (by omega)
    have hs : bestGo l (l.take (k + 1)) 0 0 = if l.getD (bestGo l (l.take k) 0 0) 0 < l.getD k 0 then k else bestGo l (l.take k) 0 0 := by
      have e : l.take (k + 1) = l.take k ++ [l.getD k 0] := by
        rw [List.take_succ_eq_append_getElem (by omega), List.getD_eq_getElem?_getD, List.getElem?_eq_getElem (by omega)]; rfl
      rw [e, bestGo_snoc, List.length_take, Nat.min_eq_left (by omega), Nat.zero_add]
    rw [hs]
    generalize bestGo l (l.take k) 0 0 = b at *
    by_cases hc : l.getD b 0 < l.getD k 0
    · rw [if_pos hc]
      refine ⟨by omega, by omega, ?_, ?_⟩
      · intro j hj
        by_cases hjk : j = k
        · rw [hjk]; exact Int.le_refl _
        · have := h3 j (by omega); omega
      · intro j hj
        have := h3 j hj; omega
    · rw [if_neg hc]
      refine ⟨h1, ?_, ?_, h4⟩
      · omega
      · intro j hj
        by_cases hjk : j = k
        · rw [hjk]; omega
        · exact h3 j (by omega)
theorem g_best (l : List Int) (hl : 0 < l.length) : best l < l.length ∧ (∀ j, j < l.length → l.getD j 0 ≤ l.getD (best l) 0) ∧ (∀ j, j < best l → l.getD j 0 < l.getD (best l) 0) := by
  have := g_best_take l hl l.length (Nat.le_refl _)
  rw [List.take_length] at this
  exact ⟨this.1, this.2.2.1, this.2.2.2⟩
structure GInv (q r : List Int) (A : Int) (n : Nat) (p : List Int × List Int) : Prop where
  l1 : p.1.length = q.length
  l2 : p.2.length = q.length
  each : ∀ i, i < q.length → (p.2.getD i 0 = r.getD i 0 ∧ p.1.getD i 0 = q.getD i 0) ∨ (p.2.getD i 0 = -1 ∧ p.1.getD i 0 = q.getD i 0 + 1 ∧ 0 < r.getD i 0)
  ahead : ∀ i j, i < q.length → j < q.length → p.2.getD i 0 = -1 → p.2.getD j 0 ≠ -1 → r.getD j 0 < r.getD i 0 ∨ (r.getD j 0 = r.getD i 0 ∧ i < j)
  sum1 : isum p.1 = isum q + n
  sum2 : isum r - n * A ≤ isum p.2
theorem g_isum_nonpos (l : List Int) (h : ∀ i, i < l.length → l.getD i 0 ≤ 0) : isum l ≤ 0 := by
  induction l with
  | nil => simp [isum]
  | cons a l ih =>
    have h0 := h 0 (by simp)
    have := ih (fun i hi => by simpa using h (i + 1) (by simpa using hi))
    simp only [List.getD_cons_zero] at h0
    simp only [isum]; omega
theorem g_step (q r : List Int) (A : Int) (n : Nat) (p : List Int × List Int) (hp : GInv q r A n p) (hr0 : ∀ i, i < q.length → 0 ≤ r.getD i 0 ∧ r.getD i 0 < A) (hn : 0 < isum r - n * A) : GInv q r A (n + 1) (giveOne p) := by
  obtain ⟨l1, l2, each, ahead, s1, s2⟩ := hp
  have hpos : 0 < p.2.length := by
    rcases Nat.eq_zero_or_pos p.2.length with h | h
    · have : p.2 = [] := List.length_eq_zero_iff.1 h
      rw [this] at s2; simp only [isum] at s2; omega
    · exact h
  obtain ⟨hb, hmax, hfirst⟩ := g_best p.2 hpos
  have hbig : 0 < p.2.getD (best p.2) 0 := by
    apply Classical.byContradiction
    intro hc
    have := g_isum_nonpos p.2 (fun i hi => by have := hmax i hi; omega)
    omega
  have heach := each (best p.2) (by omega)
  have hbe : p.2.getD (best p.2) 0 = r.getD (best p.2) 0 ∧ p.1.getD (best p.2) 0 = q.getD (best p.2) 0 := by
    rcases heach with h | h
    · exact h
    · omega
  have hrb := hr0 (best p.2) (by omega)
  unfold giveOne
  generalize best p.2 = b at *
  have e1 : ∀ i, (p.1.set b (p.1.getD b 0 + 1)).getD i 0 = if i = b then p.1.getD b 0 + 1 else p.1.getD i 0 := fun i => g_getD_set _ _ _ i (by omega)
  have e2 : ∀ i, (p.2.set b (-1)).getD i 0 = if i = b then -1 else p.2.getD i 0 := fun i => g_getD_set _ _ _ i (by omega)
  refine ⟨by simpa using l1, by simpa using l2, ?_, ?_, ?_, ?_⟩
  · intro i hi
    rw [e1, e2]
    by_cases h : i = b
    · rw [if_pos h, if_pos h, h]; right; exact ⟨rfl, by omega, by omega⟩
    · rw [if_neg h, if_neg h]; exact each i hi
  · intro i j hi hj
    rw [e2, e2]
    intro h1 h2
    by_cases hj' : j = b
    · rw [if_pos hj'] at h2; exact absurd rfl h2
    · rw [if_neg hj'] at h2
      by_cases hi' : i = b
      · rw [hi']
        have hrj : p.2.getD j 0 = r.getD j 0 := by
          rcases each j hj with h | h
          · exact h.1
          · exact absurd h.1 h2
        have := hmax j (by omega)
        by_cases hlt : r.getD j 0 < r.getD b 0
        · exact .inl hlt
        · right
          refine ⟨by omega, ?_⟩
          apply Classical.byContradiction
          intro hc
          have := hfirst j (by omega)
          omega
      · rw [if_neg hi'] at h1
        exact ahead i j hi hj h1 h2
  · show isum (p.1.set b (p.1.getD b 0 + 1)) = isum q + ((n + 1 : Nat) : Int)
    rw [g_isum_set _ _ _ (by omega)]; omega
  · show isum r - ((n + 1 : Nat) : Int) * A ≤ isum (p.2.set b (-1))
    have e : ((n + 1 : Nat) : Int) * A = n * A + A := by rw [Int.natCast_add, Int.add_mul]; simp
    rw [g_isum_set _ _ _ (by omega), e]; omega
theorem g_many (q r : List Int) (A : Int) (hA : 0 < A) (hr : r.length = q.length) (hr0 : ∀ i, i < q.length → 0 ≤ r.getD i 0 ∧ r.getD i 0 < A) : ∀ n : Nat, n * A ≤ isum r → GInv q r A n (giveMany n (q, r)) := by
  intro n
  induction n with
  | zero =>
    intro _
    refine ⟨rfl, hr, fun i hi => .inl ⟨rfl, rfl⟩, ?_, by simp [giveMany], by simp [giveMany]⟩
    intro i j hi hj h1 h2
    have := hr0 i hi
    simp only [giveMany] at h1
    omega
  | succ n ih =>
    intro hn
    have e : ((n + 1 : Nat) : Int) * A = n * A + A := by rw [Int.natCast_add, Int.add_mul]; simp
    rw [giveMany_snoc]
    exact g_step q r A n _ (ih (by omega)) hr0 (by omega)
theorem g_isum_split (T A : Int) (l : List Int) : A * isum (quos T A l) + isum (remsOf T A l) = T * isum l := by
  induction l with
  | nil => simp [quos, remsOf, isum]
  | cons a l ih =>
    have := Int.mul_ediv_add_emod (T * a) A
    simp only [quos, remsOf, List.map_cons, isum] at *
    rw [Int.mul_add, Int.mul_add]; omega
theorem g_quos_getD (T A : Int) (l : List Int) (i : Nat) (h : i < l.length) : (quos T A l).getD i 0 = T * l.getD i 0 / A := by
  unfold quos
  rw [List.getD_eq_getElem?_getD, List.getD_eq_getElem?_getD, List.getElem?_map, List.getElem?_eq_getElem h]; rfl
theorem g_rems_getD (T A : Int) (l : List Int) (i : Nat) (h : i < l.length) : (remsOf T A l).getD i 0 = T * l.getD i 0 % A := by
  unfold remsOf
  rw [List.getD_eq_getElem?_getD, List.getD_eq_getElem?_getD, List.getElem?_map, List.getElem?_eq_getElem h]; rfl
/-- What the split is: each its floor or one more; who got one more has a greater rest than who didn't, or as great a one and stands ahead; all together are the total. -/
theorem split_is (T : Int) (l : List Int) (hT : 0 ≤ T) (hA : 0 < isum l) (h : ∀ a ∈ l, 0 ≤ a) :
    (splitParts T (isum l) l).length = l.length ∧ isum (splitParts T (isum l) l) = T ∧
    ∃ up : Nat → Bool, (∀ i, i < l.length → (splitParts T (isum l) l).getD i 0 = T * l.getD i 0 / isum l + (if up i = true then 1 else 0) ∧ (up i = true → 0 < T * l.getD i 0 % isum l)) ∧
      (∀ i j, i < l.length → j < l.length → up i = true → up j = false → T * l.getD j 0 % isum l < T * l.getD i 0 % isum l ∨ (T * l.getD j 0 % isum l = T * l.getD i 0 % isum l ∧ i < j)) := by
  have hq := isum_quos T (isum l) hT hA l h
  have hs := g_isum_split T (isum l) l
  have hleft : 0 ≤ T - isum (quos T (isum l) l) := by
    have := left_range T l hT hA h l.length
    rw [List.take_length] at this
    exact this.1
  have hlq : (quos T (isum l) l).length = l.length := by simp [quos]
  have hlr : (remsOf T (isum l) l).length = l.length := by simp [remsOf]
  have hm := g_many (quos T (isum l) l) (remsOf T (isum l) l) (isum l) hA (by omega) (by
    intro i hi
    rw [g_rems_getD _ _ _ _ (by omega)]
    exact ⟨Int.emod_nonneg _ (by omega), Int.emod_lt_of_pos _ hA⟩) (T - isum (quos T (isum l) l)).toNat (by
    rw [Int.toNat_of_nonneg hleft, Int.sub_mul]
    rw [Int.mul_comm (isum (quos T (isum l) l))]
    omega)
  obtain ⟨l1, l2, each, ahead, s1, s2⟩ := hm
  unfold splitParts
  generalize giveMany (T - isum (quos T (isum l) l)).toNat (quos T (isum l) l, remsOf T (isum l) l) = p at *
  refine ⟨by omega, by omega, fun i => p.2.getD i 0 == -1, ?_, ?_⟩
  · intro i hi
    have hri : 0 ≤ T * l.getD i 0 % isum l := Int.emod_nonneg _ (by omega)
    have := each i (by omega)
    rw [g_quos_getD _ _ _ _ hi, g_rems_getD _ _ _ _ hi] at this
    rcases this with ⟨h1, h2⟩ | ⟨h1, h2, h3⟩
    · have hne : ¬ (p.2.getD i 0 = -1) := by omega
      simp only [beq_iff_eq, hne, if_false]
      exact ⟨by omega, fun h => h.elim⟩
    · simp only [beq_iff_eq, h1, if_true]
      exact ⟨by omega, fun _ => h3⟩
  · intro i j hi hj h1 h2
    have := ahead i j (by omega) (by omega) (by simpa using h1) (by simpa using h2)
    rwa [g_rems_getD _ _ _ _ hi, g_rems_getD _ _ _ _ hj] at this
def splitSpec (a0 : Int) (l1 : List Int) : List Int × Int := if okMoney a0 = true then (if l1.length > 1024 then ([], 8) else if weighedOk l1 = true then (if isum l1 = 0 then ([], 26) else (splitParts a0 (isum l1) l1, 0)) else ([], 26)) else ([], 2)
theorem split_spec (a0 : Int) (l1 : List Int) : share_Split.f a0 l1 = some (splitSpec a0 l1) := rfl
/-! ### a loop, from its end backwards -/
theorem ev_down {ρ S : Type} {n : Nat} {g : Nat → Nat → S → Option ρ} {spec : Nat → S → ρ} {inv : Nat → S → Prop}
    (he : ∀ s, inv n s → Ev (fun k => g k n s) (spec n s))
    (hs : ∀ i s, i < n → inv i s → (∀ s', inv (i + 1) s' → Ev (fun k => g k (i + 1) s') (spec (i + 1) s')) → Ev (fun k => g k i s) (spec i s)) :
    ∀ i s, i ≤ n → inv i s → Ev (fun k => g k i s) (spec i s) := by
  intro i s hi h
  generalize hd : n - i = d
  induction d generalizing i s with
  | zero =>
    obtain rfl : i = n := by omega
    exact he s h
  | succ d ih => exact hs i s (by omega) h (fun s' h' => ih (i + 1) s' (by omega) h' (by omega))
theorem dropD {α : Type} (z : α) (l : List α) (i : Nat) (h : i < l.length) : l.drop i = l.getD i z :: l.drop (i + 1) := by
  rw [List.drop_eq_getElem_cons h, List.getD_eq_getElem?_getD, List.getElem?_eq_getElem h]; rfl
theorem getD_mem' {α : Type} (z : α) (l : List α) (i : Nat) (h : i < l.length) : l.getD i z ∈ l := by
  rw [List.getD_eq_getElem?_getD, List.getElem?_eq_getElem h]; exact List.getElem_mem h
theorem drop_end {α : Type} (l : List α) : l.drop l.length = [] := List.drop_length
theorem ev_bnd {α β : Type} {g : Nat → Option α} {f : Nat → α → Option β} {a : α} {r : β} (h : Ev g a) (k : Ev (fun n => f n a) r) : Ev (fun n => (g n).bind (f n)) r := h.bind k
theorem w64id (x : Int) (h0 : -9223372036854775808 ≤ x) (h1 : x ≤ 9223372036854775807) : wrap64 x = x := by unfold wrap64; omega
theorem ev_end {α : Type} {g : Nat → Option α} {x r : α} (hg : ∀ k, g (k + 1) = some x) (h : x = r) : Ev g r := Ev.step (f := fun _ => some x) hg (ev_some h)
theorem and32 (x : Int) (h₀ : 0 ≤ x) (h₁ : x < 18446744073709551616) : Go.bits .and .u64 x 4294967295 = x % 4294967296 :=
  bits_mask .u64 64 (by decide) wraps_u64 32 (by decide) x h₀ (by omega)
theorem u64w (x : Int) : IntKind.u64.wrap x = x % 18446744073709551616 := IntKind.wrap_u64 x
theorem u64id (x : Int) (h₀ : 0 ≤ x) (h₁ : x < 18446744073709551616) : IntKind.u64.wrap x = x := by rw [u64w]; omega
theorem w64i (n : Int) (h0 : -9223372036854775808 ≤ n) (h1 : n ≤ 9223372036854775807) : wrap64 n = n := by unfold wrap64; omega
theorem mulb (a b m n : Int) (h1 : 0 ≤ a) (h2 : a ≤ m) (h3 : 0 ≤ b) (h4 : b ≤ n) : 0 ≤ a * b ∧ a * b ≤ m * n :=
  ⟨Int.mul_nonneg h1 h3, Int.mul_le_mul h2 h4 h3 (by omega)⟩
theorem mul64_eq (a b : Int) (ha : 0 ≤ a) (ha2 : a < 18446744073709551616) (hb : 0 ≤ b) (hb2 : b < 18446744073709551616) :
    bits_Mul64.f a b = some (a * b / 18446744073709551616, a * b % 18446744073709551616) := by
  obtain ⟨x, y, hx0, hx1, hy0, hy1, rfl, ex, ey⟩ : ∃ x y : Int, 0 ≤ x ∧ x < 4294967296 ∧ 0 ≤ y ∧ y < 4294967296 ∧ a = x * 4294967296 + y ∧ a / 4294967296 = x ∧ a % 4294967296 = y := ⟨a / 4294967296, a % 4294967296, by omega, by omega, by omega, by omega, by omega, rfl, rfl⟩
  obtain ⟨u, v, hu0, hu1, hv0, hv1, rfl, eu, ev⟩ : ∃ x y : Int, 0 ≤ x ∧ x < 4294967296 ∧ 0 ≤ y ∧ y < 4294967296 ∧ b = x * 4294967296 + y ∧ b / 4294967296 = x ∧ b % 4294967296 = y := ⟨b / 4294967296, b % 4294967296, by omega, by omega, by omega, by omega, by omega, rfl, rfl⟩
  unfold bits_Mul64.f
  rw [and32 _ ha ha2, and32 _ hb hb2, ex, ey, eu, ev]
  have e : (x * 4294967296 + y) * (u * 4294967296 + v) = x * u * 18446744073709551616 + (x * v + y * u) * 4294967296 + y * v := by
    simp only [Int.mul_add, Int.add_mul]
    rw [show x * 4294967296 * (u * 4294967296) = x * u * 18446744073709551616 by rw [Int.mul_assoc, ← Int.mul_assoc 4294967296 u, Int.mul_comm 4294967296 u, Int.mul_assoc u, ← Int.mul_assoc]; rfl,
      show x * 4294967296 * v = x * v * 4294967296 by rw [Int.mul_assoc, Int.mul_comm 4294967296 v, ← Int.mul_assoc],
      show y * (u * 4294967296) = y * u * 4294967296 by rw [← Int.mul_assoc]]
    omega
  rw [e, u64w (_ + y * v)]
  have b1 := mulb x u _ _ hx0 (show x ≤ 4294967295 by omega) hu0 (show u ≤ 4294967295 by omega)
  have b2 := mulb x v _ _ hx0 (show x ≤ 4294967295 by omega) hv0 (show v ≤ 4294967295 by omega)
  have b3 := mulb y u _ _ hy0 (show y ≤ 4294967295 by omega) hu0 (show u ≤ 4294967295 by omega)
  have b4 := mulb y v _ _ hy0 (show y ≤ 4294967295 by omega) hv0 (show v ≤ 4294967295 by omega)
  generalize x * u = p at *
  generalize x * v = q at *
  generalize y * u = r at *
  generalize y * v = s at *
  clear e ex ey eu ev ha ha2 hb hb2
  rw [u64id p (by omega) (by omega), u64id q (by omega) (by omega), u64id r (by omega) (by omega), u64id s (by omega) (by omega)]
  rw [u64id (q + s / 4294967296) (by omega) (by omega)]
  rw [and32 _ (by omega) (by omega)]
  rw [u64id (p + _) (by omega) (by omega), u64id ((q + s / 4294967296) % 4294967296 + r) (by omega) (by omega)]
  rw [u64id _ (by omega) (by omega)]
  congr 1
  congr 1
  omega
/-! ### long division by a two-digit number, digit by digit (base 2^32) -/
structure DInv (un d y1 y0 q rh : Int) : Prop where
  y1lo : 2147483648 ≤ y1
  y1hi : y1 < 4294967296
  y0lo : 0 ≤ y0
  y0hi : y0 < 4294967296
  unlo : 0 ≤ un
  unhi : un < y1 * 4294967296 + y0
  dlo : 0 ≤ d
  dhi : d < 4294967296
  eq : un = q * y1 + rh
  rlo : 0 ≤ rh
  qlo : (un * 4294967296 + d) / (y1 * 4294967296 + y0) ≤ q
  qhi : q ≤ 4294967297
theorem dinv_q0 {un d y1 y0 q rh : Int} (h : DInv un d y1 y0 q rh) : 0 ≤ q := by
  have h1 : 0 ≤ (un * 4294967296 + d) / (y1 * 4294967296 + y0) := Int.ediv_nonneg (by have := h.unlo; have := h.dlo; omega) (by have := h.y1lo; have := h.y0lo; omega)
  have := h.qlo; omega
theorem dinv_mul (q y1 y0 : Int) : q * (y1 * 4294967296 + y0) = q * y1 * 4294967296 + q * y0 := by rw [Int.mul_add, ← Int.mul_assoc]
theorem dinv_start (un d y1 y0 : Int) (h1 : 2147483648 ≤ y1) (h2 : y1 < 4294967296) (h3 : 0 ≤ y0) (h4 : y0 < 4294967296) (h5 : 0 ≤ un) (h6 : un < y1 * 4294967296 + y0) (h7 : 0 ≤ d) (h8 : d < 4294967296) : DInv un d y1 y0 (un / y1) (un - un / y1 * y1) := by
  have hdm := Int.mul_ediv_add_emod un y1
  have hm0 := Int.emod_nonneg un (show y1 ≠ 0 by omega)
  have hm1 := Int.emod_lt_of_pos un (show 0 < y1 by omega)
  have hc : y1 * (un / y1) = un / y1 * y1 := Int.mul_comm _ _
  refine ⟨h1, h2, h3, h4, h5, h6, h7, h8, by omega, by omega, ?_, ?_⟩
  · apply Classical.byContradiction
    intro hlt
    have hge : un / y1 + 1 ≤ (un * 4294967296 + d) / (y1 * 4294967296 + y0) := by omega
    have h9 := (Int.le_ediv_iff_mul_le (show 0 < y1 * 4294967296 + y0 by omega)).1 hge
    rw [dinv_mul, Int.add_mul, Int.one_mul] at h9
    have h10 : 0 ≤ (un / y1 + 1) * y0 := Int.mul_nonneg (by have := Int.ediv_nonneg h5 (show 0 ≤ y1 by omega); omega) h3
    omega
  · apply Classical.byContradiction
    intro hlt
    have h9 : 4294967298 * y1 ≤ un / y1 * y1 := Int.mul_le_mul_of_nonneg_right (by omega) (by omega)
    omega
theorem dinv_yes {un d y1 y0 q rh : Int} (h : DInv un d y1 y0 q rh) (ht : q ≥ 4294967296 ∨ q * y0 > 4294967296 * rh + d) : DInv un d y1 y0 (q - 1) (rh + y1) := by
  have hq0 := dinv_q0 h
  obtain ⟨h1, h2, h3, h4, h5, h6, h7, h8, h9, h10, h11, h12⟩ := h
  have hm := dinv_mul q y1 y0
  have hlt : un * 4294967296 + d < q * (y1 * 4294967296 + y0) := by
    rcases ht with ht | ht
    · have h13 : 4294967296 * (y1 * 4294967296 + y0) ≤ q * (y1 * 4294967296 + y0) := Int.mul_le_mul_of_nonneg_right (by omega) (by omega)
      omega
    · omega
  have h14 := Int.ediv_lt_of_lt_mul (show 0 < y1 * 4294967296 + y0 by omega) hlt
  refine ⟨h1, h2, h3, h4, h5, h6, h7, h8, ?_, by omega, by omega, by omega⟩
  rw [Int.sub_mul, Int.one_mul]; omega
theorem dinv_no {un d y1 y0 q rh : Int} (h : DInv un d y1 y0 q rh) (_h1 : q < 4294967296) (h2 : q * y0 ≤ 4294967296 * rh + d) : q = (un * 4294967296 + d) / (y1 * 4294967296 + y0) := by
  have hm := dinv_mul q y1 y0
  have h3 := h.eq
  have hle : q * (y1 * 4294967296 + y0) ≤ un * 4294967296 + d := by omega
  have := (Int.le_ediv_iff_mul_le (show 0 < y1 * 4294967296 + y0 by have := h.y1lo; have := h.y0lo; omega)).2 hle
  have := h.qlo; omega
theorem dinv_stop {un d y1 y0 q rh : Int} (h : DInv un d y1 y0 q rh) (h1 : rh ≥ 4294967296) (h2 : q ≤ 4294967296) : q = (un * 4294967296 + d) / (y1 * 4294967296 + y0) := by
  have hm := dinv_mul q y1 y0
  have h3 := h.eq
  have hq0 := dinv_q0 h
  have h4 : q * y0 ≤ 4294967296 * y0 := Int.mul_le_mul_of_nonneg_right h2 h.y0lo
  have h5 := h.y0hi
  have h6 := h.dlo
  have hle : q * (y1 * 4294967296 + y0) ≤ un * 4294967296 + d := by omega
  have := (Int.le_ediv_iff_mul_le (show 0 < y1 * 4294967296 + y0 by have := h.y1lo; have := h.y0lo; omega)).2 hle
  have := h.qlo; omega
/-- both digits, put together -/
theorem ddigits (u1 d1 d0 y q1 q0 : Int) (hy : 0 < y) (h1 : q1 = (u1 * 4294967296 + d1) / y) (h0 : q0 = ((u1 * 4294967296 + d1 - q1 * y) * 4294967296 + d0) / y) :
    q1 * 4294967296 + q0 = ((u1 * 4294967296 + d1) * 4294967296 + d0) / y ∧ (u1 * 4294967296 + d1 - q1 * y) * 4294967296 + d0 - q0 * y = ((u1 * 4294967296 + d1) * 4294967296 + d0) % y := by
  have e0 := Int.mul_ediv_add_emod ((u1 * 4294967296 + d1 - q1 * y) * 4294967296 + d0) y
  have m0 := Int.emod_nonneg ((u1 * 4294967296 + d1 - q1 * y) * 4294967296 + d0) (show y ≠ 0 by omega)
  have m1 := Int.emod_lt_of_pos ((u1 * 4294967296 + d1 - q1 * y) * 4294967296 + d0) hy
  rw [← h0] at e0
  have hc : y * q0 = q0 * y := Int.mul_comm _ _
  have hm : (q1 * 4294967296 + q0) * y = q1 * y * 4294967296 + q0 * y := by
    rw [Int.add_mul, Int.mul_assoc, Int.mul_comm 4294967296 y, ← Int.mul_assoc]
  obtain ⟨a, b⟩ := (Int.ediv_emod_unique (a := (u1 * 4294967296 + d1) * 4294967296 + d0) (q := q1 * 4294967296 + q0) (r := (u1 * 4294967296 + d1 - q1 * y) * 4294967296 + d0 - q0 * y) hy).2 ⟨by rw [Int.mul_comm y]; omega, by omega, by omega⟩
  exact ⟨a.symm, b.symm⟩
/-- and scaled -/
theorem dscale (u y s : Int) (hs : 0 < s) (hy : 0 < y) : u * s / (y * s) = u / y ∧ u * s % (y * s) = u % y * s := by
  refine ⟨Int.mul_ediv_mul_of_pos_left u y hs, ?_⟩
  rw [Int.mul_comm u s, Int.mul_comm y s, Int.mul_emod_mul_of_pos _ _ hs, Int.mul_comm]
/-! ### bits.Div64, in closed form -/
theorem subwrap (a b c R : Int) (h : a * 4294967296 + b - c = R) (h0 : 0 ≤ R) (h1 : R < 18446744073709551616) :
    IntKind.u64.wrap ((IntKind.u64.wrap ((IntKind.u64.wrap (a * 4294967296)) + b)) - (IntKind.u64.wrap c)) = R := by
  simp only [u64w]; omega
theorem tdiv_pos (a b : Int) (h : 0 ≤ a) : Int.tdiv a b = a / b := Int.tdiv_eq_ediv_of_nonneg h
/-- the test of a digit -/
theorem dtest (q y0 rh d : Int) (h0 : 0 ≤ q) (h1 : q < 4294967296) (h2 : 0 ≤ y0) (h3 : y0 < 4294967296) (h4 : 0 ≤ rh) (h5 : rh < 4294967296) (h6 : 0 ≤ d) (h7 : d < 4294967296) :
    decide ((IntKind.u64.wrap (q * y0)) > (IntKind.u64.wrap ((IntKind.u64.wrap (4294967296 * rh)) + d))) = decide (q * y0 > 4294967296 * rh + d) := by
  have := mulb q y0 _ _ h0 (show q ≤ 4294967295 by omega) h2 (show y0 ≤ 4294967295 by omega)
  rw [u64id (q * y0) (by omega) (by omega), u64id (4294967296 * rh) (by omega) (by omega), u64id (_ + d) (by omega) (by omega)]
theorem drem (un d y1 y0 q : Int) (hy : 0 < y1 * 4294967296 + y0) (h : q = (un * 4294967296 + d) / (y1 * 4294967296 + y0)) :
    un * 4294967296 + d - q * (y1 * 4294967296 + y0) = (un * 4294967296 + d) % (y1 * 4294967296 + y0) := by
  have := Int.mul_ediv_add_emod (un * 4294967296 + d) (y1 * 4294967296 + y0)
  rw [← h, Int.mul_comm] at this; omega
theorem div_l0 {un d y1 y0 d2 s : Int} {R : Int × Int} (hj : Ev (fun k => bits_Div64.j2 k (y1 * 4294967296 + y0) s y1 y0 un d d2 ((un * 4294967296 + d) / (y1 * 4294967296 + y0))) R) :
    ∀ (n : Nat) (q rh : Int), DInv un d y1 y0 q rh → rh < 4294967296 → 4294967296 ≤ rh + 2147483648 * n → Ev (fun k => bits_Div64.l0 k (y1 * 4294967296 + y0) s y1 y0 un d d2 q rh) R := by
  intro n
  induction n with
  | zero => intro q rh h h1 h2; omega
  | succ n ih =>
    intro q rh h h1 h2
    have hq0 := dinv_q0 h
    have hy : Ev (fun k => bits_Div64.j1 k (y1 * 4294967296 + y0) s y1 y0 un d d2 q rh true) R ∨ ¬ (q ≥ 4294967296 ∨ q * y0 > 4294967296 * rh + d) := by
      by_cases ht : q ≥ 4294967296 ∨ q * y0 > 4294967296 * rh + d
      · left
        have h' := dinv_yes h ht
        have hq1 := dinv_q0 h'
        have := h.y1lo; have := h.y1hi; have := h.qhi; have := h.rlo
        have e1 := u64id (rh + y1) (by omega) (by omega)
        have e2 := u64id (q - 1) (by omega) (by omega)
        by_cases hst : rh + y1 ≥ 4294967296
        · refine Ev.step (fun _ => rfl) (ev_pos (by rw [e1]; exact hst) ?_)
          rw [e2, dinv_stop h' hst (by omega)]; exact hj
        · refine Ev.step (fun _ => rfl) (ev_neg (by rw [e1]; exact hst) ?_)
          rw [e1, e2]; exact ih _ _ h' (by omega) (by omega)
      · exact .inr ht
    refine Ev.step (fun _ => rfl) ?_
    by_cases hb : q ≥ 4294967296
    · refine ev_pos hb ?_
      rcases hy with hy | hn
      · exact hy
      · exact absurd (.inl hb) hn
    · refine ev_neg hb ?_
      rw [dtest q y0 rh d hq0 (by omega) h.y0lo h.y0hi h.rlo h1 h.dlo h.dhi]
      by_cases ht : q * y0 > 4294967296 * rh + d
      · rw [decide_eq_true ht]
        rcases hy with hy | hn
        · exact hy
        · exact absurd (.inr ht) hn
      · rw [decide_eq_false ht]
        refine Ev.step (f := fun k => bits_Div64.j2 k (y1 * 4294967296 + y0) s y1 y0 un d d2 q) (fun _ => rfl) ?_
        rw [dinv_no h (by omega) (by omega)]; exact hj
theorem div_l1 {un d y1 y0 q1 s : Int} {R : Int × Int} (hs : 0 ≤ s) (hR : R = (IntKind.u64.wrap (q1 * 4294967296 + (un * 4294967296 + d) / (y1 * 4294967296 + y0)), shr .u64 ((un * 4294967296 + d) % (y1 * 4294967296 + y0)) s)) (hq1 : 0 ≤ q1) (hq2 : q1 < 4294967296) :
    ∀ (n : Nat) (q rh : Int), DInv un d y1 y0 q rh → rh < 4294967296 → 4294967296 ≤ rh + 2147483648 * n → Ev (fun k => bits_Div64.l1 k (y1 * 4294967296 + y0) s y1 y0 d q1 rh un q) R := by
  have hend : ∀ (q rh : Int), DInv un d y1 y0 q rh → q = (un * 4294967296 + d) / (y1 * 4294967296 + y0) → q < 4294967297 → (IntKind.u64.wrap ((IntKind.u64.wrap (q1 * 4294967296)) + q), shr .u64 (IntKind.u64.wrap ((IntKind.u64.wrap ((IntKind.u64.wrap (un * 4294967296)) + d)) - (IntKind.u64.wrap (q * (y1 * 4294967296 + y0))))) s) = R := by
    intro q rh h he hq
    have hy : 0 < y1 * 4294967296 + y0 := by have := h.y1lo; have := h.y0lo; omega
    have hr := drem un d y1 y0 q hy he
    have m0 := Int.emod_nonneg (un * 4294967296 + d) (show y1 * 4294967296 + y0 ≠ 0 by omega)
    have m1 := Int.emod_lt_of_pos (un * 4294967296 + d) hy
    rw [subwrap un d (q * (y1 * 4294967296 + y0)) _ hr m0 (by have := h.y1hi; have := h.y0hi; omega), hR, ← he, u64id (q1 * 4294967296) (by omega) (by omega)]
  intro n
  induction n with
  | zero => intro q rh h h1 h2; omega
  | succ n ih =>
    intro q rh h h1 h2
    have hq0 := dinv_q0 h
    have hy : Ev (fun k => bits_Div64.j4 k (y1 * 4294967296 + y0) s y1 y0 d q1 rh un q true) R ∨ ¬ (q ≥ 4294967296 ∨ q * y0 > 4294967296 * rh + d) := by
      by_cases ht : q ≥ 4294967296 ∨ q * y0 > 4294967296 * rh + d
      · left
        have h' := dinv_yes h ht
        have hq1 := dinv_q0 h'
        have := h.y1lo; have := h.y1hi; have := h.qhi; have := h.rlo
        have e1 := u64id (rh + y1) (by omega) (by omega)
        have e2 := u64id (q - 1) (by omega) (by omega)
        by_cases hst : rh + y1 ≥ 4294967296
        · refine Ev.step (fun _ => rfl) (ev_pos (by rw [e1]; exact hst) (ev_pos hs ?_))
          rw [e2]
          exact ev_some (hend _ _ h' (dinv_stop h' hst (by omega)) (by omega))
        · refine Ev.step (fun _ => rfl) (ev_neg (by rw [e1]; exact hst) ?_)
          rw [e1, e2]; exact ih _ _ h' (by omega) (by omega)
      · exact .inr ht
    refine Ev.step (fun _ => rfl) ?_
    by_cases hb : q ≥ 4294967296
    · refine ev_pos hb ?_
      rcases hy with hy | hn
      · exact hy
      · exact absurd (.inl hb) hn
    · refine ev_neg hb ?_
      rw [dtest q y0 rh d hq0 (by omega) h.y0lo h.y0hi h.rlo h1 h.dlo h.dhi]
      by_cases ht : q * y0 > 4294967296 * rh + d
      · rw [decide_eq_true ht]
        rcases hy with hy | hn
        · exact hy
        · exact absurd (.inr ht) hn
      · rw [decide_eq_false ht]
        refine Ev.step (fun _ => rfl) (ev_pos hs ?_)
        exact ev_some (hend _ _ h (dinv_no h (by omega) (by omega)) (by omega))
theorem lz_eq (y : Int) (h0 : 0 < y) (h1 : y < 18446744073709551616) : ∃ s : Nat, s ≤ 63 ∧ bits_LeadingZeros64.f y = some (s : Int) ∧ 9223372036854775808 ≤ y * 2 ^ s ∧ y * 2 ^ s < 18446744073709551616 := by
  have hn : y.toNat ≠ 0 := by omega
  have hy : ((y.toNat : Nat) : Int) = y := Int.toNat_of_nonneg (by omega)
  have ha := Nat.log2_self_le hn
  have hb := @Nat.lt_log2_self y.toNat
  have hl : Nat.log2 y.toNat < 64 := (Nat.log2_lt hn).2 (by omega)
  refine ⟨63 - Nat.log2 y.toNat, by omega, ?_, ?_, ?_⟩
  · unfold bits_LeadingZeros64.f bits_Len64.f
    rw [if_pos ⟨by omega, by omega⟩]
    show some (wrap64 (64 - len64 y)) = _
    unfold len64
    rw [if_neg (by omega)]
    congr 1; unfold wrap64; omega
  · have h2 : 2 ^ (Nat.log2 y.toNat) * 2 ^ (63 - Nat.log2 y.toNat) ≤ y.toNat * 2 ^ (63 - Nat.log2 y.toNat) := Nat.mul_le_mul_right _ ha
    rw [← Nat.pow_add, show Nat.log2 y.toNat + (63 - Nat.log2 y.toNat) = 63 by omega] at h2
    have h3 : ((y.toNat * 2 ^ (63 - Nat.log2 y.toNat) : Nat) : Int) = y * 2 ^ (63 - Nat.log2 y.toNat) := by rw [Int.natCast_mul, hy]; simp
    rw [← h3]; omega
  · have h2 : y.toNat * 2 ^ (63 - Nat.log2 y.toNat) < 2 ^ (Nat.log2 y.toNat + 1) * 2 ^ (63 - Nat.log2 y.toNat) := Nat.mul_lt_mul_of_pos_right hb (Nat.pow_pos (by decide))
    rw [← Nat.pow_add, show Nat.log2 y.toNat + 1 + (63 - Nat.log2 y.toNat) = 64 by omega] at h2
    have h3 : ((y.toNat * 2 ^ (63 - Nat.log2 y.toNat) : Nat) : Int) = y * 2 ^ (63 - Nat.log2 y.toNat) := by rw [Int.natCast_mul, hy]; simp
    rw [← h3]; omega
theorem shl_pow (x : Int) (s : Nat) (hs : s ≤ 63) : shl .u64 x (s : Int) = x * 2 ^ s % 18446744073709551616 := by
  unfold shl
  rw [u64w, Int.toNat_natCast, Nat.min_eq_left (show s ≤ IntKind.u64.bits from Nat.le_trans hs (by decide))]
theorem shr_pow (x : Int) (s : Nat) (hs : s ≤ 64) : shr .u64 x (s : Int) = x / 2 ^ s := by
  unfold shr
  rw [Int.toNat_natCast, Nat.min_eq_left (show s ≤ IntKind.u64.bits from hs)]
theorem or_join (h l : Int) (s : Nat) (h0 : 0 ≤ h * 2 ^ s) (h1 : h * 2 ^ s < 18446744073709551616) (l0 : 0 ≤ l) (l1 : l < 2 ^ s) (l2 : l < 18446744073709551616) : Go.bits .or .u64 (h * 2 ^ s) l = h * 2 ^ s + l :=
  bits_join .u64 64 (by decide) wraps_u64 s (h * 2 ^ s) l h0 (Int.mul_emod_left _ _) h1 l0 l1 (by omega)
theorem lo_shift (lo P Q : Int) (hPQ : P * Q = 18446744073709551616) (hP : 0 < P) (hQ : 0 < Q) (h0 : 0 ≤ lo) (h1 : lo < 18446744073709551616) :
    0 ≤ lo / Q ∧ lo / Q < P ∧ lo * P % 18446744073709551616 = lo % Q * P ∧ lo / Q * 18446744073709551616 + lo % Q * P = lo * P := by
  have e := Int.mul_ediv_add_emod lo Q
  have e2 : lo / Q * 18446744073709551616 + lo % Q * P = lo * P := by
    rw [← hPQ]
    conv => rhs; rw [← e, Int.add_mul]
    rw [Int.mul_comm P Q, ← Int.mul_assoc, Int.mul_comm (lo / Q) Q]
  refine ⟨Int.ediv_nonneg h0 (by omega), ?_, ?_, e2⟩
  · exact Int.ediv_lt_of_lt_mul hQ (by rw [hPQ]; exact h1)
  · have m0 := Int.emod_nonneg lo (show Q ≠ 0 by omega)
    have m1 := Int.emod_lt_of_pos lo hQ
    have m2 : lo % Q * P < Q * P := Int.mul_lt_mul_of_pos_right m1 hP
    have m3 : 0 ≤ lo % Q * P := Int.mul_nonneg m0 (by omega)
    rw [Int.mul_comm Q P, hPQ] at m2
    rw [← e2]; omega
theorem div64_ev (hi lo y : Int) (h0 : 0 ≤ hi) (h1 : hi < y) (h2 : y < 18446744073709551616) (l0 : 0 ≤ lo) (l1 : lo < 18446744073709551616) :
    Ev (fun k => bits_Div64.f k hi lo y) ((hi * 18446744073709551616 + lo) / y, (hi * 18446744073709551616 + lo) % y) := by
  unfold bits_Div64.f
  refine ev_neg (by omega) (ev_neg (by omega) ?_)
  by_cases hz : hi = 0
  · refine ev_pos hz (ev_some ?_)
    subst hz
    rw [Int.zero_mul, Int.zero_add, tdiv_pos lo y l0, Int.tmod_eq_emod_of_nonneg l0]
    have := Int.ediv_le_self y l0
    have := Int.ediv_nonneg l0 (show 0 ≤ y by omega)
    rw [u64id _ (by omega) (by omega)]
  · refine ev_neg hz ?_
    obtain ⟨s, hs, hlz, hy1, hy2⟩ := lz_eq y (by omega) h2
    refine ev_val hlz ?_
    rw [u64id (s : Int) (by omega) (by omega)]
    rw [show (64 : Int) - (s : Int) = ((64 - s : Nat) : Int) by omega, u64id ((64 - s : Nat) : Int) (by omega) (by omega)]
    refine ev_pos (by omega) (ev_pos (by omega) ?_)
    rw [shl_pow y s hs, shl_pow hi s hs, shl_pow lo s hs, shr_pow lo (64 - s) (by omega)]
    have hPQ : (2 : Int) ^ s * 2 ^ (64 - s) = 18446744073709551616 := by
      rw [← Int.pow_add, show s + (64 - s) = 64 by omega]; decide
    have hP : (0 : Int) < 2 ^ s := Int.pow_pos (by decide)
    have hQ : (0 : Int) < 2 ^ (64 - s) := Int.pow_pos (by decide)
    obtain ⟨a1, a2, a3, a4⟩ := lo_shift lo _ _ hPQ hP hQ l0 l1
    have b1 : (hi + 1) * 2 ^ s ≤ y * 2 ^ s := Int.mul_le_mul_of_nonneg_right (by omega) (Int.le_of_lt hP)
    rw [Int.add_mul, Int.one_mul] at b1
    have b2 : 0 ≤ hi * 2 ^ s := Int.mul_nonneg h0 (Int.le_of_lt hP)
    rw [show y * 2 ^ s % 18446744073709551616 = y * 2 ^ s by omega, show hi * 2 ^ s % 18446744073709551616 = hi * 2 ^ s by omega, or_join hi (lo / 2 ^ (64 - s)) s b2 (by omega) a1 a2 (by omega)]
    obtain ⟨c1, c2⟩ := dscale (hi * 18446744073709551616 + lo) y (2 ^ s) hP (by omega)
    have c3 : (hi * 18446744073709551616 + lo) * 2 ^ s = (hi * 2 ^ s + lo / 2 ^ (64 - s)) * 18446744073709551616 + lo * 2 ^ s % 18446744073709551616 := by
      rw [a3, Int.add_mul, ← a4, show hi * 18446744073709551616 * 2 ^ s = hi * 2 ^ s * 18446744073709551616 by rw [Int.mul_assoc, Int.mul_comm 18446744073709551616, ← Int.mul_assoc]]
      omega
    have c4 : 0 ≤ lo * 2 ^ s % 18446744073709551616 ∧ lo * 2 ^ s % 18446744073709551616 < 18446744073709551616 := by omega
    rw [← c1, c3]
    have c5 : (hi * 18446744073709551616 + lo) % y = (hi * 18446744073709551616 + lo) * 2 ^ s % (y * 2 ^ s) / 2 ^ s := by
      rw [c2, Int.mul_ediv_cancel _ (by omega)]
    rw [c5, c3]
    clear c5 c3 c1 c2 a3 a4 hlz
    generalize hU : hi * 2 ^ s + lo / 2 ^ (64 - s) = U at *
    have hU1 : 0 ≤ U ∧ U < y * 2 ^ s := by omega
    generalize lo * 2 ^ s % 18446744073709551616 = W at *
    generalize y * 2 ^ s = Y at *
    clear hU b1 b2 a1 a2 hPQ hQ
    obtain ⟨w1, w0, hw1, hw2, hw3, hw4, rfl, ew1, ew0⟩ : ∃ w1 w0 : Int, 0 ≤ w1 ∧ w1 < 4294967296 ∧ 0 ≤ w0 ∧ w0 < 4294967296 ∧ W = w1 * 4294967296 + w0 ∧ W / 4294967296 = w1 ∧ W % 4294967296 = w0 := ⟨W / 4294967296, W % 4294967296, by omega, by omega, by omega, by omega, by omega, rfl, rfl⟩
    obtain ⟨y1, y0, k1, k2, k3, k4, rfl, ey1, ey0⟩ : ∃ w1 w0 : Int, 2147483648 ≤ w1 ∧ w1 < 4294967296 ∧ 0 ≤ w0 ∧ w0 < 4294967296 ∧ Y = w1 * 4294967296 + w0 ∧ Y / 4294967296 = w1 ∧ Y % 4294967296 = w0 := ⟨Y / 4294967296, Y % 4294967296, by omega, by omega, by omega, by omega, by omega, rfl, rfl⟩
    rw [and32 _ (by omega) (by omega), and32 _ (by omega) (by omega), ew1, ew0, ey1, ey0]
    refine ev_neg (by omega) ?_
    have d1 := dinv_start U w1 y1 y0 k1 k2 k3 k4 hU1.1 hU1.2 hw1 hw2
    have hq0 := dinv_q0 d1
    have hqh := d1.qhi
    have hm : U % y1 = U - U / y1 * y1 := by have := Int.mul_ediv_add_emod U y1; rw [Int.mul_comm] at this; omega
    have hm1 := Int.emod_lt_of_pos U (show 0 < y1 by omega)
    have hm0 := d1.rlo
    rw [tdiv_pos U y1 hU1.1, u64id (U / y1) hq0 (by omega), u64id (U / y1 * y1) (by have := Int.mul_nonneg hq0 (show 0 ≤ y1 by omega); omega) (by omega), u64id (U - U / y1 * y1) hm0 (by omega)]
    refine div_l0 ?_ 2 _ _ d1 (by omega) (by omega)
    clear d1 hq0 hqh hm hm1 hm0
    have e1 := Int.mul_ediv_add_emod (U * 4294967296 + w1) (y1 * 4294967296 + y0)
    have g0 := Int.emod_nonneg (U * 4294967296 + w1) (show y1 * 4294967296 + y0 ≠ 0 by omega)
    have g1 := Int.emod_lt_of_pos (U * 4294967296 + w1) (show 0 < y1 * 4294967296 + y0 by omega)
    have g2 : 0 ≤ (U * 4294967296 + w1) / (y1 * 4294967296 + y0) := Int.ediv_nonneg (by omega) (by omega)
    have g3 : (U * 4294967296 + w1) / (y1 * 4294967296 + y0) < 4294967296 := Int.ediv_lt_of_lt_mul (by omega) (by omega)
    have hdr := drem U w1 y1 y0 _ (by omega) rfl
    have hdig := ddigits U w1 w0 (y1 * 4294967296 + y0) _ _ (by omega) rfl rfl
    rw [hdr] at hdig
    generalize hq1 : (U * 4294967296 + w1) / (y1 * 4294967296 + y0) = q1 at *
    generalize hr1 : (U * 4294967296 + w1) % (y1 * 4294967296 + y0) = r1 at *
    refine Ev.step (fun _ => rfl) (ev_neg (by omega) ?_)
    rw [subwrap U w1 (q1 * (y1 * 4294967296 + y0)) r1 hdr g0 (by omega)]
    have d2 := dinv_start r1 w0 y1 y0 k1 k2 k3 k4 g0 g1 hw3 hw4
    have hq0 := dinv_q0 d2
    have hqh := d2.qhi
    have hm : r1 % y1 = r1 - r1 / y1 * y1 := by have := Int.mul_ediv_add_emod r1 y1; rw [Int.mul_comm] at this; omega
    have hm1 := Int.emod_lt_of_pos r1 (show 0 < y1 by omega)
    have hm0 := d2.rlo
    rw [tdiv_pos r1 y1 g0, u64id (r1 / y1) hq0 (by omega), u64id (r1 / y1 * y1) (by have := Int.mul_nonneg hq0 (show 0 ≤ y1 by omega); omega) (by omega), u64id (r1 - r1 / y1 * y1) hm0 (by omega)]
    refine div_l1 (by omega) ?_ g2 g3 2 _ _ d2 (by omega) (by omega)
    have g4 : 0 ≤ (r1 * 4294967296 + w0) / (y1 * 4294967296 + y0) := Int.ediv_nonneg (by omega) (by omega)
    have g5 : (r1 * 4294967296 + w0) / (y1 * 4294967296 + y0) < 4294967296 := Int.ediv_lt_of_lt_mul (by omega) (by omega)
    rw [u64id _ (by omega) (by omega), shr_pow _ s (by omega), hdig.1]
    have hdr2 := drem r1 w0 y1 y0 _ (by omega) rfl
    rw [hdr2] at hdig
    rw [hdig.2, show U * 18446744073709551616 + (w1 * 4294967296 + w0) = (U * 4294967296 + w1) * 4294967296 + w0 by omega]
/-! ### cents.MulDiv and contangoref01.MulDiv: one law -/
def absI (n : Int) : Int := if n < 0 then -n else n
def fitsP (n : Int) : Prop := -1152921504606846976 ≤ n ∧ n ≤ 1152921504606846976
instance (n : Int) : Decidable (fitsP n) := by unfold fitsP; infer_instance
def mdRound (a b c mode : Int) : Int := if absI a * absI b % absI c > 0 ∧ awayB mode (belowB a b c) (absI a * absI b / absI c) (absI a * absI b % absI c) (absI c) = true then absI a * absI b / absI c + 1 else absI a * absI b / absI c
def mdAns (a b c mode : Int) : Int × Int :=
  if ¬ (fitsP a ∧ fitsP b ∧ fitsP c) ∨ mode < 1 ∨ mode > 5 then (0, 2) else if c = 0 then (0, 4) else
    if mdRound a b c mode > 1152921504606846976 then (0, 3) else (if belowB a b c = true then -mdRound a b c mode else mdRound a b c mode, 0)
theorem absI_fits (n : Int) (h : fitsP n) : 0 ≤ absI n ∧ absI n ≤ 1152921504606846976 := by unfold fitsP at h; unfold absI; split <;> omega
theorem absI_pos (n : Int) (h : n ≠ 0) : 0 < absI n := by unfold absI; split <;> omega
theorem cfits_eq (n : Int) : cents_Fits.f n = some (decide (fitsP n)) := by
  unfold cents_Fits.f fitsP
  by_cases h : n ≥ (-1152921504606846976)
  · rw [if_pos h]; congr 1; simp [h]
  · rw [if_neg h]; congr 1; simp [h]
theorem csize_eq (n : Int) (h : fitsP n) : cents_size.f n = some (absI n) := by
  unfold cents_size.f absI fitsP at *
  split
  · rw [show wrap64 (-n) = -n by unfold wrap64; omega, u64id _ (by omega) (by omega)]
  · rw [u64id _ (by omega) (by omega)]
theorem csigned_eq (q : Int) (bl : Bool) (h : 0 ≤ q) : cents_signed.f q bl = some (if q > 1152921504606846976 then (0, 3) else (if bl = true then -q else q, 0)) := by
  unfold cents_signed.f
  by_cases hq : q > 1152921504606846976
  · rw [if_pos hq, if_pos hq]
  · rw [if_neg hq, if_neg hq, show wrap64 q = q by unfold wrap64; omega, show wrap64 (-q) = -q by unfold wrap64; omega]
    cases bl <;> simp
theorem ev_bval {α β : Type} {g : Nat → Option α} {f : Nat → α → Option β} {a : α} {r : β} (h : Ev g a) (k : Ev (fun n => f n a) r) : Ev (fun n => (g n).bind (f n)) r := h.bind k
theorem cmuldiv_ev (a b c mode : Int) : Ev (fun k => cents_MulDiv.f k a b c mode) (mdAns a b c mode) := by
  unfold cents_MulDiv.f mdAns
  refine ev_val (cfits_eq a) ?_
  by_cases ha : fitsP a
  case neg => rw [if_pos (.inl (fun h => ha h.1))]; exact ev_neg (by simp [ha]) (ev_some rfl)
  refine ev_pos (by simp [ha]) (ev_val (cfits_eq b) ?_)
  by_cases hb : fitsP b
  case neg => rw [if_pos (.inl (fun h => hb h.2.1))]; exact ev_neg (by simp [hb]) (ev_some rfl)
  refine ev_pos (by simp [hb]) (ev_val (cfits_eq c) ?_)
  by_cases hc : fitsP c
  case neg => rw [if_pos (.inl (fun h => hc h.2.2))]; exact ev_neg (by simp [hc]) (ev_some rfl)
  refine ev_pos (by simp [hc]) ?_
  by_cases hm : mode < 1 ∨ mode > 5
  · rw [if_pos (.inr hm)]; exact ev_pos hm (ev_some rfl)
  rw [if_neg (by rintro (h | h); exact h ⟨ha, hb, hc⟩; exact hm h)]
  refine ev_neg hm ?_
  by_cases hz : c = 0
  · rw [if_pos hz]; exact ev_pos hz (ev_some rfl)
  rw [if_neg hz]
  refine ev_neg hz (ev_val (csize_eq a ha) (ev_val (csize_eq b hb) ?_))
  obtain ⟨a0, a1⟩ := absI_fits a ha
  obtain ⟨b0, b1⟩ := absI_fits b hb
  obtain ⟨c0, c1⟩ := absI_fits c hc
  have cp := absI_pos c hz
  have hp := mulb _ _ _ _ a0 a1 b0 b1
  refine ev_val (mul64_eq _ _ a0 (by omega) b0 (by omega)) (ev_val (csize_eq c hc) ?_)
  unfold mdRound
  generalize belowB a b c = bl
  generalize absI c = C at *
  generalize absI a * absI b = N at *
  clear ha hb hc hz a0 a1 b0 b1 a b c
  have q0 : 0 ≤ N / C := Int.ediv_nonneg hp.1 (by omega)
  have r0 := Int.emod_nonneg N (show C ≠ 0 by omega)
  have r1 := Int.emod_lt_of_pos N cp
  by_cases hbig : N / 18446744073709551616 ≥ C
  · refine ev_pos hbig (ev_some ?_)
    have h1 : C * 18446744073709551616 ≤ N := by omega
    have h2 : 18446744073709551616 ≤ N / C := (Int.le_ediv_iff_mul_le cp).2 (by omega)
    rw [if_pos (by split <;> omega)]
  · refine ev_neg hbig (ev_bval (div64_ev _ _ C (by omega) (by omega) (by omega) (by omega) (by omega)) ?_)
    rw [show N / 18446744073709551616 * 18446744073709551616 + N % 18446744073709551616 = N by omega]
    dsimp only
    generalize N / C = q at *
    generalize N % C = r at *
    by_cases hq : q > 1152921504606846976
    · refine ev_pos hq (ev_some ?_)
      rw [if_pos (by split <;> omega)]
    · refine ev_neg hq ?_
      by_cases hr : r > 0
      · refine ev_pos hr (ev_pos ⟨q0, r1, c1⟩ ?_)
        by_cases hw : awayB mode bl q r C = true
        · rw [if_pos (⟨hr, hw⟩ : r > 0 ∧ _)]
          exact ev_pos hw (Ev.congr (fun _ => csigned_eq _ _ (by omega)) (Ev.now _))
        · rw [if_neg (fun h => hw h.2 : ¬ (r > 0 ∧ awayB mode bl q r C = true))]
          exact ev_neg hw (Ev.congr (fun _ => csigned_eq _ _ (by omega)) (Ev.now _))
      · rw [if_neg (fun h => hr h.1 : ¬ (r > 0 ∧ awayB mode bl q r C = true))]
        exact ev_neg hr (ev_pos (by omega) (Ev.congr (fun _ => csigned_eq _ _ (by omega)) (Ev.now _)))
theorem ev_iff {α : Type} {c d : Prop} [Decidable c] [Decidable d] {a b : Nat → Option α} {x y : α} (hd : c ↔ d) (h1 : c → Ev a x) (h2 : ¬ c → Ev b y) : Ev (fun n => if c then a n else b n) (if d then x else y) := by
  by_cases h : c
  · exact ev_pos h (ev_rw (if_pos (hd.1 h)).symm (h1 h))
  · exact ev_neg h (ev_rw (if_neg (fun k => h (hd.2 k))).symm (h2 h))
theorem ev_if {α : Type} {c : Prop} [Decidable c] {a b : Nat → Option α} {x y : α} (h1 : c → Ev a x) (h2 : ¬ c → Ev b y) : Ev (fun n => if c then a n else b n) (if c then x else y) := ev_iff Iff.rfl h1 h2
/-! ### names -/
def letterB (c : Int) : Bool := decide (97 ≤ c) && decide (c ≤ 122)
def digitB (c : Int) : Bool := decide (48 ≤ c) && decide (c ≤ 57)
def nameFrom (s : ByteArray) (i : Nat) : Bool := ((List.range s.size).drop i).all (fun i => letterB (bt s i) || digitB (bt s i))
def nameOk (s : ByteArray) : Bool := if s.size = 0 then false else if s.size > 12 then false else letterB (bt s 0) && nameFrom s 0
theorem size_nil (s : ByteArray) : s.toList = ([] : List UInt8) ↔ s.size = 0 := by
  rw [ByteArray.toList_eq, List.eq_nil_iff_length_eq_zero, Array.length_toList]; rfl
theorem nameFrom_cons (s : ByteArray) (i : Nat) (h : i < s.size) : nameFrom s i = ((letterB (bt s i) || digitB (bt s i)) && nameFrom s (i + 1)) := by
  unfold nameFrom
  rw [dropD 0 (List.range s.size) i (by simpa using h), List.all_cons]
  congr 2 <;> simp [List.getD_eq_getElem?_getD, h]
theorem nameFrom_end (s : ByteArray) : nameFrom s s.size = true := by
  unfold nameFrom
  rw [List.drop_eq_nil_of_le (by simp)]; rfl
theorem letter_eq (c : Int) : words_letter.f c = some (letterB c) := by
  unfold words_letter.f letterB; by_cases h : 97 ≤ c <;> simp [h]
theorem digit_eq (c : Int) : words_digit.f c = some (digitB c) := by
  unfold words_digit.f digitB; by_cases h : 48 ≤ c <;> simp [h]
theorem name_go (s : ByteArray) (hs : s.size ≤ 12) : ∀ (i : Nat) (u : Unit), i ≤ s.size → True → Ev (fun k => words_Name.l0 k s (s.size : Int) (i : Int)) (nameFrom s i) := by
  refine ev_down (S := Unit) (g := fun k i _ => words_Name.l0 k s (s.size : Int) (i : Int)) (spec := fun i _ => nameFrom s i) (inv := fun _ _ => True) ?_ ?_
  · intro _ _
    refine Ev.step (fun _ => rfl) (ev_neg (by omega) (ev_some ?_))
    rw [nameFrom_end]
  · intro i _ hi _ ih
    have ih := ih () trivial
    refine Ev.step (fun _ => rfl) (ev_pos (by omega) (ev_pos (by omega) (ev_pos (by omega) (ev_val (letter_eq _) ?_))))
    rw [nameFrom_cons s i hi, wsucc i (by omega)]
    cases h1 : letterB (bt s i) with
    | true => exact ev_pos (by rfl) (by simpa using ih)
    | false =>
      refine ev_neg (by simp) (ev_val (digit_eq _) ?_)
      cases h2 : digitB (bt s i) with
      | true => exact ev_pos (by rfl) (by simpa using ih)
      | false => exact ev_neg (by simp) (ev_some rfl)
theorem name_ev (s : ByteArray) : Ev (fun k => words_Name.f k s) (nameOk s) := by
  unfold words_Name.f nameOk
  by_cases h0 : s.size = 0
  · rw [if_pos h0]
    exact ev_pos ((size_nil s).2 h0) (ev_end (fun _ => rfl) rfl)
  rw [if_neg h0]
  refine ev_neg (fun h => h0 ((size_nil s).1 h)) ?_
  by_cases h1 : s.size > 12
  · rw [if_pos h1]
    exact ev_pos (by omega) (ev_end (fun _ => rfl) rfl)
  rw [if_neg h1]
  refine ev_neg (by omega) (ev_pos (by omega) (ev_val (letter_eq _) (Ev.step (fun _ => rfl) ?_)))
  cases h2 : letterB (bt s 0) with
  | true =>
    have := name_go s (by omega) 0 () (by omega) trivial
    rw [Bool.true_and]; exact this
  | false => exact ev_some rfl
/-! ### sums -/
def sumI : List Int → Int
  | [] => 0
  | a :: l => a + sumI l
def sumAns (l : List Int) : Int × Int := if l.all (fun a => decide (fitsP a)) = true then (if fitsP (sumI l) then (sumI l, 0) else (0, 3)) else (0, 2)
theorem sdrop (l : List Int) (i : Nat) (h : i < l.length) : l.drop i = l.getD i 0 :: l.drop (i + 1) := by
  rw [List.drop_eq_getElem_cons h, List.getD_eq_getElem?_getD, List.getElem?_eq_getElem h]; rfl
theorem and32s (x : Int) (h0 : -9223372036854775808 ≤ x) (h1 : x ≤ 9223372036854775807) : Go.bits .and .i64 x 4294967295 = x % 4294967296 := by
  show IntKind.i64.wrap ((BitVec.ofInt 64 x &&& BitVec.ofInt 64 4294967295).toNat : Int) = _
  have h2 : (BitVec.ofInt 64 4294967295).toNat = 2 ^ 32 - 1 := by decide
  rw [BitVec.toNat_and, h2, Nat.and_two_pow_sub_one_eq_mod, BitVec.toNat_ofInt, IntKind.wrap_i64]
  omega
theorem csum_go (l : List Int) (hl : l.length ≤ 1073741824) (d : Nat) : ∀ (i : Nat) (h w : Int), l.length - i = d → i ≤ l.length → -(i * 268435456) ≤ h → h ≤ i * 268435456 → 0 ≤ w → w ≤ i * 4294967296 →
    Ev (fun k => cents_Sum.l0 k l h w (l.length : Int) (i : Int)) (if (l.drop i).all (fun a => decide (fitsP a)) = true then (if fitsP (h * 4294967296 + w + sumI (l.drop i)) then (h * 4294967296 + w + sumI (l.drop i), 0) else (0, 3)) else (0, 2)) := by
  induction d with
  | zero =>
    intro i h w hd hi a1 a2 a3 a4
    refine Ev.step (fun _ => rfl) (ev_neg (by omega) ?_)
    rw [List.drop_eq_nil_of_le (show l.length ≤ i by omega)]
    show Ev _ (if fitsP (h * 4294967296 + w + 0) then (h * 4294967296 + w + 0, 0) else (0, 3))
    rw [Int.add_zero, w64i (h + w / 4294967296) (by omega) (by omega), and32s w (by omega) (by omega)]
    by_cases b1 : h + w / 4294967296 < -268435456
    · refine ev_pos b1 (ev_some ?_)
      rw [if_neg (by unfold fitsP; omega)]
    refine ev_neg b1 ?_
    by_cases b2 : h + w / 4294967296 > 268435456
    · refine ev_pos b2 (ev_some ?_)
      rw [if_neg (by unfold fitsP; omega)]
    refine ev_neg b2 ?_
    rw [w64i ((h + w / 4294967296) * 4294967296) (by omega) (by omega), w64i (_ + w % 4294967296) (by omega) (by omega), show (h + w / 4294967296) * 4294967296 + w % 4294967296 = h * 4294967296 + w by omega]
    unfold cents_fitting.f
    by_cases b3 : fitsP (h * 4294967296 + w)
    · rw [if_pos b3]; refine Ev.congr (f := fun _ => some _) (fun _ => ?_) (Ev.now _)
      rw [cfits_eq, decide_eq_true b3]; rfl
    · rw [if_neg b3]; refine Ev.congr (f := fun _ => some _) (fun _ => ?_) (Ev.now _)
      rw [cfits_eq, decide_eq_false b3]; rfl
  | succ d ih =>
    intro i h w hd hi a1 a2 a3 a4
    rw [sdrop l i (by omega)]
    refine Ev.step (fun _ => rfl) (ev_pos (by omega) (ev_pos (by omega) (ev_pos (by omega) ?_)))
    rw [show rd l (i : Int) = l.getD i 0 from rfl]
    generalize l.getD i 0 = a
    refine ev_val (cfits_eq a) ?_
    by_cases ha : fitsP a
    · refine ev_pos (by simp [ha]) ?_
      have hf : fitsP a := ha
      unfold fitsP at hf
      rw [and32s a (by omega) (by omega), w64i (h + a / 4294967296) (by omega) (by omega), w64i (w + a % 4294967296) (by omega) (by omega), w64i ((i : Int) + 1) (by omega) (by omega)]
      have := ih (i + 1) (h + a / 4294967296) (w + a % 4294967296) (by omega) (by omega) (by omega) (by omega) (by omega) (by omega)
      rw [show ((i + 1 : Nat) : Int) = (i : Int) + 1 by omega, show (h + a / 4294967296) * 4294967296 + (w + a % 4294967296) + sumI (l.drop (i + 1)) = h * 4294967296 + w + sumI (a :: l.drop (i + 1)) by simp only [sumI]; omega] at this
      rw [List.all_cons, decide_eq_true ha, Bool.true_and]
      exact this
    · refine ev_neg (by simp [ha]) (ev_some ?_)
      rw [List.all_cons, decide_eq_false ha, Bool.false_and, if_neg (by simp)]
theorem csum_ev (l : List Int) (hl : l.length ≤ 1073741824) : Ev (fun k => cents_Sum.f k l) (sumAns l) := by
  have h := csum_go l hl l.length 0 0 0 (by omega) (by omega) (by omega) (by omega) (by omega) (by omega)
  rw [List.drop_zero, show (0 : Int) * 4294967296 + 0 + sumI l = sumI l by omega] at h
  exact h
/-! ### resources: the check -/
theorem rdR (l : List S37) (i : Nat) : rd_T37 l (i : Int) = l.getD i z37 := rfl
theorem sumI_isum (l : List Int) : sumI l = isum l := by
  induction l with
  | nil => rfl
  | cons a l ih => simp only [sumI, isum, ih]
def rcB (x : S37) : Bool := decide (1 ≤ x.f0) && (decide (x.f0 ≤ 8) && (decide (0 ≤ x.f1) && (decide (x.f1 ≤ 9) && okMoney x.f3)))
theorem rcB_iff (x : S37) : rcB x = true ↔ 1 ≤ x.f0 ∧ x.f0 ≤ 8 ∧ 0 ≤ x.f1 ∧ x.f1 ≤ 9 ∧ okMoney x.f3 = true := by
  unfold rcB; simp only [Bool.and_eq_true, decide_eq_true_eq]
def rcErr (x : S37) : Int := if rcB x = true then (if nameOk x.f2 = true then 0 else 10) else 2
def aheadB (a b : S37) : Bool := if a.f0 = b.f0 then (if a.f1 = b.f1 then Op.bytesLess a.f2.toList b.f2.toList else decide (a.f1 < b.f1)) else decide (a.f0 < b.f0)
def aheadO : Option S37 → S37 → Bool
  | none, _ => true
  | some q, x => aheadB q x
def chkGo : Option S37 → List S37 → Int
  | _, [] => 0
  | p, x :: l => if rcErr x = 0 then (if aheadO p x = true then chkGo (some x) l else 12) else rcErr x
def centsOf (l : List S37) : List Int := l.map fun x => x.f3
def chk47 (l : List S37) : Int := if l.length > 1024 then 8 else if chkGo none l = 0 then (if isum (centsOf l) ≤ 1152921504606846976 then 0 else 3) else chkGo none l
def prevO (l : List S37) (i : Nat) : Option S37 := if i = 0 then none else some (l.getD (i - 1) z37)
theorem prevO_succ (l : List S37) (i : Nat) : prevO l (i + 1) = some (l.getD i z37) := by unfold prevO; rw [if_neg (by omega)]; rfl
theorem wmoney_eq (n : Int) : waterfall_money.f n = some (okMoney n) := by
  unfold waterfall_money.f okMoney
  by_cases h : n ≥ 0
  · rw [if_pos h, decide_eq_true (by omega : 0 ≤ n), Bool.true_and]
  · rw [if_neg h, decide_eq_false (by omega : ¬ 0 ≤ n)]; rfl
theorem ahead_eq (a b : S37) : waterfall_ahead.f a.f0 a.f1 a.f2 a.f3 b.f0 b.f1 b.f2 b.f3 = some (aheadB a b) := by
  unfold waterfall_ahead.f aheadB
  by_cases h : a.f0 = b.f0
  · rw [if_pos h, if_pos h]
    by_cases h2 : a.f1 = b.f1
    · rw [if_pos h2, if_pos h2]
    · rw [if_neg h2, if_neg h2]
  · rw [if_neg h, if_neg h]
theorem chkGo_money : ∀ (p : Option S37) (l : List S37), chkGo p l = 0 → ∀ x ∈ l, rcErr x = 0
  | _, [], _ => by simp
  | p, x :: l, h => by
    rw [chkGo] at h
    by_cases h1 : rcErr x = 0
    · rw [if_pos h1] at h
      by_cases h2 : aheadO p x = true
      · rw [if_pos h2] at h
        intro y hy
        rcases List.mem_cons.1 hy with rfl | hy
        · exact h1
        · exact chkGo_money _ l h y hy
      · rw [if_neg h2] at h; cases h
    · rw [if_neg h1] at h; exact absurd h h1
theorem rcErr_zero (x : S37) (h : rcErr x = 0) : rcB x = true ∧ nameOk x.f2 = true := by
  unfold rcErr at h
  by_cases h1 : rcB x = true
  · rw [if_pos h1] at h
    by_cases h2 : nameOk x.f2 = true
    · exact ⟨h1, h2⟩
    · rw [if_neg h2] at h; cases h
  · rw [if_neg h1] at h; cases h
theorem sumAns_money (l : List Int) (h : ∀ x ∈ l, okMoney x = true) : (sumAns l).2 = if isum l ≤ 1152921504606846976 then 0 else 3 := by
  have h0 : 0 ≤ isum l := by
    induction l with
    | nil => simp [isum]
    | cons a l ih =>
      have := (okMoney_iff a).1 (h a (by simp)); have := ih (fun x hx => h x (by simp [hx]))
      simp only [isum]; omega
  unfold sumAns
  rw [if_pos (List.all_eq_true.2 fun x hx => decide_eq_true (show fitsP x by have := (okMoney_iff x).1 (h x hx); unfold fitsP; omega)), sumI_isum]
  by_cases hs : isum l ≤ 1152921504606846976
  · rw [if_pos hs, if_pos (by unfold fitsP; omega)]
  · rw [if_neg hs, if_neg (by unfold fitsP; omega)]
theorem rcSteps {α : Type} (x : S37) (g : Bool → Nat → Option α) (m : Int → Option Bool) (hm : m x.f3 = some (okMoney x.f3)) (r : α) (h1 : rcB x = true → Ev (g false) r) (h2 : rcB x = false → Ev (g true) r) :
    Ev (fun k => if x.f0 < 1 then g true k else if x.f0 > 8 then g true k else if x.f1 < 0 then g true k else if x.f1 > 9 then g true k else (m x.f3).bind fun t => g (!t) k) r := by
  by_cases a1 : x.f0 < 1
  · exact ev_pos a1 (h2 (by unfold rcB; rw [decide_eq_false (by omega : ¬ 1 ≤ x.f0)]; rfl))
  refine ev_neg a1 ?_
  by_cases a2 : x.f0 > 8
  · exact ev_pos a2 (h2 (by unfold rcB; rw [decide_eq_false (by omega : ¬ x.f0 ≤ 8), Bool.false_and, Bool.and_false]))
  refine ev_neg a2 ?_
  by_cases a3 : x.f1 < 0
  · exact ev_pos a3 (h2 (by unfold rcB; rw [decide_eq_false (by omega : ¬ 0 ≤ x.f1), Bool.false_and, Bool.and_false, Bool.and_false]))
  refine ev_neg a3 ?_
  by_cases a4 : x.f1 > 9
  · exact ev_pos a4 (h2 (by unfold rcB; rw [decide_eq_false (by omega : ¬ x.f1 ≤ 9), Bool.false_and, Bool.and_false, Bool.and_false, Bool.and_false]))
  refine ev_neg a4 (ev_val hm ?_)
  have e : rcB x = okMoney x.f3 := by unfold rcB; rw [decide_eq_true (by omega : 1 ≤ x.f0), decide_eq_true (by omega : x.f0 ≤ 8), decide_eq_true (by omega : 0 ≤ x.f1), decide_eq_true (by omega : x.f1 ≤ 9)]; simp
  rw [← e]
  cases hb : rcB x with
  | true => exact h1 hb
  | false => exact h2 hb
theorem wcheck_go (l : List S37) (hl : l.length ≤ 1024) : ∀ (i : Nat) (cs : List Int), i ≤ l.length → cs = centsOf (l.take i) → Ev (fun k => waterfall_Check.l0 k l cs l (l.length : Int) (i : Int)) (if chkGo (prevO l i) (l.drop i) = 0 then (sumAns (centsOf l)).2 else chkGo (prevO l i) (l.drop i)) := by
  refine ev_down (S := List Int) (g := fun k i cs => waterfall_Check.l0 k l cs l (l.length : Int) (i : Int)) (spec := fun i _ => if chkGo (prevO l i) (l.drop i) = 0 then (sumAns (centsOf l)).2 else chkGo (prevO l i) (l.drop i)) (inv := fun i cs => cs = centsOf (l.take i)) ?_ ?_
  · intro cs hcs
    subst hcs
    rw [List.take_length]
    refine Ev.step (fun _ => rfl) (ev_neg (by omega) ?_)
    refine ev_bnd (csum_ev (centsOf l) (by unfold centsOf; rw [List.length_map]; omega)) (ev_some ?_)
    rw [drop_end, chkGo, if_pos rfl]
  · intro i cs hi hcs ih
    have hlc : cs.length = i := by rw [hcs]; unfold centsOf; rw [List.length_map, List.length_take]; omega
    have ih := ih (cs ++ [(l.getD i z37).f3]) (by rw [hcs]; unfold centsOf; rw [List.take_add_one, List.map_append, List.getD_eq_getElem?_getD, List.getElem?_eq_getElem hi]; simp)
    refine Ev.step (fun _ => rfl) (ev_pos (by omega) (ev_pos (by omega) (ev_pos (by omega) ?_)))
    rw [dropD z37 l i hi, rdR, chkGo]
    rw [prevO_succ] at ih
    have hp : prevO l i = if i = 0 then none else some (l.getD (i - 1) z37) := rfl
    generalize prevO l i = P at *
    generalize l.getD i z37 = x at *
    refine rcSteps x (fun b k => waterfall_Check.j1 k l cs (i : Int) l (l.length : Int) (i : Int) b x.f0 x.f1 x.f2 x.f3) waterfall_money.f (wmoney_eq _) _ ?_ ?_
    · intro hb
      unfold rcErr
      rw [if_pos hb]
      show Ev (fun k => waterfall_Check.j1 k l cs (i : Int) l (l.length : Int) (i : Int) false x.f0 x.f1 x.f2 x.f3) _
      refine Ev.step (fun _ => by rw [waterfall_Check.j1]) ?_
      refine ev_neg (by decide) (ev_bnd (name_ev _) ?_)
      by_cases hn : nameOk x.f2 = true
      · refine ev_pos hn ?_
        rw [if_pos hn, if_pos rfl]
        by_cases h0 : i = 0
        · rw [if_pos h0] at hp
          subst hp
          refine ev_neg (by omega) (ev_pos (by omega) ?_)
          rw [wsucc i (by omega), show aheadO none x = true from rfl, if_pos rfl]
          exact ih
        · rw [if_neg h0] at hp
          subst hp
          refine ev_pos (by omega) ?_
          rw [w64id ((i : Int) - 1) (by omega) (by omega), show (i : Int) - 1 = ((i - 1 : Nat) : Int) by omega]
          refine ev_pos (by omega) (ev_pos (by omega) ?_)
          rw [rdR]
          generalize l.getD (i - 1) z37 = y
          refine ev_val (ahead_eq y x) ?_
          rw [show aheadO (some y) x = aheadB y x from rfl]
          by_cases ha : aheadB y x = true
          · refine ev_pos ha (ev_pos (by omega) ?_)
            rw [wsucc i (by omega), if_pos ha]
            exact ih
          · rw [if_neg ha]
            exact ev_neg ha (ev_some (by rw [if_neg (by decide)]))
      · rw [if_neg hn]
        exact ev_neg hn (ev_some (by rw [if_neg (show ¬ ((10 : Int) = 0) by decide), if_neg (show ¬ ((10 : Int) = 0) by decide)]))
    · intro hb
      have hb' : ¬ rcB x = true := by rw [hb]; decide
      unfold rcErr
      rw [if_neg hb']
      show Ev (fun k => waterfall_Check.j1 k l cs (i : Int) l (l.length : Int) (i : Int) true x.f0 x.f1 x.f2 x.f3) _
      refine Ev.step (fun _ => by rw [waterfall_Check.j1]) ?_
      exact ev_pos rfl (ev_some (by rw [if_neg (show ¬ ((2 : Int) = 0) by decide), if_neg (show ¬ ((2 : Int) = 0) by decide)]))
theorem wcheck_ev (l : List S37) : Ev (fun k => waterfall_Check.f k l) (chk47 l) := by
  unfold waterfall_Check.f chk47
  by_cases h : l.length > 1024
  · rw [if_pos h]; exact ev_pos (by omega) (ev_some rfl)
  · rw [if_neg h]
    refine ev_neg (by omega) ?_
    have := wcheck_go l (by omega) 0 [] (by omega) rfl
    rw [List.drop_zero, show prevO l 0 = none from rfl] at this
    by_cases hc : chkGo none l = 0
    · rw [if_pos hc] at this ⊢
      rwa [sumAns_money _ (fun x hx => by
        unfold centsOf at hx
        obtain ⟨y, hy, rfl⟩ := List.mem_map.1 hx
        exact ((rcB_iff y).1 (rcErr_zero y (chkGo_money _ _ hc y hy)).1).2.2.2.2)] at this
    · rw [if_neg hc] at this ⊢; exact this
/-! ### what a turn takes: all, or parted; a list with zeros around it is parted alike -/
def takeS (left : Int) (p : List Int) : List Int := if isum p ≤ left then p else (splitSpec left p).1
theorem isum_nn (l : List Int) (h : ∀ a ∈ l, 0 ≤ a) : 0 ≤ isum l := by
  have := (isum_take_le l h l.length).1
  rwa [List.take_length] at this
structure MoneyL (p : List Int) : Prop where
  ok : ∀ a ∈ p, 0 ≤ a
  top : isum p ≤ 1152921504606846976
  len : p.length ≤ 1024
theorem MoneyL.each {p : List Int} (h : MoneyL p) (a : Int) (ha : a ∈ p) : 0 ≤ a ∧ a ≤ 1152921504606846976 := ⟨h.ok a ha, Int.le_trans (mem_le_isum p h.ok a ha) h.top⟩
theorem split_val (left : Int) (p : List Int) (h0 : 0 ≤ left) (hp : MoneyL p) (hn : ¬ isum p ≤ left) : splitSpec left p = (splitParts left (isum p) p, 0) := by
  unfold splitSpec
  have ht := hp.top
  rw [if_pos ((okMoney_iff left).2 ⟨h0, by omega⟩), if_neg (by have := hp.len; omega), if_pos (by
    unfold weighedOk
    simp only [Bool.and_eq_true, decide_eq_true_eq, List.all_eq_true]
    exact ⟨fun a ha => (okMoney_iff a).2 (hp.each a ha), ht⟩), if_neg (by omega)]
theorem ceil_le (T A w : Int) (hT : 0 ≤ T) (hA : T < A) (hw : 0 ≤ w) (u : Bool) (hu : u = true → 0 < T * w % A) : 0 ≤ T * w / A + (if u = true then 1 else 0) ∧ T * w / A + (if u = true then 1 else 0) ≤ w := by
  have h1 := Int.mul_ediv_add_emod (T * w) A
  have h2 : 0 ≤ T * w / A := Int.ediv_nonneg (Int.mul_nonneg hT hw) (by omega)
  have h3 : T * w ≤ A * w := Int.mul_le_mul_of_nonneg_right (by omega) hw
  have h4 := Int.emod_nonneg (T * w) (show A ≠ 0 by omega)
  cases u with
  | false =>
    simp only [Bool.false_eq_true, if_false]
    have : A * (T * w / A) ≤ A * w := by omega
    have := Int.le_of_mul_le_mul_left this (by omega)
    omega
  | true =>
    have := hu rfl
    simp only [if_true]
    have : A * (T * w / A) < A * w := by omega
    have := Int.lt_of_mul_lt_mul_left this (by omega)
    omega
theorem take_facts (left : Int) (p : List Int) (h0 : 0 ≤ left) (hp : MoneyL p) : (takeS left p).length = p.length ∧ isum (takeS left p) = (if isum p ≤ left then isum p else left) ∧ ∀ i, i < p.length → 0 ≤ (takeS left p).getD i 0 ∧ (takeS left p).getD i 0 ≤ p.getD i 0 := by
  unfold takeS
  by_cases h : isum p ≤ left
  · rw [if_pos h, if_pos h]
    exact ⟨rfl, rfl, fun i hi => ⟨hp.ok _ (mem_getD p i hi), Int.le_refl _⟩⟩
  · rw [if_neg h, if_neg h, split_val left p h0 hp h]
    obtain ⟨s1, s2, up, s3, _⟩ := split_is left p h0 (by omega) hp.ok
    refine ⟨s1, s2, fun i hi => ?_⟩
    obtain ⟨e, hu⟩ := s3 i hi
    rw [e]
    exact ceil_le left (isum p) _ h0 (by omega) (hp.ok _ (mem_getD p i hi)) _ hu
theorem take_nn (left : Int) (p : List Int) (h0 : 0 ≤ left) (hp : MoneyL p) : ∀ a ∈ takeS left p, 0 ≤ a := by
  obtain ⟨h1, _, h3⟩ := take_facts left p h0 hp
  intro a ha
  obtain ⟨j, hj, rfl⟩ := getD_mem _ a ha
  exact (h3 j (by omega)).1
theorem total_go (l : List Int) (hn : ∀ a ∈ l, 0 ≤ a) (hs : isum l ≤ 4611686018427387904) (hl : l.length ≤ 4611686018427387904) : ∀ (i : Nat) (a : Int), i ≤ l.length → a = isum (l.take i) → Ev (fun k => waterfall_total.l0 k a l (l.length : Int) (i : Int)) (isum l) := by
  refine ev_down (S := Int) (g := fun k i a => waterfall_total.l0 k a l (l.length : Int) (i : Int)) (spec := fun _ _ => isum l) (inv := fun i a => a = isum (l.take i)) ?_ ?_
  · intro a ha
    rw [List.take_length] at ha
    exact Ev.step (fun _ => rfl) (ev_neg (by omega) (ev_some ha))
  · intro i a hi ha ih
    have h1 := isum_take_le l hn i
    have h2 := isum_take_le l hn (i + 1)
    have h3 := isum_succ l i hi
    refine Ev.step (fun _ => rfl) (ev_pos (by omega) (ev_pos (by omega) (ev_pos (by omega) ?_)))
    rw [w64id (a + _) (by omega) (by omega), wsucc i (by omega)]
    exact ih _ (by omega)
theorem total_ev (l : List Int) (hn : ∀ a ∈ l, 0 ≤ a) (hs : isum l ≤ 4611686018427387904) (hl : l.length ≤ 4611686018427387904) : Ev (fun k => waterfall_total.f k l) (isum l) := total_go l hn hs hl 0 0 (by omega) rfl
theorem takeF_ev (left : Int) (p : List Int) (h0 : 0 ≤ left) (h1 : left ≤ 1152921504606846976) (hp : MoneyL p) : Ev (fun k => takeF k left p) (takeS left p, left - isum (takeS left p)) := by
  have ht := hp.top
  have hl := hp.len
  have h2 := isum_nn p hp.ok
  obtain ⟨f1, f2, f3⟩ := take_facts left p h0 hp
  have f4 := take_nn left p h0 hp
  unfold takeF
  refine ev_bnd (total_ev p hp.ok (by omega) (by omega)) ?_
  unfold takeS at *
  by_cases h : isum p ≤ left
  · rw [if_pos h] at f1 f2 f4 ⊢
    refine ev_neg (by omega) (ev_bnd (total_ev p hp.ok (by omega) (by omega)) (ev_some ?_))
    rw [w64id _ (by omega) (by omega)]
  · rw [if_neg h] at f1 f4 f2 ⊢
    rw [if_neg h] at f2
    refine ev_pos (by omega) (ev_val (split_spec left p) ?_)
    refine ev_bnd (total_ev _ f4 (by omega) (by omega)) (ev_some ?_)
    rw [w64id _ (by omega) (by omega)]
/-! ### one split alone -/
/-! ### zeros around a list -/
def padL (n a : Nat) (p : List Int) : List Int := List.replicate a 0 ++ p ++ List.replicate (n - a - p.length) 0
theorem pad_len (n a : Nat) (p : List Int) (h : a + p.length ≤ n) : (padL n a p).length = n := by
  unfold padL; simp; omega
theorem isum_zeros (n : Nat) : isum (List.replicate n 0) = 0 := by
  induction n with
  | zero => rfl
  | succ n ih => rw [List.replicate_succ, isum, ih]; rfl
theorem isum_pad (n a : Nat) (p : List Int) : isum (padL n a p) = isum p := by
  unfold padL; rw [isum_append, isum_append, isum_zeros, isum_zeros]; omega
theorem pad_getD (n a : Nat) (p : List Int) (i : Nat) : (padL n a p).getD i 0 = if a ≤ i ∧ i < a + p.length then p.getD (i - a) 0 else 0 := by
  unfold padL
  simp only [List.getD_eq_getElem?_getD, List.getElem?_append, List.length_append, List.length_replicate, List.getElem?_replicate]
  by_cases h1 : i < a
  · rw [if_pos (show i < a + p.length by omega), if_neg (show ¬ (a ≤ i ∧ i < a + p.length) by omega)]
    simp [h1]
  · by_cases h2 : i < a + p.length
    · rw [if_pos h2, if_neg h1, if_pos (show a ≤ i ∧ i < a + p.length from ⟨by omega, h2⟩)]
    · rw [if_neg h2, if_neg (show ¬ (a ≤ i ∧ i < a + p.length) by omega)]
      split <;> rfl
/-! ### turns -/
def sameT (a b : S37) : Bool := decide (a.f0 = b.f0) && decide (a.f1 = b.f1)
theorem sameT_iff (a b : S37) : sameT a b = true ↔ a.f0 = b.f0 ∧ a.f1 = b.f1 := by unfold sameT; simp only [Bool.and_eq_true, decide_eq_true_eq]
theorem turn_eq (a b : S37) : cr47_Turn.f a.f0 a.f1 a.f2 a.f3 b.f0 b.f1 b.f2 b.f3 = some (sameT a b) := by
  unfold cr47_Turn.f sameT
  by_cases h : a.f0 = b.f0
  · rw [if_pos h, decide_eq_true h, Bool.true_and, Bool.beq_eq_decide_eq]
  · rw [if_neg h, decide_eq_false h]; rfl
def startB (l : List S37) (i : Nat) : Bool := decide (i = 0) || !(sameT (l.getD (i - 1) z37) (l.getD i z37))
def bndsGo (l : List S37) : Nat → Nat → List Int
  | 0, _ => [(l.length : Int)]
  | d + 1, i => if startB l i = true then (i : Int) :: bndsGo l d (i + 1) else bndsGo l d (i + 1)
def bnds (l : List S37) (i : Nat) : List Int := bndsGo l (l.length - i) i
def nbGo (l : List S37) : Nat → Nat → Nat
  | 0, _ => l.length
  | d + 1, i => if startB l i = true then i else nbGo l d (i + 1)
def nb (l : List S37) (i : Nat) : Nat := nbGo l (l.length - i) i
theorem bnds_end (l : List S37) : bnds l l.length = [(l.length : Int)] := by unfold bnds; rw [Nat.sub_self]; rfl
theorem nb_end (l : List S37) : nb l l.length = l.length := by unfold nb; rw [Nat.sub_self]; rfl
theorem bnds_step (l : List S37) (i : Nat) (h : i < l.length) : bnds l i = if startB l i = true then (i : Int) :: bnds l (i + 1) else bnds l (i + 1) := by
  unfold bnds; rw [show l.length - i = (l.length - (i + 1)) + 1 by omega]; rfl
theorem nb_step (l : List S37) (i : Nat) (h : i < l.length) : nb l i = if startB l i = true then i else nb l (i + 1) := by
  unfold nb; rw [show l.length - i = (l.length - (i + 1)) + 1 by omega]; rfl
theorem down_ind {n : Nat} {P : Nat → Prop} (h0 : P n) (hs : ∀ i, i < n → P (i + 1) → P i) : ∀ i, i ≤ n → P i := by
  intro i hi
  generalize hd : n - i = d
  induction d generalizing i with
  | zero => obtain rfl : i = n := by omega
            exact h0
  | succ d ih => exact hs i (by omega) (ih (i + 1) (by omega) (by omega))
theorem nb_facts (l : List S37) : ∀ i, i ≤ l.length → i ≤ nb l i ∧ nb l i ≤ l.length ∧ (∀ j, i ≤ j → j < nb l i → startB l j = false) ∧ (nb l i < l.length → startB l (nb l i) = true) ∧ bnds l i = (nb l i : Int) :: (if nb l i < l.length then bnds l (nb l i + 1) else []) := by
  refine down_ind ?_ ?_
  · rw [nb_end, bnds_end, if_neg (by omega)]
    exact ⟨by omega, by omega, fun j h1 h2 => by omega, fun h => by omega, rfl⟩
  · intro i hi ih
    rw [nb_step l i hi, bnds_step l i hi]
    cases hs : startB l i with
    | true =>
      simp only [if_true]
      exact ⟨by omega, by omega, fun j h1 h2 => by omega, fun _ => hs, by rw [if_pos hi]⟩
    | false =>
      simp only [Bool.false_eq_true, if_false]
      obtain ⟨a1, a2, a3, a4, a5⟩ := ih
      refine ⟨by omega, a2, fun j h1 h2 => ?_, a4, a5⟩
      by_cases hj : j = i
      · subst hj; exact hs
      · exact a3 j (by omega) h2
theorem turns_go (l : List S37) (hl : l.length ≤ 1024) : ∀ (i : Nat) (acc : List Int), i ≤ l.length → acc.length ≤ i → Ev (fun k => waterfall_turns.l0 k l acc l (l.length : Int) (i : Int)) (acc ++ bnds l i) := by
  refine ev_down (S := List Int) (g := fun k i acc => waterfall_turns.l0 k l acc l (l.length : Int) (i : Int)) (spec := fun i acc => acc ++ bnds l i) (inv := fun i acc => acc.length ≤ i) ?_ ?_
  · intro acc ha
    exact Ev.step (fun _ => rfl) (ev_neg (by omega) (ev_pos (by omega) (ev_some (by rw [bnds_end]))))
  · intro i acc hi ha ih
    refine Ev.step (fun _ => rfl) (ev_pos (by omega) (ev_pos (by omega) (ev_pos (by omega) ?_)))
    rw [bnds_step l i hi]
    have i1 := ih (acc ++ [(i : Int)]) (by rw [List.length_append, List.length_singleton]; omega)
    have i2 := ih acc (by omega)
    rw [List.append_assoc, List.singleton_append] at i1
    by_cases h0 : i = 0
    · refine ev_pos (by omega) (ev_pos (by omega) ?_)
      rw [show startB l i = true by unfold startB; rw [decide_eq_true h0]; rfl, if_pos rfl, wsucc i (by omega)]
      exact i1
    · refine ev_neg (by omega) ?_
      rw [w64id ((i : Int) - 1) (by omega) (by omega), show (i : Int) - 1 = ((i - 1 : Nat) : Int) by omega]
      refine ev_pos (by omega) (ev_pos (by omega) ?_)
      rw [rdR, rdR, wsucc i (by omega)]
      have hst : startB l i = !(sameT (l.getD (i - 1) z37) (l.getD i z37)) := by unfold startB; rw [decide_eq_false h0, Bool.false_or]
      rw [hst]
      by_cases b1 : (l.getD i z37).f0 = (l.getD (i - 1) z37).f0
      · refine ev_pos b1 ?_
        by_cases b2 : (l.getD i z37).f1 = (l.getD (i - 1) z37).f1
        · refine ev_pos b2 ?_
          rw [(sameT_iff _ _).2 ⟨b1.symm, b2.symm⟩]
          exact i2
        · refine ev_neg b2 (ev_pos (by omega) ?_)
          rw [show sameT (l.getD (i - 1) z37) (l.getD i z37) = false by rw [Bool.eq_false_iff]; intro h; exact b2 ((sameT_iff _ _).1 h).2.symm]
          exact i1
      · refine ev_neg b1 (ev_pos (by omega) ?_)
        rw [show sameT (l.getD (i - 1) z37) (l.getD i z37) = false by rw [Bool.eq_false_iff]; intro h; exact b1 ((sameT_iff _ _).1 h).1.symm]
        exact i1
theorem turns_ev (l : List S37) (hl : l.length ≤ 1024) : Ev (fun k => waterfall_turns.f k l) (bnds l 0) := turns_go l hl 0 [] (by omega) (by simp)
/-! ### the order -/
structure Rows (l : List S37) : Prop where
  len : l.length ≤ 1024
  row : ∀ i, i < l.length → rcB (l.getD i z37) = true
  top : isum (centsOf l) ≤ 1152921504606846976
  ord : ∀ i, 0 < i → i < l.length → aheadB (l.getD (i - 1) z37) (l.getD i z37) = true
theorem chkGo_ord : ∀ (p : Option S37) (l : List S37), chkGo p l = 0 → ∀ i, i < l.length → aheadO (if i = 0 then p else some (l.getD (i - 1) z37)) (l.getD i z37) = true
  | _, [], _ => by simp
  | p, x :: l, h => by
    rw [chkGo] at h
    by_cases h1 : rcErr x = 0
    · rw [if_pos h1] at h
      by_cases h2 : aheadO p x = true
      · rw [if_pos h2] at h
        intro i hi
        cases i with
        | zero => exact h2
        | succ i =>
          have := chkGo_ord _ l h i (by simpa using hi)
          rw [if_neg (by omega)]
          cases i with
          | zero => exact this
          | succ i => rw [if_neg (by omega)] at this; exact this
      · rw [if_neg h2] at h; cases h
    · rw [if_neg h1] at h; exact absurd h h1
theorem chk_rows (l : List S37) (h : chk47 l = 0) : Rows l := by
  unfold chk47 at h
  by_cases h1 : l.length > 1024
  · rw [if_pos h1] at h; cases h
  · rw [if_neg h1] at h
    by_cases h2 : chkGo none l = 0
    · rw [if_pos h2] at h
      by_cases h3 : isum (centsOf l) ≤ 1152921504606846976
      · refine ⟨by omega, fun i hi => (rcErr_zero _ (chkGo_money _ _ h2 _ (getD_mem' z37 l i hi))).1, h3, fun i h0 hi => ?_⟩
        have := chkGo_ord none l h2 i hi
        rwa [if_neg (by omega)] at this
      · rw [if_neg h3] at h; cases h
    · rw [if_neg h2] at h; exact absurd h h2
def keyT (x : S37) : Int := x.f0 * 16 + x.f1
theorem same_key (a b : S37) (ha : rcB a = true) (hb : rcB b = true) : sameT a b = true ↔ keyT a = keyT b := by
  have h1 := (rcB_iff a).1 ha
  have h2 := (rcB_iff b).1 hb
  rw [sameT_iff]; unfold keyT; omega
theorem ahead_key (a b : S37) (ha : rcB a = true) (hb : rcB b = true) (h : aheadB a b = true) : keyT a ≤ keyT b := by
  have h1 := (rcB_iff a).1 ha
  have h2 := (rcB_iff b).1 hb
  unfold aheadB at h
  unfold keyT
  by_cases c1 : a.f0 = b.f0
  · rw [if_pos c1] at h
    by_cases c2 : a.f1 = b.f1
    · omega
    · rw [if_neg c2] at h; have := of_decide_eq_true h; omega
  · rw [if_neg c1] at h; have := of_decide_eq_true h; omega
theorem Rows.mono {l : List S37} (R : Rows l) (i : Nat) : ∀ j, i ≤ j → j < l.length → keyT (l.getD i z37) ≤ keyT (l.getD j z37) := by
  intro j hij hj
  induction j with
  | zero => obtain rfl : i = 0 := by omega
            exact Int.le_refl _
  | succ j ih =>
    by_cases h : i = j + 1
    · subst h; exact Int.le_refl _
    · have h1 := ih (by omega) (by omega)
      have h2 := ahead_key _ _ (R.row j (by omega)) (R.row (j + 1) hj) (R.ord (j + 1) (by omega) hj)
      omega
theorem start_key {l : List S37} (R : Rows l) (i : Nat) (h0 : 0 < i) (hi : i < l.length) : startB l i = true ↔ keyT (l.getD (i - 1) z37) < keyT (l.getD i z37) := by
  have h1 := R.mono (i - 1) i (by omega) hi
  have h2 := same_key _ _ (R.row (i - 1) (by omega)) (R.row i hi)
  unfold startB
  rw [decide_eq_false (by omega : ¬ i = 0), Bool.false_or, Bool.not_eq_true']
  rw [Bool.eq_false_iff, ne_eq, h2]; omega
/-- who is of the turn that begins at i -/
theorem turn_at {l : List S37} (R : Rows l) (i : Nat) (hi : i < l.length) (hs : startB l i = true) (j : Nat) (hj : j < l.length) : sameT (l.getD j z37) (l.getD i z37) = true ↔ i ≤ j ∧ j < nb l (i + 1) := by
  rw [same_key _ _ (R.row j hj) (R.row i hi)]
  obtain ⟨n1, n2, n3, n4, _⟩ := nb_facts l (i + 1) (by omega)
  constructor
  · intro h
    constructor
    · by_cases hji : i ≤ j
      · exact hji
      · have h1 := (start_key R i (by omega) hi).1 hs
        have h2 := R.mono j (i - 1) (by omega) (by omega)
        omega
    · by_cases hb : j < nb l (i + 1)
      · exact hb
      · have h1 := (start_key R (nb l (i + 1)) (by omega) (by omega)).1 (n4 (by omega))
        have h2 := R.mono (nb l (i + 1)) j (by omega) hj
        have h3 := R.mono i (nb l (i + 1) - 1) (by omega) (by omega)
        omega
  · rintro ⟨h1, h2⟩
    clear hj
    induction j with
    | zero => obtain rfl : i = 0 := by omega
              rfl
    | succ j ih =>
      by_cases h : i = j + 1
      · subst h; rfl
      · have ih := ih (by omega) (by omega)
        have h3 := n3 (j + 1) (by omega) h2
        have h4 := (start_key R (j + 1) (by omega) (by omega))
        rw [h3] at h4
        have h5 := R.mono j (j + 1) (by omega) (by omega)
        have h6 : ¬ keyT (l.getD (j + 1 - 1) z37) < keyT (l.getD (j + 1) z37) := fun h => by cases h4.2 h
        rw [show j + 1 - 1 = j by omega] at h6
        omega
/-! ### losses, turn by turn -/
def absS (has : List Int) : List Int → List Int → Int → List Int × Int
  | a :: b :: r, out, left => if 0 < left then absS has (b :: r) (overlay out a.toNat (takeS left ((has.take b.toNat).drop a.toNat))) (left - isum (takeS left ((has.take b.toNat).drop a.toNat))) else (out, left)
  | _, out, left => (out, left)
theorem absS_stop (has L out : List Int) (left : Int) (h : ¬ 0 < left) : absS has L out left = (out, left) := by
  match L with
  | [] => rfl
  | [_] => rfl
  | a :: b :: r => rw [absS, if_neg h]
def Inc (n : Nat) : List Int → Prop
  | a :: b :: r => 0 ≤ a ∧ a < b ∧ b ≤ (n : Int) ∧ Inc n (b :: r)
  | _ => True
theorem bnds_inc (l : List S37) : ∀ i, i ≤ l.length → Inc l.length (bnds l i) := by
  refine down_ind ?_ ?_
  · rw [bnds_end]; trivial
  · intro i hi ih
    rw [bnds_step l i hi]
    split
    · obtain ⟨n1, n2, _, _, n5⟩ := nb_facts l (i + 1) (by omega)
      rw [n5] at ih ⊢
      exact ⟨by omega, by omega, by omega, ih⟩
    · exact ih
theorem isum_drop (l : List Int) (a : Nat) : isum l = isum (l.take a) + isum (l.drop a) := by
  rw [← isum_append, List.take_append_drop]
theorem piece_len (has : List Int) (a b : Nat) (h : b ≤ has.length) : ((has.take b).drop a).length = b - a := by
  rw [List.length_drop, List.length_take]; omega
theorem piece_getD (has : List Int) (a b j : Nat) (h : j < b - a) : ((has.take b).drop a).getD j 0 = has.getD (a + j) 0 := by
  rw [List.getD_eq_getElem?_getD, List.getD_eq_getElem?_getD, List.getElem?_drop, List.getElem?_take, if_pos (by omega)]
theorem piece_money (has : List Int) (hm : MoneyL has) (a b : Nat) : MoneyL ((has.take b).drop a) := by
  have hok : ∀ x ∈ has.take b, 0 ≤ x := fun x hx => hm.ok x (List.mem_of_mem_take hx)
  refine ⟨fun x hx => hok x (List.mem_of_mem_drop hx), ?_, ?_⟩
  · have h1 := isum_drop (has.take b) a
    have h2 := (isum_take_le _ hok a).1
    have h3 := (isum_take_le has hm.ok b).2
    have h4 := hm.top
    omega
  · rw [List.length_drop, List.length_take]; have := hm.len; omega
theorem overlay_len (out p : List Int) (a : Nat) (h : a + p.length ≤ out.length) : (overlay out a p).length = out.length := by
  unfold overlay; simp; omega
theorem overlay_getD (out p : List Int) (a : Nat) (h : a + p.length ≤ out.length) (i : Nat) : (overlay out a p).getD i 0 = if a ≤ i ∧ i < a + p.length then p.getD (i - a) 0 else out.getD i 0 := by
  unfold overlay
  simp only [List.getD_eq_getElem?_getD, List.getElem?_append, List.length_append, List.length_take, List.getElem?_take, List.getElem?_drop]
  rw [show min a out.length = a by omega]
  by_cases h1 : i < a
  · rw [if_pos (show i < a + p.length by omega), if_neg (show ¬ (a ≤ i ∧ i < a + p.length) by omega), if_pos h1, if_pos h1]
  · by_cases h2 : i < a + p.length
    · rw [if_pos h2, if_neg h1, if_pos (show a ≤ i ∧ i < a + p.length from ⟨by omega, h2⟩)]
    · rw [if_neg h2, if_neg (show ¬ (a ≤ i ∧ i < a + p.length) by omega), show a + p.length + (i - (a + p.length)) = i by omega]
theorem abs_ev (has : List Int) (hm : MoneyL has) : ∀ (L out : List Int) (left : Int), Inc has.length L → out.length = has.length → 0 ≤ left → left ≤ 1152921504606846976 → Ev (fun k => absGo k has L out left) (absS has L out left)
  | [], out, left, _, _, _, _ => Ev.now _
  | [_], out, left, _, _, _, _ => Ev.now _
  | a :: b :: r, out, left, hI, ho, h0, h1 => by
    obtain ⟨i1, i2, i3, hI⟩ := hI
    simp only [absGo, absS]
    by_cases hl : 0 < left
    · rw [if_pos hl]
      refine ev_pos hl (ev_pos ⟨i1, i2, i3, by omega⟩ ?_)
      have hp := piece_money has hm a.toNat b.toNat
      have hpl := piece_len has a.toNat b.toNat (by omega)
      generalize (has.take b.toNat).drop a.toNat = p at *
      obtain ⟨f1, f2, f3⟩ := take_facts left p h0 hp
      have f4 := isum_nn _ (take_nn left p h0 hp)
      have f5 := isum_nn p hp.ok
      refine ev_bnd (takeF_ev left p h0 h1 hp) (ev_pos (by simp only; omega) ?_)
      exact abs_ev has hm (b :: r) _ _ hI (by rw [overlay_len _ _ _ (by simp only; omega), ho]) (by simp only; split at f2 <;> omega) (by simp only; omega)
    · rw [if_neg hl]; exact ev_neg hl (ev_some rfl)
theorem rd_set_tab (l : List S37) (n : Nat) (hn : n = l.length) : centsOf l = tab n (fun j => (l.getD j z37).f3) := by
  subst hn
  refine list_ext _ _ (by unfold centsOf; rw [List.length_map, tab_len]) fun i hi => ?_
  unfold centsOf at hi ⊢
  rw [List.length_map] at hi
  rw [tab_getD _ _ _ hi, List.getD_eq_getElem?_getD, List.getElem?_map, List.getElem?_eq_getElem hi, List.getD_eq_getElem?_getD, List.getElem?_eq_getElem hi]; rfl
theorem cents_getD (l : List S37) (i : Nat) (hi : i < l.length) : (centsOf l).getD i 0 = (l.getD i z37).f3 := by
  rw [rd_set_tab l _ rfl, tab_getD _ _ _ hi]
theorem cents_len (l : List S37) : (centsOf l).length = l.length := by unfold centsOf; rw [List.length_map]
theorem Rows.money {l : List S37} (R : Rows l) : MoneyL (centsOf l) := by
  refine ⟨fun a ha => ?_, R.top, by rw [cents_len]; exact R.len⟩
  obtain ⟨j, hj, rfl⟩ := getD_mem _ a ha
  rw [cents_len] at hj
  rw [cents_getD l j hj]
  exact ((okMoney_iff _).1 ((rcB_iff _).1 (R.row j hj)).2.2.2.2).1
/-! ### the document's loop -/
def partF (l : List S37) (m : List Int) (at_ : Nat) (j : Nat) : Int := if sameT (l.getD j z37) (l.getD at_ z37) = true then m.getD j 0 else 0
theorem part_pad {l : List S37} (R : Rows l) (m : List Int) (hm : m.length = l.length) (i : Nat) (hi : i < l.length) (hs : startB l i = true) : tab l.length (partF l m i) = padL l.length i ((m.take (nb l (i + 1))).drop i) := by
  obtain ⟨n1, n2, _⟩ := nb_facts l (i + 1) (by omega)
  have hpl := piece_len m i (nb l (i + 1)) (by omega)
  refine list_ext _ _ (by rw [tab_len, pad_len _ _ _ (by omega)]) fun j hj => ?_
  rw [tab_len] at hj
  rw [tab_getD _ _ _ hj, pad_getD, hpl]
  unfold partF
  have ht := turn_at R i hi hs j hj
  by_cases h : i ≤ j ∧ j < nb l (i + 1)
  · rw [if_pos (ht.2 h), if_pos (by omega), piece_getD _ _ _ _ (by omega), show i + (j - i) = j by omega]
  · rw [if_neg (fun e => h (ht.1 e)), if_neg (by omega)]
structure AbsInv (n z : Nat) (out : List Int) (left : Int) : Prop where
  len : out.length = n
  l0 : 0 ≤ left
  l1 : left ≤ 1152921504606846976
  row : ∀ j, j < n → 0 ≤ out.getD j 0 ∧ out.getD j 0 ≤ 1152921504606846976
  zero : ∀ j, z ≤ j → out.getD j 0 = 0
theorem AbsInv.step {n a b : Nat} {out p : List Int} {left : Int} (I : AbsInv n a out left) (hp : MoneyL p) (hpl : p.length = b - a) (hab : a < b) (hb : b ≤ n) : AbsInv n b (overlay out a (takeS left p)) (left - isum (takeS left p)) := by
  obtain ⟨f1, f2, f3⟩ := take_facts left p I.l0 hp
  have f4 := isum_nn _ (take_nn left p I.l0 hp)
  have f5 := isum_nn p hp.ok
  have hl := I.len
  have h0 := I.l0
  have h1 := I.l1
  refine ⟨by rw [overlay_len _ _ _ (by omega)]; exact hl, by split at f2 <;> omega, by omega, fun j hj => ?_, fun j hj => ?_⟩
  · rw [overlay_getD _ _ _ (by omega)]
    by_cases hw : a ≤ j ∧ j < a + (takeS left p).length
    · rw [if_pos hw]
      have := f3 (j - a) (by omega)
      have := hp.each _ (mem_getD p (j - a) (by omega))
      omega
    · rw [if_neg hw]; exact I.row j hj
  · rw [overlay_getD _ _ _ (by omega), if_neg (by omega)]
    exact I.zero j (by omega)
theorem amounts_go (l : List S37) (hl : l.length ≤ 1024) : ∀ (i : Nat) (out : List Int), i ≤ l.length → out = tab l.length (fun j => if j < i then (l.getD j z37).f3 else 0) → Ev (fun k => waterfall_amounts.l0 k out l (l.length : Int) (i : Int)) (centsOf l) := by
  refine ev_down (S := List Int) (g := fun k i out => waterfall_amounts.l0 k out l (l.length : Int) (i : Int)) (spec := fun _ _ => centsOf l) (inv := fun i out => out = tab l.length (fun j => if j < i then (l.getD j z37).f3 else 0)) ?_ ?_
  · intro out ho
    refine Ev.step (fun _ => rfl) (ev_neg (by omega) (ev_some ?_))
    rw [ho, rd_set_tab l _ rfl]
    exact tab_congr _ _ _ fun j hj => by rw [if_pos hj]
  · intro i out hi ho ih
    refine Ev.step (fun _ => rfl) (ev_pos (by omega) (ev_pos (by omega) (ev_pos (by omega) (ev_pos (by rw [ho, tab_len]; omega) ?_))))
    rw [rdR, wsucc i (by omega), Int.toNat_natCast]
    refine ih _ ?_
    rw [ho, tab_set]
    refine tab_congr _ _ _ fun j hj => ?_
    by_cases h1 : j = i
    · subst h1; rw [if_pos rfl, if_pos (by omega)]
    · rw [if_neg h1]
      by_cases h2 : j < i
      · rw [if_pos h2, if_pos (by omega)]
      · rw [if_neg h2, if_neg (by omega)]
theorem amounts_ev (l : List S37) (hl : l.length ≤ 1024) : Ev (fun k => waterfall_amounts.f k l) (centsOf l) := by
  unfold waterfall_amounts.f
  refine ev_pos (by omega) (ev_pos (by rw [Int.toNat_natCast]; omega) ?_)
  rw [Int.toNat_natCast, tab_zero]
  exact amounts_go l hl 0 _ (by omega) (tab_congr _ _ _ fun j hj => by rw [if_neg (by omega)])
def absAns (loss : Int) (l : List S37) : List Int × Int × Int := if chk47 l = 0 then (if okMoney loss = true then ((absS (centsOf l) (bnds l 0) (List.replicate l.length 0) loss).1, (absS (centsOf l) (bnds l 0) (List.replicate l.length 0) loss).2, 0) else ([], 0, 2)) else ([], 0, chk47 l)
theorem absorb_ev (loss : Int) (l : List S37) : Ev (fun k => waterfall_Absorb.f k loss l) (absAns loss l) := by
  unfold waterfall_Absorb.f absAns
  refine ev_bnd (wcheck_ev l) ?_
  by_cases hc : chk47 l = 0
  · rw [if_pos hc]
    have R := chk_rows l hc
    have hl := R.len
    refine ev_pos hc (ev_val (wmoney_eq loss) ?_)
    by_cases hm : okMoney loss = true
    · rw [if_pos hm]
      have hm2 := (okMoney_iff loss).1 hm
      refine ev_pos hm (ev_pos hl (ev_bnd (amounts_ev l hl) (ev_bnd (turns_ev l hl) ?_)))
      have hbl : 0 < (bnds l 0).length ∧ (bnds l 0).length ≤ 1048576 := by
        have : ∀ i, i ≤ l.length → 0 < (bnds l i).length ∧ (bnds l i).length ≤ l.length - i + 1 := by
          refine down_ind ?_ ?_
          · rw [bnds_end]; simp
          · intro i hi ih
            rw [bnds_step l i hi]
            split
            · rw [List.length_cons]; omega
            · omega
        have := this 0 (by omega)
        omega
      refine ev_pos hbl (ev_bnd (abs_ev (centsOf l) R.money (bnds l 0) (List.replicate l.length 0) loss (by rw [cents_len]; exact bnds_inc l 0 (by omega)) (by rw [List.length_replicate, cents_len]) hm2.1 hm2.2) (ev_some rfl))
    · rw [if_neg hm]; exact ev_neg hm (ev_some rfl)
  · rw [if_neg hc]; exact ev_neg hc (ev_some rfl)
/-! ### may numbers be what was paid? -/
def badFrom (l : List S37) (paid : List Int) : Nat → Nat → Bool
  | 0, _ => false
  | d + 1, i => (decide (paid.getD i 0 < 0) || decide (paid.getD i 0 > (l.getD i z37).f3)) || badFrom l paid d (i + 1)
def right47 (l : List S37) (paid : List Int) : Int := if chk47 l = 0 then (if paid.length = l.length then (if badFrom l paid l.length 0 = true then 2 else 0) else 2) else chk47 l
theorem bad_not (l : List S37) (paid : List Int) : ∀ d i, badFrom l paid d i = false → ∀ j, i ≤ j → j < i + d → 0 ≤ paid.getD j 0 ∧ paid.getD j 0 ≤ (l.getD j z37).f3
  | 0, i, _, j, h1, h2 => by omega
  | d + 1, i, h, j, h1, h2 => by
    rw [badFrom, Bool.or_eq_false_iff, Bool.or_eq_false_iff, decide_eq_false_iff_not, decide_eq_false_iff_not] at h
    by_cases hj : j = i
    · subst hj; omega
    · exact bad_not l paid d (i + 1) h.2 j (by omega) (by omega)
structure Paid (l : List S37) (paid : List Int) : Prop extends Rows l where
  plen : paid.length = l.length
  each : ∀ j, j < l.length → 0 ≤ paid.getD j 0 ∧ paid.getD j 0 ≤ (l.getD j z37).f3
theorem right_paid (l : List S37) (paid : List Int) (h : right47 l paid = 0) : Paid l paid := by
  unfold right47 at h
  by_cases h1 : chk47 l = 0
  · rw [if_pos h1] at h
    by_cases h2 : paid.length = l.length
    · rw [if_pos h2] at h
      cases h3 : badFrom l paid l.length 0 with
      | true => rw [h3, if_pos rfl] at h; cases h
      | false => exact { toRows := chk_rows l h1, plen := h2, each := fun j hj => bad_not l paid _ _ h3 j (by omega) (by omega) }
    · rw [if_neg h2] at h; cases h
  · rw [if_neg h1] at h; exact absurd h h1
theorem wbad_go (l : List S37) (paid : List Int) (hl : l.length ≤ 1024) (hp : paid.length = l.length) : ∀ (i : Nat) (u : Unit), i ≤ l.length → True → Ev (fun k => waterfall_check.l0 k l paid (paid.length : Int) (i : Int)) (if badFrom l paid (l.length - i) i = true then 2 else 0) := by
  refine ev_down (S := Unit) (g := fun k i _ => waterfall_check.l0 k l paid (paid.length : Int) (i : Int)) (spec := fun i _ => if badFrom l paid (l.length - i) i = true then 2 else 0) (inv := fun _ _ => True) ?_ ?_
  · intro _ _
    refine Ev.step (fun _ => by rw [waterfall_check.l0]) ?_
    exact ev_neg (by omega) (ev_some (by rw [Nat.sub_self]; rfl))
  · intro i _ hi _ ih
    have ih := ih () trivial
    refine Ev.step (fun _ => by rw [waterfall_check.l0]) ?_
    refine ev_pos (by omega) (ev_pos (by omega) (ev_pos (by omega) ?_))
    rw [show l.length - i = (l.length - (i + 1)) + 1 by omega, badFrom, rdR, rd_nat, wsucc i (by omega)]
    by_cases h1 : paid.getD i 0 < 0
    · exact ev_pos h1 (ev_some (by rw [decide_eq_true h1]; rfl))
    · refine ev_neg h1 (ev_pos (by omega) ?_)
      rw [decide_eq_false h1, Bool.false_or]
      by_cases h2 : paid.getD i 0 > (l.getD i z37).f3
      · exact ev_pos h2 (ev_some (by rw [decide_eq_true h2]; rfl))
      · rw [decide_eq_false h2, Bool.false_or]
        exact ev_neg h2 ih
theorem wcheckp_ev (l : List S37) (paid : List Int) (n : Int) : Ev (fun k => waterfall_check.f k l paid n) (if chk47 l = 0 then (if okMoney n = true then right47 l paid else 2) else chk47 l) := by
  unfold waterfall_check.f
  refine ev_bnd (wcheck_ev l) ?_
  by_cases hc : chk47 l = 0
  · rw [if_pos hc]
    have hl := (chk_rows l hc).len
    refine ev_pos hc (ev_val (wmoney_eq n) ?_)
    by_cases hm : okMoney n = true
    · rw [if_pos hm]
      refine ev_pos hm ?_
      refine Ev.step (fun _ => by rw [waterfall_check.j0]) ?_
      unfold right47
      rw [if_pos hc]
      by_cases hp : paid.length = l.length
      · rw [if_pos hp]
        refine ev_neg (by simp [hp]) ?_
        exact wbad_go l paid hl hp 0 () (by omega) trivial
      · rw [if_neg hp]
        exact ev_pos (by simp; omega) (ev_some rfl)
    · rw [if_neg hm]
      refine ev_neg hm ?_
      exact Ev.step (fun _ => by rw [waterfall_check.j0]) (ev_pos rfl (ev_some rfl))
  · rw [if_neg hc]; exact ev_neg hc (ev_some rfl)
theorem money0 : okMoney 0 = true := by decide
theorem right_chk (l : List S37) (paid : List Int) : (if chk47 l = 0 then (if okMoney 0 = true then right47 l paid else 2) else chk47 l) = right47 l paid := by
  by_cases h : chk47 l = 0
  · rw [if_pos h, if_pos money0]
  · rw [if_neg h]; unfold right47; rw [if_neg h]
theorem Paid.money {l : List S37} {paid : List Int} (F : Paid l paid) : MoneyL paid := by
  have hc := F.toRows.money
  refine ⟨fun a ha => ?_, ?_, by rw [F.plen]; exact F.len⟩
  · obtain ⟨j, hj, rfl⟩ := getD_mem _ a ha
    exact (F.each j (by rw [← F.plen]; exact hj)).1
  · have := sumTo_le (fun j => paid.getD j 0) (fun j => (centsOf l).getD j 0) l.length (fun j hj => by rw [cents_getD l j hj]; exact (F.each j hj).2)
    rw [← F.plen, ← isum_sumTo, F.plen, ← cents_len l, ← isum_sumTo] at this
    have := hc.top
    omega
/-! ### what comes back, the last turn first -/
def bdB (l : List S37) (q : Nat) : Bool := decide (q = l.length) || startB l q
def psC (l : List S37) : Nat → Nat × Nat
  | 0 => (0, 0)
  | q + 1 => if bdB l (q + 1) = true then (q + 1, (psC l q).2 + 1) else psC l q
theorem ps_facts (l : List S37) : ∀ q, (psC l q).1 ≤ q ∧ (bdB l (psC l q).1 = true ∨ (psC l q).1 = 0) ∧ ∀ j, (psC l q).1 < j → j ≤ q → bdB l j = false
  | 0 => ⟨by simp [psC], .inr rfl, fun j h1 h2 => by omega⟩
  | q + 1 => by
    obtain ⟨h1, h2, h3⟩ := ps_facts l q
    rw [psC]
    cases hb : bdB l (q + 1) with
    | true =>
      simp only [if_true]
      exact ⟨by omega, .inl hb, fun j h1 h2 => by omega⟩
    | false =>
      simp only [Bool.false_eq_true, if_false]
      refine ⟨by omega, h2, fun j h4 h5 => ?_⟩
      by_cases hj : j = q + 1
      · subst hj; exact hb
      · exact h3 j h4 (by omega)
structure RetInv (n z : Nat) (out : List Int) (left : Int) : Prop where
  len : out.length = n
  l0 : 0 ≤ left
  l1 : left ≤ 1152921504606846976
  row : ∀ j, j < n → 0 ≤ out.getD j 0 ∧ out.getD j 0 ≤ 1152921504606846976
  zero : ∀ j, j < z → out.getD j 0 = 0
theorem RetInv.step {n a b : Nat} {out p : List Int} {left : Int} (I : RetInv n b out left) (hp : MoneyL p) (hpl : p.length = b - a) (hab : a < b) (hb : b ≤ n) : RetInv n a (overlay out a (takeS left p)) (left - isum (takeS left p)) := by
  obtain ⟨f1, f2, f3⟩ := take_facts left p I.l0 hp
  have f4 := isum_nn _ (take_nn left p I.l0 hp)
  have f5 := isum_nn p hp.ok
  have hl := I.len
  have h0 := I.l0
  have h1 := I.l1
  refine ⟨by rw [overlay_len _ _ _ (by omega)]; exact hl, by split at f2 <;> omega, by omega, fun j hj => ?_, fun j hj => ?_⟩
  · rw [overlay_getD _ _ _ (by omega)]
    by_cases hw : a ≤ j ∧ j < a + (takeS left p).length
    · rw [if_pos hw]
      have := f3 (j - a) (by omega)
      have := hp.each _ (mem_getD p (j - a) (by omega))
      omega
    · rw [if_neg hw]; exact I.row j hj
  · rw [overlay_getD _ _ _ (by omega), if_neg (by omega)]
    exact I.zero j (by omega)
/-! ### who paid out of turn -/
def AheadBad (l : List S37) (paid : List Int) (i : Nat) : Prop := 0 < paid.getD i 0 ∧ ∃ k, k < i ∧ paid.getD k 0 < (l.getD k z37).f3 ∧ sameT (l.getD k z37) (l.getD i z37) = false
def QuotOk (have_ given c p : Int) : Prop := have_ = 0 ∨ p = given * c / have_ ∨ (p = given * c / have_ + 1 ∧ given * c % have_ ≠ 0)
def OkAt (l : List S37) (paid : List Int) (i : Nat) : Prop := ¬ AheadBad l paid i ∧ QuotOk (isum (tab l.length (partF l (centsOf l) i))) (isum (tab l.length (partF l paid i))) (l.getD i z37).f3 (paid.getD i 0)
theorem md_down (s c t : Int) (hs : 0 ≤ s ∧ s ≤ t) (hc : 0 ≤ c ∧ c ≤ 1152921504606846976) (ht : 0 < t ∧ t ≤ 1152921504606846976) : (mdAns s c t 1).1 = s * c / t ∧ (mdAns s c t 2).1 = (if s * c % t > 0 then s * c / t + 1 else s * c / t) := by
  have hbl : belowB s c t = false := by
    unfold belowB
    rw [decide_eq_false (show ¬ s < 0 by omega), decide_eq_false (show ¬ c < 0 by omega), decide_eq_false (show ¬ t < 0 by omega)]; rfl
  have e1 : absI s = s := by unfold absI; rw [if_neg (by omega)]
  have e2 : absI c = c := by unfold absI; rw [if_neg (by omega)]
  have e3 : absI t = t := by unfold absI; rw [if_neg (by omega)]
  have e4 : ∀ q r by_ : Int, awayB 1 false q r by_ = false := fun _ _ _ => rfl
  have e5 : ∀ q r by_ : Int, awayB 2 false q r by_ = true := fun _ _ _ => rfl
  have h1 := Int.mul_ediv_add_emod (s * c) t
  have h2 := Int.emod_nonneg (s * c) (show t ≠ 0 by omega)
  have h3 : s * c ≤ t * c := Int.mul_le_mul_of_nonneg_right hs.2 hc.1
  have h4 : s * c / t ≤ c := by
    have : t * (s * c / t) ≤ t * c := by omega
    exact Int.le_of_mul_le_mul_left this ht.1
  have h5 : s * c % t > 0 → s * c / t + 1 ≤ c := by
    intro h
    have : t * (s * c / t) < t * c := by omega
    have := Int.lt_of_mul_lt_mul_left this (by omega)
    omega
  unfold mdAns mdRound
  rw [hbl, e1, e2, e3, e4, e5]
  refine ⟨?_, ?_⟩
  · rw [if_neg (by unfold fitsP; omega), if_neg (by omega)]
    simp only [Bool.false_eq_true, and_false, if_false]
    rw [if_neg (by omega)]
  · rw [if_neg (by unfold fitsP; omega), if_neg (by omega)]
    simp only [Bool.false_eq_true, and_true, if_false]
    by_cases hr : s * c % t > 0
    · rw [if_pos hr, if_neg (by have := h5 hr; omega)]
    · rw [if_neg hr, if_neg (by omega)]
theorem alike_go (H P : List Int) (all sum : Int) (hl : H.length ≤ 1024) (hpl : P.length = H.length) (hH : ∀ j, j < H.length → 0 ≤ H.getD j 0 ∧ H.getD j 0 ≤ 1152921504606846976) (hall : 0 ≤ all ∧ all ≤ 1152921504606846976) (hs : 0 ≤ sum ∧ sum ≤ all) (d : Nat) : ∀ i : Nat, H.length - i = d → i ≤ H.length → ∃ b, Ev (fun k => waterfall_alike.l0 k P all sum H (H.length : Int) (i : Int)) b ∧ (b = true ↔ ∀ j, i ≤ j → j < H.length → QuotOk all sum (H.getD j 0) (P.getD j 0)) := by
  induction d with
  | zero =>
    intro i hd hi
    exact ⟨true, Ev.step (fun _ => rfl) (ev_neg (by omega) (ev_some rfl)), by simp; intro j h1 h2; omega⟩
  | succ d ih =>
    intro i hd hi
    by_cases h0 : all = 0
    · refine ⟨true, Ev.step (fun _ => rfl) (ev_pos (by omega) (ev_pos (by omega) (ev_pos (by omega) (ev_pos h0 (ev_some rfl))))), ?_⟩
      simp only [true_iff]
      exact fun j _ _ => .inl h0
    · obtain ⟨b, hb, hbi⟩ := ih (i + 1) (by omega) (by omega)
      obtain ⟨m1, m2⟩ := md_down sum (H.getD i 0) all hs (hH i (by omega)) ⟨by omega, hall.2⟩
      have hr := Int.emod_nonneg (sum * H.getD i 0) (show all ≠ 0 from h0)
      have hq : QuotOk all sum (H.getD i 0) (P.getD i 0) ↔ P.getD i 0 = (mdAns sum (H.getD i 0) all 1).1 ∨ P.getD i 0 = (mdAns sum (H.getD i 0) all 2).1 := by
        rw [m1, m2]; unfold QuotOk
        split <;> omega
      refine ⟨if P.getD i 0 = (mdAns sum (H.getD i 0) all 1).1 then b else if P.getD i 0 = (mdAns sum (H.getD i 0) all 2).1 then b else false, ?_, ?_⟩
      · refine Ev.step (fun _ => rfl) (ev_pos (by omega) (ev_pos (by omega) (ev_pos (by omega) (ev_neg h0 ?_))))
        rw [rd_nat, rd_nat, wsucc i (by omega)]
        refine ev_bnd (cmuldiv_ev _ _ _ _) (ev_bnd (cmuldiv_ev _ _ _ _) (ev_pos (by omega) ?_))
        refine ev_if (fun _ => hb) (fun _ => ev_if (fun _ => hb) (fun _ => ev_some rfl))
      · have hall2 : (∀ j, i ≤ j → j < H.length → QuotOk all sum (H.getD j 0) (P.getD j 0)) ↔ QuotOk all sum (H.getD i 0) (P.getD i 0) ∧ b = true := by
          rw [hbi]
          constructor
          · exact fun h => ⟨h i (by omega) (by omega), fun j h1 h2 => h j (by omega) h2⟩
          · rintro ⟨h1, h2⟩ j h3 h4
            by_cases hj : j = i
            · subst hj; exact h1
            · exact h2 j (by omega) h4
        rw [hall2, hq]
        by_cases c1 : P.getD i 0 = (mdAns sum (H.getD i 0) all 1).1
        · rw [if_pos c1]; exact ⟨fun h => ⟨.inl c1, h⟩, fun h => h.2⟩
        · rw [if_neg c1]
          by_cases c2 : P.getD i 0 = (mdAns sum (H.getD i 0) all 2).1
          · rw [if_pos c2]; exact ⟨fun h => ⟨.inr c2, h⟩, fun h => h.2⟩
          · rw [if_neg c2]
            exact ⟨fun h => (by cases h), fun h => by rcases h.1 with h | h; exact absurd h c1; exact absurd h c2⟩
theorem isum_le (a b : List Int) (hl : a.length = b.length) (h : ∀ j, j < a.length → a.getD j 0 ≤ b.getD j 0) : isum a ≤ isum b := by
  have := sumTo_le (fun j => a.getD j 0) (fun j => b.getD j 0) a.length h
  rw [← isum_sumTo, hl, ← isum_sumTo] at this
  exact this
theorem alike_ev (H P : List Int) (hH : MoneyL H) (hP : MoneyL P) (hpl : P.length = H.length) (hle : ∀ j, j < H.length → P.getD j 0 ≤ H.getD j 0) : ∃ b, Ev (fun k => waterfall_alike.f k H P) b ∧ (b = true ↔ ∀ j, j < H.length → QuotOk (isum H) (isum P) (H.getD j 0) (P.getD j 0)) := by
  have h1 := isum_nn H hH.ok
  have h2 := isum_nn P hP.ok
  have h3 := isum_le P H hpl (fun j hj => hle j (by omega))
  have ht := hH.top
  have hl := hH.len
  obtain ⟨b, hb, hbi⟩ := alike_go H P (isum H) (isum P) hH.len hpl (fun j hj => hH.each _ (mem_getD H j hj)) ⟨h1, ht⟩ ⟨h2, h3⟩ H.length 0 (by omega) (by omega)
  refine ⟨b, ?_, by rw [hbi]; exact ⟨fun h j hj => h j (by omega) hj, fun h j _ hj => h j hj⟩⟩
  unfold waterfall_alike.f
  exact ev_bnd (total_ev H hH.ok (by omega) (by omega)) (ev_bnd (total_ev P hP.ok (by omega) (by omega)) hb)
theorem equal_go (a b : List Int) (hl : a.length = b.length) (hn : a.length ≤ 4611686018427387904) (d : Nat) : ∀ i : Nat, a.length - i = d → i ≤ a.length → Ev (fun k => slices_Equal_int_int.l0 k a b (a.length : Int) (i : Int)) (decide (a.drop i = b.drop i)) := by
  induction d with
  | zero =>
    intro i hd hi
    refine Ev.step (fun _ => rfl) (ev_neg (by omega) (ev_some ?_))
    rw [List.drop_eq_nil_of_le (by omega), List.drop_eq_nil_of_le (by omega)]; rfl
  | succ d ih =>
    intro i hd hi
    refine Ev.step (fun _ => rfl) (ev_pos (by omega) (ev_pos (by omega) (ev_pos (by omega) (ev_pos (by omega) ?_))))
    rw [drop_getD a i (by omega), drop_getD b i (by omega), rd_nat, rd_nat, wsucc i (by omega)]
    have ih := ih (i + 1) (by omega) (by omega)
    by_cases h : a.getD i 0 = b.getD i 0
    · refine ev_pos h ?_
      rwa [show decide (a.getD i 0 :: a.drop (i + 1) = b.getD i 0 :: b.drop (i + 1)) = decide (a.drop (i + 1) = b.drop (i + 1)) by rw [h]; simp]
    · refine ev_neg h (ev_some ?_)
      rw [decide_eq_false (fun e => h (List.cons.inj e).1)]
theorem equal_ev (a b : List Int) (hl : a.length = b.length) (hn : a.length ≤ 4611686018427387904) : Ev (fun k => slices_Equal_int_int.f k a b) (decide (a = b)) := by
  unfold slices_Equal_int_int.f
  have := equal_go a b hl hn a.length 0 (by omega) (by omega)
  rw [List.drop_zero, List.drop_zero] at this
  exact ev_pos (by omega) this
def Good (H P : List Int) (short : Bool) : Prop := (short = true → isum P = 0) ∧ ∀ j, j < H.length → QuotOk (isum H) (isum P) (H.getD j 0) (P.getD j 0)
theorem judStep_ev (H P : List Int) (short : Bool) (hH : MoneyL H) (hP : MoneyL P) (hpl : P.length = H.length) (hle : ∀ j, j < H.length → P.getD j 0 ≤ H.getD j 0) : ∃ s : Option Bool, Ev (fun k => judStep k H P short) s ∧ ((s = none ∧ ¬ Good H P short) ∨ (∃ s2, s = some s2 ∧ Good H P short ∧ (s2 = true ↔ short = true ∨ H ≠ P))) := by
  have h1 := isum_nn P hP.ok
  have ht := hP.top
  have hl := hP.len
  obtain ⟨b, hb, hbi⟩ := alike_ev H P hH hP hpl hle
  have heq := equal_ev H P hpl.symm (by have := hH.len; omega)
  unfold judStep
  cases short with
  | true =>
    by_cases hp : 0 < isum P
    · refine ⟨none, ev_bnd (ev_pos rfl (ev_bnd (total_ev P hP.ok (by omega) (by omega)) (ev_some rfl))) (ev_pos (by simpa using hp) (ev_some rfl)), .inl ⟨rfl, fun g => by have := g.1 rfl; omega⟩⟩
    · refine ⟨if b = true then some true else none, ev_bnd (ev_pos rfl (ev_bnd (total_ev P hP.ok (by omega) (by omega)) (ev_some rfl))) (ev_neg (by simpa using hp) (ev_bnd hb (ev_if (fun _ => ev_pos rfl (ev_some rfl)) (fun _ => ev_some rfl)))), ?_⟩
      by_cases hbt : b = true
      · rw [if_pos hbt]
        exact .inr ⟨true, rfl, ⟨fun _ => by omega, hbi.1 hbt⟩, by simp⟩
      · rw [if_neg hbt]
        exact .inl ⟨rfl, fun g => hbt (hbi.2 g.2)⟩
  | false =>
    refine ⟨if b = true then some (!decide (H = P)) else none, ev_bnd (ev_neg (by decide) (ev_some rfl)) (ev_neg (by decide) (ev_bnd hb (ev_if (fun _ => ev_neg (by decide) (ev_bnd heq (ev_some rfl))) (fun _ => ev_some rfl)))), ?_⟩
    by_cases hbt : b = true
    · rw [if_pos hbt]
      exact .inr ⟨_, rfl, ⟨fun h => (by cases h), hbi.1 hbt⟩, by simp⟩
    · rw [if_neg hbt]
      exact .inl ⟨rfl, fun g => hbt (hbi.2 g.2)⟩
theorem isum_zero_iff (p : List Int) (h : ∀ a ∈ p, 0 ≤ a) : isum p = 0 ↔ ∀ j, j < p.length → p.getD j 0 = 0 := by
  constructor
  · intro hs j hj
    have h1 := mem_le_isum p h _ (mem_getD p j hj)
    have h2 := h _ (mem_getD p j hj)
    omega
  · intro hj
    have h1 := g_isum_nonpos p (fun i hi => by rw [hj i hi]; exact Int.le_refl _)
    have h2 := isum_nn p h
    omega
theorem part_same {l : List S37} (R : Rows l) (m : List Int) (i j : Nat) (hi : i < l.length) (hj : j < l.length) (h : sameT (l.getD j z37) (l.getD i z37) = true) : tab l.length (partF l m j) = tab l.length (partF l m i) := by
  refine tab_congr _ _ _ fun x hx => ?_
  unfold partF
  have k1 := (same_key _ _ (R.row j hj) (R.row i hi)).1 h
  have k2 : sameT (l.getD x z37) (l.getD j z37) = sameT (l.getD x z37) (l.getD i z37) := by
    rw [Bool.eq_iff_iff, same_key _ _ (R.row x hx) (R.row j hj), same_key _ _ (R.row x hx) (R.row i hi), k1]
  rw [k2]
theorem ok_turn {l : List S37} {paid : List Int} (F : Paid l paid) (i : Nat) (hi : i < l.length) (hs : startB l i = true) (short : Bool) (hsh : short = true ↔ ∃ k, k < i ∧ paid.getD k 0 < (l.getD k z37).f3) :
    Good (((centsOf l).take (nb l (i + 1))).drop i) ((paid.take (nb l (i + 1))).drop i) short ↔ ∀ j, i ≤ j → j < nb l (i + 1) → OkAt l paid j := by
  have R := F.toRows
  obtain ⟨n1, n2, _⟩ := nb_facts l (i + 1) (by omega)
  have hcl := piece_len (centsOf l) i (nb l (i + 1)) (by rw [cents_len]; omega)
  have hpl := piece_len paid i (nb l (i + 1)) (by rw [F.plen]; omega)
  have hpm := piece_money paid F.money i (nb l (i + 1))
  have hsame : ∀ j, i ≤ j → j < nb l (i + 1) → sameT (l.getD j z37) (l.getD i z37) = true := fun j h1 h2 => (turn_at R i hi hs j (by omega)).2 ⟨h1, h2⟩
  have hpc := part_pad R (centsOf l) (cents_len l) i hi hs
  have hpp := part_pad R paid F.plen i hi hs
  have hok : ∀ j, i ≤ j → j < nb l (i + 1) → (OkAt l paid j ↔ ¬ (0 < paid.getD j 0 ∧ short = true) ∧ QuotOk (isum (((centsOf l).take (nb l (i + 1))).drop i)) (isum ((paid.take (nb l (i + 1))).drop i)) (l.getD j z37).f3 (paid.getD j 0)) := by
    intro j h1 h2
    unfold OkAt
    rw [part_same R (centsOf l) i j hi (by omega) (hsame j h1 h2), part_same R paid i j hi (by omega) (hsame j h1 h2), hpc, hpp, isum_pad, isum_pad]
    have hah : AheadBad l paid j ↔ 0 < paid.getD j 0 ∧ short = true := by
      unfold AheadBad
      rw [hsh]
      constructor
      · rintro ⟨h3, k, h4, h5, h6⟩
        refine ⟨h3, k, ?_, h5⟩
        by_cases hk : k < i
        · exact hk
        · have e1 := hsame k (by omega) (by omega)
          have e2 := hsame j h1 h2
          rw [same_key _ _ (R.row k (by omega)) (R.row i hi)] at e1
          rw [same_key _ _ (R.row j (by omega)) (R.row i hi)] at e2
          have e3 := (same_key _ _ (R.row k (by omega)) (R.row j (by omega))).2 (by omega)
          rw [h6] at e3; cases e3
      · rintro ⟨h3, k, h4, h5⟩
        refine ⟨h3, k, by omega, h5, ?_⟩
        rw [Bool.eq_false_iff]
        intro h6
        have e2 := hsame j h1 h2
        rw [same_key _ _ (R.row k (by omega)) (R.row j (by omega))] at h6
        rw [same_key _ _ (R.row j (by omega)) (R.row i hi)] at e2
        have e3 := (turn_at R i hi hs k (by omega)).1 ((same_key _ _ (R.row k (by omega)) (R.row i hi)).2 (by omega))
        omega
    rw [hah]
  have hpz : isum ((paid.take (nb l (i + 1))).drop i) = 0 ↔ ∀ j, i ≤ j → j < nb l (i + 1) → paid.getD j 0 = 0 := by
    rw [isum_zero_iff _ hpm.ok, hpl]
    constructor
    · intro h j h1 h2
      have := h (j - i) (by omega)
      rwa [piece_getD _ _ _ _ (by omega), show i + (j - i) = j by omega] at this
    · intro h j hj
      rw [piece_getD _ _ _ _ (by omega)]
      exact h (i + j) (by omega) (by omega)
  unfold Good
  rw [hpz, hcl]
  constructor
  · rintro ⟨g1, g2⟩ j h1 h2
    rw [hok j h1 h2]
    refine ⟨fun hh => ?_, ?_⟩
    · have := g1 hh.2 j h1 h2; omega
    · have := g2 (j - i) (by omega)
      rwa [piece_getD _ _ _ _ (by omega), piece_getD _ _ _ _ (by omega), show i + (j - i) = j by omega, cents_getD l j (by omega)] at this
  · intro g
    refine ⟨fun hh j h1 h2 => ?_, fun j hj => ?_⟩
    · have h3 := ((hok j h1 h2).1 (g j h1 h2)).1
      have h4 := (F.each j (by omega)).1
      by_cases h5 : 0 < paid.getD j 0
      · exact absurd ⟨h5, hh⟩ h3
      · omega
    · have h3 := ((hok (i + j) (by omega) (by omega)).1 (g (i + j) (by omega) (by omega))).2
      rwa [piece_getD _ _ _ _ (by omega), piece_getD _ _ _ _ (by omega), cents_getD l (i + j) (by omega)]
theorem jud_ev {l : List S37} {paid : List Int} (F : Paid l paid) : ∀ i, i ≤ l.length → ∀ short : Bool, (short = true ↔ ∃ k, k < nb l i ∧ paid.getD k 0 < (l.getD k z37).f3) → ∃ b, Ev (fun k => judGo k (centsOf l) paid (bnds l i) short) b ∧ (b = true ↔ ∀ j, nb l i ≤ j → j < l.length → OkAt l paid j) := by
  have R := F.toRows
  refine down_ind ?_ ?_
  · intro short _
    rw [bnds_end, nb_end]
    exact ⟨true, Ev.now _, by simp; intro j h1 h2; omega⟩
  · intro i hi ih short hsh
    have hb := bnds_step l i hi
    have hn := nb_step l i hi
    cases hs : startB l i with
    | false =>
      rw [hs] at hb hn
      simp only [Bool.false_eq_true, if_false] at hb hn
      rw [hn] at hsh ⊢
      rw [hb]
      exact ih short hsh
    | true =>
      rw [hs] at hb hn
      simp only [if_true] at hb hn
      obtain ⟨n1, n2, _, _, n5⟩ := nb_facts l (i + 1) (by omega)
      have hcl := piece_len (centsOf l) i (nb l (i + 1)) (by rw [cents_len]; omega)
      have hpl := piece_len paid i (nb l (i + 1)) (by rw [F.plen]; omega)
      have hcm := piece_money (centsOf l) R.money i (nb l (i + 1))
      have hpm := piece_money paid F.money i (nb l (i + 1))
      rw [hn] at hsh ⊢
      have hgood := ok_turn F i hi hs short hsh
      obtain ⟨s, hev, hs⟩ := judStep_ev _ _ short hcm hpm (by omega) (fun j hj => by
        rw [piece_getD _ _ _ _ (by omega), piece_getD _ _ _ _ (by omega), cents_getD l _ (by omega)]
        exact (F.each _ (by omega)).2)
      have hne : (((centsOf l).take (nb l (i + 1))).drop i ≠ (paid.take (nb l (i + 1))).drop i) ↔ ∃ k, i ≤ k ∧ k < nb l (i + 1) ∧ paid.getD k 0 < (l.getD k z37).f3 := by
        constructor
        · intro h
          by_cases hx : ∃ k, i ≤ k ∧ k < nb l (i + 1) ∧ paid.getD k 0 < (l.getD k z37).f3
          · exact hx
          · exfalso
            refine h (list_ext _ _ (by omega) fun j hj => ?_)
            rw [piece_getD _ _ _ _ (by omega), piece_getD _ _ _ _ (by omega), cents_getD l _ (by omega)]
            have h1 := (F.each (i + j) (by omega)).2
            have h2 : ¬ paid.getD (i + j) 0 < (l.getD (i + j) z37).f3 := fun h => hx ⟨i + j, by omega, by omega, h⟩
            omega
        · rintro ⟨k, h1, h2, h3⟩ h
          have := congrArg (fun x => x.getD (k - i) 0) h
          rw [piece_getD _ _ _ _ (by omega), piece_getD _ _ _ _ (by omega), show i + (k - i) = k by omega, cents_getD l _ (by omega)] at this
          omega
      generalize hH : ((centsOf l).take (nb l (i + 1))).drop i = H at *
      generalize hP : (paid.take (nb l (i + 1))).drop i = P at *
      have hgo : ∀ r, Ev (fun k => (judStep k H P short).bind fun s => match s with | none => some false | some s2 => judGo k (centsOf l) paid (bnds l (i + 1)) s2) r → Ev (fun k => judGo k (centsOf l) paid (bnds l i) short) r := by
        intro r hr
        rw [hb]
        rw [n5] at hr ⊢
        simp only [judGo, Int.toNat_natCast, hH, hP]
        exact ev_pos ⟨by omega, by omega, by rw [cents_len]; omega, by rw [F.plen]; omega⟩ hr
      rcases hs with ⟨hsn, hng⟩ | ⟨s2, hss, hg, hs2⟩
      · subst hsn
        refine ⟨false, hgo _ (ev_bnd hev (ev_some rfl)), ?_⟩
        constructor
        · intro h; cases h
        · intro h
          exact absurd (hgood.2 fun j h1 h2 => h j h1 (by omega)) hng
      · subst hss
        obtain ⟨b, hbv, hbi⟩ := ih s2 (by
          rw [hs2, hsh, hne]
          constructor
          · rintro (⟨k, h1, h2⟩ | ⟨k, h1, h2, h3⟩)
            · exact ⟨k, by omega, h2⟩
            · exact ⟨k, by omega, h3⟩
          · rintro ⟨k, h1, h2⟩
            by_cases hk : k < i
            · exact .inl ⟨k, hk, h2⟩
            · exact .inr ⟨k, by omega, h1, h2⟩)
        refine ⟨b, hgo _ (ev_bnd hev hbv), ?_⟩
        rw [hbi]
        have hg2 := hgood.1 hg
        constructor
        · intro h j h1 h2
          by_cases hj : j < nb l (i + 1)
          · exact hg2 j h1 hj
          · exact h j (by omega) h2
        · intro h j h1 h2
          exact h j (by omega) h2
theorem wturns_ev (l : List S37) (paid : List Int) : ∃ b : Bool, Ev (fun k => waterfall_Turns.f k l paid) (b, right47 l paid) ∧ (b = true ↔ right47 l paid = 0 ∧ ∀ j, j < l.length → OkAt l paid j) := by
  have h := wcheckp_ev l paid 0
  rw [right_chk] at h
  by_cases hr : right47 l paid = 0
  · have F := right_paid l paid hr
    have R := F.toRows
    have hl := R.len
    have hn0 : nb l 0 = 0 := by
      by_cases h0 : 0 < l.length
      · rw [nb_step l 0 h0]; rfl
      · have := nb_facts l 0 (by omega); omega
    obtain ⟨b, hb, hbi⟩ := jud_ev F 0 (by omega) false (by rw [hn0]; simp)
    refine ⟨b, ?_, ?_⟩
    · rw [hr] at h ⊢
      unfold waterfall_Turns.f
      have h1 := bnds_inc l 0 (by omega)
      have hbl : 0 < (bnds l 0).length ∧ (bnds l 0).length ≤ 1048576 := by
        have : ∀ i, i ≤ l.length → 0 < (bnds l i).length ∧ (bnds l i).length ≤ l.length - i + 1 := by
          refine down_ind ?_ ?_
          · rw [bnds_end]; simp
          · intro i hi ih
            rw [bnds_step l i hi]
            split
            · rw [List.length_cons]; omega
            · omega
        have := this 0 (by omega)
        omega
      exact ev_bnd h (ev_pos rfl (ev_bnd (amounts_ev l hl) (ev_bnd (turns_ev l hl) (ev_pos hbl (ev_bnd hb (ev_some rfl))))))
    · rw [hbi, hn0]
      exact ⟨fun h => ⟨hr, fun j hj => h j (by omega) hj⟩, fun h j _ hj => h.2 j hj⟩
  · refine ⟨false, ?_, ?_⟩
    · unfold waterfall_Turns.f
      exact ev_bnd h (ev_neg hr (ev_some rfl))
    · constructor
      · intro h; cases h
      · intro h; exact absurd h.1 hr
/-! ### what a layer has -/
theorem goes47 : Ev (fun k => cl47_goes.f k) true := Ev.of (fun k => cl47_goes.mono k) (k := 600) (by decide +kernel)
theorem goes47t : Ev (fun k => (cl47_goes.f k).bind fun t => some t) true := ev_bnd goes47 (ev_some rfl)
/-! ### what a loss takes, told by sums -/
theorem getD_take (l : List Int) (q j : Nat) (h : j < q) : (l.take q).getD j 0 = l.getD j 0 := by
  rw [List.getD_eq_getElem?_getD, List.getD_eq_getElem?_getD, List.getElem?_take, if_pos h]
theorem getD_drop (l : List Int) (q j : Nat) : (l.drop q).getD j 0 = l.getD (q + j) 0 := by
  rw [List.getD_eq_getElem?_getD, List.getD_eq_getElem?_getD, List.getElem?_drop]
theorem take_eq_of (x y : List Int) (q : Nat) (hx : q ≤ x.length) (hy : q ≤ y.length) (h : ∀ j, j < q → x.getD j 0 = y.getD j 0) : x.take q = y.take q := by
  refine list_ext _ _ (by rw [List.length_take, List.length_take]; omega) fun j hj => ?_
  rw [List.length_take] at hj
  rw [getD_take _ _ _ (by omega), getD_take _ _ _ (by omega), h j (by omega)]
theorem drop_eq_of (x y : List Int) (q : Nat) (hx : x.length = y.length) (h : ∀ j, q ≤ j → j < x.length → x.getD j 0 = y.getD j 0) : x.drop q = y.drop q := by
  refine list_ext _ _ (by rw [List.length_drop, List.length_drop, hx]) fun j hj => ?_
  rw [List.length_drop] at hj
  rw [getD_drop, getD_drop, h (q + j) (by omega) (by omega)]
theorem overlay_take (out p : List Int) (a : Nat) (h : a + p.length ≤ out.length) : (overlay out a p).take (a + p.length) = out.take a ++ p := by
  unfold overlay
  rw [List.take_append_of_le_length (by rw [List.length_append, List.length_take]; omega), List.take_of_length_le (by rw [List.length_append, List.length_take]; omega)]
theorem overlay_drop (out p : List Int) (a : Nat) (h : a + p.length ≤ out.length) : (overlay out a p).drop (a + p.length) = out.drop (a + p.length) := by
  refine drop_eq_of _ _ _ (overlay_len out p a h) fun j h1 _ => ?_
  rw [overlay_getD out p a h, if_neg (by omega)]
theorem piece_sum (m : List Int) (a b : Nat) (h : a ≤ b) : isum ((m.take b).drop a) = isum (m.take b) - isum (m.take a) := by
  have h1 := isum_drop (m.take b) a
  rw [List.take_take, Nat.min_eq_left h] at h1
  omega
theorem take_mono (m : List Int) (hm : ∀ a ∈ m, 0 ≤ a) (a b : Nat) (h : a ≤ b) : isum (m.take a) ≤ isum (m.take b) := by
  have h1 := piece_sum m a b h
  have h2 := isum_nn ((m.take b).drop a) (fun x hx => hm x (List.mem_of_mem_take (List.mem_of_mem_drop hx)))
  omega
theorem take_zeros (out : List Int) (z q : Nat) (hz : ∀ j, z ≤ j → out.getD j 0 = 0) (h : z ≤ q) : isum (out.take q) = isum (out.take z) := by
  have h1 := piece_sum out z q h
  have h2 : isum ((out.take q).drop z) = 0 := by
    rw [isum_sumTo]
    rw [sumTo_congr _ (fun _ => 0) _ (fun j hj => by
      rw [List.length_drop, List.length_take] at hj
      rw [getD_drop, getD_take _ _ _ (by omega)]; exact hz _ (by omega))]
    generalize ((out.take q).drop z).length = n
    induction n with
    | zero => rfl
    | succ n ih => simp only [sumTo]; omega
  omega
theorem take_zero (p : List Int) (hp : MoneyL p) : takeS 0 p = List.replicate p.length 0 := by
  obtain ⟨f1, f2, f3⟩ := take_facts 0 p (Int.le_refl _) hp
  have h1 := isum_nn p hp.ok
  have h2 : isum (takeS 0 p) = 0 := by split at f2 <;> omega
  have h3 := (isum_zero_iff _ (take_nn 0 p (Int.le_refl _) hp)).1 h2
  refine list_ext _ _ (by rw [f1, List.length_replicate]) fun j hj => ?_
  rw [h3 j hj, tab_zero, tab_getD _ _ _ (by omega)]
structure AbsRun (l : List S37) (loss : Int) (z : Nat) (out : List Int) (left : Int) : Prop where
  len : out.length = l.length
  lo : left = loss - min loss (isum ((centsOf l).take z))
  each : ∀ j, j < l.length → 0 ≤ out.getD j 0 ∧ out.getD j 0 ≤ (l.getD j z37).f3
  zero : ∀ j, z ≤ j → out.getD j 0 = 0
  cum : ∀ q, bdB l q = true ∨ q = 0 → q ≤ z → isum (out.take q) = min loss (isum ((centsOf l).take q))
  quo : ∀ i, startB l i = true → i < z → ∃ m, 0 ≤ m ∧ (out.take (nb l (i + 1))).drop i = takeS m (((centsOf l).take (nb l (i + 1))).drop i)
theorem nb_before (l : List S37) (i j : Nat) (hi : i < j) (hj : j < l.length) (hs : startB l j = true) : nb l (i + 1) ≤ j := by
  obtain ⟨_, _, n3, _⟩ := nb_facts l (i + 1) (by omega)
  by_cases h : nb l (i + 1) ≤ j
  · exact h
  · have := n3 j (by omega) (by omega)
    rw [hs] at this; cases this
theorem AbsRun.step {l : List S37} (R : Rows l) {loss : Int} {i : Nat} {out : List Int} {left : Int} (A : AbsRun l loss i out left) (hi : i < l.length) (hs : startB l i = true) (hl : 0 < left) :
    AbsRun l loss (nb l (i + 1)) (overlay out i (takeS left (((centsOf l).take (nb l (i + 1))).drop i))) (left - isum (takeS left (((centsOf l).take (nb l (i + 1))).drop i))) := by
  obtain ⟨n1, n2, n3, _, _⟩ := nb_facts l (i + 1) (by omega)
  have hp := piece_money (centsOf l) R.money i (nb l (i + 1))
  have hpl := piece_len (centsOf l) i (nb l (i + 1)) (by rw [cents_len]; omega)
  have hps := piece_sum (centsOf l) i (nb l (i + 1)) (by omega)
  have hpe : ∀ j, j < nb l (i + 1) - i → (((centsOf l).take (nb l (i + 1))).drop i).getD j 0 = (l.getD (i + j) z37).f3 := fun j hj => by
    rw [piece_getD _ _ _ _ hj, cents_getD l _ (by omega)]
  have hmo := take_mono (centsOf l) R.money.ok i (nb l (i + 1)) (by omega)
  have hlo := A.lo
  have hlen := A.len
  generalize hP : ((centsOf l).take (nb l (i + 1))).drop i = p at *
  obtain ⟨f1, f2, f3⟩ := take_facts left p (by omega) hp
  have hbe : i + (takeS left p).length = nb l (i + 1) := by omega
  have htk : (overlay out i (takeS left p)).take (nb l (i + 1)) = out.take i ++ takeS left p := by
    rw [← hbe]; exact overlay_take out _ i (by omega)
  have hci := A.cum i (by unfold bdB; rw [hs, Bool.or_true]; exact .inl rfl) (by omega)
  refine ⟨by rw [overlay_len _ _ _ (by omega), hlen], ?_, fun j hj => ?_, fun j hj => ?_, fun q hq hqb => ?_, fun j hj hjb => ?_⟩
  · split at f2 <;> omega
  · rw [overlay_getD _ _ _ (by omega)]
    by_cases hw : i ≤ j ∧ j < i + (takeS left p).length
    · rw [if_pos hw]
      have := f3 (j - i) (by omega)
      rw [hpe _ (by omega), show i + (j - i) = j by omega] at this
      exact this
    · rw [if_neg hw]; exact A.each j hj
  · rw [overlay_getD _ _ _ (by omega), if_neg (by omega)]
    exact A.zero j (by omega)
  · by_cases hqi : q ≤ i
    · rw [take_eq_of _ out q (by rw [overlay_len _ _ _ (by omega)]; omega) (by omega) (fun j hj => by rw [overlay_getD _ _ _ (by omega), if_neg (by omega)])]
      exact A.cum q hq hqi
    · by_cases hqe : q = nb l (i + 1)
      · subst hqe
        rw [htk, isum_append, hci]
        split at f2 <;> omega
      · exfalso
        have h3 := n3 q (by omega) (by omega)
        rcases hq with hq | hq
        · unfold bdB at hq
          rw [h3, decide_eq_false (by omega)] at hq
          cases hq
        · omega
  · by_cases hji : j < i
    · have hb := nb_before l j i hji hi hs
      obtain ⟨m, m0, hm⟩ := A.quo j hj hji
      refine ⟨m, m0, ?_⟩
      rw [← hm, take_eq_of _ out _ (by rw [overlay_len _ _ _ (by omega)]; omega) (by omega) (fun x hx => by rw [overlay_getD _ _ _ (by omega), if_neg (by omega)])]
    · by_cases hje : j = i
      · subst hje
        refine ⟨left, by omega, ?_⟩
        rw [htk, hP, List.drop_append_of_le_length (by rw [List.length_take]; omega), List.drop_eq_nil_of_le (by rw [List.length_take]; omega)]; rfl
      · exfalso
        have h3 := n3 j (by omega) (by omega)
        rw [h3] at hj; cases hj
theorem AbsRun.stop {l : List S37} (R : Rows l) {loss : Int} {z : Nat} {out : List Int} {left : Int} (A : AbsRun l loss z out left) (hz : z ≤ l.length) (hb : bdB l z = true ∨ z = 0) (hl : ¬ 0 < left) : AbsRun l loss l.length out left := by
  have hlo := A.lo
  have hmo := take_mono (centsOf l) R.money.ok z
  have hcz := A.cum z hb (Nat.le_refl _)
  have hlen := A.len
  refine ⟨A.len, ?_, A.each, fun j hj => A.zero j (by omega), fun q hq hqb => ?_, fun j hj hjb => ?_⟩
  · have := hmo l.length hz
    omega
  · by_cases hqz : q ≤ z
    · exact A.cum q hq hqz
    · rw [take_zeros out z q A.zero (by omega), hcz]
      have := hmo q (by omega)
      omega
  · by_cases hjz : j < z
    · exact A.quo j hj hjz
    · obtain ⟨n1, n2, _⟩ := nb_facts l (j + 1) (by omega)
      have hp := piece_money (centsOf l) R.money j (nb l (j + 1))
      have hpl := piece_len (centsOf l) j (nb l (j + 1)) (by rw [cents_len]; omega)
      have hol := piece_len out j (nb l (j + 1)) (by omega)
      refine ⟨0, Int.le_refl _, ?_⟩
      rw [take_zero _ hp, hpl]
      refine list_ext _ _ (by rw [hol, List.length_replicate]) fun x hx => ?_
      rw [hol] at hx
      rw [piece_getD _ _ _ _ hx, tab_zero, tab_getD _ _ _ hx]
      exact A.zero _ (by omega)
theorem nb_bd (l : List S37) (i : Nat) (hi : i ≤ l.length) : bdB l (nb l i) = true := by
  obtain ⟨_, n2, _, n4, _⟩ := nb_facts l i hi
  unfold bdB
  by_cases h : nb l i < l.length
  · rw [n4 h, Bool.or_true]
  · rw [decide_eq_true (show nb l i = l.length by omega), Bool.true_or]
theorem abs_run {l : List S37} (R : Rows l) (loss : Int) : ∀ i, i ≤ l.length → ∀ (out : List Int) (left : Int), AbsRun l loss (nb l i) out left → AbsRun l loss l.length (absS (centsOf l) (bnds l i) out left).1 (absS (centsOf l) (bnds l i) out left).2 := by
  refine down_ind ?_ ?_
  · intro out left A
    rw [bnds_end]
    rw [nb_end] at A
    exact A
  · intro i hi ih out left A
    by_cases hpos : 0 < left
    · have hb := bnds_step l i hi
      have hn := nb_step l i hi
      cases hs : startB l i with
      | false =>
        rw [hs] at hb hn
        simp only [Bool.false_eq_true, if_false] at hb hn
        rw [hb]
        rw [hn] at A
        exact ih out left A
      | true =>
        rw [hs] at hb hn
        simp only [if_true] at hb hn
        rw [hn] at A
        obtain ⟨n1, n2, _, _, n5⟩ := nb_facts l (i + 1) (by omega)
        have hspec : absS (centsOf l) (bnds l i) out left = absS (centsOf l) (bnds l (i + 1)) (overlay out i (takeS left (((centsOf l).take (nb l (i + 1))).drop i))) (left - isum (takeS left (((centsOf l).take (nb l (i + 1))).drop i))) := by
          rw [hb, n5, absS, if_pos hpos, Int.toNat_natCast, Int.toNat_natCast]
        rw [hspec]
        exact ih _ _ (A.step R hi hs hpos)
    · rw [absS_stop _ _ _ _ hpos]
      exact A.stop R (nb_facts l i (by omega)).2.1 (.inl (nb_bd l i (by omega))) hpos
/-- what is told of a loss that is taken -/
theorem absorb_run (loss : Int) (l : List S37) (h : (absAns loss l).2.2 = 0) : Rows l ∧ okMoney loss = true ∧ AbsRun l loss l.length (absAns loss l).1 (absAns loss l).2.1 := by
  unfold absAns at h ⊢
  by_cases hc : chk47 l = 0
  · rw [if_pos hc] at h ⊢
    by_cases hm : okMoney loss = true
    · rw [if_pos hm] at h ⊢
      have R := chk_rows l hc
      have hm2 := (okMoney_iff loss).1 hm
      have hz : ∀ j, (List.replicate l.length (0 : Int)).getD j 0 = 0 := by
        intro j
        rw [List.getD_eq_getElem?_getD, List.getElem?_replicate]; split <;> rfl
      have hrow : ∀ j, j < l.length → 0 ≤ (l.getD j z37).f3 := fun j hj => ((okMoney_iff _).1 ((rcB_iff _).1 (R.row j hj)).2.2.2.2).1
      have hn0 : nb l 0 = 0 := by
        by_cases h0 : 0 < l.length
        · rw [nb_step l 0 h0]; rfl
        · have := nb_facts l 0 (by omega); omega
      refine ⟨R, hm, abs_run R loss 0 (by omega) _ _ ?_⟩
      rw [hn0]
      refine ⟨List.length_replicate, ?_, fun j hj => by rw [hz j]; exact ⟨Int.le_refl _, hrow j hj⟩, fun j _ => hz j, fun q _ hq => ?_, fun j _ hj => by omega⟩
      · rw [List.take_zero, show isum [] = 0 from rfl]; omega
      · obtain rfl : q = 0 := by omega
        rw [List.take_zero, List.take_zero, show isum [] = 0 from rfl]; omega
    · rw [if_neg hm] at h; cases h
  · rw [if_neg hc] at h; exact absurd h hc
/-! ### what comes back, told by sums -/
structure RetRun (l : List S37) (paid : List Int) (n : Int) (z : Nat) (out : List Int) (left : Int) : Prop where
  len : out.length = l.length
  lo : left = n - min n (isum (paid.drop z))
  each : ∀ j, j < l.length → 0 ≤ out.getD j 0 ∧ out.getD j 0 ≤ paid.getD j 0
  zero : ∀ j, j < z → out.getD j 0 = 0
  cum : ∀ q, bdB l q = true ∨ q = 0 → z ≤ q → q ≤ l.length → isum (out.drop q) = min n (isum (paid.drop q))
theorem zeros_take (out : List Int) (z : Nat) (hz : ∀ j, j < z → out.getD j 0 = 0) (h : z ≤ out.length) : isum (out.take z) = 0 := by
  have h2 : out.take z = List.replicate z 0 := list_ext _ _ (by rw [List.length_take, List.length_replicate]; omega) fun j hj => by
    rw [List.length_take] at hj
    rw [getD_take _ _ _ (by omega), hz j (by omega), tab_zero, tab_getD _ _ _ (by omega)]
  rw [h2, isum_zeros]
theorem drop_mono (m : List Int) (hm : ∀ a ∈ m, 0 ≤ a) (a b : Nat) (h : a ≤ b) : isum (m.drop b) ≤ isum (m.drop a) := by
  have h1 := take_mono m hm a b h
  have h2 := isum_drop m a
  have h3 := isum_drop m b
  omega
theorem RetRun.step {l : List S37} {paid : List Int} (F : Paid l paid) {n : Int} {q : Nat} {out : List Int} {left : Int} (A : RetRun l paid n (q + 1) out left) (hq : q < l.length) (hb : bdB l (q + 1) = true) (hl : 0 < left) :
    RetRun l paid n (psC l q).1 (overlay out (psC l q).1 (takeS left ((paid.take (q + 1)).drop (psC l q).1))) (left - isum (takeS left ((paid.take (q + 1)).drop (psC l q).1))) := by
  obtain ⟨p1, p2, p3⟩ := ps_facts l q
  have hp := piece_money paid F.money (psC l q).1 (q + 1)
  have hpl := piece_len paid (psC l q).1 (q + 1) (by rw [F.plen]; omega)
  have hps := piece_sum paid (psC l q).1 (q + 1) (by omega)
  have hpe : ∀ j, j < q + 1 - (psC l q).1 → ((paid.take (q + 1)).drop (psC l q).1).getD j 0 = paid.getD ((psC l q).1 + j) 0 := fun j hj => piece_getD _ _ _ _ hj
  have hd1 := isum_drop paid (psC l q).1
  have hd2 := isum_drop paid (q + 1)
  have hlo := A.lo
  have hlen := A.len
  generalize hP : (paid.take (q + 1)).drop (psC l q).1 = p at *
  generalize ha : (psC l q).1 = a at *
  obtain ⟨f1, f2, f3⟩ := take_facts left p (by omega) hp
  have hpn := isum_nn p hp.ok
  have hbe : a + (takeS left p).length = q + 1 := by omega
  have htk : (overlay out a (takeS left p)).take (q + 1) = out.take a ++ takeS left p := by
    rw [← hbe]; exact overlay_take out _ a (by omega)
  have hdr : (overlay out a (takeS left p)).drop (q + 1) = out.drop (q + 1) := by
    rw [← hbe]; exact overlay_drop out _ a (by omega)
  have hcq := A.cum (q + 1) (.inl hb) (Nat.le_refl _) (by omega)
  have hz := zeros_take out a (fun j hj => A.zero j (by omega)) (by omega)
  refine ⟨by rw [overlay_len _ _ _ (by omega), hlen], ?_, fun j hj => ?_, fun j hj => ?_, fun x hx hxa hxl => ?_⟩
  · split at f2 <;> omega
  · rw [overlay_getD _ _ _ (by omega)]
    by_cases hw : a ≤ j ∧ j < a + (takeS left p).length
    · rw [if_pos hw]
      have := f3 (j - a) (by omega)
      rw [hpe _ (by omega), show a + (j - a) = j by omega] at this
      exact this
    · rw [if_neg hw]; exact A.each j hj
  · rw [overlay_getD _ _ _ (by omega), if_neg (by omega)]
    exact A.zero j (by omega)
  · by_cases hxq : q + 1 ≤ x
    · rw [drop_eq_of _ out x (overlay_len _ _ _ (by omega)) (fun j hj _ => by rw [overlay_getD _ _ _ (by omega), if_neg (by omega)])]
      exact A.cum x hx hxq hxl
    · by_cases hxe : x = a
      · subst hxe
        have h1 := isum_drop (overlay out x (takeS left p)) x
        have h2 := isum_drop (overlay out x (takeS left p)) (q + 1)
        rw [htk, hdr, isum_append, hz, hcq] at h2
        rw [take_eq_of _ out x (by rw [overlay_len _ _ _ (by omega)]; omega) (by omega) (fun j hj => by rw [overlay_getD _ _ _ (by omega), if_neg (by omega)]), hz] at h1
        split at f2 <;> omega
      · exfalso
        have h3 := p3 x (by omega) (by omega)
        rcases hx with hx | hx
        · rw [h3] at hx; cases hx
        · omega
theorem RetRun.stop {l : List S37} {paid : List Int} (F : Paid l paid) {n : Int} {z : Nat} {out : List Int} {left : Int} (A : RetRun l paid n z out left) (hz : z ≤ l.length) (hb : bdB l z = true ∨ z = 0) (hl : ¬ 0 < left) : RetRun l paid n 0 out left := by
  have hlo := A.lo
  have hmo := drop_mono paid F.money.ok
  have hcz := A.cum z hb (Nat.le_refl _) hz
  have hlen := A.len
  refine ⟨A.len, ?_, A.each, fun j hj => A.zero j (by omega), fun q hq _ hql => ?_⟩
  · have := hmo 0 z (by omega)
    omega
  · by_cases hqz : z ≤ q
    · exact A.cum q hq hqz hql
    · have h1 := isum_drop out q
      have h2 := isum_drop out z
      rw [zeros_take out q (fun j hj => A.zero j (by omega)) (by omega)] at h1
      rw [zeros_take out z (fun j hj => A.zero j (by omega)) (by omega)] at h2
      have := hmo q z (by omega)
      omega
/-! ### lists and sums -/
theorem sum_lt_of (a b : List Int) (hl : a.length = b.length) (h : ∀ j, j < a.length → a.getD j 0 ≤ b.getD j 0) (i : Nat) (hi : i < a.length) (hlt : a.getD i 0 < b.getD i 0) : isum a < isum b := by
  rw [isum_sumTo, isum_sumTo, ← hl]
  have h1 := sumTo_ge (fun j => b.getD j 0 - a.getD j 0) a.length i hi (fun j hj => by have := h j hj; omega)
  rw [sumTo_sub] at h1
  have h2 : 0 < b.getD i 0 - a.getD i 0 := by omega
  have h3 : b.getD i 0 - a.getD i 0 ≤ sumTo (fun j => b.getD j 0) a.length - sumTo (fun j => a.getD j 0) a.length := h1
  omega
theorem eq_of_sum (a b : List Int) (hl : a.length = b.length) (h : ∀ j, j < a.length → a.getD j 0 ≤ b.getD j 0) (hs : isum a = isum b) : a = b := by
  refine list_ext a b hl fun j hj => ?_
  by_cases hlt : a.getD j 0 < b.getD j 0
  · have := sum_lt_of a b hl h j hj hlt; omega
  · have := h j hj; omega
theorem bad_false (l : List S37) (paid : List Int) (h : ∀ j, j < l.length → 0 ≤ paid.getD j 0 ∧ paid.getD j 0 ≤ (l.getD j z37).f3) : ∀ d i, i + d ≤ l.length → badFrom l paid d i = false
  | 0, _, _ => rfl
  | d + 1, i, hd => by
    have := h i (by omega)
    rw [badFrom, bad_false l paid h d (i + 1) (by omega), decide_eq_false (by omega), decide_eq_false (by omega)]; rfl
theorem right_of (l : List S37) (paid : List Int) (hc : chk47 l = 0) (hp : paid.length = l.length) (h : ∀ j, j < l.length → 0 ≤ paid.getD j 0 ∧ paid.getD j 0 ≤ (l.getD j z37).f3) : right47 l paid = 0 := by
  unfold right47
  rw [if_pos hc, if_pos hp, bad_false l paid h l.length 0 (by omega)]; rfl
theorem abs_chk (loss : Int) (l : List S37) (h : (absAns loss l).2.2 = 0) : chk47 l = 0 := by
  unfold absAns at h
  by_cases hc : chk47 l = 0
  · exact hc
  · rw [if_neg hc] at h; exact absurd h hc
theorem bd_between {l : List S37} (R : Rows l) (k i : Nat) (hk : k < i) (hi : i < l.length) (h : sameT (l.getD k z37) (l.getD i z37) = false) : ∃ q, k < q ∧ q ≤ i ∧ startB l q = true := by
  obtain ⟨n1, n2, n3, n4, _⟩ := nb_facts l (k + 1) (by omega)
  by_cases hq : nb l (k + 1) ≤ i
  · exact ⟨nb l (k + 1), by omega, hq, n4 (by omega)⟩
  · exfalso
    have hkey : ∀ j, k ≤ j → j ≤ i → keyT (l.getD j z37) = keyT (l.getD k z37) := by
      intro j h1 h2
      induction j with
      | zero => obtain rfl : k = 0 := by omega
                rfl
      | succ j ih =>
        by_cases hjk : k = j + 1
        · subst hjk; rfl
        · have ih := ih (by omega) (by omega)
          have h3 := n3 (j + 1) (by omega) (by omega)
          have h4 := (start_key R (j + 1) (by omega) (by omega))
          have h5 := R.mono j (j + 1) (by omega) (by omega)
          rw [h3] at h4
          have h6 : ¬ keyT (l.getD (j + 1 - 1) z37) < keyT (l.getD (j + 1) z37) := fun h => by cases h4.2 h
          rw [show j + 1 - 1 = j by omega] at h6
          omega
    have := (same_key _ _ (R.row k (by omega)) (R.row i hi)).2 (hkey i (by omega) (Nat.le_refl _)).symm
    rw [h] at this; cases this
/-! ### what a loss takes is never out of turn -/
theorem abs_turn {l : List S37} (R : Rows l) {loss : Int} {paid : List Int} {rest : Int} (A : AbsRun l loss l.length paid rest) (k i : Nat) (hk : k < i) (hi : i < l.length) (hs : sameT (l.getD k z37) (l.getD i z37) = false) (h1 : paid.getD k 0 < (l.getD k z37).f3) : paid.getD i 0 = 0 := by
  obtain ⟨q, q1, q2, q3⟩ := bd_between R k i hk hi hs
  have hlen := A.len
  have cq := A.cum q (.inl (by unfold bdB; rw [q3, Bool.or_true])) (by omega)
  have cn := A.cum l.length (.inl (by unfold bdB; rw [decide_eq_true rfl]; rfl)) (Nat.le_refl _)
  have hnn : ∀ a ∈ paid, 0 ≤ a := fun a ha => by
    obtain ⟨j, hj, rfl⟩ := getD_mem _ a ha
    exact (A.each j (by omega)).1
  have hlt := sum_lt_of (paid.take q) ((centsOf l).take q) (by rw [List.length_take, List.length_take, cents_len]; omega) (fun j hj => by
    rw [List.length_take] at hj
    rw [getD_take _ _ _ (by omega), getD_take _ _ _ (by omega), cents_getD l j (by omega)]; exact (A.each _ (by omega)).2) k (by rw [List.length_take]; omega) (by rw [getD_take _ _ _ q1, getD_take _ _ _ q1, cents_getD l k (by omega)]; exact h1)
  have hd := isum_drop paid q
  have hps := mem_le_isum (paid.drop q) (fun x hx => hnn x (List.mem_of_mem_drop hx)) _ (mem_getD (paid.drop q) (i - q) (by rw [List.length_drop]; omega))
  rw [getD_drop, show q + (i - q) = i by omega] at hps
  rw [List.take_of_length_le (by omega)] at cn
  have := (A.each i hi).1
  omega
theorem quot_take (m : Int) (P : List Int) (hm : 0 ≤ m) (hP : MoneyL P) (j : Nat) (hj : j < P.length) : QuotOk (isum P) (isum (takeS m P)) (P.getD j 0) ((takeS m P).getD j 0) := by
  unfold QuotOk
  by_cases h0 : isum P = 0
  · exact .inl h0
  · refine .inr ?_
    unfold takeS
    by_cases h : isum P ≤ m
    · rw [if_pos h, Int.mul_ediv_cancel_left _ h0]
      exact .inl rfl
    · rw [if_neg h, split_val m P hm hP h]
      obtain ⟨s1, s2, up, s3, _⟩ := split_is m P hm (by omega) hP.ok
      obtain ⟨e, hu⟩ := s3 j hj
      simp only
      rw [s2, e]
      cases hup : up j with
      | false => left; simp
      | true =>
        right
        have := hu hup
        exact ⟨by simp, by omega⟩
theorem abs_ok {l : List S37} (R : Rows l) {loss : Int} {paid : List Int} {rest : Int} (A : AbsRun l loss l.length paid rest) (i : Nat) (hi : i < l.length) : OkAt l paid i := by
  have hlen := A.len
  refine ⟨?_, ?_⟩
  · rintro ⟨h1, k, h2, h3, h4⟩
    have := abs_turn R A k i h2 hi h4 h3
    omega
  · obtain ⟨p1, p2, p3⟩ := ps_facts l i
    generalize (psC l i).1 = s at *
    have hs : startB l s = true := by
      rcases p2 with p2 | p2
      · unfold bdB at p2
        rwa [decide_eq_false (by omega), Bool.false_or] at p2
      · subst p2; rfl
    obtain ⟨n1, n2, n3, n4, _⟩ := nb_facts l (s + 1) (by omega)
    have hin : i < nb l (s + 1) := by
      by_cases h : i < nb l (s + 1)
      · exact h
      · have h1 := n4 (by omega)
        have h2 := p3 (nb l (s + 1)) (by omega) (by omega)
        unfold bdB at h2
        rw [h1, Bool.or_true] at h2; cases h2
    have hsame := (turn_at R s (by omega) hs i hi).2 ⟨p1, hin⟩
    rw [part_same R _ s i (by omega) hi hsame, part_same R _ s i (by omega) hi hsame, part_pad R _ (cents_len l) s (by omega) hs, part_pad R _ hlen s (by omega) hs, isum_pad, isum_pad]
    obtain ⟨m, m0, hm⟩ := A.quo s hs (by omega)
    have hp := piece_money (centsOf l) R.money s (nb l (s + 1))
    have hpl := piece_len (centsOf l) s (nb l (s + 1)) (by rw [cents_len]; omega)
    have hq := quot_take m _ m0 hp (i - s) (by omega)
    rw [piece_getD _ _ _ _ (by omega), show s + (i - s) = i by omega, cents_getD l i hi, ← hm, piece_getD _ _ _ _ (by omega), show s + (i - s) = i by omega] at hq
    exact hq
theorem abs_full {l : List S37} {loss : Int} {paid : List Int} {rest : Int} (A : AbsRun l loss l.length paid rest) (h : 0 < rest) (i : Nat) (hi : i < l.length) : paid.getD i 0 = (l.getD i z37).f3 := by
  have hlen := A.len
  have hlo := A.lo
  have cn := A.cum l.length (.inl (by unfold bdB; rw [decide_eq_true rfl]; rfl)) (Nat.le_refl _)
  rw [List.take_of_length_le (by omega), List.take_of_length_le (by rw [cents_len]; omega)] at cn
  rw [List.take_of_length_le (by rw [cents_len]; omega)] at hlo
  have he := eq_of_sum paid (centsOf l) (by rw [cents_len]; exact hlen) (fun j hj => by rw [cents_getD l j (by omega)]; exact (A.each j (by omega)).2) (by omega)
  rw [he, cents_getD l i hi]
theorem abs_no (loss : Int) (l : List S37) (h : (absAns loss l).2.2 ≠ 0) : (absAns loss l).1 = [] ∧ (absAns loss l).2.1 = 0 := by
  unfold absAns at h ⊢
  by_cases hc : chk47 l = 0
  · rw [if_pos hc] at h ⊢
    by_cases hm : okMoney loss = true
    · rw [if_pos hm] at h; exact absurd rfl h
    · rw [if_neg hm]; exact ⟨rfl, rfl⟩
  · rw [if_neg hc]; exact ⟨rfl, rfl⟩
theorem WaterfallTurns : ∀ (a0 : Int) (l1 : List (S37)), (Lit.int .i64 a0).wf = true → l1.length ≤ maxLen → (∀ x0 ∈ l1, (Lit.int .i64 x0.f0).wf = true ∧ (Lit.int .i64 x0.f1).wf = true ∧ x0.f2.size ≤ maxLen ∧ (Lit.int .i64 x0.f3).wf = true) → ∃ k, cl47_WaterfallTurns.f k a0 l1 = some true := by
  intro loss l _ _ _
  refine Ev.rounds ?_
  unfold cl47_WaterfallTurns.f
  by_cases hf : (l.length : Int) > 100
  · exact ev_pos hf goes47t
  refine ev_neg hf (ev_bnd (absorb_ev loss l) ?_)
  by_cases he : (absAns loss l).2.2 = 0
  · obtain ⟨R, hm, A⟩ := absorb_run loss l he
    have hm2 := (okMoney_iff loss).1 hm
    have hr := right_of l _ (abs_chk loss l he) A.len A.each
    obtain ⟨b, hbev, hbi⟩ := wturns_ev l (absAns loss l).1
    have hb : b = true := hbi.2 ⟨hr, fun j hj => abs_ok R A j hj⟩
    rw [hb, hr] at hbev
    clear hbi hb
    have hlen := A.len
    have hlo := A.lo
    have cn := A.cum l.length (.inl (by unfold bdB; rw [decide_eq_true rfl]; rfl)) (Nat.le_refl _)
    rw [List.take_of_length_le (by omega)] at cn
    rw [← cn] at hlo
    refine ev_pos he (ev_pos (by omega) ?_)
    generalize (absAns loss l).1 = paid at *
    generalize (absAns loss l).2.1 = rest at *
    have hnn : ∀ a ∈ paid, 0 ≤ a := fun a ha => by
      obtain ⟨j, hj, rfl⟩ := getD_mem _ a ha
      exact (A.each j (by omega)).1
    have hrest : 0 ≤ rest := by omega
    rw [decide_eq_false (by omega)]
    refine Ev.step (fun _ => by rw [cl47_WaterfallTurns.j0]) ?_
    refine ev_neg (by decide) ?_
    refine ev_down (S := Int) (n := l.length) (g := fun k i left => cl47_WaterfallTurns.l0 k l paid rest left (i : Int)) (spec := fun i _ => true) (inv := fun i left => left = loss - isum (paid.take i)) ?_ ?_ 0 loss (by omega) (by rw [List.take_zero, show isum [] = 0 from rfl]; omega)
    · intro left hl
      rw [List.take_of_length_le (by omega)] at hl
      refine Ev.step (fun _ => by rw [cl47_WaterfallTurns.l0]) ?_
      exact ev_neg (by omega) (ev_bnd hbev (ev_pos (by omega) (ev_pos rfl (ev_pos rfl goes47t))))
    · intro i left hi hl ih
      have hl : left = loss - isum (paid.take i) := hl
      have ih : ∀ s', s' = loss - isum (paid.take (i + 1)) → Ev (fun k => cl47_WaterfallTurns.l0 k l paid rest s' ((i + 1 : Nat) : Int)) true := ih
      have h1 := isum_take_le paid hnn i
      have h2 := isum_take_le paid hnn (i + 1)
      have h3 : isum (paid.take (i + 1)) = isum (paid.take i) + paid.getD i 0 := isum_succ paid i (by omega)
      have hei := A.each i hi
      have ih := ih (left - paid.getD i 0) (by omega)
      refine Ev.step (fun _ => by rw [cl47_WaterfallTurns.l0]) ?_
      rw [rd_nat, rdR]
      refine ev_pos (by omega) (ev_pos (by omega) (ev_pos (by omega) (ev_neg (by omega) (ev_neg (by omega) ?_))))
      have key : Ev (fun k => cl47_WaterfallTurns.j2 k l paid rest left (i : Int) (decide (paid.getD i 0 > left))) true := by
        rw [decide_eq_false (by omega)]
        refine Ev.step (fun _ => by rw [cl47_WaterfallTurns.j2]) ?_
        refine ev_neg (by decide) (ev_pos (by omega) (ev_pos (by omega) ?_))
        rw [rd_nat, w64id (left - paid.getD i 0) (by omega) (by omega)]
        refine ev_down (S := Unit) (n := i) (g := fun k x _ => cl47_WaterfallTurns.l1 k l paid rest (left - paid.getD i 0) (i : Int) (x : Int)) (spec := fun _ _ => true) (inv := fun _ _ => True) ?_ ?_ 0 () (by omega) trivial
        · intro _ _
          refine Ev.step (fun _ => by rw [cl47_WaterfallTurns.l1]) ?_
          rw [wsucc i (by omega)]
          exact ev_neg (by omega) ih
        · intro x _ hx _ ih2
          have ih2 := ih2 () trivial
          refine Ev.step (fun _ => by rw [cl47_WaterfallTurns.l1]) ?_
          rw [rd_nat, rd_nat, wsucc x (by omega), rdR, rdR]
          refine ev_pos (by omega) (ev_pos (by omega) (ev_pos (by omega) (ev_pos (by omega) (ev_pos (by omega) ?_))))
          refine ev_val (turn_eq _ _) ?_
          cases hs : sameT (l.getD x z37) (l.getD i z37) with
          | true => exact ev_pos rfl ih2
          | false =>
            refine ev_neg (by decide) (ev_pos (by omega) ?_)
            by_cases c1 : paid.getD x 0 < (l.getD x z37).f3
            · have := abs_turn R A x i hx hi hs c1
              exact ev_pos c1 (ev_pos (by omega) (ev_neg (by omega) ih2))
            · exact ev_neg c1 ih2
      by_cases c1 : rest > 0
      · have := abs_full A (by omega) i hi
        exact ev_pos c1 (ev_neg (by omega) key)
      · exact ev_neg c1 key
  · obtain ⟨n1, n2⟩ := abs_no loss l he
    refine ev_neg he ?_
    rw [n1, n2]
    exact ev_pos rfl (ev_pos rfl goes47t)
end Go.Proofs.Ytfogpifjpnonnaa.Pure
