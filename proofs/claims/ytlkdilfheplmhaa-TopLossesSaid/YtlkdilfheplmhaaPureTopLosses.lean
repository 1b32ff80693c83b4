/- The pure statement of the law TopLosses, proved: plain Lean over numbers and lists, no program in sight. -/
import Derived.Test.YtlkdilfheplmhaaPTopLossesx
namespace Go.Proofs.Ytlkdilfheplmhaa.Pure
open Go.RowKit Go.Proofs.Ytlkdilfheplmhaa.PTopLosses Go.Proofs.YtlkdilfheplmhaaW.PrintWords Go.Proofs.YtlkdilfheplmhaaW.PrintLast Go.Proofs.YtlkdilfheplmhaaW.PrintMore
set_option linter.unusedVariables false
set_option linter.unusedSimpArgs false
/-! ### from some number of rounds on: steps -/
theorem ev_pos {α : Type} {c : Prop} [Decidable c] {a b : Nat → Option α} {r : α} (h : c) (k : Ev a r) : Ev (fun n => if c then a n else b n) r := Ev.congr (fun _ => if_pos h) k
theorem ev_neg {α : Type} {c : Prop} [Decidable c] {a b : Nat → Option α} {r : α} (h : ¬ c) (k : Ev b r) : Ev (fun n => if c then a n else b n) r := Ev.congr (fun _ => if_neg h) k
theorem ev_val {α β : Type} {g : Option α} {f : Nat → α → Option β} {a : α} {r : β} (h : g = some a) (k : Ev (fun n => f n a) r) : Ev (fun n => g.bind (f n)) r := by
  subst h; exact k
theorem ev_some {α : Type} {x r : α} (h : x = r) : Ev (fun _ => some x) r := h ▸ Ev.now x
theorem wsucc (i : Nat) (h : i ≤ 4611686018427387904) : wrap64 ((i : Int) + 1) = ((i + 1 : Nat) : Int) := by
  unfold wrap64; omega
theorem rd_nat (l : List Int) (i : Nat) : rd l (i : Int) = l.getD i 0 := rfl
/-! ### lists given by a function of the place -/
def tab (n : Nat) (f : Nat → Int) : List Int := (List.range n).map f
theorem tab_len (n : Nat) (f : Nat → Int) : (tab n f).length = n := by simp [tab]
theorem tab_getD (n : Nat) (f : Nat → Int) (i : Nat) (h : i < n) : (tab n f).getD i 0 = f i := by
  simp [tab, List.getD_eq_getElem?_getD, h]
theorem list_ext (l m : List Int) (h : l.length = m.length) (he : ∀ i, i < l.length → l.getD i 0 = m.getD i 0) : l = m := by
  apply List.ext_getElem h
  intro i h1 h2
  have := he i h1
  rwa [List.getD_eq_getElem?_getD, List.getD_eq_getElem?_getD, List.getElem?_eq_getElem h1, List.getElem?_eq_getElem h2] at this
theorem tab_congr (n : Nat) (f g : Nat → Int) (h : ∀ j, j < n → f j = g j) : tab n f = tab n g := by
  unfold tab; exact List.map_congr_left (fun a ha => h a (List.mem_range.1 ha))
theorem tab_set (n : Nat) (f : Nat → Int) (i : Nat) (v : Int) : (tab n f).set i v = tab n (fun j => if j = i then v else f j) := by
  apply list_ext
  · simp [tab]
  · intro j hj
    have hj' : j < n := by simpa [tab] using hj
    rw [tab_getD n _ j hj', List.getD_eq_getElem?_getD, List.getElem?_set, tab_len]
    by_cases h : i = j
    · subst h; simp [hj']
    · rw [if_neg h, if_neg (fun e => h e.symm)]
      have := tab_getD n f j hj'
      rwa [List.getD_eq_getElem?_getD] at this
theorem tab_of (l : List Int) : l = tab l.length (fun j => l.getD j 0) := by
  apply list_ext
  · rw [tab_len]
  · intro i hi; rw [tab_getD _ _ _ hi]
theorem tab_zero (n : Nat) : List.replicate n (0 : Int) = tab n (fun _ => 0) := by
  apply list_ext
  · simp [tab]
  · intro i hi
    have hi' : i < n := by simpa using hi
    rw [tab_getD n _ i hi', List.getD_eq_getElem?_getD, List.getElem?_replicate, if_pos hi']; rfl
theorem tab_succ (n : Nat) (f : Nat → Int) : tab (n + 1) f = tab n f ++ [f n] := by simp [tab, List.range_succ]
def sumTo (f : Nat → Int) : Nat → Int
  | 0 => 0
  | n + 1 => sumTo f n + f n
theorem isum_tab (n : Nat) (f : Nat → Int) : isum (tab n f) = sumTo f n := by
  induction n with
  | zero => rfl
  | succ n ih => rw [tab_succ, isum_append, ih]; simp [isum, sumTo]
theorem isum_sumTo (l : List Int) : isum l = sumTo (fun j => l.getD j 0) l.length := by
  conv => lhs; rw [tab_of l]
  exact isum_tab _ _
theorem sumTo_congr (f g : Nat → Int) (n : Nat) (h : ∀ j, j < n → f j = g j) : sumTo f n = sumTo g n := by
  induction n with
  | zero => rfl
  | succ n ih => simp only [sumTo]; rw [ih (fun j hj => h j (by omega)), h n (by omega)]
theorem sumTo_le (f g : Nat → Int) (n : Nat) (h : ∀ j, j < n → f j ≤ g j) : sumTo f n ≤ sumTo g n := by
  induction n with
  | zero => exact Int.le_refl _
  | succ n ih => simp only [sumTo]; have := ih (fun j hj => h j (by omega)); have := h n (by omega); omega
theorem sumTo_nonneg (f : Nat → Int) (n : Nat) (h : ∀ j, j < n → 0 ≤ f j) : 0 ≤ sumTo f n := by
  induction n with
  | zero => exact Int.le_refl _
  | succ n ih => simp only [sumTo]; have := ih (fun j hj => h j (by omega)); have := h n (by omega); omega
theorem sumTo_mono (f : Nat → Int) (i n : Nat) (hi : i ≤ n) (h : ∀ j, j < n → 0 ≤ f j) : sumTo f i ≤ sumTo f n := by
  induction n with
  | zero => have : i = 0 := by omega
            subst this; exact Int.le_refl _
  | succ n ih =>
    by_cases e : i = n + 1
    · subst e; exact Int.le_refl _
    · simp only [sumTo]; have := ih (by omega) (fun j hj => h j (by omega)); have := h n (by omega); omega
theorem sumTo_sub (f g : Nat → Int) (n : Nat) : sumTo (fun j => f j - g j) n = sumTo f n - sumTo g n := by
  induction n with
  | zero => rfl
  | succ n ih => simp only [sumTo]; rw [ih]; omega
theorem getD_mem (l : List Int) (x : Int) (h : x ∈ l) : ∃ j, j < l.length ∧ l.getD j 0 = x := by
  obtain ⟨j, hj, e⟩ := List.getElem_of_mem h
  exact ⟨j, hj, by rw [List.getD_eq_getElem?_getD, List.getElem?_eq_getElem hj]; exact e⟩
theorem mem_getD (l : List Int) (j : Nat) (h : j < l.length) : l.getD j 0 ∈ l := by
  rw [List.getD_eq_getElem?_getD, List.getElem?_eq_getElem h]; exact List.getElem_mem h
theorem rmoney_val (n : Int) : cr02_Money.f n = some (okMoney n) := by
  unfold cr02_Money.f okMoney
  by_cases h : n ≥ 0
  · rw [if_pos h]; simp [h]
  · rw [if_neg h]; simp [show ¬ 0 ≤ n by omega]
/-! ### contangoref02's functions, in closed form -/
/-! ### the greedy hand-out: plain lists -/
theorem g_getD_set (l : List Int) (m : Nat) (x : Int) (i : Nat) (hm : m < l.length) : (l.set m x).getD i 0 = if i = m then x else l.getD i 0 := by
  rw [List.getD_eq_getElem?_getD, List.getD_eq_getElem?_getD, List.getElem?_set]
  by_cases h : m = i
  · rw [if_pos h, if_pos h.symm, if_pos hm]; rfl
  · rw [if_neg h, if_neg (fun e => h e.symm)]
theorem g_isum_set (l : List Int) : ∀ (m : Nat) (x : Int), m < l.length → isum (l.set m x) = isum l - l.getD m 0 + x := by
  induction l with
  | nil => intro m x h; simp at h
  | cons a l ih =>
    intro m x h
    cases m with
    | zero => simp [isum]; omega
    | succ m =>
      have := ih m x (by simpa using h)
      simp only [List.set_cons_succ, isum, List.getD_cons_succ, this]; omega
theorem g_best_take (l : List Int) (hl : 0 < l.length) : ∀ k, k ≤ l.length → (bestGo l (l.take k) 0 0 < l.length) ∧ (bestGo l (l.take k) 0 0 ≤ k - 1) ∧ (∀ j, j < k → l.getD j 0 ≤ l.getD (bestGo l (l.take k) 0 0) 0) ∧ (∀ j, j < bestGo l (l.take k) 0 0 → l.getD j 0 < l.getD (bestGo l (l.take k) 0 0) 0) := by
  intro k
  induction k with
  | zero => intro _; exact ⟨by simpa [bestGo] using hl, by simp [bestGo], by omega, by simp [bestGo]⟩
  | succ k ih =>
    intro hk
    obtain ⟨h1, h2, h3, h4⟩ := ih (by omega)
    have hs : bestGo l (l.take (k + 1)) 0 0 = if l.getD (bestGo l (l.take k) 0 0) 0 < l.getD k 0 then k else bestGo l (l.take k) 0 0 := by
      have e : l.take (k + 1) = l.take k ++ [l.getD k 0] := by
        rw [List.take_succ_eq_append_getElem (by omega), List.getD_eq_getElem?_getD, List.getElem?_eq_getElem (by omega)]; rfl
      rw [e, bestGo_snoc, List.length_take, Nat.min_eq_left (by omega), Nat.zero_add]
    rw [hs]
    generalize bestGo l (l.take k) 0 0 = b at *
    by_cases hc : l.getD b 0 < l.getD k 0
    · rw [if_pos hc]
      refine ⟨by omega, by omega, ?_, ?_⟩
      · intro j hj
        by_cases hjk : j = k
        · rw [hjk]; exact Int.le_refl _
        · have := h3 j (by omega); omega
      · intro j hj
        have := h3 j hj; omega
    · rw [if_neg hc]
      refine ⟨h1, ?_, ?_, h4⟩
      · omega
      · intro j hj
        by_cases hjk : j = k
        · rw [hjk]; omega
        · exact h3 j (by omega)
theorem g_best (l : List Int) (hl : 0 < l.length) : best l < l.length ∧ (∀ j, j < l.length → l.getD j 0 ≤ l.getD (best l) 0) ∧ (∀ j, j < best l → l.getD j 0 < l.getD (best l) 0) := by
  have := g_best_take l hl l.length (Nat.le_refl _)
  rw [List.take_length] at this
  exact ⟨this.1, this.2.2.1, this.2.2.2⟩
structure GInv (q r : List Int) (A : Int) (n : Nat) (p : List Int × List Int) : Prop where
  l1 : p.1.length = q.length
  l2 : p.2.length = q.length
  each : ∀ i, i < q.length → (p.2.getD i 0 = r.getD i 0 ∧ p.1.getD i 0 = q.getD i 0) ∨ (p.2.getD i 0 = -1 ∧ p.1.getD i 0 = q.getD i 0 + 1 ∧ 0 < r.getD i 0)
  ahead : ∀ i j, i < q.length → j < q.length → p.2.getD i 0 = -1 → p.2.getD j 0 ≠ -1 → r.getD j 0 < r.getD i 0 ∨ (r.getD j 0 = r.getD i 0 ∧ i < j)
  sum1 : isum p.1 = isum q + n
  sum2 : isum r - n * A ≤ isum p.2
theorem g_isum_nonpos (l : List Int) (h : ∀ i, i < l.length → l.getD i 0 ≤ 0) : isum l ≤ 0 := by
  induction l with
  | nil => simp [isum]
  | cons a l ih =>
    have h0 := h 0 (by simp)
    have := ih (fun i hi => by simpa using h (i + 1) (by simpa using hi))
    simp only [List.getD_cons_zero] at h0
    simp only [isum]; omega
theorem g_step (q r : List Int) (A : Int) (n : Nat) (p : List Int × List Int) (hp : GInv q r A n p) (hr0 : ∀ i, i < q.length → 0 ≤ r.getD i 0 ∧ r.getD i 0 < A) (hn : 0 < isum r - n * A) : GInv q r A (n + 1) (giveOne p) := by
  obtain ⟨l1, l2, each, ahead, s1, s2⟩ := hp
  have hpos : 0 < p.2.length := by
    rcases Nat.eq_zero_or_pos p.2.length with h | h
    · have : p.2 = [] := List.length_eq_zero_iff.1 h
      rw [this] at s2; simp only [isum] at s2; omega
    · exact h
  obtain ⟨hb, hmax, hfirst⟩ := g_best p.2 hpos
  have hbig : 0 < p.2.getD (best p.2) 0 := by
    apply Classical.byContradiction
    intro hc
    have := g_isum_nonpos p.2 (fun i hi => by have := hmax i hi; omega)
    omega
  have heach := each (best p.2) (by omega)
  have hbe : p.2.getD (best p.2) 0 = r.getD (best p.2) 0 ∧ p.1.getD (best p.2) 0 = q.getD (best p.2) 0 := by
    rcases heach with h | h
    · exact h
    · omega
  have hrb := hr0 (best p.2) (by omega)
  unfold giveOne
  generalize best p.2 = b at *
  have e1 : ∀ i, (p.1.set b (p.1.getD b 0 + 1)).getD i 0 = if i = b then p.1.getD b 0 + 1 else p.1.getD i 0 := fun i => g_getD_set _ _ _ i (by omega)
  have e2 : ∀ i, (p.2.set b (-1)).getD i 0 = if i = b then -1 else p.2.getD i 0 := fun i => g_getD_set _ _ _ i (by omega)
  refine ⟨by simpa using l1, by simpa using l2, ?_, ?_, ?_, ?_⟩
  · intro i hi
    rw [e1, e2]
    by_cases h : i = b
    · rw [if_pos h, if_pos h, h]; right; exact ⟨rfl, by omega, by omega⟩
    · rw [if_neg h, if_neg h]; exact each i hi
  · intro i j hi hj
    rw [e2, e2]
    intro h1 h2
    by_cases hj' : j = b
    · rw [if_pos hj'] at h2; exact absurd rfl h2
    · rw [if_neg hj'] at h2
      by_cases hi' : i = b
      · rw [hi']
        have hrj : p.2.getD j 0 = r.getD j 0 := by
          rcases each j hj with h | h
          · exact h.1
          · exact absurd h.1 h2
        have := hmax j (by omega)
        by_cases hlt : r.getD j 0 < r.getD b 0
        · exact .inl hlt
        · right
          refine ⟨by omega, ?_⟩
          apply Classical.byContradiction
          intro hc
          have := hfirst j (by omega)
          omega
      · rw [if_neg hi'] at h1
        exact ahead i j hi hj h1 h2
  · show isum (p.1.set b (p.1.getD b 0 + 1)) = isum q + ((n + 1 : Nat) : Int)
    rw [g_isum_set _ _ _ (by omega)]; omega
  · show isum r - ((n + 1 : Nat) : Int) * A ≤ isum (p.2.set b (-1))
    have e : ((n + 1 : Nat) : Int) * A = n * A + A := by rw [Int.natCast_add, Int.add_mul]; simp
    rw [g_isum_set _ _ _ (by omega), e]; omega
theorem g_many (q r : List Int) (A : Int) (hA : 0 < A) (hr : r.length = q.length) (hr0 : ∀ i, i < q.length → 0 ≤ r.getD i 0 ∧ r.getD i 0 < A) : ∀ n : Nat, n * A ≤ isum r → GInv q r A n (giveMany n (q, r)) := by
  intro n
  induction n with
  | zero =>
    intro _
    refine ⟨rfl, hr, fun i hi => .inl ⟨rfl, rfl⟩, ?_, by simp [giveMany], by simp [giveMany]⟩
    intro i j hi hj h1 h2
    have := hr0 i hi
    simp only [giveMany] at h1
    omega
  | succ n ih =>
    intro hn
    have e : ((n + 1 : Nat) : Int) * A = n * A + A := by rw [Int.natCast_add, Int.add_mul]; simp
    rw [giveMany_snoc]
    exact g_step q r A n _ (ih (by omega)) hr0 (by omega)
theorem g_isum_split (T A : Int) (l : List Int) : A * isum (quos T A l) + isum (remsOf T A l) = T * isum l := by
  induction l with
  | nil => simp [quos, remsOf, isum]
  | cons a l ih =>
    have := Int.mul_ediv_add_emod (T * a) A
    simp only [quos, remsOf, List.map_cons, isum] at *
    rw [Int.mul_add, Int.mul_add]; omega
theorem g_quos_getD (T A : Int) (l : List Int) (i : Nat) (h : i < l.length) : (quos T A l).getD i 0 = T * l.getD i 0 / A := by
  unfold quos
  rw [List.getD_eq_getElem?_getD, List.getD_eq_getElem?_getD, List.getElem?_map, List.getElem?_eq_getElem h]; rfl
theorem g_rems_getD (T A : Int) (l : List Int) (i : Nat) (h : i < l.length) : (remsOf T A l).getD i 0 = T * l.getD i 0 % A := by
  unfold remsOf
  rw [List.getD_eq_getElem?_getD, List.getD_eq_getElem?_getD, List.getElem?_map, List.getElem?_eq_getElem h]; rfl
/-- What the split is: each its floor or one more; who got one more has a greater rest than who didn't, or as great a one and stands ahead; all together are the total. -/
theorem split_is (T : Int) (l : List Int) (hT : 0 ≤ T) (hA : 0 < isum l) (h : ∀ a ∈ l, 0 ≤ a) :
    (splitParts T (isum l) l).length = l.length ∧ isum (splitParts T (isum l) l) = T ∧
    ∃ up : Nat → Bool, (∀ i, i < l.length → (splitParts T (isum l) l).getD i 0 = T * l.getD i 0 / isum l + (if up i = true then 1 else 0) ∧ (up i = true → 0 < T * l.getD i 0 % isum l)) ∧
      (∀ i j, i < l.length → j < l.length → up i = true → up j = false → T * l.getD j 0 % isum l < T * l.getD i 0 % isum l ∨ (T * l.getD j 0 % isum l = T * l.getD i 0 % isum l ∧ i < j)) := by
  have hq := isum_quos T (isum l) hT hA l h
  have hs := g_isum_split T (isum l) l
  have hleft : 0 ≤ T - isum (quos T (isum l) l) := by
    have := left_range T l hT hA h l.length
    rw [List.take_length] at this
    exact this.1
  have hlq : (quos T (isum l) l).length = l.length := by simp [quos]
  have hlr : (remsOf T (isum l) l).length = l.length := by simp [remsOf]
  have hm := g_many (quos T (isum l) l) (remsOf T (isum l) l) (isum l) hA (by omega) (by
    intro i hi
    rw [g_rems_getD _ _ _ _ (by omega)]
    exact ⟨Int.emod_nonneg _ (by omega), Int.emod_lt_of_pos _ hA⟩) (T - isum (quos T (isum l) l)).toNat (by
    rw [Int.toNat_of_nonneg hleft, Int.sub_mul]
    rw [Int.mul_comm (isum (quos T (isum l) l))]
    omega)
  obtain ⟨l1, l2, each, ahead, s1, s2⟩ := hm
  unfold splitParts
  generalize giveMany (T - isum (quos T (isum l) l)).toNat (quos T (isum l) l, remsOf T (isum l) l) = p at *
  refine ⟨by omega, by omega, fun i => p.2.getD i 0 == -1, ?_, ?_⟩
  · intro i hi
    have hri : 0 ≤ T * l.getD i 0 % isum l := Int.emod_nonneg _ (by omega)
    have := each i (by omega)
    rw [g_quos_getD _ _ _ _ hi, g_rems_getD _ _ _ _ hi] at this
    rcases this with ⟨h1, h2⟩ | ⟨h1, h2, h3⟩
    · have hne : ¬ (p.2.getD i 0 = -1) := by omega
      simp only [beq_iff_eq, hne, if_false]
      exact ⟨by omega, fun h => h.elim⟩
    · simp only [beq_iff_eq, h1, if_true]
      exact ⟨by omega, fun _ => h3⟩
  · intro i j hi hj h1 h2
    have := ahead i j (by omega) (by omega) (by simpa using h1) (by simpa using h2)
    rwa [g_rems_getD _ _ _ _ hi, g_rems_getD _ _ _ _ hj] at this
/-! ### contangoref02.Split, Signed: the same as share's -/
def splitSpec (a0 : Int) (l1 : List Int) : List Int × Int := if okMoney a0 = true then (if l1.length > 1024 then ([], 8) else if weighedOk l1 = true then (if isum l1 = 0 then ([], 26) else (splitParts a0 (isum l1) l1, 0)) else ([], 26)) else ([], 2)
theorem split_spec (a0 : Int) (l1 : List Int) : share_Split.f a0 l1 = some (splitSpec a0 l1) := rfl
/-! ### a loop, from its end backwards -/
theorem ev_down {ρ S : Type} {n : Nat} {g : Nat → Nat → S → Option ρ} {spec : Nat → S → ρ} {inv : Nat → S → Prop}
    (he : ∀ s, inv n s → Ev (fun k => g k n s) (spec n s))
    (hs : ∀ i s, i < n → inv i s → (∀ s', inv (i + 1) s' → Ev (fun k => g k (i + 1) s') (spec (i + 1) s')) → Ev (fun k => g k i s) (spec i s)) :
    ∀ i s, i ≤ n → inv i s → Ev (fun k => g k i s) (spec i s) := by
  intro i s hi h
  generalize hd : n - i = d
  induction d generalizing i s with
  | zero =>
    obtain rfl : i = n := by omega
    exact he s h
  | succ d ih => exact hs i s (by omega) h (fun s' h' => ih (i + 1) s' (by omega) h' (by omega))
theorem dropD {α : Type} (z : α) (l : List α) (i : Nat) (h : i < l.length) : l.drop i = l.getD i z :: l.drop (i + 1) := by
  rw [List.drop_eq_getElem_cons h, List.getD_eq_getElem?_getD, List.getElem?_eq_getElem h]; rfl
theorem getD_mem' {α : Type} (z : α) (l : List α) (i : Nat) (h : i < l.length) : l.getD i z ∈ l := by
  rw [List.getD_eq_getElem?_getD, List.getElem?_eq_getElem h]; exact List.getElem_mem h
theorem drop_end {α : Type} (l : List α) : l.drop l.length = [] := List.drop_length
theorem ev_bnd {α β : Type} {g : Nat → Option α} {f : Nat → α → Option β} {a : α} {r : β} (h : Ev g a) (k : Ev (fun n => f n a) r) : Ev (fun n => (g n).bind (f n)) r := h.bind k
theorem w64id (x : Int) (h0 : -9223372036854775808 ≤ x) (h1 : x ≤ 9223372036854775807) : wrap64 x = x := by unfold wrap64; omega
theorem ev_end {α : Type} {g : Nat → Option α} {x r : α} (hg : ∀ k, g (k + 1) = some x) (h : x = r) : Ev g r := Ev.step (f := fun _ => some x) hg (ev_some h)
theorem w64i (n : Int) (h0 : -9223372036854775808 ≤ n) (h1 : n ≤ 9223372036854775807) : wrap64 n = n := by unfold wrap64; omega
/-! ### long division by a two-digit number, digit by digit (base 2^32) -/
/-! ### bits.Div64, in closed form -/
/-! ### cents.MulDiv and contangoref01.MulDiv: one law -/
def fitsP (n : Int) : Prop := -1152921504606846976 ≤ n ∧ n ≤ 1152921504606846976
instance (n : Int) : Decidable (fitsP n) := by unfold fitsP; infer_instance
theorem cfits_eq (n : Int) : cents_Fits.f n = some (decide (fitsP n)) := by
  unfold cents_Fits.f fitsP
  by_cases h : n ≥ (-1152921504606846976)
  · rw [if_pos h]; congr 1; simp [h]
  · rw [if_neg h]; congr 1; simp [h]
/-! ### names -/
def letterB (c : Int) : Bool := decide (97 ≤ c) && decide (c ≤ 122)
def digitB (c : Int) : Bool := decide (48 ≤ c) && decide (c ≤ 57)
def nameFrom (s : ByteArray) (i : Nat) : Bool := ((List.range s.size).drop i).all (fun i => letterB (bt s i) || digitB (bt s i))
def nameOk (s : ByteArray) : Bool := if s.size = 0 then false else if s.size > 12 then false else letterB (bt s 0) && nameFrom s 0
theorem size_nil (s : ByteArray) : s.toList = ([] : List UInt8) ↔ s.size = 0 := by
  rw [ByteArray.toList_eq, List.eq_nil_iff_length_eq_zero, Array.length_toList]; rfl
theorem nameFrom_cons (s : ByteArray) (i : Nat) (h : i < s.size) : nameFrom s i = ((letterB (bt s i) || digitB (bt s i)) && nameFrom s (i + 1)) := by
  unfold nameFrom
  rw [dropD 0 (List.range s.size) i (by simpa using h), List.all_cons]
  congr 2 <;> simp [List.getD_eq_getElem?_getD, h]
theorem nameFrom_end (s : ByteArray) : nameFrom s s.size = true := by
  unfold nameFrom
  rw [List.drop_eq_nil_of_le (by simp)]; rfl
theorem letter_eq (c : Int) : words_letter.f c = some (letterB c) := by
  unfold words_letter.f letterB; by_cases h : 97 ≤ c <;> simp [h]
theorem digit_eq (c : Int) : words_digit.f c = some (digitB c) := by
  unfold words_digit.f digitB; by_cases h : 48 ≤ c <;> simp [h]
theorem name_go (s : ByteArray) (hs : s.size ≤ 12) : ∀ (i : Nat) (u : Unit), i ≤ s.size → True → Ev (fun k => words_Name.l0 k s (s.size : Int) (i : Int)) (nameFrom s i) := by
  refine ev_down (S := Unit) (g := fun k i _ => words_Name.l0 k s (s.size : Int) (i : Int)) (spec := fun i _ => nameFrom s i) (inv := fun _ _ => True) ?_ ?_
  · intro _ _
    refine Ev.step (fun _ => rfl) (ev_neg (by omega) (ev_some ?_))
    rw [nameFrom_end]
  · intro i _ hi _ ih
    have ih := ih () trivial
    refine Ev.step (fun _ => rfl) (ev_pos (by omega) (ev_pos (by omega) (ev_pos (by omega) (ev_val (letter_eq _) ?_))))
    rw [nameFrom_cons s i hi, wsucc i (by omega)]
    cases h1 : letterB (bt s i) with
    | true => exact ev_pos (by rfl) (by simpa using ih)
    | false =>
      refine ev_neg (by simp) (ev_val (digit_eq _) ?_)
      cases h2 : digitB (bt s i) with
      | true => exact ev_pos (by rfl) (by simpa using ih)
      | false => exact ev_neg (by simp) (ev_some rfl)
theorem name_ev (s : ByteArray) : Ev (fun k => words_Name.f k s) (nameOk s) := by
  unfold words_Name.f nameOk
  by_cases h0 : s.size = 0
  · rw [if_pos h0]
    exact ev_pos ((size_nil s).2 h0) (ev_end (fun _ => rfl) rfl)
  rw [if_neg h0]
  refine ev_neg (fun h => h0 ((size_nil s).1 h)) ?_
  by_cases h1 : s.size > 12
  · rw [if_pos h1]
    exact ev_pos (by omega) (ev_end (fun _ => rfl) rfl)
  rw [if_neg h1]
  refine ev_neg (by omega) (ev_pos (by omega) (ev_val (letter_eq _) (Ev.step (fun _ => rfl) ?_)))
  cases h2 : letterB (bt s 0) with
  | true =>
    have := name_go s (by omega) 0 () (by omega) trivial
    rw [Bool.true_and]; exact this
  | false => exact ev_some rfl
theorem rname_go (s : ByteArray) (hs : s.size ≤ 12) : ∀ (i : Nat) (u : Unit), i ≤ s.size → True → Ev (fun k => cr22_Name.l0 k s (i : Int)) (nameFrom s i) := by
  refine ev_down (S := Unit) (g := fun k i _ => cr22_Name.l0 k s (i : Int)) (spec := fun i _ => nameFrom s i) (inv := fun _ _ => True) ?_ ?_
  · intro _ _
    refine Ev.step (fun _ => rfl) (ev_neg (by omega) (ev_some ?_))
    rw [nameFrom_end]
  · intro i _ hi _ ih
    have ih := ih () trivial
    refine Ev.step (fun _ => rfl) (ev_pos (by omega) (ev_pos (by omega) ?_))
    rw [nameFrom_cons s i hi, wsucc i (by omega)]
    unfold letterB digitB
    generalize bt s i = c
    by_cases h1 : c < 97
    · refine ev_pos h1 ?_
      rw [decide_eq_false (by omega : ¬ 97 ≤ c)]
      by_cases h2 : c < 48
      · rw [decide_eq_false (by omega : ¬ 48 ≤ c)]; exact ev_pos h2 (ev_some rfl)
      refine ev_neg h2 ?_
      rw [decide_eq_true (by omega : 48 ≤ c)]
      by_cases h3 : c > 57
      · rw [decide_eq_false (by omega : ¬ c ≤ 57)]; exact ev_pos h3 (ev_some rfl)
      · rw [decide_eq_true (by omega : c ≤ 57)]; exact ev_neg h3 (by simpa using ih)
    refine ev_neg h1 ?_
    rw [decide_eq_true (by omega : 97 ≤ c)]
    by_cases h4 : c > 122
    · refine ev_pos h4 (ev_neg (by omega) (ev_pos (by omega) (ev_some ?_)))
      rw [decide_eq_false (by omega : ¬ c ≤ 122), decide_eq_false (by omega : ¬ c ≤ 57)]; simp
    · rw [decide_eq_true (by omega : c ≤ 122)]; exact ev_neg h4 (by simpa using ih)
theorem rname_ev (s : ByteArray) : Ev (fun k => cr22_Name.f k s) (nameOk s) := by
  unfold cr22_Name.f nameOk
  by_cases h0 : s.size = 0
  · rw [if_pos h0]
    exact ev_pos ((size_nil s).2 h0) (ev_end (fun _ => rfl) rfl)
  rw [if_neg h0]
  refine ev_neg (fun h => h0 ((size_nil s).1 h)) ?_
  by_cases h1 : s.size > 12
  · rw [if_pos h1]
    exact ev_pos (by omega) (ev_end (fun _ => rfl) rfl)
  rw [if_neg h1]
  refine ev_neg (by omega) (ev_pos (by omega) ?_)
  have hg := rname_go s (by omega) 0 () (by omega) trivial
  unfold letterB
  generalize bt s 0 = c
  by_cases h2 : c < 97
  · rw [decide_eq_false (by omega : ¬ 97 ≤ c)]
    exact ev_pos h2 (ev_end (fun _ => rfl) rfl)
  rw [decide_eq_true (by omega : 97 ≤ c)]
  refine ev_neg h2 (Ev.step (fun _ => rfl) ?_)
  by_cases h3 : c > 122
  · rw [decide_eq_false (by omega : ¬ c ≤ 122)]; exact ev_pos (by simp [h3]) (ev_some rfl)
  · rw [decide_eq_true (by omega : c ≤ 122)]; exact ev_neg (by simp [h3]) hg
/-! ### sums -/
def sumI : List Int → Int
  | [] => 0
  | a :: l => a + sumI l
def sumAns (l : List Int) : Int × Int := if l.all (fun a => decide (fitsP a)) = true then (if fitsP (sumI l) then (sumI l, 0) else (0, 3)) else (0, 2)
theorem sdrop (l : List Int) (i : Nat) (h : i < l.length) : l.drop i = l.getD i 0 :: l.drop (i + 1) := by
  rw [List.drop_eq_getElem_cons h, List.getD_eq_getElem?_getD, List.getElem?_eq_getElem h]; rfl
theorem and32s (x : Int) (h0 : -9223372036854775808 ≤ x) (h1 : x ≤ 9223372036854775807) : Go.bits .and .i64 x 4294967295 = x % 4294967296 := by
  show IntKind.i64.wrap ((BitVec.ofInt 64 x &&& BitVec.ofInt 64 4294967295).toNat : Int) = _
  have h2 : (BitVec.ofInt 64 4294967295).toNat = 2 ^ 32 - 1 := by decide
  rw [BitVec.toNat_and, h2, Nat.and_two_pow_sub_one_eq_mod, BitVec.toNat_ofInt, IntKind.wrap_i64]
  omega
theorem csum_go (l : List Int) (hl : l.length ≤ 1073741824) (d : Nat) : ∀ (i : Nat) (h w : Int), l.length - i = d → i ≤ l.length → -(i * 268435456) ≤ h → h ≤ i * 268435456 → 0 ≤ w → w ≤ i * 4294967296 →
    Ev (fun k => cents_Sum.l0 k l h w (l.length : Int) (i : Int)) (if (l.drop i).all (fun a => decide (fitsP a)) = true then (if fitsP (h * 4294967296 + w + sumI (l.drop i)) then (h * 4294967296 + w + sumI (l.drop i), 0) else (0, 3)) else (0, 2)) := by
  induction d with
  | zero =>
    intro i h w hd hi a1 a2 a3 a4
    refine Ev.step (fun _ => rfl) (ev_neg (by omega) ?_)
    rw [List.drop_eq_nil_of_le (show l.length ≤ i by omega)]
    show Ev _ (if fitsP (h * 4294967296 + w + 0) then (h * 4294967296 + w + 0, 0) else (0, 3))
    rw [Int.add_zero, w64i (h + w / 4294967296) (by omega) (by omega), and32s w (by omega) (by omega)]
    by_cases b1 : h + w / 4294967296 < -268435456
    · refine ev_pos b1 (ev_some ?_)
      rw [if_neg (by unfold fitsP; omega)]
    refine ev_neg b1 ?_
    by_cases b2 : h + w / 4294967296 > 268435456
    · refine ev_pos b2 (ev_some ?_)
      rw [if_neg (by unfold fitsP; omega)]
    refine ev_neg b2 ?_
    rw [w64i ((h + w / 4294967296) * 4294967296) (by omega) (by omega), w64i (_ + w % 4294967296) (by omega) (by omega), show (h + w / 4294967296) * 4294967296 + w % 4294967296 = h * 4294967296 + w by omega]
    unfold cents_fitting.f
    by_cases b3 : fitsP (h * 4294967296 + w)
    · rw [if_pos b3]; refine Ev.congr (f := fun _ => some _) (fun _ => ?_) (Ev.now _)
      rw [cfits_eq, decide_eq_true b3]; rfl
    · rw [if_neg b3]; refine Ev.congr (f := fun _ => some _) (fun _ => ?_) (Ev.now _)
      rw [cfits_eq, decide_eq_false b3]; rfl
  | succ d ih =>
    intro i h w hd hi a1 a2 a3 a4
    rw [sdrop l i (by omega)]
    refine Ev.step (fun _ => rfl) (ev_pos (by omega) (ev_pos (by omega) (ev_pos (by omega) ?_)))
    rw [show rd l (i : Int) = l.getD i 0 from rfl]
    generalize l.getD i 0 = a
    refine ev_val (cfits_eq a) ?_
    by_cases ha : fitsP a
    · refine ev_pos (by simp [ha]) ?_
      have hf : fitsP a := ha
      unfold fitsP at hf
      rw [and32s a (by omega) (by omega), w64i (h + a / 4294967296) (by omega) (by omega), w64i (w + a % 4294967296) (by omega) (by omega), w64i ((i : Int) + 1) (by omega) (by omega)]
      have := ih (i + 1) (h + a / 4294967296) (w + a % 4294967296) (by omega) (by omega) (by omega) (by omega) (by omega) (by omega)
      rw [show ((i + 1 : Nat) : Int) = (i : Int) + 1 by omega, show (h + a / 4294967296) * 4294967296 + (w + a % 4294967296) + sumI (l.drop (i + 1)) = h * 4294967296 + w + sumI (a :: l.drop (i + 1)) by simp only [sumI]; omega] at this
      rw [List.all_cons, decide_eq_true ha, Bool.true_and]
      exact this
    · refine ev_neg (by simp [ha]) (ev_some ?_)
      rw [List.all_cons, decide_eq_false ha, Bool.false_and, if_neg (by simp)]
theorem csum_ev (l : List Int) (hl : l.length ≤ 1073741824) : Ev (fun k => cents_Sum.f k l) (sumAns l) := by
  have h := csum_go l hl l.length 0 0 0 (by omega) (by omega) (by omega) (by omega) (by omega) (by omega)
  rw [List.drop_zero, show (0 : Int) * 4294967296 + 0 + sumI l = sumI l by omega] at h
  exact h
/-! ### resources: the check -/
theorem rdR (l : List S33) (i : Nat) : rd_T33 l (i : Int) = l.getD i z33 := rfl
theorem sumI_isum (l : List Int) : sumI l = isum l := by
  induction l with
  | nil => rfl
  | cons a l ih => simp only [sumI, isum, ih]
def rcB (x : S33) : Bool := decide (1 ≤ x.f0) && (decide (x.f0 ≤ 8) && (decide (0 ≤ x.f1) && (decide (x.f1 ≤ 9) && okMoney x.f3)))
theorem rcB_iff (x : S33) : rcB x = true ↔ 1 ≤ x.f0 ∧ x.f0 ≤ 8 ∧ 0 ≤ x.f1 ∧ x.f1 ≤ 9 ∧ okMoney x.f3 = true := by
  unfold rcB; simp only [Bool.and_eq_true, decide_eq_true_eq]
def rcErr (x : S33) : Int := if rcB x = true then (if nameOk x.f2 = true then 0 else 10) else 2
def aheadB (a b : S33) : Bool := if a.f0 = b.f0 then (if a.f1 = b.f1 then Op.bytesLess a.f2.toList b.f2.toList else decide (a.f1 < b.f1)) else decide (a.f0 < b.f0)
def aheadO : Option S33 → S33 → Bool
  | none, _ => true
  | some q, x => aheadB q x
def chkGo : Option S33 → List S33 → Int
  | _, [] => 0
  | p, x :: l => if rcErr x = 0 then (if aheadO p x = true then chkGo (some x) l else 12) else rcErr x
def centsOf (l : List S33) : List Int := l.map fun x => x.f3
def chk47 (l : List S33) : Int := if l.length > 1024 then 8 else if chkGo none l = 0 then (if isum (centsOf l) ≤ 1152921504606846976 then 0 else 3) else chkGo none l
def prevO (l : List S33) (i : Nat) : Option S33 := if i = 0 then none else some (l.getD (i - 1) z33)
theorem prevO_succ (l : List S33) (i : Nat) : prevO l (i + 1) = some (l.getD i z33) := by unfold prevO; rw [if_neg (by omega)]; rfl
theorem wmoney_eq (n : Int) : waterfall_money.f n = some (okMoney n) := by
  unfold waterfall_money.f okMoney
  by_cases h : n ≥ 0
  · rw [if_pos h, decide_eq_true (by omega : 0 ≤ n), Bool.true_and]
  · rw [if_neg h, decide_eq_false (by omega : ¬ 0 ≤ n)]; rfl
theorem ahead_eq (a b : S33) : waterfall_ahead.f a.f0 a.f1 a.f2 a.f3 b.f0 b.f1 b.f2 b.f3 = some (aheadB a b) := by
  unfold waterfall_ahead.f aheadB
  by_cases h : a.f0 = b.f0
  · rw [if_pos h, if_pos h]
    by_cases h2 : a.f1 = b.f1
    · rw [if_pos h2, if_pos h2]
    · rw [if_neg h2, if_neg h2]
  · rw [if_neg h, if_neg h]
theorem before_eq (a b : S33) : cr47_before.f a.f0 a.f1 a.f2 a.f3 b.f0 b.f1 b.f2 b.f3 = some (aheadB a b) := by
  unfold cr47_before.f aheadB
  by_cases h : a.f0 = b.f0
  · rw [if_pos h, if_pos h]
    by_cases h2 : a.f1 = b.f1
    · rw [if_pos h2, if_pos h2]
    · rw [if_neg h2, if_neg h2]
  · rw [if_neg h, if_neg h]
theorem chkGo_money : ∀ (p : Option S33) (l : List S33), chkGo p l = 0 → ∀ x ∈ l, rcErr x = 0
  | _, [], _ => by simp
  | p, x :: l, h => by
    rw [chkGo] at h
    by_cases h1 : rcErr x = 0
    · rw [if_pos h1] at h
      by_cases h2 : aheadO p x = true
      · rw [if_pos h2] at h
        intro y hy
        rcases List.mem_cons.1 hy with rfl | hy
        · exact h1
        · exact chkGo_money _ l h y hy
      · rw [if_neg h2] at h; cases h
    · rw [if_neg h1] at h; exact absurd h h1
theorem rcErr_zero (x : S33) (h : rcErr x = 0) : rcB x = true ∧ nameOk x.f2 = true := by
  unfold rcErr at h
  by_cases h1 : rcB x = true
  · rw [if_pos h1] at h
    by_cases h2 : nameOk x.f2 = true
    · exact ⟨h1, h2⟩
    · rw [if_neg h2] at h; cases h
  · rw [if_neg h1] at h; cases h
theorem sumAns_money (l : List Int) (h : ∀ x ∈ l, okMoney x = true) : (sumAns l).2 = if isum l ≤ 1152921504606846976 then 0 else 3 := by
  have h0 : 0 ≤ isum l := by
    induction l with
    | nil => simp [isum]
    | cons a l ih =>
      have := (okMoney_iff a).1 (h a (by simp)); have := ih (fun x hx => h x (by simp [hx]))
      simp only [isum]; omega
  unfold sumAns
  rw [if_pos (List.all_eq_true.2 fun x hx => decide_eq_true (show fitsP x by have := (okMoney_iff x).1 (h x hx); unfold fitsP; omega)), sumI_isum]
  by_cases hs : isum l ≤ 1152921504606846976
  · rw [if_pos hs, if_pos (by unfold fitsP; omega)]
  · rw [if_neg hs, if_neg (by unfold fitsP; omega)]
theorem rcSteps {α : Type} (x : S33) (g : Bool → Nat → Option α) (m : Int → Option Bool) (hm : m x.f3 = some (okMoney x.f3)) (r : α) (h1 : rcB x = true → Ev (g false) r) (h2 : rcB x = false → Ev (g true) r) :
    Ev (fun k => if x.f0 < 1 then g true k else if x.f0 > 8 then g true k else if x.f1 < 0 then g true k else if x.f1 > 9 then g true k else (m x.f3).bind fun t => g (!t) k) r := by
  by_cases a1 : x.f0 < 1
  · exact ev_pos a1 (h2 (by unfold rcB; rw [decide_eq_false (by omega : ¬ 1 ≤ x.f0)]; rfl))
  refine ev_neg a1 ?_
  by_cases a2 : x.f0 > 8
  · exact ev_pos a2 (h2 (by unfold rcB; rw [decide_eq_false (by omega : ¬ x.f0 ≤ 8), Bool.false_and, Bool.and_false]))
  refine ev_neg a2 ?_
  by_cases a3 : x.f1 < 0
  · exact ev_pos a3 (h2 (by unfold rcB; rw [decide_eq_false (by omega : ¬ 0 ≤ x.f1), Bool.false_and, Bool.and_false, Bool.and_false]))
  refine ev_neg a3 ?_
  by_cases a4 : x.f1 > 9
  · exact ev_pos a4 (h2 (by unfold rcB; rw [decide_eq_false (by omega : ¬ x.f1 ≤ 9), Bool.false_and, Bool.and_false, Bool.and_false, Bool.and_false]))
  refine ev_neg a4 (ev_val hm ?_)
  have e : rcB x = okMoney x.f3 := by unfold rcB; rw [decide_eq_true (by omega : 1 ≤ x.f0), decide_eq_true (by omega : x.f0 ≤ 8), decide_eq_true (by omega : 0 ≤ x.f1), decide_eq_true (by omega : x.f1 ≤ 9)]; simp
  rw [← e]
  cases hb : rcB x with
  | true => exact h1 hb
  | false => exact h2 hb
theorem wcheck_go (l : List S33) (hl : l.length ≤ 1024) : ∀ (i : Nat) (cs : List Int), i ≤ l.length → cs = centsOf (l.take i) → Ev (fun k => waterfall_Check.l0 k l cs l (l.length : Int) (i : Int)) (if chkGo (prevO l i) (l.drop i) = 0 then (sumAns (centsOf l)).2 else chkGo (prevO l i) (l.drop i)) := by
  refine ev_down (S := List Int) (g := fun k i cs => waterfall_Check.l0 k l cs l (l.length : Int) (i : Int)) (spec := fun i _ => if chkGo (prevO l i) (l.drop i) = 0 then (sumAns (centsOf l)).2 else chkGo (prevO l i) (l.drop i)) (inv := fun i cs => cs = centsOf (l.take i)) ?_ ?_
  · intro cs hcs
    subst hcs
    rw [List.take_length]
    refine Ev.step (fun _ => rfl) (ev_neg (by omega) ?_)
    refine ev_bnd (csum_ev (centsOf l) (by unfold centsOf; rw [List.length_map]; omega)) (ev_some ?_)
    rw [drop_end, chkGo, if_pos rfl]
  · intro i cs hi hcs ih
    have hlc : cs.length = i := by rw [hcs]; unfold centsOf; rw [List.length_map, List.length_take]; omega
    have ih := ih (cs ++ [(l.getD i z33).f3]) (by rw [hcs]; unfold centsOf; rw [List.take_add_one, List.map_append, List.getD_eq_getElem?_getD, List.getElem?_eq_getElem hi]; simp)
    refine Ev.step (fun _ => rfl) (ev_pos (by omega) (ev_pos (by omega) (ev_pos (by omega) ?_)))
    rw [dropD z33 l i hi, rdR, chkGo]
    rw [prevO_succ] at ih
    have hp : prevO l i = if i = 0 then none else some (l.getD (i - 1) z33) := rfl
    generalize prevO l i = P at *
    generalize l.getD i z33 = x at *
    refine rcSteps x (fun b k => waterfall_Check.j1 k l cs (i : Int) l (l.length : Int) (i : Int) b x.f0 x.f1 x.f2 x.f3) waterfall_money.f (wmoney_eq _) _ ?_ ?_
    · intro hb
      unfold rcErr
      rw [if_pos hb]
      show Ev (fun k => waterfall_Check.j1 k l cs (i : Int) l (l.length : Int) (i : Int) false x.f0 x.f1 x.f2 x.f3) _
      refine Ev.step (fun _ => by rw [waterfall_Check.j1]) ?_
      refine ev_neg (by decide) (ev_bnd (name_ev _) ?_)
      by_cases hn : nameOk x.f2 = true
      · refine ev_pos hn ?_
        rw [if_pos hn, if_pos rfl]
        by_cases h0 : i = 0
        · rw [if_pos h0] at hp
          subst hp
          refine ev_neg (by omega) (ev_pos (by omega) ?_)
          rw [wsucc i (by omega), show aheadO none x = true from rfl, if_pos rfl]
          exact ih
        · rw [if_neg h0] at hp
          subst hp
          refine ev_pos (by omega) ?_
          rw [w64id ((i : Int) - 1) (by omega) (by omega), show (i : Int) - 1 = ((i - 1 : Nat) : Int) by omega]
          refine ev_pos (by omega) (ev_pos (by omega) ?_)
          rw [rdR]
          generalize l.getD (i - 1) z33 = y
          refine ev_val (ahead_eq y x) ?_
          rw [show aheadO (some y) x = aheadB y x from rfl]
          by_cases ha : aheadB y x = true
          · refine ev_pos ha (ev_pos (by omega) ?_)
            rw [wsucc i (by omega), if_pos ha]
            exact ih
          · rw [if_neg ha]
            exact ev_neg ha (ev_some (by rw [if_neg (by decide)]))
      · rw [if_neg hn]
        exact ev_neg hn (ev_some (by rw [if_neg (show ¬ ((10 : Int) = 0) by decide), if_neg (show ¬ ((10 : Int) = 0) by decide)]))
    · intro hb
      have hb' : ¬ rcB x = true := by rw [hb]; decide
      unfold rcErr
      rw [if_neg hb']
      show Ev (fun k => waterfall_Check.j1 k l cs (i : Int) l (l.length : Int) (i : Int) true x.f0 x.f1 x.f2 x.f3) _
      refine Ev.step (fun _ => by rw [waterfall_Check.j1]) ?_
      exact ev_pos rfl (ev_some (by rw [if_neg (show ¬ ((2 : Int) = 0) by decide), if_neg (show ¬ ((2 : Int) = 0) by decide)]))
theorem wcheck_ev (l : List S33) : Ev (fun k => waterfall_Check.f k l) (chk47 l) := by
  unfold waterfall_Check.f chk47
  by_cases h : l.length > 1024
  · rw [if_pos h]; exact ev_pos (by omega) (ev_some rfl)
  · rw [if_neg h]
    refine ev_neg (by omega) ?_
    have := wcheck_go l (by omega) 0 [] (by omega) rfl
    rw [List.drop_zero, show prevO l 0 = none from rfl] at this
    by_cases hc : chkGo none l = 0
    · rw [if_pos hc] at this ⊢
      rwa [sumAns_money _ (fun x hx => by
        unfold centsOf at hx
        obtain ⟨y, hy, rfl⟩ := List.mem_map.1 hx
        exact ((rcB_iff y).1 (rcErr_zero y (chkGo_money _ _ hc y hy)).1).2.2.2.2)] at this
    · rw [if_neg hc] at this ⊢; exact this
theorem rcheck1_go (l : List S33) (hl : l.length ≤ 1024) (hm : ∀ x ∈ l, okMoney x.f3 = true) : ∀ (i : Nat) (a : Int), i ≤ l.length → (a = isum (centsOf (l.take i)) ∧ 0 ≤ a ∧ a ≤ 1152921504606846976) → Ev (fun k => cr47_Check.l1 k l a (i : Int)) (if isum (centsOf l) ≤ 1152921504606846976 then 0 else 3) := by
  have hle : ∀ i, isum (centsOf (l.take i)) ≤ isum (centsOf l) := by
    intro i
    have h := isum_take_le (centsOf l) (by
      intro a ha
      unfold centsOf at ha
      obtain ⟨y, hy, rfl⟩ := List.mem_map.1 ha
      exact ((okMoney_iff _).1 (hm y hy)).1) i
    unfold centsOf at h ⊢
    rw [← List.map_take] at h
    exact h.2
  refine ev_down (S := Int) (g := fun k i a => cr47_Check.l1 k l a (i : Int)) (spec := fun i _ => if isum (centsOf l) ≤ 1152921504606846976 then 0 else 3) (inv := fun i a => a = isum (centsOf (l.take i)) ∧ 0 ≤ a ∧ a ≤ 1152921504606846976) ?_ ?_
  · intro a ha
    rw [List.take_length] at ha
    refine Ev.step (fun _ => rfl) (ev_neg (by omega) (ev_some ?_))
    rw [if_pos (by omega)]
  · intro i a hi ha ih
    refine Ev.step (fun _ => rfl) (ev_pos (by omega) (ev_pos (by omega) ?_))
    have hx := (okMoney_iff _).1 (hm _ (getD_mem' z33 l i hi))
    have hs : isum (centsOf (l.take (i + 1))) = a + (l.getD i z33).f3 := by
      rw [ha.1]; unfold centsOf
      rw [List.take_add_one, List.map_append, List.getD_eq_getElem?_getD, List.getElem?_eq_getElem hi, isum_append]
      simp [isum]
    rw [rdR, w64id (1152921504606846976 - a) (by omega) (by omega)]
    by_cases hg : (l.getD i z33).f3 > 1152921504606846976 - a
    · refine ev_pos hg (ev_some ?_)
      have := hle (i + 1)
      rw [if_neg (by omega)]
    · refine ev_neg hg ?_
      rw [w64id (a + _) (by omega) (by omega), wsucc i (by omega)]
      exact ih _ ⟨hs.symm, by omega, by omega⟩
theorem rcheck_go (l : List S33) (hl : l.length ≤ 1024) : ∀ (i : Nat) (u : Unit), i ≤ l.length → (∀ x ∈ l.take i, rcErr x = 0) → Ev (fun k => cr47_Check.l0 k l (i : Int)) (if chkGo (prevO l i) (l.drop i) = 0 then (if isum (centsOf l) ≤ 1152921504606846976 then 0 else 3) else chkGo (prevO l i) (l.drop i)) := by
  refine ev_down (S := Unit) (g := fun k i _ => cr47_Check.l0 k l (i : Int)) (spec := fun i _ => if chkGo (prevO l i) (l.drop i) = 0 then (if isum (centsOf l) ≤ 1152921504606846976 then 0 else 3) else chkGo (prevO l i) (l.drop i)) (inv := fun i _ => ∀ x ∈ l.take i, rcErr x = 0) ?_ ?_
  · intro _ hm
    rw [List.take_length] at hm
    refine Ev.step (fun _ => rfl) (ev_neg (by omega) ?_)
    rw [drop_end, chkGo, if_pos rfl]
    exact rcheck1_go l hl (fun x hx => ((rcB_iff x).1 (rcErr_zero x (hm x hx)).1).2.2.2.2) 0 0 (by omega) ⟨rfl, by omega, by omega⟩
  · intro i _ hi hm ih
    refine Ev.step (fun _ => rfl) (ev_pos (by omega) (ev_pos (by omega) ?_))
    have ih : rcErr (l.getD i z33) = 0 → _ := fun h => ih () (by
      intro x hx
      rw [List.take_add_one, List.mem_append] at hx
      rcases hx with hx | hx
      · exact hm x hx
      · rw [List.getElem?_eq_getElem hi] at hx
        simp only [Option.toList_some, List.mem_singleton] at hx
        subst hx
        rwa [List.getD_eq_getElem?_getD, List.getElem?_eq_getElem hi] at h)
    rw [dropD z33 l i hi, rdR, chkGo]
    rw [prevO_succ] at ih
    have hp : prevO l i = if i = 0 then none else some (l.getD (i - 1) z33) := rfl
    generalize prevO l i = P at *
    generalize l.getD i z33 = x at *
    refine rcSteps x (fun b k => cr47_Check.j1 k l (i : Int) b x.f0 x.f1 x.f2 x.f3) cr02_Money.f (rmoney_val _) _ ?_ ?_
    · intro hb
      have hE : rcErr x = if nameOk x.f2 = true then 0 else 10 := by unfold rcErr; rw [if_pos hb]
      rw [hE]
      show Ev (fun k => cr47_Check.j1 k l (i : Int) false x.f0 x.f1 x.f2 x.f3) _
      refine Ev.step (fun _ => by rw [cr47_Check.j1]) ?_
      refine ev_neg (by decide) (ev_bnd (rname_ev _) ?_)
      by_cases hn : nameOk x.f2 = true
      · refine ev_pos hn ?_
        rw [hE, if_pos hn] at ih
        rw [if_pos hn, if_pos rfl]
        have ih := ih rfl
        by_cases h0 : i = 0
        · rw [if_pos h0] at hp
          subst hp
          refine ev_neg (by omega) ?_
          rw [wsucc i (by omega), show aheadO none x = true from rfl, if_pos rfl]
          exact ih
        · rw [if_neg h0] at hp
          subst hp
          refine ev_pos (by omega) ?_
          rw [w64id ((i : Int) - 1) (by omega) (by omega), show (i : Int) - 1 = ((i - 1 : Nat) : Int) by omega]
          refine ev_pos (by omega) (ev_pos (by omega) ?_)
          rw [rdR]
          generalize l.getD (i - 1) z33 = y
          refine ev_val (before_eq y x) ?_
          rw [show aheadO (some y) x = aheadB y x from rfl]
          by_cases ha : aheadB y x = true
          · refine ev_pos ha ?_
            rw [wsucc i (by omega), if_pos ha]
            exact ih
          · rw [if_neg ha]
            exact ev_neg ha (ev_some (by rw [if_neg (by decide)]))
      · rw [if_neg hn]
        exact ev_neg hn (ev_some (by rw [if_neg (show ¬ ((10 : Int) = 0) by decide), if_neg (show ¬ ((10 : Int) = 0) by decide)]))
    · intro hb
      have hb' : ¬ rcB x = true := by rw [hb]; decide
      unfold rcErr
      rw [if_neg hb']
      show Ev (fun k => cr47_Check.j1 k l (i : Int) true x.f0 x.f1 x.f2 x.f3) _
      refine Ev.step (fun _ => by rw [cr47_Check.j1]) ?_
      exact ev_pos rfl (ev_some (by rw [if_neg (show ¬ ((2 : Int) = 0) by decide), if_neg (show ¬ ((2 : Int) = 0) by decide)]))
theorem rcheck_ev (l : List S33) : Ev (fun k => cr47_Check.f k l) (chk47 l) := by
  unfold cr47_Check.f chk47
  by_cases h : l.length > 1024
  · rw [if_pos h]; exact ev_pos (by omega) (ev_some rfl)
  · rw [if_neg h]
    refine ev_neg (by omega) ?_
    have := rcheck_go l (by omega) 0 () (by omega) (by simp)
    rwa [List.drop_zero, show prevO l 0 = none from rfl] at this
/-! ### what a turn takes: all, or parted; a list with zeros around it is parted alike -/
def takeS (left : Int) (p : List Int) : List Int := if isum p ≤ left then p else (splitSpec left p).1
theorem isum_nn (l : List Int) (h : ∀ a ∈ l, 0 ≤ a) : 0 ≤ isum l := by
  have := (isum_take_le l h l.length).1
  rwa [List.take_length] at this
structure MoneyL (p : List Int) : Prop where
  ok : ∀ a ∈ p, 0 ≤ a
  top : isum p ≤ 1152921504606846976
  len : p.length ≤ 1024
theorem MoneyL.each {p : List Int} (h : MoneyL p) (a : Int) (ha : a ∈ p) : 0 ≤ a ∧ a ≤ 1152921504606846976 := ⟨h.ok a ha, Int.le_trans (mem_le_isum p h.ok a ha) h.top⟩
theorem split_val (left : Int) (p : List Int) (h0 : 0 ≤ left) (hp : MoneyL p) (hn : ¬ isum p ≤ left) : splitSpec left p = (splitParts left (isum p) p, 0) := by
  unfold splitSpec
  have ht := hp.top
  rw [if_pos ((okMoney_iff left).2 ⟨h0, by omega⟩), if_neg (by have := hp.len; omega), if_pos (by
    unfold weighedOk
    simp only [Bool.and_eq_true, decide_eq_true_eq, List.all_eq_true]
    exact ⟨fun a ha => (okMoney_iff a).2 (hp.each a ha), ht⟩), if_neg (by omega)]
theorem ceil_le (T A w : Int) (hT : 0 ≤ T) (hA : T < A) (hw : 0 ≤ w) (u : Bool) (hu : u = true → 0 < T * w % A) : 0 ≤ T * w / A + (if u = true then 1 else 0) ∧ T * w / A + (if u = true then 1 else 0) ≤ w := by
  have h1 := Int.mul_ediv_add_emod (T * w) A
  have h2 : 0 ≤ T * w / A := Int.ediv_nonneg (Int.mul_nonneg hT hw) (by omega)
  have h3 : T * w ≤ A * w := Int.mul_le_mul_of_nonneg_right (by omega) hw
  have h4 := Int.emod_nonneg (T * w) (show A ≠ 0 by omega)
  cases u with
  | false =>
    simp only [Bool.false_eq_true, if_false]
    have : A * (T * w / A) ≤ A * w := by omega
    have := Int.le_of_mul_le_mul_left this (by omega)
    omega
  | true =>
    have := hu rfl
    simp only [if_true]
    have : A * (T * w / A) < A * w := by omega
    have := Int.lt_of_mul_lt_mul_left this (by omega)
    omega
theorem take_facts (left : Int) (p : List Int) (h0 : 0 ≤ left) (hp : MoneyL p) : (takeS left p).length = p.length ∧ isum (takeS left p) = (if isum p ≤ left then isum p else left) ∧ ∀ i, i < p.length → 0 ≤ (takeS left p).getD i 0 ∧ (takeS left p).getD i 0 ≤ p.getD i 0 := by
  unfold takeS
  by_cases h : isum p ≤ left
  · rw [if_pos h, if_pos h]
    exact ⟨rfl, rfl, fun i hi => ⟨hp.ok _ (mem_getD p i hi), Int.le_refl _⟩⟩
  · rw [if_neg h, if_neg h, split_val left p h0 hp h]
    obtain ⟨s1, s2, up, s3, _⟩ := split_is left p h0 (by omega) hp.ok
    refine ⟨s1, s2, fun i hi => ?_⟩
    obtain ⟨e, hu⟩ := s3 i hi
    rw [e]
    exact ceil_le left (isum p) _ h0 (by omega) (hp.ok _ (mem_getD p i hi)) _ hu
theorem take_nn (left : Int) (p : List Int) (h0 : 0 ≤ left) (hp : MoneyL p) : ∀ a ∈ takeS left p, 0 ≤ a := by
  obtain ⟨h1, _, h3⟩ := take_facts left p h0 hp
  intro a ha
  obtain ⟨j, hj, rfl⟩ := getD_mem _ a ha
  exact (h3 j (by omega)).1
theorem total_go (l : List Int) (hn : ∀ a ∈ l, 0 ≤ a) (hs : isum l ≤ 4611686018427387904) (hl : l.length ≤ 4611686018427387904) : ∀ (i : Nat) (a : Int), i ≤ l.length → a = isum (l.take i) → Ev (fun k => waterfall_total.l0 k a l (l.length : Int) (i : Int)) (isum l) := by
  refine ev_down (S := Int) (g := fun k i a => waterfall_total.l0 k a l (l.length : Int) (i : Int)) (spec := fun _ _ => isum l) (inv := fun i a => a = isum (l.take i)) ?_ ?_
  · intro a ha
    rw [List.take_length] at ha
    exact Ev.step (fun _ => rfl) (ev_neg (by omega) (ev_some ha))
  · intro i a hi ha ih
    have h1 := isum_take_le l hn i
    have h2 := isum_take_le l hn (i + 1)
    have h3 := isum_succ l i hi
    refine Ev.step (fun _ => rfl) (ev_pos (by omega) (ev_pos (by omega) (ev_pos (by omega) ?_)))
    rw [w64id (a + _) (by omega) (by omega), wsucc i (by omega)]
    exact ih _ (by omega)
theorem total_ev (l : List Int) (hn : ∀ a ∈ l, 0 ≤ a) (hs : isum l ≤ 4611686018427387904) (hl : l.length ≤ 4611686018427387904) : Ev (fun k => waterfall_total.f k l) (isum l) := total_go l hn hs hl 0 0 (by omega) rfl
theorem takeF_ev (left : Int) (p : List Int) (h0 : 0 ≤ left) (h1 : left ≤ 1152921504606846976) (hp : MoneyL p) : Ev (fun k => takeF k left p) (takeS left p, left - isum (takeS left p)) := by
  have ht := hp.top
  have hl := hp.len
  have h2 := isum_nn p hp.ok
  obtain ⟨f1, f2, f3⟩ := take_facts left p h0 hp
  have f4 := take_nn left p h0 hp
  unfold takeF
  refine ev_bnd (total_ev p hp.ok (by omega) (by omega)) ?_
  unfold takeS at *
  by_cases h : isum p ≤ left
  · rw [if_pos h] at f1 f2 f4 ⊢
    refine ev_neg (by omega) (ev_bnd (total_ev p hp.ok (by omega) (by omega)) (ev_some ?_))
    rw [w64id _ (by omega) (by omega)]
  · rw [if_neg h] at f1 f4 f2 ⊢
    rw [if_neg h] at f2
    refine ev_pos (by omega) (ev_val (split_spec left p) ?_)
    refine ev_bnd (total_ev _ f4 (by omega) (by omega)) (ev_some ?_)
    rw [w64id _ (by omega) (by omega)]
/-! ### one split alone -/
/-! ### zeros around a list -/
theorem isum_zeros (n : Nat) : isum (List.replicate n 0) = 0 := by
  induction n with
  | zero => rfl
  | succ n ih => rw [List.replicate_succ, isum, ih]; rfl
/-! ### turns -/
def sameT (a b : S33) : Bool := decide (a.f0 = b.f0) && decide (a.f1 = b.f1)
theorem sameT_iff (a b : S33) : sameT a b = true ↔ a.f0 = b.f0 ∧ a.f1 = b.f1 := by unfold sameT; simp only [Bool.and_eq_true, decide_eq_true_eq]
def startB (l : List S33) (i : Nat) : Bool := decide (i = 0) || !(sameT (l.getD (i - 1) z33) (l.getD i z33))
def bndsGo (l : List S33) : Nat → Nat → List Int
  | 0, _ => [(l.length : Int)]
  | d + 1, i => if startB l i = true then (i : Int) :: bndsGo l d (i + 1) else bndsGo l d (i + 1)
def bnds (l : List S33) (i : Nat) : List Int := bndsGo l (l.length - i) i
def nbGo (l : List S33) : Nat → Nat → Nat
  | 0, _ => l.length
  | d + 1, i => if startB l i = true then i else nbGo l d (i + 1)
def nb (l : List S33) (i : Nat) : Nat := nbGo l (l.length - i) i
theorem bnds_end (l : List S33) : bnds l l.length = [(l.length : Int)] := by unfold bnds; rw [Nat.sub_self]; rfl
theorem nb_end (l : List S33) : nb l l.length = l.length := by unfold nb; rw [Nat.sub_self]; rfl
theorem bnds_step (l : List S33) (i : Nat) (h : i < l.length) : bnds l i = if startB l i = true then (i : Int) :: bnds l (i + 1) else bnds l (i + 1) := by
  unfold bnds; rw [show l.length - i = (l.length - (i + 1)) + 1 by omega]; rfl
theorem nb_step (l : List S33) (i : Nat) (h : i < l.length) : nb l i = if startB l i = true then i else nb l (i + 1) := by
  unfold nb; rw [show l.length - i = (l.length - (i + 1)) + 1 by omega]; rfl
theorem down_ind {n : Nat} {P : Nat → Prop} (h0 : P n) (hs : ∀ i, i < n → P (i + 1) → P i) : ∀ i, i ≤ n → P i := by
  intro i hi
  generalize hd : n - i = d
  induction d generalizing i with
  | zero => obtain rfl : i = n := by omega
            exact h0
  | succ d ih => exact hs i (by omega) (ih (i + 1) (by omega) (by omega))
theorem nb_facts (l : List S33) : ∀ i, i ≤ l.length → i ≤ nb l i ∧ nb l i ≤ l.length ∧ (∀ j, i ≤ j → j < nb l i → startB l j = false) ∧ (nb l i < l.length → startB l (nb l i) = true) ∧ bnds l i = (nb l i : Int) :: (if nb l i < l.length then bnds l (nb l i + 1) else []) := by
  refine down_ind ?_ ?_
  · rw [nb_end, bnds_end, if_neg (by omega)]
    exact ⟨by omega, by omega, fun j h1 h2 => by omega, fun h => by omega, rfl⟩
  · intro i hi ih
    rw [nb_step l i hi, bnds_step l i hi]
    cases hs : startB l i with
    | true =>
      simp only [if_true]
      exact ⟨by omega, by omega, fun j h1 h2 => by omega, fun _ => hs, by rw [if_pos hi]⟩
    | false =>
      simp only [Bool.false_eq_true, if_false]
      obtain ⟨a1, a2, a3, a4, a5⟩ := ih
      refine ⟨by omega, a2, fun j h1 h2 => ?_, a4, a5⟩
      by_cases hj : j = i
      · subst hj; exact hs
      · exact a3 j (by omega) h2
theorem turns_go (l : List S33) (hl : l.length ≤ 1024) : ∀ (i : Nat) (acc : List Int), i ≤ l.length → acc.length ≤ i → Ev (fun k => waterfall_turns.l0 k l acc l (l.length : Int) (i : Int)) (acc ++ bnds l i) := by
  refine ev_down (S := List Int) (g := fun k i acc => waterfall_turns.l0 k l acc l (l.length : Int) (i : Int)) (spec := fun i acc => acc ++ bnds l i) (inv := fun i acc => acc.length ≤ i) ?_ ?_
  · intro acc ha
    exact Ev.step (fun _ => rfl) (ev_neg (by omega) (ev_pos (by omega) (ev_some (by rw [bnds_end]))))
  · intro i acc hi ha ih
    refine Ev.step (fun _ => rfl) (ev_pos (by omega) (ev_pos (by omega) (ev_pos (by omega) ?_)))
    rw [bnds_step l i hi]
    have i1 := ih (acc ++ [(i : Int)]) (by rw [List.length_append, List.length_singleton]; omega)
    have i2 := ih acc (by omega)
    rw [List.append_assoc, List.singleton_append] at i1
    by_cases h0 : i = 0
    · refine ev_pos (by omega) (ev_pos (by omega) ?_)
      rw [show startB l i = true by unfold startB; rw [decide_eq_true h0]; rfl, if_pos rfl, wsucc i (by omega)]
      exact i1
    · refine ev_neg (by omega) ?_
      rw [w64id ((i : Int) - 1) (by omega) (by omega), show (i : Int) - 1 = ((i - 1 : Nat) : Int) by omega]
      refine ev_pos (by omega) (ev_pos (by omega) ?_)
      rw [rdR, rdR, wsucc i (by omega)]
      have hst : startB l i = !(sameT (l.getD (i - 1) z33) (l.getD i z33)) := by unfold startB; rw [decide_eq_false h0, Bool.false_or]
      rw [hst]
      by_cases b1 : (l.getD i z33).f0 = (l.getD (i - 1) z33).f0
      · refine ev_pos b1 ?_
        by_cases b2 : (l.getD i z33).f1 = (l.getD (i - 1) z33).f1
        · refine ev_pos b2 ?_
          rw [(sameT_iff _ _).2 ⟨b1.symm, b2.symm⟩]
          exact i2
        · refine ev_neg b2 (ev_pos (by omega) ?_)
          rw [show sameT (l.getD (i - 1) z33) (l.getD i z33) = false by rw [Bool.eq_false_iff]; intro h; exact b2 ((sameT_iff _ _).1 h).2.symm]
          exact i1
      · refine ev_neg b1 (ev_pos (by omega) ?_)
        rw [show sameT (l.getD (i - 1) z33) (l.getD i z33) = false by rw [Bool.eq_false_iff]; intro h; exact b1 ((sameT_iff _ _).1 h).1.symm]
        exact i1
theorem turns_ev (l : List S33) (hl : l.length ≤ 1024) : Ev (fun k => waterfall_turns.f k l) (bnds l 0) := turns_go l hl 0 [] (by omega) (by simp)
/-! ### the order -/
structure Rows (l : List S33) : Prop where
  len : l.length ≤ 1024
  row : ∀ i, i < l.length → rcB (l.getD i z33) = true
  top : isum (centsOf l) ≤ 1152921504606846976
  ord : ∀ i, 0 < i → i < l.length → aheadB (l.getD (i - 1) z33) (l.getD i z33) = true
theorem chkGo_ord : ∀ (p : Option S33) (l : List S33), chkGo p l = 0 → ∀ i, i < l.length → aheadO (if i = 0 then p else some (l.getD (i - 1) z33)) (l.getD i z33) = true
  | _, [], _ => by simp
  | p, x :: l, h => by
    rw [chkGo] at h
    by_cases h1 : rcErr x = 0
    · rw [if_pos h1] at h
      by_cases h2 : aheadO p x = true
      · rw [if_pos h2] at h
        intro i hi
        cases i with
        | zero => exact h2
        | succ i =>
          have := chkGo_ord _ l h i (by simpa using hi)
          rw [if_neg (by omega)]
          cases i with
          | zero => exact this
          | succ i => rw [if_neg (by omega)] at this; exact this
      · rw [if_neg h2] at h; cases h
    · rw [if_neg h1] at h; exact absurd h h1
theorem chk_rows (l : List S33) (h : chk47 l = 0) : Rows l := by
  unfold chk47 at h
  by_cases h1 : l.length > 1024
  · rw [if_pos h1] at h; cases h
  · rw [if_neg h1] at h
    by_cases h2 : chkGo none l = 0
    · rw [if_pos h2] at h
      by_cases h3 : isum (centsOf l) ≤ 1152921504606846976
      · refine ⟨by omega, fun i hi => (rcErr_zero _ (chkGo_money _ _ h2 _ (getD_mem' z33 l i hi))).1, h3, fun i h0 hi => ?_⟩
        have := chkGo_ord none l h2 i hi
        rwa [if_neg (by omega)] at this
      · rw [if_neg h3] at h; cases h
    · rw [if_neg h2] at h; exact absurd h h2
def keyT (x : S33) : Int := x.f0 * 16 + x.f1
theorem same_key (a b : S33) (ha : rcB a = true) (hb : rcB b = true) : sameT a b = true ↔ keyT a = keyT b := by
  have h1 := (rcB_iff a).1 ha
  have h2 := (rcB_iff b).1 hb
  rw [sameT_iff]; unfold keyT; omega
theorem ahead_key (a b : S33) (ha : rcB a = true) (hb : rcB b = true) (h : aheadB a b = true) : keyT a ≤ keyT b := by
  have h1 := (rcB_iff a).1 ha
  have h2 := (rcB_iff b).1 hb
  unfold aheadB at h
  unfold keyT
  by_cases c1 : a.f0 = b.f0
  · rw [if_pos c1] at h
    by_cases c2 : a.f1 = b.f1
    · omega
    · rw [if_neg c2] at h; have := of_decide_eq_true h; omega
  · rw [if_neg c1] at h; have := of_decide_eq_true h; omega
theorem Rows.mono {l : List S33} (R : Rows l) (i : Nat) : ∀ j, i ≤ j → j < l.length → keyT (l.getD i z33) ≤ keyT (l.getD j z33) := by
  intro j hij hj
  induction j with
  | zero => obtain rfl : i = 0 := by omega
            exact Int.le_refl _
  | succ j ih =>
    by_cases h : i = j + 1
    · subst h; exact Int.le_refl _
    · have h1 := ih (by omega) (by omega)
      have h2 := ahead_key _ _ (R.row j (by omega)) (R.row (j + 1) hj) (R.ord (j + 1) (by omega) hj)
      omega
theorem start_key {l : List S33} (R : Rows l) (i : Nat) (h0 : 0 < i) (hi : i < l.length) : startB l i = true ↔ keyT (l.getD (i - 1) z33) < keyT (l.getD i z33) := by
  have h1 := R.mono (i - 1) i (by omega) hi
  have h2 := same_key _ _ (R.row (i - 1) (by omega)) (R.row i hi)
  unfold startB
  rw [decide_eq_false (by omega : ¬ i = 0), Bool.false_or, Bool.not_eq_true']
  rw [Bool.eq_false_iff, ne_eq, h2]; omega
/-! ### losses, turn by turn -/
def absS (has : List Int) : List Int → List Int → Int → List Int × Int
  | a :: b :: r, out, left => if 0 < left then absS has (b :: r) (overlay out a.toNat (takeS left ((has.take b.toNat).drop a.toNat))) (left - isum (takeS left ((has.take b.toNat).drop a.toNat))) else (out, left)
  | _, out, left => (out, left)
theorem absS_stop (has L out : List Int) (left : Int) (h : ¬ 0 < left) : absS has L out left = (out, left) := by
  match L with
  | [] => rfl
  | [_] => rfl
  | a :: b :: r => rw [absS, if_neg h]
def Inc (n : Nat) : List Int → Prop
  | a :: b :: r => 0 ≤ a ∧ a < b ∧ b ≤ (n : Int) ∧ Inc n (b :: r)
  | _ => True
theorem bnds_inc (l : List S33) : ∀ i, i ≤ l.length → Inc l.length (bnds l i) := by
  refine down_ind ?_ ?_
  · rw [bnds_end]; trivial
  · intro i hi ih
    rw [bnds_step l i hi]
    split
    · obtain ⟨n1, n2, _, _, n5⟩ := nb_facts l (i + 1) (by omega)
      rw [n5] at ih ⊢
      exact ⟨by omega, by omega, by omega, ih⟩
    · exact ih
theorem isum_drop (l : List Int) (a : Nat) : isum l = isum (l.take a) + isum (l.drop a) := by
  rw [← isum_append, List.take_append_drop]
theorem piece_len (has : List Int) (a b : Nat) (h : b ≤ has.length) : ((has.take b).drop a).length = b - a := by
  rw [List.length_drop, List.length_take]; omega
theorem piece_getD (has : List Int) (a b j : Nat) (h : j < b - a) : ((has.take b).drop a).getD j 0 = has.getD (a + j) 0 := by
  rw [List.getD_eq_getElem?_getD, List.getD_eq_getElem?_getD, List.getElem?_drop, List.getElem?_take, if_pos (by omega)]
theorem piece_money (has : List Int) (hm : MoneyL has) (a b : Nat) : MoneyL ((has.take b).drop a) := by
  have hok : ∀ x ∈ has.take b, 0 ≤ x := fun x hx => hm.ok x (List.mem_of_mem_take hx)
  refine ⟨fun x hx => hok x (List.mem_of_mem_drop hx), ?_, ?_⟩
  · have h1 := isum_drop (has.take b) a
    have h2 := (isum_take_le _ hok a).1
    have h3 := (isum_take_le has hm.ok b).2
    have h4 := hm.top
    omega
  · rw [List.length_drop, List.length_take]; have := hm.len; omega
theorem overlay_len (out p : List Int) (a : Nat) (h : a + p.length ≤ out.length) : (overlay out a p).length = out.length := by
  unfold overlay; simp; omega
theorem overlay_getD (out p : List Int) (a : Nat) (h : a + p.length ≤ out.length) (i : Nat) : (overlay out a p).getD i 0 = if a ≤ i ∧ i < a + p.length then p.getD (i - a) 0 else out.getD i 0 := by
  unfold overlay
  simp only [List.getD_eq_getElem?_getD, List.getElem?_append, List.length_append, List.length_take, List.getElem?_take, List.getElem?_drop]
  rw [show min a out.length = a by omega]
  by_cases h1 : i < a
  · rw [if_pos (show i < a + p.length by omega), if_neg (show ¬ (a ≤ i ∧ i < a + p.length) by omega), if_pos h1, if_pos h1]
  · by_cases h2 : i < a + p.length
    · rw [if_pos h2, if_neg h1, if_pos (show a ≤ i ∧ i < a + p.length from ⟨by omega, h2⟩)]
    · rw [if_neg h2, if_neg (show ¬ (a ≤ i ∧ i < a + p.length) by omega), show a + p.length + (i - (a + p.length)) = i by omega]
theorem abs_ev (has : List Int) (hm : MoneyL has) : ∀ (L out : List Int) (left : Int), Inc has.length L → out.length = has.length → 0 ≤ left → left ≤ 1152921504606846976 → Ev (fun k => absGo k has L out left) (absS has L out left)
  | [], out, left, _, _, _, _ => Ev.now _
  | [_], out, left, _, _, _, _ => Ev.now _
  | a :: b :: r, out, left, hI, ho, h0, h1 => by
    obtain ⟨i1, i2, i3, hI⟩ := hI
    simp only [absGo, absS]
    by_cases hl : 0 < left
    · rw [if_pos hl]
      refine ev_pos hl (ev_pos ⟨i1, i2, i3, by omega⟩ ?_)
      have hp := piece_money has hm a.toNat b.toNat
      have hpl := piece_len has a.toNat b.toNat (by omega)
      generalize (has.take b.toNat).drop a.toNat = p at *
      obtain ⟨f1, f2, f3⟩ := take_facts left p h0 hp
      have f4 := isum_nn _ (take_nn left p h0 hp)
      have f5 := isum_nn p hp.ok
      refine ev_bnd (takeF_ev left p h0 h1 hp) (ev_pos (by simp only; omega) ?_)
      exact abs_ev has hm (b :: r) _ _ hI (by rw [overlay_len _ _ _ (by simp only; omega), ho]) (by simp only; split at f2 <;> omega) (by simp only; omega)
    · rw [if_neg hl]; exact ev_neg hl (ev_some rfl)
theorem rd_set_tab (l : List S33) (n : Nat) (hn : n = l.length) : centsOf l = tab n (fun j => (l.getD j z33).f3) := by
  subst hn
  refine list_ext _ _ (by unfold centsOf; rw [List.length_map, tab_len]) fun i hi => ?_
  unfold centsOf at hi ⊢
  rw [List.length_map] at hi
  rw [tab_getD _ _ _ hi, List.getD_eq_getElem?_getD, List.getElem?_map, List.getElem?_eq_getElem hi, List.getD_eq_getElem?_getD, List.getElem?_eq_getElem hi]; rfl
theorem cents_getD (l : List S33) (i : Nat) (hi : i < l.length) : (centsOf l).getD i 0 = (l.getD i z33).f3 := by
  rw [rd_set_tab l _ rfl, tab_getD _ _ _ hi]
theorem cents_len (l : List S33) : (centsOf l).length = l.length := by unfold centsOf; rw [List.length_map]
theorem Rows.money {l : List S33} (R : Rows l) : MoneyL (centsOf l) := by
  refine ⟨fun a ha => ?_, R.top, by rw [cents_len]; exact R.len⟩
  obtain ⟨j, hj, rfl⟩ := getD_mem _ a ha
  rw [cents_len] at hj
  rw [cents_getD l j hj]
  exact ((okMoney_iff _).1 ((rcB_iff _).1 (R.row j hj)).2.2.2.2).1
/-! ### the document's loop -/
structure AbsInv (n z : Nat) (out : List Int) (left : Int) : Prop where
  len : out.length = n
  l0 : 0 ≤ left
  l1 : left ≤ 1152921504606846976
  row : ∀ j, j < n → 0 ≤ out.getD j 0 ∧ out.getD j 0 ≤ 1152921504606846976
  zero : ∀ j, z ≤ j → out.getD j 0 = 0
theorem AbsInv.step {n a b : Nat} {out p : List Int} {left : Int} (I : AbsInv n a out left) (hp : MoneyL p) (hpl : p.length = b - a) (hab : a < b) (hb : b ≤ n) : AbsInv n b (overlay out a (takeS left p)) (left - isum (takeS left p)) := by
  obtain ⟨f1, f2, f3⟩ := take_facts left p I.l0 hp
  have f4 := isum_nn _ (take_nn left p I.l0 hp)
  have f5 := isum_nn p hp.ok
  have hl := I.len
  have h0 := I.l0
  have h1 := I.l1
  refine ⟨by rw [overlay_len _ _ _ (by omega)]; exact hl, by split at f2 <;> omega, by omega, fun j hj => ?_, fun j hj => ?_⟩
  · rw [overlay_getD _ _ _ (by omega)]
    by_cases hw : a ≤ j ∧ j < a + (takeS left p).length
    · rw [if_pos hw]
      have := f3 (j - a) (by omega)
      have := hp.each _ (mem_getD p (j - a) (by omega))
      omega
    · rw [if_neg hw]; exact I.row j hj
  · rw [overlay_getD _ _ _ (by omega), if_neg (by omega)]
    exact I.zero j (by omega)
theorem amounts_go (l : List S33) (hl : l.length ≤ 1024) : ∀ (i : Nat) (out : List Int), i ≤ l.length → out = tab l.length (fun j => if j < i then (l.getD j z33).f3 else 0) → Ev (fun k => waterfall_amounts.l0 k out l (l.length : Int) (i : Int)) (centsOf l) := by
  refine ev_down (S := List Int) (g := fun k i out => waterfall_amounts.l0 k out l (l.length : Int) (i : Int)) (spec := fun _ _ => centsOf l) (inv := fun i out => out = tab l.length (fun j => if j < i then (l.getD j z33).f3 else 0)) ?_ ?_
  · intro out ho
    refine Ev.step (fun _ => rfl) (ev_neg (by omega) (ev_some ?_))
    rw [ho, rd_set_tab l _ rfl]
    exact tab_congr _ _ _ fun j hj => by rw [if_pos hj]
  · intro i out hi ho ih
    refine Ev.step (fun _ => rfl) (ev_pos (by omega) (ev_pos (by omega) (ev_pos (by omega) (ev_pos (by rw [ho, tab_len]; omega) ?_))))
    rw [rdR, wsucc i (by omega), Int.toNat_natCast]
    refine ih _ ?_
    rw [ho, tab_set]
    refine tab_congr _ _ _ fun j hj => ?_
    by_cases h1 : j = i
    · subst h1; rw [if_pos rfl, if_pos (by omega)]
    · rw [if_neg h1]
      by_cases h2 : j < i
      · rw [if_pos h2, if_pos (by omega)]
      · rw [if_neg h2, if_neg (by omega)]
theorem amounts_ev (l : List S33) (hl : l.length ≤ 1024) : Ev (fun k => waterfall_amounts.f k l) (centsOf l) := by
  unfold waterfall_amounts.f
  refine ev_pos (by omega) (ev_pos (by rw [Int.toNat_natCast]; omega) ?_)
  rw [Int.toNat_natCast, tab_zero]
  exact amounts_go l hl 0 _ (by omega) (tab_congr _ _ _ fun j hj => by rw [if_neg (by omega)])
def absAns (loss : Int) (l : List S33) : List Int × Int × Int := if chk47 l = 0 then (if okMoney loss = true then ((absS (centsOf l) (bnds l 0) (List.replicate l.length 0) loss).1, (absS (centsOf l) (bnds l 0) (List.replicate l.length 0) loss).2, 0) else ([], 0, 2)) else ([], 0, chk47 l)
theorem absorb_ev (loss : Int) (l : List S33) : Ev (fun k => waterfall_Absorb.f k loss l) (absAns loss l) := by
  unfold waterfall_Absorb.f absAns
  refine ev_bnd (wcheck_ev l) ?_
  by_cases hc : chk47 l = 0
  · rw [if_pos hc]
    have R := chk_rows l hc
    have hl := R.len
    refine ev_pos hc (ev_val (wmoney_eq loss) ?_)
    by_cases hm : okMoney loss = true
    · rw [if_pos hm]
      have hm2 := (okMoney_iff loss).1 hm
      refine ev_pos hm (ev_pos hl (ev_bnd (amounts_ev l hl) (ev_bnd (turns_ev l hl) ?_)))
      have hbl : 0 < (bnds l 0).length ∧ (bnds l 0).length ≤ 1048576 := by
        have : ∀ i, i ≤ l.length → 0 < (bnds l i).length ∧ (bnds l i).length ≤ l.length - i + 1 := by
          refine down_ind ?_ ?_
          · rw [bnds_end]; simp
          · intro i hi ih
            rw [bnds_step l i hi]
            split
            · rw [List.length_cons]; omega
            · omega
        have := this 0 (by omega)
        omega
      refine ev_pos hbl (ev_bnd (abs_ev (centsOf l) R.money (bnds l 0) (List.replicate l.length 0) loss (by rw [cents_len]; exact bnds_inc l 0 (by omega)) (by rw [List.length_replicate, cents_len]) hm2.1 hm2.2) (ev_some rfl))
    · rw [if_neg hm]; exact ev_neg hm (ev_some rfl)
  · rw [if_neg hc]; exact ev_neg hc (ev_some rfl)
/-! ### may numbers be what was paid? -/
def badFrom (l : List S33) (paid : List Int) : Nat → Nat → Bool
  | 0, _ => false
  | d + 1, i => (decide (paid.getD i 0 < 0) || decide (paid.getD i 0 > (l.getD i z33).f3)) || badFrom l paid d (i + 1)
def right47 (l : List S33) (paid : List Int) : Int := if chk47 l = 0 then (if paid.length = l.length then (if badFrom l paid l.length 0 = true then 2 else 0) else 2) else chk47 l
theorem bad_not (l : List S33) (paid : List Int) : ∀ d i, badFrom l paid d i = false → ∀ j, i ≤ j → j < i + d → 0 ≤ paid.getD j 0 ∧ paid.getD j 0 ≤ (l.getD j z33).f3
  | 0, i, _, j, h1, h2 => by omega
  | d + 1, i, h, j, h1, h2 => by
    rw [badFrom, Bool.or_eq_false_iff, Bool.or_eq_false_iff, decide_eq_false_iff_not, decide_eq_false_iff_not] at h
    by_cases hj : j = i
    · subst hj; omega
    · exact bad_not l paid d (i + 1) h.2 j (by omega) (by omega)
structure Paid (l : List S33) (paid : List Int) : Prop extends Rows l where
  plen : paid.length = l.length
  each : ∀ j, j < l.length → 0 ≤ paid.getD j 0 ∧ paid.getD j 0 ≤ (l.getD j z33).f3
theorem right_paid (l : List S33) (paid : List Int) (h : right47 l paid = 0) : Paid l paid := by
  unfold right47 at h
  by_cases h1 : chk47 l = 0
  · rw [if_pos h1] at h
    by_cases h2 : paid.length = l.length
    · rw [if_pos h2] at h
      cases h3 : badFrom l paid l.length 0 with
      | true => rw [h3, if_pos rfl] at h; cases h
      | false => exact { toRows := chk_rows l h1, plen := h2, each := fun j hj => bad_not l paid _ _ h3 j (by omega) (by omega) }
    · rw [if_neg h2] at h; cases h
  · rw [if_neg h1] at h; exact absurd h h1
theorem wbad_go (l : List S33) (paid : List Int) (hl : l.length ≤ 1024) (hp : paid.length = l.length) : ∀ (i : Nat) (u : Unit), i ≤ l.length → True → Ev (fun k => waterfall_check.l0 k l paid (paid.length : Int) (i : Int)) (if badFrom l paid (l.length - i) i = true then 2 else 0) := by
  refine ev_down (S := Unit) (g := fun k i _ => waterfall_check.l0 k l paid (paid.length : Int) (i : Int)) (spec := fun i _ => if badFrom l paid (l.length - i) i = true then 2 else 0) (inv := fun _ _ => True) ?_ ?_
  · intro _ _
    refine Ev.step (fun _ => by rw [waterfall_check.l0]) ?_
    exact ev_neg (by omega) (ev_some (by rw [Nat.sub_self]; rfl))
  · intro i _ hi _ ih
    have ih := ih () trivial
    refine Ev.step (fun _ => by rw [waterfall_check.l0]) ?_
    refine ev_pos (by omega) (ev_pos (by omega) (ev_pos (by omega) ?_))
    rw [show l.length - i = (l.length - (i + 1)) + 1 by omega, badFrom, rdR, rd_nat, wsucc i (by omega)]
    by_cases h1 : paid.getD i 0 < 0
    · exact ev_pos h1 (ev_some (by rw [decide_eq_true h1]; rfl))
    · refine ev_neg h1 (ev_pos (by omega) ?_)
      rw [decide_eq_false h1, Bool.false_or]
      by_cases h2 : paid.getD i 0 > (l.getD i z33).f3
      · exact ev_pos h2 (ev_some (by rw [decide_eq_true h2]; rfl))
      · rw [decide_eq_false h2, Bool.false_or]
        exact ev_neg h2 ih
theorem wcheckp_ev (l : List S33) (paid : List Int) (n : Int) : Ev (fun k => waterfall_check.f k l paid n) (if chk47 l = 0 then (if okMoney n = true then right47 l paid else 2) else chk47 l) := by
  unfold waterfall_check.f
  refine ev_bnd (wcheck_ev l) ?_
  by_cases hc : chk47 l = 0
  · rw [if_pos hc]
    have hl := (chk_rows l hc).len
    refine ev_pos hc (ev_val (wmoney_eq n) ?_)
    by_cases hm : okMoney n = true
    · rw [if_pos hm]
      refine ev_pos hm ?_
      refine Ev.step (fun _ => by rw [waterfall_check.j0]) ?_
      unfold right47
      rw [if_pos hc]
      by_cases hp : paid.length = l.length
      · rw [if_pos hp]
        refine ev_neg (by simp [hp]) ?_
        exact wbad_go l paid hl hp 0 () (by omega) trivial
      · rw [if_neg hp]
        exact ev_pos (by simp; omega) (ev_some rfl)
    · rw [if_neg hm]
      refine ev_neg hm ?_
      exact Ev.step (fun _ => by rw [waterfall_check.j0]) (ev_pos rfl (ev_some rfl))
  · rw [if_neg hc]; exact ev_neg hc (ev_some rfl)
theorem money0 : okMoney 0 = true := by decide
theorem right_chk (l : List S33) (paid : List Int) : (if chk47 l = 0 then (if okMoney 0 = true then right47 l paid else 2) else chk47 l) = right47 l paid := by
  by_cases h : chk47 l = 0
  · rw [if_pos h, if_pos money0]
  · rw [if_neg h]; unfold right47; rw [if_neg h]
theorem Paid.money {l : List S33} {paid : List Int} (F : Paid l paid) : MoneyL paid := by
  have hc := F.toRows.money
  refine ⟨fun a ha => ?_, ?_, by rw [F.plen]; exact F.len⟩
  · obtain ⟨j, hj, rfl⟩ := getD_mem _ a ha
    exact (F.each j (by rw [← F.plen]; exact hj)).1
  · have := sumTo_le (fun j => paid.getD j 0) (fun j => (centsOf l).getD j 0) l.length (fun j hj => by rw [cents_getD l j hj]; exact (F.each j hj).2)
    rw [← F.plen, ← isum_sumTo, F.plen, ← cents_len l, ← isum_sumTo] at this
    have := hc.top
    omega
theorem paid_row {l : List S33} {paid : List Int} (F : Paid l paid) (i : Nat) (hi : i < l.length) : 0 ≤ paid.getD i 0 ∧ paid.getD i 0 ≤ (l.getD i z33).f3 ∧ 0 ≤ (l.getD i z33).f3 ∧ (l.getD i z33).f3 ≤ 1152921504606846976 := by
  have h1 := (okMoney_iff _).1 ((rcB_iff _).1 (F.row i hi)).2.2.2.2
  have h2 := F.each i hi
  omega
/-! ### what is left of resources -/
def leftL (l : List S33) (paid : List Int) : Nat → Nat → List S33
  | 0, _ => []
  | d + 1, i => if (l.getD i z33).f3 > paid.getD i 0 then ⟨(l.getD i z33).f0, (l.getD i z33).f1, (l.getD i z33).f2, (l.getD i z33).f3 - paid.getD i 0⟩ :: leftL l paid d (i + 1) else leftL l paid d (i + 1)
theorem leftL_len (l : List S33) (paid : List Int) : ∀ d i, (leftL l paid d i).length ≤ d
  | 0, _ => by simp [leftL]
  | d + 1, i => by
    rw [leftL]; have := leftL_len l paid d (i + 1)
    split
    · rw [List.length_cons]; omega
    · omega
theorem wleft_go {l : List S33} {paid : List Int} (F : Paid l paid) : ∀ (i : Nat) (acc : List S33), i ≤ l.length → acc.length ≤ i → Ev (fun k => waterfall_Left.l0 k paid acc l (l.length : Int) (i : Int)) (acc ++ leftL l paid (l.length - i) i, 0) := by
  have hl := F.len
  have hp := F.plen
  refine ev_down (S := List S33) (g := fun k i acc => waterfall_Left.l0 k paid acc l (l.length : Int) (i : Int)) (spec := fun i acc => (acc ++ leftL l paid (l.length - i) i, (0 : Int))) (inv := fun i acc => acc.length ≤ i) ?_ ?_
  · intro acc _
    refine Ev.step (fun _ => by rw [waterfall_Left.l0]) ?_
    exact ev_neg (by omega) (ev_some (by rw [Nat.sub_self]; simp [leftL]))
  · intro i acc hi ha ih
    have hr := paid_row F i hi
    refine Ev.step (fun _ => by rw [waterfall_Left.l0]) ?_
    refine ev_pos (by omega) (ev_pos (by omega) (ev_pos (by omega) (ev_pos (by omega) ?_)))
    rw [show l.length - i = (l.length - (i + 1)) + 1 by omega, leftL, rdR, rd_nat, wsucc i (by omega)]
    by_cases h : (l.getD i z33).f3 > paid.getD i 0
    · refine ev_pos h (ev_pos (by omega) ?_)
      rw [if_pos h, w64id _ (by omega) (by omega)]
      have := ih (acc ++ [⟨(l.getD i z33).f0, (l.getD i z33).f1, (l.getD i z33).f2, (l.getD i z33).f3 - paid.getD i 0⟩]) (by rw [List.length_append, List.length_singleton]; omega)
      rwa [List.append_assoc, List.singleton_append] at this
    · rw [if_neg h]
      exact ev_neg h (ih acc (by omega))
def leftAns (l : List S33) (paid : List Int) : List S33 × Int := if right47 l paid = 0 then (leftL l paid l.length 0, 0) else ([], right47 l paid)
theorem left_ev (l : List S33) (paid : List Int) : Ev (fun k => waterfall_Left.f k l paid) (leftAns l paid) := by
  unfold waterfall_Left.f leftAns
  have h := wcheckp_ev l paid 0
  rw [right_chk] at h
  refine ev_bnd h ?_
  by_cases hr : right47 l paid = 0
  · rw [if_pos hr]; exact ev_pos hr (wleft_go (right_paid l paid hr) 0 [] (by omega) (by simp))
  · rw [if_neg hr]; exact ev_neg hr (ev_some rfl)
/-! ### what comes back, the last turn first -/
def bdB (l : List S33) (q : Nat) : Bool := decide (q = l.length) || startB l q
def psC (l : List S33) : Nat → Nat × Nat
  | 0 => (0, 0)
  | q + 1 => if bdB l (q + 1) = true then (q + 1, (psC l q).2 + 1) else psC l q
theorem ps_facts (l : List S33) : ∀ q, (psC l q).1 ≤ q ∧ (bdB l (psC l q).1 = true ∨ (psC l q).1 = 0) ∧ ∀ j, (psC l q).1 < j → j ≤ q → bdB l j = false
  | 0 => ⟨by simp [psC], .inr rfl, fun j h1 h2 => by omega⟩
  | q + 1 => by
    obtain ⟨h1, h2, h3⟩ := ps_facts l q
    rw [psC]
    cases hb : bdB l (q + 1) with
    | true =>
      simp only [if_true]
      exact ⟨by omega, .inl hb, fun j h1 h2 => by omega⟩
    | false =>
      simp only [Bool.false_eq_true, if_false]
      refine ⟨by omega, h2, fun j h4 h5 => ?_⟩
      by_cases hj : j = q + 1
      · subst hj; exact hb
      · exact h3 j h4 (by omega)
structure RetInv (n z : Nat) (out : List Int) (left : Int) : Prop where
  len : out.length = n
  l0 : 0 ≤ left
  l1 : left ≤ 1152921504606846976
  row : ∀ j, j < n → 0 ≤ out.getD j 0 ∧ out.getD j 0 ≤ 1152921504606846976
  zero : ∀ j, j < z → out.getD j 0 = 0
theorem RetInv.step {n a b : Nat} {out p : List Int} {left : Int} (I : RetInv n b out left) (hp : MoneyL p) (hpl : p.length = b - a) (hab : a < b) (hb : b ≤ n) : RetInv n a (overlay out a (takeS left p)) (left - isum (takeS left p)) := by
  obtain ⟨f1, f2, f3⟩ := take_facts left p I.l0 hp
  have f4 := isum_nn _ (take_nn left p I.l0 hp)
  have f5 := isum_nn p hp.ok
  have hl := I.len
  have h0 := I.l0
  have h1 := I.l1
  refine ⟨by rw [overlay_len _ _ _ (by omega)]; exact hl, by split at f2 <;> omega, by omega, fun j hj => ?_, fun j hj => ?_⟩
  · rw [overlay_getD _ _ _ (by omega)]
    by_cases hw : a ≤ j ∧ j < a + (takeS left p).length
    · rw [if_pos hw]
      have := f3 (j - a) (by omega)
      have := hp.each _ (mem_getD p (j - a) (by omega))
      omega
    · rw [if_neg hw]; exact I.row j hj
  · rw [overlay_getD _ _ _ (by omega), if_neg (by omega)]
    exact I.zero j (by omega)
/-! ### who paid out of turn -/
theorem isum_le (a b : List Int) (hl : a.length = b.length) (h : ∀ j, j < a.length → a.getD j 0 ≤ b.getD j 0) : isum a ≤ isum b := by
  have := sumTo_le (fun j => a.getD j 0) (fun j => b.getD j 0) a.length h
  rw [← isum_sumTo, hl, ← isum_sumTo] at this
  exact this
theorem isum_zero_iff (p : List Int) (h : ∀ a ∈ p, 0 ≤ a) : isum p = 0 ↔ ∀ j, j < p.length → p.getD j 0 = 0 := by
  constructor
  · intro hs j hj
    have h1 := mem_le_isum p h _ (mem_getD p j hj)
    have h2 := h _ (mem_getD p j hj)
    omega
  · intro hj
    have h1 := g_isum_nonpos p (fun i hi => by rw [hj i hi]; exact Int.le_refl _)
    have h2 := isum_nn p h
    omega
/-! ### what a loss takes, told by sums -/
theorem getD_take (l : List Int) (q j : Nat) (h : j < q) : (l.take q).getD j 0 = l.getD j 0 := by
  rw [List.getD_eq_getElem?_getD, List.getD_eq_getElem?_getD, List.getElem?_take, if_pos h]
theorem getD_drop (l : List Int) (q j : Nat) : (l.drop q).getD j 0 = l.getD (q + j) 0 := by
  rw [List.getD_eq_getElem?_getD, List.getD_eq_getElem?_getD, List.getElem?_drop]
theorem take_eq_of (x y : List Int) (q : Nat) (hx : q ≤ x.length) (hy : q ≤ y.length) (h : ∀ j, j < q → x.getD j 0 = y.getD j 0) : x.take q = y.take q := by
  refine list_ext _ _ (by rw [List.length_take, List.length_take]; omega) fun j hj => ?_
  rw [List.length_take] at hj
  rw [getD_take _ _ _ (by omega), getD_take _ _ _ (by omega), h j (by omega)]
theorem drop_eq_of (x y : List Int) (q : Nat) (hx : x.length = y.length) (h : ∀ j, q ≤ j → j < x.length → x.getD j 0 = y.getD j 0) : x.drop q = y.drop q := by
  refine list_ext _ _ (by rw [List.length_drop, List.length_drop, hx]) fun j hj => ?_
  rw [List.length_drop] at hj
  rw [getD_drop, getD_drop, h (q + j) (by omega) (by omega)]
theorem overlay_take (out p : List Int) (a : Nat) (h : a + p.length ≤ out.length) : (overlay out a p).take (a + p.length) = out.take a ++ p := by
  unfold overlay
  rw [List.take_append_of_le_length (by rw [List.length_append, List.length_take]; omega), List.take_of_length_le (by rw [List.length_append, List.length_take]; omega)]
theorem overlay_drop (out p : List Int) (a : Nat) (h : a + p.length ≤ out.length) : (overlay out a p).drop (a + p.length) = out.drop (a + p.length) := by
  refine drop_eq_of _ _ _ (overlay_len out p a h) fun j h1 _ => ?_
  rw [overlay_getD out p a h, if_neg (by omega)]
theorem piece_sum (m : List Int) (a b : Nat) (h : a ≤ b) : isum ((m.take b).drop a) = isum (m.take b) - isum (m.take a) := by
  have h1 := isum_drop (m.take b) a
  rw [List.take_take, Nat.min_eq_left h] at h1
  omega
theorem take_mono (m : List Int) (hm : ∀ a ∈ m, 0 ≤ a) (a b : Nat) (h : a ≤ b) : isum (m.take a) ≤ isum (m.take b) := by
  have h1 := piece_sum m a b h
  have h2 := isum_nn ((m.take b).drop a) (fun x hx => hm x (List.mem_of_mem_take (List.mem_of_mem_drop hx)))
  omega
theorem take_zeros (out : List Int) (z q : Nat) (hz : ∀ j, z ≤ j → out.getD j 0 = 0) (h : z ≤ q) : isum (out.take q) = isum (out.take z) := by
  have h1 := piece_sum out z q h
  have h2 : isum ((out.take q).drop z) = 0 := by
    rw [isum_sumTo]
    rw [sumTo_congr _ (fun _ => 0) _ (fun j hj => by
      rw [List.length_drop, List.length_take] at hj
      rw [getD_drop, getD_take _ _ _ (by omega)]; exact hz _ (by omega))]
    generalize ((out.take q).drop z).length = n
    induction n with
    | zero => rfl
    | succ n ih => simp only [sumTo]; omega
  omega
theorem take_zero (p : List Int) (hp : MoneyL p) : takeS 0 p = List.replicate p.length 0 := by
  obtain ⟨f1, f2, f3⟩ := take_facts 0 p (Int.le_refl _) hp
  have h1 := isum_nn p hp.ok
  have h2 : isum (takeS 0 p) = 0 := by split at f2 <;> omega
  have h3 := (isum_zero_iff _ (take_nn 0 p (Int.le_refl _) hp)).1 h2
  refine list_ext _ _ (by rw [f1, List.length_replicate]) fun j hj => ?_
  rw [h3 j hj, tab_zero, tab_getD _ _ _ (by omega)]
structure AbsRun (l : List S33) (loss : Int) (z : Nat) (out : List Int) (left : Int) : Prop where
  len : out.length = l.length
  lo : left = loss - min loss (isum ((centsOf l).take z))
  each : ∀ j, j < l.length → 0 ≤ out.getD j 0 ∧ out.getD j 0 ≤ (l.getD j z33).f3
  zero : ∀ j, z ≤ j → out.getD j 0 = 0
  cum : ∀ q, bdB l q = true ∨ q = 0 → q ≤ z → isum (out.take q) = min loss (isum ((centsOf l).take q))
  quo : ∀ i, startB l i = true → i < z → ∃ m, 0 ≤ m ∧ (out.take (nb l (i + 1))).drop i = takeS m (((centsOf l).take (nb l (i + 1))).drop i)
theorem nb_before (l : List S33) (i j : Nat) (hi : i < j) (hj : j < l.length) (hs : startB l j = true) : nb l (i + 1) ≤ j := by
  obtain ⟨_, _, n3, _⟩ := nb_facts l (i + 1) (by omega)
  by_cases h : nb l (i + 1) ≤ j
  · exact h
  · have := n3 j (by omega) (by omega)
    rw [hs] at this; cases this
theorem AbsRun.step {l : List S33} (R : Rows l) {loss : Int} {i : Nat} {out : List Int} {left : Int} (A : AbsRun l loss i out left) (hi : i < l.length) (hs : startB l i = true) (hl : 0 < left) :
    AbsRun l loss (nb l (i + 1)) (overlay out i (takeS left (((centsOf l).take (nb l (i + 1))).drop i))) (left - isum (takeS left (((centsOf l).take (nb l (i + 1))).drop i))) := by
  obtain ⟨n1, n2, n3, _, _⟩ := nb_facts l (i + 1) (by omega)
  have hp := piece_money (centsOf l) R.money i (nb l (i + 1))
  have hpl := piece_len (centsOf l) i (nb l (i + 1)) (by rw [cents_len]; omega)
  have hps := piece_sum (centsOf l) i (nb l (i + 1)) (by omega)
  have hpe : ∀ j, j < nb l (i + 1) - i → (((centsOf l).take (nb l (i + 1))).drop i).getD j 0 = (l.getD (i + j) z33).f3 := fun j hj => by
    rw [piece_getD _ _ _ _ hj, cents_getD l _ (by omega)]
  have hmo := take_mono (centsOf l) R.money.ok i (nb l (i + 1)) (by omega)
  have hlo := A.lo
  have hlen := A.len
  generalize hP : ((centsOf l).take (nb l (i + 1))).drop i = p at *
  obtain ⟨f1, f2, f3⟩ := take_facts left p (by omega) hp
  have hbe : i + (takeS left p).length = nb l (i + 1) := by omega
  have htk : (overlay out i (takeS left p)).take (nb l (i + 1)) = out.take i ++ takeS left p := by
    rw [← hbe]; exact overlay_take out _ i (by omega)
  have hci := A.cum i (by unfold bdB; rw [hs, Bool.or_true]; exact .inl rfl) (by omega)
  refine ⟨by rw [overlay_len _ _ _ (by omega), hlen], ?_, fun j hj => ?_, fun j hj => ?_, fun q hq hqb => ?_, fun j hj hjb => ?_⟩
  · split at f2 <;> omega
  · rw [overlay_getD _ _ _ (by omega)]
    by_cases hw : i ≤ j ∧ j < i + (takeS left p).length
    · rw [if_pos hw]
      have := f3 (j - i) (by omega)
      rw [hpe _ (by omega), show i + (j - i) = j by omega] at this
      exact this
    · rw [if_neg hw]; exact A.each j hj
  · rw [overlay_getD _ _ _ (by omega), if_neg (by omega)]
    exact A.zero j (by omega)
  · by_cases hqi : q ≤ i
    · rw [take_eq_of _ out q (by rw [overlay_len _ _ _ (by omega)]; omega) (by omega) (fun j hj => by rw [overlay_getD _ _ _ (by omega), if_neg (by omega)])]
      exact A.cum q hq hqi
    · by_cases hqe : q = nb l (i + 1)
      · subst hqe
        rw [htk, isum_append, hci]
        split at f2 <;> omega
      · exfalso
        have h3 := n3 q (by omega) (by omega)
        rcases hq with hq | hq
        · unfold bdB at hq
          rw [h3, decide_eq_false (by omega)] at hq
          cases hq
        · omega
  · by_cases hji : j < i
    · have hb := nb_before l j i hji hi hs
      obtain ⟨m, m0, hm⟩ := A.quo j hj hji
      refine ⟨m, m0, ?_⟩
      rw [← hm, take_eq_of _ out _ (by rw [overlay_len _ _ _ (by omega)]; omega) (by omega) (fun x hx => by rw [overlay_getD _ _ _ (by omega), if_neg (by omega)])]
    · by_cases hje : j = i
      · subst hje
        refine ⟨left, by omega, ?_⟩
        rw [htk, hP, List.drop_append_of_le_length (by rw [List.length_take]; omega), List.drop_eq_nil_of_le (by rw [List.length_take]; omega)]; rfl
      · exfalso
        have h3 := n3 j (by omega) (by omega)
        rw [h3] at hj; cases hj
theorem AbsRun.stop {l : List S33} (R : Rows l) {loss : Int} {z : Nat} {out : List Int} {left : Int} (A : AbsRun l loss z out left) (hz : z ≤ l.length) (hb : bdB l z = true ∨ z = 0) (hl : ¬ 0 < left) : AbsRun l loss l.length out left := by
  have hlo := A.lo
  have hmo := take_mono (centsOf l) R.money.ok z
  have hcz := A.cum z hb (Nat.le_refl _)
  have hlen := A.len
  refine ⟨A.len, ?_, A.each, fun j hj => A.zero j (by omega), fun q hq hqb => ?_, fun j hj hjb => ?_⟩
  · have := hmo l.length hz
    omega
  · by_cases hqz : q ≤ z
    · exact A.cum q hq hqz
    · rw [take_zeros out z q A.zero (by omega), hcz]
      have := hmo q (by omega)
      omega
  · by_cases hjz : j < z
    · exact A.quo j hj hjz
    · obtain ⟨n1, n2, _⟩ := nb_facts l (j + 1) (by omega)
      have hp := piece_money (centsOf l) R.money j (nb l (j + 1))
      have hpl := piece_len (centsOf l) j (nb l (j + 1)) (by rw [cents_len]; omega)
      have hol := piece_len out j (nb l (j + 1)) (by omega)
      refine ⟨0, Int.le_refl _, ?_⟩
      rw [take_zero _ hp, hpl]
      refine list_ext _ _ (by rw [hol, List.length_replicate]) fun x hx => ?_
      rw [hol] at hx
      rw [piece_getD _ _ _ _ hx, tab_zero, tab_getD _ _ _ hx]
      exact A.zero _ (by omega)
theorem nb_bd (l : List S33) (i : Nat) (hi : i ≤ l.length) : bdB l (nb l i) = true := by
  obtain ⟨_, n2, _, n4, _⟩ := nb_facts l i hi
  unfold bdB
  by_cases h : nb l i < l.length
  · rw [n4 h, Bool.or_true]
  · rw [decide_eq_true (show nb l i = l.length by omega), Bool.true_or]
theorem abs_run {l : List S33} (R : Rows l) (loss : Int) : ∀ i, i ≤ l.length → ∀ (out : List Int) (left : Int), AbsRun l loss (nb l i) out left → AbsRun l loss l.length (absS (centsOf l) (bnds l i) out left).1 (absS (centsOf l) (bnds l i) out left).2 := by
  refine down_ind ?_ ?_
  · intro out left A
    rw [bnds_end]
    rw [nb_end] at A
    exact A
  · intro i hi ih out left A
    by_cases hpos : 0 < left
    · have hb := bnds_step l i hi
      have hn := nb_step l i hi
      cases hs : startB l i with
      | false =>
        rw [hs] at hb hn
        simp only [Bool.false_eq_true, if_false] at hb hn
        rw [hb]
        rw [hn] at A
        exact ih out left A
      | true =>
        rw [hs] at hb hn
        simp only [if_true] at hb hn
        rw [hn] at A
        obtain ⟨n1, n2, _, _, n5⟩ := nb_facts l (i + 1) (by omega)
        have hspec : absS (centsOf l) (bnds l i) out left = absS (centsOf l) (bnds l (i + 1)) (overlay out i (takeS left (((centsOf l).take (nb l (i + 1))).drop i))) (left - isum (takeS left (((centsOf l).take (nb l (i + 1))).drop i))) := by
          rw [hb, n5, absS, if_pos hpos, Int.toNat_natCast, Int.toNat_natCast]
        rw [hspec]
        exact ih _ _ (A.step R hi hs hpos)
    · rw [absS_stop _ _ _ _ hpos]
      exact A.stop R (nb_facts l i (by omega)).2.1 (.inl (nb_bd l i (by omega))) hpos
/-- what is told of a loss that is taken -/
theorem absorb_run (loss : Int) (l : List S33) (h : (absAns loss l).2.2 = 0) : Rows l ∧ okMoney loss = true ∧ AbsRun l loss l.length (absAns loss l).1 (absAns loss l).2.1 := by
  unfold absAns at h ⊢
  by_cases hc : chk47 l = 0
  · rw [if_pos hc] at h ⊢
    by_cases hm : okMoney loss = true
    · rw [if_pos hm] at h ⊢
      have R := chk_rows l hc
      have hm2 := (okMoney_iff loss).1 hm
      have hz : ∀ j, (List.replicate l.length (0 : Int)).getD j 0 = 0 := by
        intro j
        rw [List.getD_eq_getElem?_getD, List.getElem?_replicate]; split <;> rfl
      have hrow : ∀ j, j < l.length → 0 ≤ (l.getD j z33).f3 := fun j hj => ((okMoney_iff _).1 ((rcB_iff _).1 (R.row j hj)).2.2.2.2).1
      have hn0 : nb l 0 = 0 := by
        by_cases h0 : 0 < l.length
        · rw [nb_step l 0 h0]; rfl
        · have := nb_facts l 0 (by omega); omega
      refine ⟨R, hm, abs_run R loss 0 (by omega) _ _ ?_⟩
      rw [hn0]
      refine ⟨List.length_replicate, ?_, fun j hj => by rw [hz j]; exact ⟨Int.le_refl _, hrow j hj⟩, fun j _ => hz j, fun q _ hq => ?_, fun j _ hj => by omega⟩
      · rw [List.take_zero, show isum [] = 0 from rfl]; omega
      · obtain rfl : q = 0 := by omega
        rw [List.take_zero, List.take_zero, show isum [] = 0 from rfl]; omega
    · rw [if_neg hm] at h; cases h
  · rw [if_neg hc] at h; exact absurd h hc
/-! ### what comes back, told by sums -/
structure RetRun (l : List S33) (paid : List Int) (n : Int) (z : Nat) (out : List Int) (left : Int) : Prop where
  len : out.length = l.length
  lo : left = n - min n (isum (paid.drop z))
  each : ∀ j, j < l.length → 0 ≤ out.getD j 0 ∧ out.getD j 0 ≤ paid.getD j 0
  zero : ∀ j, j < z → out.getD j 0 = 0
  cum : ∀ q, bdB l q = true ∨ q = 0 → z ≤ q → q ≤ l.length → isum (out.drop q) = min n (isum (paid.drop q))
theorem zeros_take (out : List Int) (z : Nat) (hz : ∀ j, j < z → out.getD j 0 = 0) (h : z ≤ out.length) : isum (out.take z) = 0 := by
  have h2 : out.take z = List.replicate z 0 := list_ext _ _ (by rw [List.length_take, List.length_replicate]; omega) fun j hj => by
    rw [List.length_take] at hj
    rw [getD_take _ _ _ (by omega), hz j (by omega), tab_zero, tab_getD _ _ _ (by omega)]
  rw [h2, isum_zeros]
theorem drop_mono (m : List Int) (hm : ∀ a ∈ m, 0 ≤ a) (a b : Nat) (h : a ≤ b) : isum (m.drop b) ≤ isum (m.drop a) := by
  have h1 := take_mono m hm a b h
  have h2 := isum_drop m a
  have h3 := isum_drop m b
  omega
theorem RetRun.step {l : List S33} {paid : List Int} (F : Paid l paid) {n : Int} {q : Nat} {out : List Int} {left : Int} (A : RetRun l paid n (q + 1) out left) (hq : q < l.length) (hb : bdB l (q + 1) = true) (hl : 0 < left) :
    RetRun l paid n (psC l q).1 (overlay out (psC l q).1 (takeS left ((paid.take (q + 1)).drop (psC l q).1))) (left - isum (takeS left ((paid.take (q + 1)).drop (psC l q).1))) := by
  obtain ⟨p1, p2, p3⟩ := ps_facts l q
  have hp := piece_money paid F.money (psC l q).1 (q + 1)
  have hpl := piece_len paid (psC l q).1 (q + 1) (by rw [F.plen]; omega)
  have hps := piece_sum paid (psC l q).1 (q + 1) (by omega)
  have hpe : ∀ j, j < q + 1 - (psC l q).1 → ((paid.take (q + 1)).drop (psC l q).1).getD j 0 = paid.getD ((psC l q).1 + j) 0 := fun j hj => piece_getD _ _ _ _ hj
  have hd1 := isum_drop paid (psC l q).1
  have hd2 := isum_drop paid (q + 1)
  have hlo := A.lo
  have hlen := A.len
  generalize hP : (paid.take (q + 1)).drop (psC l q).1 = p at *
  generalize ha : (psC l q).1 = a at *
  obtain ⟨f1, f2, f3⟩ := take_facts left p (by omega) hp
  have hpn := isum_nn p hp.ok
  have hbe : a + (takeS left p).length = q + 1 := by omega
  have htk : (overlay out a (takeS left p)).take (q + 1) = out.take a ++ takeS left p := by
    rw [← hbe]; exact overlay_take out _ a (by omega)
  have hdr : (overlay out a (takeS left p)).drop (q + 1) = out.drop (q + 1) := by
    rw [← hbe]; exact overlay_drop out _ a (by omega)
  have hcq := A.cum (q + 1) (.inl hb) (Nat.le_refl _) (by omega)
  have hz := zeros_take out a (fun j hj => A.zero j (by omega)) (by omega)
  refine ⟨by rw [overlay_len _ _ _ (by omega), hlen], ?_, fun j hj => ?_, fun j hj => ?_, fun x hx hxa hxl => ?_⟩
  · split at f2 <;> omega
  · rw [overlay_getD _ _ _ (by omega)]
    by_cases hw : a ≤ j ∧ j < a + (takeS left p).length
    · rw [if_pos hw]
      have := f3 (j - a) (by omega)
      rw [hpe _ (by omega), show a + (j - a) = j by omega] at this
      exact this
    · rw [if_neg hw]; exact A.each j hj
  · rw [overlay_getD _ _ _ (by omega), if_neg (by omega)]
    exact A.zero j (by omega)
  · by_cases hxq : q + 1 ≤ x
    · rw [drop_eq_of _ out x (overlay_len _ _ _ (by omega)) (fun j hj _ => by rw [overlay_getD _ _ _ (by omega), if_neg (by omega)])]
      exact A.cum x hx hxq hxl
    · by_cases hxe : x = a
      · subst hxe
        have h1 := isum_drop (overlay out x (takeS left p)) x
        have h2 := isum_drop (overlay out x (takeS left p)) (q + 1)
        rw [htk, hdr, isum_append, hz, hcq] at h2
        rw [take_eq_of _ out x (by rw [overlay_len _ _ _ (by omega)]; omega) (by omega) (fun j hj => by rw [overlay_getD _ _ _ (by omega), if_neg (by omega)]), hz] at h1
        split at f2 <;> omega
      · exfalso
        have h3 := p3 x (by omega) (by omega)
        rcases hx with hx | hx
        · rw [h3] at hx; cases hx
        · omega
theorem RetRun.stop {l : List S33} {paid : List Int} (F : Paid l paid) {n : Int} {z : Nat} {out : List Int} {left : Int} (A : RetRun l paid n z out left) (hz : z ≤ l.length) (hb : bdB l z = true ∨ z = 0) (hl : ¬ 0 < left) : RetRun l paid n 0 out left := by
  have hlo := A.lo
  have hmo := drop_mono paid F.money.ok
  have hcz := A.cum z hb (Nat.le_refl _) hz
  have hlen := A.len
  refine ⟨A.len, ?_, A.each, fun j hj => A.zero j (by omega), fun q hq _ hql => ?_⟩
  · have := hmo 0 z (by omega)
    omega
  · by_cases hqz : z ≤ q
    · exact A.cum q hq hqz hql
    · have h1 := isum_drop out q
      have h2 := isum_drop out z
      rw [zeros_take out q (fun j hj => A.zero j (by omega)) (by omega)] at h1
      rw [zeros_take out z (fun j hj => A.zero j (by omega)) (by omega)] at h2
      have := hmo q z (by omega)
      omega
/-! ### lists and sums -/
theorem bad_false (l : List S33) (paid : List Int) (h : ∀ j, j < l.length → 0 ≤ paid.getD j 0 ∧ paid.getD j 0 ≤ (l.getD j z33).f3) : ∀ d i, i + d ≤ l.length → badFrom l paid d i = false
  | 0, _, _ => rfl
  | d + 1, i, hd => by
    have := h i (by omega)
    rw [badFrom, bad_false l paid h d (i + 1) (by omega), decide_eq_false (by omega), decide_eq_false (by omega)]; rfl
theorem right_of (l : List S33) (paid : List Int) (hc : chk47 l = 0) (hp : paid.length = l.length) (h : ∀ j, j < l.length → 0 ≤ paid.getD j 0 ∧ paid.getD j 0 ≤ (l.getD j z33).f3) : right47 l paid = 0 := by
  unfold right47
  rw [if_pos hc, if_pos hp, bad_false l paid h l.length 0 (by omega)]; rfl
/-! ### what is left of resources that paid -/
def alikeR (x y : S33) : Prop := y.f0 = x.f0 ∧ y.f1 = x.f1 ∧ y.f2 = x.f2 ∧ okMoney y.f3 = true
theorem alike_rc (x y : S33) (h : alikeR x y) (hx : rcErr x = 0) : rcErr y = 0 := by
  obtain ⟨h1, h2⟩ := rcErr_zero x hx
  obtain ⟨e0, e1, e2, e3⟩ := h
  have hb : rcB y = true := by
    rw [rcB_iff] at h1 ⊢
    rw [e0, e1]; exact ⟨h1.1, h1.2.1, h1.2.2.1, h1.2.2.2.1, e3⟩
  unfold rcErr
  rw [if_pos hb, e2, if_pos h2]
theorem take_sumTo (m : List Int) (q : Nat) (h : q ≤ m.length) : isum (m.take q) = sumTo (fun j => m.getD j 0) q := by
  rw [isum_sumTo, List.length_take, Nat.min_eq_left h]
  exact sumTo_congr _ _ _ fun j hj => getD_take m q j hj
/-! ### what a turn paid -/
theorem twice_min (f s S : Int) (hf : 0 ≤ f) (hs : 0 ≤ s) (hS : 0 ≤ S) : min f S + min s (S - min f S) = min (f + s) S := by omega
/-! ### sums over all that pay no later than a turn -/
theorem less_trans : ∀ a b c : List UInt8, Op.bytesLess a b = true → Op.bytesLess b c = true → Op.bytesLess a c = true
  | [], [], _, h, _ => by simp [Op.bytesLess] at h
  | [], _ :: _, [], _, h => by simp [Op.bytesLess] at h
  | [], _ :: _, _ :: _, _, _ => by simp [Op.bytesLess]
  | _ :: _, [], _, h, _ => by simp [Op.bytesLess] at h
  | _ :: _, _ :: _, [], _, h => by simp [Op.bytesLess] at h
  | x :: a, y :: b, z :: c, h1, h2 => by
    have ih := less_trans a b c
    simp only [Op.bytesLess, Bool.or_eq_true, Bool.and_eq_true, decide_eq_true_eq, beq_iff_eq, UInt8.lt_iff_toNat_lt] at *
    rcases h1 with h1 | ⟨h1, h3⟩
    · rcases h2 with h2 | ⟨h2, _⟩
      · exact .inl (by omega)
      · subst h2; exact .inl h1
    · subst h1
      rcases h2 with h2 | ⟨h2, h4⟩
      · exact .inl h2
      · exact .inr ⟨h2, ih h3 h4⟩
theorem less_irr : ∀ a : List UInt8, Op.bytesLess a a = false
  | [] => by simp [Op.bytesLess]
  | x :: a => by
    have ih := less_irr a
    simp [Op.bytesLess, ih]
theorem ahead_trans (a b c : S33) (h1 : aheadB a b = true) (h2 : aheadB b c = true) : aheadB a c = true := by
  unfold aheadB at *
  by_cases e1 : a.f0 = b.f0
  · rw [if_pos e1] at h1
    by_cases e2 : b.f0 = c.f0
    · rw [if_pos e2] at h2
      rw [if_pos (by omega)]
      by_cases e3 : a.f1 = b.f1
      · rw [if_pos e3] at h1
        by_cases e4 : b.f1 = c.f1
        · rw [if_pos e4] at h2
          rw [if_pos (by omega)]
          exact less_trans _ _ _ h1 h2
        · rw [if_neg e4] at h2
          rw [if_neg (by omega)]
          have := of_decide_eq_true h2
          exact decide_eq_true (by omega)
      · rw [if_neg e3] at h1
        have h1 := of_decide_eq_true h1
        by_cases e4 : b.f1 = c.f1
        · rw [if_neg (by omega)]; exact decide_eq_true (by omega)
        · rw [if_neg e4] at h2
          have h2 := of_decide_eq_true h2
          rw [if_neg (by omega)]; exact decide_eq_true (by omega)
    · rw [if_neg e2] at h2
      have h2 := of_decide_eq_true h2
      rw [if_neg (by omega)]; exact decide_eq_true (by omega)
  · rw [if_neg e1] at h1
    have h1 := of_decide_eq_true h1
    by_cases e2 : b.f0 = c.f0
    · rw [if_neg (by omega)]; exact decide_eq_true (by omega)
    · rw [if_neg e2] at h2
      have h2 := of_decide_eq_true h2
      rw [if_neg (by omega)]; exact decide_eq_true (by omega)
theorem Rows.ahead {l : List S33} (R : Rows l) (k : Nat) : ∀ i, k < i → i < l.length → aheadB (l.getD k z33) (l.getD i z33) = true := by
  intro i hk hi
  induction i with
  | zero => omega
  | succ i ih =>
    have h := R.ord (i + 1) (by omega) hi
    rw [show i + 1 - 1 = i by omega] at h
    by_cases hki : k = i
    · subst hki; exact h
    · exact ahead_trans _ _ _ (ih (by omega) (by omega)) h
def keyC (l : List S33) (x : List Int) (κ : Int) : Int := sumTo (fun j => if keyT (l.getD j z33) ≤ κ then x.getD j 0 else 0) l.length
theorem sumTo_cut (f : Nat → Int) (q n : Nat) (h : q ≤ n) : sumTo (fun j => if j < q then f j else 0) n = sumTo f q := by
  induction n with
  | zero => obtain rfl : q = 0 := by omega
            rfl
  | succ n ih =>
    by_cases hq : q = n + 1
    · subst hq
      exact sumTo_congr _ _ _ fun j hj => if_pos hj
    · have ih := ih (by omega)
      simp only [sumTo]
      rw [ih, if_neg (by omega)]; omega
theorem key_cut {l : List S33} (R : Rows l) (κ : Int) : ∃ q, q ≤ l.length ∧ (bdB l q = true ∨ q = 0) ∧ ∀ j, j < l.length → (keyT (l.getD j z33) ≤ κ ↔ j < q) := by
  have h : ∀ i, i ≤ l.length → ∃ q, i ≤ q ∧ q ≤ l.length ∧ (∀ j, i ≤ j → j < q → keyT (l.getD j z33) ≤ κ) ∧ ∀ j, q ≤ j → j < l.length → κ < keyT (l.getD j z33) := by
    refine down_ind ⟨l.length, Nat.le_refl _, Nat.le_refl _, fun j h1 h2 => by omega, fun j h1 h2 => by omega⟩ ?_
    rintro i hi ⟨q, q1, q2, q3, q4⟩
    by_cases hk : keyT (l.getD i z33) ≤ κ
    · refine ⟨q, by omega, q2, fun j h1 h2 => ?_, q4⟩
      by_cases hj : j = i
      · subst hj; exact hk
      · exact q3 j (by omega) h2
    · refine ⟨i, Nat.le_refl _, by omega, fun j h1 h2 => by omega, fun j h1 h2 => ?_⟩
      have := R.mono i j h1 h2
      omega
  obtain ⟨q, _, q2, q3, q4⟩ := h 0 (by omega)
  refine ⟨q, q2, ?_, fun j hj => ⟨fun h => ?_, fun h => q3 j (by omega) h⟩⟩
  · by_cases h0 : q = 0
    · exact .inr h0
    · left
      unfold bdB
      by_cases hq : q = l.length
      · rw [decide_eq_true hq]; rfl
      · have h1 := q3 (q - 1) (by omega) (by omega)
        have h2 := q4 q (by omega) (by omega)
        rw [(start_key R q (by omega) (by omega)).2 (by omega), Bool.or_true]
  · by_cases hj2 : j < q
    · exact hj2
    · have := q4 j (by omega) hj; omega
theorem keyC_take {l : List S33} (x : List Int) (hx : x.length = l.length) (κ : Int) (q : Nat) (hq : q ≤ l.length) (h : ∀ j, j < l.length → (keyT (l.getD j z33) ≤ κ ↔ j < q)) : keyC l x κ = isum (x.take q) := by
  unfold keyC
  rw [take_sumTo x q (by omega), ← sumTo_cut _ q l.length hq]
  refine sumTo_congr _ _ _ fun j hj => ?_
  by_cases hj2 : j < q
  · rw [if_pos ((h j hj).2 hj2), if_pos hj2]
  · rw [if_neg (fun e => hj2 ((h j hj).1 e)), if_neg hj2]
theorem key_run {l : List S33} (R : Rows l) {loss : Int} {paid : List Int} {rest : Int} (A : AbsRun l loss l.length paid rest) (κ : Int) : keyC l paid κ = min loss (keyC l (centsOf l) κ) := by
  obtain ⟨q, q1, q2, q3⟩ := key_cut R κ
  rw [keyC_take paid A.len κ q q1 q3, keyC_take _ (cents_len l) κ q q1 q3]
  exact A.cum q q2 q1
theorem keyC_range {l : List S33} (R : Rows l) (x : List Int) (hx : x.length = l.length) (hn : ∀ j, j < l.length → 0 ≤ x.getD j 0) (κ : Int) : 0 ≤ keyC l x κ ∧ keyC l x (κ - 1) ≤ keyC l x κ ∧ keyC l x κ ≤ isum x := by
  unfold keyC
  refine ⟨sumTo_nonneg _ _ fun j hj => by have := hn j hj; split <;> omega, sumTo_le _ _ _ fun j hj => by have := hn j hj; split <;> split <;> omega, ?_⟩
  rw [isum_sumTo, hx]
  exact sumTo_le _ _ _ fun j hj => by have := hn j hj; split <;> omega
/-- what one turn paid -/
def keyS (l : List S33) (x : List Int) (κ : Int) (j : Nat) : Int := if keyT (l.getD j z33) = κ then x.getD j 0 else 0
theorem keyS_sum (l : List S33) (x : List Int) (κ : Int) : sumTo (keyS l x κ) l.length = keyC l x κ - keyC l x (κ - 1) := by
  unfold keyC
  rw [← sumTo_sub]
  refine sumTo_congr _ _ _ fun j hj => ?_
  unfold keyS
  by_cases h1 : keyT (l.getD j z33) = κ
  · rw [if_pos h1, if_pos (by omega), if_neg (by omega)]; omega
  · rw [if_neg h1]
    by_cases h2 : keyT (l.getD j z33) ≤ κ
    · rw [if_pos h2, if_pos (by omega)]; omega
    · rw [if_neg h2, if_neg (by omega)]; omega
/-! ### what is left -/
def sumK (κ : Int) : List S33 → Int
  | [] => 0
  | x :: l => (if keyT x ≤ κ then x.f3 else 0) + sumK κ l
theorem sumK_keyC (κ : Int) (l : List S33) : sumK κ l = keyC l (centsOf l) κ := by
  have h : ∀ d i, i + d = l.length → sumK κ (l.drop i) = sumTo (fun j => if keyT (l.getD j z33) ≤ κ then (centsOf l).getD j 0 else 0) l.length - sumTo (fun j => if keyT (l.getD j z33) ≤ κ then (centsOf l).getD j 0 else 0) i := by
    intro d
    induction d with
    | zero =>
      intro i hi
      obtain rfl : i = l.length := by omega
      rw [List.drop_length]; simp only [sumK]; omega
    | succ d ih =>
      intro i hi
      have ih := ih (i + 1) (by omega)
      rw [List.drop_eq_getElem_cons (by omega), sumK, ih]
      have he : l[i]'(by omega) = l.getD i z33 := by rw [List.getD_eq_getElem?_getD, List.getElem?_eq_getElem (by omega)]; rfl
      rw [he]
      simp only [sumTo]
      rw [cents_getD l i (by omega)]
      omega
  have := h l.length 0 (by omega)
  rw [List.drop_zero] at this
  rw [this]; unfold keyC; simp only [sumTo]; omega
theorem leftL_sumK (κ : Int) (l : List S33) (paid : List Int) (he : ∀ j, j < l.length → 0 ≤ paid.getD j 0 ∧ paid.getD j 0 ≤ (l.getD j z33).f3) : ∀ d i, i + d = l.length → sumK κ (leftL l paid d i) = sumTo (fun j => if keyT (l.getD j z33) ≤ κ then (l.getD j z33).f3 - paid.getD j 0 else 0) l.length - sumTo (fun j => if keyT (l.getD j z33) ≤ κ then (l.getD j z33).f3 - paid.getD j 0 else 0) i
  | 0, i, hi => by
    obtain rfl : i = l.length := by omega
    simp only [leftL, sumK]; omega
  | d + 1, i, hi => by
    have ih := leftL_sumK κ l paid he d (i + 1) (by omega)
    have hei := he i (by omega)
    simp only [sumTo] at ih
    rw [leftL]
    by_cases h : (l.getD i z33).f3 > paid.getD i 0
    · rw [if_pos h, sumK, ih]
      show (if keyT (l.getD i z33) ≤ κ then (l.getD i z33).f3 - paid.getD i 0 else 0) + _ = _
      omega
    · rw [if_neg h, ih]
      by_cases hk : keyT (l.getD i z33) ≤ κ
      · rw [if_pos hk]; omega
      · rw [if_neg hk]; omega
theorem left_keyC (κ : Int) (l : List S33) (paid : List Int) (hp : paid.length = l.length) (he : ∀ j, j < l.length → 0 ≤ paid.getD j 0 ∧ paid.getD j 0 ≤ (l.getD j z33).f3) : keyC (leftL l paid l.length 0) (centsOf (leftL l paid l.length 0)) κ = keyC l (centsOf l) κ - keyC l paid κ := by
  rw [← sumK_keyC, leftL_sumK κ l paid he l.length 0 (by omega)]
  unfold keyC
  rw [← sumTo_sub]
  simp only [sumTo]
  rw [Int.sub_zero]
  refine sumTo_congr _ _ _ fun j hj => ?_
  rw [cents_getD l j hj]
  split <;> omega
theorem leftL_chk {l : List S33} {paid : List Int} (R : Rows l) (hc : ∀ x ∈ l, rcErr x = 0) (he : ∀ j, j < l.length → 0 ≤ paid.getD j 0 ∧ paid.getD j 0 ≤ (l.getD j z33).f3) : ∀ d i p, i + d = l.length → (∀ y, p = some y → ∃ k, k < i ∧ y.f0 = (l.getD k z33).f0 ∧ y.f1 = (l.getD k z33).f1 ∧ y.f2 = (l.getD k z33).f2) → chkGo p (leftL l paid d i) = 0
  | 0, _, _, _, _ => by rw [leftL]; unfold chkGo; rfl
  | d + 1, i, p, hi, hp => by
    have hei := he i (by omega)
    rw [leftL]
    by_cases h : (l.getD i z33).f3 > paid.getD i 0
    · rw [if_pos h, chkGo]
      have hmem : l.getD i z33 ∈ l := getD_mem' z33 l i (by omega)
      have hr := hc _ hmem
      have hm := (okMoney_iff _).1 ((rcB_iff _).1 (R.row i (by omega))).2.2.2.2
      have hal : alikeR (l.getD i z33) ⟨(l.getD i z33).f0, (l.getD i z33).f1, (l.getD i z33).f2, (l.getD i z33).f3 - paid.getD i 0⟩ := ⟨rfl, rfl, rfl, (okMoney_iff _).2 ⟨by show 0 ≤ (l.getD i z33).f3 - paid.getD i 0; omega, by show (l.getD i z33).f3 - paid.getD i 0 ≤ _; omega⟩⟩
      rw [if_pos (alike_rc _ _ hal hr), if_pos]
      · exact leftL_chk R hc he d (i + 1) _ (by omega) fun y hy => ⟨i, by omega, by cases hy; exact ⟨rfl, rfl, rfl⟩⟩
      · cases p with
        | none => rfl
        | some y =>
          obtain ⟨k, hk, e0, e1, e2⟩ := hp y rfl
          have ha := R.ahead k i hk (by omega)
          show aheadB y _ = true
          unfold aheadB at ha ⊢
          rw [e0, e1, e2]; exact ha
    · rw [if_neg h]
      exact leftL_chk R hc he d (i + 1) p (by omega) fun y hy => by
        obtain ⟨k, hk, e⟩ := hp y hy
        exact ⟨k, by omega, e⟩
theorem isum_keyC (l : List S33) (x : List Int) (hx : x.length = l.length) (κ : Int) (h : ∀ j, j < l.length → keyT (l.getD j z33) ≤ κ) : keyC l x κ = isum x := by
  unfold keyC
  rw [isum_sumTo, hx]
  exact sumTo_congr _ _ _ fun j hj => if_pos (h j hj)
theorem Rows.top_key {l : List S33} (R : Rows l) (j : Nat) (hj : j < l.length) : keyT (l.getD j z33) ≤ 1000 := by
  have := (rcB_iff _).1 (R.row j hj)
  unfold keyT; omega
theorem left_chk0 {l : List S33} {paid : List Int} (hc : chk47 l = 0) (hp : paid.length = l.length) (he : ∀ j, j < l.length → 0 ≤ paid.getD j 0 ∧ paid.getD j 0 ≤ (l.getD j z33).f3) : chk47 (leftL l paid l.length 0) = 0 := by
  have R := chk_rows l hc
  have hl := leftL_len l paid l.length 0
  have hcg : chkGo none l = 0 := by
    unfold chk47 at hc
    rw [if_neg (by have := R.len; omega)] at hc
    by_cases h : chkGo none l = 0
    · exact h
    · rw [if_neg h] at hc; exact absurd hc h
  have hgo := leftL_chk R (chkGo_money none l hcg) he l.length 0 none (by omega) (fun y hy => by cases hy)
  have hrow : ∀ j, j < (leftL l paid l.length 0).length → keyT ((leftL l paid l.length 0).getD j z33) ≤ 1000 := fun j hj => by
    have := (rcB_iff _).1 (rcErr_zero _ (chkGo_money none _ hgo _ (getD_mem' z33 _ j hj))).1
    unfold keyT; omega
  have hs := left_keyC 1000 l paid hp he
  rw [isum_keyC _ _ (cents_len _) 1000 hrow, isum_keyC l _ (cents_len l) 1000 (fun j hj => R.top_key j hj)] at hs
  have hn := (keyC_range R paid hp (fun j hj => (he j hj).1) 1000).1
  have ht := R.top
  unfold chk47
  rw [if_neg (by have := R.len; omega), if_pos hgo, if_pos (by omega)]
theorem goes24_ev : Ev (fun k => contangotop_goes24.f k) true := Ev.of (fun k => contangotop_goes24.mono k) (k := 600) (by decide +kernel)
theorem goes24t : Ev (fun k => (contangotop_goes24.f k).bind fun t => some t) true := ev_bnd goes24_ev (ev_some rfl)
theorem u59 (x : Int) : 0 ≤ wrap64 (Int.tmod (IntKind.u64.wrap x) 576460752303423488) ∧ wrap64 (Int.tmod (IntKind.u64.wrap x) 576460752303423488) < 576460752303423488 := by
  have h : IntKind.u64.wrap x = x % 18446744073709551616 := rfl
  have h0 : 0 ≤ IntKind.u64.wrap x := by rw [h]; omega
  have e : Int.tmod (IntKind.u64.wrap x) 576460752303423488 = IntKind.u64.wrap x % 576460752303423488 := Int.tmod_eq_emod_of_nonneg h0
  rw [e]
  have h1 := Int.emod_nonneg (IntKind.u64.wrap x) (show (576460752303423488 : Int) ≠ 0 by decide)
  have h2 := Int.emod_lt_of_pos (IntKind.u64.wrap x) (show (0 : Int) < 576460752303423488 by decide)
  rw [w64id _ (by omega) (by omega)]
  exact ⟨h1, h2⟩
theorem ahead_ne2 (a b : S33) (h : aheadB a b = true) (e0 : a.f0 = b.f0) (e1 : a.f1 = b.f1) : (b.f2.toList == a.f2.toList) = false := by
  unfold aheadB at h
  rw [if_pos e0, if_pos e1] at h
  rw [beq_eq_false_iff_ne]
  intro e
  rw [e, less_irr] at h
  cases h
theorem leftL_head (l : List S33) (paid : List Int) : ∀ d i y r, leftL l paid d i = y :: r → ∃ j, i ≤ j ∧ j < i + d ∧ y.f0 = (l.getD j z33).f0 ∧ y.f1 = (l.getD j z33).f1 ∧ y.f2 = (l.getD j z33).f2
  | 0, i, y, r, h => by rw [leftL] at h; cases h
  | d + 1, i, y, r, h => by
    rw [leftL] at h
    by_cases hk : (l.getD i z33).f3 > paid.getD i 0
    · rw [if_pos hk] at h
      obtain ⟨rfl, _⟩ := List.cons.inj h
      exact ⟨i, Nat.le_refl _, by omega, rfl, rfl, rfl⟩
    · rw [if_neg hk] at h
      obtain ⟨j, h1, h2, h3⟩ := leftL_head l paid d (i + 1) y r h
      exact ⟨j, by omega, by omega, h3⟩
theorem td_go {l : List S33} (R : Rows l) (x : List Int) (hx : x.length = l.length) (hn : ∀ j, j < l.length → 0 ≤ x.getD j 0) (ht : isum x ≤ 1152921504606846976) (y : S33) (hy : rcB y = true) : Ev (fun k => contangotop_turnD.f k l x y.f0 y.f1) (keyC l x (keyT y) - keyC l x (keyT y - 1)) := by
  have hl := R.len
  have hpf : ∀ j, j < l.length → 0 ≤ keyS l x (keyT y) j ∧ keyS l x (keyT y) j ≤ x.getD j 0 := fun j hj => by
    have := hn j hj
    unfold keyS
    split <;> omega
  have hle : ∀ i, i ≤ l.length → 0 ≤ sumTo (keyS l x (keyT y)) i ∧ sumTo (keyS l x (keyT y)) i ≤ 1152921504606846976 := fun i hi => by
    have h1 := sumTo_nonneg (keyS l x (keyT y)) i (fun j hj => (hpf j (by omega)).1)
    have h2 := sumTo_mono (keyS l x (keyT y)) i l.length hi (fun j hj => (hpf j hj).1)
    have h3 := sumTo_le (keyS l x (keyT y)) (fun j => x.getD j 0) l.length (fun j hj => (hpf j hj).2)
    rw [isum_sumTo, hx] at ht
    omega
  unfold contangotop_turnD.f
  rw [← keyS_sum]
  refine ev_down (S := Int) (n := l.length) (g := fun k i acc => contangotop_turnD.l0 k l x y.f0 y.f1 acc (l.length : Int) (i : Int)) (spec := fun _ _ => sumTo (keyS l x (keyT y)) l.length) (inv := fun i acc => acc = sumTo (keyS l x (keyT y)) i) ?_ ?_ 0 0 (by omega) rfl
  · intro acc h
    exact Ev.step (fun _ => rfl) (ev_neg (by omega) (ev_some h))
  · intro i acc hi h ih
    have ih := ih _ (show acc + keyS l x (keyT y) i = sumTo (keyS l x (keyT y)) (i + 1) by rw [h]; rfl)
    have hb := hle (i + 1) (by omega)
    rw [show sumTo (keyS l x (keyT y)) (i + 1) = sumTo (keyS l x (keyT y)) i + keyS l x (keyT y) i from rfl, ← h] at hb
    refine Ev.step (fun _ => rfl) (ev_pos (by omega) (ev_pos (by omega) (ev_pos (by omega) ?_)))
    rw [rdR, wsucc i (by omega), rd_nat]
    have hk := same_key (l.getD i z33) y (R.row i hi) hy
    rw [sameT_iff] at hk
    unfold keyS at ih hb
    by_cases h0 : (l.getD i z33).f0 = y.f0
    · refine ev_pos h0 ?_
      by_cases h1 : (l.getD i z33).f1 = y.f1
      · rw [if_pos (hk.1 ⟨h0, h1⟩)] at ih hb
        refine ev_pos h1 (ev_pos (by omega) ?_)
        rw [w64id _ (by omega) (by omega)]
        exact ih
      · rw [if_neg (fun e => h1 (hk.2 e).2), Int.add_zero] at ih
        exact ev_neg h1 ih
    · rw [if_neg (fun e => h0 (hk.2 e).1), Int.add_zero] at ih
      exact ev_neg h0 ih
theorem lo_key {l : List S33} (R : Rows l) {loss : Int} {paid : List Int} {rest : Int} (A : AbsRun l loss l.length paid rest) : rest = loss - min loss (keyC l (centsOf l) 1000) := by
  rw [isum_keyC l _ (cents_len l) 1000 (fun j hj => R.top_key j hj)]
  have := A.lo
  rwa [List.take_of_length_le (by rw [cents_len]; omega)] at this
theorem sum_top {l : List S33} (R : Rows l) {loss : Int} {paid : List Int} {rest : Int} (A : AbsRun l loss l.length paid rest) : isum paid ≤ 1152921504606846976 := by
  have h1 := isum_le paid (centsOf l) (by rw [A.len, cents_len]) (fun j hj => by
    rw [A.len] at hj
    rw [cents_getD l j hj]; exact (A.each j hj).2)
  have := R.top
  omega
theorem TopLosses : ∀ (l0 : List (S33)) (a1 : Int) (a2 : Int), l0.length ≤ maxLen → (∀ x0 ∈ l0, (Lit.int .i64 x0.f0).wf = true ∧ (Lit.int .i64 x0.f1).wf = true ∧ x0.f2.size ≤ maxLen ∧ (Lit.int .i64 x0.f3).wf = true) → (Lit.int .i64 a1).wf = true → (Lit.int .i64 a2).wf = true → ∃ k, contangotop_TopLosses.f k l0 a1 a2 = some true := by
  intro l a1 a2 _ _ _ _
  refine Ev.rounds ?_
  have hend : Ev (fun k => contangotop_TopLosses.j0 k l a1 a2 true) true := by
    refine Ev.step (fun _ => by rw [contangotop_TopLosses.j0]) ?_
    exact ev_pos rfl goes24t
  unfold contangotop_TopLosses.f
  by_cases hf : (l.length : Int) > 200
  · exact ev_pos hf hend
  refine ev_neg hf (ev_bnd (rcheck_ev l) ?_)
  by_cases hc : chk47 l = 0
  case neg =>
    rw [show (chk47 l != 0) = true from bne_iff_ne.mpr hc]; exact hend
  rw [hc, show ((0 : Int) != 0) = false from rfl]
  clear hend
  refine Ev.step (fun _ => by rw [contangotop_TopLosses.j0]) ?_
  refine ev_neg (by decide) ?_
  have ua := u59 a1
  have ub := u59 a2
  generalize wrap64 (Int.tmod (IntKind.u64.wrap a1) 576460752303423488) = a at *
  generalize wrap64 (Int.tmod (IntKind.u64.wrap a2) 576460752303423488) = b at *
  rw [w64id (a + b) (by omega) (by omega)]
  have R := chk_rows l hc
  have z0 : ∀ x m, okMoney x = true → chk47 m = 0 → (absAns x m).2.2 = 0 := fun x m hx hm => by unfold absAns; rw [if_pos hm, if_pos hx]
  have ma : okMoney a = true := (okMoney_iff _).2 ⟨by omega, by omega⟩
  have mb : okMoney b = true := (okMoney_iff _).2 ⟨by omega, by omega⟩
  have mab : okMoney (a + b) = true := (okMoney_iff _).2 ⟨by omega, by omega⟩
  have e1 := z0 a l ma hc
  obtain ⟨_, _, A1⟩ := absorb_run a l e1
  refine ev_bnd (absorb_ev a l) ?_
  generalize hfirst : (absAns a l).1 = first at *
  generalize (absAns a l).2.1 = rest at *
  have l1 := A1.len
  have hr := right_of l first hc l1 A1.each
  have hleft : leftAns l first = (leftL l first l.length 0, 0) := by unfold leftAns; rw [if_pos hr]
  have hlc := left_chk0 hc l1 A1.each
  have hkl : ∀ κ, keyC (leftL l first l.length 0) (centsOf (leftL l first l.length 0)) κ = keyC l (centsOf l) κ - keyC l first κ := fun κ => left_keyC κ l first l1 A1.each
  have RL := chk_rows _ hlc
  refine ev_bnd (left_ev l first) ?_
  rw [hleft]
  simp only
  have e2 := z0 b _ mb hlc
  obtain ⟨_, _, A2⟩ := absorb_run b _ e2
  refine ev_bnd (absorb_ev b (leftL l first l.length 0)) ?_
  have e3 := z0 (a + b) l mab hc
  obtain ⟨_, _, A3⟩ := absorb_run (a + b) l e3
  refine ev_bnd (absorb_ev (a + b) l) ?_
  rw [e1, e2, e3]
  generalize (absAns b (leftL l first l.length 0)).1 = second at *
  generalize (absAns b (leftL l first l.length 0)).2.1 = more at *
  generalize (absAns (a + b) l).1 = once at *
  generalize (absAns (a + b) l).2.1 = over at *
  have l2 := A2.len
  have l3 := A3.len
  have k1 := fun κ => key_run R A1 κ
  have k2 := fun κ => key_run RL A2 κ
  have k3 := fun κ => key_run R A3 κ
  have kn := fun κ => (keyC_range R (centsOf l) (cents_len l) (fun j hj => R.money.ok _ (mem_getD _ j (by rw [cents_len]; exact hj))) κ)
  have ktw : ∀ κ, keyC l first κ + keyC (leftL l first l.length 0) second κ = keyC l once κ := fun κ => by
    rw [k2, k3, hkl, k1]
    exact twice_min a b _ (by omega) (by omega) (kn κ).1
  have hro : rest + more = over ∧ -1152921504606846976 ≤ rest + more ∧ rest + more ≤ 1152921504606846976 := by
    have o1 := lo_key R A1
    have o2 := lo_key RL A2
    have o3 := lo_key R A3
    rw [hkl, k1] at o2
    have := twice_min a b (keyC l (centsOf l) 1000) (by omega) (by omega) (kn 1000).1
    have := (kn 1000).1
    clear k1 k2 k3 kn ktw hkl
    refine ⟨by omega, by omega, by omega⟩
  have t1 := sum_top R A1
  have t2 := sum_top RL A2
  have t3 := sum_top R A3
  have hll := leftL_len l first l.length 0
  refine ev_pos (by trivial) (ev_pos (by trivial) (ev_pos (by trivial) (ev_pos (by trivial) (ev_pos (by omega) (ev_pos (by omega) (ev_pos (by omega) ?_))))))
  rw [w64id (rest + more) (by omega) (by omega), show (rest + more != over) = false by rw [bne_eq_false_iff_eq]; exact hro.1]
  refine Ev.step (fun _ => by rw [contangotop_TopLosses.j1]) ?_
  refine ev_neg (by decide) ?_
  generalize hLL : leftL l first l.length 0 = left at *
  refine ev_down (S := Nat) (n := l.length) (g := fun k i at_ => contangotop_TopLosses.l0 k l first left second once (at_ : Int) (l.length : Int) (i : Int)) (spec := fun _ _ => true) (inv := fun i at_ => at_ ≤ left.length ∧ left.drop at_ = leftL l first (l.length - i) i) ?_ ?_ 0 0 (by omega) ⟨by omega, by rw [List.drop_zero, Nat.sub_zero, hLL]⟩
  · rintro at_ ⟨h1, h2⟩
    rw [Nat.sub_self, leftL] at h2
    have h3 := congrArg List.length h2
    rw [List.length_drop, List.length_nil] at h3
    refine Ev.step (fun _ => by rw [contangotop_TopLosses.l0]) ?_
    exact ev_neg (by omega) (ev_pos (by omega) goes24t)
  · rintro i at_ hi ⟨h1, h2⟩ ih
    rw [show l.length - i = (l.length - (i + 1)) + 1 by omega, leftL] at h2
    have hei := A1.each i hi
    have hrow := R.row i hi
    have hcm := (okMoney_iff _).1 ((rcB_iff _).1 hrow).2.2.2.2
    refine Ev.step (fun _ => by rw [contangotop_TopLosses.l0]) ?_
    refine ev_pos (by omega) (ev_pos (by omega) (ev_pos (by omega) ?_))
    rw [rd_nat, rdR]
    have j4 : ∀ (x : Nat) (n : Int), x ≤ left.length → left.drop x = leftL l first (l.length - (i + 1)) (i + 1) → 0 ≤ n → n ≤ (l.getD i z33).f3 → Ev (fun k => contangotop_TopLosses.j4 k l first left second once (x : Int) (i : Int) n (l.length : Int) (i : Int)) true := by
      intro x n hx hd hn0 hn1
      have ih := ih x ⟨hx, hd⟩
      refine Ev.step (fun _ => by rw [contangotop_TopLosses.j4]) ?_
      rw [rdR, wsucc i (by omega)]
      refine ev_pos (by omega) (ev_pos (by omega) (ev_neg (by omega) (ev_neg (by omega) ?_)))
      refine ev_bnd (td_go R first l1 (fun j hj => (A1.each j hj).1) t1 _ hrow) ?_
      refine ev_bnd (td_go RL second l2 (fun j hj => (A2.each j hj).1) t2 _ hrow) ?_
      refine ev_bnd (td_go R once l3 (fun j hj => (A3.each j hj).1) t3 _ hrow) ?_
      have q1 := ktw (keyT (l.getD i z33))
      have q2 := ktw (keyT (l.getD i z33) - 1)
      have q3 := keyC_range R once l3 (fun j hj => (A3.each j hj).1) (keyT (l.getD i z33))
      have q4 := keyC_range R once l3 (fun j hj => (A3.each j hj).1) (keyT (l.getD i z33) - 1)
      rw [w64id _ (by omega) (by omega)]
      exact ev_pos (by omega) ih
    by_cases hk : (l.getD i z33).f3 > first.getD i 0
    · rw [if_pos hk] at h2
      have hlt : at_ < left.length := by
        have := congrArg List.length h2
        rw [List.length_drop, List.length_cons] at this
        omega
      have hhd : left.getD at_ z33 = ⟨(l.getD i z33).f0, (l.getD i z33).f1, (l.getD i z33).f2, (l.getD i z33).f3 - first.getD i 0⟩ := by
        have := congrArg List.head? h2
        rw [List.head?_drop, List.head?_cons, List.getElem?_eq_getElem hlt] at this
        rw [List.getD_eq_getElem?_getD, List.getElem?_eq_getElem hlt]
        exact Option.some.inj this
      have htl : left.drop (at_ + 1) = leftL l first (l.length - (i + 1)) (i + 1) := by
        have := congrArg List.tail h2
        rwa [List.tail_drop, List.tail_cons] at this
      have hea := A2.each at_ hlt
      rw [hhd] at hea
      simp only at hea
      refine ev_pos (by omega) (ev_pos (by omega) (ev_pos (by omega) ?_))
      rw [rdR, hhd]
      refine ev_pos rfl (ev_pos rfl ?_)
      simp only [beq_self_eq_true]
      refine Ev.step (fun _ => by rw [contangotop_TopLosses.j3]) ?_
      rw [rdR, rdR, hhd, rd_nat, wsucc at_ (by omega)]
      simp only
      rw [w64id ((l.getD i z33).f3 - first.getD i 0) (by omega) (by omega), w64id (first.getD i 0 + second.getD at_ 0) (by omega) (by omega)]
      refine ev_pos (by trivial) (ev_pos (by omega) (ev_pos (by omega) (ev_pos (by omega) (ev_pos (by omega) (ev_pos (by trivial) (ev_neg (by omega) (ev_pos (by omega) ?_)))))))
      exact j4 (at_ + 1) _ (by omega) htl (by omega) (by omega)
    · rw [if_neg hk] at h2
      have j3 : Ev (fun k => contangotop_TopLosses.j3 k l first left second once (at_ : Int) (i : Int) (first.getD i 0) (l.length : Int) (i : Int) false) true := by
        refine Ev.step (fun _ => by rw [contangotop_TopLosses.j3]) ?_
        rw [rdR, rdR]
        refine ev_neg (by decide) (ev_pos (by omega) (ev_pos (by omega) (ev_pos (by omega) ?_)))
        exact j4 at_ _ h1 h2 hei.1 hei.2
      by_cases hlt : at_ < left.length
      · refine ev_pos (by omega) (ev_pos (by omega) (ev_pos (by omega) ?_))
        have hcons : left.drop at_ = left.getD at_ z33 :: left.drop (at_ + 1) := by
          rw [List.drop_eq_getElem_cons hlt, List.getD_eq_getElem?_getD, List.getElem?_eq_getElem hlt]; rfl
        rw [hcons] at h2
        obtain ⟨j, j1, j2, f0, f1, f2⟩ := leftL_head l first _ _ _ _ h2.symm
        have hah := R.ahead i j (by omega) (by omega)
        rw [rdR]
        by_cases c0 : (left.getD at_ z33).f0 = (l.getD i z33).f0
        · refine ev_pos c0 ?_
          by_cases c1 : (left.getD at_ z33).f1 = (l.getD i z33).f1
          · refine ev_pos c1 ?_
            have := ahead_ne2 _ _ hah (by omega) (by omega)
            rw [f2, this]
            exact j3
          · exact ev_neg c1 j3
        · exact ev_neg c0 j3
      · exact ev_neg (by omega) j3
end Go.Proofs.Ytlkdilfheplmhaa.Pure
