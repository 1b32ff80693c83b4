/- The pure statement of the law WaterfallReturns, proved: plain Lean over numbers and lists, no program in sight. -/
import Derived.Test.YtfogpifjpnonnaaPWaterfallReturnsx
namespace Go.Proofs.Ytfogpifjpnonnaa.Pure
open Go.RowKit Go.Proofs.Ytfogpifjpnonnaa.PWaterfallReturns Go.Proofs.YtfogpifjpnonnaaW.PrintWords Go.Proofs.YtfogpifjpnonnaaW.PrintLast Go.Proofs.YtfogpifjpnonnaaW.PrintMore
set_option linter.unusedVariables false
set_option linter.unusedSimpArgs false
/-! ### from some number of rounds on: steps -/
theorem ev_pos {α : Type} {c : Prop} [Decidable c] {a b : Nat → Option α} {r : α} (h : c) (k : Ev a r) : Ev (fun n => if c then a n else b n) r := Ev.congr (fun _ => if_pos h) k
theorem ev_neg {α : Type} {c : Prop} [Decidable c] {a b : Nat → Option α} {r : α} (h : ¬ c) (k : Ev b r) : Ev (fun n => if c then a n else b n) r := Ev.congr (fun _ => if_neg h) k
theorem ev_val {α β : Type} {g : Option α} {f : Nat → α → Option β} {a : α} {r : β} (h : g = some a) (k : Ev (fun n => f n a) r) : Ev (fun n => g.bind (f n)) r := by
  subst h; exact k
theorem ev_some {α : Type} {x r : α} (h : x = r) : Ev (fun _ => some x) r := h ▸ Ev.now x
theorem ev_rw {α : Type} {g : Nat → Option α} {r s : α} (h : r = s) (k : Ev g r) : Ev g s := h ▸ k
theorem wsucc (i : Nat) (h : i ≤ 4611686018427387904) : wrap64 ((i : Int) + 1) = ((i + 1 : Nat) : Int) := by
  unfold wrap64; omega
theorem rd_nat (l : List Int) (i : Nat) : rd l (i : Int) = l.getD i 0 := rfl
/-! ### lists given by a function of the place -/
def tab (n : Nat) (f : Nat → Int) : List Int := (List.range n).map f
theorem tab_len (n : Nat) (f : Nat → Int) : (tab n f).length = n := by simp [tab]
theorem tab_getD (n : Nat) (f : Nat → Int) (i : Nat) (h : i < n) : (tab n f).getD i 0 = f i := by
  simp [tab, List.getD_eq_getElem?_getD, h]
theorem list_ext (l m : List Int) (h : l.length = m.length) (he : ∀ i, i < l.length → l.getD i 0 = m.getD i 0) : l = m := by
  apply List.ext_getElem h
  intro i h1 h2
  have := he i h1
  rwa [List.getD_eq_getElem?_getD, List.getD_eq_getElem?_getD, List.getElem?_eq_getElem h1, List.getElem?_eq_getElem h2] at this
theorem tab_congr (n : Nat) (f g : Nat → Int) (h : ∀ j, j < n → f j = g j) : tab n f = tab n g := by
  unfold tab; exact List.map_congr_left (fun a ha => h a (List.mem_range.1 ha))
theorem tab_of (l : List Int) : l = tab l.length (fun j => l.getD j 0) := by
  apply list_ext
  · rw [tab_len]
  · intro i hi; rw [tab_getD _ _ _ hi]
theorem tab_succ (n : Nat) (f : Nat → Int) : tab (n + 1) f = tab n f ++ [f n] := by simp [tab, List.range_succ]
def sumTo (f : Nat → Int) : Nat → Int
  | 0 => 0
  | n + 1 => sumTo f n + f n
theorem isum_tab (n : Nat) (f : Nat → Int) : isum (tab n f) = sumTo f n := by
  induction n with
  | zero => rfl
  | succ n ih => rw [tab_succ, isum_append, ih]; simp [isum, sumTo]
theorem isum_sumTo (l : List Int) : isum l = sumTo (fun j => l.getD j 0) l.length := by
  conv => lhs; rw [tab_of l]
  exact isum_tab _ _
theorem sumTo_le (f g : Nat → Int) (n : Nat) (h : ∀ j, j < n → f j ≤ g j) : sumTo f n ≤ sumTo g n := by
  induction n with
  | zero => exact Int.le_refl _
  | succ n ih => simp only [sumTo]; have := ih (fun j hj => h j (by omega)); have := h n (by omega); omega
theorem sumTo_nonneg (f : Nat → Int) (n : Nat) (h : ∀ j, j < n → 0 ≤ f j) : 0 ≤ sumTo f n := by
  induction n with
  | zero => exact Int.le_refl _
  | succ n ih => simp only [sumTo]; have := ih (fun j hj => h j (by omega)); have := h n (by omega); omega
theorem sumTo_mono (f : Nat → Int) (i n : Nat) (hi : i ≤ n) (h : ∀ j, j < n → 0 ≤ f j) : sumTo f i ≤ sumTo f n := by
  induction n with
  | zero => have : i = 0 := by omega
            subst this; exact Int.le_refl _
  | succ n ih =>
    by_cases e : i = n + 1
    · subst e; exact Int.le_refl _
    · simp only [sumTo]; have := ih (by omega) (fun j hj => h j (by omega)); have := h n (by omega); omega
theorem sumTo_ge (f : Nat → Int) (n j : Nat) (hj : j < n) (h : ∀ i, i < n → 0 ≤ f i) : f j ≤ sumTo f n := by
  have h1 := sumTo_mono f (j + 1) n (by omega) h
  have h2 := sumTo_nonneg f j (fun i hi => h i (by omega))
  simp only [sumTo] at h1; omega
theorem sumTo_sub (f g : Nat → Int) (n : Nat) : sumTo (fun j => f j - g j) n = sumTo f n - sumTo g n := by
  induction n with
  | zero => rfl
  | succ n ih => simp only [sumTo]; rw [ih]; omega
theorem getD_mem (l : List Int) (x : Int) (h : x ∈ l) : ∃ j, j < l.length ∧ l.getD j 0 = x := by
  obtain ⟨j, hj, e⟩ := List.getElem_of_mem h
  exact ⟨j, hj, by rw [List.getD_eq_getElem?_getD, List.getElem?_eq_getElem hj]; exact e⟩
theorem mem_getD (l : List Int) (j : Nat) (h : j < l.length) : l.getD j 0 ∈ l := by
  rw [List.getD_eq_getElem?_getD, List.getElem?_eq_getElem h]; exact List.getElem_mem h
theorem all_okMoney (l : List Int) : l.all okMoney = true ↔ ∀ j, j < l.length → 0 ≤ l.getD j 0 ∧ l.getD j 0 ≤ 1152921504606846976 := by
  rw [List.all_eq_true]
  constructor
  · intro h j hj; exact (okMoney_iff _).1 (h _ (mem_getD l j hj))
  · intro h x hx
    obtain ⟨j, hj, rfl⟩ := getD_mem l x hx
    exact (okMoney_iff _).2 (h j hj)
theorem drop_getD (l : List Int) (i : Nat) (h : i < l.length) : l.drop i = l.getD i 0 :: l.drop (i + 1) := by
  rw [List.drop_eq_getElem_cons h, List.getD_eq_getElem?_getD, List.getElem?_eq_getElem h]; rfl
theorem rmoney_val (n : Int) : cr02_Money.f n = some (okMoney n) := by
  unfold cr02_Money.f okMoney
  by_cases h : n ≥ 0
  · rw [if_pos h]; simp [h]
  · rw [if_neg h]; simp [show ¬ 0 ≤ n by omega]
/-! ### contangoref02's functions, in closed form -/
theorem div_pow (n : Nat) : Int.tdiv ((2 : Int) ^ (n + 1)) 2 = 2 ^ n := by
  rw [Int.tdiv_eq_ediv_of_nonneg (Int.le_of_lt (Int.pow_pos (by decide))), show (2 : Int) ^ (n + 1) = 2 ^ n * 2 from Int.pow_succ 2 n]
  exact Int.mul_ediv_cancel _ (by decide)
theorem div_inner (a b c : Int) (hc : 0 < c ∧ c ≤ 1152921504606846976) (bit i : Int) (R : Int × Int) : ∀ (m k : Nat) (q r : Int), 0 ≤ r → r < c * (m + 1) → r ≤ 4611686018427387904 → 0 ≤ q → q + m ≤ 4611686018427387904 → m ≤ 3 →
    (∀ k', k ≤ k' + (m + 1) → cr02_Div.l0 k' a b c (q + r / c) (r % c) (wrap64 (Int.tdiv bit 2)) (wrap64 (i + 1)) = some R) → m + 1 ≤ k → cr02_Div.l1 k a b c q r bit i = some R := by
  intro m
  induction m with
  | zero =>
    intro k q r h0 h1 h2 h3 h4 hm hk hkm
    obtain ⟨k, rfl⟩ : ∃ n, k = n + 1 := ⟨k - 1, by omega⟩
    have hlt : r < c := by simpa using h1
    rw [cr02_Div.l1, if_neg (by omega)]
    have := hk k (by omega)
    rwa [Int.ediv_eq_zero_of_lt h0 hlt, Int.emod_eq_of_lt h0 hlt, Int.add_zero] at this
  | succ m ih =>
    intro k q r h0 h1 h2 h3 h4 hm hk hkm
    obtain ⟨k, rfl⟩ : ∃ n, k = n + 1 := ⟨k - 1, by omega⟩
    rw [cr02_Div.l1]
    by_cases hge : r ≥ c
    · rw [if_pos hge, w64 _ (by omega) (by omega), w64 _ (by omega) (by omega)]
      have e : c * ((m + 1 : Nat) + 1 : Int) = c * (m + 1) + c := by rw [Int.mul_add, Int.mul_one]; simp
      refine ih k (q + 1) (r - c) (by omega) ?_ (by omega) (by omega) (by omega) (by omega) ?_ (by omega)
      · have h1' := h1
        rw [e] at h1'
        omega
      · intro k' hk'
        have := hk k' (by omega)
        have e1 : r / c = (r - c) / c + 1 := by
          have := Int.add_mul_ediv_right (r - c) 1 (show c ≠ 0 by omega)
          rw [Int.one_mul, Int.sub_add_cancel] at this; exact this
        have e2 : r % c = (r - c) % c := by rw [Int.sub_emod_right]
        rw [e1, e2] at this
        rw [show q + 1 + (r - c) / c = q + ((r - c) / c + 1) by omega]
        exact this
    · rw [if_neg hge]
      have hlt : r < c := by omega
      have := hk k (by omega)
      rwa [Int.ediv_eq_zero_of_lt h0 hlt, Int.emod_eq_of_lt h0 hlt, Int.add_zero] at this

theorem div_go (a b c : Int) (ha : 0 ≤ a ∧ a ≤ 1152921504606846976) (hc : 0 < c ∧ c ≤ 1152921504606846976) (hb : 0 ≤ b ∧ b ≤ c) (d : Nat) : ∀ (k : Nat) (i q r : Int), 61 - i = d → 0 ≤ i → 8 * d < k → q * c + r = b * (a / 2 ^ (61 - i).toNat) → 0 ≤ q → 0 ≤ r → r < c →
    cr02_Div.l0 k a b c q r (if i = 61 then 0 else 2 ^ (60 - i).toNat) i = some (a * b / c, a * b % c) := by
  induction d with
  | zero =>
    intro k i q r hd hi hk he hq hr hr2
    obtain ⟨k, rfl⟩ : ∃ m, k = m + 1 := ⟨k - 1, by omega⟩
    rw [cr02_Div.l0, if_neg (by omega)]
    rw [show (61 - i).toNat = 0 by omega, show (2 : Int) ^ 0 = 1 from rfl, Int.ediv_one] at he
    obtain ⟨h1, h2⟩ := (Int.ediv_emod_unique (a := a * b) (q := q) (r := r) hc.1).2 ⟨by rw [Int.mul_comm a b, ← he, Int.mul_comm]; omega, hr, hr2⟩
    rw [h1, h2]
  | succ d ih =>
    intro k i q r hd hi hk he hq hr hr2
    obtain ⟨k, rfl⟩ : ∃ m, k = m + 1 := ⟨k - 1, by omega⟩
    have hs := half_step a (60 - i).toNat
    rw [show (60 - i).toNat + 1 = (61 - i).toNat by omega] at hs
    have hpos : (0 : Int) < 2 ^ (60 - i).toNat := Int.pow_pos (by decide)
    have hW1 : 0 ≤ a / 2 ^ (60 - i).toNat := Int.ediv_nonneg ha.1 (Int.le_of_lt hpos)
    have hW2 : a / 2 ^ (60 - i).toNat ≤ a := Int.ediv_le_self _ ha.1
    have hpos2 : (0 : Int) < 2 ^ (61 - i).toNat := Int.pow_pos (by decide)
    have hV1 : 0 ≤ a / 2 ^ (61 - i).toNat := Int.ediv_nonneg ha.1 (Int.le_of_lt hpos2)
    have hqT : q ≤ 1152921504606846976 := by
      have h1 : b * (a / 2 ^ (61 - i).toNat) ≤ c * (a / 2 ^ (61 - i).toNat) := Int.mul_le_mul_of_nonneg_right hb.2 hV1
      have h3 : c * (a / 2 ^ (61 - i).toNat) = (a / 2 ^ (61 - i).toNat) * c := Int.mul_comm _ _
      have := Int.le_of_mul_le_mul_right (show q * c ≤ (a / 2 ^ (61 - i).toNat) * c by omega) hc.1
      omega
    have hbit : (if i = 61 then (0 : Int) else 2 ^ (60 - i).toNat) = 2 ^ (60 - i).toNat := if_neg (by omega)
    rw [hbit, cr02_Div.l0, if_pos (by omega), if_neg (by omega), Int.tdiv_eq_ediv_of_nonneg ha.1, w64 (a / 2 ^ (60 - i).toNat) (by omega) (by omega), Int.tmod_eq_emod_of_nonneg hW1, w64 (2 * q) (by omega) (by omega), w64 (2 * r) (by omega) (by omega)]
    have hnext : Int.tdiv ((2 : Int) ^ (60 - i).toNat) 2 = (if i + 1 = 61 then 0 else 2 ^ (60 - (i + 1)).toNat) := by
      by_cases h : i + 1 = 61
      · rw [if_pos h, show (60 - i).toNat = 0 by omega]; decide
      · rw [if_neg h, show (60 - i).toNat = (60 - (i + 1)).toNat + 1 by omega]
        exact div_pow _
    have hnb : 0 ≤ (if i + 1 = 61 then (0 : Int) else 2 ^ (60 - (i + 1)).toNat) ∧ (if i + 1 = 61 then (0 : Int) else 2 ^ (60 - (i + 1)).toNat) ≤ 1152921504606846976 := by
      split
      · omega
      · have h1 : (0 : Int) < 2 ^ (60 - (i + 1)).toNat := Int.pow_pos (by decide)
        have h2 : (2 : Nat) ^ (60 - (i + 1)).toNat ≤ 2 ^ 60 := Nat.pow_le_pow_right (by decide) (by omega)
        have h3 : ((2 ^ (60 - (i + 1)).toNat : Nat) : Int) = (2 : Int) ^ (60 - (i + 1)).toNat := by simp
        omega
    have step : ∀ r' : Int, 0 ≤ r' → r' < 3 * c → 2 * (b * (a / 2 ^ (61 - i).toNat)) + (r' - 2 * r) = b * (a / 2 ^ (60 - i).toNat) →
        cr02_Div.j1 k a b c (2 * q) r' (2 ^ (60 - i).toNat) i = some (a * b / c, a * b % c) := by
      intro r' h0 h1 h2
      obtain ⟨k, rfl⟩ : ∃ m, k = m + 1 := ⟨k - 1, by omega⟩
      rw [cr02_Div.j1]
      refine div_inner a b c hc _ i _ 2 k (2 * q) r' h0 (by show r' < c * 3; omega) (by omega) (by omega) (by omega) (by omega) ?_ (by omega)
      intro k' hk'
      have hd0 : 0 ≤ r' / c := Int.ediv_nonneg h0 (by omega)
      have hdm := Int.mul_ediv_add_emod r' c
      rw [w64 (i + 1) (by omega) (by omega), hnext, w64 _ (by omega) (by omega)]
      refine ih k' (i + 1) _ _ (by omega) (by omega) (by omega) ?_ (by omega) (Int.emod_nonneg _ (by omega)) (Int.emod_lt_of_pos _ hc.1)
      rw [show (61 - (i + 1)).toNat = (60 - i).toNat by omega, Int.add_mul, Int.mul_assoc, Int.mul_comm (r' / c) c]; omega
    have hsT : b * (a / 2 ^ (60 - i).toNat) = 2 * (b * (a / 2 ^ (61 - i).toNat)) + b * (a / 2 ^ (60 - i).toNat % 2) := by
      conv => lhs; rw [hs]
      rw [Int.mul_add, ← Int.mul_assoc, Int.mul_comm b 2, Int.mul_assoc]
    by_cases hb1 : a / 2 ^ (60 - i).toNat % 2 = 1
    · rw [if_pos hb1, w64 (2 * r + b) (by omega) (by omega)]
      refine step _ (by omega) (by omega) ?_
      rw [hsT, hb1]; omega
    · rw [if_neg hb1]
      refine step _ (by omega) (by omega) ?_
      rw [hsT, show a / 2 ^ (60 - i).toNat % 2 = 0 by omega]; omega
theorem div_val (a b c : Int) (ha : 0 ≤ a ∧ a ≤ 1152921504606846976) (hc : 0 < c ∧ c ≤ 1152921504606846976) (hb : 0 ≤ b ∧ b ≤ c) (k : Nat) (hk : 500 ≤ k) : cr02_Div.f k a b c = some (a * b / c, a * b % c) := by
  unfold cr02_Div.f
  have := div_go a b c ha hc hb 61 k 0 0 0 (by omega) (by omega) (by omega) (by
    have : a / 2 ^ (61 - (0 : Int)).toNat = 0 := Int.ediv_eq_zero_of_lt ha.1 (by show a < 2305843009213693952; omega)
    rw [this]; simp) (by omega) (by omega) hc.1
  exact this
theorem sum_go (l : List Int) (hn : ∀ a ∈ l, 0 ≤ a) (hs : isum l ≤ 4611686018427387904) (hlen : l.length ≤ 4611686018427387904) (d : Nat) : ∀ (k i : Nat), l.length - i = d → i ≤ l.length → d < k → cr02_Sum.l0 k l (isum (l.take i)) (i : Int) = some (isum l) := by
  induction d with
  | zero =>
    intro k i hd hi hk
    obtain ⟨k, rfl⟩ : ∃ m, k = m + 1 := ⟨k - 1, by omega⟩
    have : i = l.length := by omega
    subst this
    rw [cr02_Sum.l0, if_neg (by omega), List.take_length]
  | succ d ih =>
    intro k i hd hi hk
    obtain ⟨k, rfl⟩ : ∃ m, k = m + 1 := ⟨k - 1, by omega⟩
    have h1 := isum_take_le l hn i
    have h2 := isum_take_le l hn (i + 1)
    have h3 := isum_succ l i (by omega)
    rw [cr02_Sum.l0, if_pos (by omega), if_pos (by omega), w64 _ (by omega) (by omega), w64 _ (by omega) (by omega), ← h3, show ((i : Int) + 1) = ((i + 1 : Nat) : Int) by omega]
    exact ih k (i + 1) (by omega) (by omega) (by omega)
theorem sum_val (l : List Int) (hn : ∀ a ∈ l, 0 ≤ a) (hs : isum l ≤ 4611686018427387904) (hlen : l.length ≤ 4611686018427387904) (k : Nat) (hk : l.length < k) : cr02_Sum.f k l = some (isum l) := by
  have := sum_go l hn hs hlen l.length k 0 (by omega) (by omega) hk
  simpa [cr02_Sum.f, isum] using this
/-! ### the greedy hand-out: plain lists -/
theorem g_getD_set (l : List Int) (m : Nat) (x : Int) (i : Nat) (hm : m < l.length) : (l.set m x).getD i 0 = if i = m then x else l.getD i 0 := by
  rw [List.getD_eq_getElem?_getD, List.getD_eq_getElem?_getD, List.getElem?_set]
  by_cases h : m = i
  · rw [if_pos h, if_pos h.symm, if_pos hm]; rfl
  · rw [if_neg h, if_neg (fun e => h e.symm)]
theorem g_isum_set (l : List Int) : ∀ (m : Nat) (x : Int), m < l.length → isum (l.set m x) = isum l - l.getD m 0 + x := by
  induction l with
  | nil => intro m x h; simp at h
  | cons a l ih =>
    intro m x h
    cases m with
    | zero => simp [isum]; omega
    | succ m =>
      have := ih m x (by simpa using h)
      simp only [List.set_cons_succ, isum, List.getD_cons_succ, this]; omega
theorem g_best_take (l : List Int) (hl : 0 < l.length) : ∀ k, k ≤ l.length → (bestGo l (l.take k) 0 0 < l.length) ∧ (bestGo l (l.take k) 0 0 ≤ k - 1) ∧ (∀ j, j < k → l.getD j 0 ≤ l.getD (bestGo l (l.take k) 0 0) 0) ∧ (∀ j, j < bestGo l (l.take k) 0 0 → l.getD j 0 < l.getD (bestGo l (l.take k) 0 0) 0) := by
  intro k
  induction k with
  | zero => intro _; exact ⟨by simpa [bestGo] using hl, by simp [bestGo], by omega, by simp [bestGo]⟩
  | succ k ih =>
    intro hk
    obtain ⟨h1, h2, h3, h4⟩ := ih (by omega)
    have hs : bestGo l (l.take (k + 1)) 0 0 = if l.getD (bestGo l (l.take k) 0 0) 0 < l.getD k 0 then k else bestGo l (l.take k) 0 0 := by
      have e : l.take (k + 1) = l.take k ++ [l.getD k 0] := by
        rw [List.take_succ_eq_append_getElem (by omega), List.getD_eq_getElem?_getD, List.getElem?_eq_getElem (by omega)]; rfl
      rw [e, bestGo_snoc, List.length_take, Nat.min_eq_left (by omega), Nat.zero_add]
    rw [hs]
    generalize bestGo l (l.take k) 0 0 = b at *
    by_cases hc : l.getD b 0 < l.getD k 0
    · rw [if_pos hc]
      refine ⟨by omega, by omega, ?_, ?_⟩
      · intro j hj
        by_cases hjk : j = k
        · rw [hjk]; exact Int.le_refl _
        · have := h3 j (by omega); omega
      · intro j hj
        have := h3 j hj; omega
    · rw [if_neg hc]
      refine ⟨h1, ?_, ?_, h4⟩
      · omega
      · intro j hj
        by_cases hjk : j = k
        · rw [hjk]; omega
        · exact h3 j (by omega)
theorem g_best (l : List Int) (hl : 0 < l.length) : best l < l.length ∧ (∀ j, j < l.length → l.getD j 0 ≤ l.getD (best l) 0) ∧ (∀ j, j < best l → l.getD j 0 < l.getD (best l) 0) := by
  have := g_best_take l hl l.length (Nat.le_refl _)
  rw [List.take_length] at this
  exact ⟨this.1, this.2.2.1, this.2.2.2⟩
structure GInv (q r : List Int) (A : Int) (n : Nat) (p : List Int × List Int) : Prop where
  l1 : p.1.length = q.length
  l2 : p.2.length = q.length
  each : ∀ i, i < q.length → (p.2.getD i 0 = r.getD i 0 ∧ p.1.getD i 0 = q.getD i 0) ∨ (p.2.getD i 0 = -1 ∧ p.1.getD i 0 = q.getD i 0 + 1 ∧ 0 < r.getD i 0)
  ahead : ∀ i j, i < q.length → j < q.length → p.2.getD i 0 = -1 → p.2.getD j 0 ≠ -1 → r.getD j 0 < r.getD i 0 ∨ (r.getD j 0 = r.getD i 0 ∧ i < j)
  sum1 : isum p.1 = isum q + n
  sum2 : isum r - n * A ≤ isum p.2
theorem g_isum_nonpos (l : List Int) (h : ∀ i, i < l.length → l.getD i 0 ≤ 0) : isum l ≤ 0 := by
  induction l with
  | nil => simp [isum]
  | cons a l ih =>
    have h0 := h 0 (by simp)
    have := ih (fun i hi => by simpa using h (i + 1) (by simpa using hi))
    simp only [List.getD_cons_zero] at h0
    simp only [isum]; omega
theorem g_step (q r : List Int) (A : Int) (n : Nat) (p : List Int × List Int) (hp : GInv q r A n p) (hr0 : ∀ i, i < q.length → 0 ≤ r.getD i 0 ∧ r.getD i 0 < A) (hn : 0 < isum r - n * A) : GInv q r A (n + 1) (giveOne p) := by
  obtain ⟨l1, l2, each, ahead, s1, s2⟩ := hp
  have hpos : 0 < p.2.length := by
    rcases Nat.eq_zero_or_pos p.2.length with h | h
    · have : p.2 = [] := List.length_eq_zero_iff.1 h
      rw [this] at s2; simp only [isum] at s2; omega
    · exact h
  obtain ⟨hb, hmax, hfirst⟩ := g_best p.2 hpos
  have hbig : 0 < p.2.getD (best p.2) 0 := by
    apply Classical.byContradiction
    intro hc
    have := g_isum_nonpos p.2 (fun i hi => by have := hmax i hi; omega)
    omega
  have heach := each (best p.2) (by omega)
  have hbe : p.2.getD (best p.2) 0 = r.getD (best p.2) 0 ∧ p.1.getD (best p.2) 0 = q.getD (best p.2) 0 := by
    rcases heach with h | h
    · exact h
    · omega
  have hrb := hr0 (best p.2) (by omega)
  unfold giveOne
  generalize best p.2 = b at *
  have e1 : ∀ i, (p.1.set b (p.1.getD b 0 + 1)).getD i 0 = if i = b then p.1.getD b 0 + 1 else p.1.getD i 0 := fun i => g_getD_set _ _ _ i (by omega)
  have e2 : ∀ i, (p.2.set b (-1)).getD i 0 = if i = b then -1 else p.2.getD i 0 := fun i => g_getD_set _ _ _ i (by omega)
  refine ⟨by simpa using l1, by simpa using l2, ?_, ?_, ?_, ?_⟩
  · intro i hi
    rw [e1, e2]
    by_cases h : i = b
    · rw [if_pos h, if_pos h, h]; right; exact ⟨rfl, by omega, by omega⟩
    · rw [if_neg h, if_neg h]; exact each i hi
  · intro i j hi hj
    rw [e2, e2]
    intro h1 h2
    by_cases hj' : j = b
    · rw [if_pos hj'] at h2; exact absurd rfl h2
    · rw [if_neg hj'] at h2
      by_cases hi' : i = b
      · rw [hi']
        have hrj : p.2.getD j 0 = r.getD j 0 := by
          rcases each j hj with h | h
          · exact h.1
          · exact absurd h.1 h2
        have := hmax j (by omega)
        by_cases hlt : r.getD j 0 < r.getD b 0
        · exact .inl hlt
        · right
          refine ⟨by omega, ?_⟩
          apply Classical.byContradiction
          intro hc
          have := hfirst j (by omega)
          omega
      · rw [if_neg hi'] at h1
        exact ahead i j hi hj h1 h2
  · show isum (p.1.set b (p.1.getD b 0 + 1)) = isum q + ((n + 1 : Nat) : Int)
    rw [g_isum_set _ _ _ (by omega)]; omega
  · show isum r - ((n + 1 : Nat) : Int) * A ≤ isum (p.2.set b (-1))
    have e : ((n + 1 : Nat) : Int) * A = n * A + A := by rw [Int.natCast_add, Int.add_mul]; simp
    rw [g_isum_set _ _ _ (by omega), e]; omega
theorem g_many (q r : List Int) (A : Int) (hA : 0 < A) (hr : r.length = q.length) (hr0 : ∀ i, i < q.length → 0 ≤ r.getD i 0 ∧ r.getD i 0 < A) : ∀ n : Nat, n * A ≤ isum r → GInv q r A n (giveMany n (q, r)) := by
  intro n
  induction n with
  | zero =>
    intro _
    refine ⟨rfl, hr, fun i hi => .inl ⟨rfl, rfl⟩, ?_, by simp [giveMany], by simp [giveMany]⟩
    intro i j hi hj h1 h2
    have := hr0 i hi
    simp only [giveMany] at h1
    omega
  | succ n ih =>
    intro hn
    have e : ((n + 1 : Nat) : Int) * A = n * A + A := by rw [Int.natCast_add, Int.add_mul]; simp
    rw [giveMany_snoc]
    exact g_step q r A n _ (ih (by omega)) hr0 (by omega)
theorem g_isum_split (T A : Int) (l : List Int) : A * isum (quos T A l) + isum (remsOf T A l) = T * isum l := by
  induction l with
  | nil => simp [quos, remsOf, isum]
  | cons a l ih =>
    have := Int.mul_ediv_add_emod (T * a) A
    simp only [quos, remsOf, List.map_cons, isum] at *
    rw [Int.mul_add, Int.mul_add]; omega
theorem g_quos_getD (T A : Int) (l : List Int) (i : Nat) (h : i < l.length) : (quos T A l).getD i 0 = T * l.getD i 0 / A := by
  unfold quos
  rw [List.getD_eq_getElem?_getD, List.getD_eq_getElem?_getD, List.getElem?_map, List.getElem?_eq_getElem h]; rfl
theorem g_rems_getD (T A : Int) (l : List Int) (i : Nat) (h : i < l.length) : (remsOf T A l).getD i 0 = T * l.getD i 0 % A := by
  unfold remsOf
  rw [List.getD_eq_getElem?_getD, List.getD_eq_getElem?_getD, List.getElem?_map, List.getElem?_eq_getElem h]; rfl
/-- What the split is: each its floor or one more; who got one more has a greater rest than who didn't, or as great a one and stands ahead; all together are the total. -/
theorem split_is (T : Int) (l : List Int) (hT : 0 ≤ T) (hA : 0 < isum l) (h : ∀ a ∈ l, 0 ≤ a) :
    (splitParts T (isum l) l).length = l.length ∧ isum (splitParts T (isum l) l) = T ∧
    ∃ up : Nat → Bool, (∀ i, i < l.length → (splitParts T (isum l) l).getD i 0 = T * l.getD i 0 / isum l + (if up i = true then 1 else 0) ∧ (up i = true → 0 < T * l.getD i 0 % isum l)) ∧
      (∀ i j, i < l.length → j < l.length → up i = true → up j = false → T * l.getD j 0 % isum l < T * l.getD i 0 % isum l ∨ (T * l.getD j 0 % isum l = T * l.getD i 0 % isum l ∧ i < j)) := by
  have hq := isum_quos T (isum l) hT hA l h
  have hs := g_isum_split T (isum l) l
  have hleft : 0 ≤ T - isum (quos T (isum l) l) := by
    have := left_range T l hT hA h l.length
    rw [List.take_length] at this
    exact this.1
  have hlq : (quos T (isum l) l).length = l.length := by simp [quos]
  have hlr : (remsOf T (isum l) l).length = l.length := by simp [remsOf]
  have hm := g_many (quos T (isum l) l) (remsOf T (isum l) l) (isum l) hA (by omega) (by
    intro i hi
    rw [g_rems_getD _ _ _ _ (by omega)]
    exact ⟨Int.emod_nonneg _ (by omega), Int.emod_lt_of_pos _ hA⟩) (T - isum (quos T (isum l) l)).toNat (by
    rw [Int.toNat_of_nonneg hleft, Int.sub_mul]
    rw [Int.mul_comm (isum (quos T (isum l) l))]
    omega)
  obtain ⟨l1, l2, each, ahead, s1, s2⟩ := hm
  unfold splitParts
  generalize giveMany (T - isum (quos T (isum l) l)).toNat (quos T (isum l) l, remsOf T (isum l) l) = p at *
  refine ⟨by omega, by omega, fun i => p.2.getD i 0 == -1, ?_, ?_⟩
  · intro i hi
    have hri : 0 ≤ T * l.getD i 0 % isum l := Int.emod_nonneg _ (by omega)
    have := each i (by omega)
    rw [g_quos_getD _ _ _ _ hi, g_rems_getD _ _ _ _ hi] at this
    rcases this with ⟨h1, h2⟩ | ⟨h1, h2, h3⟩
    · have hne : ¬ (p.2.getD i 0 = -1) := by omega
      simp only [beq_iff_eq, hne, if_false]
      exact ⟨by omega, fun h => h.elim⟩
    · simp only [beq_iff_eq, h1, if_true]
      exact ⟨by omega, fun _ => h3⟩
  · intro i j hi hj h1 h2
    have := ahead i j (by omega) (by omega) (by simpa using h1) (by simpa using h2)
    rwa [g_rems_getD _ _ _ _ hi, g_rems_getD _ _ _ _ hj] at this
/-! ### contangoref02.Split, Signed: the same as share's -/
def splitSpec (a0 : Int) (l1 : List Int) : List Int × Int := if okMoney a0 = true then (if l1.length > 1024 then ([], 8) else if weighedOk l1 = true then (if isum l1 = 0 then ([], 26) else (splitParts a0 (isum l1) l1, 0)) else ([], 26)) else ([], 2)
theorem split_spec (a0 : Int) (l1 : List Int) : share_Split.f a0 l1 = some (splitSpec a0 l1) := rfl
theorem div_ev (a b c : Int) (ha : 0 ≤ a ∧ a ≤ 1152921504606846976) (hc : 0 < c ∧ c ≤ 1152921504606846976) (hb : 0 ≤ b ∧ b ≤ c) : Ev (fun k => cr02_Div.f k a b c) (a * b / c, a * b % c) := ⟨500, fun k hk => div_val a b c ha hc hb k hk⟩
theorem rw1_go (l : List Int) (hl : l.length ≤ 4611686018427387904) (hm : ∀ j, j < l.length → 0 ≤ l.getD j 0 ∧ l.getD j 0 ≤ 1152921504606846976) (d : Nat) : ∀ i : Nat, l.length - i = d → i ≤ l.length → sumTo (fun j => l.getD j 0) i ≤ 1152921504606846976 →
    Ev (fun k => cr02_weights.l1 k l (sumTo (fun j => l.getD j 0) i) (i : Int)) (if isum l ≤ 1152921504606846976 then (isum l, 0) else (0, 26)) := by
  induction d with
  | zero =>
    intro i hd hi hs
    have : i = l.length := by omega
    subst this
    refine Ev.step (fun _ => rfl) (ev_neg (by omega) (ev_some ?_))
    rw [isum_sumTo, if_pos hs]
  | succ d ih =>
    intro i hd hi hs
    have hlt : i < l.length := by omega
    have h0 := sumTo_nonneg (fun j => l.getD j 0) i (fun j hj => (hm j (by omega)).1)
    have hmi := hm i hlt
    refine Ev.step (fun _ => rfl) (ev_pos (by omega) (ev_pos (by omega) ?_))
    rw [wsucc i (by omega), rd_nat, w64 (1152921504606846976 - _) (by omega) (by omega)]
    by_cases hc : l.getD i 0 > 1152921504606846976 - sumTo (fun j => l.getD j 0) i
    · refine ev_pos hc (ev_some ?_)
      have h1 := sumTo_mono (fun j => l.getD j 0) (i + 1) l.length (by omega) (fun j hj => (hm j hj).1)
      simp only [sumTo] at h1
      rw [isum_sumTo, if_neg (by omega)]
    · refine ev_neg hc ?_
      have hih := ih (i + 1) (by omega) (by omega)
      simp only [sumTo] at hih
      rw [w64 _ (by omega) (by omega)]
      exact hih (by omega)
theorem rw0_go (l : List Int) (hl : l.length ≤ 4611686018427387904) (d : Nat) : ∀ i : Nat, l.length - i = d → i ≤ l.length → (∀ j, j < i → okMoney (l.getD j 0) = true) →
    Ev (fun k => cr02_weights.l0 k l 0 (i : Int)) (if weighedOk l = true then (isum l, 0) else (0, 26)) := by
  induction d with
  | zero =>
    intro i hd hi hs
    have : i = l.length := by omega
    subst this
    have hm : ∀ j, j < l.length → 0 ≤ l.getD j 0 ∧ l.getD j 0 ≤ 1152921504606846976 := fun j hj => (okMoney_iff _).1 (hs j hj)
    have := rw1_go l hl hm l.length 0 (by omega) (by omega) (by show (0 : Int) ≤ _; decide)
    refine Ev.step (fun _ => rfl) (ev_neg (by omega) (ev_rw ?_ this))
    unfold weighedOk
    rw [(all_okMoney l).2 hm, Bool.true_and]
    simp only [decide_eq_true_eq]
  | succ d ih =>
    intro i hd hi hs
    have hlt : i < l.length := by omega
    refine Ev.step (fun _ => rfl) (ev_pos (by omega) (ev_pos (by omega) (ev_val (rmoney_val _) ?_)))
    rw [wsucc i (by omega), rd_nat]
    by_cases hc : okMoney (l.getD i 0) = true
    · refine ev_pos hc (ih (i + 1) (by omega) (by omega) ?_)
      intro j hj
      by_cases e : j = i
      · rw [e]; exact hc
      · exact hs j (by omega)
    · refine ev_neg hc (ev_some ?_)
      have : weighedOk l = false := by
        unfold weighedOk
        have : l.all okMoney = false := by
          rw [Bool.eq_false_iff]; intro h
          exact hc ((okMoney_iff _).2 ((all_okMoney l).1 h i hlt))
        rw [this]; rfl
      rw [this]; simp
theorem rweights_ev (l : List Int) (hl : l.length ≤ 4611686018427387904) : Ev (fun k => cr02_weights.f k l) (if weighedOk l = true then (isum l, 0) else (0, 26)) := by
  have := rw0_go l hl l.length 0 (by omega) (by omega) (fun j hj => absurd hj (by omega))
  exact this
theorem rs2_go (p : List Int × List Int) (left t : Int) (R : List Int × Int) (h0 : 0 < p.2.length) (he : p.1.length = p.2.length) (hn : p.2.length ≤ 1024) (ht : 0 ≤ t ∧ t ≤ 1152921504606846976) (hv : ∀ a ∈ p.1, 0 ≤ a ∧ a ≤ 4611686018427387904)
    (hend : Ev (fun k => cr02_Split.l1 k (giveOne p).1 (giveOne p).2 left (t + 1)) R) (d : Nat) : ∀ i : Nat, p.2.length - i = d → i ≤ p.2.length →
    Ev (fun k => cr02_Split.l2 k p.1 p.2 left t ((bestGo p.2 (p.2.take i) 0 0 : Nat) : Int) (i : Int)) R := by
  induction d with
  | zero =>
    intro i hd hi
    have : i = p.2.length := by omega
    subst this
    have hb := best_lt p.2 h0
    rw [List.take_length]
    refine Ev.step (fun _ => rfl) (ev_neg (by omega) ?_)
    unfold giveOne at hend
    unfold best at *
    generalize bestGo p.2 p.2 0 0 = b at *
    have hx := hv _ (mem_getD p.1 b (by omega))
    refine ev_pos (by omega) (ev_pos (by omega) (ev_pos (by omega) ?_))
    rw [rd_nat, w64 _ (by omega) (by omega), w64 _ (by omega) (by omega), Int.toNat_natCast]
    exact hend
  | succ d ih =>
    intro i hd hi
    have hlt : i < p.2.length := by omega
    have hih := ih (i + 1) (by omega) (by omega)
    have hg := (g_best_take p.2 h0 i (by omega)).1
    have e : p.2.take (i + 1) = p.2.take i ++ [p.2.getD i 0] := by
      rw [List.take_succ_eq_append_getElem (by omega), List.getD_eq_getElem?_getD, List.getElem?_eq_getElem (by omega)]; rfl
    rw [e, bestGo_snoc, List.length_take, Nat.min_eq_left (by omega), Nat.zero_add] at hih
    generalize bestGo p.2 (p.2.take i) 0 0 = b at *
    refine Ev.step (fun _ => rfl) (ev_pos (by omega) (ev_pos (by omega) (ev_pos (by omega) (ev_pos (by omega) ?_))))
    rw [wsucc i (by omega)]
    simp only [rd_nat]
    by_cases hc : p.2.getD b 0 < p.2.getD i 0
    · rw [if_pos hc] at hih; exact ev_pos hc hih
    · rw [if_neg hc] at hih; exact ev_neg hc hih
theorem rs1_go (q r : List Int) (left : Int) (h0 : 0 < r.length) (he : q.length = r.length) (hn : r.length ≤ 1024) (hl : 0 ≤ left ∧ left ≤ 1152921504606846976) (hv : ∀ a ∈ q, 0 ≤ a ∧ a ≤ 1152921504606846976) (d : Nat) : ∀ t : Nat, left.toNat - t = d → t ≤ left.toNat →
    Ev (fun k => cr02_Split.l1 k (giveMany t (q, r)).1 (giveMany t (q, r)).2 left (t : Int)) ((giveMany left.toNat (q, r)).1, 0) := by
  induction d with
  | zero =>
    intro t hd ht
    have : t = left.toNat := by omega
    subst this
    refine Ev.step (fun _ => rfl) (ev_neg (by omega) (Ev.now _))
  | succ d ih =>
    intro t hd ht
    have hih := ih (t + 1) (by omega) (by omega)
    rw [giveMany_snoc] at hih
    have hlen := giveMany_len t (q, r)
    have hle := giveMany_le t 1152921504606846976 (q, r) hv
    simp only at hlen
    generalize giveMany t (q, r) = p at *
    refine Ev.step (fun _ => rfl) (ev_pos (by omega) ?_)
    have := rs2_go p left (t : Int) _ (by omega) (by omega) (by omega) ⟨by omega, by omega⟩ (fun a ha => by have := hle a ha; omega) (by rw [show ((t : Int) + 1) = ((t + 1 : Nat) : Int) by omega]; exact hih) (p.2.length - 1) 1 (by omega) (by omega)
    have e : bestGo p.2 (p.2.take 1) 0 0 = 0 := by
      have h2 := (g_best_take p.2 (by omega) 1 (by omega)).2.1; omega
    rw [e] at this
    exact this
theorem rs0_go (T : Int) (w : List Int) (hT : 0 ≤ T ∧ T ≤ 1152921504606846976) (hA : 0 < isum w ∧ isum w ≤ 1152921504606846976) (hw : ∀ a ∈ w, 0 ≤ a) (hn : w.length ≤ 1024) (d : Nat) : ∀ i : Nat, w.length - i = d → i ≤ w.length →
    Ev (fun k => cr02_Split.l0 k T w (isum w) (quos T (isum w) (w.take i)) (remsOf T (isum w) (w.take i)) (T - isum (quos T (isum w) (w.take i))) (i : Int)) (splitParts T (isum w) w, 0) := by
  have hlr := fun i => left_range T w hT.1 hA.1 hw i
  induction d with
  | zero =>
    intro i hd hi
    have : i = w.length := by omega
    subst this
    have hl := hlr w.length
    rw [List.take_length] at hl ⊢
    refine Ev.step (fun _ => rfl) (ev_neg (by omega) ?_)
    have hpos : 0 < w.length := by
      rcases Nat.eq_zero_or_pos w.length with h | h
      · have : w = [] := List.length_eq_zero_iff.1 h
        rw [this] at hA; simp [isum] at hA
      · exact h
    have hqb : ∀ a ∈ quos T (isum w) w, 0 ≤ a ∧ a ≤ 1152921504606846976 := by
      intro a ha
      obtain ⟨x, hx, rfl⟩ := List.mem_map.1 ha
      have hx0 := hw x hx
      have hx1 := mem_le_isum w hw x hx
      refine ⟨Int.ediv_nonneg (Int.mul_nonneg hT.1 hx0) (by omega), ?_⟩
      have := Int.ediv_le_ediv hA.1 (Int.mul_le_mul_of_nonneg_left hx1 hT.1)
      rw [Int.mul_ediv_cancel _ (by omega)] at this
      omega
    exact rs1_go (quos T (isum w) w) (remsOf T (isum w) w) (T - isum (quos T (isum w) w)) (by simp [remsOf]; omega) (by simp [quos, remsOf]) (by simp [remsOf]; omega) ⟨hl.1, by omega⟩ hqb _ 0 rfl (by omega)
  | succ d ih =>
    intro i hd hi
    have hlt : i < w.length := by omega
    have hih := ih (i + 1) (by omega) (by omega)
    have hl1 := hlr (i + 1)
    have hl0 := hlr i
    have hwi := hw _ (mem_getD w i hlt)
    have hwl := mem_le_isum w hw _ (mem_getD w i hlt)
    have e : w.take (i + 1) = w.take i ++ [w.getD i 0] := by
      rw [List.take_succ_eq_append_getElem (by omega), List.getD_eq_getElem?_getD, List.getElem?_eq_getElem (by omega)]; rfl
    have eq1 : quos T (isum w) (w.take (i + 1)) = quos T (isum w) (w.take i) ++ [T * w.getD i 0 / isum w] := by rw [e]; simp [quos]
    have er1 : remsOf T (isum w) (w.take (i + 1)) = remsOf T (isum w) (w.take i) ++ [T * w.getD i 0 % isum w] := by rw [e]; simp [remsOf]
    rw [eq1, er1] at hih
    rw [eq1] at hl1
    have lq : (quos T (isum w) (w.take i)).length ≤ 1024 := by simp [quos]; omega
    have lr : (remsOf T (isum w) (w.take i)).length ≤ 1024 := by simp [remsOf]; omega
    rw [isum_append] at hih hl1
    simp only [isum, Int.add_zero] at hih hl1
    generalize quos T (isum w) (w.take i) = Q at *
    generalize remsOf T (isum w) (w.take i) = S at *
    refine Ev.step (fun _ => rfl) (ev_pos (by omega) (ev_pos (by omega) ?_))
    simp only [rd_nat]
    refine Ev.bind (div_ev T (w.getD i 0) (isum w) hT hA ⟨hwi, hwl⟩) ?_
    simp only
    generalize T * w.getD i 0 / isum w = x at *
    refine ev_pos (by omega) (ev_pos (by omega) ?_)
    rw [wsucc i (by omega), w64 _ (by omega) (by omega), show T - isum Q - x = T - (isum Q + x) by omega]
    exact hih
theorem rsplit_ev (T : Int) (w : List Int) : Ev (fun k => cr02_Split.f k T w) (splitSpec T w) := by
  unfold splitSpec cr02_Split.f
  refine ev_val (rmoney_val T) ?_
  by_cases hT : okMoney T = true
  · rw [if_pos hT]
    refine ev_pos hT ?_
    by_cases hn : w.length > 1024
    · rw [if_pos hn]; exact ev_pos (by omega) (Ev.now _)
    · rw [if_neg hn]
      refine ev_neg (by omega) (Ev.bind (rweights_ev w (by omega)) ?_)
      by_cases hw : weighedOk w = true
      · rw [if_pos hw, if_pos hw]
        refine ev_pos rfl ?_
        by_cases hz : isum w = 0
        · rw [if_pos hz, show (isum w == 0) = true by simpa using hz]
          exact Ev.step (f := fun _ => some ([], 26)) (fun _ => rfl) (Ev.now _)
        · rw [if_neg hz, show (isum w == 0) = false by simpa using hz]
          have htm := (okMoney_iff T).1 hT
          unfold weighedOk at hw
          simp only [Bool.and_eq_true, decide_eq_true_eq, List.all_eq_true] at hw
          have hwm : ∀ a ∈ w, 0 ≤ a := fun a ha => ((okMoney_iff a).1 (hw.1 a ha)).1
          have hs0 := (isum_take_le w hwm w.length).1
          rw [List.take_length] at hs0
          refine Ev.step (f := fun k => cr02_Split.l0 k T w (isum w) [] [] T 0) (fun _ => rfl) ?_
          have := rs0_go T w htm ⟨by omega, hw.2⟩ hwm (by omega) w.length 0 (by omega) (by omega)
          simpa [quos, remsOf, isum] using this
      · rw [if_neg hw, if_neg hw]
        exact ev_neg (by simp) (Ev.step (f := fun _ => some ([], 26)) (fun _ => rfl) (Ev.now _))
  · rw [if_neg hT]; exact ev_neg hT (Ev.now _)
/-! ### a loop, from its end backwards -/
theorem ev_down {ρ S : Type} {n : Nat} {g : Nat → Nat → S → Option ρ} {spec : Nat → S → ρ} {inv : Nat → S → Prop}
    (he : ∀ s, inv n s → Ev (fun k => g k n s) (spec n s))
    (hs : ∀ i s, i < n → inv i s → (∀ s', inv (i + 1) s' → Ev (fun k => g k (i + 1) s') (spec (i + 1) s')) → Ev (fun k => g k i s) (spec i s)) :
    ∀ i s, i ≤ n → inv i s → Ev (fun k => g k i s) (spec i s) := by
  intro i s hi h
  generalize hd : n - i = d
  induction d generalizing i s with
  | zero =>
    obtain rfl : i = n := by omega
    exact he s h
  | succ d ih => exact hs i s (by omega) h (fun s' h' => ih (i + 1) s' (by omega) h' (by omega))
theorem dropD {α : Type} (z : α) (l : List α) (i : Nat) (h : i < l.length) : l.drop i = l.getD i z :: l.drop (i + 1) := by
  rw [List.drop_eq_getElem_cons h, List.getD_eq_getElem?_getD, List.getElem?_eq_getElem h]; rfl
theorem getD_mem' {α : Type} (z : α) (l : List α) (i : Nat) (h : i < l.length) : l.getD i z ∈ l := by
  rw [List.getD_eq_getElem?_getD, List.getElem?_eq_getElem h]; exact List.getElem_mem h
theorem drop_end {α : Type} (l : List α) : l.drop l.length = [] := List.drop_length
theorem ev_bnd {α β : Type} {g : Nat → Option α} {f : Nat → α → Option β} {a : α} {r : β} (h : Ev g a) (k : Ev (fun n => f n a) r) : Ev (fun n => (g n).bind (f n)) r := h.bind k
theorem w64id (x : Int) (h0 : -9223372036854775808 ≤ x) (h1 : x ≤ 9223372036854775807) : wrap64 x = x := by unfold wrap64; omega
theorem ev_end {α : Type} {g : Nat → Option α} {x r : α} (hg : ∀ k, g (k + 1) = some x) (h : x = r) : Ev g r := Ev.step (f := fun _ => some x) hg (ev_some h)
theorem w64i (n : Int) (h0 : -9223372036854775808 ≤ n) (h1 : n ≤ 9223372036854775807) : wrap64 n = n := by unfold wrap64; omega
def fitsP (n : Int) : Prop := -1152921504606846976 ≤ n ∧ n ≤ 1152921504606846976
instance (n : Int) : Decidable (fitsP n) := by unfold fitsP; infer_instance
theorem cfits_eq (n : Int) : cents_Fits.f n = some (decide (fitsP n)) := by
  unfold cents_Fits.f fitsP
  by_cases h : n ≥ (-1152921504606846976)
  · rw [if_pos h]; congr 1; simp [h]
  · rw [if_neg h]; congr 1; simp [h]
/-! ### names -/
def letterB (c : Int) : Bool := decide (97 ≤ c) && decide (c ≤ 122)
def digitB (c : Int) : Bool := decide (48 ≤ c) && decide (c ≤ 57)
def nameFrom (s : ByteArray) (i : Nat) : Bool := ((List.range s.size).drop i).all (fun i => letterB (bt s i) || digitB (bt s i))
def nameOk (s : ByteArray) : Bool := if s.size = 0 then false else if s.size > 12 then false else letterB (bt s 0) && nameFrom s 0
theorem size_nil (s : ByteArray) : s.toList = ([] : List UInt8) ↔ s.size = 0 := by
  rw [ByteArray.toList_eq, List.eq_nil_iff_length_eq_zero, Array.length_toList]; rfl
theorem nameFrom_cons (s : ByteArray) (i : Nat) (h : i < s.size) : nameFrom s i = ((letterB (bt s i) || digitB (bt s i)) && nameFrom s (i + 1)) := by
  unfold nameFrom
  rw [dropD 0 (List.range s.size) i (by simpa using h), List.all_cons]
  congr 2 <;> simp [List.getD_eq_getElem?_getD, h]
theorem nameFrom_end (s : ByteArray) : nameFrom s s.size = true := by
  unfold nameFrom
  rw [List.drop_eq_nil_of_le (by simp)]; rfl
theorem letter_eq (c : Int) : words_letter.f c = some (letterB c) := by
  unfold words_letter.f letterB; by_cases h : 97 ≤ c <;> simp [h]
theorem digit_eq (c : Int) : words_digit.f c = some (digitB c) := by
  unfold words_digit.f digitB; by_cases h : 48 ≤ c <;> simp [h]
theorem name_go (s : ByteArray) (hs : s.size ≤ 12) : ∀ (i : Nat) (u : Unit), i ≤ s.size → True → Ev (fun k => words_Name.l0 k s (s.size : Int) (i : Int)) (nameFrom s i) := by
  refine ev_down (S := Unit) (g := fun k i _ => words_Name.l0 k s (s.size : Int) (i : Int)) (spec := fun i _ => nameFrom s i) (inv := fun _ _ => True) ?_ ?_
  · intro _ _
    refine Ev.step (fun _ => rfl) (ev_neg (by omega) (ev_some ?_))
    rw [nameFrom_end]
  · intro i _ hi _ ih
    have ih := ih () trivial
    refine Ev.step (fun _ => rfl) (ev_pos (by omega) (ev_pos (by omega) (ev_pos (by omega) (ev_val (letter_eq _) ?_))))
    rw [nameFrom_cons s i hi, wsucc i (by omega)]
    cases h1 : letterB (bt s i) with
    | true => exact ev_pos (by rfl) (by simpa using ih)
    | false =>
      refine ev_neg (by simp) (ev_val (digit_eq _) ?_)
      cases h2 : digitB (bt s i) with
      | true => exact ev_pos (by rfl) (by simpa using ih)
      | false => exact ev_neg (by simp) (ev_some rfl)
theorem name_ev (s : ByteArray) : Ev (fun k => words_Name.f k s) (nameOk s) := by
  unfold words_Name.f nameOk
  by_cases h0 : s.size = 0
  · rw [if_pos h0]
    exact ev_pos ((size_nil s).2 h0) (ev_end (fun _ => rfl) rfl)
  rw [if_neg h0]
  refine ev_neg (fun h => h0 ((size_nil s).1 h)) ?_
  by_cases h1 : s.size > 12
  · rw [if_pos h1]
    exact ev_pos (by omega) (ev_end (fun _ => rfl) rfl)
  rw [if_neg h1]
  refine ev_neg (by omega) (ev_pos (by omega) (ev_val (letter_eq _) (Ev.step (fun _ => rfl) ?_)))
  cases h2 : letterB (bt s 0) with
  | true =>
    have := name_go s (by omega) 0 () (by omega) trivial
    rw [Bool.true_and]; exact this
  | false => exact ev_some rfl
theorem rname_go (s : ByteArray) (hs : s.size ≤ 12) : ∀ (i : Nat) (u : Unit), i ≤ s.size → True → Ev (fun k => cr22_Name.l0 k s (i : Int)) (nameFrom s i) := by
  refine ev_down (S := Unit) (g := fun k i _ => cr22_Name.l0 k s (i : Int)) (spec := fun i _ => nameFrom s i) (inv := fun _ _ => True) ?_ ?_
  · intro _ _
    refine Ev.step (fun _ => rfl) (ev_neg (by omega) (ev_some ?_))
    rw [nameFrom_end]
  · intro i _ hi _ ih
    have ih := ih () trivial
    refine Ev.step (fun _ => rfl) (ev_pos (by omega) (ev_pos (by omega) ?_))
    rw [nameFrom_cons s i hi, wsucc i (by omega)]
    unfold letterB digitB
    generalize bt s i = c
    by_cases h1 : c < 97
    · refine ev_pos h1 ?_
      rw [decide_eq_false (by omega : ¬ 97 ≤ c)]
      by_cases h2 : c < 48
      · rw [decide_eq_false (by omega : ¬ 48 ≤ c)]; exact ev_pos h2 (ev_some rfl)
      refine ev_neg h2 ?_
      rw [decide_eq_true (by omega : 48 ≤ c)]
      by_cases h3 : c > 57
      · rw [decide_eq_false (by omega : ¬ c ≤ 57)]; exact ev_pos h3 (ev_some rfl)
      · rw [decide_eq_true (by omega : c ≤ 57)]; exact ev_neg h3 (by simpa using ih)
    refine ev_neg h1 ?_
    rw [decide_eq_true (by omega : 97 ≤ c)]
    by_cases h4 : c > 122
    · refine ev_pos h4 (ev_neg (by omega) (ev_pos (by omega) (ev_some ?_)))
      rw [decide_eq_false (by omega : ¬ c ≤ 122), decide_eq_false (by omega : ¬ c ≤ 57)]; simp
    · rw [decide_eq_true (by omega : c ≤ 122)]; exact ev_neg h4 (by simpa using ih)
theorem rname_ev (s : ByteArray) : Ev (fun k => cr22_Name.f k s) (nameOk s) := by
  unfold cr22_Name.f nameOk
  by_cases h0 : s.size = 0
  · rw [if_pos h0]
    exact ev_pos ((size_nil s).2 h0) (ev_end (fun _ => rfl) rfl)
  rw [if_neg h0]
  refine ev_neg (fun h => h0 ((size_nil s).1 h)) ?_
  by_cases h1 : s.size > 12
  · rw [if_pos h1]
    exact ev_pos (by omega) (ev_end (fun _ => rfl) rfl)
  rw [if_neg h1]
  refine ev_neg (by omega) (ev_pos (by omega) ?_)
  have hg := rname_go s (by omega) 0 () (by omega) trivial
  unfold letterB
  generalize bt s 0 = c
  by_cases h2 : c < 97
  · rw [decide_eq_false (by omega : ¬ 97 ≤ c)]
    exact ev_pos h2 (ev_end (fun _ => rfl) rfl)
  rw [decide_eq_true (by omega : 97 ≤ c)]
  refine ev_neg h2 (Ev.step (fun _ => rfl) ?_)
  by_cases h3 : c > 122
  · rw [decide_eq_false (by omega : ¬ c ≤ 122)]; exact ev_pos (by simp [h3]) (ev_some rfl)
  · rw [decide_eq_true (by omega : c ≤ 122)]; exact ev_neg (by simp [h3]) hg
/-! ### sums -/
def sumI : List Int → Int
  | [] => 0
  | a :: l => a + sumI l
def sumAns (l : List Int) : Int × Int := if l.all (fun a => decide (fitsP a)) = true then (if fitsP (sumI l) then (sumI l, 0) else (0, 3)) else (0, 2)
theorem sdrop (l : List Int) (i : Nat) (h : i < l.length) : l.drop i = l.getD i 0 :: l.drop (i + 1) := by
  rw [List.drop_eq_getElem_cons h, List.getD_eq_getElem?_getD, List.getElem?_eq_getElem h]; rfl
theorem and32s (x : Int) (h0 : -9223372036854775808 ≤ x) (h1 : x ≤ 9223372036854775807) : Go.bits .and .i64 x 4294967295 = x % 4294967296 := by
  show IntKind.i64.wrap ((BitVec.ofInt 64 x &&& BitVec.ofInt 64 4294967295).toNat : Int) = _
  have h2 : (BitVec.ofInt 64 4294967295).toNat = 2 ^ 32 - 1 := by decide
  rw [BitVec.toNat_and, h2, Nat.and_two_pow_sub_one_eq_mod, BitVec.toNat_ofInt, IntKind.wrap_i64]
  omega
theorem csum_go (l : List Int) (hl : l.length ≤ 1073741824) (d : Nat) : ∀ (i : Nat) (h w : Int), l.length - i = d → i ≤ l.length → -(i * 268435456) ≤ h → h ≤ i * 268435456 → 0 ≤ w → w ≤ i * 4294967296 →
    Ev (fun k => cents_Sum.l0 k l h w (l.length : Int) (i : Int)) (if (l.drop i).all (fun a => decide (fitsP a)) = true then (if fitsP (h * 4294967296 + w + sumI (l.drop i)) then (h * 4294967296 + w + sumI (l.drop i), 0) else (0, 3)) else (0, 2)) := by
  induction d with
  | zero =>
    intro i h w hd hi a1 a2 a3 a4
    refine Ev.step (fun _ => rfl) (ev_neg (by omega) ?_)
    rw [List.drop_eq_nil_of_le (show l.length ≤ i by omega)]
    show Ev _ (if fitsP (h * 4294967296 + w + 0) then (h * 4294967296 + w + 0, 0) else (0, 3))
    rw [Int.add_zero, w64i (h + w / 4294967296) (by omega) (by omega), and32s w (by omega) (by omega)]
    by_cases b1 : h + w / 4294967296 < -268435456
    · refine ev_pos b1 (ev_some ?_)
      rw [if_neg (by unfold fitsP; omega)]
    refine ev_neg b1 ?_
    by_cases b2 : h + w / 4294967296 > 268435456
    · refine ev_pos b2 (ev_some ?_)
      rw [if_neg (by unfold fitsP; omega)]
    refine ev_neg b2 ?_
    rw [w64i ((h + w / 4294967296) * 4294967296) (by omega) (by omega), w64i (_ + w % 4294967296) (by omega) (by omega), show (h + w / 4294967296) * 4294967296 + w % 4294967296 = h * 4294967296 + w by omega]
    unfold cents_fitting.f
    by_cases b3 : fitsP (h * 4294967296 + w)
    · rw [if_pos b3]; refine Ev.congr (f := fun _ => some _) (fun _ => ?_) (Ev.now _)
      rw [cfits_eq, decide_eq_true b3]; rfl
    · rw [if_neg b3]; refine Ev.congr (f := fun _ => some _) (fun _ => ?_) (Ev.now _)
      rw [cfits_eq, decide_eq_false b3]; rfl
  | succ d ih =>
    intro i h w hd hi a1 a2 a3 a4
    rw [sdrop l i (by omega)]
    refine Ev.step (fun _ => rfl) (ev_pos (by omega) (ev_pos (by omega) (ev_pos (by omega) ?_)))
    rw [show rd l (i : Int) = l.getD i 0 from rfl]
    generalize l.getD i 0 = a
    refine ev_val (cfits_eq a) ?_
    by_cases ha : fitsP a
    · refine ev_pos (by simp [ha]) ?_
      have hf : fitsP a := ha
      unfold fitsP at hf
      rw [and32s a (by omega) (by omega), w64i (h + a / 4294967296) (by omega) (by omega), w64i (w + a % 4294967296) (by omega) (by omega), w64i ((i : Int) + 1) (by omega) (by omega)]
      have := ih (i + 1) (h + a / 4294967296) (w + a % 4294967296) (by omega) (by omega) (by omega) (by omega) (by omega) (by omega)
      rw [show ((i + 1 : Nat) : Int) = (i : Int) + 1 by omega, show (h + a / 4294967296) * 4294967296 + (w + a % 4294967296) + sumI (l.drop (i + 1)) = h * 4294967296 + w + sumI (a :: l.drop (i + 1)) by simp only [sumI]; omega] at this
      rw [List.all_cons, decide_eq_true ha, Bool.true_and]
      exact this
    · refine ev_neg (by simp [ha]) (ev_some ?_)
      rw [List.all_cons, decide_eq_false ha, Bool.false_and, if_neg (by simp)]
theorem csum_ev (l : List Int) (hl : l.length ≤ 1073741824) : Ev (fun k => cents_Sum.f k l) (sumAns l) := by
  have h := csum_go l hl l.length 0 0 0 (by omega) (by omega) (by omega) (by omega) (by omega) (by omega)
  rw [List.drop_zero, show (0 : Int) * 4294967296 + 0 + sumI l = sumI l by omega] at h
  exact h
theorem same_go (a b : List Int) (hl : a.length = b.length) (hn : a.length ≤ 4611686018427387904) (d : Nat) : ∀ i : Nat, a.length - i = d → i ≤ a.length → Ev (fun k => cr02_Same.l0 k a b (i : Int)) (decide (a.drop i = b.drop i)) := by
  induction d with
  | zero =>
    intro i hd hi
    have : i = a.length := by omega
    subst this
    refine Ev.step (fun _ => rfl) (ev_neg (by omega) ?_)
    rw [List.drop_length]
    have : b.drop a.length = [] := by rw [hl, List.drop_length]
    rw [this]; simp only [decide_true]; exact Ev.now _
  | succ d ih =>
    intro i hd hi
    have hih := ih (i + 1) (by omega) (by omega)
    refine Ev.step (fun _ => rfl) (ev_pos (by omega) (ev_pos (by omega) (ev_pos (by omega) ?_)))
    rw [wsucc i (by omega)]
    simp only [rd_nat]
    rw [drop_getD a i (by omega), drop_getD b i (by omega)]
    by_cases h : a.getD i 0 = b.getD i 0
    · refine ev_pos h (ev_rw ?_ hih)
      by_cases h2 : a.drop (i + 1) = b.drop (i + 1)
      · rw [h2, h]; simp
      · rw [decide_eq_false h2]; symm; apply decide_eq_false; intro h3; exact h2 (List.cons.inj h3).2
    · refine ev_neg h (ev_some ?_)
      symm; apply decide_eq_false; intro h3; exact h (List.cons.inj h3).1
theorem same_ev (a b : List Int) (hn : a.length ≤ 4611686018427387904) : Ev (fun k => cr02_Same.f k a b) (decide (a = b)) := by
  unfold cr02_Same.f
  by_cases h : a.length = b.length
  · refine ev_pos (by omega) ?_
    have := same_go a b h hn a.length 0 (by omega) (by omega)
    simpa using this
  · refine ev_neg (by omega) (ev_some ?_)
    symm; apply decide_eq_false; intro h2; exact h (by rw [h2])
theorem same_refl (a : List Int) (hn : a.length ≤ 4611686018427387904) : Ev (fun k => cr02_Same.f k a a) true := by
  have := same_ev a a hn
  simpa using this
/-! ### resources: the check -/
theorem rdR (l : List S37) (i : Nat) : rd_T37 l (i : Int) = l.getD i z37 := rfl
theorem sumI_isum (l : List Int) : sumI l = isum l := by
  induction l with
  | nil => rfl
  | cons a l ih => simp only [sumI, isum, ih]
def rcB (x : S37) : Bool := decide (1 ≤ x.f0) && (decide (x.f0 ≤ 8) && (decide (0 ≤ x.f1) && (decide (x.f1 ≤ 9) && okMoney x.f3)))
theorem rcB_iff (x : S37) : rcB x = true ↔ 1 ≤ x.f0 ∧ x.f0 ≤ 8 ∧ 0 ≤ x.f1 ∧ x.f1 ≤ 9 ∧ okMoney x.f3 = true := by
  unfold rcB; simp only [Bool.and_eq_true, decide_eq_true_eq]
def rcErr (x : S37) : Int := if rcB x = true then (if nameOk x.f2 = true then 0 else 10) else 2
def aheadB (a b : S37) : Bool := if a.f0 = b.f0 then (if a.f1 = b.f1 then Op.bytesLess a.f2.toList b.f2.toList else decide (a.f1 < b.f1)) else decide (a.f0 < b.f0)
def aheadO : Option S37 → S37 → Bool
  | none, _ => true
  | some q, x => aheadB q x
def chkGo : Option S37 → List S37 → Int
  | _, [] => 0
  | p, x :: l => if rcErr x = 0 then (if aheadO p x = true then chkGo (some x) l else 12) else rcErr x
def centsOf (l : List S37) : List Int := l.map fun x => x.f3
def chk47 (l : List S37) : Int := if l.length > 1024 then 8 else if chkGo none l = 0 then (if isum (centsOf l) ≤ 1152921504606846976 then 0 else 3) else chkGo none l
def prevO (l : List S37) (i : Nat) : Option S37 := if i = 0 then none else some (l.getD (i - 1) z37)
theorem prevO_succ (l : List S37) (i : Nat) : prevO l (i + 1) = some (l.getD i z37) := by unfold prevO; rw [if_neg (by omega)]; rfl
theorem wmoney_eq (n : Int) : waterfall_money.f n = some (okMoney n) := by
  unfold waterfall_money.f okMoney
  by_cases h : n ≥ 0
  · rw [if_pos h, decide_eq_true (by omega : 0 ≤ n), Bool.true_and]
  · rw [if_neg h, decide_eq_false (by omega : ¬ 0 ≤ n)]; rfl
theorem ahead_eq (a b : S37) : waterfall_ahead.f a.f0 a.f1 a.f2 a.f3 b.f0 b.f1 b.f2 b.f3 = some (aheadB a b) := by
  unfold waterfall_ahead.f aheadB
  by_cases h : a.f0 = b.f0
  · rw [if_pos h, if_pos h]
    by_cases h2 : a.f1 = b.f1
    · rw [if_pos h2, if_pos h2]
    · rw [if_neg h2, if_neg h2]
  · rw [if_neg h, if_neg h]
theorem before_eq (a b : S37) : cr47_before.f a.f0 a.f1 a.f2 a.f3 b.f0 b.f1 b.f2 b.f3 = some (aheadB a b) := by
  unfold cr47_before.f aheadB
  by_cases h : a.f0 = b.f0
  · rw [if_pos h, if_pos h]
    by_cases h2 : a.f1 = b.f1
    · rw [if_pos h2, if_pos h2]
    · rw [if_neg h2, if_neg h2]
  · rw [if_neg h, if_neg h]
theorem chkGo_money : ∀ (p : Option S37) (l : List S37), chkGo p l = 0 → ∀ x ∈ l, rcErr x = 0
  | _, [], _ => by simp
  | p, x :: l, h => by
    rw [chkGo] at h
    by_cases h1 : rcErr x = 0
    · rw [if_pos h1] at h
      by_cases h2 : aheadO p x = true
      · rw [if_pos h2] at h
        intro y hy
        rcases List.mem_cons.1 hy with rfl | hy
        · exact h1
        · exact chkGo_money _ l h y hy
      · rw [if_neg h2] at h; cases h
    · rw [if_neg h1] at h; exact absurd h h1
theorem rcErr_zero (x : S37) (h : rcErr x = 0) : rcB x = true ∧ nameOk x.f2 = true := by
  unfold rcErr at h
  by_cases h1 : rcB x = true
  · rw [if_pos h1] at h
    by_cases h2 : nameOk x.f2 = true
    · exact ⟨h1, h2⟩
    · rw [if_neg h2] at h; cases h
  · rw [if_neg h1] at h; cases h
theorem sumAns_money (l : List Int) (h : ∀ x ∈ l, okMoney x = true) : (sumAns l).2 = if isum l ≤ 1152921504606846976 then 0 else 3 := by
  have h0 : 0 ≤ isum l := by
    induction l with
    | nil => simp [isum]
    | cons a l ih =>
      have := (okMoney_iff a).1 (h a (by simp)); have := ih (fun x hx => h x (by simp [hx]))
      simp only [isum]; omega
  unfold sumAns
  rw [if_pos (List.all_eq_true.2 fun x hx => decide_eq_true (show fitsP x by have := (okMoney_iff x).1 (h x hx); unfold fitsP; omega)), sumI_isum]
  by_cases hs : isum l ≤ 1152921504606846976
  · rw [if_pos hs, if_pos (by unfold fitsP; omega)]
  · rw [if_neg hs, if_neg (by unfold fitsP; omega)]
theorem rcSteps {α : Type} (x : S37) (g : Bool → Nat → Option α) (m : Int → Option Bool) (hm : m x.f3 = some (okMoney x.f3)) (r : α) (h1 : rcB x = true → Ev (g false) r) (h2 : rcB x = false → Ev (g true) r) :
    Ev (fun k => if x.f0 < 1 then g true k else if x.f0 > 8 then g true k else if x.f1 < 0 then g true k else if x.f1 > 9 then g true k else (m x.f3).bind fun t => g (!t) k) r := by
  by_cases a1 : x.f0 < 1
  · exact ev_pos a1 (h2 (by unfold rcB; rw [decide_eq_false (by omega : ¬ 1 ≤ x.f0)]; rfl))
  refine ev_neg a1 ?_
  by_cases a2 : x.f0 > 8
  · exact ev_pos a2 (h2 (by unfold rcB; rw [decide_eq_false (by omega : ¬ x.f0 ≤ 8), Bool.false_and, Bool.and_false]))
  refine ev_neg a2 ?_
  by_cases a3 : x.f1 < 0
  · exact ev_pos a3 (h2 (by unfold rcB; rw [decide_eq_false (by omega : ¬ 0 ≤ x.f1), Bool.false_and, Bool.and_false, Bool.and_false]))
  refine ev_neg a3 ?_
  by_cases a4 : x.f1 > 9
  · exact ev_pos a4 (h2 (by unfold rcB; rw [decide_eq_false (by omega : ¬ x.f1 ≤ 9), Bool.false_and, Bool.and_false, Bool.and_false, Bool.and_false]))
  refine ev_neg a4 (ev_val hm ?_)
  have e : rcB x = okMoney x.f3 := by unfold rcB; rw [decide_eq_true (by omega : 1 ≤ x.f0), decide_eq_true (by omega : x.f0 ≤ 8), decide_eq_true (by omega : 0 ≤ x.f1), decide_eq_true (by omega : x.f1 ≤ 9)]; simp
  rw [← e]
  cases hb : rcB x with
  | true => exact h1 hb
  | false => exact h2 hb
theorem wcheck_go (l : List S37) (hl : l.length ≤ 1024) : ∀ (i : Nat) (cs : List Int), i ≤ l.length → cs = centsOf (l.take i) → Ev (fun k => waterfall_Check.l0 k l cs l (l.length : Int) (i : Int)) (if chkGo (prevO l i) (l.drop i) = 0 then (sumAns (centsOf l)).2 else chkGo (prevO l i) (l.drop i)) := by
  refine ev_down (S := List Int) (g := fun k i cs => waterfall_Check.l0 k l cs l (l.length : Int) (i : Int)) (spec := fun i _ => if chkGo (prevO l i) (l.drop i) = 0 then (sumAns (centsOf l)).2 else chkGo (prevO l i) (l.drop i)) (inv := fun i cs => cs = centsOf (l.take i)) ?_ ?_
  · intro cs hcs
    subst hcs
    rw [List.take_length]
    refine Ev.step (fun _ => rfl) (ev_neg (by omega) ?_)
    refine ev_bnd (csum_ev (centsOf l) (by unfold centsOf; rw [List.length_map]; omega)) (ev_some ?_)
    rw [drop_end, chkGo, if_pos rfl]
  · intro i cs hi hcs ih
    have hlc : cs.length = i := by rw [hcs]; unfold centsOf; rw [List.length_map, List.length_take]; omega
    have ih := ih (cs ++ [(l.getD i z37).f3]) (by rw [hcs]; unfold centsOf; rw [List.take_add_one, List.map_append, List.getD_eq_getElem?_getD, List.getElem?_eq_getElem hi]; simp)
    refine Ev.step (fun _ => rfl) (ev_pos (by omega) (ev_pos (by omega) (ev_pos (by omega) ?_)))
    rw [dropD z37 l i hi, rdR, chkGo]
    rw [prevO_succ] at ih
    have hp : prevO l i = if i = 0 then none else some (l.getD (i - 1) z37) := rfl
    generalize prevO l i = P at *
    generalize l.getD i z37 = x at *
    refine rcSteps x (fun b k => waterfall_Check.j1 k l cs (i : Int) l (l.length : Int) (i : Int) b x.f0 x.f1 x.f2 x.f3) waterfall_money.f (wmoney_eq _) _ ?_ ?_
    · intro hb
      unfold rcErr
      rw [if_pos hb]
      show Ev (fun k => waterfall_Check.j1 k l cs (i : Int) l (l.length : Int) (i : Int) false x.f0 x.f1 x.f2 x.f3) _
      refine Ev.step (fun _ => by rw [waterfall_Check.j1]) ?_
      refine ev_neg (by decide) (ev_bnd (name_ev _) ?_)
      by_cases hn : nameOk x.f2 = true
      · refine ev_pos hn ?_
        rw [if_pos hn, if_pos rfl]
        by_cases h0 : i = 0
        · rw [if_pos h0] at hp
          subst hp
          refine ev_neg (by omega) (ev_pos (by omega) ?_)
          rw [wsucc i (by omega), show aheadO none x = true from rfl, if_pos rfl]
          exact ih
        · rw [if_neg h0] at hp
          subst hp
          refine ev_pos (by omega) ?_
          rw [w64id ((i : Int) - 1) (by omega) (by omega), show (i : Int) - 1 = ((i - 1 : Nat) : Int) by omega]
          refine ev_pos (by omega) (ev_pos (by omega) ?_)
          rw [rdR]
          generalize l.getD (i - 1) z37 = y
          refine ev_val (ahead_eq y x) ?_
          rw [show aheadO (some y) x = aheadB y x from rfl]
          by_cases ha : aheadB y x = true
          · refine ev_pos ha (ev_pos (by omega) ?_)
            rw [wsucc i (by omega), if_pos ha]
            exact ih
          · rw [if_neg ha]
            exact ev_neg ha (ev_some (by rw [if_neg (by decide)]))
      · rw [if_neg hn]
        exact ev_neg hn (ev_some (by rw [if_neg (show ¬ ((10 : Int) = 0) by decide), if_neg (show ¬ ((10 : Int) = 0) by decide)]))
    · intro hb
      have hb' : ¬ rcB x = true := by rw [hb]; decide
      unfold rcErr
      rw [if_neg hb']
      show Ev (fun k => waterfall_Check.j1 k l cs (i : Int) l (l.length : Int) (i : Int) true x.f0 x.f1 x.f2 x.f3) _
      refine Ev.step (fun _ => by rw [waterfall_Check.j1]) ?_
      exact ev_pos rfl (ev_some (by rw [if_neg (show ¬ ((2 : Int) = 0) by decide), if_neg (show ¬ ((2 : Int) = 0) by decide)]))
theorem wcheck_ev (l : List S37) : Ev (fun k => waterfall_Check.f k l) (chk47 l) := by
  unfold waterfall_Check.f chk47
  by_cases h : l.length > 1024
  · rw [if_pos h]; exact ev_pos (by omega) (ev_some rfl)
  · rw [if_neg h]
    refine ev_neg (by omega) ?_
    have := wcheck_go l (by omega) 0 [] (by omega) rfl
    rw [List.drop_zero, show prevO l 0 = none from rfl] at this
    by_cases hc : chkGo none l = 0
    · rw [if_pos hc] at this ⊢
      rwa [sumAns_money _ (fun x hx => by
        unfold centsOf at hx
        obtain ⟨y, hy, rfl⟩ := List.mem_map.1 hx
        exact ((rcB_iff y).1 (rcErr_zero y (chkGo_money _ _ hc y hy)).1).2.2.2.2)] at this
    · rw [if_neg hc] at this ⊢; exact this
theorem rcheck1_go (l : List S37) (hl : l.length ≤ 1024) (hm : ∀ x ∈ l, okMoney x.f3 = true) : ∀ (i : Nat) (a : Int), i ≤ l.length → (a = isum (centsOf (l.take i)) ∧ 0 ≤ a ∧ a ≤ 1152921504606846976) → Ev (fun k => cr47_Check.l1 k l a (i : Int)) (if isum (centsOf l) ≤ 1152921504606846976 then 0 else 3) := by
  have hle : ∀ i, isum (centsOf (l.take i)) ≤ isum (centsOf l) := by
    intro i
    have h := isum_take_le (centsOf l) (by
      intro a ha
      unfold centsOf at ha
      obtain ⟨y, hy, rfl⟩ := List.mem_map.1 ha
      exact ((okMoney_iff _).1 (hm y hy)).1) i
    unfold centsOf at h ⊢
    rw [← List.map_take] at h
    exact h.2
  refine ev_down (S := Int) (g := fun k i a => cr47_Check.l1 k l a (i : Int)) (spec := fun i _ => if isum (centsOf l) ≤ 1152921504606846976 then 0 else 3) (inv := fun i a => a = isum (centsOf (l.take i)) ∧ 0 ≤ a ∧ a ≤ 1152921504606846976) ?_ ?_
  · intro a ha
    rw [List.take_length] at ha
    refine Ev.step (fun _ => rfl) (ev_neg (by omega) (ev_some ?_))
    rw [if_pos (by omega)]
  · intro i a hi ha ih
    refine Ev.step (fun _ => rfl) (ev_pos (by omega) (ev_pos (by omega) ?_))
    have hx := (okMoney_iff _).1 (hm _ (getD_mem' z37 l i hi))
    have hs : isum (centsOf (l.take (i + 1))) = a + (l.getD i z37).f3 := by
      rw [ha.1]; unfold centsOf
      rw [List.take_add_one, List.map_append, List.getD_eq_getElem?_getD, List.getElem?_eq_getElem hi, isum_append]
      simp [isum]
    rw [rdR, w64id (1152921504606846976 - a) (by omega) (by omega)]
    by_cases hg : (l.getD i z37).f3 > 1152921504606846976 - a
    · refine ev_pos hg (ev_some ?_)
      have := hle (i + 1)
      rw [if_neg (by omega)]
    · refine ev_neg hg ?_
      rw [w64id (a + _) (by omega) (by omega), wsucc i (by omega)]
      exact ih _ ⟨hs.symm, by omega, by omega⟩
theorem rcheck_go (l : List S37) (hl : l.length ≤ 1024) : ∀ (i : Nat) (u : Unit), i ≤ l.length → (∀ x ∈ l.take i, rcErr x = 0) → Ev (fun k => cr47_Check.l0 k l (i : Int)) (if chkGo (prevO l i) (l.drop i) = 0 then (if isum (centsOf l) ≤ 1152921504606846976 then 0 else 3) else chkGo (prevO l i) (l.drop i)) := by
  refine ev_down (S := Unit) (g := fun k i _ => cr47_Check.l0 k l (i : Int)) (spec := fun i _ => if chkGo (prevO l i) (l.drop i) = 0 then (if isum (centsOf l) ≤ 1152921504606846976 then 0 else 3) else chkGo (prevO l i) (l.drop i)) (inv := fun i _ => ∀ x ∈ l.take i, rcErr x = 0) ?_ ?_
  · intro _ hm
    rw [List.take_length] at hm
    refine Ev.step (fun _ => rfl) (ev_neg (by omega) ?_)
    rw [drop_end, chkGo, if_pos rfl]
    exact rcheck1_go l hl (fun x hx => ((rcB_iff x).1 (rcErr_zero x (hm x hx)).1).2.2.2.2) 0 0 (by omega) ⟨rfl, by omega, by omega⟩
  · intro i _ hi hm ih
    refine Ev.step (fun _ => rfl) (ev_pos (by omega) (ev_pos (by omega) ?_))
    have ih : rcErr (l.getD i z37) = 0 → _ := fun h => ih () (by
      intro x hx
      rw [List.take_add_one, List.mem_append] at hx
      rcases hx with hx | hx
      · exact hm x hx
      · rw [List.getElem?_eq_getElem hi] at hx
        simp only [Option.toList_some, List.mem_singleton] at hx
        subst hx
        rwa [List.getD_eq_getElem?_getD, List.getElem?_eq_getElem hi] at h)
    rw [dropD z37 l i hi, rdR, chkGo]
    rw [prevO_succ] at ih
    have hp : prevO l i = if i = 0 then none else some (l.getD (i - 1) z37) := rfl
    generalize prevO l i = P at *
    generalize l.getD i z37 = x at *
    refine rcSteps x (fun b k => cr47_Check.j1 k l (i : Int) b x.f0 x.f1 x.f2 x.f3) cr02_Money.f (rmoney_val _) _ ?_ ?_
    · intro hb
      have hE : rcErr x = if nameOk x.f2 = true then 0 else 10 := by unfold rcErr; rw [if_pos hb]
      rw [hE]
      show Ev (fun k => cr47_Check.j1 k l (i : Int) false x.f0 x.f1 x.f2 x.f3) _
      refine Ev.step (fun _ => by rw [cr47_Check.j1]) ?_
      refine ev_neg (by decide) (ev_bnd (rname_ev _) ?_)
      by_cases hn : nameOk x.f2 = true
      · refine ev_pos hn ?_
        rw [hE, if_pos hn] at ih
        rw [if_pos hn, if_pos rfl]
        have ih := ih rfl
        by_cases h0 : i = 0
        · rw [if_pos h0] at hp
          subst hp
          refine ev_neg (by omega) ?_
          rw [wsucc i (by omega), show aheadO none x = true from rfl, if_pos rfl]
          exact ih
        · rw [if_neg h0] at hp
          subst hp
          refine ev_pos (by omega) ?_
          rw [w64id ((i : Int) - 1) (by omega) (by omega), show (i : Int) - 1 = ((i - 1 : Nat) : Int) by omega]
          refine ev_pos (by omega) (ev_pos (by omega) ?_)
          rw [rdR]
          generalize l.getD (i - 1) z37 = y
          refine ev_val (before_eq y x) ?_
          rw [show aheadO (some y) x = aheadB y x from rfl]
          by_cases ha : aheadB y x = true
          · refine ev_pos ha ?_
            rw [wsucc i (by omega), if_pos ha]
            exact ih
          · rw [if_neg ha]
            exact ev_neg ha (ev_some (by rw [if_neg (by decide)]))
      · rw [if_neg hn]
        exact ev_neg hn (ev_some (by rw [if_neg (show ¬ ((10 : Int) = 0) by decide), if_neg (show ¬ ((10 : Int) = 0) by decide)]))
    · intro hb
      have hb' : ¬ rcB x = true := by rw [hb]; decide
      unfold rcErr
      rw [if_neg hb']
      show Ev (fun k => cr47_Check.j1 k l (i : Int) true x.f0 x.f1 x.f2 x.f3) _
      refine Ev.step (fun _ => by rw [cr47_Check.j1]) ?_
      exact ev_pos rfl (ev_some (by rw [if_neg (show ¬ ((2 : Int) = 0) by decide), if_neg (show ¬ ((2 : Int) = 0) by decide)]))
theorem rcheck_ev (l : List S37) : Ev (fun k => cr47_Check.f k l) (chk47 l) := by
  unfold cr47_Check.f chk47
  by_cases h : l.length > 1024
  · rw [if_pos h]; exact ev_pos (by omega) (ev_some rfl)
  · rw [if_neg h]
    refine ev_neg (by omega) ?_
    have := rcheck_go l (by omega) 0 () (by omega) (by simp)
    rwa [List.drop_zero, show prevO l 0 = none from rfl] at this
/-! ### what a turn takes: all, or parted; a list with zeros around it is parted alike -/
def takeS (left : Int) (p : List Int) : List Int := if isum p ≤ left then p else (splitSpec left p).1
theorem isum_nn (l : List Int) (h : ∀ a ∈ l, 0 ≤ a) : 0 ≤ isum l := by
  have := (isum_take_le l h l.length).1
  rwa [List.take_length] at this
structure MoneyL (p : List Int) : Prop where
  ok : ∀ a ∈ p, 0 ≤ a
  top : isum p ≤ 1152921504606846976
  len : p.length ≤ 1024
theorem MoneyL.each {p : List Int} (h : MoneyL p) (a : Int) (ha : a ∈ p) : 0 ≤ a ∧ a ≤ 1152921504606846976 := ⟨h.ok a ha, Int.le_trans (mem_le_isum p h.ok a ha) h.top⟩
theorem split_val (left : Int) (p : List Int) (h0 : 0 ≤ left) (hp : MoneyL p) (hn : ¬ isum p ≤ left) : splitSpec left p = (splitParts left (isum p) p, 0) := by
  unfold splitSpec
  have ht := hp.top
  rw [if_pos ((okMoney_iff left).2 ⟨h0, by omega⟩), if_neg (by have := hp.len; omega), if_pos (by
    unfold weighedOk
    simp only [Bool.and_eq_true, decide_eq_true_eq, List.all_eq_true]
    exact ⟨fun a ha => (okMoney_iff a).2 (hp.each a ha), ht⟩), if_neg (by omega)]
theorem ceil_le (T A w : Int) (hT : 0 ≤ T) (hA : T < A) (hw : 0 ≤ w) (u : Bool) (hu : u = true → 0 < T * w % A) : 0 ≤ T * w / A + (if u = true then 1 else 0) ∧ T * w / A + (if u = true then 1 else 0) ≤ w := by
  have h1 := Int.mul_ediv_add_emod (T * w) A
  have h2 : 0 ≤ T * w / A := Int.ediv_nonneg (Int.mul_nonneg hT hw) (by omega)
  have h3 : T * w ≤ A * w := Int.mul_le_mul_of_nonneg_right (by omega) hw
  have h4 := Int.emod_nonneg (T * w) (show A ≠ 0 by omega)
  cases u with
  | false =>
    simp only [Bool.false_eq_true, if_false]
    have : A * (T * w / A) ≤ A * w := by omega
    have := Int.le_of_mul_le_mul_left this (by omega)
    omega
  | true =>
    have := hu rfl
    simp only [if_true]
    have : A * (T * w / A) < A * w := by omega
    have := Int.lt_of_mul_lt_mul_left this (by omega)
    omega
theorem take_facts (left : Int) (p : List Int) (h0 : 0 ≤ left) (hp : MoneyL p) : (takeS left p).length = p.length ∧ isum (takeS left p) = (if isum p ≤ left then isum p else left) ∧ ∀ i, i < p.length → 0 ≤ (takeS left p).getD i 0 ∧ (takeS left p).getD i 0 ≤ p.getD i 0 := by
  unfold takeS
  by_cases h : isum p ≤ left
  · rw [if_pos h, if_pos h]
    exact ⟨rfl, rfl, fun i hi => ⟨hp.ok _ (mem_getD p i hi), Int.le_refl _⟩⟩
  · rw [if_neg h, if_neg h, split_val left p h0 hp h]
    obtain ⟨s1, s2, up, s3, _⟩ := split_is left p h0 (by omega) hp.ok
    refine ⟨s1, s2, fun i hi => ?_⟩
    obtain ⟨e, hu⟩ := s3 i hi
    rw [e]
    exact ceil_le left (isum p) _ h0 (by omega) (hp.ok _ (mem_getD p i hi)) _ hu
theorem take_nn (left : Int) (p : List Int) (h0 : 0 ≤ left) (hp : MoneyL p) : ∀ a ∈ takeS left p, 0 ≤ a := by
  obtain ⟨h1, _, h3⟩ := take_facts left p h0 hp
  intro a ha
  obtain ⟨j, hj, rfl⟩ := getD_mem _ a ha
  exact (h3 j (by omega)).1
theorem total_go (l : List Int) (hn : ∀ a ∈ l, 0 ≤ a) (hs : isum l ≤ 4611686018427387904) (hl : l.length ≤ 4611686018427387904) : ∀ (i : Nat) (a : Int), i ≤ l.length → a = isum (l.take i) → Ev (fun k => waterfall_total.l0 k a l (l.length : Int) (i : Int)) (isum l) := by
  refine ev_down (S := Int) (g := fun k i a => waterfall_total.l0 k a l (l.length : Int) (i : Int)) (spec := fun _ _ => isum l) (inv := fun i a => a = isum (l.take i)) ?_ ?_
  · intro a ha
    rw [List.take_length] at ha
    exact Ev.step (fun _ => rfl) (ev_neg (by omega) (ev_some ha))
  · intro i a hi ha ih
    have h1 := isum_take_le l hn i
    have h2 := isum_take_le l hn (i + 1)
    have h3 := isum_succ l i hi
    refine Ev.step (fun _ => rfl) (ev_pos (by omega) (ev_pos (by omega) (ev_pos (by omega) ?_)))
    rw [w64id (a + _) (by omega) (by omega), wsucc i (by omega)]
    exact ih _ (by omega)
theorem total_ev (l : List Int) (hn : ∀ a ∈ l, 0 ≤ a) (hs : isum l ≤ 4611686018427387904) (hl : l.length ≤ 4611686018427387904) : Ev (fun k => waterfall_total.f k l) (isum l) := total_go l hn hs hl 0 0 (by omega) rfl
theorem takeF_ev (left : Int) (p : List Int) (h0 : 0 ≤ left) (h1 : left ≤ 1152921504606846976) (hp : MoneyL p) : Ev (fun k => takeF k left p) (takeS left p, left - isum (takeS left p)) := by
  have ht := hp.top
  have hl := hp.len
  have h2 := isum_nn p hp.ok
  obtain ⟨f1, f2, f3⟩ := take_facts left p h0 hp
  have f4 := take_nn left p h0 hp
  unfold takeF
  refine ev_bnd (total_ev p hp.ok (by omega) (by omega)) ?_
  unfold takeS at *
  by_cases h : isum p ≤ left
  · rw [if_pos h] at f1 f2 f4 ⊢
    refine ev_neg (by omega) (ev_bnd (total_ev p hp.ok (by omega) (by omega)) (ev_some ?_))
    rw [w64id _ (by omega) (by omega)]
  · rw [if_neg h] at f1 f4 f2 ⊢
    rw [if_neg h] at f2
    refine ev_pos (by omega) (ev_val (split_spec left p) ?_)
    refine ev_bnd (total_ev _ f4 (by omega) (by omega)) (ev_some ?_)
    rw [w64id _ (by omega) (by omega)]
/-! ### one split alone -/
theorem split_sub (T A : Int) (l P Q : List Int) (hP : P.length = l.length) (hQ : Q.length = l.length) (hs : isum P = isum Q) (u v : Nat → Bool)
    (eP : ∀ i, i < l.length → P.getD i 0 = T * l.getD i 0 / A + (if u i = true then 1 else 0)) (eQ : ∀ i, i < l.length → Q.getD i 0 = T * l.getD i 0 / A + (if v i = true then 1 else 0))
    (oP : ∀ i j, i < l.length → j < l.length → u i = true → u j = false → T * l.getD j 0 % A < T * l.getD i 0 % A ∨ (T * l.getD j 0 % A = T * l.getD i 0 % A ∧ i < j))
    (oQ : ∀ i j, i < l.length → j < l.length → v i = true → v j = false → T * l.getD j 0 % A < T * l.getD i 0 % A ∨ (T * l.getD j 0 % A = T * l.getD i 0 % A ∧ i < j)) (i : Nat) (hi : i < l.length) (hu : u i = true) : v i = true := by
  cases hv : v i with
  | true => rfl
  | false =>
    exfalso
    have hno : ∀ j, j < l.length → 0 ≤ P.getD j 0 - Q.getD j 0 := by
      intro j hj
      rw [eP j hj, eQ j hj]
      cases huj : u j with
      | true => cases v j <;> simp <;> omega
      | false =>
        cases hvj : v j with
        | false => simp
        | true =>
          have a1 := oP i j hi hj hu huj
          have a2 := oQ j i hj hi hvj hv
          omega
    rw [isum_sumTo, isum_sumTo, hP, hQ] at hs
    have h1 := sumTo_ge (fun j => P.getD j 0 - Q.getD j 0) l.length i hi hno
    rw [sumTo_sub] at h1
    have h2 : P.getD i 0 - Q.getD i 0 = 1 := by rw [eP i hi, eQ i hi, hu, hv]; simp; omega
    omega
theorem split_uniq (T A : Int) (l P Q : List Int) (hP : P.length = l.length) (hQ : Q.length = l.length) (hs : isum P = isum Q) (u v : Nat → Bool)
    (eP : ∀ i, i < l.length → P.getD i 0 = T * l.getD i 0 / A + (if u i = true then 1 else 0)) (eQ : ∀ i, i < l.length → Q.getD i 0 = T * l.getD i 0 / A + (if v i = true then 1 else 0))
    (oP : ∀ i j, i < l.length → j < l.length → u i = true → u j = false → T * l.getD j 0 % A < T * l.getD i 0 % A ∨ (T * l.getD j 0 % A = T * l.getD i 0 % A ∧ i < j))
    (oQ : ∀ i j, i < l.length → j < l.length → v i = true → v j = false → T * l.getD j 0 % A < T * l.getD i 0 % A ∨ (T * l.getD j 0 % A = T * l.getD i 0 % A ∧ i < j)) : P = Q := by
  refine list_ext P Q (by omega) fun i hi => ?_
  have hi : i < l.length := by omega
  rw [eP i hi, eQ i hi]
  have h1 := split_sub T A l P Q hP hQ hs u v eP eQ oP oQ i hi
  have h2 := split_sub T A l Q P hQ hP hs.symm v u eQ eP oQ oP i hi
  cases hu : u i <;> cases hv : v i <;> simp_all
/-! ### zeros around a list -/
def padL (n a : Nat) (p : List Int) : List Int := List.replicate a 0 ++ p ++ List.replicate (n - a - p.length) 0
theorem pad_len (n a : Nat) (p : List Int) (h : a + p.length ≤ n) : (padL n a p).length = n := by
  unfold padL; simp; omega
theorem isum_zeros (n : Nat) : isum (List.replicate n 0) = 0 := by
  induction n with
  | zero => rfl
  | succ n ih => rw [List.replicate_succ, isum, ih]; rfl
theorem isum_pad (n a : Nat) (p : List Int) : isum (padL n a p) = isum p := by
  unfold padL; rw [isum_append, isum_append, isum_zeros, isum_zeros]; omega
theorem pad_getD (n a : Nat) (p : List Int) (i : Nat) : (padL n a p).getD i 0 = if a ≤ i ∧ i < a + p.length then p.getD (i - a) 0 else 0 := by
  unfold padL
  simp only [List.getD_eq_getElem?_getD, List.getElem?_append, List.length_append, List.length_replicate, List.getElem?_replicate]
  by_cases h1 : i < a
  · rw [if_pos (show i < a + p.length by omega), if_neg (show ¬ (a ≤ i ∧ i < a + p.length) by omega)]
    simp [h1]
  · by_cases h2 : i < a + p.length
    · rw [if_pos h2, if_neg h1, if_pos (show a ≤ i ∧ i < a + p.length from ⟨by omega, h2⟩)]
    · rw [if_neg h2, if_neg (show ¬ (a ≤ i ∧ i < a + p.length) by omega)]
      split <;> rfl
theorem pad_mem (n a : Nat) (p : List Int) (h : ∀ x ∈ p, 0 ≤ x) : ∀ x ∈ padL n a p, 0 ≤ x := by
  intro x hx
  unfold padL at hx
  simp only [List.mem_append, List.mem_replicate] at hx
  rcases hx with (⟨_, rfl⟩ | hx) | ⟨_, rfl⟩
  · omega
  · exact h x hx
  · omega
theorem pad_money (n a : Nat) (p : List Int) (hp : MoneyL p) (h : a + p.length ≤ n) (hn : n ≤ 1024) : MoneyL (padL n a p) := ⟨pad_mem n a p hp.ok, by rw [isum_pad]; exact hp.top, by rw [pad_len n a p h]; exact hn⟩
theorem take_pad (left : Int) (n a : Nat) (p : List Int) (h0 : 0 ≤ left) (hp : MoneyL p) (h : a + p.length ≤ n) (hn : n ≤ 1024) : takeS left (padL n a p) = padL n a (takeS left p) := by
  have hpp := pad_money n a p hp h hn
  obtain ⟨f1, _, _⟩ := take_facts left p h0 hp
  unfold takeS at *
  rw [isum_pad]
  by_cases hs : isum p ≤ left
  · rw [if_pos hs, if_pos hs]
  · rw [if_neg hs] at f1
    rw [if_neg hs, if_neg hs]
    rw [split_val left p h0 hp hs] at f1 ⊢
    rw [split_val left _ h0 hpp (by rw [isum_pad]; exact hs), isum_pad]
    obtain ⟨p1, p2, u, p3, p4⟩ := split_is left (padL n a p) h0 (by rw [isum_pad]; omega) hpp.ok
    rw [isum_pad] at p1 p2 p3 p4
    obtain ⟨q1, q2, v, q3, q4⟩ := split_is left p h0 (by omega) hp.ok
    have hlen := pad_len n a p h
    refine split_uniq left (isum p) (padL n a p) _ _ p1 (by rw [pad_len n a _ (by rw [q1]; exact h), hlen]) (by rw [isum_pad, p2, q2]) u (fun i => decide (a ≤ i ∧ i < a + p.length) && v (i - a)) (fun i hi => (p3 i hi).1) ?_ p4 ?_
    · intro i hi
      rw [pad_getD, pad_getD, q1]
      by_cases hw : a ≤ i ∧ i < a + p.length
      · rw [if_pos hw, if_pos hw, decide_eq_true hw, Bool.true_and]
        exact (q3 (i - a) (by omega)).1
      · rw [if_neg hw, if_neg hw, decide_eq_false hw]
        simp
    · intro i j hi hj hvi hvj
      rw [Bool.and_eq_true, decide_eq_true_eq] at hvi
      obtain ⟨hw, hvi⟩ := hvi
      rw [pad_getD, pad_getD, if_pos hw]
      by_cases hwj : a ≤ j ∧ j < a + p.length
      · rw [decide_eq_true hwj, Bool.true_and] at hvj
        rw [if_pos hwj]
        have := q4 (i - a) (j - a) (by omega) (by omega) hvi hvj
        omega
      · rw [if_neg hwj]
        have := (q3 (i - a) (by omega)).2 hvi
        left
        simpa using this
theorem rtake_ev (left : Int) (p : List Int) (hp : MoneyL p) : Ev (fun k => cr47_take.f k left p) (takeS left p) := by
  have ht := hp.top
  have hl := hp.len
  unfold cr47_take.f takeS
  refine ev_bnd ⟨p.length + 1, fun k hk => sum_val p hp.ok (by omega) (by omega) k (by omega)⟩ ?_
  by_cases h : isum p ≤ left
  · rw [if_pos h]; exact ev_pos h (ev_some rfl)
  · rw [if_neg h]; exact ev_neg h (ev_bnd (rsplit_ev left p) (ev_some rfl))
/-! ### turns -/
def sameT (a b : S37) : Bool := decide (a.f0 = b.f0) && decide (a.f1 = b.f1)
theorem sameT_iff (a b : S37) : sameT a b = true ↔ a.f0 = b.f0 ∧ a.f1 = b.f1 := by unfold sameT; simp only [Bool.and_eq_true, decide_eq_true_eq]
theorem turn_eq (a b : S37) : cr47_Turn.f a.f0 a.f1 a.f2 a.f3 b.f0 b.f1 b.f2 b.f3 = some (sameT a b) := by
  unfold cr47_Turn.f sameT
  by_cases h : a.f0 = b.f0
  · rw [if_pos h, decide_eq_true h, Bool.true_and, Bool.beq_eq_decide_eq]
  · rw [if_neg h, decide_eq_false h]; rfl
def startB (l : List S37) (i : Nat) : Bool := decide (i = 0) || !(sameT (l.getD (i - 1) z37) (l.getD i z37))
def bndsGo (l : List S37) : Nat → Nat → List Int
  | 0, _ => [(l.length : Int)]
  | d + 1, i => if startB l i = true then (i : Int) :: bndsGo l d (i + 1) else bndsGo l d (i + 1)
def bnds (l : List S37) (i : Nat) : List Int := bndsGo l (l.length - i) i
def nbGo (l : List S37) : Nat → Nat → Nat
  | 0, _ => l.length
  | d + 1, i => if startB l i = true then i else nbGo l d (i + 1)
def nb (l : List S37) (i : Nat) : Nat := nbGo l (l.length - i) i
theorem bnds_end (l : List S37) : bnds l l.length = [(l.length : Int)] := by unfold bnds; rw [Nat.sub_self]; rfl
theorem nb_end (l : List S37) : nb l l.length = l.length := by unfold nb; rw [Nat.sub_self]; rfl
theorem bnds_step (l : List S37) (i : Nat) (h : i < l.length) : bnds l i = if startB l i = true then (i : Int) :: bnds l (i + 1) else bnds l (i + 1) := by
  unfold bnds; rw [show l.length - i = (l.length - (i + 1)) + 1 by omega]; rfl
theorem nb_step (l : List S37) (i : Nat) (h : i < l.length) : nb l i = if startB l i = true then i else nb l (i + 1) := by
  unfold nb; rw [show l.length - i = (l.length - (i + 1)) + 1 by omega]; rfl
theorem down_ind {n : Nat} {P : Nat → Prop} (h0 : P n) (hs : ∀ i, i < n → P (i + 1) → P i) : ∀ i, i ≤ n → P i := by
  intro i hi
  generalize hd : n - i = d
  induction d generalizing i with
  | zero => obtain rfl : i = n := by omega
            exact h0
  | succ d ih => exact hs i (by omega) (ih (i + 1) (by omega) (by omega))
theorem nb_facts (l : List S37) : ∀ i, i ≤ l.length → i ≤ nb l i ∧ nb l i ≤ l.length ∧ (∀ j, i ≤ j → j < nb l i → startB l j = false) ∧ (nb l i < l.length → startB l (nb l i) = true) ∧ bnds l i = (nb l i : Int) :: (if nb l i < l.length then bnds l (nb l i + 1) else []) := by
  refine down_ind ?_ ?_
  · rw [nb_end, bnds_end, if_neg (by omega)]
    exact ⟨by omega, by omega, fun j h1 h2 => by omega, fun h => by omega, rfl⟩
  · intro i hi ih
    rw [nb_step l i hi, bnds_step l i hi]
    cases hs : startB l i with
    | true =>
      simp only [if_true]
      exact ⟨by omega, by omega, fun j h1 h2 => by omega, fun _ => hs, by rw [if_pos hi]⟩
    | false =>
      simp only [Bool.false_eq_true, if_false]
      obtain ⟨a1, a2, a3, a4, a5⟩ := ih
      refine ⟨by omega, a2, fun j h1 h2 => ?_, a4, a5⟩
      by_cases hj : j = i
      · subst hj; exact hs
      · exact a3 j (by omega) h2
theorem turns_go (l : List S37) (hl : l.length ≤ 1024) : ∀ (i : Nat) (acc : List Int), i ≤ l.length → acc.length ≤ i → Ev (fun k => waterfall_turns.l0 k l acc l (l.length : Int) (i : Int)) (acc ++ bnds l i) := by
  refine ev_down (S := List Int) (g := fun k i acc => waterfall_turns.l0 k l acc l (l.length : Int) (i : Int)) (spec := fun i acc => acc ++ bnds l i) (inv := fun i acc => acc.length ≤ i) ?_ ?_
  · intro acc ha
    exact Ev.step (fun _ => rfl) (ev_neg (by omega) (ev_pos (by omega) (ev_some (by rw [bnds_end]))))
  · intro i acc hi ha ih
    refine Ev.step (fun _ => rfl) (ev_pos (by omega) (ev_pos (by omega) (ev_pos (by omega) ?_)))
    rw [bnds_step l i hi]
    have i1 := ih (acc ++ [(i : Int)]) (by rw [List.length_append, List.length_singleton]; omega)
    have i2 := ih acc (by omega)
    rw [List.append_assoc, List.singleton_append] at i1
    by_cases h0 : i = 0
    · refine ev_pos (by omega) (ev_pos (by omega) ?_)
      rw [show startB l i = true by unfold startB; rw [decide_eq_true h0]; rfl, if_pos rfl, wsucc i (by omega)]
      exact i1
    · refine ev_neg (by omega) ?_
      rw [w64id ((i : Int) - 1) (by omega) (by omega), show (i : Int) - 1 = ((i - 1 : Nat) : Int) by omega]
      refine ev_pos (by omega) (ev_pos (by omega) ?_)
      rw [rdR, rdR, wsucc i (by omega)]
      have hst : startB l i = !(sameT (l.getD (i - 1) z37) (l.getD i z37)) := by unfold startB; rw [decide_eq_false h0, Bool.false_or]
      rw [hst]
      by_cases b1 : (l.getD i z37).f0 = (l.getD (i - 1) z37).f0
      · refine ev_pos b1 ?_
        by_cases b2 : (l.getD i z37).f1 = (l.getD (i - 1) z37).f1
        · refine ev_pos b2 ?_
          rw [(sameT_iff _ _).2 ⟨b1.symm, b2.symm⟩]
          exact i2
        · refine ev_neg b2 (ev_pos (by omega) ?_)
          rw [show sameT (l.getD (i - 1) z37) (l.getD i z37) = false by rw [Bool.eq_false_iff]; intro h; exact b2 ((sameT_iff _ _).1 h).2.symm]
          exact i1
      · refine ev_neg b1 (ev_pos (by omega) ?_)
        rw [show sameT (l.getD (i - 1) z37) (l.getD i z37) = false by rw [Bool.eq_false_iff]; intro h; exact b1 ((sameT_iff _ _).1 h).1.symm]
        exact i1
theorem turns_ev (l : List S37) (hl : l.length ≤ 1024) : Ev (fun k => waterfall_turns.f k l) (bnds l 0) := turns_go l hl 0 [] (by omega) (by simp)
/-! ### the order -/
structure Rows (l : List S37) : Prop where
  len : l.length ≤ 1024
  row : ∀ i, i < l.length → rcB (l.getD i z37) = true
  top : isum (centsOf l) ≤ 1152921504606846976
  ord : ∀ i, 0 < i → i < l.length → aheadB (l.getD (i - 1) z37) (l.getD i z37) = true
theorem chkGo_ord : ∀ (p : Option S37) (l : List S37), chkGo p l = 0 → ∀ i, i < l.length → aheadO (if i = 0 then p else some (l.getD (i - 1) z37)) (l.getD i z37) = true
  | _, [], _ => by simp
  | p, x :: l, h => by
    rw [chkGo] at h
    by_cases h1 : rcErr x = 0
    · rw [if_pos h1] at h
      by_cases h2 : aheadO p x = true
      · rw [if_pos h2] at h
        intro i hi
        cases i with
        | zero => exact h2
        | succ i =>
          have := chkGo_ord _ l h i (by simpa using hi)
          rw [if_neg (by omega)]
          cases i with
          | zero => exact this
          | succ i => rw [if_neg (by omega)] at this; exact this
      · rw [if_neg h2] at h; cases h
    · rw [if_neg h1] at h; exact absurd h h1
theorem chk_rows (l : List S37) (h : chk47 l = 0) : Rows l := by
  unfold chk47 at h
  by_cases h1 : l.length > 1024
  · rw [if_pos h1] at h; cases h
  · rw [if_neg h1] at h
    by_cases h2 : chkGo none l = 0
    · rw [if_pos h2] at h
      by_cases h3 : isum (centsOf l) ≤ 1152921504606846976
      · refine ⟨by omega, fun i hi => (rcErr_zero _ (chkGo_money _ _ h2 _ (getD_mem' z37 l i hi))).1, h3, fun i h0 hi => ?_⟩
        have := chkGo_ord none l h2 i hi
        rwa [if_neg (by omega)] at this
      · rw [if_neg h3] at h; cases h
    · rw [if_neg h2] at h; exact absurd h h2
def keyT (x : S37) : Int := x.f0 * 16 + x.f1
theorem same_key (a b : S37) (ha : rcB a = true) (hb : rcB b = true) : sameT a b = true ↔ keyT a = keyT b := by
  have h1 := (rcB_iff a).1 ha
  have h2 := (rcB_iff b).1 hb
  rw [sameT_iff]; unfold keyT; omega
theorem ahead_key (a b : S37) (ha : rcB a = true) (hb : rcB b = true) (h : aheadB a b = true) : keyT a ≤ keyT b := by
  have h1 := (rcB_iff a).1 ha
  have h2 := (rcB_iff b).1 hb
  unfold aheadB at h
  unfold keyT
  by_cases c1 : a.f0 = b.f0
  · rw [if_pos c1] at h
    by_cases c2 : a.f1 = b.f1
    · omega
    · rw [if_neg c2] at h; have := of_decide_eq_true h; omega
  · rw [if_neg c1] at h; have := of_decide_eq_true h; omega
theorem Rows.mono {l : List S37} (R : Rows l) (i : Nat) : ∀ j, i ≤ j → j < l.length → keyT (l.getD i z37) ≤ keyT (l.getD j z37) := by
  intro j hij hj
  induction j with
  | zero => obtain rfl : i = 0 := by omega
            exact Int.le_refl _
  | succ j ih =>
    by_cases h : i = j + 1
    · subst h; exact Int.le_refl _
    · have h1 := ih (by omega) (by omega)
      have h2 := ahead_key _ _ (R.row j (by omega)) (R.row (j + 1) hj) (R.ord (j + 1) (by omega) hj)
      omega
theorem start_key {l : List S37} (R : Rows l) (i : Nat) (h0 : 0 < i) (hi : i < l.length) : startB l i = true ↔ keyT (l.getD (i - 1) z37) < keyT (l.getD i z37) := by
  have h1 := R.mono (i - 1) i (by omega) hi
  have h2 := same_key _ _ (R.row (i - 1) (by omega)) (R.row i hi)
  unfold startB
  rw [decide_eq_false (by omega : ¬ i = 0), Bool.false_or, Bool.not_eq_true']
  rw [Bool.eq_false_iff, ne_eq, h2]; omega
/-- who is of the turn that begins at i -/
theorem turn_at {l : List S37} (R : Rows l) (i : Nat) (hi : i < l.length) (hs : startB l i = true) (j : Nat) (hj : j < l.length) : sameT (l.getD j z37) (l.getD i z37) = true ↔ i ≤ j ∧ j < nb l (i + 1) := by
  rw [same_key _ _ (R.row j hj) (R.row i hi)]
  obtain ⟨n1, n2, n3, n4, _⟩ := nb_facts l (i + 1) (by omega)
  constructor
  · intro h
    constructor
    · by_cases hji : i ≤ j
      · exact hji
      · have h1 := (start_key R i (by omega) hi).1 hs
        have h2 := R.mono j (i - 1) (by omega) (by omega)
        omega
    · by_cases hb : j < nb l (i + 1)
      · exact hb
      · have h1 := (start_key R (nb l (i + 1)) (by omega) (by omega)).1 (n4 (by omega))
        have h2 := R.mono (nb l (i + 1)) j (by omega) hj
        have h3 := R.mono i (nb l (i + 1) - 1) (by omega) (by omega)
        omega
  · rintro ⟨h1, h2⟩
    clear hj
    induction j with
    | zero => obtain rfl : i = 0 := by omega
              rfl
    | succ j ih =>
      by_cases h : i = j + 1
      · subst h; rfl
      · have ih := ih (by omega) (by omega)
        have h3 := n3 (j + 1) (by omega) h2
        have h4 := (start_key R (j + 1) (by omega) (by omega))
        rw [h3] at h4
        have h5 := R.mono j (j + 1) (by omega) (by omega)
        have h6 : ¬ keyT (l.getD (j + 1 - 1) z37) < keyT (l.getD (j + 1) z37) := fun h => by cases h4.2 h
        rw [show j + 1 - 1 = j by omega] at h6
        omega
/-! ### losses, turn by turn -/
theorem isum_drop (l : List Int) (a : Nat) : isum l = isum (l.take a) + isum (l.drop a) := by
  rw [← isum_append, List.take_append_drop]
theorem piece_len (has : List Int) (a b : Nat) (h : b ≤ has.length) : ((has.take b).drop a).length = b - a := by
  rw [List.length_drop, List.length_take]; omega
theorem piece_getD (has : List Int) (a b j : Nat) (h : j < b - a) : ((has.take b).drop a).getD j 0 = has.getD (a + j) 0 := by
  rw [List.getD_eq_getElem?_getD, List.getD_eq_getElem?_getD, List.getElem?_drop, List.getElem?_take, if_pos (by omega)]
theorem piece_money (has : List Int) (hm : MoneyL has) (a b : Nat) : MoneyL ((has.take b).drop a) := by
  have hok : ∀ x ∈ has.take b, 0 ≤ x := fun x hx => hm.ok x (List.mem_of_mem_take hx)
  refine ⟨fun x hx => hok x (List.mem_of_mem_drop hx), ?_, ?_⟩
  · have h1 := isum_drop (has.take b) a
    have h2 := (isum_take_le _ hok a).1
    have h3 := (isum_take_le has hm.ok b).2
    have h4 := hm.top
    omega
  · rw [List.length_drop, List.length_take]; have := hm.len; omega
theorem overlay_len (out p : List Int) (a : Nat) (h : a + p.length ≤ out.length) : (overlay out a p).length = out.length := by
  unfold overlay; simp; omega
theorem overlay_getD (out p : List Int) (a : Nat) (h : a + p.length ≤ out.length) (i : Nat) : (overlay out a p).getD i 0 = if a ≤ i ∧ i < a + p.length then p.getD (i - a) 0 else out.getD i 0 := by
  unfold overlay
  simp only [List.getD_eq_getElem?_getD, List.getElem?_append, List.length_append, List.length_take, List.getElem?_take, List.getElem?_drop]
  rw [show min a out.length = a by omega]
  by_cases h1 : i < a
  · rw [if_pos (show i < a + p.length by omega), if_neg (show ¬ (a ≤ i ∧ i < a + p.length) by omega), if_pos h1, if_pos h1]
  · by_cases h2 : i < a + p.length
    · rw [if_pos h2, if_neg h1, if_pos (show a ≤ i ∧ i < a + p.length from ⟨by omega, h2⟩)]
    · rw [if_neg h2, if_neg (show ¬ (a ≤ i ∧ i < a + p.length) by omega), show a + p.length + (i - (a + p.length)) = i by omega]
theorem rd_set_tab (l : List S37) (n : Nat) (hn : n = l.length) : centsOf l = tab n (fun j => (l.getD j z37).f3) := by
  subst hn
  refine list_ext _ _ (by unfold centsOf; rw [List.length_map, tab_len]) fun i hi => ?_
  unfold centsOf at hi ⊢
  rw [List.length_map] at hi
  rw [tab_getD _ _ _ hi, List.getD_eq_getElem?_getD, List.getElem?_map, List.getElem?_eq_getElem hi, List.getD_eq_getElem?_getD, List.getElem?_eq_getElem hi]; rfl
theorem cents_getD (l : List S37) (i : Nat) (hi : i < l.length) : (centsOf l).getD i 0 = (l.getD i z37).f3 := by
  rw [rd_set_tab l _ rfl, tab_getD _ _ _ hi]
theorem cents_len (l : List S37) : (centsOf l).length = l.length := by unfold centsOf; rw [List.length_map]
theorem Rows.money {l : List S37} (R : Rows l) : MoneyL (centsOf l) := by
  refine ⟨fun a ha => ?_, R.top, by rw [cents_len]; exact R.len⟩
  obtain ⟨j, hj, rfl⟩ := getD_mem _ a ha
  rw [cents_len] at hj
  rw [cents_getD l j hj]
  exact ((okMoney_iff _).1 ((rcB_iff _).1 (R.row j hj)).2.2.2.2).1
/-! ### the document's loop -/
def partF (l : List S37) (m : List Int) (at_ : Nat) (j : Nat) : Int := if sameT (l.getD j z37) (l.getD at_ z37) = true then m.getD j 0 else 0
theorem rpart_go (l : List S37) (m : List Int) (a : Nat) (hl : l.length ≤ 1024) (hm : m.length = l.length) (ha : a < l.length) : ∀ (i : Nat) (acc : List Int), i ≤ l.length → acc = tab i (partF l m a) → Ev (fun k => cr47_part.l0 k l m (a : Int) acc (i : Int)) (tab l.length (partF l m a)) := by
  refine ev_down (S := List Int) (g := fun k i acc => cr47_part.l0 k l m (a : Int) acc (i : Int)) (spec := fun _ _ => tab l.length (partF l m a)) (inv := fun i acc => acc = tab i (partF l m a)) ?_ ?_
  · intro acc h
    exact Ev.step (fun _ => rfl) (ev_neg (by omega) (ev_some h))
  · intro i acc hi h ih
    have ih := ih _ (show tab i (partF l m a) ++ [partF l m a i] = _ by rw [tab_succ])
    refine Ev.step (fun _ => rfl) (ev_pos (by omega) (ev_pos (by omega) (ev_pos (by omega) (ev_pos (by omega) ?_))))
    rw [rdR, rdR, wsucc i (by omega), rd_nat, h]
    refine ev_val (turn_eq _ _) ?_
    unfold partF at ih
    by_cases hs : sameT (l.getD i z37) (l.getD a z37) = true
    · rw [if_pos hs] at ih
      exact ev_pos hs (ev_pos (by omega) (ev_pos (by rw [tab_len]; omega) ih))
    · rw [if_neg hs] at ih
      exact ev_neg hs (ev_pos (by rw [tab_len]; omega) ih)
theorem rpart_ev (l : List S37) (m : List Int) (a : Nat) (hl : l.length ≤ 1024) (hm : m.length = l.length) (ha : a < l.length) : Ev (fun k => cr47_part.f k l m (a : Int)) (tab l.length (partF l m a)) := rpart_go l m a hl hm ha 0 [] (by omega) rfl
theorem part_pad {l : List S37} (R : Rows l) (m : List Int) (hm : m.length = l.length) (i : Nat) (hi : i < l.length) (hs : startB l i = true) : tab l.length (partF l m i) = padL l.length i ((m.take (nb l (i + 1))).drop i) := by
  obtain ⟨n1, n2, _⟩ := nb_facts l (i + 1) (by omega)
  have hpl := piece_len m i (nb l (i + 1)) (by omega)
  refine list_ext _ _ (by rw [tab_len, pad_len _ _ _ (by omega)]) fun j hj => ?_
  rw [tab_len] at hj
  rw [tab_getD _ _ _ hj, pad_getD, hpl]
  unfold partF
  have ht := turn_at R i hi hs j hj
  by_cases h : i ≤ j ∧ j < nb l (i + 1)
  · rw [if_pos (ht.2 h), if_pos (by omega), piece_getD _ _ _ _ (by omega), show i + (j - i) = j by omega]
  · rw [if_neg (fun e => h (ht.1 e)), if_neg (by omega)]
theorem plus_overlay (out t : List Int) (n i : Nat) (hn : out.length = n) (h : i + t.length ≤ n) (hz : ∀ j, i ≤ j → j < i + t.length → out.getD j 0 = 0) : tab out.length (fun j => out.getD j 0 + (padL n i t).getD j 0) = overlay out i t := by
  refine list_ext _ _ (by rw [tab_len, overlay_len _ _ _ (by omega)]) fun j hj => ?_
  rw [tab_len] at hj
  rw [tab_getD _ _ _ hj, pad_getD, overlay_getD _ _ _ (by omega)]
  by_cases hw : i ≤ j ∧ j < i + t.length
  · rw [if_pos hw, if_pos hw, hz j hw.1 hw.2, Int.zero_add]
  · rw [if_neg hw, if_neg hw, Int.add_zero]
structure AbsInv (n z : Nat) (out : List Int) (left : Int) : Prop where
  len : out.length = n
  l0 : 0 ≤ left
  l1 : left ≤ 1152921504606846976
  row : ∀ j, j < n → 0 ≤ out.getD j 0 ∧ out.getD j 0 ≤ 1152921504606846976
  zero : ∀ j, z ≤ j → out.getD j 0 = 0
theorem AbsInv.step {n a b : Nat} {out p : List Int} {left : Int} (I : AbsInv n a out left) (hp : MoneyL p) (hpl : p.length = b - a) (hab : a < b) (hb : b ≤ n) : AbsInv n b (overlay out a (takeS left p)) (left - isum (takeS left p)) := by
  obtain ⟨f1, f2, f3⟩ := take_facts left p I.l0 hp
  have f4 := isum_nn _ (take_nn left p I.l0 hp)
  have f5 := isum_nn p hp.ok
  have hl := I.len
  have h0 := I.l0
  have h1 := I.l1
  refine ⟨by rw [overlay_len _ _ _ (by omega)]; exact hl, by split at f2 <;> omega, by omega, fun j hj => ?_, fun j hj => ?_⟩
  · rw [overlay_getD _ _ _ (by omega)]
    by_cases hw : a ≤ j ∧ j < a + (takeS left p).length
    · rw [if_pos hw]
      have := f3 (j - a) (by omega)
      have := hp.each _ (mem_getD p (j - a) (by omega))
      omega
    · rw [if_neg hw]; exact I.row j hj
  · rw [overlay_getD _ _ _ (by omega), if_neg (by omega)]
    exact I.zero j (by omega)
theorem rplus_go (a b : List Int) (hl : a.length ≤ 1024) (hb : b.length = a.length) (ha : ∀ j, j < a.length → 0 ≤ a.getD j 0 ∧ a.getD j 0 ≤ 1152921504606846976) (hc : ∀ j, j < a.length → 0 ≤ b.getD j 0 ∧ b.getD j 0 ≤ 1152921504606846976) : ∀ (i : Nat) (acc : List Int), i ≤ a.length → acc = tab i (fun j => a.getD j 0 + b.getD j 0) → Ev (fun k => cr47_plus.l0 k a b acc (i : Int)) (tab a.length (fun j => a.getD j 0 + b.getD j 0)) := by
  refine ev_down (S := List Int) (g := fun k i acc => cr47_plus.l0 k a b acc (i : Int)) (spec := fun _ _ => tab a.length (fun j => a.getD j 0 + b.getD j 0)) (inv := fun i acc => acc = tab i (fun j => a.getD j 0 + b.getD j 0)) ?_ ?_
  · intro acc h
    exact Ev.step (fun _ => rfl) (ev_neg (by omega) (ev_some h))
  · intro i acc hi h ih
    have h1 := ha i hi
    have h2 := hc i hi
    refine Ev.step (fun _ => rfl) (ev_pos (by omega) (ev_pos (by omega) (ev_pos (by omega) (ev_pos (by rw [h, tab_len]; omega) ?_))))
    rw [wsucc i (by omega), rd_nat, rd_nat, w64id _ (by omega) (by omega)]
    exact ih _ (by rw [h, tab_succ])
theorem rplus_ev (a b : List Int) (hl : a.length ≤ 1024) (hb : b.length = a.length) (ha : ∀ j, j < a.length → 0 ≤ a.getD j 0 ∧ a.getD j 0 ≤ 1152921504606846976) (hc : ∀ j, j < a.length → 0 ≤ b.getD j 0 ∧ b.getD j 0 ≤ 1152921504606846976) : Ev (fun k => cr47_plus.f k a b) (tab a.length (fun j => a.getD j 0 + b.getD j 0)) := rplus_go a b hl hb ha hc 0 [] (by omega) rfl
/-! ### may numbers be what was paid? -/
def badFrom (l : List S37) (paid : List Int) : Nat → Nat → Bool
  | 0, _ => false
  | d + 1, i => (decide (paid.getD i 0 < 0) || decide (paid.getD i 0 > (l.getD i z37).f3)) || badFrom l paid d (i + 1)
def right47 (l : List S37) (paid : List Int) : Int := if chk47 l = 0 then (if paid.length = l.length then (if badFrom l paid l.length 0 = true then 2 else 0) else 2) else chk47 l
theorem bad_not (l : List S37) (paid : List Int) : ∀ d i, badFrom l paid d i = false → ∀ j, i ≤ j → j < i + d → 0 ≤ paid.getD j 0 ∧ paid.getD j 0 ≤ (l.getD j z37).f3
  | 0, i, _, j, h1, h2 => by omega
  | d + 1, i, h, j, h1, h2 => by
    rw [badFrom, Bool.or_eq_false_iff, Bool.or_eq_false_iff, decide_eq_false_iff_not, decide_eq_false_iff_not] at h
    by_cases hj : j = i
    · subst hj; omega
    · exact bad_not l paid d (i + 1) h.2 j (by omega) (by omega)
structure Paid (l : List S37) (paid : List Int) : Prop extends Rows l where
  plen : paid.length = l.length
  each : ∀ j, j < l.length → 0 ≤ paid.getD j 0 ∧ paid.getD j 0 ≤ (l.getD j z37).f3
theorem right_paid (l : List S37) (paid : List Int) (h : right47 l paid = 0) : Paid l paid := by
  unfold right47 at h
  by_cases h1 : chk47 l = 0
  · rw [if_pos h1] at h
    by_cases h2 : paid.length = l.length
    · rw [if_pos h2] at h
      cases h3 : badFrom l paid l.length 0 with
      | true => rw [h3, if_pos rfl] at h; cases h
      | false => exact { toRows := chk_rows l h1, plen := h2, each := fun j hj => bad_not l paid _ _ h3 j (by omega) (by omega) }
    · rw [if_neg h2] at h; cases h
  · rw [if_neg h1] at h; exact absurd h h1
theorem wbad_go (l : List S37) (paid : List Int) (hl : l.length ≤ 1024) (hp : paid.length = l.length) : ∀ (i : Nat) (u : Unit), i ≤ l.length → True → Ev (fun k => waterfall_check.l0 k l paid (paid.length : Int) (i : Int)) (if badFrom l paid (l.length - i) i = true then 2 else 0) := by
  refine ev_down (S := Unit) (g := fun k i _ => waterfall_check.l0 k l paid (paid.length : Int) (i : Int)) (spec := fun i _ => if badFrom l paid (l.length - i) i = true then 2 else 0) (inv := fun _ _ => True) ?_ ?_
  · intro _ _
    refine Ev.step (fun _ => by rw [waterfall_check.l0]) ?_
    exact ev_neg (by omega) (ev_some (by rw [Nat.sub_self]; rfl))
  · intro i _ hi _ ih
    have ih := ih () trivial
    refine Ev.step (fun _ => by rw [waterfall_check.l0]) ?_
    refine ev_pos (by omega) (ev_pos (by omega) (ev_pos (by omega) ?_))
    rw [show l.length - i = (l.length - (i + 1)) + 1 by omega, badFrom, rdR, rd_nat, wsucc i (by omega)]
    by_cases h1 : paid.getD i 0 < 0
    · exact ev_pos h1 (ev_some (by rw [decide_eq_true h1]; rfl))
    · refine ev_neg h1 (ev_pos (by omega) ?_)
      rw [decide_eq_false h1, Bool.false_or]
      by_cases h2 : paid.getD i 0 > (l.getD i z37).f3
      · exact ev_pos h2 (ev_some (by rw [decide_eq_true h2]; rfl))
      · rw [decide_eq_false h2, Bool.false_or]
        exact ev_neg h2 ih
theorem wcheckp_ev (l : List S37) (paid : List Int) (n : Int) : Ev (fun k => waterfall_check.f k l paid n) (if chk47 l = 0 then (if okMoney n = true then right47 l paid else 2) else chk47 l) := by
  unfold waterfall_check.f
  refine ev_bnd (wcheck_ev l) ?_
  by_cases hc : chk47 l = 0
  · rw [if_pos hc]
    have hl := (chk_rows l hc).len
    refine ev_pos hc (ev_val (wmoney_eq n) ?_)
    by_cases hm : okMoney n = true
    · rw [if_pos hm]
      refine ev_pos hm ?_
      refine Ev.step (fun _ => by rw [waterfall_check.j0]) ?_
      unfold right47
      rw [if_pos hc]
      by_cases hp : paid.length = l.length
      · rw [if_pos hp]
        refine ev_neg (by simp [hp]) ?_
        exact wbad_go l paid hl hp 0 () (by omega) trivial
      · rw [if_neg hp]
        exact ev_pos (by simp; omega) (ev_some rfl)
    · rw [if_neg hm]
      refine ev_neg hm ?_
      exact Ev.step (fun _ => by rw [waterfall_check.j0]) (ev_pos rfl (ev_some rfl))
  · rw [if_neg hc]; exact ev_neg hc (ev_some rfl)
theorem rbad_go (l : List S37) (paid : List Int) (hl : l.length ≤ 1024) (hp : paid.length = l.length) : ∀ (i : Nat) (u : Unit), i ≤ l.length → True → Ev (fun k => cr47_right.l0 k l paid (i : Int)) (if badFrom l paid (l.length - i) i = true then 2 else 0) := by
  refine ev_down (S := Unit) (g := fun k i _ => cr47_right.l0 k l paid (i : Int)) (spec := fun i _ => if badFrom l paid (l.length - i) i = true then 2 else 0) (inv := fun _ _ => True) ?_ ?_
  · intro _ _
    refine Ev.step (fun _ => by rw [cr47_right.l0]) ?_
    exact ev_neg (by omega) (ev_some (by rw [Nat.sub_self]; rfl))
  · intro i _ hi _ ih
    have ih := ih () trivial
    refine Ev.step (fun _ => by rw [cr47_right.l0]) ?_
    refine ev_pos (by omega) (ev_pos (by omega) (ev_pos (by omega) ?_))
    rw [show l.length - i = (l.length - (i + 1)) + 1 by omega, badFrom, rdR, rd_nat, wsucc i (by omega)]
    by_cases h1 : paid.getD i 0 < 0
    · exact ev_pos h1 (ev_some (by rw [decide_eq_true h1]; rfl))
    · refine ev_neg h1 ?_
      rw [decide_eq_false h1, Bool.false_or]
      by_cases h2 : paid.getD i 0 > (l.getD i z37).f3
      · exact ev_pos h2 (ev_some (by rw [decide_eq_true h2]; rfl))
      · rw [decide_eq_false h2, Bool.false_or]
        exact ev_neg h2 ih
theorem rright_ev (l : List S37) (paid : List Int) : Ev (fun k => cr47_right.f k l paid) (right47 l paid) := by
  unfold cr47_right.f right47
  refine ev_bnd (rcheck_ev l) ?_
  by_cases hc : chk47 l = 0
  · rw [if_pos hc]
    refine ev_pos hc ?_
    by_cases hp : paid.length = l.length
    · rw [if_pos hp]
      refine ev_pos (by omega) ?_
      exact rbad_go l paid (chk_rows l hc).len hp 0 () (by omega) trivial
    · rw [if_neg hp]; exact ev_neg (by omega) (ev_some rfl)
  · rw [if_neg hc]; exact ev_neg hc (ev_some rfl)
theorem money0 : okMoney 0 = true := by decide
theorem right_chk (l : List S37) (paid : List Int) : (if chk47 l = 0 then (if okMoney 0 = true then right47 l paid else 2) else chk47 l) = right47 l paid := by
  by_cases h : chk47 l = 0
  · rw [if_pos h, if_pos money0]
  · rw [if_neg h]; unfold right47; rw [if_neg h]
theorem Paid.money {l : List S37} {paid : List Int} (F : Paid l paid) : MoneyL paid := by
  have hc := F.toRows.money
  refine ⟨fun a ha => ?_, ?_, by rw [F.plen]; exact F.len⟩
  · obtain ⟨j, hj, rfl⟩ := getD_mem _ a ha
    exact (F.each j (by rw [← F.plen]; exact hj)).1
  · have := sumTo_le (fun j => paid.getD j 0) (fun j => (centsOf l).getD j 0) l.length (fun j hj => by rw [cents_getD l j hj]; exact (F.each j hj).2)
    rw [← F.plen, ← isum_sumTo, F.plen, ← cents_len l, ← isum_sumTo] at this
    have := hc.top
    omega
theorem paid_row {l : List S37} {paid : List Int} (F : Paid l paid) (i : Nat) (hi : i < l.length) : 0 ≤ paid.getD i 0 ∧ paid.getD i 0 ≤ (l.getD i z37).f3 ∧ 0 ≤ (l.getD i z37).f3 ∧ (l.getD i z37).f3 ≤ 1152921504606846976 := by
  have h1 := (okMoney_iff _).1 ((rcB_iff _).1 (F.row i hi)).2.2.2.2
  have h2 := F.each i hi
  omega
/-! ### what is left of resources -/
def leftL (l : List S37) (paid : List Int) : Nat → Nat → List S37
  | 0, _ => []
  | d + 1, i => if (l.getD i z37).f3 > paid.getD i 0 then ⟨(l.getD i z37).f0, (l.getD i z37).f1, (l.getD i z37).f2, (l.getD i z37).f3 - paid.getD i 0⟩ :: leftL l paid d (i + 1) else leftL l paid d (i + 1)
theorem leftL_len (l : List S37) (paid : List Int) : ∀ d i, (leftL l paid d i).length ≤ d
  | 0, _ => by simp [leftL]
  | d + 1, i => by
    rw [leftL]; have := leftL_len l paid d (i + 1)
    split
    · rw [List.length_cons]; omega
    · omega
theorem wleft_go {l : List S37} {paid : List Int} (F : Paid l paid) : ∀ (i : Nat) (acc : List S37), i ≤ l.length → acc.length ≤ i → Ev (fun k => waterfall_Left.l0 k paid acc l (l.length : Int) (i : Int)) (acc ++ leftL l paid (l.length - i) i, 0) := by
  have hl := F.len
  have hp := F.plen
  refine ev_down (S := List S37) (g := fun k i acc => waterfall_Left.l0 k paid acc l (l.length : Int) (i : Int)) (spec := fun i acc => (acc ++ leftL l paid (l.length - i) i, (0 : Int))) (inv := fun i acc => acc.length ≤ i) ?_ ?_
  · intro acc _
    refine Ev.step (fun _ => by rw [waterfall_Left.l0]) ?_
    exact ev_neg (by omega) (ev_some (by rw [Nat.sub_self]; simp [leftL]))
  · intro i acc hi ha ih
    have hr := paid_row F i hi
    refine Ev.step (fun _ => by rw [waterfall_Left.l0]) ?_
    refine ev_pos (by omega) (ev_pos (by omega) (ev_pos (by omega) (ev_pos (by omega) ?_)))
    rw [show l.length - i = (l.length - (i + 1)) + 1 by omega, leftL, rdR, rd_nat, wsucc i (by omega)]
    by_cases h : (l.getD i z37).f3 > paid.getD i 0
    · refine ev_pos h (ev_pos (by omega) ?_)
      rw [if_pos h, w64id _ (by omega) (by omega)]
      have := ih (acc ++ [⟨(l.getD i z37).f0, (l.getD i z37).f1, (l.getD i z37).f2, (l.getD i z37).f3 - paid.getD i 0⟩]) (by rw [List.length_append, List.length_singleton]; omega)
      rwa [List.append_assoc, List.singleton_append] at this
    · rw [if_neg h]
      exact ev_neg h (ih acc (by omega))
theorem rleft_go {l : List S37} {paid : List Int} (F : Paid l paid) : ∀ (i : Nat) (acc : List S37), i ≤ l.length → acc.length ≤ i → Ev (fun k => cr47_Left.l0 k l paid acc (i : Int)) (acc ++ leftL l paid (l.length - i) i, 0) := by
  have hl := F.len
  have hp := F.plen
  refine ev_down (S := List S37) (g := fun k i acc => cr47_Left.l0 k l paid acc (i : Int)) (spec := fun i acc => (acc ++ leftL l paid (l.length - i) i, (0 : Int))) (inv := fun i acc => acc.length ≤ i) ?_ ?_
  · intro acc _
    refine Ev.step (fun _ => by rw [cr47_Left.l0]) ?_
    exact ev_neg (by omega) (ev_some (by rw [Nat.sub_self]; simp [leftL]))
  · intro i acc hi ha ih
    have hr := paid_row F i hi
    refine Ev.step (fun _ => by rw [cr47_Left.l0]) ?_
    refine ev_pos (by omega) (ev_pos (by omega) (ev_pos (by omega) ?_))
    rw [show l.length - i = (l.length - (i + 1)) + 1 by omega, leftL, rdR, rd_nat, wsucc i (by omega), w64id _ (by omega) (by omega)]
    by_cases h : (l.getD i z37).f3 > paid.getD i 0
    · refine ev_pos (by omega) (ev_pos (by omega) ?_)
      rw [if_pos h]
      have := ih (acc ++ [⟨(l.getD i z37).f0, (l.getD i z37).f1, (l.getD i z37).f2, (l.getD i z37).f3 - paid.getD i 0⟩]) (by rw [List.length_append, List.length_singleton]; omega)
      rwa [List.append_assoc, List.singleton_append] at this
    · rw [if_neg h]
      exact ev_neg (by omega) (ih acc (by omega))
def leftAns (l : List S37) (paid : List Int) : List S37 × Int := if right47 l paid = 0 then (leftL l paid l.length 0, 0) else ([], right47 l paid)
theorem left_ev (l : List S37) (paid : List Int) : Ev (fun k => waterfall_Left.f k l paid) (leftAns l paid) := by
  unfold waterfall_Left.f leftAns
  have h := wcheckp_ev l paid 0
  rw [right_chk] at h
  refine ev_bnd h ?_
  by_cases hr : right47 l paid = 0
  · rw [if_pos hr]; exact ev_pos hr (wleft_go (right_paid l paid hr) 0 [] (by omega) (by simp))
  · rw [if_neg hr]; exact ev_neg hr (ev_some rfl)
theorem rleft_ev (l : List S37) (paid : List Int) : Ev (fun k => cr47_Left.f k l paid) (leftAns l paid) := by
  unfold cr47_Left.f leftAns
  refine ev_bnd (rright_ev l paid) ?_
  by_cases hr : right47 l paid = 0
  · rw [if_pos hr]; exact ev_pos hr (rleft_go (right_paid l paid hr) 0 [] (by omega) (by simp))
  · rw [if_neg hr]; exact ev_neg hr (ev_some rfl)
theorem leftAns_len (l : List S37) (paid : List Int) : (leftAns l paid).1.length ≤ l.length := by
  unfold leftAns
  split
  · exact leftL_len l paid _ _
  · simp
/-! ### what comes back, the last turn first -/
def bdB (l : List S37) (q : Nat) : Bool := decide (q = l.length) || startB l q
def psC (l : List S37) : Nat → Nat × Nat
  | 0 => (0, 0)
  | q + 1 => if bdB l (q + 1) = true then (q + 1, (psC l q).2 + 1) else psC l q
def bp (l : List S37) : Nat → List Int
  | 0 => [0]
  | q + 1 => if bdB l (q + 1) = true then bp l q ++ [((q + 1 : Nat) : Int)] else bp l q
theorem bp_len (l : List S37) : ∀ q, (bp l q).length = (psC l q).2 + 1
  | 0 => rfl
  | q + 1 => by
    have ih := bp_len l q
    rw [bp, psC]
    split
    · rw [List.length_append, List.length_singleton, ih]
    · exact ih
theorem bp_at (l : List S37) : ∀ q, (bp l q).getD (psC l q).2 0 = ((psC l q).1 : Int)
  | 0 => rfl
  | q + 1 => by
    have ih := bp_at l q
    have hl := bp_len l q
    rw [bp, psC]
    by_cases h : bdB l (q + 1) = true
    · rw [if_pos h, if_pos h, List.getD_eq_getElem?_getD, List.getElem?_append, if_neg (by rw [hl]; simp), hl]; simp
    · rw [if_neg h, if_neg h]; exact ih
theorem bp_pre (l : List S37) : ∀ q, q < l.length → bnds l 0 = bp l q ++ bnds l (q + 1)
  | 0, h => by rw [bnds_step l 0 h, show startB l 0 = true from rfl, if_pos rfl]; rfl
  | q + 1, h => by
    rw [bp_pre l q (by omega), bnds_step l (q + 1) h, bp]
    have hb : bdB l (q + 1) = startB l (q + 1) := by unfold bdB; rw [decide_eq_false (by omega), Bool.false_or]
    rw [hb]
    cases startB l (q + 1) with
    | true => simp
    | false => simp
theorem bp_all (l : List S37) : bnds l 0 = bp l l.length := by
  by_cases h : l.length = 0
  · have : bnds l 0 = bnds l l.length := by rw [h]
    rw [this, bnds_end, h]; rfl
  · obtain ⟨m, hm⟩ : ∃ m, l.length = m + 1 := ⟨l.length - 1, by omega⟩
    rw [bp_pre l m (by omega), ← hm, bnds_end, hm, bp, if_pos (by unfold bdB; rw [decide_eq_true hm.symm]; rfl)]
theorem bnds_at (l : List S37) (q : Nat) (h : q ≤ l.length) : rd (bnds l 0) ((psC l q).2 : Int) = ((psC l q).1 : Int) := by
  rw [rd_nat, ← bp_at l q]
  by_cases hq : q < l.length
  · rw [bp_pre l q hq, List.getD_eq_getElem?_getD, List.getElem?_append, if_pos (by rw [bp_len]; omega), ← List.getD_eq_getElem?_getD]
  · rw [show q = l.length by omega, ← bp_all]
theorem ps_facts (l : List S37) : ∀ q, (psC l q).1 ≤ q ∧ (bdB l (psC l q).1 = true ∨ (psC l q).1 = 0) ∧ ∀ j, (psC l q).1 < j → j ≤ q → bdB l j = false
  | 0 => ⟨by simp [psC], .inr rfl, fun j h1 h2 => by omega⟩
  | q + 1 => by
    obtain ⟨h1, h2, h3⟩ := ps_facts l q
    rw [psC]
    cases hb : bdB l (q + 1) with
    | true =>
      simp only [if_true]
      exact ⟨by omega, .inl hb, fun j h1 h2 => by omega⟩
    | false =>
      simp only [Bool.false_eq_true, if_false]
      refine ⟨by omega, h2, fun j h4 h5 => ?_⟩
      by_cases hj : j = q + 1
      · subst hj; exact hb
      · exact h3 j h4 (by omega)
def retS (has at_ : List Int) : Nat → List Int → Int → List Int × Int
  | 0, out, left => (out, left)
  | i + 1, out, left => if 0 < left then retS has at_ i (overlay out (rd at_ (i : Int)).toNat (takeS left ((has.take (rd at_ ((i : Int) + 1)).toNat).drop (rd at_ (i : Int)).toNat))) (left - isum (takeS left ((has.take (rd at_ ((i : Int) + 1)).toNat).drop (rd at_ (i : Int)).toNat))) else (out, left)
theorem retS_stop (has at_ out : List Int) (left : Int) (h : ¬ 0 < left) : ∀ i, retS has at_ i out left = (out, left)
  | 0 => rfl
  | i + 1 => by rw [retS, if_neg h]
structure RetInv (n z : Nat) (out : List Int) (left : Int) : Prop where
  len : out.length = n
  l0 : 0 ≤ left
  l1 : left ≤ 1152921504606846976
  row : ∀ j, j < n → 0 ≤ out.getD j 0 ∧ out.getD j 0 ≤ 1152921504606846976
  zero : ∀ j, j < z → out.getD j 0 = 0
theorem RetInv.step {n a b : Nat} {out p : List Int} {left : Int} (I : RetInv n b out left) (hp : MoneyL p) (hpl : p.length = b - a) (hab : a < b) (hb : b ≤ n) : RetInv n a (overlay out a (takeS left p)) (left - isum (takeS left p)) := by
  obtain ⟨f1, f2, f3⟩ := take_facts left p I.l0 hp
  have f4 := isum_nn _ (take_nn left p I.l0 hp)
  have f5 := isum_nn p hp.ok
  have hl := I.len
  have h0 := I.l0
  have h1 := I.l1
  refine ⟨by rw [overlay_len _ _ _ (by omega)]; exact hl, by split at f2 <;> omega, by omega, fun j hj => ?_, fun j hj => ?_⟩
  · rw [overlay_getD _ _ _ (by omega)]
    by_cases hw : a ≤ j ∧ j < a + (takeS left p).length
    · rw [if_pos hw]
      have := f3 (j - a) (by omega)
      have := hp.each _ (mem_getD p (j - a) (by omega))
      omega
    · rw [if_neg hw]; exact I.row j hj
  · rw [overlay_getD _ _ _ (by omega), if_neg (by omega)]
    exact I.zero j (by omega)
/-- the turn that ends ahead of q -/
theorem last_turn {l : List S37} (R : Rows l) (q : Nat) (hq : q < l.length) (hb : bdB l (q + 1) = true) : startB l (psC l q).1 = true ∧ nb l ((psC l q).1 + 1) = q + 1 := by
  obtain ⟨h1, h2, h3⟩ := ps_facts l q
  have hs : startB l (psC l q).1 = true := by
    rcases h2 with h2 | h2
    · unfold bdB at h2; rw [decide_eq_false (by omega), Bool.false_or] at h2; exact h2
    · rw [h2]; rfl
  refine ⟨hs, ?_⟩
  obtain ⟨n1, n2, n3, n4, _⟩ := nb_facts l ((psC l q).1 + 1) (by omega)
  by_cases c1 : nb l ((psC l q).1 + 1) < q + 1
  · have a1 := n4 (by omega)
    have a2 := h3 _ (by omega) (show nb l ((psC l q).1 + 1) ≤ q by omega)
    unfold bdB at a2; rw [Bool.or_eq_false_iff] at a2; rw [a1] at a2; cases a2.2
  · by_cases c2 : q + 1 < nb l ((psC l q).1 + 1)
    · have a1 := n3 (q + 1) (by omega) c2
      unfold bdB at hb; rw [decide_eq_false (by omega), Bool.false_or, a1] at hb; cases hb
    · omega
theorem part_pad_last {l : List S37} (R : Rows l) (m : List Int) (hm : m.length = l.length) (q : Nat) (hq : q < l.length) (hb : bdB l (q + 1) = true) : tab l.length (partF l m q) = padL l.length (psC l q).1 ((m.take (q + 1)).drop (psC l q).1) := by
  obtain ⟨hs, hn⟩ := last_turn R q hq hb
  have h1 := (ps_facts l q).1
  have hp := part_pad R m hm (psC l q).1 (by omega) hs
  rw [hn] at hp
  rw [← hp]
  refine tab_congr _ _ _ fun j hj => ?_
  unfold partF
  have e1 := turn_at R (psC l q).1 (by omega) hs q hq
  rw [hn] at e1
  have e2 := e1.2 ⟨h1, by omega⟩
  have k1 := (same_key _ _ (R.row q hq) (R.row (psC l q).1 (by omega))).1 e2
  have k2 : sameT (l.getD j z37) (l.getD q z37) = sameT (l.getD j z37) (l.getD (psC l q).1 z37) := by
    rw [Bool.eq_iff_iff, same_key _ _ (R.row j hj) (R.row q hq), same_key _ _ (R.row j hj) (R.row (psC l q).1 (by omega)), k1]
  rw [k2]
theorem ps_idem (l : List S37) : ∀ q, psC l (psC l q).1 = psC l q
  | 0 => rfl
  | q + 1 => by
    have ih := ps_idem l q
    by_cases h : bdB l (q + 1) = true
    · have e : psC l (q + 1) = (q + 1, (psC l q).2 + 1) := by rw [psC, if_pos h]
      rw [e]; exact e
    · have e : psC l (q + 1) = psC l q := by rw [psC, if_neg h]
      rw [e]; exact ih
theorem retGo_ev {l : List S37} (R : Rows l) (has : List Int) (hm : MoneyL has) (hlen : has.length = l.length) : ∀ (q : Nat) (out : List Int) (left : Int), q ≤ l.length → bdB l q = true ∨ q = 0 → out.length = l.length → 0 ≤ left → left ≤ 1152921504606846976 → Ev (fun k => retGo k has (bnds l 0) (psC l q).2 out left) (retS has (bnds l 0) (psC l q).2 out left) := by
  intro q
  induction q using Nat.strongRecOn with
  | ind q ih =>
    intro out left hq hb ho h0 h1
    cases q with
    | zero => exact ev_some rfl
    | succ q =>
      have hb : bdB l (q + 1) = true := by rcases hb with hb | hb; exact hb; omega
      obtain ⟨p1, p2, _⟩ := ps_facts l q
      have e1 := bnds_at l (q + 1) hq
      have e0 := bnds_at l q (by omega)
      rw [psC, if_pos hb] at e1 ⊢
      simp only at e1 ⊢
      rw [show (((psC l q).2 + 1 : Nat) : Int) = ((psC l q).2 : Int) + 1 by omega] at e1
      simp only [retGo, retS]
      by_cases hl : 0 < left
      · rw [if_pos hl]
        refine ev_pos hl ?_
        rw [e1, e0, Int.toNat_natCast, Int.toNat_natCast]
        refine ev_pos ⟨by omega, by omega, by omega, by omega⟩ ?_
        have hp := piece_money has hm (psC l q).1 (q + 1)
        have hpl := piece_len has (psC l q).1 (q + 1) (by omega)
        generalize (has.take (q + 1)).drop (psC l q).1 = p at *
        obtain ⟨f1, f2, f3⟩ := take_facts left p h0 hp
        have f4 := isum_nn _ (take_nn left p h0 hp)
        have f5 := isum_nn p hp.ok
        refine ev_bnd (takeF_ev left p h0 h1 hp) (ev_pos (by simp only; omega) ?_)
        have hstep := ih (psC l q).1 (by omega) (overlay out (psC l q).1 (takeS left p)) (left - isum (takeS left p)) (by omega) p2 (by rw [overlay_len _ _ _ (by omega), ho]) (by split at f2 <;> omega) (by omega)
        have hc : (psC l (psC l q).1).2 = (psC l q).2 := by rw [ps_idem]
        rwa [hc] at hstep
      · rw [if_neg hl]; exact ev_neg hl (ev_some rfl)
theorem rret_go {l : List S37} {paid : List Int} (F : Paid l paid) : ∀ (q : Nat) (out : List Int) (left : Int), q ≤ l.length → RetInv l.length (psC l q).1 out left → Ev (fun k => cr47_Return.l0 k l paid out left ((q : Int) - 1)) ((retS paid (bnds l 0) (psC l q).2 out left).1, (retS paid (bnds l 0) (psC l q).2 out left).2, 0) := by
  have hl := F.len
  intro q
  induction q with
  | zero =>
    intro out left _ I
    refine Ev.step (fun _ => by rw [cr47_Return.l0]) ?_
    refine ev_neg (by omega) ?_
    refine Ev.step (fun _ => by rw [cr47_Return.j2]) ?_
    exact ev_neg (by decide) (ev_some rfl)
  | succ q ih =>
    intro out left hq I
    rw [show ((q + 1 : Nat) : Int) - 1 = (q : Int) by omega]
    refine Ev.step (fun _ => by rw [cr47_Return.l0]) ?_
    refine ev_pos (by omega) ?_
    refine Ev.step (fun _ => by rw [cr47_Return.j2]) ?_
    by_cases hpos : 0 < left
    · refine ev_pos (by simpa using hpos) ?_
      rw [wsucc q (by omega)]
      have key : Ev (fun k => cr47_Return.j3 k l paid out left (q : Int) (!bdB l (q + 1))) ((retS paid (bnds l 0) (psC l (q + 1)).2 out left).1, (retS paid (bnds l 0) (psC l (q + 1)).2 out left).2, 0) := by
        cases hb : bdB l (q + 1) with
        | false =>
          have e : psC l (q + 1) = psC l q := by rw [psC, if_neg (by rw [hb]; decide)]
          rw [e] at I ⊢
          refine Ev.step (fun _ => by rw [cr47_Return.j3]) ?_
          refine ev_pos (by decide) ?_
          rw [w64id ((q : Int) - 1) (by omega) (by omega)]
          exact ih out left (by omega) I
        | true =>
          have e : psC l (q + 1) = (q + 1, (psC l q).2 + 1) := by rw [psC, if_pos hb]
          have e1 := bnds_at l (q + 1) hq
          have e0 := bnds_at l q (by omega)
          have p1 := (ps_facts l q).1
          rw [e] at I e1 ⊢
          simp only at I e1 ⊢
          rw [show (((psC l q).2 + 1 : Nat) : Int) = ((psC l q).2 : Int) + 1 by omega] at e1
          have hpm := piece_money paid F.money (psC l q).1 (q + 1)
          have hpl := piece_len paid (psC l q).1 (q + 1) (by rw [F.plen]; omega)
          have hpp := part_pad_last F.toRows paid F.plen q (by omega) hb
          rw [retS, if_pos hpos, e1, e0, Int.toNat_natCast, Int.toNat_natCast]
          generalize (paid.take (q + 1)).drop (psC l q).1 = p at *
          obtain ⟨f1, f2, f3⟩ := take_facts left p I.l0 hpm
          have f4 := isum_nn _ (take_nn left p I.l0 hpm)
          have I2 := I.step hpm hpl (by omega) hq
          have hmp := pad_money l.length (psC l q).1 p hpm (by omega) hl
          refine Ev.step (fun _ => by rw [cr47_Return.j3]) ?_
          refine ev_neg (by decide) (ev_bnd (rpart_ev l paid q hl F.plen (by omega)) ?_)
          rw [hpp]
          refine ev_bnd (rtake_ev left _ hmp) ?_
          rw [take_pad left l.length (psC l q).1 p I.l0 hpm (by omega) hl]
          have htl : (padL l.length (psC l q).1 (takeS left p)).length = l.length := pad_len _ _ _ (by omega)
          have htn := take_nn left p I.l0 hpm
          have hple := isum_nn p hpm.ok
          have hpt := hpm.top
          have hts : isum (takeS left p) ≤ 1152921504606846976 := by split at f2 <;> omega
          refine ev_bnd (rplus_ev out (padL l.length (psC l q).1 (takeS left p)) (by rw [I.len]; exact hl) (by rw [htl, I.len]) (fun j hj => I.row j (by rw [← I.len]; exact hj)) (fun j hj => ?_)) ?_
          · have h1 := pad_mem l.length (psC l q).1 _ htn _ (mem_getD _ j (by rw [htl, ← I.len]; exact hj))
            have h2 := mem_le_isum _ (pad_mem l.length (psC l q).1 _ htn) _ (mem_getD _ j (by rw [htl, ← I.len]; exact hj))
            rw [isum_pad] at h2
            exact ⟨h1, by omega⟩
          · refine ev_bnd ⟨l.length + 1, fun k hk => sum_val (padL l.length (psC l q).1 (takeS left p)) (pad_mem _ _ _ htn) (by rw [isum_pad]; omega) (by rw [htl]; omega) k (by rw [htl]; omega)⟩ ?_
            rw [isum_pad, plus_overlay out (takeS left p) l.length (psC l q).1 I.len (by omega) (fun j h1 h2 => I.zero j (by omega)), w64id (left - _) (by have := I.l0; omega) (by have := I.l1; omega), w64id ((q : Int) - 1) (by omega) (by omega)]
            exact ih _ _ (by omega) I2
      by_cases hend : q + 1 < l.length
      · refine ev_pos (by omega) (ev_pos (by omega) (ev_pos (by omega) (ev_pos (by omega) ?_)))
        rw [rdR, rdR]
        refine ev_val (turn_eq _ _) ?_
        rwa [show (!bdB l (q + 1)) = sameT (l.getD q z37) (l.getD (q + 1) z37) by unfold bdB startB; rw [decide_eq_false (by omega), decide_eq_false (by omega), Bool.false_or, Bool.false_or, Bool.not_not]; rfl] at key
      · refine ev_neg (by omega) ?_
        rwa [show bdB l (q + 1) = true by unfold bdB; rw [decide_eq_true (by omega)]; rfl] at key
    · refine ev_neg (by simpa using hpos) (ev_some ?_)
      rw [retS_stop _ _ _ _ hpos]
def retAns (n : Int) (l : List S37) (paid : List Int) : List Int × Int × Int := if chk47 l = 0 then (if okMoney n = true ∧ right47 l paid = 0 then ((retS paid (bnds l 0) (psC l l.length).2 (List.replicate l.length 0) n).1, (retS paid (bnds l 0) (psC l l.length).2 (List.replicate l.length 0) n).2, 0) else ([], 0, 2)) else ([], 0, chk47 l)
theorem retInv0 (n z : Nat) (loss : Int) (h0 : 0 ≤ loss) (h1 : loss ≤ 1152921504606846976) : RetInv n z (List.replicate n 0) loss := by
  have hz : ∀ j, (List.replicate n (0 : Int)).getD j 0 = 0 := by
    intro j
    rw [List.getD_eq_getElem?_getD, List.getElem?_replicate]; split <;> rfl
  exact ⟨List.length_replicate, h0, h1, fun j _ => by rw [hz j]; omega, fun j _ => hz j⟩
theorem rreturn_ev (n : Int) (l : List S37) (paid : List Int) : Ev (fun k => cr47_Return.f k n l paid) (retAns n l paid) := by
  unfold cr47_Return.f retAns
  refine ev_bnd (rcheck_ev l) ?_
  by_cases hc : chk47 l = 0
  · rw [if_pos hc]
    have hl := (chk_rows l hc).len
    refine ev_pos hc (ev_val (rmoney_val n) ?_)
    by_cases hm : okMoney n = true
    · refine ev_pos hm (ev_bnd (rright_ev l paid) ?_)
      refine Ev.step (fun _ => by rw [cr47_Return.j0]) ?_
      by_cases hr : right47 l paid = 0
      · rw [if_pos ⟨hm, hr⟩]
        have F := right_paid l paid hr
        have hm2 := (okMoney_iff n).1 hm
        refine ev_neg (by simp [hr]) (ev_pos (by omega) (ev_pos (by rw [Int.toNat_natCast]; omega) ?_))
        rw [Int.toNat_natCast, w64id ((l.length : Int) - 1) (by omega) (by omega)]
        exact rret_go F l.length (List.replicate l.length 0) n (by omega) (retInv0 _ _ n hm2.1 hm2.2)
      · rw [if_neg (fun h => hr h.2)]
        exact ev_pos (by simp [hr]) (ev_some rfl)
    · rw [if_neg (fun h => hm h.1)]
      refine ev_neg hm ?_
      refine Ev.step (fun _ => by rw [cr47_Return.j0]) ?_
      exact ev_pos rfl (ev_some rfl)
  · rw [if_neg hc]; exact ev_neg hc (ev_some rfl)
theorem bnds_len (l : List S37) : (bnds l 0).length = (psC l l.length).2 + 1 := by rw [bp_all, bp_len]
theorem ps_le (l : List S37) : ∀ q, (psC l q).2 ≤ q
  | 0 => by simp [psC]
  | q + 1 => by
    have := ps_le l q
    rw [psC]; split
    · simp only; omega
    · omega
theorem right_two (l : List S37) (paid : List Int) (hc : chk47 l = 0) (h : right47 l paid ≠ 0) : right47 l paid = 2 := by
  unfold right47 at *
  rw [if_pos hc] at *
  by_cases h2 : paid.length = l.length
  · rw [if_pos h2] at *
    cases h3 : badFrom l paid l.length 0 with
    | true => rfl
    | false => rw [h3] at h; simp at h
  · rw [if_neg h2]
theorem return_ev (n : Int) (l : List S37) (paid : List Int) : Ev (fun k => waterfall_Return.f k n l paid) (retAns n l paid) := by
  unfold waterfall_Return.f retAns
  refine ev_bnd (wcheckp_ev l paid n) ?_
  by_cases hc : chk47 l = 0
  · rw [if_pos hc, if_pos hc]
    have hl := (chk_rows l hc).len
    by_cases hm : okMoney n = true
    · rw [if_pos hm]
      by_cases hr : right47 l paid = 0
      · rw [if_pos ⟨hm, hr⟩]
        have F := right_paid l paid hr
        have hm2 := (okMoney_iff n).1 hm
        have h1 := bnds_len l
        have h2 := ps_le l l.length
        refine ev_pos hr (ev_pos hl (ev_bnd (turns_ev l hl) (ev_pos (by omega) ?_)))
        rw [h1, Nat.add_sub_cancel]
        refine ev_bnd (retGo_ev F.toRows paid F.money F.plen l.length _ n (by omega) (.inl (by unfold bdB; rw [decide_eq_true rfl]; rfl)) List.length_replicate hm2.1 hm2.2) (ev_some rfl)
      · rw [if_neg (fun h => hr h.2), right_two l paid hc hr]
        exact ev_neg (by decide) (ev_some rfl)
    · rw [if_neg hm, if_neg (fun h => hm h.1)]
      exact ev_neg (by decide) (ev_some rfl)
  · rw [if_neg hc, if_neg hc]; exact ev_neg hc (ev_some rfl)
theorem retS_len (has : List Int) (hm : MoneyL has) (l : List S37) (hlen : has.length = l.length) : ∀ (q : Nat) (out : List Int) (left : Int), q ≤ l.length → bdB l q = true ∨ q = 0 → out.length = l.length → 0 ≤ left → (retS has (bnds l 0) (psC l q).2 out left).1.length = l.length := by
  intro q
  induction q using Nat.strongRecOn with
  | ind q ih =>
    intro out left hq hb ho h0
    cases q with
    | zero => exact ho
    | succ q =>
      have hb : bdB l (q + 1) = true := by rcases hb with hb | hb; exact hb; omega
      obtain ⟨p1, p2, _⟩ := ps_facts l q
      have e1 := bnds_at l (q + 1) hq
      have e0 := bnds_at l q (by omega)
      rw [psC, if_pos hb] at e1 ⊢
      simp only at e1 ⊢
      rw [show (((psC l q).2 + 1 : Nat) : Int) = ((psC l q).2 : Int) + 1 by omega] at e1
      simp only [retS]
      by_cases hl : 0 < left
      · rw [if_pos hl]
        rw [e1, e0, Int.toNat_natCast, Int.toNat_natCast]
        have hp := piece_money has hm (psC l q).1 (q + 1)
        have hpl := piece_len has (psC l q).1 (q + 1) (by omega)
        generalize (has.take (q + 1)).drop (psC l q).1 = p at *
        obtain ⟨f1, f2, f3⟩ := take_facts left p h0 hp
        have hstep := ih (psC l q).1 (by omega) (overlay out (psC l q).1 (takeS left p)) (left - isum (takeS left p)) (by omega) p2 (by rw [overlay_len _ _ _ (by omega), ho]) (by split at f2 <;> omega)
        rwa [ps_idem] at hstep
      · rw [if_neg hl]; exact ho
theorem retAns_len (n : Int) (l : List S37) (paid : List Int) : (retAns n l paid).1.length ≤ 1024 := by
  unfold retAns
  by_cases hc : chk47 l = 0
  · rw [if_pos hc]
    by_cases h : okMoney n = true ∧ right47 l paid = 0
    · rw [if_pos h]
      have F := right_paid l paid h.2
      simp only
      rw [retS_len paid F.money l F.plen l.length _ n (by omega) (.inl (by unfold bdB; rw [decide_eq_true rfl]; rfl)) List.length_replicate ((okMoney_iff n).1 h.1).1]
      exact F.len
    · rw [if_neg h]; simp
  · rw [if_neg hc]; simp
theorem same47_go (a b : List S37) (hl : a.length = b.length) (hn : a.length ≤ 4611686018427387904) (he : a = b) : ∀ (i : Nat) (u : Unit), i ≤ a.length → True → Ev (fun k => cr47_Same.l0 k a b (i : Int)) true := by
  subst he
  refine ev_down (S := Unit) (g := fun k i _ => cr47_Same.l0 k a a (i : Int)) (spec := fun i _ => true) (inv := fun _ _ => True) ?_ ?_
  · intro _ _
    exact Ev.step (fun _ => rfl) (ev_neg (by omega) (ev_some rfl))
  · intro i _ hi _ ih
    have ih := ih () trivial
    refine Ev.step (fun _ => rfl) (ev_pos (by omega) (ev_pos (by omega) (ev_pos (by omega) (ev_neg (by simp) ?_))))
    rw [wsucc i (by omega)]; exact ih
theorem same47_refl (a : List S37) (hn : a.length ≤ 4611686018427387904) : Ev (fun k => cr47_Same.f k a a) true := by
  unfold cr47_Same.f
  exact ev_pos (by rfl) (same47_go a a rfl hn rfl 0 () (by omega) trivial)
def fewB (l : List S37) : Bool := decide (l.length ≤ 100) || (decide (l.length > 1024) && decide (l.length ≤ 1100))
theorem few_eq (l : List S37) : cl47_few.f l = some (fewB l) := by
  unfold cl47_few.f fewB
  by_cases h : l.length ≤ 100
  · rw [if_pos (by omega), decide_eq_true h]; rfl
  · rw [if_neg (by omega), decide_eq_false h, Bool.false_or]
    by_cases h2 : l.length > 1024
    · rw [if_pos (by omega), decide_eq_true h2, Bool.true_and]
      congr 1; exact decide_eq_decide.2 (by omega)
    · rw [if_neg (by omega), decide_eq_false h2]; rfl
theorem few_len (l : List S37) (h : fewB l = true) : l.length ≤ 1100 := by
  unfold fewB at h
  simp only [Bool.or_eq_true, Bool.and_eq_true, decide_eq_true_eq] at h
  omega
theorem goes47 : Ev (fun k => cl47_goes.f k) true := Ev.of (fun k => cl47_goes.mono k) (k := 600) (by decide +kernel)
theorem goes47t : Ev (fun k => (cl47_goes.f k).bind fun t => some t) true := ev_bnd goes47 (ev_some rfl)
theorem WaterfallReturns : ∀ (a0 : Int) (l1 : List (S37)) (l2 : List Int), (Lit.int .i64 a0).wf = true → l1.length ≤ maxLen → (∀ x0 ∈ l1, (Lit.int .i64 x0.f0).wf = true ∧ (Lit.int .i64 x0.f1).wf = true ∧ x0.f2.size ≤ maxLen ∧ (Lit.int .i64 x0.f3).wf = true) → l2.length ≤ maxLen → (∀ x0 ∈ l2, (Lit.int .i64 x0).wf = true) → ∃ k, cl47_WaterfallReturns.f k a0 l1 l2 = some true := by
  intro n l paid _ _ _ _ _
  refine Ev.rounds ?_
  unfold cl47_WaterfallReturns.f
  refine ev_val (few_eq l) ?_
  have hend : Ev (fun k => cl47_WaterfallReturns.j0 k n l paid true) true := by
    refine Ev.step (fun _ => by rw [cl47_WaterfallReturns.j0]) ?_
    exact ev_pos rfl goes47t
  by_cases hf : fewB l = true
  · have hl := few_len l hf
    refine ev_pos hf ?_
    by_cases hp : (paid.length : Int) > 1100
    · rw [decide_eq_true hp]; exact hend
    · rw [decide_eq_false hp]
      refine Ev.step (fun _ => by rw [cl47_WaterfallReturns.j0]) ?_
      refine ev_neg (by decide) (ev_val rfl (ev_pos (by simp only [List.length_nil]; omega) (ev_val rfl ?_)))
      rw [List.nil_append]
      refine ev_bnd (return_ev n l paid) (ev_bnd (rreturn_ev n l paid) (ev_bnd (left_ev l paid) (ev_bnd (rleft_ev l paid) ?_)))
      refine ev_bnd (same_refl _ (by have := retAns_len n l paid; omega)) (ev_pos rfl (ev_pos rfl (ev_pos rfl ?_)))
      refine ev_bnd (same47_refl _ (by have := leftAns_len l paid; omega)) (ev_pos rfl (ev_pos rfl ?_))
      exact ev_bnd (same_refl _ (by omega)) (ev_pos rfl goes47t)
  · exact ev_neg hf hend
end Go.Proofs.Ytfogpifjpnonnaa.Pure
