/- The pure statement of the law WireTexts, proved: plain Lean over numbers and lists, no program in sight. -/
import Derived.Test.YtnimfimcpjmbnaaPWireTextsx5
namespace Go.Proofs.Ytnimfimcpjmbnaa.Pure
open Go.RowKit Go.Proofs.Ytnimfimcpjmbnaa.PWireTexts Go.Proofs.YtnimfimcpjmbnaaW.PrintWords Go.Proofs.YtnimfimcpjmbnaaW.PrintLast
/-! ### from some number of rounds on: steps -/
theorem ev_pos {α : Type} {c : Prop} [Decidable c] {a b : Nat → Option α} {r : α} (h : c) (k : Ev a r) : Ev (fun n => if c then a n else b n) r := Ev.congr (fun _ => if_pos h) k
theorem ev_neg {α : Type} {c : Prop} [Decidable c] {a b : Nat → Option α} {r : α} (h : ¬ c) (k : Ev b r) : Ev (fun n => if c then a n else b n) r := Ev.congr (fun _ => if_neg h) k
theorem ev_val {α β : Type} {g : Option α} {f : Nat → α → Option β} {a : α} {r : β} (h : g = some a) (k : Ev (fun n => f n a) r) : Ev (fun n => g.bind (f n)) r := by
  subst h; exact k
theorem ev_some {α : Type} {x r : α} (h : x = r) : Ev (fun _ => some x) r := h ▸ Ev.now x
theorem ev_rw {α : Type} {g : Nat → Option α} {r s : α} (h : r = s) (k : Ev g r) : Ev g s := h ▸ k
theorem wsucc (i : Nat) (h : i ≤ 4611686018427387904) : wrap64 ((i : Int) + 1) = ((i + 1 : Nat) : Int) := by
  unfold wrap64; omega
theorem rd_nat (l : List Int) (i : Nat) : rd l (i : Int) = l.getD i 0 := rfl
theorem w64p (x : Int) (h : -9223372036854775808 ≤ x) (h2 : x ≤ 9223372036854775807) : wrap64 x = x := by
  unfold wrap64; omega
theorem pow128 (f : Nat) : (128 : Int) ^ (f + 1) = 128 * 128 ^ f := by rw [Int.pow_succ]; omega
theorem wcode_facts (f : Nat) : ∀ u : Int, 0 ≤ u → u < 128 ^ (f + 1) → ∀ rest : List Int,
    stopAt (wcode f u ++ rest) + 1 = (wcode f u).length ∧ uval (wcode f u) = u ∧ (wcode f u).length ≤ f + 1 ∧
    0 ≤ (wcode f u).getD ((wcode f u).length - 1) 0 ∧ (1 < (wcode f u).length → 0 < (wcode f u).getD ((wcode f u).length - 1) 0) ∧
    (wcode f u).getD ((wcode f u).length - 1) 0 * 128 ^ ((wcode f u).length - 1) ≤ u ∧ (∀ c ∈ wcode f u, 0 ≤ c ∧ c ≤ 255) := by
  induction f with
  | zero =>
    intro u h0 h1 rest
    have h2 : u < 128 := by simpa using h1
    simp [wcode, stopAt, uval, h2]
    omega
  | succ f ih =>
    intro u h0 h1 rest
    by_cases h : u > 127
    · have hp := pow128 (f + 1)
      rw [hp] at h1
      obtain ⟨a1, a2, a3, a4, a5, a6, a7⟩ := ih (u / 128) (by omega) (by omega) rest
      have hw : wcode (f + 1) u = (u % 128 + 128) :: wcode f (u / 128) := by simp [wcode, h]
      have hpos := (wcode_len f (u / 128)).1
      have hlast : ((u % 128 + 128) :: wcode f (u / 128)).getD (((u % 128 + 128) :: wcode f (u / 128)).length - 1) 0 = (wcode f (u / 128)).getD ((wcode f (u / 128)).length - 1) 0 := by
        rw [List.length_cons, Nat.add_sub_cancel]
        obtain ⟨m, hm⟩ : ∃ m, (wcode f (u / 128)).length = m + 1 := ⟨(wcode f (u / 128)).length - 1, by omega⟩
        rw [hm]; simp
      rw [hw, hlast]
      refine ⟨?_, ?_, ?_, a4, ?_, ?_, ?_⟩
      · rw [List.cons_append, stopAt, if_neg (by omega), List.length_cons, a1]
      · rw [uval, a2]; omega
      · rw [List.length_cons]; omega
      · intro _
        by_cases h5 : 1 < (wcode f (u / 128)).length
        · exact a5 h5
        · have h6 : (wcode f (u / 128)).length = 1 := by omega
          rw [h6] at a6 ⊢
          have : uval (wcode f (u / 128)) = u / 128 := a2
          match hq : wcode f (u / 128), h6 with
          | [c], _ =>
            rw [hq] at this a7
            have h7 := a7 c (by simp)
            simp [uval] at this
            simp only [Nat.sub_self, List.getD_cons_zero]
            omega
      · rw [List.length_cons, Nat.add_sub_cancel]
        obtain ⟨m, hm⟩ : ∃ m, (wcode f (u / 128)).length = m + 1 := ⟨(wcode f (u / 128)).length - 1, by omega⟩
        rw [hm] at a6 ⊢
        rw [Nat.add_sub_cancel] at a6
        rw [Nat.add_sub_cancel, pow128]
        generalize (wcode f (u / 128)).getD m 0 = x at *
        generalize (128 : Int) ^ m = y at *
        have : x * (128 * y) = 128 * (x * y) := by rw [← Int.mul_assoc, Int.mul_comm x 128, Int.mul_assoc]
        rw [this]; omega
      · intro c hc
        rcases List.mem_cons.1 hc with rfl | hc
        · omega
        · exact a7 c hc
    · have hw : wcode (f + 1) u = [u] := by simp [wcode, h]
      rw [hw]
      have h2 : u < 128 := by omega
      simp [stopAt, uval, h2]
      omega
theorem uval_take_wcode (f : Nat) (u : Int) (rest : List Int) (h0 : 0 ≤ u) (h1 : u < 128 ^ (f + 1)) :
    uval ((wcode f u ++ rest).take (stopAt (wcode f u ++ rest) + 1)) = u := by
  obtain ⟨a1, a2, _⟩ := wcode_facts f u h0 h1 rest
  rw [a1, List.take_left, a2]
theorem z_lt (n : Int) (h1 : -9223372036854775808 ≤ n) (h2 : n ≤ 9223372036854775807) : zz n < 128 ^ (9 + 1) := by
  have := (zz_range n h1 h2).2
  have h3 : (128 : Int) ^ (9 + 1) = 1180591620717411303424 := by decide
  rw [h3]; omega
theorem int_put (l : List Int) (n : Int) (rest : List Int) (h1 : -9223372036854775808 ≤ n) (h2 : n ≤ 9223372036854775807) :
    intSpec (l ++ (wcode 9 (zz n) ++ rest)) l.length = (n, (l.length : Int) + ((wcode 9 (zz n)).length : Int), 0) := by
  have hz := zz_range n h1 h2
  obtain ⟨a1, a2, a3, a4, a5, a6, a7⟩ := wcode_facts 9 (zz n) hz.1 (z_lt n h1 h2) rest
  have hpos := (wcode_len 9 (zz n)).1
  have ht := uval_take_wcode 9 (zz n) rest hz.1 (z_lt n h1 h2)
  have hd : (l ++ (wcode 9 (zz n) ++ rest)).drop ((l.length : Int)).toNat = wcode 9 (zz n) ++ rest := by simp
  have hlast : rd (l ++ (wcode 9 (zz n) ++ rest)) ((l.length : Int) + (stopAt (wcode 9 (zz n) ++ rest) : Int)) = (wcode 9 (zz n)).getD ((wcode 9 (zz n)).length - 1) 0 := by
    unfold rd
    rw [show ((l.length : Int) + (stopAt (wcode 9 (zz n) ++ rest) : Int)).toNat = l.length + ((wcode 9 (zz n)).length - 1) by omega]
    rw [List.getD_eq_getElem?_getD, List.getD_eq_getElem?_getD, List.getElem?_append_right (by omega), Nat.add_sub_cancel_left, List.getElem?_append_left (by omega)]
  unfold intSpec
  rw [if_neg (by simp only [List.length_append]; omega), hd, if_neg (by simp only [List.length_append]; omega), hlast, ht]
  rw [if_neg]
  · have h3 : (stopAt (wcode 9 (zz n) ++ rest) : Int) + 1 = (wcode 9 (zz n)).length := by omega
    refine Prod.ext ?_ (Prod.ext ?_ rfl)
    · show (if zz n % 2 = 1 then -(zz n / 2) - 1 else zz n / 2) = n
      unfold zz
      split <;> split <;> omega
    · show (l.length : Int) + (stopAt (wcode 9 (zz n) ++ rest) : Int) + 1 = (l.length : Int) + ((wcode 9 (zz n)).length : Int)
      omega
  · intro h
    rcases h with ⟨h, h'⟩ | h | ⟨h, h'⟩
    · have := a5 (by omega); omega
    · omega
    · have h10 : (wcode 9 (zz n)).length - 1 = 9 := by omega
      rw [h10] at a6 h'
      have : (128 : Int) ^ 9 = 9223372036854775808 := by decide
      rw [this] at a6
      omega
/-- the sum's two halves -/
def sumLow (a : Int) : List Int → Int
  | [] => a
  | c :: l => sumLow ((a + c) % 65521) l
def sumHigh (a b : Int) : List Int → Int
  | [] => b
  | c :: l => sumHigh ((a + c) % 65521) ((b + (a + c) % 65521) % 65521) l
def adl (p : List Int) : Int := sumHigh 1 0 p * 65536 + sumLow 1 p
theorem sumLow_range (l : List Int) : ∀ a, 0 ≤ a → a < 65521 → 0 ≤ sumLow a l ∧ sumLow a l < 65521 := by
  induction l with
  | nil => intro a h1 h2; exact ⟨h1, h2⟩
  | cons c l ih => intro a h1 h2; exact ih _ (by omega) (by omega)
theorem sumHigh_range (l : List Int) : ∀ a b, 0 ≤ b → b < 65521 → 0 ≤ sumHigh a b l ∧ sumHigh a b l < 65521 := by
  induction l with
  | nil => intro a b h1 h2; exact ⟨h1, h2⟩
  | cons c l ih => intro a b h1 h2; exact ih _ _ (by omega) (by omega)
theorem or_u32 (a b : Nat) (ha : a < 4294967296) (hb : b < 4294967296) : Go.bits .or .u32 (a : Int) (b : Int) = ((a ||| b : Nat) : Int) := by
  have hx : a ||| b < 2 ^ 32 := Nat.or_lt_two_pow (by omega) (by omega)
  have h1 : (BitVec.ofInt 32 (a : Int)).toNat = a := by
    rw [BitVec.ofInt_natCast, BitVec.toNat_ofNat]; exact Nat.mod_eq_of_lt (by omega)
  have h2 : (BitVec.ofInt 32 (b : Int)).toNat = b := by
    rw [BitVec.ofInt_natCast, BitVec.toNat_ofNat]; exact Nat.mod_eq_of_lt (by omega)
  show IntKind.u32.wrap ((BitVec.ofInt 32 (a : Int) ||| BitVec.ofInt 32 (b : Int)).toNat : Int) = _
  rw [BitVec.toNat_or, h1, h2, IntKind.wrap_u32]
  omega
theorem or16 (h l : Int) (hh : 0 ≤ h) (hh2 : h < 65521) (hl : 0 ≤ l) (hl2 : l < 65521) : Go.bits .or .u32 ((h * 65536) % 4294967296) l = h * 65536 + l := by
  obtain ⟨h', rfl⟩ := Int.eq_ofNat_of_zero_le hh
  obtain ⟨l', rfl⟩ := Int.eq_ofNat_of_zero_le hl
  rw [Int.emod_eq_of_lt (by omega) (by omega)]
  have h4 := or_u32 (h' * 65536) l' (by omega) (by omega)
  have h6 := Nat.shiftLeft_add_eq_or_of_lt (i := 16) (b := l') (by omega) h'
  rw [Nat.shiftLeft_eq] at h6
  rw [← h6] at h4
  have e : (((h' * 65536 : Nat)) : Int) = (h' : Int) * 65536 := by simp
  rw [← e]
  refine h4.trans ?_
  simp
theorem sum_l0 (xs : List Int) (hx : ∀ c ∈ xs, 0 ≤ c ∧ c ≤ 255) (hn : xs.length ≤ 1000000) : ∀ (m i : Nat) (a b : Int), i + m = xs.length → 0 ≤ a → a < 65521 → 0 ≤ b → b < 65521 →
    wire_Sum.l0 (m + 1) a b xs xs.length i = some (sumHigh a b (xs.drop i) * 65536 + sumLow a (xs.drop i)) := by
  intro m
  induction m with
  | zero =>
    intro i a b hi ha ha2 hb hb2
    have hd : xs.drop i = [] := List.drop_eq_nil_of_le (by omega)
    unfold wire_Sum.l0
    rw [if_neg (by omega), hd, or16 _ _ hb hb2 ha ha2]
    rfl
  | succ m ih =>
    intro i a b hi ha ha2 hb hb2
    have hlt : i < xs.length := by omega
    have hd : xs.drop i = xs[i] :: xs.drop (i + 1) := List.drop_eq_getElem_cons hlt
    have hr : rd xs (i : Int) = xs[i] := by unfold rd; simp [List.getD_eq_getElem?_getD, hlt]
    have hb3 := hx _ (List.getElem_mem hlt)
    unfold wire_Sum.l0
    rw [if_pos (by omega), if_pos (by omega), if_pos (by omega), hr, hd]
    generalize xs[i] = c at *
    rw [show (a + c % 4294967296) % 4294967296 = a + c by omega]
    have hw : wrap64 ((i : Int) + 1) = ((i + 1 : Nat) : Int) := by rw [w64p _ (by omega) (by omega)]; simp
    rw [hw, show (b + (a + c) % 65521) % 4294967296 = b + (a + c) % 65521 by omega]
    exact ih (i + 1) _ _ (by omega) (by omega) (by omega) (by omega) (by omega)
theorem sum_ev (p : List Int) (hp : ∀ c ∈ p, 0 ≤ c ∧ c ≤ 255) (hn : p.length ≤ 1000000) : Ev (fun k => wire_Sum.f k p) (adl p) :=
  Ev.of (wire_Sum.mono p) (k := p.length + 1) (sum_l0 p hp hn p.length 0 1 0 (by omega) (by omega) (by omega) (by omega) (by omega))
def fourOf (a : Int) : List Int := [(a / 16777216) % 256, (a / 65536) % 256, (a / 256) % 256, a % 256]
theorem fourOf_bytes (a : Int) : ∀ c ∈ fourOf a, 0 ≤ c ∧ c ≤ 255 := by
  intro c hc
  simp only [fourOf, List.mem_cons, List.not_mem_nil, or_false] at hc
  omega
theorem putframe_ev (l p : List Int) (hl : l.length ≤ 400000) (hp : ∀ c ∈ p, 0 ≤ c ∧ c ≤ 255) (hn : p.length ≤ 400000) :
    Ev (fun k => wire_PutFrame.f k l p) (l ++ (wcode 9 (zz p.length) ++ (p ++ fourOf (adl p)))) := by
  obtain ⟨K, hK⟩ := sum_ev p hp (by omega)
  refine ⟨K, fun k hk => ?_⟩
  have hs : wire_Sum.f k p = some (adl p) := hK k hk
  show wire_PutFrame.f k l p = _
  unfold wire_PutFrame.f
  rw [hs, Option.bind_some, show wire_four.f (adl p) = some (fourOf (adl p)) from rfl, Option.bind_some, if_pos ⟨hl, hn, by simp [fourOf]⟩]
  simp
theorem code_bytes (n : Int) (h1 : -9223372036854775808 ≤ n) (h2 : n ≤ 9223372036854775807) : ∀ c ∈ wcode 9 (zz n), 0 ≤ c ∧ c ≤ 255 := by
  have hz := zz_range n h1 h2
  exact (wcode_facts 9 (zz n) hz.1 (z_lt n h1 h2) []).2.2.2.2.2.2
theorem goes_ev : Ev contangolaw04_goes.f true := by
  obtain ⟨K, hK⟩ := putframe_ev [] [97] (by decide) (by decide) (by decide)
  refine ⟨K, fun k hk => ?_⟩
  have h := hK k hk
  unfold contangolaw04_goes.f
  dsimp only at h
  rw [h, Option.bind_some]
  rfl
/-! ### contangoref04: numbers, as wire's -/
theorem u64w (x : Int) (h0 : 0 ≤ x) (h1 : x < 18446744073709551616) : IntKind.u64.wrap x = x := by
  rw [show IntKind.u64.wrap x = x % 18446744073709551616 from rfl]
  exact Int.emod_eq_of_lt h0 h1
theorem w64i (n : Int) (h : -9223372036854775808 ≤ n) (h2 : n ≤ 9223372036854775807) : wrap64 n = n := by unfold wrap64; omega
theorem drop_c (l : List Int) (i : Nat) (h : i < l.length) : l.drop i = l.getD i 0 :: l.drop (i + 1) := by
  rw [List.drop_eq_getElem_cons h, List.getD_eq_getElem?_getD, List.getElem?_eq_getElem h]; rfl
theorem rlast_go (l : List Int) (hl : l.length ≤ 1000000) (d : Nat) : ∀ i : Nat, l.length - i = d → i ≤ l.length →
    Ev (fun k => contangoref04_last.l0 k l (i : Int)) (if stopAt (l.drop i) = (l.drop i).length then -1 else (i : Int) + stopAt (l.drop i)) := by
  induction d with
  | zero =>
    intro i hd hi
    have : i = l.length := by omega
    subst this
    rw [List.drop_length]
    exact Ev.step (fun _ => rfl) (ev_neg (by omega) (ev_some (by simp [stopAt])))
  | succ d ih =>
    intro i hd hi
    have hlt : i < l.length := by omega
    have hih := ih (i + 1) (by omega) (by omega)
    rw [drop_c l i hlt]
    refine Ev.step (fun _ => rfl) (ev_pos (by omega) (ev_pos (by omega) ?_))
    rw [wsucc i (by omega), rd_nat]
    by_cases hc : l.getD i 0 < 128
    · refine ev_pos hc (ev_some ?_)
      simp only [stopAt, if_pos hc, List.length_cons]
      rw [if_neg (by omega)]; omega
    · refine ev_neg hc (ev_rw ?_ hih)
      simp only [stopAt, if_neg hc, List.length_cons]
      by_cases h2 : stopAt (l.drop (i + 1)) = (l.drop (i + 1)).length
      · rw [if_pos h2, if_pos (by omega)]
      · rw [if_neg h2, if_neg (by omega)]; omega
theorem uval_nn (l : List Int) : 0 ≤ uval l := by
  induction l with
  | nil => simp [uval]
  | cons c l ih => simp only [uval]; omega
theorem uval_lt (l : List Int) : uval l < 128 ^ l.length := by
  induction l with
  | nil => simp [uval]
  | cons c l ih =>
    simp only [uval, List.length_cons]
    rw [Int.pow_succ]
    generalize (128 : Int) ^ l.length = p at *
    omega
theorem pow_mono (a b : Nat) (h : a ≤ b) : (128 : Int) ^ a ≤ 128 ^ b := by
  have := Nat.pow_le_pow_right (show 0 < 128 by decide) h
  have h2 : ((128 ^ a : Nat) : Int) ≤ ((128 ^ b : Nat) : Int) := by omega
  simpa using h2
theorem uval_snoc (l : List Int) (c : Int) : uval (l ++ [c]) = uval l + 128 ^ l.length * (c % 128) := by
  induction l with
  | nil => simp [uval]
  | cons a l ih =>
    simp only [List.cons_append, uval, ih, List.length_cons, Int.pow_succ]
    rw [Int.mul_add, Int.mul_comm ((128 : Int) ^ l.length) 128, Int.mul_assoc]; omega
theorem seg_bound (l : List Int) (hl : l.length ≤ 10) (h9 : l.length = 10 → l.getD 9 0 ≤ 1 ∧ 0 ≤ l.getD 9 0) (j : Nat) : uval (l.drop j) < 18446744073709551616 := by
  by_cases hj : j = 0 ∧ l.length = 10
  · obtain ⟨rfl, h10⟩ := hj
    rw [List.drop_zero]
    have e : l = l.take 9 ++ [l.getD 9 0] := by
      have := List.take_succ_eq_append_getElem (l := l) (i := 9) (by omega)
      rw [List.take_of_length_le (by omega)] at this
      rw [List.getD_eq_getElem?_getD, List.getElem?_eq_getElem (by omega)]
      exact this
    have hlen : (l.take 9).length = 9 := by rw [List.length_take]; omega
    have h1 := uval_lt (l.take 9)
    rw [hlen] at h1
    have h2 := uval_snoc (l.take 9) (l.getD 9 0)
    rw [← e, hlen] at h2
    have h3 := h9 h10
    have e9 : (128 : Int) ^ 9 = 9223372036854775808 := by decide
    rw [e9] at h1 h2
    rw [h2]
    omega
  · have h1 := uval_lt (l.drop j)
    have h2 := pow_mono (l.drop j).length 9 (by rw [List.length_drop]; omega)
    have e9 : (128 : Int) ^ 9 = 9223372036854775808 := by decide
    omega
theorem rint_back (l : List Int) (hl : l.length ≤ 1000000) (hb : ∀ c ∈ l, 0 ≤ c ∧ c ≤ 255) (a s : Nat) (has : a + s < l.length) (hs9 : s ≤ 9) (h9 : s = 9 → l.getD (a + 9) 0 ≤ 1) : ∀ j : Nat, j ≤ s + 1 →
    Ev (fun k => contangoref04_Int.l0 k l (a : Int) ((a + s : Nat) : Int) (uval (((l.drop a).take (s + 1)).drop j)) ((a : Int) + j - 1)) (if uval ((l.drop a).take (s + 1)) % 2 = 1 then -(uval ((l.drop a).take (s + 1)) / 2) - 1 else uval ((l.drop a).take (s + 1)) / 2, (a : Int) + s + 1, 0) := by
  have hlen : ((l.drop a).take (s + 1)).length = s + 1 := by rw [List.length_take, List.length_drop]; omega
  have hget : ∀ j, j ≤ s → ((l.drop a).take (s + 1)).getD j 0 = l.getD (a + j) 0 := by
    intro j hj
    rw [List.getD_eq_getElem?_getD, List.getElem?_take, if_pos (by omega), List.getElem?_drop, ← List.getD_eq_getElem?_getD]
  have hbound := fun j => seg_bound ((l.drop a).take (s + 1)) (by omega) (fun h => by
    rw [hget 9 (by omega)]
    refine ⟨h9 (by omega), ?_⟩
    have hm : l.getD (a + 9) 0 ∈ l := by
      rw [List.getD_eq_getElem?_getD, List.getElem?_eq_getElem (by omega)]; exact List.getElem_mem _
    exact (hb _ hm).1) j
  have hnn := fun j => uval_nn (((l.drop a).take (s + 1)).drop j)
  generalize (l.drop a).take (s + 1) = seg at *
  intro j
  induction j with
  | zero =>
    intro _
    have h1 := hbound 0
    have h2 := hnn 0
    rw [List.drop_zero] at h1 h2 ⊢
    have e1 : Int.tdiv (uval seg) 2 = uval seg / 2 := Int.tdiv_eq_ediv_of_nonneg h2
    have e2 : Int.tmod (uval seg) 2 = uval seg % 2 := Int.tmod_eq_emod_of_nonneg h2
    generalize uval seg = u at *
    refine Ev.step (fun _ => rfl) (ev_neg (by omega) ?_)
    rw [e1, e2, u64w _ (by omega) (by omega), w64i (u / 2) (by omega) (by omega), w64i (-(u / 2)) (by omega) (by omega), w64i (-(u / 2) - 1) (by omega) (by omega), w64i _ (by omega) (by omega), show ((a + s : Nat) : Int) + 1 = (a : Int) + s + 1 by omega]
    by_cases hu : u % 2 = 1
    · exact ev_pos hu (ev_some (by rw [if_pos hu]))
    · exact ev_neg hu (ev_some (by rw [if_neg hu]))
  | succ j ih =>
    intro hj
    have hih := ih (by omega)
    have hd : seg.drop j = seg.getD j 0 :: seg.drop (j + 1) := drop_c seg j (by omega)
    have h1 := hbound j
    have h2 := hnn j
    have h3 := hnn (j + 1)
    have hg := hget j (by omega)
    have hm : l.getD (a + j) 0 ∈ l := by
      rw [List.getD_eq_getElem?_getD, List.getElem?_eq_getElem (by omega)]; exact List.getElem_mem _
    have hc := hb _ hm
    rw [hd] at h1 h2 hih
    simp only [uval] at h1 h2 hih
    rw [show (a : Int) + ((j + 1 : Nat) : Int) - 1 = ((a + j : Nat) : Int) by omega]
    refine Ev.step (fun _ => rfl) (ev_pos (by omega) (ev_pos (by omega) (ev_pos (by omega) ?_)))
    rw [rd_nat, ← hg]
    rw [← hg] at hc
    generalize uval (seg.drop (j + 1)) = u at *
    generalize seg.getD j 0 = c at *
    rw [Int.tmod_eq_emod_of_nonneg hc.1, u64w (u * 128) (by omega) (by omega), u64w (c % 128) (by omega) (by omega), u64w _ (by omega) (by omega), w64i _ (by omega) (by omega), show u * 128 + c % 128 = c % 128 + 128 * u by omega, show ((a + j : Nat) : Int) - 1 = (a : Int) + j - 1 by omega]
    exact hih
theorem rint_ev (l : List Int) (hl : l.length ≤ 1000000) (hb : ∀ c ∈ l, 0 ≤ c ∧ c ≤ 255) (a : Int) : Ev (fun k => contangoref04_Int.f k l a) (intSpec l a) := by
  unfold contangoref04_Int.f intSpec
  have hbad : Ev (fun k => contangoref04_Int.j0 k l a true) (0, 0, 2) := Ev.step (f := fun _ => some (0, 0, 2)) (fun _ => rfl) (Ev.now _)
  by_cases h1 : a < 0
  · rw [if_pos (.inl h1)]; exact ev_pos h1 hbad
  · refine ev_neg h1 ?_
    by_cases h2 : a > (l.length : Int)
    · rw [if_pos (.inr h2), decide_eq_true h2]; exact hbad
    · rw [if_neg (by omega), decide_eq_false h2]
      obtain ⟨n, rfl⟩ := Int.eq_ofNat_of_zero_le (show 0 ≤ a by omega)
      simp only [Int.toNat_natCast]
      have hlast := rlast_go l hl (l.length - n) n rfl (by omega)
      have hsl := stop_le (l.drop n)
      rw [List.length_drop] at hsl
      refine Ev.step (f := fun k => (contangoref04_last.f k l (n : Int)).bind fun t108 => (if t108 < 0 then (some (0, 0, 6)) else (if (wrap64 (t108 - (n : Int))) > 9 then (contangoref04_Int.j1 k l (n : Int) t108 true) else (if t108 > (n : Int) then (if 0 ≤ t108 then (if t108 < (l.length : Int) then (if (rd l t108) = 0 then (contangoref04_Int.j1 k l (n : Int) t108 true) else (if (wrap64 (t108 - (n : Int))) = 9 then (contangoref04_Int.j1 k l (n : Int) t108 (decide ((rd l t108) > 1))) else (contangoref04_Int.j1 k l (n : Int) t108 false))) else (none)) else (none)) else (if (wrap64 (t108 - (n : Int))) = 9 then (if 0 ≤ t108 then (if t108 < (l.length : Int) then (contangoref04_Int.j1 k l (n : Int) t108 (decide ((rd l t108) > 1))) else (none)) else (none)) else (contangoref04_Int.j1 k l (n : Int) t108 false)))))) (fun _ => rfl) ?_
      refine Ev.bind hlast ?_
      by_cases hs : stopAt (l.drop n) = (l.drop n).length
      · rw [if_pos hs, if_pos hs]; exact ev_pos (by omega) (Ev.now _)
      · rw [if_neg hs, if_neg hs]
        rw [List.length_drop] at hs
        have hback := rint_back l hl hb n (stopAt (l.drop n)) (by omega)
        generalize stopAt (l.drop n) = s at *
        generalize (if uval ((l.drop n).take (s + 1)) % 2 = 1 then -(uval ((l.drop n).take (s + 1)) / 2) - 1 else uval ((l.drop n).take (s + 1)) / 2) = V at *
        rw [show (n : Int) + (s : Int) = ((n + s : Nat) : Int) by omega]
        have hj1 : Ev (fun k => contangoref04_Int.j1 k l (n : Int) ((n + s : Nat) : Int) true) (0, 0, 5) := Ev.step (f := fun _ => some (0, 0, 5)) (fun _ => rfl) (Ev.now _)
        have hok : s ≤ 9 → (s = 9 → rd l ((n + s : Nat) : Int) ≤ 1) → ∀ b, b = false → Ev (fun k => contangoref04_Int.j1 k l (n : Int) ((n + s : Nat) : Int) b) (V, ((n + s : Nat) : Int) + 1, 0) := by
          rintro hs9 h9 b rfl
          have := hback hs9 (fun e => by have := h9 e; subst e; exact this) (s + 1) (Nat.le_refl _)
          rw [List.drop_of_length_le (by rw [List.length_take]; omega), show (n : Int) + ((s + 1 : Nat) : Int) - 1 = ((n + s : Nat) : Int) by omega, show (n : Int) + (s : Int) + 1 = ((n + s : Nat) : Int) + 1 by omega] at this
          exact Ev.step (f := fun k => contangoref04_Int.l0 k l (n : Int) ((n + s : Nat) : Int) 0 ((n + s : Nat) : Int)) (fun _ => rfl) this
        generalize rd l ((n + s : Nat) : Int) = bv at *
        rw [w64i _ (by omega) (by omega)]
        refine ev_neg (by omega) ?_
        by_cases h9 : s > 9
        · exact ev_rw (if_pos (Or.inr (Or.inl (by omega)))).symm (ev_pos (by omega) hj1)
        · refine ev_neg (by omega) ?_
          by_cases h0 : s = 0
          · exact ev_rw (if_neg (by omega)).symm (ev_neg (by omega) (ev_neg (by omega) (hok (by omega) (by omega) false rfl)))
          · refine ev_pos (by omega) (ev_pos (by omega) (ev_pos (by omega) ?_))
            by_cases hz : bv = 0
            · exact ev_rw (if_pos (Or.inl ⟨hz, by omega⟩)).symm (ev_pos hz hj1)
            · refine ev_neg hz ?_
              by_cases hs9 : s = 9
              · refine ev_pos (by omega) ?_
                by_cases hb1 : bv > 1
                · rw [decide_eq_true hb1]; exact ev_rw (if_pos (Or.inr (Or.inr ⟨by omega, hb1⟩))).symm hj1
                · rw [decide_eq_false hb1]; exact ev_rw (if_neg (by omega)).symm (hok (by omega) (fun _ => by omega) false rfl)
              · exact ev_rw (if_neg (by omega)).symm (ev_neg (by omega) (hok (by omega) (by omega) false rfl))
theorem rput_go (f : Nat) : ∀ (u : Int) (acc : List Int), 0 ≤ u → u < 128 ^ (f + 1) → f ≤ 9 → u < 18446744073709551616 → acc.length + f ≤ 1000000 → Ev (fun k => contangoref04_PutInt.l0 k acc u) (acc ++ wcode f u) := by
  induction f with
  | zero =>
    intro u acc h0 h1 _ _ hl
    have : u < 128 := by simpa using h1
    refine Ev.step (fun _ => rfl) (ev_neg (by omega) (ev_pos (by omega) (ev_some ?_)))
    rw [show u % 256 = u by omega]; rfl
  | succ f ih =>
    intro u acc h0 h1 hf h2 hl
    simp only [wcode]
    by_cases hc : u ≥ 128
    · rw [if_pos (by omega)]
      refine Ev.step (fun _ => rfl) (ev_pos hc (ev_pos (by omega) ?_))
      rw [Int.tmod_eq_emod_of_nonneg h0, Int.tdiv_eq_ediv_of_nonneg h0, u64w (u % 128 + 128) (by omega) (by omega), u64w (u / 128) (by omega) (by omega), show (u % 128 + 128) % 256 = u % 128 + 128 by omega]
      have hp : u / 128 < 128 ^ (f + 1) := by
        rw [Int.pow_succ] at h1
        generalize (128 : Int) ^ (f + 1) = p at *
        omega
      have := ih (u / 128) (acc ++ [u % 128 + 128]) (by omega) hp (by omega) (by omega) (by simp; omega)
      simpa using this
    · rw [if_neg (by omega)]
      refine Ev.step (fun _ => rfl) (ev_neg hc (ev_pos (by omega) (ev_some ?_)))
      rw [show u % 256 = u by omega]
theorem up_val (n : Int) (h1 : -9223372036854775808 ≤ n) (h2 : n ≤ 9223372036854775807) : contangoref04_up.f n = some (zz n) := by
  unfold contangoref04_up.f zz
  by_cases h : n < 0
  · rw [if_pos h, if_pos h, w64i (n + 1) (by omega) (by omega), w64i (-(n + 1)) (by omega) (by omega), u64w (-(n + 1)) (by omega) (by omega), u64w (-(n + 1) * 2) (by omega) (by omega), u64w (-(n + 1) * 2 + 1) (by omega) (by omega)]
    congr 1; omega
  · rw [if_neg h, if_neg h, u64w n (by omega) (by omega), u64w _ (by omega) (by omega)]
theorem rputint_ev (l : List Int) (n : Int) (hl : l.length ≤ 900000) (h1 : -9223372036854775808 ≤ n) (h2 : n ≤ 9223372036854775807) : Ev (fun k => contangoref04_PutInt.f k l n) (l ++ wcode 9 (zz n)) := by
  have hz := zz_range n h1 h2
  have hp : zz n < 128 ^ (9 + 1) := by
    have : (128 : Int) ^ (9 + 1) = 1180591620717411303424 := by decide
    omega
  unfold contangoref04_PutInt.f
  refine ev_val rfl (ev_pos (by simp; omega) (ev_val (up_val n h1 h2) ?_))
  exact rput_go 9 (zz n) l hz.1 hp (by omega) (by omega) (by omega)
theorem touched_ev (l : List Int) (hl : l.length ≤ 1000000) : ∃ r, Ev (fun k => contangolaw04_touched.f k l) r := by
  have go : ∀ (d : Nat) (x : List Int) (i : Nat), x.length = l.length → l.length - i = d → i ≤ l.length → ∃ r, Ev (fun k => contangolaw04_touched.l0 k x (l.length : Int) (i : Int)) r := by
    intro d
    induction d with
    | zero =>
      intro x i hx hd hi
      exact ⟨x, Ev.step (fun _ => rfl) (ev_neg (by omega) (Ev.now _))⟩
    | succ d ih =>
      intro x i hx hd hi
      obtain ⟨r, hr⟩ := ih (x.set i ((rd x (i : Int) + 1) % 256)) (i + 1) (by simpa using hx) (by omega) (by omega)
      refine ⟨r, Ev.step (fun _ => rfl) (ev_pos (by omega) (ev_pos (by omega) (ev_pos (by omega) ?_)))⟩
      rw [wsucc i (by omega), Int.toNat_natCast]
      exact hr
  exact go l.length l 0 rfl (by omega) (by omega)
theorem bytes_ok (l : List Int) (h : ∀ x ∈ l, (Lit.int .u8 x).wf = true) : ∀ c ∈ l, 0 ≤ c ∧ c ≤ 255 := by
  intro c hc
  have := h c hc
  simp only [Lit.wf] at this
  constructor <;> (simp [IntKind.min, IntKind.max, IntKind.signed, IntKind.bits] at this; omega)
theorem i64_ok (n : Int) (h : (Lit.int .i64 n).wf = true) : -9223372036854775808 ≤ n ∧ n ≤ 9223372036854775807 := by
  simp only [Lit.wf] at h
  constructor <;> (simp [IntKind.min, IntKind.max, IntKind.signed, IntKind.bits] at h; omega)
theorem rtext_ev (l : List Int) (hl : l.length ≤ 1000000) (hb : ∀ c ∈ l, 0 ≤ c ∧ c ≤ 255) (a : Int) : Ev (fun k => contangoref04_Text.f k l a) (if pieceErr l a = 0 then (strOfNums (pieceOf l a), (intSpec l a).2.1 + (intSpec l a).1, 0) else (⟨#[]⟩, 0, pieceErr l a)) := by
  unfold contangoref04_Text.f
  refine Ev.bind (rint_ev l hl hb a) ?_
  have hn := int_next l a
  refine ev_pos ⟨hl, fun h => ⟨by have := hn h; omega, (hn h).2.2⟩⟩ ?_
  have e : textErr l (intSpec l a).1 (intSpec l a).2.1 (intSpec l a).2.2 = pieceErr l a := rfl
  rw [e]
  by_cases h : pieceErr l a = 0
  · exact ev_rw (if_pos h).symm (ev_pos h (ev_some rfl))
  · exact ev_rw (if_neg h).symm (ev_neg h (ev_some rfl))
theorem rputtext_ev (l : List Int) (s : ByteArray) (hl : l.length ≤ 400000) (hs : s.size ≤ 400000) : Ev (fun k => contangoref04_PutText.f k l s) (l ++ wcode 9 (zz s.size) ++ bytesOf s) := by
  unfold contangoref04_PutText.f
  have hcl := wcode_len 9 (zz s.size)
  refine Ev.bind (rputint_ev l s.size (by omega) (by omega) (by omega)) (ev_pos (by rw [List.length_append]; omega) (Ev.now _))
theorem WireTexts : contangolaw04_WireTexts.Pure := by
  intro l0 a1 a2 _ _ hb hs hw2
  have hbm := bytes_ok l0 hb
  refine Ev.rounds (g := fun k => contangolaw04_WireTexts.f k l0 a1 a2) ?_
  unfold contangolaw04_WireTexts.f
  have hgoes : Ev (fun k => (contangolaw04_goes.f k).bind fun t => some t) true := Ev.bind goes_ev (Ev.now _)
  have hj : Ev (fun k => contangolaw04_WireTexts.j0 k l0 a1 a2 true) true := Ev.step (f := fun k => (contangolaw04_goes.f k).bind fun t => some t) (fun _ => rfl) hgoes
  by_cases h : (l0.length : Int) > 5000
  · exact ev_pos h hj
  · refine ev_neg h ?_
    by_cases h2 : (a1.size : Int) > 5000
    · rw [decide_eq_true h2]; exact hj
    · rw [decide_eq_false h2]
      have hlent : contangolaw04_lent.f l0 = some l0 := by unfold contangolaw04_lent.f; rw [if_pos (by omega)]
      have hkept : contangolaw04_kept.f l0 l0 = some true := by unfold contangolaw04_kept.f; rw [if_pos ⟨rfl, by omega⟩]
      have hput : wire_PutText.f l0 a1 = some (l0 ++ wcode 9 (zz a1.size) ++ bytesOf a1) := by unfold wire_PutText.f; rw [if_pos ⟨by omega, by omega⟩]
      have htext : wire_Text.f l0 a2 = some (if pieceErr l0 a2 = 0 then (strOfNums (pieceOf l0 a2), (intSpec l0 a2).2.1 + (intSpec l0 a2).1, 0) else (⟨#[]⟩, 0, pieceErr l0 a2)) := by unfold wire_Text.f; rw [if_pos ⟨by omega, hbm⟩]
      have hcl := wcode_len 9 (zz a1.size)
      obtain ⟨r, hr⟩ := touched_ev (l0 ++ wcode 9 (zz a1.size) ++ bytesOf a1) (by rw [List.length_append, List.length_append, bytesOf_length]; omega)
      refine Ev.step (f := fun k => (contangolaw04_lent.f l0).bind fun t133 => ((wire_PutText.f t133 a1).bind fun t136 => ((wire_Text.f t133 a2).bind fun bt139 => ((contangoref04_Text.f k l0 a2).bind fun bt142 => ((contangoref04_PutText.f k l0 a1).bind fun t145 => (if (strOfNums t136).toList = (strOfNums t145).toList then (if bt139.1.toList = bt142.1.toList then (if bt139.2.1 = bt142.2.1 then ((contangolaw04_touched.f k t136).bind fun t148 => (if bt139.2.2 = bt142.2.2 then ((contangolaw04_kept.f t133 l0).bind fun t149 => (if t149 = true then ((contangolaw04_goes.f k).bind fun t150 => (some t150)) else (none))) else (none))) else ((contangolaw04_touched.f k t136).bind fun t151 => (none))) else ((contangolaw04_touched.f k t136).bind fun t152 => (none))) else ((contangolaw04_touched.f k t136).bind fun t153 => (none)))))))) (fun _ => rfl) ?_
      refine ev_val hlent (ev_val hput (ev_val htext (Ev.bind (rtext_ev l0 (by omega) hbm a2) (Ev.bind (rputtext_ev l0 a1 (by omega) (by omega)) ?_))))
      refine ev_pos rfl (ev_pos rfl (ev_pos rfl (Ev.bind hr ?_)))
      exact ev_pos rfl (ev_val hkept (ev_pos rfl hgoes))
end Go.Proofs.Ytnimfimcpjmbnaa.Pure
