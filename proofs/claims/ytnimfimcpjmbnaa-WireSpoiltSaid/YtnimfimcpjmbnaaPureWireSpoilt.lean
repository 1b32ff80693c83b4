/- The pure statement of the law WireSpoilt, proved: plain Lean over numbers and lists, no program in sight. -/
import Derived.Test.YtnimfimcpjmbnaaPWireSpoiltx3
namespace Go.Proofs.Ytnimfimcpjmbnaa.Pure
open Go.RowKit Go.Proofs.Ytnimfimcpjmbnaa.PWireSpoilt Go.Proofs.YtnimfimcpjmbnaaW.PrintWords Go.Proofs.YtnimfimcpjmbnaaW.PrintLast
theorem w64p (x : Int) (h : -9223372036854775808 ≤ x) (h2 : x ≤ 9223372036854775807) : wrap64 x = x := by
  unfold wrap64; omega
theorem pow128 (f : Nat) : (128 : Int) ^ (f + 1) = 128 * 128 ^ f := by rw [Int.pow_succ]; omega
theorem wcode_facts (f : Nat) : ∀ u : Int, 0 ≤ u → u < 128 ^ (f + 1) → ∀ rest : List Int,
    stopAt (wcode f u ++ rest) + 1 = (wcode f u).length ∧ uval (wcode f u) = u ∧ (wcode f u).length ≤ f + 1 ∧
    0 ≤ (wcode f u).getD ((wcode f u).length - 1) 0 ∧ (1 < (wcode f u).length → 0 < (wcode f u).getD ((wcode f u).length - 1) 0) ∧
    (wcode f u).getD ((wcode f u).length - 1) 0 * 128 ^ ((wcode f u).length - 1) ≤ u ∧ (∀ c ∈ wcode f u, 0 ≤ c ∧ c ≤ 255) := by
  induction f with
  | zero =>
    intro u h0 h1 rest
    have h2 : u < 128 := by simpa using h1
    simp [wcode, stopAt, uval, h2]
    omega
  | succ f ih =>
    intro u h0 h1 rest
    by_cases h : u > 127
    · have hp := pow128 (f + 1)
      rw [hp] at h1
      obtain ⟨a1, a2, a3, a4, a5, a6, a7⟩ := ih (u / 128) (by omega) (by omega) rest
      have hw : wcode (f + 1) u = (u % 128 + 128) :: wcode f (u / 128) := by simp [wcode, h]
      have hpos := (wcode_len f (u / 128)).1
      have hlast : ((u % 128 + 128) :: wcode f (u / 128)).getD (((u % 128 + 128) :: wcode f (u / 128)).length - 1) 0 = (wcode f (u / 128)).getD ((wcode f (u / 128)).length - 1) 0 := by
        rw [List.length_cons, Nat.add_sub_cancel]
        obtain ⟨m, hm⟩ : ∃ m, (wcode f (u / 128)).length = m + 1 := ⟨(wcode f (u / 128)).length - 1, by omega⟩
        rw [hm]; simp
      rw [hw, hlast]
      refine ⟨?_, ?_, ?_, a4, ?_, ?_, ?_⟩
      · rw [List.cons_append, stopAt, if_neg (by omega), List.length_cons, a1]
      · rw [uval, a2]; omega
      · rw [List.length_cons]; omega
      · intro _
        by_cases h5 : 1 < (wcode f (u / 128)).length
        · exact a5 h5
        · have h6 : (wcode f (u / 128)).length = 1 := by omega
          rw [h6] at a6 ⊢
          have : uval (wcode f (u / 128)) = u / 128 := a2
          match hq : wcode f (u / 128), h6 with
          | [c], _ =>
            rw [hq] at this a7
            have h7 := a7 c (by simp)
            simp [uval] at this
            simp only [Nat.sub_self, List.getD_cons_zero]
            omega
      · rw [List.length_cons, Nat.add_sub_cancel]
        obtain ⟨m, hm⟩ : ∃ m, (wcode f (u / 128)).length = m + 1 := ⟨(wcode f (u / 128)).length - 1, by omega⟩
        rw [hm] at a6 ⊢
        rw [Nat.add_sub_cancel] at a6
        rw [Nat.add_sub_cancel, pow128]
        generalize (wcode f (u / 128)).getD m 0 = x at *
        generalize (128 : Int) ^ m = y at *
        have : x * (128 * y) = 128 * (x * y) := by rw [← Int.mul_assoc, Int.mul_comm x 128, Int.mul_assoc]
        rw [this]; omega
      · intro c hc
        rcases List.mem_cons.1 hc with rfl | hc
        · omega
        · exact a7 c hc
    · have hw : wcode (f + 1) u = [u] := by simp [wcode, h]
      rw [hw]
      have h2 : u < 128 := by omega
      simp [stopAt, uval, h2]
      omega
theorem uval_take_wcode (f : Nat) (u : Int) (rest : List Int) (h0 : 0 ≤ u) (h1 : u < 128 ^ (f + 1)) :
    uval ((wcode f u ++ rest).take (stopAt (wcode f u ++ rest) + 1)) = u := by
  obtain ⟨a1, a2, _⟩ := wcode_facts f u h0 h1 rest
  rw [a1, List.take_left, a2]
theorem z_lt (n : Int) (h1 : -9223372036854775808 ≤ n) (h2 : n ≤ 9223372036854775807) : zz n < 128 ^ (9 + 1) := by
  have := (zz_range n h1 h2).2
  have h3 : (128 : Int) ^ (9 + 1) = 1180591620717411303424 := by decide
  rw [h3]; omega
theorem int_put (l : List Int) (n : Int) (rest : List Int) (h1 : -9223372036854775808 ≤ n) (h2 : n ≤ 9223372036854775807) :
    intSpec (l ++ (wcode 9 (zz n) ++ rest)) l.length = (n, (l.length : Int) + ((wcode 9 (zz n)).length : Int), 0) := by
  have hz := zz_range n h1 h2
  obtain ⟨a1, a2, a3, a4, a5, a6, a7⟩ := wcode_facts 9 (zz n) hz.1 (z_lt n h1 h2) rest
  have hpos := (wcode_len 9 (zz n)).1
  have ht := uval_take_wcode 9 (zz n) rest hz.1 (z_lt n h1 h2)
  have hd : (l ++ (wcode 9 (zz n) ++ rest)).drop ((l.length : Int)).toNat = wcode 9 (zz n) ++ rest := by simp
  have hlast : rd (l ++ (wcode 9 (zz n) ++ rest)) ((l.length : Int) + (stopAt (wcode 9 (zz n) ++ rest) : Int)) = (wcode 9 (zz n)).getD ((wcode 9 (zz n)).length - 1) 0 := by
    unfold rd
    rw [show ((l.length : Int) + (stopAt (wcode 9 (zz n) ++ rest) : Int)).toNat = l.length + ((wcode 9 (zz n)).length - 1) by omega]
    rw [List.getD_eq_getElem?_getD, List.getD_eq_getElem?_getD, List.getElem?_append_right (by omega), Nat.add_sub_cancel_left, List.getElem?_append_left (by omega)]
  unfold intSpec
  rw [if_neg (by simp only [List.length_append]; omega), hd, if_neg (by simp only [List.length_append]; omega), hlast, ht]
  rw [if_neg]
  · have h3 : (stopAt (wcode 9 (zz n) ++ rest) : Int) + 1 = (wcode 9 (zz n)).length := by omega
    refine Prod.ext ?_ (Prod.ext ?_ rfl)
    · show (if zz n % 2 = 1 then -(zz n / 2) - 1 else zz n / 2) = n
      unfold zz
      split <;> split <;> omega
    · show (l.length : Int) + (stopAt (wcode 9 (zz n) ++ rest) : Int) + 1 = (l.length : Int) + ((wcode 9 (zz n)).length : Int)
      omega
  · intro h
    rcases h with ⟨h, h'⟩ | h | ⟨h, h'⟩
    · have := a5 (by omega); omega
    · omega
    · have h10 : (wcode 9 (zz n)).length - 1 = 9 := by omega
      rw [h10] at a6 h'
      have : (128 : Int) ^ 9 = 9223372036854775808 := by decide
      rw [this] at a6
      omega
/-- a piece -/
theorem piece_put (l p rest : List Int) (hp : p.length ≤ 65536) :
    pieceErr (l ++ (wcode 9 (zz p.length) ++ (p ++ rest))) l.length = 0 ∧ pieceOf (l ++ (wcode 9 (zz p.length) ++ (p ++ rest))) l.length = p ∧
    (intSpec (l ++ (wcode 9 (zz p.length) ++ (p ++ rest))) l.length).2.1 + (intSpec (l ++ (wcode 9 (zz p.length) ++ (p ++ rest))) l.length).1 = (l.length : Int) + ((wcode 9 (zz p.length)).length : Int) + (p.length : Int) := by
  have h := int_put l p.length (p ++ rest) (by omega) (by omega)
  unfold pieceErr pieceOf
  rw [h]
  dsimp only
  refine ⟨?_, ?_, ?_⟩
  · rw [if_neg (by simp), if_neg (by omega), if_neg (by omega), if_neg (by simp only [List.length_append]; omega)]
  · rw [show ((l.length : Int) + ((wcode 9 (zz p.length)).length : Int) + (p.length : Int)).toNat = (l ++ (wcode 9 (zz p.length) ++ p)).length by simp only [List.length_append]; omega]
    rw [show ((l.length : Int) + ((wcode 9 (zz p.length)).length : Int)).toNat = (l ++ wcode 9 (zz p.length)).length by simp only [List.length_append]; omega]
    rw [show l ++ (wcode 9 (zz p.length) ++ (p ++ rest)) = (l ++ (wcode 9 (zz p.length) ++ p)) ++ rest by simp, List.take_left, show l ++ (wcode 9 (zz p.length) ++ p) = (l ++ wcode 9 (zz p.length)) ++ p by simp, List.drop_left]
  · rfl
theorem piece_long (l p rest : List Int) (hp : 65536 < p.length) (hp2 : p.length ≤ 1000000) :
    pieceErr (l ++ (wcode 9 (zz p.length) ++ (p ++ rest))) l.length = 8 := by
  have h := int_put l p.length (p ++ rest) (by omega) (by omega)
  unfold pieceErr
  rw [h]
  dsimp only
  rw [if_neg (by simp), if_neg (by omega), if_pos (by omega)]
/-- the sum's two halves -/
def sumLow (a : Int) : List Int → Int
  | [] => a
  | c :: l => sumLow ((a + c) % 65521) l
def sumHigh (a b : Int) : List Int → Int
  | [] => b
  | c :: l => sumHigh ((a + c) % 65521) ((b + (a + c) % 65521) % 65521) l
def adl (p : List Int) : Int := sumHigh 1 0 p * 65536 + sumLow 1 p
theorem sumLow_range (l : List Int) : ∀ a, 0 ≤ a → a < 65521 → 0 ≤ sumLow a l ∧ sumLow a l < 65521 := by
  induction l with
  | nil => intro a h1 h2; exact ⟨h1, h2⟩
  | cons c l ih => intro a h1 h2; exact ih _ (by omega) (by omega)
theorem sumHigh_range (l : List Int) : ∀ a b, 0 ≤ b → b < 65521 → 0 ≤ sumHigh a b l ∧ sumHigh a b l < 65521 := by
  induction l with
  | nil => intro a b h1 h2; exact ⟨h1, h2⟩
  | cons c l ih => intro a b h1 h2; exact ih _ _ (by omega) (by omega)
theorem or_u32 (a b : Nat) (ha : a < 4294967296) (hb : b < 4294967296) : Go.bits .or .u32 (a : Int) (b : Int) = ((a ||| b : Nat) : Int) := by
  have hx : a ||| b < 2 ^ 32 := Nat.or_lt_two_pow (by omega) (by omega)
  have h1 : (BitVec.ofInt 32 (a : Int)).toNat = a := by
    rw [BitVec.ofInt_natCast, BitVec.toNat_ofNat]; exact Nat.mod_eq_of_lt (by omega)
  have h2 : (BitVec.ofInt 32 (b : Int)).toNat = b := by
    rw [BitVec.ofInt_natCast, BitVec.toNat_ofNat]; exact Nat.mod_eq_of_lt (by omega)
  show IntKind.u32.wrap ((BitVec.ofInt 32 (a : Int) ||| BitVec.ofInt 32 (b : Int)).toNat : Int) = _
  rw [BitVec.toNat_or, h1, h2, IntKind.wrap_u32]
  omega
theorem or16 (h l : Int) (hh : 0 ≤ h) (hh2 : h < 65521) (hl : 0 ≤ l) (hl2 : l < 65521) : Go.bits .or .u32 ((h * 65536) % 4294967296) l = h * 65536 + l := by
  obtain ⟨h', rfl⟩ := Int.eq_ofNat_of_zero_le hh
  obtain ⟨l', rfl⟩ := Int.eq_ofNat_of_zero_le hl
  rw [Int.emod_eq_of_lt (by omega) (by omega)]
  have h4 := or_u32 (h' * 65536) l' (by omega) (by omega)
  have h6 := Nat.shiftLeft_add_eq_or_of_lt (i := 16) (b := l') (by omega) h'
  rw [Nat.shiftLeft_eq] at h6
  rw [← h6] at h4
  have e : (((h' * 65536 : Nat)) : Int) = (h' : Int) * 65536 := by simp
  rw [← e]
  refine h4.trans ?_
  simp
theorem sum_l0 (xs : List Int) (hx : ∀ c ∈ xs, 0 ≤ c ∧ c ≤ 255) (hn : xs.length ≤ 1000000) : ∀ (m i : Nat) (a b : Int), i + m = xs.length → 0 ≤ a → a < 65521 → 0 ≤ b → b < 65521 →
    wire_Sum.l0 (m + 1) a b xs xs.length i = some (sumHigh a b (xs.drop i) * 65536 + sumLow a (xs.drop i)) := by
  intro m
  induction m with
  | zero =>
    intro i a b hi ha ha2 hb hb2
    have hd : xs.drop i = [] := List.drop_eq_nil_of_le (by omega)
    unfold wire_Sum.l0
    rw [if_neg (by omega), hd, or16 _ _ hb hb2 ha ha2]
    rfl
  | succ m ih =>
    intro i a b hi ha ha2 hb hb2
    have hlt : i < xs.length := by omega
    have hd : xs.drop i = xs[i] :: xs.drop (i + 1) := List.drop_eq_getElem_cons hlt
    have hr : rd xs (i : Int) = xs[i] := by unfold rd; simp [List.getD_eq_getElem?_getD, hlt]
    have hb3 := hx _ (List.getElem_mem hlt)
    unfold wire_Sum.l0
    rw [if_pos (by omega), if_pos (by omega), if_pos (by omega), hr, hd]
    generalize xs[i] = c at *
    rw [show (a + c % 4294967296) % 4294967296 = a + c by omega]
    have hw : wrap64 ((i : Int) + 1) = ((i + 1 : Nat) : Int) := by rw [w64p _ (by omega) (by omega)]; simp
    rw [hw, show (b + (a + c) % 65521) % 4294967296 = b + (a + c) % 65521 by omega]
    exact ih (i + 1) _ _ (by omega) (by omega) (by omega) (by omega) (by omega)
theorem sum_ev (p : List Int) (hp : ∀ c ∈ p, 0 ≤ c ∧ c ≤ 255) (hn : p.length ≤ 1000000) : Ev (fun k => wire_Sum.f k p) (adl p) :=
  Ev.of (wire_Sum.mono p) (k := p.length + 1) (sum_l0 p hp hn p.length 0 1 0 (by omega) (by omega) (by omega) (by omega) (by omega))
def fourOf (a : Int) : List Int := [(a / 16777216) % 256, (a / 65536) % 256, (a / 256) % 256, a % 256]
theorem fourOf_bytes (a : Int) : ∀ c ∈ fourOf a, 0 ≤ c ∧ c ≤ 255 := by
  intro c hc
  simp only [fourOf, List.mem_cons, List.not_mem_nil, or_false] at hc
  omega
theorem frame_read (l p q4 rest : List Int) (hq : q4.length = 4) (hp : p.length ≤ 65536)
    (hb : ∀ c ∈ l ++ (wcode 9 (zz p.length) ++ (p ++ (q4 ++ rest))), 0 ≤ c ∧ c ≤ 255) (hn : (l ++ (wcode 9 (zz p.length) ++ (p ++ (q4 ++ rest)))).length ≤ 1000000) :
    Ev (fun k => wire_Frame.f k (l ++ (wcode 9 (zz p.length) ++ (p ++ (q4 ++ rest)))) l.length) (if q4 = fourOf (adl p) then (p, (l.length : Int) + ((wcode 9 (zz p.length)).length : Int) + (p.length : Int) + 4, 0) else ([], 0, 9)) := by
  obtain ⟨h1, h2, h3⟩ := piece_put l p (q4 ++ rest) hp
  obtain ⟨K, hK⟩ := sum_ev p (fun c hc => hb c (by simp [hc])) (by simp only [List.length_append] at hn; omega)
  have hdrop : (l ++ (wcode 9 (zz p.length) ++ (p ++ (q4 ++ rest)))).drop ((l.length : Int) + (wcode 9 (zz p.length)).length + p.length).toNat = q4 ++ rest := by
    rw [show ((l.length : Int) + (wcode 9 (zz p.length)).length + p.length).toNat = (l ++ (wcode 9 (zz p.length) ++ p)).length by simp only [List.length_append]; omega]
    rw [show l ++ (wcode 9 (zz p.length) ++ (p ++ (q4 ++ rest))) = (l ++ (wcode 9 (zz p.length) ++ p)) ++ (q4 ++ rest) by simp, List.drop_left]
  refine ⟨K, fun k hk => ?_⟩
  have hs : wire_Sum.f k p = some (adl p) := hK k hk
  show wire_Frame.f k _ _ = _
  unfold wire_Frame.f
  rw [if_pos ⟨hn, hb⟩, h1, if_pos rfl, h2, h3, if_neg (by simp only [List.length_append]; omega), hs, Option.bind_some]
  show ((wire_four.f (adl p)).bind _) = _
  rw [show wire_four.f (adl p) = some (fourOf (adl p)) from rfl, Option.bind_some, if_pos (show (fourOf (adl p)).length = 4 from rfl)]
  unfold sameAt
  rw [hdrop]
  have ht : (q4 ++ rest).take (fourOf (adl p)).length = q4 := by
    rw [show (fourOf (adl p)).length = q4.length from hq.symm, List.take_left]
  rw [ht]
  by_cases he : q4 = fourOf (adl p)
  · rw [if_pos (by simp [he]), if_pos he]
  · rw [if_neg (by simp [he]), if_neg he]
theorem putframe_ev (l p : List Int) (hl : l.length ≤ 400000) (hp : ∀ c ∈ p, 0 ≤ c ∧ c ≤ 255) (hn : p.length ≤ 400000) :
    Ev (fun k => wire_PutFrame.f k l p) (l ++ (wcode 9 (zz p.length) ++ (p ++ fourOf (adl p)))) := by
  obtain ⟨K, hK⟩ := sum_ev p hp (by omega)
  refine ⟨K, fun k hk => ?_⟩
  have hs : wire_Sum.f k p = some (adl p) := hK k hk
  show wire_PutFrame.f k l p = _
  unfold wire_PutFrame.f
  rw [hs, Option.bind_some, show wire_four.f (adl p) = some (fourOf (adl p)) from rfl, Option.bind_some, if_pos ⟨hl, hn, by simp [fourOf]⟩]
  simp
theorem code_bytes (n : Int) (h1 : -9223372036854775808 ≤ n) (h2 : n ≤ 9223372036854775807) : ∀ c ∈ wcode 9 (zz n), 0 ≤ c ∧ c ≤ 255 := by
  have hz := zz_range n h1 h2
  exact (wcode_facts 9 (zz n) hz.1 (z_lt n h1 h2) []).2.2.2.2.2.2
theorem goes_ev : Ev contangolaw04_goes.f true := by
  obtain ⟨K, hK⟩ := putframe_ev [] [97] (by decide) (by decide) (by decide)
  refine ⟨K, fun k hk => ?_⟩
  have h := hK k hk
  unfold contangolaw04_goes.f
  dsimp only at h
  rw [h, Option.bind_some]
  rfl
theorem wf8 {x : Int} (h : (Lit.int .u8 x).wf = true) : 0 ≤ x ∧ x ≤ 255 := by
  simp only [Lit.wf, Bool.and_eq_true, decide_eq_true_eq] at h
  exact h
theorem wf64 {x : Int} (h : (Lit.int .i64 x).wf = true) : -9223372036854775808 ≤ x ∧ x ≤ 9223372036854775807 := by
  simp only [Lit.wf, Bool.and_eq_true, decide_eq_true_eq] at h
  exact h
theorem sumLow_mod (l : List Int) : ∀ a, 0 ≤ a → a < 65521 → (∀ c ∈ l, 0 ≤ c ∧ c ≤ 255) → ∀ (m : Nat) (c : Int), m < l.length → 0 ≤ c → c ≤ 255 → c ≠ l.getD m 0 → sumLow a (l.set m c) ≠ sumLow a l := by
  have key : ∀ (l : List Int) (a b : Int), 0 ≤ a → a < 65521 → 0 ≤ b → b < 65521 → sumLow a l = sumLow b l → a = b := by
    intro l
    induction l with
    | nil => intro a b _ _ _ _ h; exact h
    | cons x l ih =>
      intro a b ha ha2 hb hb2 h
      have := ih ((a + x) % 65521) ((b + x) % 65521) (by omega) (by omega) (by omega) (by omega) h
      omega
  induction l with
  | nil => intro a _ _ _ m c hm; simp at hm
  | cons x l ih =>
    intro a ha ha2 hb m c hm hc hc2 hne
    have hx := hb x (by simp)
    cases m with
    | zero =>
      intro h
      simp only [List.set_cons_zero, sumLow] at h
      have := key l _ _ (by omega) (by omega) (by omega) (by omega) h
      simp only [List.getD_cons_zero] at hne
      omega
    | succ m =>
      intro h
      simp only [List.set_cons_succ, sumLow] at h
      simp only [List.getD_cons_succ] at hne
      exact ih _ (by omega) (by omega) (fun c hc => hb c (by simp [hc])) m c (by simpa using hm) hc hc2 hne h
theorem xor_u8 (a b : Nat) (ha : a < 256) (hb : b < 256) : Go.bits .xor .u8 (a : Int) (b : Int) = ((a ^^^ b : Nat) : Int) := by
  have hx : a ^^^ b < 2 ^ 8 := Nat.xor_lt_two_pow (by omega) (by omega)
  have h1 : (BitVec.ofInt 8 (a : Int)).toNat = a := by
    rw [BitVec.ofInt_natCast, BitVec.toNat_ofNat]; exact Nat.mod_eq_of_lt (by omega)
  have h2 : (BitVec.ofInt 8 (b : Int)).toNat = b := by
    rw [BitVec.ofInt_natCast, BitVec.toNat_ofNat]; exact Nat.mod_eq_of_lt (by omega)
  show IntKind.u8.wrap ((BitVec.ofInt 8 (a : Int) ^^^ BitVec.ofInt 8 (b : Int)).toNat : Int) = _
  rw [BitVec.toNat_xor, h1, h2, IntKind.wrap_u8]
  omega
theorem xor8 (x y : Int) (h0 : 0 ≤ x) (h1 : x ≤ 255) (h2 : 0 ≤ y) (h3 : y ≤ 255) : 0 ≤ Go.bits .xor .u8 x y ∧ Go.bits .xor .u8 x y ≤ 255 ∧ (Go.bits .xor .u8 x y = x ↔ y = 0) := by
  obtain ⟨a, rfl⟩ := Int.eq_ofNat_of_zero_le h0
  obtain ⟨b, rfl⟩ := Int.eq_ofNat_of_zero_le h2
  have h := xor_u8 a b (by omega) (by omega)
  have hx : a ^^^ b < 2 ^ 8 := Nat.xor_lt_two_pow (by omega) (by omega)
  rw [h]
  refine ⟨by omega, by omega, ?_⟩
  constructor
  · intro he
    have he2 : a ^^^ b = a := by omega
    have he3 : a ^^^ (a ^^^ b) = a ^^^ a := by rw [he2]
    rw [← Nat.xor_assoc, Nat.xor_self, Nat.zero_xor] at he3
    omega
  · intro he
    have : b = 0 := by omega
    rw [this, Nat.xor_zero]
theorem spoilt_frame (p : List Int) (hp : p.length ≤ 5000) (hb : ∀ c ∈ p, 0 ≤ c ∧ c ≤ 255) (m : Nat) (hm : m < p.length + 4) (c : Int) (hc : 0 ≤ c) (hc2 : c ≤ 255) (t : List Int) (ht : t = wcode 9 (zz p.length) ++ (p ++ fourOf (adl p))) :
    Ev (fun k => wire_Frame.f k (t.set ((wcode 9 (zz p.length)).length + m) c) 0) (if c = rd t ((wcode 9 (zz p.length)).length + m : Nat) then (p, (t.length : Int), 0) else ([], 0, 9)) := by
  have hcl := wcode_len 9 (zz p.length)
  have hcb := code_bytes p.length (by omega) (by omega)
  have hrd : rd t ((wcode 9 (zz p.length)).length + m : Nat) = (p ++ fourOf (adl p)).getD m 0 := by
    unfold rd
    rw [ht, Int.toNat_natCast, List.getD_eq_getElem?_getD, List.getD_eq_getElem?_getD, List.getElem?_append_right (by omega), Nat.add_sub_cancel_left]
  have hset : t.set ((wcode 9 (zz p.length)).length + m) c = wcode 9 (zz p.length) ++ (p ++ fourOf (adl p)).set m c := by
    rw [ht, List.set_append, if_neg (by omega), Nat.add_sub_cancel_left]
  have htl : t.length = (wcode 9 (zz p.length)).length + p.length + 4 := by rw [ht]; simp [fourOf]; omega
  have hfb := fourOf_bytes (adl p)
  rw [hrd, hset]
  by_cases hmp : m < p.length
  · have hs : (p ++ fourOf (adl p)).set m c = p.set m c ++ fourOf (adl p) := by rw [List.set_append, if_pos hmp]
    have hg : (p ++ fourOf (adl p)).getD m 0 = p.getD m 0 := by rw [List.getD_eq_getElem?_getD, List.getD_eq_getElem?_getD, List.getElem?_append_left hmp]
    rw [hs, hg]
    have hbs : ∀ x ∈ p.set m c, 0 ≤ x ∧ x ≤ 255 := by
      intro x hx
      rcases List.mem_or_eq_of_mem_set hx with h | h
      · exact hb x h
      · omega
    have hf := frame_read [] (p.set m c) (fourOf (adl p)) [] rfl (by rw [List.length_set]; omega) (by
      intro x hx
      rw [List.length_set] at hx
      simp only [List.nil_append, List.append_nil, List.mem_append] at hx
      rcases hx with h | h | h
      · exact hcb x h
      · exact hbs x h
      · exact hfb x h) (by simp [fourOf]; omega)
    rw [List.length_set] at hf
    simp only [List.nil_append, List.append_nil, List.length_nil] at hf
    refine cast (congrArg (Ev _) ?_) hf
    by_cases he : c = p.getD m 0
    · have hpe : p.set m c = p := by
        apply List.ext_getElem?
        intro j
        rw [List.getElem?_set]
        split
        · rename_i h; subst h
          rw [he, List.getD_eq_getElem?_getD, List.getElem?_eq_getElem hmp, Option.getD_some]
        · rfl
      rw [hpe, if_pos rfl, if_pos he, htl]
      simp
    · rw [if_neg he, if_neg]
      intro h
      have hne := sumLow_mod p 1 (by omega) (by omega) hb m c hmp hc hc2 he
      have r1 := sumLow_range p 1 (by omega) (by omega)
      have r2 := sumLow_range (p.set m c) 1 (by omega) (by omega)
      simp only [fourOf, adl, List.cons.injEq] at h
      obtain ⟨_, _, h3, h4, _⟩ := h
      omega
  · have hs : (p ++ fourOf (adl p)).set m c = p ++ (fourOf (adl p)).set (m - p.length) c := by rw [List.set_append, if_neg hmp]
    have hg : (p ++ fourOf (adl p)).getD m 0 = (fourOf (adl p)).getD (m - p.length) 0 := by rw [List.getD_eq_getElem?_getD, List.getD_eq_getElem?_getD, List.getElem?_append_right (by omega)]
    rw [hs, hg]
    have hq4 : (fourOf (adl p)).length = 4 := rfl
    have hf := frame_read [] p ((fourOf (adl p)).set (m - p.length) c) [] (by rw [List.length_set]; rfl) (by omega) (by
      intro x hx
      simp only [List.nil_append, List.append_nil, List.mem_append] at hx
      rcases hx with h | h | h
      · exact hcb x h
      · exact hb x h
      · rcases List.mem_or_eq_of_mem_set h with h | h
        · exact hfb x h
        · omega) (by simp [fourOf]; omega)
    simp only [List.nil_append, List.append_nil, List.length_nil] at hf
    refine cast (congrArg (Ev _) ?_) hf
    by_cases he : c = (fourOf (adl p)).getD (m - p.length) 0
    · have hpe : (fourOf (adl p)).set (m - p.length) c = fourOf (adl p) := by
        apply List.ext_getElem?
        intro j
        rw [List.getElem?_set]
        split
        · rename_i h; subst h
          have hlt : m - p.length < (fourOf (adl p)).length := by rw [hq4]; omega
          rw [if_pos hlt, he, List.getD_eq_getElem?_getD, List.getElem?_eq_getElem hlt, Option.getD_some]
        · rfl
      rw [hpe, if_pos rfl, if_pos he, htl]
      simp
    · rw [if_neg he, if_neg]
      intro h
      apply he
      have hlt : m - p.length < (fourOf (adl p)).length := by rw [hq4]; omega
      have h2 : ((fourOf (adl p)).set (m - p.length) c)[m - p.length]? = (fourOf (adl p))[m - p.length]? := by rw [h]
      rw [List.getElem?_set, if_pos rfl, if_pos hlt] at h2
      rw [List.getD_eq_getElem?_getD, ← h2, Option.getD_some]
theorem strOf_eq_refl (a : List Int) : (strOfNums a).toList = (strOfNums a).toList := rfl
theorem sp2 (cl n tl : Nat) (h : tl = cl + n + 4) (h2 : cl ≤ 9 + 1) (h3 : n ≤ 5000) : wrap64 (wrap64 ((tl : Int) - (n : Int)) - 4) = cl := by
  rw [w64p ((tl : Int) - (n : Int)) (by omega) (by omega), w64p _ (by omega) (by omega)]; omega
theorem sp3 (n : Nat) (h3 : n ≤ 5000) : wrap64 ((n : Int) + 4) = n + 4 := w64p _ (by omega) (by omega)
theorem sp4 (n : Nat) (h3 : n ≤ 5000) : IntKind.u64.wrap ((n : Int) + 4) = n + 4 := by rw [IntKind.wrap_u64]; omega
theorem sp6 (m n : Nat) (h : m < n + 4) (h3 : n ≤ 5000) : wrap64 (m : Int) = m := w64p _ (by omega) (by omega)
theorem sp7 (cl m n : Nat) (h2 : cl ≤ 9 + 1) (h : m < n + 4) (h3 : n ≤ 5000) : wrap64 ((cl : Int) + (m : Int)) = ((cl + m : Nat) : Int) := by rw [w64p _ (by omega) (by omega)]; omega
theorem WireSpoilt : contangolaw04_WireSpoilt.Pure := by
  intro l0 a1 a2 hm hm1 hw hw1 hw2
  have hb : ∀ c ∈ l0, 0 ≤ c ∧ c ≤ 255 := fun c hc => wf8 (hw c hc)
  have h2 := wf8 hw2
  have h1 := wf64 hw1
  obtain ⟨K1, hK1⟩ := goes_ev
  by_cases hl : (l0.length : Int) > 5000
  · refine ⟨K1, ?_⟩
    unfold contangolaw04_WireSpoilt.f
    rw [if_pos hl, hK1 K1 (Nat.le_refl _)]
    rfl
  have hcl := wcode_len 9 (zz l0.length)
  have hcb := code_bytes l0.length (by omega) (by omega)
  obtain ⟨K2, hK2⟩ := putframe_ev [] l0 (by simp) hb (by omega)
  rw [List.nil_append] at hK2
  generalize ht : wcode 9 (zz l0.length) ++ (l0 ++ fourOf (adl l0)) = t at hK2
  have htl : t.length = (wcode 9 (zz l0.length)).length + l0.length + 4 := by rw [← ht]; simp [fourOf]; omega
  obtain ⟨cl, hcl0⟩ : ∃ cl, (wcode 9 (zz l0.length)).length = cl := ⟨_, rfl⟩
  rw [hcl0] at htl hcl
  have HCL := Aside0.mk hcl0
  clear hcl0
  have htb : ∀ c ∈ t, 0 ≤ c ∧ c ≤ 255 := by
    intro x hx
    rw [← ht] at hx
    simp only [List.mem_append] at hx
    rcases hx with h | h | h
    · exact hcb x h
    · exact hb x h
    · exact fourOf_bytes _ x h
  have hu : 0 ≤ IntKind.u64.wrap a1 := by rw [IntKind.wrap_u64]; omega
  generalize hua : IntKind.u64.wrap a1 = u at hu
  have e5 : Int.tmod u ((l0.length : Int) + 4) = u % ((l0.length : Int) + 4) := Int.tmod_eq_emod_of_nonneg hu
  have r1 := Int.emod_nonneg u (show (l0.length : Int) + 4 ≠ 0 by omega)
  have r2 := Int.emod_lt_of_pos u (show 0 < (l0.length : Int) + 4 by omega)
  obtain ⟨m, hmm⟩ : ∃ m : Nat, u % ((l0.length : Int) + 4) = m := ⟨(u % ((l0.length : Int) + 4)).toNat, by omega⟩
  have hm4 : m < l0.length + 4 := by omega
  have g1 : ¬ ((cl : Int) < 1) := by omega
  have g2 : ¬ ((l0.length : Int) + 4 = 0) := by omega
  have g3 : (0 : Int) ≤ ((cl + m : Nat) : Int) := by omega
  have g4 : ((cl + m : Nat) : Int) < (t.length : Int) := by omega
  have hrb : 0 ≤ rd t ((cl + m : Nat) : Int) ∧ rd t ((cl + m : Nat) : Int) ≤ 255 := by
    unfold rd
    rw [Int.toNat_natCast, List.getD_eq_getElem?_getD, List.getElem?_eq_getElem (by omega)]
    exact htb _ (List.getElem_mem _)
  obtain ⟨x1, x2, x3⟩ := xor8 _ a2 hrb.1 hrb.2 h2.1 h2.2
  have hsf := spoilt_frame l0 (by omega) hb m (by omega) _ x1 x2 t ht.symm
  rw [HCL.out] at hsf
  obtain ⟨K3, hK3⟩ := hsf
  have hl5 : l0.length ≤ 5000 := by omega
  have k1 : K1 ≤ K1 + K2 + K3 := by omega
  have k2 : K2 ≤ K1 + K2 + K3 := by omega
  have k3 : K3 ≤ K1 + K2 + K3 := by omega
  have e2 := sp2 cl l0.length t.length htl hcl.2 hl5
  have e3 : wrap64 ((l0.length : Int) + 4) = l0.length + 4 := sp3 l0.length hl5
  have e4 : IntKind.u64.wrap ((l0.length : Int) + 4) = l0.length + 4 := sp4 l0.length hl5
  have e6 : wrap64 (u % ((l0.length : Int) + 4)) = m := by rw [hmm]; exact sp6 m l0.length hm4 hl5
  have e7 : wrap64 ((cl : Int) + (m : Int)) = ((cl + m : Nat) : Int) := sp7 cl m l0.length hcl.2 hm4 hl5
  refine ⟨K1 + K2 + K3, ?_⟩
  unfold contangolaw04_WireSpoilt.f
  have HE := Aside0.mk (And.intro e2 (And.intro e3 (And.intro e4 (And.intro e5 (And.intro e6 e7)))))
  clear e2 e3 e4 e5 e6 e7
  have f1 := hK1 (K1 + K2 + K3) k1
  have f2 : wire_PutFrame.f (K1 + K2 + K3) [] l0 = some t := hK2 (K1 + K2 + K3) k2
  have f3 := hK3 (K1 + K2 + K3) k3
  dsimp only at f3
  clear k1 k2 k3
  generalize K1 + K2 + K3 = K at *
  obtain ⟨e2, e3, e4, e5, e6, e7⟩ := HE.out
  rw [if_neg hl, f2, Option.bind_some]
  simp only [e2, e3, e4, hua, e5, e6, e7]
  simp only [if_neg g1, if_neg g2, if_pos g3, if_pos g4, Int.toNat_natCast]
  rw [f3, Option.bind_some]
  by_cases h0 : a2 = 0
  · rw [if_pos h0, if_pos (x3.2 h0), if_pos (by simp), if_pos (by simp), if_pos (by simp), f1, Option.bind_some]
  · rw [if_neg h0, if_neg (fun h => h0 (x3.1 h)), if_pos (by simp), if_pos (by simp), if_pos (by simp), f1, Option.bind_some]
end Go.Proofs.Ytnimfimcpjmbnaa.Pure
