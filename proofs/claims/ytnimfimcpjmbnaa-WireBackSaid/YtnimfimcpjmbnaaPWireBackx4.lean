/- Laid for this claim by a program of this session's (wip/mkprint.py, wip/ext.py); not trusted: Lean checks it. -/
import Derived.Test.YtnimfimcpjmbnaaPWireBackx0
import Derived.Test.YtnimfimcpjmbnaaPWireBackx1
import Derived.Test.YtnimfimcpjmbnaaPWireBackx2
import Derived.Test.YtnimfimcpjmbnaaPWireBackx3
namespace Go.Proofs.Ytnimfimcpjmbnaa.PWireBack
open Go.RowKit Go.Proofs.YtnimfimcpjmbnaaW.PrintWords Go.Proofs.YtnimfimcpjmbnaaW.PrintLast Go.Proofs.YtnimfimcpjmbnaaW.PrintMore
attribute [local go_sem] max2_int min2_int max_two min_two max_three min_three max_four min_four   -- for this text's walks alone
set_option linter.unusedVariables false
set_option linter.unusedSimpArgs false

/-! ### contangolaw04_WireBack: function 6 -/
/-! ### from some number of rounds on: steps -/
/-! ### lists given by a function of the place -/
/-! ### a loop, from its end backwards -/
theorem w64p (x : Int) (h : -9223372036854775808 ≤ x) (h2 : x ≤ 9223372036854775807) : wrap64 x = x := by
  unfold wrap64; omega
theorem pow128 (f : Nat) : (128 : Int) ^ (f + 1) = 128 * 128 ^ f := by rw [Int.pow_succ]; omega
theorem wcode_facts (f : Nat) : ∀ u : Int, 0 ≤ u → u < 128 ^ (f + 1) → ∀ rest : List Int,
    stopAt (wcode f u ++ rest) + 1 = (wcode f u).length ∧ uval (wcode f u) = u ∧ (wcode f u).length ≤ f + 1 ∧
    0 ≤ (wcode f u).getD ((wcode f u).length - 1) 0 ∧ (1 < (wcode f u).length → 0 < (wcode f u).getD ((wcode f u).length - 1) 0) ∧
    (wcode f u).getD ((wcode f u).length - 1) 0 * 128 ^ ((wcode f u).length - 1) ≤ u ∧ (∀ c ∈ wcode f u, 0 ≤ c ∧ c ≤ 255) := by
  induction f with
  | zero =>
    intro u h0 h1 rest
    have h2 : u < 128 := by simpa using h1
    simp [wcode, stopAt, uval, h2]
    omega
  | succ f ih =>
    intro u h0 h1 rest
    by_cases h : u > 127
    · have hp := pow128 (f + 1)
      rw [hp] at h1
      obtain ⟨a1, a2, a3, a4, a5, a6, a7⟩ := ih (u / 128) (by omega) (by omega) rest
      have hw : wcode (f + 1) u = (u % 128 + 128) :: wcode f (u / 128) := by simp [wcode, h]
      have hpos := (wcode_len f (u / 128)).1
      have hlast : ((u % 128 + 128) :: wcode f (u / 128)).getD (((u % 128 + 128) :: wcode f (u / 128)).length - 1) 0 = (wcode f (u / 128)).getD ((wcode f (u / 128)).length - 1) 0 := by
        rw [List.length_cons, Nat.add_sub_cancel]
        obtain ⟨m, hm⟩ : ∃ m, (wcode f (u / 128)).length = m + 1 := ⟨(wcode f (u / 128)).length - 1, by omega⟩
        rw [hm]; simp
      rw [hw, hlast]
      refine ⟨?_, ?_, ?_, a4, ?_, ?_, ?_⟩
      · rw [List.cons_append, stopAt, if_neg (by omega), List.length_cons, a1]
      · rw [uval, a2]; omega
      · rw [List.length_cons]; omega
      · intro _
        by_cases h5 : 1 < (wcode f (u / 128)).length
        · exact a5 h5
        · have h6 : (wcode f (u / 128)).length = 1 := by omega
          rw [h6] at a6 ⊢
          have : uval (wcode f (u / 128)) = u / 128 := a2
          match hq : wcode f (u / 128), h6 with
          | [c], _ =>
            rw [hq] at this a7
            have h7 := a7 c (by simp)
            simp [uval] at this
            simp only [Nat.sub_self, List.getD_cons_zero]
            omega
      · rw [List.length_cons, Nat.add_sub_cancel]
        obtain ⟨m, hm⟩ : ∃ m, (wcode f (u / 128)).length = m + 1 := ⟨(wcode f (u / 128)).length - 1, by omega⟩
        rw [hm] at a6 ⊢
        rw [Nat.add_sub_cancel] at a6
        rw [Nat.add_sub_cancel, pow128]
        generalize (wcode f (u / 128)).getD m 0 = x at *
        generalize (128 : Int) ^ m = y at *
        have : x * (128 * y) = 128 * (x * y) := by rw [← Int.mul_assoc, Int.mul_comm x 128, Int.mul_assoc]
        rw [this]; omega
      · intro c hc
        rcases List.mem_cons.1 hc with rfl | hc
        · omega
        · exact a7 c hc
    · have hw : wcode (f + 1) u = [u] := by simp [wcode, h]
      rw [hw]
      have h2 : u < 128 := by omega
      simp [stopAt, uval, h2]
      omega
theorem uval_take_wcode (f : Nat) (u : Int) (rest : List Int) (h0 : 0 ≤ u) (h1 : u < 128 ^ (f + 1)) :
    uval ((wcode f u ++ rest).take (stopAt (wcode f u ++ rest) + 1)) = u := by
  obtain ⟨a1, a2, _⟩ := wcode_facts f u h0 h1 rest
  rw [a1, List.take_left, a2]
theorem z_lt (n : Int) (h1 : -9223372036854775808 ≤ n) (h2 : n ≤ 9223372036854775807) : zz n < 128 ^ (9 + 1) := by
  have := (zz_range n h1 h2).2
  have h3 : (128 : Int) ^ (9 + 1) = 1180591620717411303424 := by decide
  rw [h3]; omega
theorem int_put (l : List Int) (n : Int) (rest : List Int) (h1 : -9223372036854775808 ≤ n) (h2 : n ≤ 9223372036854775807) :
    intSpec (l ++ (wcode 9 (zz n) ++ rest)) l.length = (n, (l.length : Int) + ((wcode 9 (zz n)).length : Int), 0) := by
  have hz := zz_range n h1 h2
  obtain ⟨a1, a2, a3, a4, a5, a6, a7⟩ := wcode_facts 9 (zz n) hz.1 (z_lt n h1 h2) rest
  have hpos := (wcode_len 9 (zz n)).1
  have ht := uval_take_wcode 9 (zz n) rest hz.1 (z_lt n h1 h2)
  have hd : (l ++ (wcode 9 (zz n) ++ rest)).drop ((l.length : Int)).toNat = wcode 9 (zz n) ++ rest := by simp
  have hlast : rd (l ++ (wcode 9 (zz n) ++ rest)) ((l.length : Int) + (stopAt (wcode 9 (zz n) ++ rest) : Int)) = (wcode 9 (zz n)).getD ((wcode 9 (zz n)).length - 1) 0 := by
    unfold rd
    rw [show ((l.length : Int) + (stopAt (wcode 9 (zz n) ++ rest) : Int)).toNat = l.length + ((wcode 9 (zz n)).length - 1) by omega]
    rw [List.getD_eq_getElem?_getD, List.getD_eq_getElem?_getD, List.getElem?_append_right (by omega), Nat.add_sub_cancel_left, List.getElem?_append_left (by omega)]
  unfold intSpec
  rw [if_neg (by simp only [List.length_append]; omega), hd, if_neg (by simp only [List.length_append]; omega), hlast, ht]
  rw [if_neg]
  · have h3 : (stopAt (wcode 9 (zz n) ++ rest) : Int) + 1 = (wcode 9 (zz n)).length := by omega
    refine Prod.ext ?_ (Prod.ext ?_ rfl)
    · show (if zz n % 2 = 1 then -(zz n / 2) - 1 else zz n / 2) = n
      unfold zz
      split <;> split <;> omega
    · show (l.length : Int) + (stopAt (wcode 9 (zz n) ++ rest) : Int) + 1 = (l.length : Int) + ((wcode 9 (zz n)).length : Int)
      omega
  · intro h
    rcases h with ⟨h, h'⟩ | h | ⟨h, h'⟩
    · have := a5 (by omega); omega
    · omega
    · have h10 : (wcode 9 (zz n)).length - 1 = 9 := by omega
      rw [h10] at a6 h'
      have : (128 : Int) ^ 9 = 9223372036854775808 := by decide
      rw [this] at a6
      omega
/-- a piece -/
theorem piece_put (l p rest : List Int) (hp : p.length ≤ 65536) :
    pieceErr (l ++ (wcode 9 (zz p.length) ++ (p ++ rest))) l.length = 0 ∧ pieceOf (l ++ (wcode 9 (zz p.length) ++ (p ++ rest))) l.length = p ∧
    (intSpec (l ++ (wcode 9 (zz p.length) ++ (p ++ rest))) l.length).2.1 + (intSpec (l ++ (wcode 9 (zz p.length) ++ (p ++ rest))) l.length).1 = (l.length : Int) + ((wcode 9 (zz p.length)).length : Int) + (p.length : Int) := by
  have h := int_put l p.length (p ++ rest) (by omega) (by omega)
  unfold pieceErr pieceOf
  rw [h]
  dsimp only
  refine ⟨?_, ?_, ?_⟩
  · rw [if_neg (by simp), if_neg (by omega), if_neg (by omega), if_neg (by simp only [List.length_append]; omega)]
  · rw [show ((l.length : Int) + ((wcode 9 (zz p.length)).length : Int) + (p.length : Int)).toNat = (l ++ (wcode 9 (zz p.length) ++ p)).length by simp only [List.length_append]; omega]
    rw [show ((l.length : Int) + ((wcode 9 (zz p.length)).length : Int)).toNat = (l ++ wcode 9 (zz p.length)).length by simp only [List.length_append]; omega]
    rw [show l ++ (wcode 9 (zz p.length) ++ (p ++ rest)) = (l ++ (wcode 9 (zz p.length) ++ p)) ++ rest by simp, List.take_left, show l ++ (wcode 9 (zz p.length) ++ p) = (l ++ wcode 9 (zz p.length)) ++ p by simp, List.drop_left]
  · rfl
theorem piece_long (l p rest : List Int) (hp : 65536 < p.length) (hp2 : p.length ≤ 1000000) :
    pieceErr (l ++ (wcode 9 (zz p.length) ++ (p ++ rest))) l.length = 8 := by
  have h := int_put l p.length (p ++ rest) (by omega) (by omega)
  unfold pieceErr
  rw [h]
  dsimp only
  rw [if_neg (by simp), if_neg (by omega), if_pos (by omega)]
/-- the sum's two halves -/
def sumLow (a : Int) : List Int → Int
  | [] => a
  | c :: l => sumLow ((a + c) % 65521) l
def sumHigh (a b : Int) : List Int → Int
  | [] => b
  | c :: l => sumHigh ((a + c) % 65521) ((b + (a + c) % 65521) % 65521) l
def adl (p : List Int) : Int := sumHigh 1 0 p * 65536 + sumLow 1 p
theorem or_u32 (a b : Nat) (ha : a < 4294967296) (hb : b < 4294967296) : Go.bits .or .u32 (a : Int) (b : Int) = ((a ||| b : Nat) : Int) := by
  have hx : a ||| b < 2 ^ 32 := Nat.or_lt_two_pow (by omega) (by omega)
  have h1 : (BitVec.ofInt 32 (a : Int)).toNat = a := by
    rw [BitVec.ofInt_natCast, BitVec.toNat_ofNat]; exact Nat.mod_eq_of_lt (by omega)
  have h2 : (BitVec.ofInt 32 (b : Int)).toNat = b := by
    rw [BitVec.ofInt_natCast, BitVec.toNat_ofNat]; exact Nat.mod_eq_of_lt (by omega)
  show IntKind.u32.wrap ((BitVec.ofInt 32 (a : Int) ||| BitVec.ofInt 32 (b : Int)).toNat : Int) = _
  rw [BitVec.toNat_or, h1, h2, IntKind.wrap_u32]
  omega
theorem or16 (h l : Int) (hh : 0 ≤ h) (hh2 : h < 65521) (hl : 0 ≤ l) (hl2 : l < 65521) : Go.bits .or .u32 ((h * 65536) % 4294967296) l = h * 65536 + l := by
  obtain ⟨h', rfl⟩ := Int.eq_ofNat_of_zero_le hh
  obtain ⟨l', rfl⟩ := Int.eq_ofNat_of_zero_le hl
  rw [Int.emod_eq_of_lt (by omega) (by omega)]
  have h4 := or_u32 (h' * 65536) l' (by omega) (by omega)
  have h6 := Nat.shiftLeft_add_eq_or_of_lt (i := 16) (b := l') (by omega) h'
  rw [Nat.shiftLeft_eq] at h6
  rw [← h6] at h4
  have e : (((h' * 65536 : Nat)) : Int) = (h' : Int) * 65536 := by simp
  rw [← e]
  refine h4.trans ?_
  simp
theorem sum_l0 (xs : List Int) (hx : ∀ c ∈ xs, 0 ≤ c ∧ c ≤ 255) (hn : xs.length ≤ 1000000) : ∀ (m i : Nat) (a b : Int), i + m = xs.length → 0 ≤ a → a < 65521 → 0 ≤ b → b < 65521 →
    wire_Sum.l0 (m + 1) a b xs xs.length i = some (sumHigh a b (xs.drop i) * 65536 + sumLow a (xs.drop i)) := by
  intro m
  induction m with
  | zero =>
    intro i a b hi ha ha2 hb hb2
    have hd : xs.drop i = [] := List.drop_eq_nil_of_le (by omega)
    unfold wire_Sum.l0
    rw [if_neg (by omega), hd, or16 _ _ hb hb2 ha ha2]
    rfl
  | succ m ih =>
    intro i a b hi ha ha2 hb hb2
    have hlt : i < xs.length := by omega
    have hd : xs.drop i = xs[i] :: xs.drop (i + 1) := List.drop_eq_getElem_cons hlt
    have hr : rd xs (i : Int) = xs[i] := by unfold rd; simp [List.getD_eq_getElem?_getD, hlt]
    have hb3 := hx _ (List.getElem_mem hlt)
    unfold wire_Sum.l0
    rw [if_pos (by omega), if_pos (by omega), if_pos (by omega), hr, hd]
    generalize xs[i] = c at *
    rw [show (a + c % 4294967296) % 4294967296 = a + c by omega]
    have hw : wrap64 ((i : Int) + 1) = ((i + 1 : Nat) : Int) := by rw [w64p _ (by omega) (by omega)]; simp
    rw [hw, show (b + (a + c) % 65521) % 4294967296 = b + (a + c) % 65521 by omega]
    exact ih (i + 1) _ _ (by omega) (by omega) (by omega) (by omega) (by omega)
theorem sum_ev (p : List Int) (hp : ∀ c ∈ p, 0 ≤ c ∧ c ≤ 255) (hn : p.length ≤ 1000000) : Ev (fun k => wire_Sum.f k p) (adl p) :=
  Ev.of (wire_Sum.mono p) (k := p.length + 1) (sum_l0 p hp hn p.length 0 1 0 (by omega) (by omega) (by omega) (by omega) (by omega))
def fourOf (a : Int) : List Int := [(a / 16777216) % 256, (a / 65536) % 256, (a / 256) % 256, a % 256]
theorem frame_read (l p q4 rest : List Int) (hq : q4.length = 4) (hp : p.length ≤ 65536)
    (hb : ∀ c ∈ l ++ (wcode 9 (zz p.length) ++ (p ++ (q4 ++ rest))), 0 ≤ c ∧ c ≤ 255) (hn : (l ++ (wcode 9 (zz p.length) ++ (p ++ (q4 ++ rest)))).length ≤ 1000000) :
    Ev (fun k => wire_Frame.f k (l ++ (wcode 9 (zz p.length) ++ (p ++ (q4 ++ rest)))) l.length) (if q4 = fourOf (adl p) then (p, (l.length : Int) + ((wcode 9 (zz p.length)).length : Int) + (p.length : Int) + 4, 0) else ([], 0, 9)) := by
  obtain ⟨h1, h2, h3⟩ := piece_put l p (q4 ++ rest) hp
  obtain ⟨K, hK⟩ := sum_ev p (fun c hc => hb c (by simp [hc])) (by simp only [List.length_append] at hn; omega)
  have hdrop : (l ++ (wcode 9 (zz p.length) ++ (p ++ (q4 ++ rest)))).drop ((l.length : Int) + (wcode 9 (zz p.length)).length + p.length).toNat = q4 ++ rest := by
    rw [show ((l.length : Int) + (wcode 9 (zz p.length)).length + p.length).toNat = (l ++ (wcode 9 (zz p.length) ++ p)).length by simp only [List.length_append]; omega]
    rw [show l ++ (wcode 9 (zz p.length) ++ (p ++ (q4 ++ rest))) = (l ++ (wcode 9 (zz p.length) ++ p)) ++ (q4 ++ rest) by simp, List.drop_left]
  refine ⟨K, fun k hk => ?_⟩
  have hs : wire_Sum.f k p = some (adl p) := hK k hk
  show wire_Frame.f k _ _ = _
  unfold wire_Frame.f
  rw [if_pos ⟨hn, hb⟩, h1, if_pos rfl, h2, h3, if_neg (by simp only [List.length_append]; omega), hs, Option.bind_some]
  show ((wire_four.f (adl p)).bind _) = _
  rw [show wire_four.f (adl p) = some (fourOf (adl p)) from rfl, Option.bind_some, if_pos (show (fourOf (adl p)).length = 4 from rfl)]
  unfold sameAt
  rw [hdrop]
  have ht : (q4 ++ rest).take (fourOf (adl p)).length = q4 := by
    rw [show (fourOf (adl p)).length = q4.length from hq.symm, List.take_left]
  rw [ht]
  by_cases he : q4 = fourOf (adl p)
  · rw [if_pos (by simp [he]), if_pos he]
  · rw [if_neg (by simp [he]), if_neg he]
theorem putframe_ev (l p : List Int) (hl : l.length ≤ 400000) (hp : ∀ c ∈ p, 0 ≤ c ∧ c ≤ 255) (hn : p.length ≤ 400000) :
    Ev (fun k => wire_PutFrame.f k l p) (l ++ (wcode 9 (zz p.length) ++ (p ++ fourOf (adl p)))) := by
  obtain ⟨K, hK⟩ := sum_ev p hp (by omega)
  refine ⟨K, fun k hk => ?_⟩
  have hs : wire_Sum.f k p = some (adl p) := hK k hk
  show wire_PutFrame.f k l p = _
  unfold wire_PutFrame.f
  rw [hs, Option.bind_some, show wire_four.f (adl p) = some (fourOf (adl p)) from rfl, Option.bind_some, if_pos ⟨hl, hn, by simp [fourOf]⟩]
  simp
theorem code_bytes (n : Int) (h1 : -9223372036854775808 ≤ n) (h2 : n ≤ 9223372036854775807) : ∀ c ∈ wcode 9 (zz n), 0 ≤ c ∧ c ≤ 255 := by
  have hz := zz_range n h1 h2
  exact (wcode_facts 9 (zz n) hz.1 (z_lt n h1 h2) []).2.2.2.2.2.2
theorem goes_ev : Ev contangolaw04_goes.f true := by
  obtain ⟨K, hK⟩ := putframe_ev [] [97] (by decide) (by decide) (by decide)
  refine ⟨K, fun k hk => ?_⟩
  have h := hK k hk
  unfold contangolaw04_goes.f
  dsimp only at h
  rw [h, Option.bind_some]
  rfl
def CanT : List Int → Prop
  | [] => False
  | [c] => 1 ≤ c ∧ c < 128
  | c :: d :: r => 128 ≤ c ∧ c ≤ 255 ∧ CanT (d :: r)
theorem canT_pos : ∀ ds : List Int, CanT ds → 0 < uval ds
  | [], h => by cases h
  | [c], h => by
    obtain ⟨h1, h2⟩ : 1 ≤ c ∧ c < 128 := h
    simp only [uval]; omega
  | c :: d :: r, h => by
    obtain ⟨h1, h2, h3⟩ : 128 ≤ c ∧ c ≤ 255 ∧ CanT (d :: r) := h
    have := canT_pos (d :: r) h3
    rw [uval]; omega
theorem canT_code : ∀ (ds : List Int) (f : Nat), CanT ds → ds.length ≤ f + 1 → wcode f (uval ds) = ds
  | [], _, h, _ => by cases h
  | [c], f, h, _ => by
    obtain ⟨h1, h2⟩ : 1 ≤ c ∧ c < 128 := h
    have e : uval [c] = c := by simp only [uval]; omega
    rw [e]
    cases f with
    | zero => rfl
    | succ f => rw [wcode, if_neg (by omega)]
  | c :: d :: r, f, h, hl => by
    obtain ⟨h1, h2, h3⟩ : 128 ≤ c ∧ c ≤ 255 ∧ CanT (d :: r) := h
    have hp := canT_pos (d :: r) h3
    cases f with
    | zero => simp at hl
    | succ f =>
      have ih := canT_code (d :: r) f h3 (by simpa using hl)
      rw [uval, wcode, if_pos (by omega), show (c % 128 + 128 * uval (d :: r)) % 128 + 128 = c by omega, show (c % 128 + 128 * uval (d :: r)) / 128 = uval (d :: r) by omega, ih]
theorem stop_can : ∀ l : List Int, (∀ c ∈ l, 0 ≤ c ∧ c ≤ 255) → stopAt l < l.length → l.getD (stopAt l) 0 ≠ 0 → CanT (l.take (stopAt l + 1))
  | [], _, h, _ => by simp at h
  | c :: l, hb, h, hz => by
    have hc := hb c (by simp)
    rw [stopAt] at h hz ⊢
    by_cases h1 : c < 128
    · rw [if_pos h1] at hz ⊢
      have hz : c ≠ 0 := hz
      show 1 ≤ c ∧ c < 128
      omega
    · rw [if_neg h1] at h hz ⊢
      have ih := stop_can l (fun x hx => hb x (by simp [hx])) (by simpa using h) hz
      rw [List.take_succ_cons]
      cases ht : l.take (stopAt l + 1) with
      | nil => rw [ht] at ih; cases ih
      | cons d r =>
        rw [ht] at ih
        exact ⟨by omega, hc.2, ih⟩
theorem int_canon (l0 : List Int) (hb : ∀ c ∈ l0, 0 ≤ c ∧ c ≤ 255) : (intSpec l0 0).2.2 = 0 → 0 < (intSpec l0 0).2.1 ∧ (intSpec l0 0).2.1 ≤ l0.length ∧ -9223372036854775808 ≤ (intSpec l0 0).1 ∧ (intSpec l0 0).1 ≤ 9223372036854775807 ∧ wcode 9 (zz (intSpec l0 0).1) = l0.take (intSpec l0 0).2.1.toNat := by
  intro he
  have hle := stop_le l0
  have hs : stopAt l0 < l0.length := by
    by_cases h : stopAt l0 = l0.length
    · unfold intSpec at he
      rw [if_neg (by omega), if_pos (show stopAt (l0.drop (0 : Int).toNat) = (l0.drop (0 : Int).toNat).length from h)] at he
      cases he
    · omega
  have hT : ¬ ((rd l0 ((0 : Int) + (stopAt l0 : Int)) = 0 ∧ 0 < stopAt l0) ∨ 9 < stopAt l0 ∨ (stopAt l0 = 9 ∧ 1 < rd l0 ((0 : Int) + (stopAt l0 : Int)))) := by
    intro hT
    have h5 : intSpec l0 0 = (0, 0, 5) := by
      unfold intSpec
      rw [if_neg (by omega), if_neg (show ¬ stopAt (l0.drop (0 : Int).toNat) = (l0.drop (0 : Int).toNat).length from (by show ¬ stopAt l0 = l0.length; omega))]
      exact if_pos hT
    rw [h5] at he
    cases he
  have hg := int_spec_good l0 0 (stopAt l0) (uval (l0.take (stopAt l0 + 1))) (by omega) (by omega) rfl hs hT rfl
  have hr : rd l0 ((0 : Int) + (stopAt l0 : Int)) = l0.getD (stopAt l0) 0 := by rw [Int.zero_add]; rfl
  rw [hr] at hT
  have hat := stop_at l0 hs
  have hmem : l0.getD (stopAt l0) 0 ∈ l0 := by
    rw [List.getD_eq_getElem?_getD, List.getElem?_eq_getElem hs]; exact List.getElem_mem hs
  have hby := hb _ hmem
  have hlen : (l0.take (stopAt l0 + 1)).length = stopAt l0 + 1 := by rw [List.length_take]; omega
  have hsm := uval_small (l0.take (stopAt l0 + 1)) _ rfl (by omega) (fun h10 => by
    have h9 : stopAt l0 = 9 := by omega
    have : rd (l0.take (stopAt l0 + 1)) 9 = l0.getD (stopAt l0) 0 := by
      unfold rd
      rw [h9, List.getD_eq_getElem?_getD, List.getD_eq_getElem?_getD, List.getElem?_take, if_pos (by decide)]; rfl
    rw [this]; omega)
  have hcode : wcode 9 (uval (l0.take (stopAt l0 + 1))) = l0.take (stopAt l0 + 1) := by
    by_cases hz : l0.getD (stopAt l0) 0 = 0
    · have h0 : stopAt l0 = 0 := by omega
      rw [h0] at hz ⊢
      have h1 : l0.take (0 + 1) = [0] := by
        cases l0 with
        | nil => simp at hs
        | cons c l =>
          have : c = 0 := hz
          rw [this]; rfl
      rw [h1]; decide
    · exact canT_code _ 9 (stop_can l0 hb hs hz) (by omega)
  have hun := (uval_range (l0.take (stopAt l0 + 1))).1
  rw [hg]
  generalize uval (l0.take (stopAt l0 + 1)) = u at *
  refine ⟨by show 0 < (0 : Int) + (stopAt l0 : Int) + 1; omega, by show (0 : Int) + (stopAt l0 : Int) + 1 ≤ l0.length; omega, ?_, ?_, ?_⟩
  · show -9223372036854775808 ≤ (if u % 2 = 1 then -(u / 2) - 1 else u / 2)
    split <;> omega
  · show (if u % 2 = 1 then -(u / 2) - 1 else u / 2) ≤ 9223372036854775807
    split <;> omega
  · show wcode 9 (zz (if u % 2 = 1 then -(u / 2) - 1 else u / 2)) = l0.take ((0 : Int) + (stopAt l0 : Int) + 1).toNat
    have hz : zz (if u % 2 = 1 then -(u / 2) - 1 else u / 2) = u := by
      unfold zz
      by_cases ho : u % 2 = 1
      · rw [if_pos ho, if_pos (by omega)]; omega
      · rw [if_neg ho, if_neg (by omega)]; omega
    rw [hz, show ((0 : Int) + (stopAt l0 : Int) + 1).toNat = stopAt l0 + 1 by omega]
    exact hcode
theorem wb_str (s : ByteArray) : strOfNums (bytesOf s) = s := by
  unfold strOfNums bytesOf
  apply ByteArray.ext
  apply Array.ext'
  simp only [List.map_map]
  have h : ((fun n : Int => UInt8.ofNat n.toNat) ∘ fun b : UInt8 => (b.toNat : Int)) = id := by
    funext b
    simp
  rw [h, List.map_id]
/-- behind what is put, read again -/
def backOk (k : Nat) (l0 : List Int) (a1 : Int) (a2 : ByteArray) : Prop :=
  (∀ c ∈ l0, 0 ≤ c ∧ c ≤ 255) ∧ -9223372036854775808 ≤ a1 ∧ a1 ≤ 9223372036854775807 ∧ a2.size ≤ 9223372036854775807 ∧
  (¬ ((l0.length : Int) > 5000) → ¬ ((a2.size : Int) > 70000) →
    wire_PutFrame.f k l0 (bytesOf a2) = some (l0 ++ (wcode 9 (zz a2.size) ++ (bytesOf a2 ++ fourOf (adl (bytesOf a2))))) ∧
    (¬ (a2.size : Int) > 65536 → wire_Frame.f k (l0 ++ (wcode 9 (zz a2.size) ++ (bytesOf a2 ++ fourOf (adl (bytesOf a2))))) l0.length = some (bytesOf a2, (l0.length : Int) + ((wcode 9 (zz a2.size)).length : Int) + (a2.size : Int) + 4, 0)) ∧
    ((a2.size : Int) > 65536 → wire_Frame.f k (l0 ++ (wcode 9 (zz a2.size) ++ (bytesOf a2 ++ fourOf (adl (bytesOf a2))))) l0.length = some ([], 0, 8)))
set_option maxHeartbeats 4000000 in
set_option maxRecDepth 100000 in
theorem back_early (k : Nat) (A0 : Option Addr) (c0 : Nat) (l0 : List Int) (a1 : Int) (a2 : ByteArray) (w : World) (hb : a2.size ≤ 9223372036854775807) (hl : (l0.length : Int) > 5000 ∨ (a2.size : Int) > 70000) (r : Bool) (hg : contangolaw04_goes.f k = some r) :
    Calls Try.prog 6 #[.slice A0 l0.length c0, .int .i64 a1, .string a2] w fun e w' => e = .returned (.bool r) ∧ Below w.heap.size w w' := by
  have HG := Aside0.mk hg
  clear hg
  by_cases h5 : (l0.length : Int) > 5000
  · go_enter Try.func6, Try.ntmps6
    go_wp2_with fail
    refine (contangolaw04_goes.calls k r _ HG.out).mono ?_
    rintro e w1 ⟨rfl, hB⟩
    go_wp2
    go_ret
    exact ⟨rfl, hB⟩
  · have h7 : (a2.size : Int) > 70000 := by omega
    clear hl
    go_enter Try.func6, Try.ntmps6
    go_wp2_with fail
    refine (contangolaw04_goes.calls k r _ HG.out).mono ?_
    rintro e w1 ⟨rfl, hB⟩
    go_wp2
    go_ret
    exact ⟨rfl, hB⟩
def contangolaw04_WireBack.B18 : List Nat := [0, 1, 3, 7, 7, 23, 63, 127, 255, 511, 1023, 2047, 511, 511, 12799, 29183, 65535, 131071, 262143, 524287, 1048575, 2097151]
def contangolaw04_WireBack.T18 : Bool × List (List Nat × List Nat) := (true, [([], []), ([0], [0]), ([1], [1]), ([2], [2]), ([2], [2]), ([4, 2], [2, 4]), ([3, 5, 2], [2, 3, 5]), ([2, 6], [2, 6]), ([7, 2], [7]), ([8], [8]), ([9, 8, 8], [8, 9]), ([10, 8], [8, 10]), ([8], [8]), ([8], [8]), ([12, 13, 8], [8, 12, 13]), ([14, 8], [8, 14]), ([11, 15, 8], [8, 11, 15]), ([8, 16], [8, 16]), ([17, 10], [17]), ([18, 18], [18]), ([18, 19], [18, 19]), ([20, 19, 0, 1, 2, 3, 4, 5, 6, 7, 8, 9, 10, 11, 12, 13, 14, 15, 16, 17, 18, 19, 20], [20])])
theorem contangolaw04_WireBack.tab18 : rtab .any (opsOf Try.f6 18) = contangolaw04_WireBack.T18 := by kernel_rfl
theorem contangolaw04_WireBack.bits18 : waitsOk contangolaw04_WireBack.T18.2 contangolaw04_WireBack.B18 = true := by kernel_rfl
set_option maxHeartbeats 8000000 in
set_option maxRecDepth 100000 in
theorem back_main (i5 : TypeInfo) (hi5 : Try.prog.info? 5 = some i5) (k : Nat) (A0 : Option Addr) (c0 : Nat) (l0 : List Int) (a1 : Int) (a2 : ByteArray) (w : World) (hr0 : Kd.C (Kd.int .u8) w A0 l0.length l0) (hc0 : l0.length ≤ c0) (hok : backOk k l0 a1 a2) (h5 : ¬ (l0.length : Int) > 5000) (h7 : ¬ (a2.size : Int) > 70000) (r : Bool) (hg : contangolaw04_goes.f k = some r) :
    Calls Try.prog 6 #[.slice A0 l0.length c0, .int .i64 a1, .string a2] w fun e w' => e = .returned (.bool r) ∧ Below w.heap.size w w' := by
  obtain ⟨hb, hn1, hn2, hsz, hfr⟩ := hok
  obtain ⟨hpf, hfs, hfl⟩ := hfr h5 h7
  have hcl := wcode_len 9 (zz a1)
  have hcl2 := wcode_len 9 (zz a2.size)
  have hcb := code_bytes a1 hn1 hn2
  have hcb2 := code_bytes a2.size (by omega) (by omega)
  have hbl := bytesOf_length a2
  have hP1 : wire_PutInt.f l0 a1 = some (l0 ++ wcode 9 (zz a1)) := by unfold wire_PutInt.f; rw [if_pos ⟨by omega, hn1, hn2⟩]
  have hI1 : wire_Int.f (l0 ++ wcode 9 (zz a1)) l0.length = some (a1, (l0.length : Int) + ((wcode 9 (zz a1)).length : Int), 0) := by
    have := int_put l0 a1 [] hn1 hn2
    rw [List.append_nil] at this
    unfold wire_Int.f
    rw [if_pos ⟨by rw [List.length_append]; omega, fun c hc => (List.mem_append.1 hc).elim (hb c) (hcb c)⟩, this]
  have hP2 : wire_PutText.f l0 a2 = some (l0 ++ (wcode 9 (zz a2.size) ++ bytesOf a2)) := by unfold wire_PutText.f; rw [if_pos ⟨by omega, by omega⟩, List.append_assoc]
  have hbb : ∀ c ∈ bytesOf a2, 0 ≤ c ∧ c ≤ 255 := by
    intro c hc
    obtain ⟨x, _, rfl⟩ := List.mem_map.1 hc
    have := x.toNat_lt
    omega
  have hcase : ∃ (t : ByteArray) (tn f : Int) (p : List Int) (en g : Int), wire_Text.f (l0 ++ (wcode 9 (zz a2.size) ++ bytesOf a2)) l0.length = some (t, tn, f) ∧
      wire_Frame.f k (l0 ++ (wcode 9 (zz a2.size) ++ (bytesOf a2 ++ fourOf (adl (bytesOf a2))))) l0.length = some (p, en, g) ∧
      (((a2.size : Int) > 65536 ∧ t = ⟨#[]⟩ ∧ f = 8 ∧ p = [] ∧ g = 8) ∨ (¬ (a2.size : Int) > 65536 ∧ t = a2 ∧ tn = ((l0 ++ (wcode 9 (zz a2.size) ++ bytesOf a2)).length : Int) ∧ f = 0 ∧ p = bytesOf a2 ∧ en = ((l0 ++ (wcode 9 (zz a2.size) ++ (bytesOf a2 ++ fourOf (adl (bytesOf a2))))).length : Int) ∧ g = 0)) := by
    have hall : (l0 ++ (wcode 9 (zz a2.size) ++ bytesOf a2)).length ≤ 1000000 ∧ ∀ c ∈ l0 ++ (wcode 9 (zz a2.size) ++ bytesOf a2), 0 ≤ c ∧ c ≤ 255 := by
      refine ⟨by simp only [List.length_append]; omega, fun c hc => ?_⟩
      rcases List.mem_append.1 hc with h | h
      · exact hb c h
      · exact (List.mem_append.1 h).elim (hcb2 c) (hbb c)
    by_cases hlong : (a2.size : Int) > 65536
    · have hp := piece_long l0 (bytesOf a2) [] (by omega) (by omega)
      rw [List.append_nil, hbl] at hp
      refine ⟨⟨#[]⟩, 0, 8, [], 0, 8, ?_, hfl hlong, .inl ⟨hlong, rfl, rfl, rfl, rfl⟩⟩
      unfold wire_Text.f
      rw [if_pos hall, hp, if_neg (by decide)]
    · have hp := piece_put l0 (bytesOf a2) [] (by omega)
      rw [List.append_nil, hbl] at hp
      refine ⟨a2, _, 0, bytesOf a2, _, 0, ?_, hfs hlong, .inr ⟨hlong, rfl, rfl, rfl, rfl, ?_, rfl⟩⟩
      · unfold wire_Text.f
        rw [if_pos hall, hp.1, if_pos rfl, hp.2.1, wb_str, hp.2.2]
        simp only [List.length_append, hbl]
        simp only [Option.some.injEq, Prod.mk.injEq, true_and, and_true]
        omega
      · simp only [List.length_append, hbl, show (fourOf (adl (bytesOf a2))).length = 4 from rfl]
        omega
  obtain ⟨t, tn, f, p, en, g, hT, hF, hcase⟩ := hcase
  have hxl : (((l0 ++ wcode 9 (zz a1)).length : Nat) : Int) = (l0.length : Int) + ((wcode 9 (zz a1)).length : Int) := by simp
  rw [← hxl] at hI1
  have hll := hr0.1
  have hx1 : (l0 ++ wcode 9 (zz a1)).length ≤ 1000000 := by rw [List.length_append]; omega
  have hy1 : (l0 ++ (wcode 9 (zz a2.size) ++ bytesOf a2)).length ≤ 1000000 := by simp only [List.length_append]; omega
  have hz1 : (l0 ++ (wcode 9 (zz a2.size) ++ (bytesOf a2 ++ fourOf (adl (bytesOf a2))))).length ≤ 1000000 := by simp only [List.length_append, show (fourOf (adl (bytesOf a2))).length = 4 from rfl]; omega
  have hI0 : wire_Int.f l0 0 = some (intSpec l0 0) := by unfold wire_Int.f; rw [if_pos ⟨by omega, hb⟩]
  have hcan : (intSpec l0 0).2.2 = 0 → 0 < (intSpec l0 0).2.1 ∧ (intSpec l0 0).2.1 ≤ l0.length ∧ -9223372036854775808 ≤ (intSpec l0 0).1 ∧ (intSpec l0 0).1 ≤ 9223372036854775807 ∧ wcode 9 (zz (intSpec l0 0).1) = l0.take (intSpec l0 0).2.1.toNat := int_canon l0 hb
  have herr : ¬ (intSpec l0 0).2.2 = 0 → (intSpec l0 0).1 = 0 := fun h => (int_err l0 0 h).1
  generalize l0 ++ wcode 9 (zz a1) = xs at *
  generalize l0 ++ (wcode 9 (zz a2.size) ++ bytesOf a2) = ys at *
  generalize l0 ++ (wcode 9 (zz a2.size) ++ (bytesOf a2 ++ fourOf (adl (bytesOf a2)))) = zs at *
  generalize intSpec l0 0 = spec at *
  obtain ⟨k0, stop, er⟩ := spec
  dsimp only at hcan herr
  have HR := Aside0.mk hr0
  have HC := Aside0.mk hc0
  have HP1 := Aside0.mk hP1
  have HI1 := Aside0.mk hI1
  have HP2 := Aside0.mk hP2
  have HT := Aside0.mk hT
  have HPF := Aside0.mk hpf
  have HF := Aside0.mk hF
  have HI0 := Aside0.mk hI0
  have HCAN := Aside0.mk hcan
  have HERR := Aside0.mk herr
  have HCASE := Aside0.mk hcase
  have HG := Aside0.mk hg
  have HBL := Aside0.mk hbl
  have hcv := fun W => print_bytes (P := Try.prog) 9 22 5 Try.underlying9 Try.underlying22 Try.underlying5 a2 W
  clear hr0 hc0 hP1 hI1 hP2 hT hpf hF hI0 hcan herr hcase hg hb hcb hcb2 hcl hcl2 hbb hfs hfl hfr hxl hbl hll
  go_enter Try.func6, Try.ntmps6
  go_wp2_with fail
  refine (wire_PutInt.calls A0 c0 l0 a1 xs _ HR.out HC.out HP1.out).mono ?_
  rintro e w1 ⟨v, rfl, hR, hB⟩
  obtain ⟨Ax, cx, rfl, hxl, hCx⟩ := Kd.R_reads hR
  have HB1 := Aside0.mk hB
  have HX := Aside0.mk (⟨hxl, hCx⟩ : xs.length ≤ cx ∧ Kd.C (Kd.int .u8) w1 Ax xs.length xs)
  clear hR hB hxl hCx
  go_wp2_with fail
  refine (wire_Int.calls Ax cx xs (l0.length : Int) a1 (xs.length : Int) 0 _ HX.out.2 HX.out.1 HI1.out).mono ?_
  rintro e w2 ⟨rfl, hd⟩
  have HB2 := Aside0.mk (below_step HB1.out hd.below)
  clear hd HB1 HX
  go_wp2_with fail
  refine (wire_PutText.calls A0 c0 l0 a2 ys _ (Kd.C_below HR.out HB2.out) HC.out HP2.out).mono ?_
  rintro e w3 ⟨v, rfl, hR, hB⟩
  obtain ⟨Ay, cy, rfl, hyl, hCy⟩ := Kd.R_reads hR
  have HB3 := Aside0.mk (below_step HB2.out hB)
  have HY := Aside0.mk (⟨hyl, hCy⟩ : ys.length ≤ cy ∧ Kd.C (Kd.int .u8) w3 Ay ys.length ys)
  clear hR hB hyl hCy HB2
  go_wp2_with fail
  refine (wire_Text.calls Ay cy ys (l0.length : Int) t tn f _ HY.out.2 HY.out.1 HT.out).mono ?_
  rintro e w4 ⟨rfl, hd⟩
  have HB4 := Aside0.mk (below_step HB3.out hd.below)
  clear hd HB3 HY
  go_wp2_with fail
  have HB5 := Aside0.mk (bytes_below HB4.out HB4.out.size 5 a2)
  have hpfc := wire_PutFrame.calls k A0 c0 l0 (some ⟨w4.heap.size, 0, none⟩) (grownCap w4 a2.size 0 5) (bytesOf a2) zs (Lib.bytesWorld w4 5 a2) (Kd.C_below HR.out HB5.out) HC.out
    (by rw [HBL.out]; exact Kd.C_of_reads (d := (0 : Int)) (h1 := fun _ => rfl) (bytes_reads w4 5 a2 hsz)) (by rw [HBL.out]; exact grownCap_ge _ _ _ _) HPF.out
  rw [HBL.out] at hpfc
  refine hpfc.mono ?_
  rintro e w5 ⟨v, rfl, hR, hB⟩
  obtain ⟨Az, cz, rfl, hzl, hCz⟩ := Kd.R_reads hR
  have HB6 := Aside0.mk (below_step HB5.out hB)
  have HZ := Aside0.mk (⟨hzl, hCz⟩ : zs.length ≤ cz ∧ Kd.C (Kd.int .u8) w5 Az zs.length zs)
  clear hR hB hzl hCz hpfc HB4 HB5 hcv
  go_wp2_with fail
  refine (wire_Frame.calls k Az cz zs (l0.length : Int) p en g _ HZ.out.2 HZ.out.1 HF.out).mono ?_
  rintro e w6 ⟨v, rfl, hR, hB⟩
  obtain ⟨Ap, cp, rfl, hpl, hCp⟩ := Kd.R_reads hR
  have HB7 := Aside0.mk (below_step HB6.out hB)
  have HP := Aside0.mk (⟨hpl, hCp⟩ : p.length ≤ cp ∧ Kd.C (Kd.int .u8) w6 Ap p.length p)
  clear hR hB hpl hCp HB6 HZ
  rcases HCASE.out with ⟨hlong, rfl, rfl, rfl, rfl⟩ | ⟨hlong, rfl, rfl, rfl, rfl, rfl, rfl⟩
  · clear HCASE HT HF
    go_wp2_with fail
    refine (contangolaw04_goes.calls k r _ HG.out).mono ?_
    rintro e w7 ⟨rfl, hB⟩
    have HB8 := Aside0.mk (below_step HB7.out hB)
    clear hB
    go_wp2
    go_ret
    exact ⟨rfl, HB8.out⟩
  · clear HCASE
    have t1 : (t.toList != t.toList) = false := by simp
    have t1b : (t.toList == t.toList) = true := by simp
    have hcv2 : (Go.convert 22 9 (.slice Ap (bytesOf t).length cp)).run Try.prog w6 = .ok (.string t) w6 := by
      have := Kd.C_string (P := Try.prog) (src := 22) (dst := 9) (c := cp) Try.underlying22 Try.underlying5 Try.underlying9 HP.out.2
      rw [wb_str] at this
      exact this
    clear HP
    go_wp2_with fail
    refine (wire_Int.calls A0 c0 l0 0 k0 stop er _ (Kd.C_below HR.out HB7.out) HC.out HI0.out).mono ?_
    rintro e w7 ⟨rfl, hd⟩
    have HB8 := Aside0.mk (below_step HB7.out hd.below)
    clear hd hcv2
    by_cases her : er = 0
    · obtain ⟨hc1, hc2, hc3, hc4, hc5⟩ := HCAN.out her
      subst her
      have HC5 := Aside0.mk hc5
      have HC34 := Aside0.mk (And.intro hc3 hc4)
      clear hc5 hc3 hc4
      have t2 : decide (stop > 0) = true := decide_eq_true hc1
      have t4 : decide (stop ≤ (l0.length : Int)) = true := decide_eq_true hc2
      have t4b : (stop ≤ (l0.length : Int)) = True := eq_true hc2
      have t4c : ((l0.length : Int) < stop) = False := eq_false (by omega)
      have t2b : (0 < stop) = True := eq_true hc1
      go_wp2_with fail
      have HB8b := HB8
      have hsn : stop.toNat ≤ l0.length := by omega
      have hsl := fun W => cut_to (P := Try.prog) 22 5 .i64 Try.underlying22 hi5 A0 l0.length c0 stop (by omega) hc2 HC.out W
      have hpre : ∀ W, Below w.heap.size w W → (Go.convert 22 9 (.slice A0 stop.toNat c0)).run Try.prog W = .ok (.string (strOfNums (l0.take stop.toNat))) W := by
        intro W hW
        have h1 := Kd.C_take (m := stop.toNat) (Kd.C_below HR.out hW) hsn
        have h2 : (l0.take stop.toNat).length = stop.toNat := by rw [List.length_take]; omega
        rw [h2] at h1
        exact Kd.C_string (P := Try.prog) (src := 22) (dst := 9) (c := c0) Try.underlying22 Try.underlying5 Try.underlying9 h1
      have hpre1 := hpre _ HB8.out.drew
      have HPRE := Aside0.mk hpre
      clear hpre
      have hcall := fun W => wire_PutInt.calls none 0 [] k0 (l0.take stop.toNat) W (Kd.C_nil _ _) (by decide) (by unfold wire_PutInt.f; rw [if_pos ⟨by simp, HC34.out.1, HC34.out.2⟩, List.nil_append, HC5.out])
      have HCALL := Aside0.mk hcall
      clear hcall
      clear HR HC HP1 HI1 HP2 HPF HI0 HCAN HERR HBL HB7 HF HT t1 t1b
      obtain ⟨s1, hs1⟩ : ∃ s_, strOfNums (l0.take stop.toNat) = s_ := ⟨_, rfl⟩
      have HS1 := Aside0.mk hs1
      rw [hs1] at hpre1 HPRE
      clear hs1
      have hss : (s1.toList == s1.toList) = true := beq_iff_eq.2 rfl
      refine start_ (n := 22) (S := fun w' => (Go.convert 22 9 (.slice A0 stop.toNat c0)).run Try.prog w' = .ok (.string s1) w') (ds := []) #[false, false, false, false, false, false, false, false, false, false, false, false, false, false, false, false, false, false, false, false, false, false] (by kernel_rfl) rfl rfl hpre1 (fun hHeld => ?_); refine with_tabW contangolaw04_WireBack.tab18 contangolaw04_WireBack.bits18 (fun HT_ HW_ => ?_)
      refine pure_ (i := 0) (N := some 141) (v := ?_) (a' := ?_) #[true, false, false, false, false, false, false, false, false, false, false, false, false, false, false, false, false, false, false, false, false, false] rfl rfl (any_of HT_.out (by kernel_rfl)) (fun _ _ _ h => h) (Or.inl ⟨by rfl, ?_⟩) ?_ ?_
      rotate_left
      · intro w'
        go_simp
        with_reducible rfl
      rotate_left
      · simp only [Act.put, List.setIfInBounds_toArray, List.set_cons_zero, List.set_cons_succ, i64_w, i32_w]
        rfl
      refine pure_ (i := 1) (N := some 142) (v := ?_) (a' := ?_) #[true, true, false, false, false, false, false, false, false, false, false, false, false, false, false, false, false, false, false, false, false, false] rfl rfl (any_of HT_.out (by kernel_rfl)) (fun _ _ _ h => h) (Or.inl ⟨by rfl, ?_⟩) ?_ ?_
      rotate_left
      · intro w'
        go_simp
        with_reducible rfl
      rotate_left
      · simp only [Act.put, List.setIfInBounds_toArray, List.set_cons_zero, List.set_cons_succ, i64_w, i32_w]
        rfl
      refine pure_ (i := 2) (N := some 143) (v := ?_) (a' := ?_) #[true, true, true, false, false, false, false, false, false, false, false, false, false, false, false, false, false, false, false, false, false, false] rfl rfl (any_of HT_.out (by kernel_rfl)) (fun _ _ _ h => h) (Or.inl ⟨by rfl, ?_⟩) ?_ ?_
      rotate_left
      · intro w'
        go_simp
        with_reducible rfl
      rotate_left
      · simp only [Act.put, List.setIfInBounds_toArray, List.set_cons_zero, List.set_cons_succ, i64_w, i32_w]
        rfl
      refine pure_ (i := 3) (N := some 144) (v := ?_) (a' := ?_) #[true, true, true, true, false, false, false, false, false, false, false, false, false, false, false, false, false, false, false, false, false, false] rfl rfl (any_of HT_.out (by kernel_rfl)) (fun _ _ _ h => h) (Or.inl ⟨by rfl, ?_⟩) ?_ ?_
      rotate_left
      · intro w'
        go_simp
        with_reducible rfl
      rotate_left
      · simp only [Act.put, List.setIfInBounds_toArray, List.set_cons_zero, List.set_cons_succ, i64_w, i32_w]
        rfl
      refine pure_ (i := 4) (N := some 145) (v := ?_) (a' := ?_) #[true, true, true, true, true, false, false, false, false, false, false, false, false, false, false, false, false, false, false, false, false, false] rfl rfl (any_of HT_.out (by kernel_rfl)) (fun _ _ _ h => h) (Or.inl ⟨by rfl, ?_⟩) ?_ ?_
      rotate_left
      · intro w'
        go_simp
        with_reducible rfl
      rotate_left
      · simp only [Act.put, List.setIfInBounds_toArray, List.set_cons_zero, List.set_cons_succ, i64_w, i32_w]
        rfl
      refine pure_ (i := 5) (N := some 146) (v := ?_) (a' := ?_) #[true, true, true, true, true, true, false, false, false, false, false, false, false, false, false, false, false, false, false, false, false, false] rfl rfl (any_of HT_.out (by kernel_rfl)) (fun _ _ _ h => h) (Or.inl ⟨by rfl, ?_⟩) ?_ ?_
      rotate_left
      · intro w'
        go_simp
        with_reducible rfl
      rotate_left
      · simp only [Act.put, List.setIfInBounds_toArray, List.set_cons_zero, List.set_cons_succ, i64_w, i32_w]
        rfl
      refine pure_ (i := 6) (N := some 147) (v := ?_) (a' := ?_) #[true, true, true, true, true, true, true, false, false, false, false, false, false, false, false, false, false, false, false, false, false, false] rfl rfl (any_of HT_.out (by kernel_rfl)) (fun _ _ _ h => h) (Or.inl ⟨by rfl, ?_⟩) ?_ ?_
      rotate_left
      · intro w'
        go_simp
        with_reducible rfl
      rotate_left
      · simp only [Act.put, List.setIfInBounds_toArray, List.set_cons_zero, List.set_cons_succ, i64_w, i32_w]
        rfl
      refine pure_ (i := 7) (N := some 148) (v := ?_) (a' := ?_) #[true, true, true, true, true, true, true, true, false, false, false, false, false, false, false, false, false, false, false, false, false, false] rfl rfl (any_of HT_.out (by kernel_rfl)) (fun _ _ _ h => h) (Or.inl ⟨by rfl, ?_⟩) ?_ ?_
      rotate_left
      · intro w'
        go_simp
        with_reducible rfl
      rotate_left
      · simp only [Act.put, List.setIfInBounds_toArray, List.set_cons_zero, List.set_cons_succ, i64_w, i32_w]
        rfl
      refine pure_ (i := 8) (N := some 149) (v := ?_) (a' := ?_) #[true, true, true, true, true, true, true, true, true, false, false, false, false, false, false, false, false, false, false, false, false, false] rfl rfl (any_of HT_.out (by kernel_rfl)) (fun _ _ _ h => h) (Or.inl ⟨by rfl, ?_⟩) ?_ ?_
      rotate_left
      · intro w'
        go_simp
        with_reducible rfl
      rotate_left
      · simp only [Act.put, List.setIfInBounds_toArray, List.set_cons_zero, List.set_cons_succ, i64_w, i32_w]
        rfl
      refine pure_ (i := 9) (N := some 150) (v := ?_) (a' := ?_) #[true, true, true, true, true, true, true, true, true, true, false, false, false, false, false, false, false, false, false, false, false, false] rfl rfl (any_of HT_.out (by kernel_rfl)) (fun _ _ _ h => h) (Or.inl ⟨by rfl, ?_⟩) ?_ ?_
      rotate_left
      · intro w'
        go_simp
        with_reducible rfl
      rotate_left
      · simp only [Act.put, List.setIfInBounds_toArray, List.set_cons_zero, List.set_cons_succ, i64_w, i32_w]
        rfl
      refine pure_ (i := 12) (N := some 153) (v := ?_) (a' := ?_) #[true, true, true, true, true, true, true, true, true, true, false, false, true, false, false, false, false, false, false, false, false, false] rfl rfl (any_of HT_.out (by kernel_rfl)) (fun _ _ _ h => h) (Or.inl ⟨by rfl, ?_⟩) ?_ ?_
      rotate_left
      · intro w'
        go_simp
        with_reducible rfl
      rotate_left
      · simp only [Act.put, List.setIfInBounds_toArray, List.set_cons_zero, List.set_cons_succ, i64_w, i32_w]
        rfl
      refine pure_ (i := 13) (N := some 154) (v := ?_) (a' := ?_) #[true, true, true, true, true, true, true, true, true, true, false, false, true, true, false, false, false, false, false, false, false, false] rfl rfl (any_of HT_.out (by kernel_rfl)) (fun _ _ _ h => h) (Or.inl ⟨by rfl, ?_⟩) ?_ ?_
      rotate_left
      · intro w'
        go_simp
        with_reducible rfl
      rotate_left
      · simp only [Act.put, List.setIfInBounds_toArray, List.set_cons_zero, List.set_cons_succ, i64_w, i32_w]
        rfl
      refine pure_ (i := 14) (N := some 155) (v := ?_) (a' := ?_) #[true, true, true, true, true, true, true, true, true, true, false, false, true, true, true, false, false, false, false, false, false, false] rfl rfl (any_of HT_.out (by kernel_rfl)) (fun _ _ _ h => h) (Or.inl ⟨by rfl, ?_⟩) ?_ ?_
      rotate_left
      · intro w'
        go_simp
        with_reducible rfl
      rotate_left
      · simp only [Act.put, List.setIfInBounds_toArray, List.set_cons_zero, List.set_cons_succ, i64_w, i32_w]
        rfl
      refine take_ (i := 15) (N := some 156) (v := ?_) (a' := ?_) #[true, true, true, true, true, true, true, true, true, true, false, false, true, true, true, true, false, false, false, false, false, false] rfl rfl (take_ofW HT_.out HW_.out (by kernel_rfl)) (fun _ _ _ h => h) (Or.inl ⟨by rfl, ?_⟩) hHeld ?_ ?_
      rotate_left
      · rintro w' s0
        go_simp
        with_reducible rfl
      rotate_left
      · simp only [Act.put, List.setIfInBounds_toArray, List.set_cons_zero, List.set_cons_succ, i64_w, i32_w]
        rfl
      refine one_ (i := 10) (N := some 151) #[true, true, true, true, true, true, true, true, true, true, true, false, true, true, true, true, false, false, false, false, false, false] rfl rfl (one_of HT_.out (by kernel_rfl)) (by decide) (fun K hK => ?_)
      refine goes_ Try.func11 (by kernel_rfl) rfl #[.slice none 0 0, .int .i64 k0] (by rfl) rfl rfl (by (try simp only [List.map_toArray, List.map_cons, List.map_nil]); first | done | rfl) ?_
      refine (HCALL.out _).mono ?_
      rintro e w8 ⟨v, rfl, hR, hB⟩
      have HB9 := Aside0.mk (below_step HB8.out.drew hB)
      have hq0 := HPRE.out _ HB9.out
      have hc0 := own_string (P := Try.prog) Try.underlying22 Try.underlying5 Try.underlying9 (Kd.own_of_R hR)
      rw [HS1.out] at hc0
      clear hB hpre1
      refine ⟨_, rfl, ?_⟩
      refine hK.out _ _ hq0 (fun hHeld => ?_)
      clear hK K
      refine norm_ (a' := ?_) ?_ ?_
      rotate_left
      · show Act.put _ (some 151) _ = _
        simp only [Act.put, List.setIfInBounds_toArray, List.set_cons_zero, List.set_cons_succ, i64_w, i32_w]
        rfl
      refine one_ (i := 11) (N := some 152) #[true, true, true, true, true, true, true, true, true, true, true, true, true, true, true, true, false, false, false, false, false, false] rfl rfl (one_of HT_.out (by kernel_rfl)) (by decide) (fun K hK => ?_)
      refine value_ (w1 := ?_) (v := ?_) (by rfl) rfl ?_ ?_
      rotate_left 2
      · go_simp
        constructor
        · rfl
        · rfl
      refine hK.out _ _ hq0 (fun hHeld => ?_)
      clear hK K
      refine norm_ (a' := ?_) ?_ ?_
      rotate_left
      · show Act.put _ (some 152) _ = _
        simp only [Act.put, List.setIfInBounds_toArray, List.set_cons_zero, List.set_cons_succ, i64_w, i32_w]
        rfl
      refine pure_ (i := 16) (N := some 157) (v := ?_) (a' := ?_) #[true, true, true, true, true, true, true, true, true, true, true, true, true, true, true, true, true, false, false, false, false, false] rfl rfl (any_of HT_.out (by kernel_rfl)) (fun _ _ _ h => h) (Or.inl ⟨by rfl, ?_⟩) ?_ ?_
      rotate_left
      · intro w'
        go_simp
        with_reducible rfl
      rotate_left
      · simp only [Act.put, List.setIfInBounds_toArray, List.set_cons_zero, List.set_cons_succ, i64_w, i32_w]
        rfl
      refine pure_ (i := 17) (N := some 158) (v := ?_) (a' := ?_) #[true, true, true, true, true, true, true, true, true, true, true, true, true, true, true, true, true, true, false, false, false, false] rfl rfl (any_of HT_.out (by kernel_rfl)) (fun _ _ _ h => h) (Or.inl ⟨by rfl, ?_⟩) ?_ ?_
      rotate_left
      · intro w'
        go_simp
        with_reducible rfl
      rotate_left
      · simp only [Act.put, List.setIfInBounds_toArray, List.set_cons_zero, List.set_cons_succ, i64_w, i32_w]
        rfl
      refine pure_ (i := 18) (N := some 159) (v := ?_) (a' := ?_) #[true, true, true, true, true, true, true, true, true, true, true, true, true, true, true, true, true, true, true, false, false, false] rfl rfl (any_of HT_.out (by kernel_rfl)) (fun _ _ _ h => h) (Or.inl ⟨by rfl, ?_⟩) ?_ ?_
      rotate_left
      · intro w'
        go_simp
        with_reducible rfl
      rotate_left
      · simp only [Act.put, List.setIfInBounds_toArray, List.set_cons_zero, List.set_cons_succ, i64_w, i32_w]
        rfl
      refine one_ (i := 19) (N := some 160) #[true, true, true, true, true, true, true, true, true, true, true, true, true, true, true, true, true, true, true, true, false, false] rfl rfl (one_of HT_.out (by kernel_rfl)) (by decide) (fun K hK => ?_)
      refine goes_ Try.func9 (by kernel_rfl) rfl #[] (by rfl) rfl rfl (by (try simp only [List.map_toArray, List.map_cons, List.map_nil]); first | done | rfl) ?_
      refine (contangolaw04_goes.calls k r _ HG.out).mono ?_
      rintro e w9 ⟨rfl, hB9⟩
      have HB10 := Aside0.mk (below_step HB9.out hB9)
      refine ⟨_, rfl, ?_⟩
      refine hK.out _ _ (HPRE.out _ HB10.out) (fun hHeld => ?_)
      clear hK K
      refine norm_ (a' := ?_) ?_ ?_
      rotate_left
      · show Act.put _ (some 160) _ = _
        simp only [Act.put, List.setIfInBounds_toArray, List.set_cons_zero, List.set_cons_succ, i64_w, i32_w]
        rfl
      refine pure_ (i := 20) (N := some 161) (v := ?_) (a' := ?_) #[true, true, true, true, true, true, true, true, true, true, true, true, true, true, true, true, true, true, true, true, true, false] rfl rfl (any_of HT_.out (by kernel_rfl)) (fun _ _ _ h => h) (Or.inl ⟨by rfl, ?_⟩) ?_ ?_
      rotate_left
      · intro w'
        go_simp
        with_reducible rfl
      rotate_left
      · simp only [Act.put, List.setIfInBounds_toArray, List.set_cons_zero, List.set_cons_succ, i64_w, i32_w]
        rfl
      refine pure_ (i := 21) (N := some 6) (v := ?_) (a' := ?_) #[true, true, true, true, true, true, true, true, true, true, true, true, true, true, true, true, true, true, true, true, true, true] rfl rfl (any_of HT_.out (by kernel_rfl)) (fun _ _ _ h => h) (Or.inl ⟨by rfl, ?_⟩) ?_ ?_
      rotate_left
      · intro w'
        go_simp
        with_reducible rfl
      rotate_left
      · simp only [Act.put, List.setIfInBounds_toArray, List.set_cons_zero, List.set_cons_succ, i64_w, i32_w]
        rfl
      refine done_ (done_of HT_.out (by kernel_rfl)) ?_
      go_wp2
      go_ret
      exact ⟨by first | rfl | (simp; done) | (simp [*]; done), HB10.out⟩
    · have HE := Aside0.mk (HERR.out her)
      have t3 : (er != 0) = true := bne_iff_ne.2 her
      have hk0 : k0 = 0 := HERR.out her
      subst hk0
      clear her HE
      go_wp2_with fail
      refine (contangolaw04_goes.calls k r _ HG.out).mono ?_
      rintro e w9 ⟨rfl, hB⟩
      have HB9 := Aside0.mk (below_step HB8.out hB)
      clear hB
      go_wp2
      go_ret
      exact ⟨rfl, HB9.out⟩
instance backOk_dec (k : Nat) (l0 : List Int) (a1 : Int) (a2 : ByteArray) : Decidable (backOk k l0 a1 a2) := by unfold backOk; infer_instance
theorem backOk_up (k : Nat) (l0 : List Int) (a1 : Int) (a2 : ByteArray) (h : backOk k l0 a1 a2) : backOk (k + 1) l0 a1 a2 := by
  obtain ⟨h1, h2, h3, h4, h5⟩ := h
  refine ⟨h1, h2, h3, h4, fun g1 g2 => ?_⟩
  obtain ⟨q1, q2, q3⟩ := h5 g1 g2
  exact ⟨wire_PutFrame.mono _ _ _ _ q1, fun g => wire_Frame.mono _ _ _ _ (q2 g), fun g => wire_Frame.mono _ _ _ _ (q3 g)⟩
def contangolaw04_WireBack.f (k : Nat) (l0 : List Int) (a1 : Int) (a2 : ByteArray) : Option (Bool) := if backOk k l0 a1 a2 then contangolaw04_goes.f k else none
theorem contangolaw04_WireBack.mono : ∀ a0 a1 a2 k, LeO (contangolaw04_WireBack.f k a0 a1 a2) (contangolaw04_WireBack.f (k + 1) a0 a1 a2) := by
  intro a0 a1 a2 k r h
  unfold contangolaw04_WireBack.f at h ⊢
  by_cases hb : backOk k a0 a1 a2
  · rw [if_pos hb] at h
    rw [if_pos (backOk_up k a0 a1 a2 hb)]
    exact contangolaw04_goes.mono k r h
  · rw [if_neg hb] at h; cases h
theorem contangolaw04_WireBack.calls (k : Nat) (A0 : Option Addr) (c0 : Nat) (l0 : List Int) (a1 : Int) (a2 : ByteArray) (r : Bool) (w : World) (hr0 : Kd.C (Kd.int .u8) w A0 l0.length l0) (hc0 : l0.length ≤ c0) (h : contangolaw04_WireBack.f k l0 a1 a2 = some r) :
    Calls Try.prog 6 #[.slice A0 l0.length c0, .int .i64 a1, .string a2] w fun e w' => e = .returned (.bool r) ∧ Below w.heap.size w w' := by
  unfold contangolaw04_WireBack.f at h
  by_cases hb : backOk k l0 a1 a2
  · rw [if_pos hb] at h
    by_cases h5 : (l0.length : Int) > 5000
    · exact back_early k A0 c0 l0 a1 a2 w hb.2.2.2.1 (.inl h5) r h
    · by_cases h7 : (a2.size : Int) > 70000
      · exact back_early k A0 c0 l0 a1 a2 w hb.2.2.2.1 (.inr h7) r h
      · obtain ⟨i5, hi5, _⟩ := Option.map_eq_some_iff.1 info_wire1
        exact back_main i5 hi5 k A0 c0 l0 a1 a2 w hr0 hc0 hb h5 h7 r h
  · rw [if_neg hb] at h; cases h

end Go.Proofs.Ytnimfimcpjmbnaa.PWireBack
