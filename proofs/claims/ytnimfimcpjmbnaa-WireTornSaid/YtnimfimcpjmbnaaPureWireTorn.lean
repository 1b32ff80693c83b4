/- The pure statement of the law WireTorn, proved: plain Lean over numbers and lists, no program in sight. -/
import Derived.Test.YtnimfimcpjmbnaaPWireTornx
namespace Go.Proofs.Ytnimfimcpjmbnaa.Pure
open Go.RowKit Go.Proofs.Ytnimfimcpjmbnaa.PWireTorn Go.Proofs.YtnimfimcpjmbnaaW.PrintWords Go.Proofs.YtnimfimcpjmbnaaW.PrintLast Go.Proofs.YtnimfimcpjmbnaaW.PrintMore
set_option linter.unusedVariables false
set_option linter.unusedSimpArgs false
/-! ### from some number of rounds on: steps -/
theorem ev_pos {α : Type} {c : Prop} [Decidable c] {a b : Nat → Option α} {r : α} (h : c) (k : Ev a r) : Ev (fun n => if c then a n else b n) r := Ev.congr (fun _ => if_pos h) k
theorem ev_neg {α : Type} {c : Prop} [Decidable c] {a b : Nat → Option α} {r : α} (h : ¬ c) (k : Ev b r) : Ev (fun n => if c then a n else b n) r := Ev.congr (fun _ => if_neg h) k
theorem ev_some {α : Type} {x r : α} (h : x = r) : Ev (fun _ => some x) r := h ▸ Ev.now x
theorem ev_rw {α : Type} {g : Nat → Option α} {r s : α} (h : r = s) (k : Ev g r) : Ev g s := h ▸ k
theorem wsucc (i : Nat) (h : i ≤ 4611686018427387904) : wrap64 ((i : Int) + 1) = ((i + 1 : Nat) : Int) := by
  unfold wrap64; omega
theorem rd_nat (l : List Int) (i : Nat) : rd l (i : Int) = l.getD i 0 := rfl
/-! ### lists given by a function of the place -/
def tab (n : Nat) (f : Nat → Int) : List Int := (List.range n).map f
theorem tab_len (n : Nat) (f : Nat → Int) : (tab n f).length = n := by simp [tab]
theorem tab_getD (n : Nat) (f : Nat → Int) (i : Nat) (h : i < n) : (tab n f).getD i 0 = f i := by
  simp [tab, List.getD_eq_getElem?_getD, h]
theorem tab_succ (n : Nat) (f : Nat → Int) : tab (n + 1) f = tab n f ++ [f n] := by simp [tab, List.range_succ]
/-! ### a loop, from its end backwards -/
theorem ev_down {ρ S : Type} {n : Nat} {g : Nat → Nat → S → Option ρ} {spec : Nat → S → ρ} {inv : Nat → S → Prop}
    (he : ∀ s, inv n s → Ev (fun k => g k n s) (spec n s))
    (hs : ∀ i s, i < n → inv i s → (∀ s', inv (i + 1) s' → Ev (fun k => g k (i + 1) s') (spec (i + 1) s')) → Ev (fun k => g k i s) (spec i s)) :
    ∀ i s, i ≤ n → inv i s → Ev (fun k => g k i s) (spec i s) := by
  intro i s hi h
  generalize hd : n - i = d
  induction d generalizing i s with
  | zero =>
    obtain rfl : i = n := by omega
    exact he s h
  | succ d ih => exact hs i s (by omega) h (fun s' h' => ih (i + 1) s' (by omega) h' (by omega))
theorem ev_bnd {α β : Type} {g : Nat → Option α} {f : Nat → α → Option β} {a : α} {r : β} (h : Ev g a) (k : Ev (fun n => f n a) r) : Ev (fun n => (g n).bind (f n)) r := h.bind k
theorem w64p (x : Int) (h : -9223372036854775808 ≤ x) (h2 : x ≤ 9223372036854775807) : wrap64 x = x := by
  unfold wrap64; omega
theorem pow128 (f : Nat) : (128 : Int) ^ (f + 1) = 128 * 128 ^ f := by rw [Int.pow_succ]; omega
theorem wcode_facts (f : Nat) : ∀ u : Int, 0 ≤ u → u < 128 ^ (f + 1) → ∀ rest : List Int,
    stopAt (wcode f u ++ rest) + 1 = (wcode f u).length ∧ uval (wcode f u) = u ∧ (wcode f u).length ≤ f + 1 ∧
    0 ≤ (wcode f u).getD ((wcode f u).length - 1) 0 ∧ (1 < (wcode f u).length → 0 < (wcode f u).getD ((wcode f u).length - 1) 0) ∧
    (wcode f u).getD ((wcode f u).length - 1) 0 * 128 ^ ((wcode f u).length - 1) ≤ u ∧ (∀ c ∈ wcode f u, 0 ≤ c ∧ c ≤ 255) := by
  induction f with
  | zero =>
    intro u h0 h1 rest
    have h2 : u < 128 := by simpa using h1
    simp [wcode, stopAt, uval, h2]
    omega
  | succ f ih =>
    intro u h0 h1 rest
    by_cases h : u > 127
    · have hp := pow128 (f + 1)
      rw [hp] at h1
      obtain ⟨a1, a2, a3, a4, a5, a6, a7⟩ := ih (u / 128) (by omega) (by omega) rest
      have hw : wcode (f + 1) u = (u % 128 + 128) :: wcode f (u / 128) := by simp [wcode, h]
      have hpos := (wcode_len f (u / 128)).1
      have hlast : ((u % 128 + 128) :: wcode f (u / 128)).getD (((u % 128 + 128) :: wcode f (u / 128)).length - 1) 0 = (wcode f (u / 128)).getD ((wcode f (u / 128)).length - 1) 0 := by
        rw [List.length_cons, Nat.add_sub_cancel]
        obtain ⟨m, hm⟩ : ∃ m, (wcode f (u / 128)).length = m + 1 := ⟨(wcode f (u / 128)).length - 1, by omega⟩
        rw [hm]; simp
      rw [hw, hlast]
      refine ⟨?_, ?_, ?_, a4, ?_, ?_, ?_⟩
      · rw [List.cons_append, stopAt, if_neg (by omega), List.length_cons, a1]
      · rw [uval, a2]; omega
      · rw [List.length_cons]; omega
      · intro _
        by_cases h5 : 1 < (wcode f (u / 128)).length
        · exact a5 h5
        · have h6 : (wcode f (u / 128)).length = 1 := by omega
          rw [h6] at a6 ⊢
          have : uval (wcode f (u / 128)) = u / 128 := a2
          match hq : wcode f (u / 128), h6 with
          | [c], _ =>
            rw [hq] at this a7
            have h7 := a7 c (by simp)
            simp [uval] at this
            simp only [Nat.sub_self, List.getD_cons_zero]
            omega
      · rw [List.length_cons, Nat.add_sub_cancel]
        obtain ⟨m, hm⟩ : ∃ m, (wcode f (u / 128)).length = m + 1 := ⟨(wcode f (u / 128)).length - 1, by omega⟩
        rw [hm] at a6 ⊢
        rw [Nat.add_sub_cancel] at a6
        rw [Nat.add_sub_cancel, pow128]
        generalize (wcode f (u / 128)).getD m 0 = x at *
        generalize (128 : Int) ^ m = y at *
        have : x * (128 * y) = 128 * (x * y) := by rw [← Int.mul_assoc, Int.mul_comm x 128, Int.mul_assoc]
        rw [this]; omega
      · intro c hc
        rcases List.mem_cons.1 hc with rfl | hc
        · omega
        · exact a7 c hc
    · have hw : wcode (f + 1) u = [u] := by simp [wcode, h]
      rw [hw]
      have h2 : u < 128 := by omega
      simp [stopAt, uval, h2]
      omega
theorem uval_take_wcode (f : Nat) (u : Int) (rest : List Int) (h0 : 0 ≤ u) (h1 : u < 128 ^ (f + 1)) :
    uval ((wcode f u ++ rest).take (stopAt (wcode f u ++ rest) + 1)) = u := by
  obtain ⟨a1, a2, _⟩ := wcode_facts f u h0 h1 rest
  rw [a1, List.take_left, a2]
theorem z_lt (n : Int) (h1 : -9223372036854775808 ≤ n) (h2 : n ≤ 9223372036854775807) : zz n < 128 ^ (9 + 1) := by
  have := (zz_range n h1 h2).2
  have h3 : (128 : Int) ^ (9 + 1) = 1180591620717411303424 := by decide
  rw [h3]; omega
theorem int_put (l : List Int) (n : Int) (rest : List Int) (h1 : -9223372036854775808 ≤ n) (h2 : n ≤ 9223372036854775807) :
    intSpec (l ++ (wcode 9 (zz n) ++ rest)) l.length = (n, (l.length : Int) + ((wcode 9 (zz n)).length : Int), 0) := by
  have hz := zz_range n h1 h2
  obtain ⟨a1, a2, a3, a4, a5, a6, a7⟩ := wcode_facts 9 (zz n) hz.1 (z_lt n h1 h2) rest
  have hpos := (wcode_len 9 (zz n)).1
  have ht := uval_take_wcode 9 (zz n) rest hz.1 (z_lt n h1 h2)
  have hd : (l ++ (wcode 9 (zz n) ++ rest)).drop ((l.length : Int)).toNat = wcode 9 (zz n) ++ rest := by simp
  have hlast : rd (l ++ (wcode 9 (zz n) ++ rest)) ((l.length : Int) + (stopAt (wcode 9 (zz n) ++ rest) : Int)) = (wcode 9 (zz n)).getD ((wcode 9 (zz n)).length - 1) 0 := by
    unfold rd
    rw [show ((l.length : Int) + (stopAt (wcode 9 (zz n) ++ rest) : Int)).toNat = l.length + ((wcode 9 (zz n)).length - 1) by omega]
    rw [List.getD_eq_getElem?_getD, List.getD_eq_getElem?_getD, List.getElem?_append_right (by omega), Nat.add_sub_cancel_left, List.getElem?_append_left (by omega)]
  unfold intSpec
  rw [if_neg (by simp only [List.length_append]; omega), hd, if_neg (by simp only [List.length_append]; omega), hlast, ht]
  rw [if_neg]
  · have h3 : (stopAt (wcode 9 (zz n) ++ rest) : Int) + 1 = (wcode 9 (zz n)).length := by omega
    refine Prod.ext ?_ (Prod.ext ?_ rfl)
    · show (if zz n % 2 = 1 then -(zz n / 2) - 1 else zz n / 2) = n
      unfold zz
      split <;> split <;> omega
    · show (l.length : Int) + (stopAt (wcode 9 (zz n) ++ rest) : Int) + 1 = (l.length : Int) + ((wcode 9 (zz n)).length : Int)
      omega
  · intro h
    rcases h with ⟨h, h'⟩ | h | ⟨h, h'⟩
    · have := a5 (by omega); omega
    · omega
    · have h10 : (wcode 9 (zz n)).length - 1 = 9 := by omega
      rw [h10] at a6 h'
      have : (128 : Int) ^ 9 = 9223372036854775808 := by decide
      rw [this] at a6
      omega
/-- a piece -/
theorem piece_put (l p rest : List Int) (hp : p.length ≤ 65536) :
    pieceErr (l ++ (wcode 9 (zz p.length) ++ (p ++ rest))) l.length = 0 ∧ pieceOf (l ++ (wcode 9 (zz p.length) ++ (p ++ rest))) l.length = p ∧
    (intSpec (l ++ (wcode 9 (zz p.length) ++ (p ++ rest))) l.length).2.1 + (intSpec (l ++ (wcode 9 (zz p.length) ++ (p ++ rest))) l.length).1 = (l.length : Int) + ((wcode 9 (zz p.length)).length : Int) + (p.length : Int) := by
  have h := int_put l p.length (p ++ rest) (by omega) (by omega)
  unfold pieceErr pieceOf
  rw [h]
  dsimp only
  refine ⟨?_, ?_, ?_⟩
  · rw [if_neg (by simp), if_neg (by omega), if_neg (by omega), if_neg (by simp only [List.length_append]; omega)]
  · rw [show ((l.length : Int) + ((wcode 9 (zz p.length)).length : Int) + (p.length : Int)).toNat = (l ++ (wcode 9 (zz p.length) ++ p)).length by simp only [List.length_append]; omega]
    rw [show ((l.length : Int) + ((wcode 9 (zz p.length)).length : Int)).toNat = (l ++ wcode 9 (zz p.length)).length by simp only [List.length_append]; omega]
    rw [show l ++ (wcode 9 (zz p.length) ++ (p ++ rest)) = (l ++ (wcode 9 (zz p.length) ++ p)) ++ rest by simp, List.take_left, show l ++ (wcode 9 (zz p.length) ++ p) = (l ++ wcode 9 (zz p.length)) ++ p by simp, List.drop_left]
  · rfl
/-- the sum's two halves -/
def sumLow (a : Int) : List Int → Int
  | [] => a
  | c :: l => sumLow ((a + c) % 65521) l
def sumHigh (a b : Int) : List Int → Int
  | [] => b
  | c :: l => sumHigh ((a + c) % 65521) ((b + (a + c) % 65521) % 65521) l
def adl (p : List Int) : Int := sumHigh 1 0 p * 65536 + sumLow 1 p
theorem or_u32 (a b : Nat) (ha : a < 4294967296) (hb : b < 4294967296) : Go.bits .or .u32 (a : Int) (b : Int) = ((a ||| b : Nat) : Int) := by
  have hx : a ||| b < 2 ^ 32 := Nat.or_lt_two_pow (by omega) (by omega)
  have h1 : (BitVec.ofInt 32 (a : Int)).toNat = a := by
    rw [BitVec.ofInt_natCast, BitVec.toNat_ofNat]; exact Nat.mod_eq_of_lt (by omega)
  have h2 : (BitVec.ofInt 32 (b : Int)).toNat = b := by
    rw [BitVec.ofInt_natCast, BitVec.toNat_ofNat]; exact Nat.mod_eq_of_lt (by omega)
  show IntKind.u32.wrap ((BitVec.ofInt 32 (a : Int) ||| BitVec.ofInt 32 (b : Int)).toNat : Int) = _
  rw [BitVec.toNat_or, h1, h2, IntKind.wrap_u32]
  omega
theorem or16 (h l : Int) (hh : 0 ≤ h) (hh2 : h < 65521) (hl : 0 ≤ l) (hl2 : l < 65521) : Go.bits .or .u32 ((h * 65536) % 4294967296) l = h * 65536 + l := by
  obtain ⟨h', rfl⟩ := Int.eq_ofNat_of_zero_le hh
  obtain ⟨l', rfl⟩ := Int.eq_ofNat_of_zero_le hl
  rw [Int.emod_eq_of_lt (by omega) (by omega)]
  have h4 := or_u32 (h' * 65536) l' (by omega) (by omega)
  have h6 := Nat.shiftLeft_add_eq_or_of_lt (i := 16) (b := l') (by omega) h'
  rw [Nat.shiftLeft_eq] at h6
  rw [← h6] at h4
  have e : (((h' * 65536 : Nat)) : Int) = (h' : Int) * 65536 := by simp
  rw [← e]
  refine h4.trans ?_
  simp
theorem sum_l0 (xs : List Int) (hx : ∀ c ∈ xs, 0 ≤ c ∧ c ≤ 255) (hn : xs.length ≤ 1000000) : ∀ (m i : Nat) (a b : Int), i + m = xs.length → 0 ≤ a → a < 65521 → 0 ≤ b → b < 65521 →
    wire_Sum.l0 (m + 1) a b xs xs.length i = some (sumHigh a b (xs.drop i) * 65536 + sumLow a (xs.drop i)) := by
  intro m
  induction m with
  | zero =>
    intro i a b hi ha ha2 hb hb2
    have hd : xs.drop i = [] := List.drop_eq_nil_of_le (by omega)
    unfold wire_Sum.l0
    rw [if_neg (by omega), hd, or16 _ _ hb hb2 ha ha2]
    rfl
  | succ m ih =>
    intro i a b hi ha ha2 hb hb2
    have hlt : i < xs.length := by omega
    have hd : xs.drop i = xs[i] :: xs.drop (i + 1) := List.drop_eq_getElem_cons hlt
    have hr : rd xs (i : Int) = xs[i] := by unfold rd; simp [List.getD_eq_getElem?_getD, hlt]
    have hb3 := hx _ (List.getElem_mem hlt)
    unfold wire_Sum.l0
    rw [if_pos (by omega), if_pos (by omega), if_pos (by omega), hr, hd]
    generalize xs[i] = c at *
    rw [show (a + c % 4294967296) % 4294967296 = a + c by omega]
    have hw : wrap64 ((i : Int) + 1) = ((i + 1 : Nat) : Int) := by rw [w64p _ (by omega) (by omega)]; simp
    rw [hw, show (b + (a + c) % 65521) % 4294967296 = b + (a + c) % 65521 by omega]
    exact ih (i + 1) _ _ (by omega) (by omega) (by omega) (by omega) (by omega)
theorem sum_ev (p : List Int) (hp : ∀ c ∈ p, 0 ≤ c ∧ c ≤ 255) (hn : p.length ≤ 1000000) : Ev (fun k => wire_Sum.f k p) (adl p) :=
  Ev.of (wire_Sum.mono p) (k := p.length + 1) (sum_l0 p hp hn p.length 0 1 0 (by omega) (by omega) (by omega) (by omega) (by omega))
def fourOf (a : Int) : List Int := [(a / 16777216) % 256, (a / 65536) % 256, (a / 256) % 256, a % 256]
theorem fourOf_bytes (a : Int) : ∀ c ∈ fourOf a, 0 ≤ c ∧ c ≤ 255 := by
  intro c hc
  simp only [fourOf, List.mem_cons, List.not_mem_nil, or_false] at hc
  omega
theorem frame_read (l p q4 rest : List Int) (hq : q4.length = 4) (hp : p.length ≤ 65536)
    (hb : ∀ c ∈ l ++ (wcode 9 (zz p.length) ++ (p ++ (q4 ++ rest))), 0 ≤ c ∧ c ≤ 255) (hn : (l ++ (wcode 9 (zz p.length) ++ (p ++ (q4 ++ rest)))).length ≤ 1000000) :
    Ev (fun k => wire_Frame.f k (l ++ (wcode 9 (zz p.length) ++ (p ++ (q4 ++ rest)))) l.length) (if q4 = fourOf (adl p) then (p, (l.length : Int) + ((wcode 9 (zz p.length)).length : Int) + (p.length : Int) + 4, 0) else ([], 0, 9)) := by
  obtain ⟨h1, h2, h3⟩ := piece_put l p (q4 ++ rest) hp
  obtain ⟨K, hK⟩ := sum_ev p (fun c hc => hb c (by simp [hc])) (by simp only [List.length_append] at hn; omega)
  have hdrop : (l ++ (wcode 9 (zz p.length) ++ (p ++ (q4 ++ rest)))).drop ((l.length : Int) + (wcode 9 (zz p.length)).length + p.length).toNat = q4 ++ rest := by
    rw [show ((l.length : Int) + (wcode 9 (zz p.length)).length + p.length).toNat = (l ++ (wcode 9 (zz p.length) ++ p)).length by simp only [List.length_append]; omega]
    rw [show l ++ (wcode 9 (zz p.length) ++ (p ++ (q4 ++ rest))) = (l ++ (wcode 9 (zz p.length) ++ p)) ++ (q4 ++ rest) by simp, List.drop_left]
  refine ⟨K, fun k hk => ?_⟩
  have hs : wire_Sum.f k p = some (adl p) := hK k hk
  show wire_Frame.f k _ _ = _
  unfold wire_Frame.f
  rw [if_pos ⟨hn, hb⟩, h1, if_pos rfl, h2, h3, if_neg (by simp only [List.length_append]; omega), hs, Option.bind_some]
  show ((wire_four.f (adl p)).bind _) = _
  rw [show wire_four.f (adl p) = some (fourOf (adl p)) from rfl, Option.bind_some, if_pos (show (fourOf (adl p)).length = 4 from rfl)]
  unfold sameAt
  rw [hdrop]
  have ht : (q4 ++ rest).take (fourOf (adl p)).length = q4 := by
    rw [show (fourOf (adl p)).length = q4.length from hq.symm, List.take_left]
  rw [ht]
  by_cases he : q4 = fourOf (adl p)
  · rw [if_pos (by simp [he]), if_pos he]
  · rw [if_neg (by simp [he]), if_neg he]
theorem putframe_ev (l p : List Int) (hl : l.length ≤ 400000) (hp : ∀ c ∈ p, 0 ≤ c ∧ c ≤ 255) (hn : p.length ≤ 400000) :
    Ev (fun k => wire_PutFrame.f k l p) (l ++ (wcode 9 (zz p.length) ++ (p ++ fourOf (adl p)))) := by
  obtain ⟨K, hK⟩ := sum_ev p hp (by omega)
  refine ⟨K, fun k hk => ?_⟩
  have hs : wire_Sum.f k p = some (adl p) := hK k hk
  show wire_PutFrame.f k l p = _
  unfold wire_PutFrame.f
  rw [hs, Option.bind_some, show wire_four.f (adl p) = some (fourOf (adl p)) from rfl, Option.bind_some, if_pos ⟨hl, hn, by simp [fourOf]⟩]
  simp
theorem code_bytes (n : Int) (h1 : -9223372036854775808 ≤ n) (h2 : n ≤ 9223372036854775807) : ∀ c ∈ wcode 9 (zz n), 0 ≤ c ∧ c ≤ 255 := by
  have hz := zz_range n h1 h2
  exact (wcode_facts 9 (zz n) hz.1 (z_lt n h1 h2) []).2.2.2.2.2.2
theorem goes_ev : Ev contangolaw04_goes.f true := by
  obtain ⟨K, hK⟩ := putframe_ev [] [97] (by decide) (by decide) (by decide)
  refine ⟨K, fun k hk => ?_⟩
  have h := hK k hk
  unfold contangolaw04_goes.f
  dsimp only at h
  rw [h, Option.bind_some]
  rfl
theorem wf8 {x : Int} (h : (Lit.int .u8 x).wf = true) : 0 ≤ x ∧ x ≤ 255 := by
  simp only [Lit.wf, Bool.and_eq_true, decide_eq_true_eq] at h
  exact h
theorem umodT (x m : Int) (hm : 0 < m) (h : m ≤ 4611686018427387904) : 0 ≤ wrap64 (Int.tmod (IntKind.u64.wrap x) m) ∧ wrap64 (Int.tmod (IntKind.u64.wrap x) m) < m := by
  have hu : IntKind.u64.wrap x = x % 18446744073709551616 := rfl
  have h0 : 0 ≤ IntKind.u64.wrap x := by rw [hu]; omega
  rw [Int.tmod_eq_emod_of_nonneg h0]
  have h1 := Int.emod_nonneg (IntKind.u64.wrap x) (show m ≠ 0 by omega)
  have h2 := Int.emod_lt_of_pos (IntKind.u64.wrap x) hm
  rw [w64p _ (by omega) (by omega)]
  exact ⟨h1, h2⟩
def frameL (p : List Int) : List Int := wcode 9 (zz p.length) ++ (p ++ fourOf (adl p))
def catF : List (List Int) → List Int
  | [] => []
  | p :: ps => frameL p ++ catF ps
def okP (p : List Int) : Prop := p.length ≤ 5000 ∧ ∀ c ∈ p, 0 ≤ c ∧ c ≤ 255
theorem frame_len (p : List Int) : (frameL p).length = (wcode 9 (zz p.length)).length + p.length + 4 := by
  unfold frameL
  rw [List.length_append, List.length_append, show (fourOf (adl p)).length = 4 from rfl]; omega
theorem frame_len2 (p : List Int) (h : okP p) : 5 ≤ (frameL p).length ∧ (frameL p).length ≤ 5014 := by
  have h1 := wcode_len 9 (zz p.length)
  have h2 := h.1
  rw [frame_len]; omega
theorem frame_bytes (p : List Int) (h : okP p) : ∀ c ∈ frameL p, 0 ≤ c ∧ c ≤ 255 := by
  intro c hc
  have hl := h.1
  unfold frameL at hc
  rcases List.mem_append.1 hc with hc | hc
  · exact code_bytes (p.length : Int) (by omega) (by omega) c hc
  · rcases List.mem_append.1 hc with hc | hc
    · exact h.2 c hc
    · exact fourOf_bytes _ c hc
theorem cat_app : ∀ ps qs : List (List Int), catF (ps ++ qs) = catF ps ++ catF qs
  | [], qs => rfl
  | p :: ps, qs => by rw [List.cons_append, catF, catF, cat_app ps qs, List.append_assoc]
theorem cat_bytes : ∀ ps : List (List Int), (∀ p ∈ ps, okP p) → ∀ c ∈ catF ps, 0 ≤ c ∧ c ≤ 255
  | [], _, c, hc => by cases hc
  | p :: ps, h, c, hc => by
    rw [catF] at hc
    rcases List.mem_append.1 hc with hc | hc
    · exact frame_bytes p (h p (by simp)) c hc
    · exact cat_bytes ps (fun q hq => h q (by simp [hq])) c hc
theorem stop_all : ∀ l : List Int, (∀ j, j < l.length → ¬ l.getD j 0 < 128) → stopAt l = l.length
  | [], _ => rfl
  | c :: l, h => by
    have h0 : ¬ c < 128 := h 0 (by simp)
    rw [stopAt, if_neg h0, stop_all l (fun j hj => h (j + 1) (by simpa using hj)), List.length_cons]
theorem short_err (l r : List Int) (h : stopAt r = r.length) : pieceErr (l ++ r) l.length = 6 := by
  have hs : intSpec (l ++ r) l.length = (0, 0, 6) := by
    have hd : (l ++ r).drop ((l.length : Int)).toNat = r := by simp
    unfold intSpec
    rw [if_neg (by simp only [List.length_append]; omega), hd, if_pos h]
  unfold pieceErr
  rw [hs, if_pos (by decide)]
theorem torn_frame (l p : List Int) (m : Nat) (hp : okP p) (hm : m < (frameL p).length) (hl : ∀ c ∈ l, 0 ≤ c ∧ c ≤ 255) (hn : l.length ≤ 900000) : Ev (fun k => wire_Frame.f k (l ++ (frameL p).take m) l.length) ([], 0, 6) := by
  have hfl := frame_len2 p hp
  have hfe := frame_len p
  have hpl := hp.1
  have hb : ∀ c ∈ l ++ (frameL p).take m, 0 ≤ c ∧ c ≤ 255 := fun c hc => by
    rcases List.mem_append.1 hc with hc | hc
    · exact hl c hc
    · exact frame_bytes p hp c (List.mem_of_mem_take hc)
  have hlen : (l ++ (frameL p).take m).length ≤ 1000000 := by rw [List.length_append, List.length_take]; omega
  refine ⟨0, fun k _ => ?_⟩
  show wire_Frame.f k (l ++ (frameL p).take m) l.length = some ([], 0, 6)
  have hcl := wcode_len 9 (zz p.length)
  unfold wire_Frame.f
  rw [if_pos ⟨hlen, hb⟩]
  by_cases h1 : m < (wcode 9 (zz p.length)).length
  · have ht : (frameL p).take m = (wcode 9 (zz p.length)).take m := by
      unfold frameL; rw [List.take_append_of_le_length (by omega)]
    have hz := zz_range (p.length : Int) (by omega) (by omega)
    obtain ⟨a1, _⟩ := wcode_facts 9 (zz p.length) hz.1 (z_lt _ (by omega) (by omega)) []
    rw [List.append_nil] at a1
    have hs : stopAt ((wcode 9 (zz p.length)).take m) = ((wcode 9 (zz p.length)).take m).length := stop_all _ fun j hj => by
      rw [List.length_take] at hj
      have := stop_before (wcode 9 (zz p.length)) j (by omega)
      rw [List.getD_eq_getElem?_getD, List.getElem?_take, if_pos (by omega), ← List.getD_eq_getElem?_getD]
      exact this
    rw [ht, short_err l _ hs, if_neg (by decide)]
  · have ht : (frameL p).take m = wcode 9 (zz p.length) ++ (p ++ fourOf (adl p)).take (m - (wcode 9 (zz p.length)).length) := by
      unfold frameL; rw [List.take_append, List.take_of_length_le (show (wcode 9 (zz p.length)).length ≤ m by omega)]
    by_cases h2 : m - (wcode 9 (zz p.length)).length < p.length
    · have ht2 : (p ++ fourOf (adl p)).take (m - (wcode 9 (zz p.length)).length) = p.take (m - (wcode 9 (zz p.length)).length) := List.take_append_of_le_length (by omega)
      have hi := int_put l p.length (p.take (m - (wcode 9 (zz p.length)).length)) (by omega) (by omega)
      have he : pieceErr (l ++ (wcode 9 (zz p.length) ++ p.take (m - (wcode 9 (zz p.length)).length))) l.length = 6 := by
        unfold pieceErr
        rw [hi]
        dsimp only
        rw [if_neg (by simp), if_neg (by omega), if_neg (by omega), if_pos (by simp only [List.length_append, List.length_take]; omega)]
      rw [ht, ht2, he, if_neg (by decide)]
    · have ht2 : (p ++ fourOf (adl p)).take (m - (wcode 9 (zz p.length)).length) = p ++ (fourOf (adl p)).take (m - (wcode 9 (zz p.length)).length - p.length) := by
        rw [List.take_append, List.take_of_length_le (show p.length ≤ m - (wcode 9 (zz p.length)).length by omega)]
      obtain ⟨q1, q2, q3⟩ := piece_put l p ((fourOf (adl p)).take (m - (wcode 9 (zz p.length)).length - p.length)) (by omega)
      rw [ht, ht2, q1, if_pos rfl, q3, if_pos (by simp only [List.length_append, List.length_take, show (fourOf (adl p)).length = 4 from rfl]; omega)]
/-- what is read of frames that are cut -/
def rdF : List (List Int) → Nat → List (List Int) × Nat
  | [], _ => ([], 0)
  | p :: ps, c => if (frameL p).length ≤ c then (p :: (rdF ps (c - (frameL p).length)).1, (frameL p).length + (rdF ps (c - (frameL p).length)).2) else ([], 0)
theorem frames_go : ∀ (ps : List (List Int)) (c : Nat) (pre : List Int) (acc : List (List Int)), (∀ p ∈ ps, okP p) → (∀ x ∈ pre, 0 ≤ x ∧ x ≤ 255) → pre.length + (catF ps).length ≤ 800000 → c ≤ (catF ps).length → acc.length + ps.length ≤ 1000 → Ev (fun k => wire_Frames.l0 k (pre ++ (catF ps).take c) acc (pre.length : Int)) (acc ++ (rdF ps c).1, ((pre.length + (rdF ps c).2 : Nat) : Int))
  | [], c, pre, acc, _, hpre, hn, hc, _ => by
    have hc0 : c = 0 := by
      have : (catF []).length = 0 := rfl
      omega
    subst hc0
    have h := torn_frame pre [] 0 ⟨by simp, by simp⟩ (by rw [frame_len]; omega) hpre (by omega)
    rw [List.take_zero] at h
    rw [List.take_zero]
    refine Ev.step (fun _ => by rw [wire_Frames.l0]) ?_
    refine ev_bnd h (ev_neg (by decide) (ev_some ?_))
    show _ = (acc ++ [], ((pre.length + 0 : Nat) : Int))
    rw [List.append_nil, Nat.add_zero]
  | p :: ps, c, pre, acc, hok, hpre, hn, hc, ha => by
    have hp := hok p (by simp)
    have hfl := frame_len2 p hp
    rw [catF, List.length_append] at hn hc
    rw [List.length_cons] at ha
    refine Ev.step (fun _ => by rw [wire_Frames.l0]) ?_
    rw [rdF]
    by_cases h : (frameL p).length ≤ c
    · rw [if_pos h]
      have ht : (catF (p :: ps)).take c = frameL p ++ (catF ps).take (c - (frameL p).length) := by
        rw [catF, List.take_append, List.take_of_length_le h]
      have hre : pre ++ (frameL p ++ (catF ps).take (c - (frameL p).length)) = pre ++ (wcode 9 (zz p.length) ++ (p ++ (fourOf (adl p) ++ (catF ps).take (c - (frameL p).length)))) := by
        unfold frameL; simp only [List.append_assoc]
      have hbytes : ∀ x ∈ pre ++ (wcode 9 (zz p.length) ++ (p ++ (fourOf (adl p) ++ (catF ps).take (c - (frameL p).length)))), 0 ≤ x ∧ x ≤ 255 := fun x hx => by
        rw [← hre] at hx
        rcases List.mem_append.1 hx with hx | hx
        · exact hpre x hx
        · rcases List.mem_append.1 hx with hx | hx
          · exact frame_bytes p hp x hx
          · exact cat_bytes ps (fun q hq => hok q (by simp [hq])) x (List.mem_of_mem_take hx)
      have hr := frame_read pre p (fourOf (adl p)) ((catF ps).take (c - (frameL p).length)) rfl (by have := hp.1; omega) hbytes (by rw [← hre]; simp only [List.length_append, List.length_take]; omega)
      rw [if_pos rfl, ← hre, ← ht] at hr
      refine ev_bnd hr (ev_pos rfl (ev_pos (by omega) ?_))
      have ih := frames_go ps (c - (frameL p).length) (pre ++ frameL p) (acc ++ [p]) (fun q hq => hok q (by simp [hq])) (fun x hx => by
        rcases List.mem_append.1 hx with hx | hx
        · exact hpre x hx
        · exact frame_bytes p hp x hx) (by rw [List.length_append]; omega) (by omega) (by rw [List.length_append, List.length_singleton]; omega)
      rw [List.append_assoc, ← ht, List.append_assoc] at ih
      have hfe := frame_len p
      rw [show (pre.length : Int) + ((wcode 9 (zz p.length)).length : Int) + (p.length : Int) + 4 = ((pre ++ frameL p).length : Int) by rw [List.length_append]; omega]
      refine ev_rw ?_ ih
      rw [List.length_append]
      refine Prod.ext rfl ?_
      show (((pre.length + (frameL p).length + (rdF ps (c - (frameL p).length)).2 : Nat)) : Int) = ((pre.length + ((frameL p).length + (rdF ps (c - (frameL p).length)).2) : Nat) : Int)
      omega
    · rw [if_neg h]
      have ht : (catF (p :: ps)).take c = (frameL p).take c := by
        rw [catF, List.take_append_of_le_length (by omega)]
      have hr := torn_frame pre p c hp (by omega) hpre (by omega)
      rw [ht]
      refine ev_bnd hr (ev_neg (by decide) (ev_some ?_))
      show _ = (acc ++ [], ((pre.length + 0 : Nat) : Int))
      rw [List.append_nil, Nat.add_zero]
theorem rdF_is : ∀ (ps : List (List Int)) (c : Nat), (∀ p ∈ ps, okP p) → ∃ n, n ≤ ps.length ∧ (rdF ps c).1 = ps.take n ∧ (rdF ps c).2 = (catF (ps.take n)).length ∧ (catF (ps.take n)).length ≤ c ∧ (n = ps.length ∨ c < (catF (ps.take (n + 1))).length)
  | [], c, _ => ⟨0, Nat.le_refl _, rfl, rfl, Nat.zero_le _, .inl rfl⟩
  | p :: ps, c, hok => by
    rw [rdF]
    by_cases h : (frameL p).length ≤ c
    · rw [if_pos h]
      obtain ⟨n, n1, n2, n3, n4, n5⟩ := rdF_is ps (c - (frameL p).length) (fun q hq => hok q (by simp [hq]))
      refine ⟨n + 1, by rw [List.length_cons]; omega, by rw [n2]; rfl, ?_, ?_, ?_⟩
      · rw [n3, List.take_succ_cons, catF, List.length_append]
      · rw [List.take_succ_cons, catF, List.length_append]; omega
      · rcases n5 with n5 | n5
        · exact .inl (by rw [n5, List.length_cons])
        · right
          rw [List.take_succ_cons, catF, List.length_append]; omega
    · rw [if_neg h]
      refine ⟨0, Nat.zero_le _, rfl, rfl, Nat.zero_le _, .inr ?_⟩
      rw [List.take_succ_cons, catF, List.take_zero]
      show c < (frameL p ++ []).length
      rw [List.append_nil]; omega
theorem cat_mono (ps : List (List Int)) (m n : Nat) (h : m ≤ n) : (catF (ps.take m)).length ≤ (catF (ps.take n)).length := by
  have e : ps.take n = ps.take m ++ (ps.take n).drop m := by
    have := (List.take_append_drop m (ps.take n)).symm
    rwa [List.take_take, Nat.min_eq_left h] at this
  rw [e, cat_app, List.length_append]; omega
theorem rdL (l : List (List Int)) (i : Nat) : rd_L1 l (i : Int) = l.getD i [] := rfl
theorem take_snocL (l : List (List Int)) (i : Nat) (h : i < l.length) : l.take (i + 1) = l.take i ++ [l.getD i []] := by
  rw [List.take_add_one, List.getElem?_eq_getElem h, List.getD_eq_getElem?_getD, List.getElem?_eq_getElem h]; rfl
def endsF (l : List (List Int)) (i : Nat) : List Int := tab i fun j => ((catF (l.take (j + 1))).length : Int)
theorem torn_tail (l : List (List Int)) (cut : Int) (i : Nat) (hi : i ≤ l.length) (h50 : i ≤ 50) (hok : ∀ p ∈ l.take i, okP p) (hlen : (catF (l.take i)).length ≤ 20000) (x7 : Int) : Ev (fun k => contangolaw04_WireTorn.j1 k l cut (catF (l.take i)) (endsF l i) x7 false) true := by
  have hgt : Ev (fun k => (contangolaw04_goes.f k).bind fun t => some t) true := ev_bnd goes_ev (ev_some rfl)
  refine Ev.step (fun _ => by rw [contangolaw04_WireTorn.j1]) ?_
  have hu : IntKind.u64.wrap (wrap64 (((catF (l.take i)).length : Int) + 1)) = ((catF (l.take i)).length : Int) + 1 := by
    rw [w64p _ (by omega) (by omega), IntKind.wrap_u64]; omega
  rw [hu]
  obtain ⟨c0, c1⟩ := umodT cut (((catF (l.take i)).length : Int) + 1) (by omega) (by omega)
  generalize wrap64 (Int.tmod (IntKind.u64.wrap cut) (((catF (l.take i)).length : Int) + 1)) = c at *
  obtain ⟨cn, rfl⟩ : ∃ cn : Nat, c = (cn : Int) := ⟨c.toNat, by omega⟩
  rw [Int.toNat_natCast]
  have hil : (l.take i).length = i := by rw [List.length_take]; omega
  have hf := frames_go (l.take i) cn [] [] hok (by simp) (by simp only [List.length_nil]; omega) (by omega) (by rw [hil]; simp only [List.length_nil]; omega)
  rw [List.nil_append, List.nil_append] at hf
  obtain ⟨n, n1, n2, n3, n4, n5⟩ := rdF_is (l.take i) cn hok
  rw [hil] at n1 n5
  rw [n2, n3] at hf
  have htt : ∀ m, m ≤ i → (l.take i).take m = l.take m := fun m hm => by rw [List.take_take, Nat.min_eq_left hm]
  rw [htt n n1] at hf n4
  have hzero : ((([] : List Int).length : Nat) : Int) = 0 := rfl
  rw [hzero, List.length_nil, Nat.zero_add] at hf
  refine ev_neg (by decide) (ev_neg (by omega) (ev_pos c0 (ev_pos (by omega) (ev_bnd hf ?_))))
  have hel : (endsF l i).length = i := tab_len _ _
  have heg : ∀ j, j < i → (endsF l i).getD j 0 = ((catF (l.take (j + 1))).length : Int) := fun j hj => tab_getD _ _ _ hj
  have hnl : (l.take n).length = n := by rw [List.length_take]; omega
  have hj3 : Ev (fun k => contangolaw04_WireTorn.j3 k l (l.take n) ((catF (l.take n)).length : Int) (n : Int) ((catF (l.take n)).length : Int)) true := by
    refine Ev.step (fun _ => by rw [contangolaw04_WireTorn.j3]) ?_
    refine ev_pos (by rw [hnl]) ?_
    rw [show (((catF (l.take n)).length : Int) != ((catF (l.take n)).length : Int)) = false by simp]
    refine Ev.step (fun _ => by rw [contangolaw04_WireTorn.j4]) ?_
    refine ev_neg (by decide) ?_
    refine ev_down (S := Unit) (n := n) (g := fun k x _ => contangolaw04_WireTorn.l2 k l (l.take n) (n : Int) (x : Int)) (spec := fun _ _ => true) (inv := fun _ _ => True) ?_ ?_ 0 () (by omega) trivial
    · intro _ _
      refine Ev.step (fun _ => by rw [contangolaw04_WireTorn.l2]) ?_
      exact ev_neg (by omega) hgt
    · intro x _ hx _ ih
      have ih := ih () trivial
      refine Ev.step (fun _ => by rw [contangolaw04_WireTorn.l2]) ?_
      have he : (l.take n).getD x [] = l.getD x [] := by
        rw [List.getD_eq_getElem?_getD, List.getD_eq_getElem?_getD, List.getElem?_take, if_pos hx]
      rw [rdL, rdL, he, wsucc x (by omega)]
      exact ev_pos (by omega) (ev_pos (by omega) (ev_pos (by rw [hnl]; omega) (ev_pos (by omega) (ev_pos rfl ih))))
  have hl1 : ∀ d m, m + d = n → Ev (fun k => contangolaw04_WireTorn.l1 k l (endsF l i) (cn : Int) (l.take n) ((catF (l.take n)).length : Int) (m : Int) ((catF (l.take m)).length : Int)) true := by
    intro d
    induction d with
    | zero =>
      intro m hm
      obtain rfl : m = n := by omega
      refine Ev.step (fun _ => by rw [contangolaw04_WireTorn.l1]) ?_
      rcases n5 with n5 | n5
      · exact ev_neg (by rw [hel]; omega) hj3
      · by_cases hmi : m < i
        · rw [htt (m + 1) (by omega)] at n5
          refine ev_pos (by rw [hel]; omega) (ev_pos (by omega) ?_)
          rw [rd_nat, heg m hmi]
          exact ev_neg (by omega) hj3
        · exact ev_neg (by rw [hel]; omega) hj3
    | succ d ih =>
      intro m hm
      have ih := ih (m + 1) (by omega)
      have hmo := cat_mono l (m + 1) n (by omega)
      refine Ev.step (fun _ => by rw [contangolaw04_WireTorn.l1]) ?_
      refine ev_pos (by rw [hel]; omega) (ev_pos (by omega) ?_)
      rw [rd_nat, heg m (by omega), wsucc m (by omega)]
      exact ev_pos (by omega) ih
  have := hl1 n 0 (by omega)
  rw [List.take_zero] at this
  exact this
theorem WireTorn : ∀ (l0 : List (List Int)) (a1 : Int), l0.length ≤ maxLen → (∀ x0 ∈ l0, x0.length ≤ maxLen ∧ (∀ x1 ∈ x0, (Lit.int .u8 x1).wf = true)) → (Lit.int .i64 a1).wf = true → ∃ k, contangolaw04_WireTorn.f k l0 a1 = some true := by
  intro l cut _ hw _
  refine Ev.rounds ?_
  unfold contangolaw04_WireTorn.f
  have hgt : Ev (fun k => (contangolaw04_goes.f k).bind fun t => some t) true := ev_bnd goes_ev (ev_some rfl)
  have hmain : ∀ d i, i + d = l.length → i ≤ 50 → (∀ p ∈ l.take i, okP p) → (catF (l.take i)).length ≤ 20000 → Ev (fun k => contangolaw04_WireTorn.l0 k l cut (catF (l.take i)) (endsF l i) (i : Int)) true := by
    intro d
    induction d with
    | zero =>
      intro i hi h50 hok hlen
      refine Ev.step (fun _ => by rw [contangolaw04_WireTorn.l0]) ?_
      exact ev_neg (by omega) (torn_tail l cut i (by omega) h50 hok hlen _)
    | succ d ih =>
      intro i hi h50 hok hlen
      refine Ev.step (fun _ => by rw [contangolaw04_WireTorn.l0]) ?_
      refine ev_pos (by omega) ?_
      by_cases h5 : (i : Int) < 50
      · refine ev_pos h5 ?_
        by_cases h6 : ((catF (l.take i)).length : Int) < 5000
        · rw [decide_eq_true h6]
          refine Ev.step (fun _ => by rw [contangolaw04_WireTorn.j1]) ?_
          refine ev_pos rfl (ev_pos (by omega) (ev_pos (by omega) ?_))
          rw [rdL]
          have hmem : l.getD i [] ∈ l := by
            rw [List.getD_eq_getElem?_getD, List.getElem?_eq_getElem (by omega)]; exact List.getElem_mem (by omega)
          have hby : ∀ c ∈ l.getD i [], 0 ≤ c ∧ c ≤ 255 := fun c hc => wf8 ((hw _ hmem).2 c hc)
          by_cases h7 : ((l.getD i []).length : Int) > 5000
          · exact ev_pos h7 hgt
          · have hokp : okP (l.getD i []) := ⟨by omega, hby⟩
            have hfl := frame_len2 _ hokp
            refine ev_neg h7 (ev_bnd (putframe_ev (catF (l.take i)) (l.getD i []) (by omega) hby (by omega)) (ev_pos (by rw [show (endsF l i).length = i from tab_len _ _]; omega) ?_))
            have hcat : catF (l.take (i + 1)) = catF (l.take i) ++ (wcode 9 (zz (l.getD i []).length) ++ (l.getD i [] ++ fourOf (adl (l.getD i [])))) := by
              rw [take_snocL l i (by omega), cat_app]
              show catF (l.take i) ++ (frameL (l.getD i []) ++ []) = _
              rw [List.append_nil]; rfl
            have hclen : (catF (l.take (i + 1))).length = (catF (l.take i)).length + (frameL (l.getD i [])).length := by
              rw [hcat, List.length_append]; rfl
            have ih := ih (i + 1) (by omega) (by omega) (fun p hp => by
              rw [take_snocL l i (by omega)] at hp
              rcases List.mem_append.1 hp with hp | hp
              · exact hok p hp
              · rw [List.mem_singleton.1 hp]; exact hokp) (by omega)
            rw [← hcat, wsucc i (by omega)]
            rw [show endsF l i ++ [((catF (l.take (i + 1))).length : Int)] = endsF l (i + 1) by unfold endsF; rw [tab_succ]]
            exact ih
        · rw [decide_eq_false h6]
          exact torn_tail l cut i (by omega) h50 hok hlen _
      · exact ev_neg h5 (torn_tail l cut i (by omega) h50 hok hlen _)
  have := hmain l.length 0 (by omega) (by omega) (by simp) (by rw [List.take_zero]; exact Nat.zero_le _)
  rw [List.take_zero] at this
  exact this
end Go.Proofs.Ytnimfimcpjmbnaa.Pure
