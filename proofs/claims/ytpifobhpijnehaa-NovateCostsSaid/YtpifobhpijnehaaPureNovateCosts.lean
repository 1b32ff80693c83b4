/- The pure statement of the law NovateCosts, proved: plain Lean over numbers and lists, no program in sight. -/
import Derived.Test.YtpifobhpijnehaaPNovateCostsx10
namespace Go.Proofs.Ytpifobhpijnehaa.Pure
open Go.RowKit Go.Proofs.Ytpifobhpijnehaa.PNovateCosts Go.Proofs.YtpifobhpijnehaaW.PrintWords Go.Proofs.YtpifobhpijnehaaW.PrintLast Go.Proofs.YtpifobhpijnehaaW.PrintMore
set_option linter.unusedVariables false
set_option linter.unusedSimpArgs false
/-! ### from some number of rounds on: steps -/
theorem ev_pos {α : Type} {c : Prop} [Decidable c] {a b : Nat → Option α} {r : α} (h : c) (k : Ev a r) : Ev (fun n => if c then a n else b n) r := Ev.congr (fun _ => if_pos h) k
theorem ev_neg {α : Type} {c : Prop} [Decidable c] {a b : Nat → Option α} {r : α} (h : ¬ c) (k : Ev b r) : Ev (fun n => if c then a n else b n) r := Ev.congr (fun _ => if_neg h) k
theorem ev_val {α β : Type} {g : Option α} {f : Nat → α → Option β} {a : α} {r : β} (h : g = some a) (k : Ev (fun n => f n a) r) : Ev (fun n => g.bind (f n)) r := by
  subst h; exact k
theorem ev_some {α : Type} {x r : α} (h : x = r) : Ev (fun _ => some x) r := h ▸ Ev.now x
theorem ev_rw {α : Type} {g : Nat → Option α} {r s : α} (h : r = s) (k : Ev g r) : Ev g s := h ▸ k
theorem wsucc (i : Nat) (h : i ≤ 4611686018427387904) : wrap64 ((i : Int) + 1) = ((i + 1 : Nat) : Int) := by
  unfold wrap64; omega
theorem rd_nat (l : List Int) (i : Nat) : rd l (i : Int) = l.getD i 0 := rfl
/-! ### a loop, from its end backwards -/
theorem ev_down {ρ S : Type} {n : Nat} {g : Nat → Nat → S → Option ρ} {spec : Nat → S → ρ} {inv : Nat → S → Prop}
    (he : ∀ s, inv n s → Ev (fun k => g k n s) (spec n s))
    (hs : ∀ i s, i < n → inv i s → (∀ s', inv (i + 1) s' → Ev (fun k => g k (i + 1) s') (spec (i + 1) s')) → Ev (fun k => g k i s) (spec i s)) :
    ∀ i s, i ≤ n → inv i s → Ev (fun k => g k i s) (spec i s) := by
  intro i s hi h
  generalize hd : n - i = d
  induction d generalizing i s with
  | zero =>
    obtain rfl : i = n := by omega
    exact he s h
  | succ d ih => exact hs i s (by omega) h (fun s' h' => ih (i + 1) s' (by omega) h' (by omega))
theorem dropD {α : Type} (z : α) (l : List α) (i : Nat) (h : i < l.length) : l.drop i = l.getD i z :: l.drop (i + 1) := by
  rw [List.drop_eq_getElem_cons h, List.getD_eq_getElem?_getD, List.getElem?_eq_getElem h]; rfl
theorem getD_mem' {α : Type} (z : α) (l : List α) (i : Nat) (h : i < l.length) : l.getD i z ∈ l := by
  rw [List.getD_eq_getElem?_getD, List.getElem?_eq_getElem h]; exact List.getElem_mem h
theorem drop_end {α : Type} (l : List α) : l.drop l.length = [] := List.drop_length
theorem ev_bnd {α β : Type} {g : Nat → Option α} {f : Nat → α → Option β} {a : α} {r : β} (h : Ev g a) (k : Ev (fun n => f n a) r) : Ev (fun n => (g n).bind (f n)) r := h.bind k
theorem w64id (x : Int) (h0 : -9223372036854775808 ≤ x) (h1 : x ≤ 9223372036854775807) : wrap64 x = x := by unfold wrap64; omega
theorem ev_end {α : Type} {g : Nat → Option α} {x r : α} (hg : ∀ k, g (k + 1) = some x) (h : x = r) : Ev g r := Ev.step (f := fun _ => some x) hg (ev_some h)
theorem ev_iff {α : Type} {c d : Prop} [Decidable c] [Decidable d] {a b : Nat → Option α} {x y : α} (hd : c ↔ d) (h1 : c → Ev a x) (h2 : ¬ c → Ev b y) : Ev (fun n => if c then a n else b n) (if d then x else y) := by
  by_cases h : c
  · exact ev_pos h (ev_rw (if_pos (hd.1 h)).symm (h1 h))
  · exact ev_neg h (ev_rw (if_neg (fun k => h (hd.2 k))).symm (h2 h))
theorem ev_if {α : Type} {c : Prop} [Decidable c] {a b : Nat → Option α} {x y : α} (h1 : c → Ev a x) (h2 : ¬ c → Ev b y) : Ev (fun n => if c then a n else b n) (if c then x else y) := ev_iff Iff.rfl h1 h2
theorem ev_no {α : Type} {c : Prop} [Decidable c] {a b : Nat → Option α} {x : α} (h : ¬ c) (k : Ev b x) : Ev (fun n => if c then a n else b n) x := ev_neg h k
theorem goes13 : Ev (fun k => contangolaw13_goes.f k) true := Ev.of (fun k => contangolaw13_goes.mono k) (k := 200) (by decide +kernel)
theorem goes13t : Ev (fun k => (contangolaw13_goes.f k).bind fun t => some t) true := ev_bnd goes13 (ev_some rfl)
theorem w64i (n : Int) (h0 : -9223372036854775808 ≤ n) (h1 : n ≤ 9223372036854775807) : wrap64 n = n := by unfold wrap64; omega
theorem w64eq (n m : Int) (h0 : -9223372036854775808 ≤ n) (h1 : n ≤ 9223372036854775807) (h : n = m) : wrap64 n = m := by rw [w64i n h0 h1, h]
def fitsP (n : Int) : Prop := -1152921504606846976 ≤ n ∧ n ≤ 1152921504606846976
instance (n : Int) : Decidable (fitsP n) := by unfold fitsP; infer_instance
theorem cfits_eq (n : Int) : cents_Fits.f n = some (decide (fitsP n)) := by
  unfold cents_Fits.f fitsP
  by_cases h : n ≥ (-1152921504606846976)
  · rw [if_pos h]; congr 1; simp [h]
  · rw [if_neg h]; congr 1; simp [h]
/-! ### names -/
def letterB (c : Int) : Bool := decide (97 ≤ c) && decide (c ≤ 122)
def digitB (c : Int) : Bool := decide (48 ≤ c) && decide (c ≤ 57)
def nameFrom (s : ByteArray) (i : Nat) : Bool := ((List.range s.size).drop i).all (fun i => letterB (bt s i) || digitB (bt s i))
def nameOk (s : ByteArray) : Bool := if s.size = 0 then false else if s.size > 12 then false else letterB (bt s 0) && nameFrom s 0
theorem size_nil (s : ByteArray) : s.toList = ([] : List UInt8) ↔ s.size = 0 := by
  rw [ByteArray.toList_eq, List.eq_nil_iff_length_eq_zero, Array.length_toList]; rfl
theorem nameFrom_cons (s : ByteArray) (i : Nat) (h : i < s.size) : nameFrom s i = ((letterB (bt s i) || digitB (bt s i)) && nameFrom s (i + 1)) := by
  unfold nameFrom
  rw [dropD 0 (List.range s.size) i (by simpa using h), List.all_cons]
  congr 2 <;> simp [List.getD_eq_getElem?_getD, h]
theorem nameFrom_end (s : ByteArray) : nameFrom s s.size = true := by
  unfold nameFrom
  rw [List.drop_eq_nil_of_le (by simp)]; rfl
theorem letter_eq (c : Int) : words_letter.f c = some (letterB c) := by
  unfold words_letter.f letterB; by_cases h : 97 ≤ c <;> simp [h]
theorem digit_eq (c : Int) : words_digit.f c = some (digitB c) := by
  unfold words_digit.f digitB; by_cases h : 48 ≤ c <;> simp [h]
theorem name_go (s : ByteArray) (hs : s.size ≤ 12) : ∀ (i : Nat) (u : Unit), i ≤ s.size → True → Ev (fun k => words_Name.l0 k s (s.size : Int) (i : Int)) (nameFrom s i) := by
  refine ev_down (S := Unit) (g := fun k i _ => words_Name.l0 k s (s.size : Int) (i : Int)) (spec := fun i _ => nameFrom s i) (inv := fun _ _ => True) ?_ ?_
  · intro _ _
    refine Ev.step (fun _ => rfl) (ev_neg (by omega) (ev_some ?_))
    rw [nameFrom_end]
  · intro i _ hi _ ih
    have ih := ih () trivial
    refine Ev.step (fun _ => rfl) (ev_pos (by omega) (ev_pos (by omega) (ev_pos (by omega) (ev_val (letter_eq _) ?_))))
    rw [nameFrom_cons s i hi, wsucc i (by omega)]
    cases h1 : letterB (bt s i) with
    | true => exact ev_pos (by rfl) (by simpa using ih)
    | false =>
      refine ev_neg (by simp) (ev_val (digit_eq _) ?_)
      cases h2 : digitB (bt s i) with
      | true => exact ev_pos (by rfl) (by simpa using ih)
      | false => exact ev_neg (by simp) (ev_some rfl)
theorem name_ev (s : ByteArray) : Ev (fun k => words_Name.f k s) (nameOk s) := by
  unfold words_Name.f nameOk
  by_cases h0 : s.size = 0
  · rw [if_pos h0]
    exact ev_pos ((size_nil s).2 h0) (ev_end (fun _ => rfl) rfl)
  rw [if_neg h0]
  refine ev_neg (fun h => h0 ((size_nil s).1 h)) ?_
  by_cases h1 : s.size > 12
  · rw [if_pos h1]
    exact ev_pos (by omega) (ev_end (fun _ => rfl) rfl)
  rw [if_neg h1]
  refine ev_neg (by omega) (ev_pos (by omega) (ev_val (letter_eq _) (Ev.step (fun _ => rfl) ?_)))
  cases h2 : letterB (bt s 0) with
  | true =>
    have := name_go s (by omega) 0 () (by omega) trivial
    rw [Bool.true_and]; exact this
  | false => exact ev_some rfl
/-! ### the reference's names (chapter 3) -/
def n03 (s : ByteArray) (i : Nat) : Bool := (decide (0 < i) || decide (s.size = 0) || letterB (bt s (i : Int))) && (nameFrom s i && (decide (0 < s.size) && decide (s.size ≤ 12)))
theorem n03_go (s : ByteArray) (hs : s.size ≤ 9223372036854775807) : ∀ (i : Nat) (u : Unit), i ≤ s.size → True → Ev (fun k => contangoref03_Name.l0 k s (i : Int)) (n03 s i) := by
  refine ev_down (S := Unit) (g := fun k i _ => contangoref03_Name.l0 k s (i : Int)) (spec := fun i _ => n03 s i) (inv := fun _ _ => True) ?_ ?_
  · intro _ _
    refine Ev.step (fun _ => rfl) (ev_neg (by omega) ?_)
    unfold n03
    rw [nameFrom_end]
    by_cases c : 0 < s.size
    · refine ev_pos (by omega) (ev_some ?_)
      rw [show decide ((s.size : Int) ≤ 12) = decide (s.size ≤ 12) from decide_eq_decide.2 (by omega)]
      simp [c]
    · refine ev_neg (by omega) (ev_some ?_)
      rw [decide_eq_false c]; simp
  · intro i _ hi _ ih
    have ih := ih () trivial
    refine Ev.step (fun _ => rfl) (ev_pos (by omega) (ev_pos (by omega) ?_))
    have key : (letterB (bt s i) = true ∨ (0 < i ∧ digitB (bt s i) = true)) → n03 s i = n03 s (i + 1) := by
      intro h
      unfold n03
      rw [nameFrom_cons s i hi]
      rcases h with h | ⟨h, h2⟩
      · rw [h]; simp
      · rw [h2, decide_eq_true h]; simp
    have bad : letterB (bt s i) = false → (i = 0 ∨ digitB (bt s i) = false) → n03 s i = false := by
      intro h h2
      unfold n03
      rw [nameFrom_cons s i hi, h]
      rcases h2 with h2 | h2
      · rw [decide_eq_false (show ¬ 0 < i by omega), decide_eq_false (show ¬ s.size = 0 by omega)]; rfl
      · rw [h2]; simp
    rw [show wrap64 ((i : Int) + 1) = ((i + 1 : Nat) : Int) by rw [w64id _ (by omega) (by omega)]; omega]
    have rest : letterB (bt s i) = false → Ev (fun k => if (i : Int) = 0 then some false else (if bt s (i : Int) < 48 then some false else (if bt s (i : Int) > 57 then some false else contangoref03_Name.l0 k s ((i + 1 : Nat) : Int)))) (n03 s i) := by
      intro h
      by_cases c0 : i = 0
      · rw [bad h (.inl c0)]; exact ev_pos (by omega) (ev_some rfl)
      refine ev_neg (by omega) ?_
      by_cases c1 : bt s (i : Int) < 48
      · rw [bad h (.inr (by unfold digitB; rw [decide_eq_false (by omega)]; rfl))]; exact ev_pos c1 (ev_some rfl)
      refine ev_neg c1 ?_
      by_cases c2 : bt s (i : Int) > 57
      · rw [bad h (.inr (by unfold digitB; rw [decide_eq_false (show ¬ bt s (i : Int) ≤ 57 by omega), Bool.and_false]))]; exact ev_pos c2 (ev_some rfl)
      refine ev_neg c2 ?_
      rw [key (.inr ⟨by omega, by unfold digitB; rw [decide_eq_true (show 48 ≤ bt s (i : Int) by omega), decide_eq_true (show bt s (i : Int) ≤ 57 by omega)]; rfl⟩)]
      exact ih
    by_cases c1 : bt s (i : Int) ≥ 97
    · refine ev_pos c1 ?_
      by_cases c2 : bt s (i : Int) ≤ 122
      · refine ev_pos c2 ?_
        rw [key (.inl (by unfold letterB; rw [decide_eq_true (show 97 ≤ bt s (i : Int) by omega), decide_eq_true c2]; rfl))]
        exact ih
      · exact ev_neg c2 (rest (by unfold letterB; rw [decide_eq_false c2, Bool.and_false]))
    · exact ev_neg c1 (rest (by unfold letterB; rw [decide_eq_false (show ¬ 97 ≤ bt s (i : Int) by omega)]; rfl))
theorem n03_ev (s : ByteArray) (hs : s.size ≤ 9223372036854775807) : Ev (fun k => contangoref03_Name.f k s) (nameOk s) := by
  have h := n03_go s hs 0 () (by omega) trivial
  have e : n03 s 0 = nameOk s := by
    unfold n03 nameOk
    by_cases c0 : s.size = 0
    · rw [if_pos c0, decide_eq_false (show ¬ 0 < s.size by omega)]; simp
    rw [if_neg c0]
    by_cases c1 : s.size > 12
    · rw [if_pos c1, decide_eq_false (show ¬ s.size ≤ 12 by omega)]; simp
    rw [if_neg c1, decide_eq_true (show s.size ≤ 12 by omega), decide_eq_true (show 0 < s.size by omega), decide_eq_false c0]
    simp
  rw [e] at h
  exact h
/-! ### products, and what lots are worth -/
def withinB (n m : Int) : Bool := decide (-m ≤ n) && decide (n ≤ m)
theorem within_eq (n m : Int) (h : 0 ≤ m) (h2 : m ≤ 1073741824) : product_within.f n m = some (withinB n m) := by
  unfold product_within.f withinB
  rw [w64id (-m) (by omega) (by omega)]
  by_cases hn : n ≥ -m
  · rw [if_pos hn, decide_eq_true (show -m ≤ n from hn)]; rfl
  · rw [if_neg hn, decide_eq_false (show ¬ -m ≤ n from hn)]; rfl
theorem rwithin_eq (n lo hi : Int) : contangoref09_within.f n lo hi = some (decide (lo ≤ n) && decide (n ≤ hi)) := by
  unfold contangoref09_within.f
  by_cases hn : n ≥ lo
  · rw [if_pos hn, decide_eq_true (show lo ≤ n from hn)]; rfl
  · rw [if_neg hn, decide_eq_false (show ¬ lo ≤ n from hn)]; rfl
def prodV (s : ByteArray) (cur mult tick low high : Int) : Int :=
  if nameOk s = true then (if 0 ≤ cur ∧ cur ≤ 7 then (if 1 ≤ mult ∧ mult ≤ 4096 then (if 1 ≤ tick ∧ tick ≤ 16777216 then (if withinB low 16777216 = true then (if withinB high 16777216 = true then (if low > high then 17 else if Int.tmod low tick = 0 then (if Int.tmod high tick = 0 then 0 else 17) else 17) else 17) else 17) else 16) else 2) else 25) else 10
def prodT (tick low high : Int) : Int := if withinB low 16777216 = true then (if withinB high 16777216 = true then (if low > high then 17 else if Int.tmod low tick = 0 then (if Int.tmod high tick = 0 then 0 else 17) else 17) else 17) else 17
theorem pj3 (b : Bool) (s : ByteArray) (cur mult tick low high : Int) (ph : Bool) (ht : b = false → 1 ≤ tick) : Ev (fun k => product_Check.j3 k b s cur mult tick low high ph) (if b = true then 16 else prodT tick low high) := by
  refine Ev.step (fun _ => by rw [product_Check.j3]) ?_
  refine ev_if (fun _ => ev_some rfl) (fun hb => ?_)
  have ht := ht (by simpa using hb)
  unfold prodT
  refine ev_val (within_eq low 16777216 (by omega) (by omega)) (ev_if (fun h1 => ?_) (fun _ => ev_some rfl))
  refine ev_val (within_eq high 16777216 (by omega) (by omega)) (ev_if (fun h1 => ?_) (fun _ => ev_some rfl))
  refine ev_if (fun _ => ev_some rfl) (fun _ => ev_neg (by omega) (ev_if (fun _ => ev_if (fun _ => ev_some rfl) (fun _ => ev_some rfl)) (fun _ => ev_some rfl)))
theorem pj2 (b : Bool) (s : ByteArray) (cur mult tick low high : Int) (ph : Bool) : Ev (fun k => product_Check.j2 k b s cur mult tick low high ph) (if b = true then 2 else (if 1 ≤ tick ∧ tick ≤ 16777216 then prodT tick low high else 16)) := by
  refine Ev.step (fun _ => by rw [product_Check.j2]) ?_
  refine ev_if (fun _ => ev_some rfl) (fun hb => ?_)
  by_cases h1 : tick < 1
  · exact ev_pos h1 (ev_rw (by rw [if_pos rfl, if_neg (show ¬ (1 ≤ tick ∧ tick ≤ 16777216) by omega)]) (pj3 true s cur mult tick low high ph (by simp)))
  · refine ev_neg h1 (ev_rw ?_ (pj3 (decide (tick > 16777216)) s cur mult tick low high ph (fun _ => by omega)))
    by_cases h2 : tick > 16777216
    · rw [decide_eq_true h2, if_pos rfl, if_neg (show ¬ (1 ≤ tick ∧ tick ≤ 16777216) by omega)]
    · rw [decide_eq_false h2, if_neg (show ¬ (false = true) by decide), if_pos (show 1 ≤ tick ∧ tick ≤ 16777216 by omega)]
theorem pj1 (b : Bool) (s : ByteArray) (cur mult tick low high : Int) (ph : Bool) : Ev (fun k => product_Check.j1 k b s cur mult tick low high ph) (if b = true then 25 else (if 1 ≤ mult ∧ mult ≤ 4096 then (if 1 ≤ tick ∧ tick ≤ 16777216 then prodT tick low high else 16) else 2)) := by
  refine Ev.step (fun _ => by rw [product_Check.j1]) ?_
  refine ev_if (fun _ => ev_some rfl) (fun hb => ?_)
  by_cases h1 : mult < 1
  · exact ev_pos h1 (ev_rw (by rw [if_pos rfl, if_neg (show ¬ (1 ≤ mult ∧ mult ≤ 4096) by omega)]) (pj2 true s cur mult tick low high ph))
  · refine ev_neg h1 (ev_rw ?_ (pj2 (decide (mult > 4096)) s cur mult tick low high ph))
    by_cases h2 : mult > 4096
    · rw [decide_eq_true h2, if_pos rfl, if_neg (show ¬ (1 ≤ mult ∧ mult ≤ 4096) by omega)]
    · rw [decide_eq_false h2, if_neg (show ¬ (false = true) by decide), if_pos (show 1 ≤ mult ∧ mult ≤ 4096 by omega)]
theorem pj0 (b : Bool) (s : ByteArray) (cur mult tick low high : Int) (ph : Bool) : Ev (fun k => product_Check.j0 k b s cur mult tick low high ph) (if b = true then 10 else (if 0 ≤ cur ∧ cur ≤ 7 then (if 1 ≤ mult ∧ mult ≤ 4096 then (if 1 ≤ tick ∧ tick ≤ 16777216 then prodT tick low high else 16) else 2) else 25)) := by
  refine Ev.step (fun _ => by rw [product_Check.j0]) ?_
  refine ev_if (fun _ => ev_some rfl) (fun hb => ?_)
  by_cases h1 : cur < 0
  · exact ev_pos h1 (ev_rw (by rw [if_pos rfl, if_neg (show ¬ (0 ≤ cur ∧ cur ≤ 7) by omega)]) (pj1 true s cur mult tick low high ph))
  · refine ev_neg h1 (ev_rw ?_ (pj1 (decide (cur ≥ 8)) s cur mult tick low high ph))
    by_cases h2 : cur ≥ 8
    · rw [decide_eq_true h2, if_pos rfl, if_neg (show ¬ (0 ≤ cur ∧ cur ≤ 7) by omega)]
    · rw [decide_eq_false h2, if_neg (show ¬ (false = true) by decide), if_pos (show 0 ≤ cur ∧ cur ≤ 7 by omega)]
theorem prod_ev (s : ByteArray) (cur mult tick low high : Int) (ph : Bool) : Ev (fun k => product_Check.f k s cur mult tick low high ph) (prodV s cur mult tick low high) := by
  unfold product_Check.f prodV
  by_cases h0 : (s.toList == ([] : List UInt8) && (cur == 0 && (mult == 0 && (tick == 0 && (low == 0 && (high == 0 && (!ph))))))) = true
  · have hs : nameOk s = false := by
      unfold nameOk
      have h1 : s.toList = [] := by
        simp only [Bool.and_eq_true, beq_iff_eq] at h0
        exact h0.1
      rw [if_pos ((size_nil s).1 h1)]
    rw [hs, if_neg (show ¬ (false = true) by decide)]
    exact ev_pos h0 (ev_rw (if_pos rfl) (pj0 true s cur mult tick low high ph))
  · refine ev_neg h0 (ev_bnd (name_ev s) ?_)
    cases hn : nameOk s with
    | true => exact ev_rw (by rw [if_neg (show ¬ ((!true) = true) by decide), if_pos rfl]; rfl) (pj0 (!true) s cur mult tick low high ph)
    | false => exact ev_rw (by rw [if_pos (show (!false) = true from rfl), if_neg (show ¬ (false = true) by decide)]) (pj0 (!false) s cur mult tick low high ph)
theorem rprod_ev (s : ByteArray) (hs : s.size ≤ 9223372036854775807) (cur mult tick low high : Int) (ph : Bool) : Ev (fun k => contangoref09_Check.f k s cur mult tick low high ph) (prodV s cur mult tick low high) := by
  unfold contangoref09_Check.f prodV
  have hb : ∀ (a b c : Int), ((decide (a ≤ b) && decide (b ≤ c)) = true) ↔ (a ≤ b ∧ b ≤ c) := fun a b c => by simp
  refine ev_bnd (n03_ev s hs) (ev_if (fun _ => ?_) (fun _ => ev_some rfl))
  refine ev_val (rwithin_eq cur 0 7) (ev_iff (hb _ _ _) (fun _ => ?_) (fun _ => ev_some rfl))
  refine ev_val (rwithin_eq mult 1 4096) (ev_iff (hb _ _ _) (fun _ => ?_) (fun _ => ev_some rfl))
  refine ev_val (rwithin_eq tick 1 16777216) (ev_iff (hb _ _ _) (fun h3 => ?_) (fun _ => ev_some rfl))
  have h3 := (hb _ _ _).1 h3
  refine ev_val (rwithin_eq low (-16777216) 16777216) (ev_if (fun _ => ?_) (fun _ => ev_some rfl))
  refine ev_val (rwithin_eq high (-16777216) 16777216) (ev_if (fun _ => ?_) (fun _ => ev_some rfl))
  exact ev_if (fun _ => ev_some rfl) (fun _ => ev_neg (by omega) (ev_if (fun _ => ev_if (fun _ => ev_some rfl) (fun _ => ev_some rfl)) (fun _ => ev_some rfl)))
def valV (s : ByteArray) (cur mult tick low high price qty : Int) : Int × Int :=
  if prodV s cur mult tick low high = 0 then (if withinB price 33554432 = true then (if withinB qty 1048576 = true then (wrap64 (wrap64 (price * mult) * qty), 0) else (0, 18)) else (0, 17)) else (0, prodV s cur mult tick low high)
theorem val_ev (s : ByteArray) (cur mult tick low high : Int) (ph : Bool) (price qty : Int) : Ev (fun k => product_Value.f k s cur mult tick low high ph price qty) (valV s cur mult tick low high price qty) := by
  unfold product_Value.f valV
  refine ev_bnd (prod_ev s cur mult tick low high ph) (ev_if (fun _ => ?_) (fun _ => ev_some rfl))
  refine ev_val (within_eq price 33554432 (by omega) (by omega)) (ev_if (fun _ => ?_) (fun _ => ev_some rfl))
  exact ev_val (within_eq qty 1048576 (by omega) (by omega)) (ev_if (fun _ => ev_some rfl) (fun _ => ev_some rfl))
theorem rval_ev (s : ByteArray) (hs : s.size ≤ 9223372036854775807) (cur mult tick low high : Int) (ph : Bool) (price qty : Int) : Ev (fun k => contangoref09_Value.f k s cur mult tick low high ph price qty) (valV s cur mult tick low high price qty) := by
  unfold contangoref09_Value.f valV
  refine ev_bnd (rprod_ev s hs cur mult tick low high ph) (ev_if (fun _ => ?_) (fun _ => ev_some rfl))
  refine ev_val (rwithin_eq price (-33554432) 33554432) (ev_if (fun _ => ?_) (fun _ => ev_some rfl))
  exact ev_val (rwithin_eq qty (-1048576) 1048576) (ev_if (fun _ => ev_some rfl) (fun _ => ev_some rfl))
/-! ### sums -/
def sumI : List Int → Int
  | [] => 0
  | a :: l => a + sumI l
def sumAns (l : List Int) : Int × Int := if l.all (fun a => decide (fitsP a)) = true then (if fitsP (sumI l) then (sumI l, 0) else (0, 3)) else (0, 2)
theorem sdrop (l : List Int) (i : Nat) (h : i < l.length) : l.drop i = l.getD i 0 :: l.drop (i + 1) := by
  rw [List.drop_eq_getElem_cons h, List.getD_eq_getElem?_getD, List.getElem?_eq_getElem h]; rfl
theorem and32s (x : Int) (h0 : -9223372036854775808 ≤ x) (h1 : x ≤ 9223372036854775807) : Go.bits .and .i64 x 4294967295 = x % 4294967296 := by
  show IntKind.i64.wrap ((BitVec.ofInt 64 x &&& BitVec.ofInt 64 4294967295).toNat : Int) = _
  have h2 : (BitVec.ofInt 64 4294967295).toNat = 2 ^ 32 - 1 := by decide
  rw [BitVec.toNat_and, h2, Nat.and_two_pow_sub_one_eq_mod, BitVec.toNat_ofInt, IntKind.wrap_i64]
  omega
theorem csum_go (l : List Int) (hl : l.length ≤ 1073741824) (d : Nat) : ∀ (i : Nat) (h w : Int), l.length - i = d → i ≤ l.length → -(i * 268435456) ≤ h → h ≤ i * 268435456 → 0 ≤ w → w ≤ i * 4294967296 →
    Ev (fun k => cents_Sum.l0 k l h w (l.length : Int) (i : Int)) (if (l.drop i).all (fun a => decide (fitsP a)) = true then (if fitsP (h * 4294967296 + w + sumI (l.drop i)) then (h * 4294967296 + w + sumI (l.drop i), 0) else (0, 3)) else (0, 2)) := by
  induction d with
  | zero =>
    intro i h w hd hi a1 a2 a3 a4
    refine Ev.step (fun _ => rfl) (ev_neg (by omega) ?_)
    rw [List.drop_eq_nil_of_le (show l.length ≤ i by omega)]
    show Ev _ (if fitsP (h * 4294967296 + w + 0) then (h * 4294967296 + w + 0, 0) else (0, 3))
    rw [Int.add_zero, w64i (h + w / 4294967296) (by omega) (by omega), and32s w (by omega) (by omega)]
    by_cases b1 : h + w / 4294967296 < -268435456
    · refine ev_pos b1 (ev_some ?_)
      rw [if_neg (by unfold fitsP; omega)]
    refine ev_neg b1 ?_
    by_cases b2 : h + w / 4294967296 > 268435456
    · refine ev_pos b2 (ev_some ?_)
      rw [if_neg (by unfold fitsP; omega)]
    refine ev_neg b2 ?_
    rw [w64i ((h + w / 4294967296) * 4294967296) (by omega) (by omega), w64i (_ + w % 4294967296) (by omega) (by omega), show (h + w / 4294967296) * 4294967296 + w % 4294967296 = h * 4294967296 + w by omega]
    unfold cents_fitting.f
    by_cases b3 : fitsP (h * 4294967296 + w)
    · rw [if_pos b3]; refine Ev.congr (f := fun _ => some _) (fun _ => ?_) (Ev.now _)
      rw [cfits_eq, decide_eq_true b3]; rfl
    · rw [if_neg b3]; refine Ev.congr (f := fun _ => some _) (fun _ => ?_) (Ev.now _)
      rw [cfits_eq, decide_eq_false b3]; rfl
  | succ d ih =>
    intro i h w hd hi a1 a2 a3 a4
    rw [sdrop l i (by omega)]
    refine Ev.step (fun _ => rfl) (ev_pos (by omega) (ev_pos (by omega) (ev_pos (by omega) ?_)))
    rw [show rd l (i : Int) = l.getD i 0 from rfl]
    generalize l.getD i 0 = a
    refine ev_val (cfits_eq a) ?_
    by_cases ha : fitsP a
    · refine ev_pos (by simp [ha]) ?_
      have hf : fitsP a := ha
      unfold fitsP at hf
      rw [and32s a (by omega) (by omega), w64i (h + a / 4294967296) (by omega) (by omega), w64i (w + a % 4294967296) (by omega) (by omega), w64i ((i : Int) + 1) (by omega) (by omega)]
      have := ih (i + 1) (h + a / 4294967296) (w + a % 4294967296) (by omega) (by omega) (by omega) (by omega) (by omega) (by omega)
      rw [show ((i + 1 : Nat) : Int) = (i : Int) + 1 by omega, show (h + a / 4294967296) * 4294967296 + (w + a % 4294967296) + sumI (l.drop (i + 1)) = h * 4294967296 + w + sumI (a :: l.drop (i + 1)) by simp only [sumI]; omega] at this
      rw [List.all_cons, decide_eq_true ha, Bool.true_and]
      exact this
    · refine ev_neg (by simp [ha]) (ev_some ?_)
      rw [List.all_cons, decide_eq_false ha, Bool.false_and, if_neg (by simp)]
theorem csum_ev (l : List Int) (hl : l.length ≤ 1073741824) : Ev (fun k => cents_Sum.f k l) (sumAns l) := by
  have h := csum_go l hl l.length 0 0 0 (by omega) (by omega) (by omega) (by omega) (by omega) (by omega)
  rw [List.drop_zero, show (0 : Int) * 4294967296 + 0 + sumI l = sumI l by omega] at h
  exact h
theorem rfits_eq (n : Int) : contangoref01_Fits.f n = some (decide (fitsP n)) := by
  unfold contangoref01_Fits.f fitsP
  by_cases h : n ≥ (-1152921504606846976)
  · rw [if_pos h]; congr 1; simp [h]
  · rw [if_neg h]; congr 1; simp [h]
theorem rsum_go (l : List Int) (hl : l.length ≤ 1073741824) (d : Nat) : ∀ (i : Nat) (h w : Int), l.length - i = d → i ≤ l.length → -(i * 1073741824) ≤ h → h ≤ i * 1073741824 → -(i * 1073741824) ≤ w → w ≤ i * 1073741824 →
    Ev (fun k => contangoref01_Sum.l0 k l h w (i : Int)) (if (l.drop i).all (fun a => decide (fitsP a)) = true then (if fitsP (h * 1073741824 + w + sumI (l.drop i)) then (h * 1073741824 + w + sumI (l.drop i), 0) else (0, 3)) else (0, 2)) := by
  have tb : ∀ x : Int, Int.tdiv x 1073741824 * 1073741824 + Int.tmod x 1073741824 = x ∧ -1073741824 < Int.tmod x 1073741824 ∧ Int.tmod x 1073741824 < 1073741824 ∧ (0 ≤ x → 0 ≤ Int.tmod x 1073741824) ∧ (x ≤ 0 → Int.tmod x 1073741824 ≤ 0) := by
    intro x
    refine ⟨Int.tdiv_mul_add_tmod x 1073741824, ?_⟩
    rcases Int.lt_or_le x 0 with hx | hx
    · have e : Int.tmod x 1073741824 = -((-x) % 1073741824) := by
        rw [← Int.tmod_eq_emod_of_nonneg (show 0 ≤ -x by omega), Int.neg_tmod, Int.neg_neg]
      omega
    · rw [Int.tmod_eq_emod_of_nonneg hx]; omega
  induction d with
  | zero =>
    intro i h w hd hi a1 a2 a3 a4
    refine Ev.step (fun _ => rfl) (ev_neg (by omega) ?_)
    rw [List.drop_eq_nil_of_le (show l.length ≤ i by omega)]
    show Ev _ (if fitsP (h * 1073741824 + w + 0) then (h * 1073741824 + w + 0, 0) else (0, 3))
    obtain ⟨t1, t2, t3, t4⟩ := tb w
    generalize Int.tdiv w 1073741824 = D at *
    generalize Int.tmod w 1073741824 = M at *
    rw [Int.add_zero, w64i D (by omega) (by omega), w64i (h + D) (by omega) (by omega)]
    by_cases b1 : h + D < -1073741825
    · refine ev_pos b1 (ev_some ?_)
      rw [if_neg (by unfold fitsP; omega)]
    refine ev_neg b1 ?_
    by_cases b2 : h + D > 1073741825
    · refine ev_pos b2 (ev_some ?_)
      rw [if_neg (by unfold fitsP; omega)]
    refine ev_neg b2 ?_
    rw [w64i ((h + D) * 1073741824) (by omega) (by omega), w64i (_ + M) (by omega) (by omega), show (h + D) * 1073741824 + M = h * 1073741824 + w by omega]
    refine ev_val (rfits_eq _) ?_
    by_cases b3 : fitsP (h * 1073741824 + w)
    · rw [if_pos b3]; exact ev_pos (by simp [b3]) (ev_some rfl)
    · rw [if_neg b3]; exact ev_neg (by simp [b3]) (ev_some rfl)
  | succ d ih =>
    intro i h w hd hi a1 a2 a3 a4
    rw [sdrop l i (by omega)]
    refine Ev.step (fun _ => rfl) (ev_pos (by omega) (ev_pos (by omega) ?_))
    rw [show rd l (i : Int) = l.getD i 0 from rfl]
    generalize l.getD i 0 = a
    refine ev_val (rfits_eq a) ?_
    by_cases ha : fitsP a
    · refine ev_pos (by simp [ha]) ?_
      have hf : fitsP a := ha
      unfold fitsP at hf
      obtain ⟨t1, t2, t3, t4⟩ := tb a
      generalize Int.tdiv a 1073741824 = D at *
      generalize Int.tmod a 1073741824 = M at *
      rw [w64i D (by omega) (by omega), w64i (h + D) (by omega) (by omega), w64i (w + M) (by omega) (by omega), w64i ((i : Int) + 1) (by omega) (by omega)]
      have := ih (i + 1) (h + D) (w + M) (by omega) (by omega) (by omega) (by omega) (by omega) (by omega)
      rw [show ((i + 1 : Nat) : Int) = (i : Int) + 1 by omega, show (h + D) * 1073741824 + (w + M) + sumI (l.drop (i + 1)) = h * 1073741824 + w + sumI (a :: l.drop (i + 1)) by simp only [sumI]; omega] at this
      rw [List.all_cons, decide_eq_true ha, Bool.true_and]
      exact this
    · refine ev_neg (by simp [ha]) (ev_some ?_)
      rw [List.all_cons, decide_eq_false ha, Bool.false_and, if_neg (by simp)]
theorem rsum_ev (l : List Int) (hl : l.length ≤ 1073741824) : Ev (fun k => contangoref01_Sum.f k l) (sumAns l) := by
  have h := rsum_go l hl l.length 0 0 0 (by omega) (by omega) (by omega) (by omega) (by omega) (by omega)
  rw [List.drop_zero, show (0 : Int) * 1073741824 + 0 + sumI l = sumI l by omega] at h
  exact h
/-! ### novate.Cost -/
def costV (s : ByteArray) (cur mult tick low high : Int) : List Int → List S41 → Int × Int
  | ws, [] => sumAns ws
  | ws, x :: l => if (valV s cur mult tick low high x.f3 x.f2).2 = 0 then costV s cur mult tick low high (ws ++ [(valV s cur mult tick low high x.f3 x.f2).1]) l else (0, (valV s cur mult tick low high x.f3 x.f2).2)
theorem cost_ev (s : ByteArray) (cur mult tick low high : Int) (ph : Bool) : ∀ (l : List S41) (ws : List Int), ws.length + l.length ≤ 1073741824 → Ev (fun k => costGo k s cur mult tick low high ph ws l) (costV s cur mult tick low high ws l) := by
  intro l
  induction l with
  | nil => intro ws h; exact csum_ev ws (by simpa using h)
  | cons x l ih =>
    intro ws h
    simp only [List.length_cons] at h
    unfold costV
    exact ev_bnd (val_ev s cur mult tick low high ph x.f3 x.f2) (ev_if (fun _ => ih _ (by rw [List.length_append]; simp; omega)) (fun _ => ev_some rfl))
theorem rcheck13_ev (p : S41 → Bool) (l : List S41) : Ev (fun k => contangoref13_Check.f k l) (askV p l).2 := by
  rw [askV_val]
  unfold contangoref13_Check.f
  by_cases h : l.length > 2048
  · rw [if_pos h]; exact ev_pos (by omega) (ev_some rfl)
  · rw [if_neg h]
    refine ev_neg (by omega) ?_
    have hgo := ev_down (n := l.length) (g := fun k i (_ : Unit) => contangoref13_Check.l0 k l (i : Int)) (spec := fun i _ => if (l.drop i).any (fun x => badQ x.f2) = true then 18 else 0) (inv := fun _ _ => True)
      (fun _ _ => by
        refine Ev.step (fun _ => by rw [contangoref13_Check.l0]) ?_
        exact ev_neg (by omega) (ev_some (by rw [List.drop_length]; rfl)))
      (fun i _ hi _ ih => by
        have ih := ih () trivial
        refine Ev.step (fun _ => by rw [contangoref13_Check.l0]) ?_
        refine ev_pos (by omega) (ev_pos (by omega) ?_)
        rw [drop_T41 l i hi, List.any_cons]
        by_cases h1 : (rd_T41 l (i : Int)).f2 < -1048576
        · exact ev_pos h1 (ev_some (by rw [if_pos (by unfold badQ; rw [decide_eq_true h1]; rfl)]))
        · refine ev_neg h1 ?_
          by_cases h2 : (rd_T41 l (i : Int)).f2 > 1048576
          · exact ev_pos h2 (ev_some (by rw [if_pos (by unfold badQ; rw [decide_eq_true (show 1048576 < (rd_T41 l (i : Int)).f2 from h2)]; simp)]))
          · refine ev_neg h2 ?_
            have hb : badQ (rd_T41 l (i : Int)).f2 = false := by unfold badQ; rw [decide_eq_false h1, decide_eq_false (show ¬ 1048576 < (rd_T41 l (i : Int)).f2 from h2)]; rfl
            rw [hb, Bool.false_or, wsucc i (by omega)]
            exact ih)
    have := hgo 0 () (by omega) trivial
    rw [List.drop_zero] at this
    refine ev_rw ?_ this
    split <;> rfl
theorem rcost_go (a : S24) (sr : S28) (s : ByteArray) (hs : s.size ≤ 9223372036854775807) (cur mult tick low high : Int) (ph : Bool) (l : List S41) (hl : l.length ≤ 2048) : ∀ (i : Nat) (ws : List Int), i ≤ l.length → ws.length ≤ i → Ev (fun k => contangoref13_Cost.l0 k l ws (i : Int) a.f0 a.f1 s cur mult tick low high ph sr.f0 sr.f1 sr.f2 sr.f3) (costV s cur mult tick low high ws ((l.drop i).filter (ownB a sr))) :=
  ev_down (n := l.length) (g := fun k i ws => contangoref13_Cost.l0 k l ws (i : Int) a.f0 a.f1 s cur mult tick low high ph sr.f0 sr.f1 sr.f2 sr.f3) (spec := fun i ws => costV s cur mult tick low high ws ((l.drop i).filter (ownB a sr))) (inv := fun i ws => ws.length ≤ i)
    (fun ws hw => by
      refine Ev.step (fun _ => by rw [contangoref13_Cost.l0]) ?_
      refine ev_neg (by omega) ?_
      rw [List.drop_length]
      exact ev_bnd (rsum_ev ws (by omega)) (ev_some rfl))
    (fun i ws hi hw ih => by
      refine Ev.step (fun _ => by rw [contangoref13_Cost.l0]) ?_
      refine ev_pos (by omega) (ev_pos (by omega) ?_)
      rw [drop_T41 l i hi, List.filter_cons]
      generalize hx : rd_T41 l (i : Int) = x
      have hgo : ∀ b : Bool, Ev (fun k => contangoref13_Cost.j1 k l ws (i : Int) b a.f0 a.f1 s cur mult tick low high ph sr.f0 sr.f1 sr.f2 sr.f3) (costV s cur mult tick low high ws (if b = true then x :: (l.drop (i + 1)).filter (ownB a sr) else (l.drop (i + 1)).filter (ownB a sr))) := by
        intro b
        refine Ev.step (fun _ => by rw [contangoref13_Cost.j1]) ?_
        cases b with
        | true =>
          refine ev_pos rfl (ev_pos (by omega) (ev_pos (by omega) ?_))
          rw [hx]
          rw [if_pos rfl, costV]
          refine ev_bnd (rval_ev s hs cur mult tick low high ph x.f3 x.f2) (ev_if (fun _ => ev_pos (by omega) ?_) (fun _ => ev_some rfl))
          rw [wsucc i (by omega)]
          exact ih _ (by rw [List.length_append]; simp; omega)
        | false =>
          refine ev_neg (by decide) ?_
          rw [if_neg (show ¬ (false = true) by decide), wsucc i (by omega)]
          exact ih _ (by omega)
      have ho : ownB a sr x = (accEq x.f0 a && serEq x.f1 sr) := rfl
      cases hc : accEq x.f0 a with
      | true =>
        refine ev_pos hc ?_
        rw [ho, hc, Bool.true_and]
        exact hgo _
      | false =>
        refine ev_neg (by rw [show (x.f0.f0.toList == a.f0.toList && (x.f0.f1.toList == a.f1.toList)) = false from hc]; decide) ?_
        rw [ho, hc, Bool.false_and]
        exact hgo false)
theorem NovateCosts : ∀ (l0 : List (S41)) (a1_0 : ByteArray) (a1_1 : ByteArray) (a2_0 : ByteArray) (a2_1 : Int) (a2_2 : Int) (a2_3 : Int) (a2_4 : Int) (a2_5 : Int) (a2_6 : Bool) (a2_7 : ByteArray) (a2_8 : Int) (a2_9 : Int) (a2_10 : Int), l0.length ≤ maxLen → (∀ x0 ∈ l0, x0.f0.f0.size ≤ maxLen ∧ x0.f0.f1.size ≤ maxLen ∧ x0.f1.f0.size ≤ maxLen ∧ (Lit.int .i64 x0.f1.f1).wf = true ∧ (Lit.int .i64 x0.f1.f2).wf = true ∧ (Lit.int .i64 x0.f1.f3).wf = true ∧ (Lit.int .i64 x0.f2).wf = true ∧ (Lit.int .i64 x0.f3).wf = true ∧ (Lit.int .i64 x0.f4).wf = true) → a1_0.size ≤ maxLen → a1_1.size ≤ maxLen → a2_0.size ≤ maxLen → (Lit.int .i64 a2_1).wf = true → (Lit.int .i64 a2_2).wf = true → (Lit.int .i64 a2_3).wf = true → (Lit.int .i64 a2_4).wf = true → (Lit.int .i64 a2_5).wf = true → a2_7.size ≤ maxLen → (Lit.int .i64 a2_8).wf = true → (Lit.int .i64 a2_9).wf = true → (Lit.int .i64 a2_10).wf = true → ∃ k, contangolaw13_NovateCosts.f k l0 a1_0 a1_1 a2_0 a2_1 a2_2 a2_3 a2_4 a2_5 a2_6 a2_7 a2_8 a2_9 a2_10 = some true := by
  intro l a0 a1 s cur mult tick low high ph s0 s1 s2 s3 _ _ _ _ hs _ _ _ _ _ _ _ _ _
  have hs : s.size ≤ 9223372036854775807 := Nat.le_trans hs (by unfold maxLen; omega)
  refine Ev.rounds ?_
  unfold contangolaw13_NovateCosts.f
  by_cases h : (l.length : Int) > 3000
  · exact ev_pos h goes13t
  refine ev_neg h (ev_val rfl (ev_pos (by simp only [List.length_nil]; omega) ?_))
  rw [List.nil_append]
  have hin := askV_in (ownB ⟨a0, a1⟩ ⟨s0, s1, s2, s3⟩) l
  have hend : ∀ v : Int × Int, Ev (fun k => (some v).bind fun bt => (some v).bind fun bt' => if bt.1 = bt'.1 then (if bt.2 = bt'.2 then (contangolaw13_goes.f k).bind fun t => some t else none) else none) true := fun v => ev_val rfl (ev_val rfl (ev_pos rfl (ev_pos rfl goes13t)))
  by_cases he : (askV (ownB ⟨a0, a1⟩ ⟨s0, s1, s2, s3⟩) l).2 = 0
  · have hok := ask_ok _ _ he
    have h1 : Ev (fun k => novate_Cost.f k l a0 a1 s cur mult tick low high ph s0 s1 s2 s3) (costV s cur mult tick low high [] (l.filter (ownB ⟨a0, a1⟩ ⟨s0, s1, s2, s3⟩))) := by
      unfold novate_Cost.f
      refine ev_pos he ?_
      have hf : (askV (ownB ⟨a0, a1⟩ ⟨s0, s1, s2, s3⟩) l).1 = l.filter (ownB ⟨a0, a1⟩ ⟨s0, s1, s2, s3⟩) := by
        rw [askV_val, if_neg (by omega), if_neg (by
          intro hc
          obtain ⟨x, hx, hb⟩ := List.any_eq_true.1 hc
          rw [hok.2 x hx] at hb; cases hb)]
      rw [hf]
      exact cost_ev s cur mult tick low high ph _ [] (by have := List.length_filter_le (ownB ⟨a0, a1⟩ ⟨s0, s1, s2, s3⟩) l; simp only [List.length_nil]; omega)
    have h2 : Ev (fun k => contangoref13_Cost.f k l a0 a1 s cur mult tick low high ph s0 s1 s2 s3) (costV s cur mult tick low high [] (l.filter (ownB ⟨a0, a1⟩ ⟨s0, s1, s2, s3⟩))) := by
      unfold contangoref13_Cost.f
      refine ev_bnd (rcheck13_ev (ownB ⟨a0, a1⟩ ⟨s0, s1, s2, s3⟩) l) (ev_pos he ?_)
      have := rcost_go ⟨a0, a1⟩ ⟨s0, s1, s2, s3⟩ s hs cur mult tick low high ph l hok.1 0 [] (by omega) (by simp)
      rw [List.drop_zero] at this
      exact this
    exact ev_bnd h1 (ev_bnd h2 (ev_pos rfl (ev_pos rfl goes13t)))
  · have h1 : Ev (fun k => novate_Cost.f k l a0 a1 s cur mult tick low high ph s0 s1 s2 s3) (0, (askV (ownB ⟨a0, a1⟩ ⟨s0, s1, s2, s3⟩) l).2) := by
      unfold novate_Cost.f
      exact ev_neg he (ev_some rfl)
    have h2 : Ev (fun k => contangoref13_Cost.f k l a0 a1 s cur mult tick low high ph s0 s1 s2 s3) (0, (askV (ownB ⟨a0, a1⟩ ⟨s0, s1, s2, s3⟩) l).2) := by
      unfold contangoref13_Cost.f
      exact ev_bnd (rcheck13_ev (ownB ⟨a0, a1⟩ ⟨s0, s1, s2, s3⟩) l) (ev_neg he (ev_some rfl))
    exact ev_bnd h1 (ev_bnd h2 (ev_pos rfl (ev_pos rfl goes13t)))
end Go.Proofs.Ytpifobhpijnehaa.Pure
