/- The pure statement of the law TopTogether, proved: plain Lean over numbers and lists, no program in sight. -/
import Derived.Test.YthlnecmpakfdmaaPTopTogetherx
namespace Go.Proofs.Ythlnecmpakfdmaa.Pure
open Go.RowKit Go.Proofs.Ythlnecmpakfdmaa.PTopTogether Go.Proofs.YthlnecmpakfdmaaW.PrintWords Go.Proofs.YthlnecmpakfdmaaW.PrintLast Go.Proofs.YthlnecmpakfdmaaW.PrintMore
set_option linter.unusedVariables false
set_option linter.unusedSimpArgs false
/-! ### from some number of rounds on: steps -/
theorem ev_pos {α : Type} {c : Prop} [Decidable c] {a b : Nat → Option α} {r : α} (h : c) (k : Ev a r) : Ev (fun n => if c then a n else b n) r := Ev.congr (fun _ => if_pos h) k
theorem ev_neg {α : Type} {c : Prop} [Decidable c] {a b : Nat → Option α} {r : α} (h : ¬ c) (k : Ev b r) : Ev (fun n => if c then a n else b n) r := Ev.congr (fun _ => if_neg h) k
theorem ev_val {α β : Type} {g : Option α} {f : Nat → α → Option β} {a : α} {r : β} (h : g = some a) (k : Ev (fun n => f n a) r) : Ev (fun n => g.bind (f n)) r := by
  subst h; exact k
theorem ev_some {α : Type} {x r : α} (h : x = r) : Ev (fun _ => some x) r := h ▸ Ev.now x
theorem ev_rw {α : Type} {g : Nat → Option α} {r s : α} (h : r = s) (k : Ev g r) : Ev g s := h ▸ k
theorem wsucc (i : Nat) (h : i ≤ 4611686018427387904) : wrap64 ((i : Int) + 1) = ((i + 1 : Nat) : Int) := by
  unfold wrap64; omega
theorem rd_nat (l : List Int) (i : Nat) : rd l (i : Int) = l.getD i 0 := rfl
/-! ### lists given by a function of the place -/
theorem getD_mem (l : List Int) (x : Int) (h : x ∈ l) : ∃ j, j < l.length ∧ l.getD j 0 = x := by
  obtain ⟨j, hj, e⟩ := List.getElem_of_mem h
  exact ⟨j, hj, by rw [List.getD_eq_getElem?_getD, List.getElem?_eq_getElem hj]; exact e⟩
theorem mem_getD (l : List Int) (j : Nat) (h : j < l.length) : l.getD j 0 ∈ l := by
  rw [List.getD_eq_getElem?_getD, List.getElem?_eq_getElem h]; exact List.getElem_mem h
/-! ### the greedy hand-out: plain lists -/
/-! ### a loop, from its end backwards -/
theorem ev_bnd {α β : Type} {g : Nat → Option α} {f : Nat → α → Option β} {a : α} {r : β} (h : Ev g a) (k : Ev (fun n => f n a) r) : Ev (fun n => (g n).bind (f n)) r := h.bind k
theorem w64id (x : Int) (h0 : -9223372036854775808 ≤ x) (h1 : x ≤ 9223372036854775807) : wrap64 x = x := by unfold wrap64; omega
theorem w64i (n : Int) (h0 : -9223372036854775808 ≤ n) (h1 : n ≤ 9223372036854775807) : wrap64 n = n := by unfold wrap64; omega
/-! ### long division by a two-digit number, digit by digit (base 2^32) -/
/-! ### bits.Div64, in closed form -/
/-! ### cents.MulDiv and contangoref01.MulDiv: one law -/
def fitsP (n : Int) : Prop := -1152921504606846976 ≤ n ∧ n ≤ 1152921504606846976
instance (n : Int) : Decidable (fitsP n) := by unfold fitsP; infer_instance
theorem cfits_eq (n : Int) : cents_Fits.f n = some (decide (fitsP n)) := by
  unfold cents_Fits.f fitsP
  by_cases h : n ≥ (-1152921504606846976)
  · rw [if_pos h]; congr 1; simp [h]
  · rw [if_neg h]; congr 1; simp [h]
/-! ### sums -/
def sumI : List Int → Int
  | [] => 0
  | a :: l => a + sumI l
def sumAns (l : List Int) : Int × Int := if l.all (fun a => decide (fitsP a)) = true then (if fitsP (sumI l) then (sumI l, 0) else (0, 3)) else (0, 2)
theorem sdrop (l : List Int) (i : Nat) (h : i < l.length) : l.drop i = l.getD i 0 :: l.drop (i + 1) := by
  rw [List.drop_eq_getElem_cons h, List.getD_eq_getElem?_getD, List.getElem?_eq_getElem h]; rfl
theorem and32s (x : Int) (h0 : -9223372036854775808 ≤ x) (h1 : x ≤ 9223372036854775807) : Go.bits .and .i64 x 4294967295 = x % 4294967296 := by
  show IntKind.i64.wrap ((BitVec.ofInt 64 x &&& BitVec.ofInt 64 4294967295).toNat : Int) = _
  have h2 : (BitVec.ofInt 64 4294967295).toNat = 2 ^ 32 - 1 := by decide
  rw [BitVec.toNat_and, h2, Nat.and_two_pow_sub_one_eq_mod, BitVec.toNat_ofInt, IntKind.wrap_i64]
  omega
theorem csum_go (l : List Int) (hl : l.length ≤ 1073741824) (d : Nat) : ∀ (i : Nat) (h w : Int), l.length - i = d → i ≤ l.length → -(i * 268435456) ≤ h → h ≤ i * 268435456 → 0 ≤ w → w ≤ i * 4294967296 →
    Ev (fun k => cents_Sum.l0 k l h w (l.length : Int) (i : Int)) (if (l.drop i).all (fun a => decide (fitsP a)) = true then (if fitsP (h * 4294967296 + w + sumI (l.drop i)) then (h * 4294967296 + w + sumI (l.drop i), 0) else (0, 3)) else (0, 2)) := by
  induction d with
  | zero =>
    intro i h w hd hi a1 a2 a3 a4
    refine Ev.step (fun _ => rfl) (ev_neg (by omega) ?_)
    rw [List.drop_eq_nil_of_le (show l.length ≤ i by omega)]
    show Ev _ (if fitsP (h * 4294967296 + w + 0) then (h * 4294967296 + w + 0, 0) else (0, 3))
    rw [Int.add_zero, w64i (h + w / 4294967296) (by omega) (by omega), and32s w (by omega) (by omega)]
    by_cases b1 : h + w / 4294967296 < -268435456
    · refine ev_pos b1 (ev_some ?_)
      rw [if_neg (by unfold fitsP; omega)]
    refine ev_neg b1 ?_
    by_cases b2 : h + w / 4294967296 > 268435456
    · refine ev_pos b2 (ev_some ?_)
      rw [if_neg (by unfold fitsP; omega)]
    refine ev_neg b2 ?_
    rw [w64i ((h + w / 4294967296) * 4294967296) (by omega) (by omega), w64i (_ + w % 4294967296) (by omega) (by omega), show (h + w / 4294967296) * 4294967296 + w % 4294967296 = h * 4294967296 + w by omega]
    unfold cents_fitting.f
    by_cases b3 : fitsP (h * 4294967296 + w)
    · rw [if_pos b3]; refine Ev.congr (f := fun _ => some _) (fun _ => ?_) (Ev.now _)
      rw [cfits_eq, decide_eq_true b3]; rfl
    · rw [if_neg b3]; refine Ev.congr (f := fun _ => some _) (fun _ => ?_) (Ev.now _)
      rw [cfits_eq, decide_eq_false b3]; rfl
  | succ d ih =>
    intro i h w hd hi a1 a2 a3 a4
    rw [sdrop l i (by omega)]
    refine Ev.step (fun _ => rfl) (ev_pos (by omega) (ev_pos (by omega) (ev_pos (by omega) ?_)))
    rw [show rd l (i : Int) = l.getD i 0 from rfl]
    generalize l.getD i 0 = a
    refine ev_val (cfits_eq a) ?_
    by_cases ha : fitsP a
    · refine ev_pos (by simp [ha]) ?_
      have hf : fitsP a := ha
      unfold fitsP at hf
      rw [and32s a (by omega) (by omega), w64i (h + a / 4294967296) (by omega) (by omega), w64i (w + a % 4294967296) (by omega) (by omega), w64i ((i : Int) + 1) (by omega) (by omega)]
      have := ih (i + 1) (h + a / 4294967296) (w + a % 4294967296) (by omega) (by omega) (by omega) (by omega) (by omega) (by omega)
      rw [show ((i + 1 : Nat) : Int) = (i : Int) + 1 by omega, show (h + a / 4294967296) * 4294967296 + (w + a % 4294967296) + sumI (l.drop (i + 1)) = h * 4294967296 + w + sumI (a :: l.drop (i + 1)) by simp only [sumI]; omega] at this
      rw [List.all_cons, decide_eq_true ha, Bool.true_and]
      exact this
    · refine ev_neg (by simp [ha]) (ev_some ?_)
      rw [List.all_cons, decide_eq_false ha, Bool.false_and, if_neg (by simp)]
theorem csum_ev (l : List Int) (hl : l.length ≤ 1073741824) : Ev (fun k => cents_Sum.f k l) (sumAns l) := by
  have h := csum_go l hl l.length 0 0 0 (by omega) (by omega) (by omega) (by omega) (by omega) (by omega)
  rw [List.drop_zero, show (0 : Int) * 4294967296 + 0 + sumI l = sumI l by omega] at h
  exact h
theorem goes14_ev : Ev (fun k => contangotop_goes14.f k) true := Ev.of (fun k => contangotop_goes14.mono k) (k := 200) (by decide +kernel)
theorem goes14t : Ev (fun k => (contangotop_goes14.f k).bind fun t => some t) true := ev_bnd goes14_ev (ev_some rfl)
theorem rd37 (l : List S37) (i : Nat) : rd_T37 l (i : Int) = l.getD i z37 := rfl
theorem rd42 (l : List S42) (i : Nat) : rd_T42 l (i : Int) = l.getD i z42 := rfl
def sEq (a b : S35) : Bool := a.f0.toList == b.f0.toList && (a.f1 == b.f1 && (a.f2 == b.f2 && (a.f3 == b.f3)))
theorem sEq_congr {x y : S35} (h : sEq x y = true) (a : S35) : sEq a x = sEq a y := by
  unfold sEq at *
  simp only [Bool.and_eq_true, beq_iff_eq] at h
  obtain ⟨h0, h1, h2, h3⟩ := h
  rw [h0, h1, h2, h3]
theorem cmpS_some (a b : ByteArray) : (cmp_Compare_string.f a b).isSome = true := by
  unfold cmp_Compare_string.f cmp_isNaN_string.f
  simp only [Option.bind_some]
  repeat' split
  all_goals rfl
theorem cmpI_some (a b : Int) : (cmp_Compare_int.f a b).isSome = true := by
  unfold cmp_Compare_int.f cmp_isNaN_int.f
  simp only [Option.bind_some]
  repeat' split
  all_goals rfl
theorem some_bind {x : Option Int} (h : x.isSome = true) : (x.bind fun t => some t).isSome = true := by
  cases x with
  | none => cases h
  | some v => rfl
theorem ser_some (a b : S35) : ∃ n, series_Compare.f a.f0 a.f1 a.f2 a.f3 b.f0 b.f1 b.f2 b.f3 = some n := by
  rw [← Option.isSome_iff_exists]
  unfold series_Compare.f
  repeat' split
  · rfl
  · exact some_bind (cmpI_some _ _)
  · exact some_bind (cmpI_some _ _)
  · exact some_bind (cmpI_some _ _)
  · exact some_bind (cmpS_some _ _)
/-! ### positions may be -/
def lotsP (p : S37) : Prop := 0 ≤ p.f1 ∧ p.f1 ≤ 1048576 ∧ 0 ≤ p.f2 ∧ p.f2 ≤ 1048576
theorem plots_val (n : Int) : position_lots.f n = some (decide (0 ≤ n) && decide (n ≤ 1048576)) := by
  unfold position_lots.f
  by_cases h : n ≥ 0
  · rw [if_pos h, decide_eq_true (show 0 ≤ n from h)]; rfl
  · rw [if_neg h, decide_eq_false (show ¬ 0 ≤ n from h)]; rfl
theorem pchk_go (l : List S37) (hl : l.length ≤ 128) : ∀ d i, i + d = l.length → ∃ e, Ev (fun k => position_Check.l0 k l l (l.length : Int) (i : Int)) e ∧ (e = 0 → ∀ j, i ≤ j → j < l.length → lotsP (l.getD j z37)) := by
  intro d
  induction d with
  | zero =>
    intro i hi
    refine ⟨0, ?_, fun _ j h1 h2 => by omega⟩
    refine Ev.step (fun _ => by rw [position_Check.l0]) ?_
    exact (ev_neg (by omega) (ev_some rfl))
  | succ d ih =>
    intro i hi
    obtain ⟨e, he, hp⟩ := ih (i + 1) (by omega)
    have hj : ∀ b : Bool, ∃ e, Ev (fun k => position_Check.j1 k l l (l.length : Int) (i : Int) b (l.getD i z37).f0.f0 (l.getD i z37).f0.f1 (l.getD i z37).f0.f2 (l.getD i z37).f0.f3 (l.getD i z37).f1 (l.getD i z37).f2) e ∧ (e = 0 → ∀ j, i ≤ j → j < l.length → lotsP (l.getD j z37)) := by
      intro b
      have hno : ∀ n : Int, n ≠ 0 → n = 0 → ∀ j, i ≤ j → j < l.length → lotsP (l.getD j z37) := fun n h1 h2 => absurd h2 h1
      cases b with
      | true => exact ⟨19, (by refine Ev.step (fun _ => by rw [position_Check.j1]) ?_; exact (ev_pos rfl (ev_some rfl))), hno _ (by decide)⟩
      | false =>
        have st : ∀ e (P : Prop), (Ev (fun k => if (false : Bool) = true then (some 19) else ((position_lots.f (l.getD i z37).f1).bind fun t115 => (if t115 = true then ((position_lots.f (l.getD i z37).f2).bind fun t116 => (if t116 = true then (if (l.getD i z37).f1 = 0 then (if (l.getD i z37).f2 = 0 then (some 18) else (position_Check.l0 k l l (l.length : Int) (wrap64 ((i : Int) + 1)))) else (position_Check.l0 k l l (l.length : Int) (wrap64 ((i : Int) + 1)))) else (some 18))) else (some 18)))) e ∧ P) → Ev (fun k => position_Check.j1 k l l (l.length : Int) (i : Int) false (l.getD i z37).f0.f0 (l.getD i z37).f0.f1 (l.getD i z37).f0.f2 (l.getD i z37).f0.f3 (l.getD i z37).f1 (l.getD i z37).f2) e ∧ P := fun e P h => ⟨Ev.step (fun _ => by rw [position_Check.j1]) h.1, h.2⟩
        rw [wsucc i (by omega)] at st
        by_cases h1 : 0 ≤ (l.getD i z37).f1 ∧ (l.getD i z37).f1 ≤ 1048576
        · by_cases h2 : 0 ≤ (l.getD i z37).f2 ∧ (l.getD i z37).f2 ≤ 1048576
          · have hok : e = 0 → ∀ j, i ≤ j → j < l.length → lotsP (l.getD j z37) := fun h0 j hj1 hj2 => by
              by_cases hj : j = i
              · subst hj; exact ⟨h1.1, h1.2, h2.1, h2.2⟩
              · exact hp h0 j (by omega) hj2
            have v1 := plots_val (l.getD i z37).f1
            have v2 := plots_val (l.getD i z37).f2
            rw [decide_eq_true h1.1, decide_eq_true h1.2] at v1
            rw [decide_eq_true h2.1, decide_eq_true h2.2] at v2
            by_cases c1 : (l.getD i z37).f1 = 0
            · by_cases c2 : (l.getD i z37).f2 = 0
              · exact ⟨18, st _ _ ⟨ev_neg (by decide) (ev_val v1 (ev_pos rfl (ev_val v2 (ev_pos rfl (ev_pos c1 (ev_pos c2 (ev_some rfl))))))), hno _ (by decide)⟩⟩
              · exact ⟨e, st _ _ ⟨ev_neg (by decide) (ev_val v1 (ev_pos rfl (ev_val v2 (ev_pos rfl (ev_pos c1 (ev_neg c2 he)))))), hok⟩⟩
            · exact ⟨e, st _ _ ⟨ev_neg (by decide) (ev_val v1 (ev_pos rfl (ev_val v2 (ev_pos rfl (ev_neg c1 he))))), hok⟩⟩
          · have v1 := plots_val (l.getD i z37).f1
            rw [decide_eq_true h1.1, decide_eq_true h1.2] at v1
            refine ⟨18, st _ _ ⟨ev_neg (by decide) (ev_val v1 (ev_pos rfl (ev_val (plots_val _) (ev_neg ?_ (ev_some rfl))))), hno _ (by decide)⟩⟩
            simp only [Bool.and_eq_true, decide_eq_true_eq]; exact h2
        · refine ⟨18, st _ _ ⟨ev_neg (by decide) (ev_val (plots_val _) (ev_neg ?_ (ev_some rfl))), hno _ (by decide)⟩⟩
          simp only [Bool.and_eq_true, decide_eq_true_eq]; exact h1
    by_cases h0 : (i : Int) > 0
    · obtain ⟨n, hn⟩ := ser_some (l.getD (i - 1) z37).f0 (l.getD i z37).f0
      obtain ⟨e2, he2, hp2⟩ := hj (decide (n ≥ 0))
      refine ⟨e2, ?_, hp2⟩
      refine Ev.step (fun _ => by rw [position_Check.l0]) ?_
      refine (ev_pos (by omega) (ev_pos (by omega) (ev_pos (by omega) (ev_pos h0 ?_))))
      rw [w64id ((i : Int) - 1) (by omega) (by omega), show (i : Int) - 1 = ((i - 1 : Nat) : Int) by omega]
      exact ev_pos (by omega) (ev_pos (by omega) (ev_val hn he2))
    · obtain ⟨e2, he2, hp2⟩ := hj false
      refine ⟨e2, ?_, hp2⟩
      refine Ev.step (fun _ => by rw [position_Check.l0]) ?_
      exact (ev_pos (by omega) (ev_pos (by omega) (ev_pos (by omega) (ev_neg h0 he2))))
structure PosOk (l : List S37) : Prop where
  len : l.length ≤ 128
  each : ∀ j, j < l.length → lotsP (l.getD j z37)
theorem pchk_ev (l : List S37) : ∃ e, Ev (fun k => position_Check.f k l) e ∧ (e = 0 → PosOk l) := by
  unfold position_Check.f
  by_cases h : (l.length : Int) > 128
  · exact ⟨8, ev_pos h (ev_some rfl), fun h => by cases h⟩
  · obtain ⟨e, he, hp⟩ := pchk_go l (by omega) l.length 0 (by omega)
    exact ⟨e, ev_neg h he, fun h0 => ⟨by omega, fun j hj => hp h0 j (by omega) hj⟩⟩
/-! ### arrays may be -/
structure ArrOk (A : List S42) : Prop where
  len : A.length ≤ 128
  same : ∀ a ∈ A, a.f1.length = (A.getD 0 z42).f1.length
  few : ∀ a ∈ A, a.f1.length ≤ 32
  small : ∀ a ∈ A, ∀ n ∈ a.f1, -68719476736 ≤ n ∧ n ≤ 68719476736
  delta : ∀ a ∈ A, -1000 ≤ a.f2 ∧ a.f2 ≤ 1000
def arrP (A : List S42) (a : S42) : Prop := a.f1.length = (A.getD 0 z42).f1.length ∧ a.f1.length ≤ 32 ∧ (∀ n ∈ a.f1, -68719476736 ≤ n ∧ n ≤ 68719476736) ∧ -1000 ≤ a.f2 ∧ a.f2 ≤ 1000
theorem schk_l1 (A : List S42) (i : Nat) (a : S42) (P : Int → Prop) (hl : a.f1.length ≤ 32) (hnx : ∃ e, Ev (fun k => scan_Check.l0 k A A (A.length : Int) (wrap64 ((i : Int) + 1))) e ∧ (e = 0 → P e)) : ∀ d t, t + d = a.f1.length → ∃ e, Ev (fun k => scan_Check.l1 k A A (A.length : Int) (i : Int) a.f1 (a.f1.length : Int) (t : Int) a.f0.f0 a.f0.f1 a.f0.f2 a.f0.f3 a.f1 a.f2) e ∧ (e = 0 → P e ∧ (∀ s, t ≤ s → s < a.f1.length → -68719476736 ≤ a.f1.getD s 0 ∧ a.f1.getD s 0 ≤ 68719476736) ∧ -1000 ≤ a.f2 ∧ a.f2 ≤ 1000) := by
  intro d
  induction d with
  | zero =>
    intro t ht
    obtain ⟨e, he, hp⟩ := hnx
    by_cases c1 : a.f2 < -1000
    · refine ⟨2, ?_, fun h => by cases h⟩
      refine Ev.step (fun _ => by rw [scan_Check.l1]) ?_
      exact (ev_neg (by omega) (ev_pos c1 (ev_some rfl)))
    · by_cases c2 : a.f2 > 1000
      · refine ⟨2, ?_, fun h => by cases h⟩
        refine Ev.step (fun _ => by rw [scan_Check.l1]) ?_
        exact (ev_neg (by omega) (ev_neg c1 (ev_pos c2 (ev_some rfl))))
      · refine ⟨e, ?_, fun h => ⟨hp h, fun s h1 h2 => by omega, by omega, by omega⟩⟩
        refine Ev.step (fun _ => by rw [scan_Check.l1]) ?_
        exact (ev_neg (by omega) (ev_neg c1 (ev_neg c2 he)))
  | succ d ih =>
    intro t ht
    obtain ⟨e, he, hp⟩ := ih (t + 1) (by omega)
    rw [← wsucc t (by omega)] at he
    by_cases c1 : a.f1.getD t 0 < -68719476736
    · refine ⟨3, ?_, fun h => by cases h⟩
      refine Ev.step (fun _ => by rw [scan_Check.l1]) ?_
      exact (ev_pos (by omega) (ev_pos (by omega) (ev_pos (by omega) (ev_pos c1 (ev_some rfl)))))
    · by_cases c2 : a.f1.getD t 0 > 68719476736
      · refine ⟨3, ?_, fun h => by cases h⟩
        refine Ev.step (fun _ => by rw [scan_Check.l1]) ?_
        exact (ev_pos (by omega) (ev_pos (by omega) (ev_pos (by omega) (ev_neg c1 (ev_pos c2 (ev_some rfl))))))
      · refine ⟨e, ?_, fun h => ?_⟩
        refine Ev.step (fun _ => by rw [scan_Check.l1]) ?_
        exact (ev_pos (by omega) (ev_pos (by omega) (ev_pos (by omega) (ev_neg c1 (ev_neg c2 he)))))
        obtain ⟨q1, q2, q3⟩ := hp h
        refine ⟨q1, fun s h1 h2 => ?_, q3⟩
        by_cases hs : s = t
        · subst hs; omega
        · exact q2 s (by omega) h2
theorem schk_go (A : List S42) (hl : A.length ≤ 128) : ∀ d i, i + d = A.length → ∃ e, Ev (fun k => scan_Check.l0 k A A (A.length : Int) (i : Int)) e ∧ (e = 0 → ∀ j, i ≤ j → j < A.length → arrP A (A.getD j z42)) := by
  intro d
  induction d with
  | zero =>
    intro i hi
    refine ⟨0, ?_, fun _ j h1 h2 => by omega⟩
    refine Ev.step (fun _ => by rw [scan_Check.l0]) ?_
    exact (ev_neg (by omega) (ev_some rfl))
  | succ d ih =>
    intro i hi
    obtain ⟨e, he, hp⟩ := ih (i + 1) (by omega)
    rw [← wsucc i (by omega)] at he
    have hj2 : ∀ b : Bool, (b = false → (A.getD i z42).f1.length = (A.getD 0 z42).f1.length ∧ (A.getD i z42).f1.length ≤ 32) → ∃ e, Ev (fun k => scan_Check.j2 k A A (A.length : Int) (i : Int) b (A.getD i z42).f0.f0 (A.getD i z42).f0.f1 (A.getD i z42).f0.f2 (A.getD i z42).f0.f3 (A.getD i z42).f1 (A.getD i z42).f2) e ∧ (e = 0 → ∀ j, i ≤ j → j < A.length → arrP A (A.getD j z42)) := by
      intro b hb
      cases b with
      | true => exact ⟨27, (by refine Ev.step (fun _ => by rw [scan_Check.j2]) ?_; exact (ev_pos rfl (ev_some rfl))), fun h => by cases h⟩
      | false =>
        obtain ⟨b1, b2⟩ := hb rfl
        obtain ⟨e2, he2, hp2⟩ := schk_l1 A i (A.getD i z42) (fun _ => ∀ j, i + 1 ≤ j → j < A.length → arrP A (A.getD j z42)) b2 ⟨e, he, fun h => hp h⟩ (A.getD i z42).f1.length 0 (by omega)
        refine ⟨e2, ?_, fun h0 j h1 h2 => ?_⟩
        refine Ev.step (fun _ => by rw [scan_Check.j2]) ?_
        exact (ev_neg (by decide) he2)
        obtain ⟨q1, q2, q3, q4⟩ := hp2 h0
        by_cases hj : j = i
        · subst hj
          refine ⟨b1, b2, fun n hn => ?_, q3, q4⟩
          obtain ⟨s, hs, rfl⟩ := getD_mem _ n hn
          exact q2 s (by omega) hs
        · exact q1 j (by omega) h2
    have hj : ∀ b : Bool, ∃ e, Ev (fun k => scan_Check.j1 k A A (A.length : Int) (i : Int) b (A.getD i z42).f0.f0 (A.getD i z42).f0.f1 (A.getD i z42).f0.f2 (A.getD i z42).f0.f3 (A.getD i z42).f1 (A.getD i z42).f2) e ∧ (e = 0 → ∀ j, i ≤ j → j < A.length → arrP A (A.getD j z42)) := by
      intro b
      cases b with
      | true => exact ⟨19, (by refine Ev.step (fun _ => by rw [scan_Check.j1]) ?_; exact (ev_pos rfl (ev_some rfl))), fun h => by cases h⟩
      | false =>
        by_cases c1 : ((A.getD i z42).f1.length : Int) < 1
        · obtain ⟨e2, he2, hp2⟩ := hj2 true (fun h => by cases h)
          refine ⟨e2, ?_, hp2⟩
          refine Ev.step (fun _ => by rw [scan_Check.j1]) ?_
          exact (ev_neg (by decide) (ev_pos c1 he2))
        · by_cases c2 : ((A.getD i z42).f1.length : Int) > 32
          · obtain ⟨e2, he2, hp2⟩ := hj2 true (fun h => by cases h)
            refine ⟨e2, ?_, hp2⟩
            refine Ev.step (fun _ => by rw [scan_Check.j1]) ?_
            exact (ev_neg (by decide) (ev_neg c1 (ev_pos c2 he2)))
          · obtain ⟨e2, he2, hp2⟩ := hj2 (((A.getD i z42).f1.length : Int) != ((A.getD 0 z42).f1.length : Int)) (fun h => by
              rw [bne_eq_false_iff_eq] at h
              omega)
            refine ⟨e2, ?_, hp2⟩
            refine Ev.step (fun _ => by rw [scan_Check.j1]) ?_
            exact (ev_neg (by decide) (ev_neg c1 (ev_neg c2 (ev_pos (by omega) he2))))
    by_cases h0 : (i : Int) > 0
    · obtain ⟨n, hn⟩ := ser_some (A.getD (i - 1) z42).f0 (A.getD i z42).f0
      obtain ⟨e2, he2, hp2⟩ := hj (decide (n ≥ 0))
      refine ⟨e2, ?_, hp2⟩
      refine Ev.step (fun _ => by rw [scan_Check.l0]) ?_
      refine (ev_pos (by omega) (ev_pos (by omega) (ev_pos (by omega) (ev_pos h0 ?_))))
      rw [w64id ((i : Int) - 1) (by omega) (by omega), show (i : Int) - 1 = ((i - 1 : Nat) : Int) by omega]
      exact ev_pos (by omega) (ev_pos (by omega) (ev_val hn he2))
    · obtain ⟨e2, he2, hp2⟩ := hj false
      refine ⟨e2, ?_, hp2⟩
      refine Ev.step (fun _ => by rw [scan_Check.l0]) ?_
      exact (ev_pos (by omega) (ev_pos (by omega) (ev_pos (by omega) (ev_neg h0 he2))))
theorem getD_memA (A : List S42) (a : S42) (h : a ∈ A) : ∃ j, j < A.length ∧ A.getD j z42 = a := by
  obtain ⟨j, hj, e⟩ := List.getElem_of_mem h
  exact ⟨j, hj, by rw [List.getD_eq_getElem?_getD, List.getElem?_eq_getElem hj]; exact e⟩
theorem schk_ev (A : List S42) : ∃ e, Ev (fun k => scan_Check.f k A) e ∧ (e = 0 → ArrOk A) := by
  unfold scan_Check.f
  by_cases h : (A.length : Int) > 128
  · exact ⟨8, ev_pos h (ev_some rfl), fun h => by cases h⟩
  · obtain ⟨e, he, hp⟩ := schk_go A (by omega) A.length 0 (by omega)
    refine ⟨e, ev_neg h he, fun h0 => ?_⟩
    have hq : ∀ a ∈ A, arrP A a := fun a ha => by
      obtain ⟨j, hj, rfl⟩ := getD_memA A a ha
      exact hp h0 j (by omega) hj
    exact ⟨by omega, fun a ha => (hq a ha).1, fun a ha => (hq a ha).2.1, fun a ha => (hq a ha).2.2.1, fun a ha => (hq a ha).2.2.2⟩
theorem both_ev (l : List S37) (A : List S42) : ∃ e, Ev (fun k => scan_both.f k l A) e ∧ (e = 0 → PosOk l ∧ ArrOk A) := by
  unfold scan_both.f
  obtain ⟨e1, h1, p1⟩ := schk_ev A
  obtain ⟨e2, h2, p2⟩ := pchk_ev l
  by_cases h : e1 = 0
  · exact ⟨e2, ev_bnd h1 (ev_pos h (ev_bnd h2 (ev_some rfl))), fun h0 => ⟨p2 h0, p1 h⟩⟩
  · exact ⟨e1, ev_bnd h1 (ev_neg h (ev_some rfl)), fun h0 => absurd h0 h⟩
/-! ### each position's array -/
def pick (A : List S42) (s : S35) : Option S42 := A.find? fun a => sEq a.f0 s
def foundL (A : List S42) : List S37 → Option (List S42)
  | [] => some []
  | p :: l => match pick A p.f0 with
    | none => none
    | some a => (foundL A l).map fun o => a :: o
def fndAns (acc : List S42) : Option (List S42) → List S42 × Int
  | none => ([], 11)
  | some o => (acc ++ o, 0)
theorem find_step (A : List S42) (s : S35) (j : Nat) (h : j < A.length) : (A.drop j).find? (fun a => sEq a.f0 s) = if sEq (A.getD j z42).f0 s = true then some (A.getD j z42) else (A.drop (j + 1)).find? (fun a => sEq a.f0 s) := by
  have e : A.drop j = A.getD j z42 :: A.drop (j + 1) := by
    rw [List.drop_eq_getElem_cons h, List.getD_eq_getElem?_getD, List.getElem?_eq_getElem h]; rfl
  rw [e, List.find?_cons]
  cases sEq (A.getD j z42).f0 s <;> rfl
theorem found_l1 (l : List S37) (A acc : List S42) (hA : A.length ≤ 128) (i : Nat) (hacc : acc.length ≤ 1000) (nx : S42 → List S42 × Int) (hnx : ∀ a, Ev (fun k => scan_found.l0 k A (acc ++ [a]) l (l.length : Int) (wrap64 ((i : Int) + 1))) (nx a)) (p : S37) : ∀ d j, j + d = A.length → Ev (fun k => scan_found.l1 k A acc l (l.length : Int) (i : Int) A (A.length : Int) (j : Int) p.f0.f0 p.f0.f1 p.f0.f2 p.f0.f3 p.f1 p.f2) (match (A.drop j).find? (fun a => sEq a.f0 p.f0) with | none => ([], 11) | some a => nx a) := by
  intro d
  induction d with
  | zero =>
    intro j hj
    refine Ev.step (fun _ => by rw [scan_found.l1]) ?_
    refine (ev_neg (by omega) (ev_some ?_))
    rw [List.drop_eq_nil_of_le (by omega)]; rfl
  | succ d ih =>
    intro j hj
    have ih := ih (j + 1) (by omega)
    rw [← wsucc j (by omega)] at ih
    refine Ev.step (fun _ => by rw [scan_found.l1]) ?_
    refine (ev_pos (by omega) (ev_pos (by omega) (ev_pos (by omega) ?_)))
    rw [find_step A p.f0 j (by omega)]
    by_cases h : sEq (A.getD j z42).f0 p.f0 = true
    · rw [if_pos h]
      exact ev_pos h (ev_pos (by omega) (hnx (A.getD j z42)))
    · rw [if_neg h]
      exact ev_neg h ih
theorem found_l0 (l : List S37) (A : List S42) (hl : l.length ≤ 128) (hA : A.length ≤ 128) : ∀ d i (acc : List S42), i + d = l.length → acc.length = i → Ev (fun k => scan_found.l0 k A acc l (l.length : Int) (i : Int)) (fndAns acc (foundL A (l.drop i))) := by
  intro d
  induction d with
  | zero =>
    intro i acc hi ha
    refine Ev.step (fun _ => by rw [scan_found.l0]) ?_
    refine (ev_neg (by omega) (ev_some ?_))
    rw [List.drop_eq_nil_of_le (by omega)]
    show _ = (acc ++ [], (0 : Int))
    rw [List.append_nil]
  | succ d ih =>
    intro i acc hi ha
    have hnx : ∀ a, Ev (fun k => scan_found.l0 k A (acc ++ [a]) l (l.length : Int) (wrap64 ((i : Int) + 1))) (fndAns (acc ++ [a]) (foundL A (l.drop (i + 1)))) := fun a => by
      rw [wsucc i (by omega)]
      exact ih (i + 1) (acc ++ [a]) (by omega) (by rw [List.length_append, ha]; rfl)
    have h1 := found_l1 l A acc hA i (by omega) _ hnx (l.getD i z37) A.length 0 (by omega)
    refine Ev.step (fun _ => by rw [scan_found.l0]) ?_
    refine (ev_pos (by omega) (ev_pos (by omega) (ev_pos (by omega) ?_)))
    have e : l.drop i = l.getD i z37 :: l.drop (i + 1) := by
      rw [List.drop_eq_getElem_cons (by omega), List.getD_eq_getElem?_getD, List.getElem?_eq_getElem (by omega)]; rfl
    rw [e, foundL]
    refine ev_rw ?_ h1
    rw [List.drop_zero]
    unfold pick
    cases A.find? (fun a => sEq a.f0 (l.getD i z37).f0) with
    | none => rfl
    | some a =>
      cases foundL A (l.drop (i + 1)) with
      | none => rfl
      | some o => show (acc ++ [a] ++ o, (0 : Int)) = (acc ++ (a :: o), (0 : Int)); rw [List.append_assoc]; rfl
theorem found_at (A : List S42) : ∀ (l : List S37) (o : List S42), foundL A l = some o → o.length = l.length ∧ ∀ j, j < l.length → pick A (l.getD j z37).f0 = some (o.getD j z42)
  | [], o, h => by
    have h : some [] = some o := h
    cases h; exact ⟨rfl, fun j hj => by simp at hj⟩
  | p :: l, o, h => by
    rw [foundL] at h
    cases hp : pick A p.f0 with
    | none => rw [hp] at h; cases h
    | some a =>
      rw [hp] at h
      cases hf : foundL A l with
      | none => rw [hf] at h; cases h
      | some o2 =>
        rw [hf] at h
        have h : some (a :: o2) = some o := h
        cases h
        obtain ⟨e1, e2⟩ := found_at A l o2 hf
        refine ⟨by rw [List.length_cons, List.length_cons, e1], fun j hj => ?_⟩
        cases j with
        | zero => exact hp
        | succ j => exact e2 j (by simpa using hj)
structure Found (l : List S37) (A o : List S42) : Prop where
  pos : PosOk l
  arr : ArrOk A
  len : o.length = l.length
  at_ : ∀ j, j < l.length → pick A (l.getD j z37).f0 = some (o.getD j z42)
theorem found_ev (l : List S37) (A : List S42) : ∃ r : List S42 × Int, Ev (fun k => scan_found.f k l A) r ∧ (r.2 = 0 → Found l A r.1) ∧ (r.2 ≠ 0 → r.1 = []) := by
  unfold scan_found.f
  obtain ⟨e, he, hp⟩ := both_ev l A
  by_cases h : e = 0
  · obtain ⟨P, Q⟩ := hp h
    have h0 := found_l0 l A P.len Q.len l.length 0 [] (by omega) rfl
    rw [List.drop_zero] at h0
    refine ⟨_, ev_bnd he (ev_pos h h0), ?_, ?_⟩
    · intro hz
      cases hf : foundL A l with
      | none => rw [hf] at hz; cases hz
      | some o =>
        obtain ⟨e1, e2⟩ := found_at A l o hf
        show Found l A ([] ++ o)
        rw [List.nil_append]
        exact ⟨P, Q, e1, e2⟩
    · intro hz
      cases hf : foundL A l with
      | none => rfl
      | some o => rw [hf] at hz; exact absurd rfl hz
  · exact ⟨_, ev_bnd he (ev_neg h (ev_some rfl)), fun h0 => absurd h0 h, fun _ => rfl⟩
/-! ### weighed sums -/
def wlist (g : S35 → Int) (l : List S37) : List Int := l.map fun p => (p.f1 - p.f2) * g p.f0
def wsum (g : S35 → Int) (l : List S37) : Int := sumI (wlist g l)
theorem wsum_nil (g : S35 → Int) : wsum g [] = 0 := rfl
theorem wsum_cons (g : S35 → Int) (p : S37) (l : List S37) : wsum g (p :: l) = (p.f1 - p.f2) * g p.f0 + wsum g l := rfl
theorem wsum_app (g : S35 → Int) : ∀ l m : List S37, wsum g (l ++ m) = wsum g l + wsum g m
  | [], m => by rw [List.nil_append, wsum_nil]; omega
  | p :: l, m => by rw [List.cons_append, wsum_cons, wsum_cons, wsum_app g l m]; omega
theorem wlist_take (g : S35 → Int) (l : List S37) (i : Nat) (h : i < l.length) : wlist g (l.take i) ++ [((l.getD i z37).f1 - (l.getD i z37).f2) * g (l.getD i z37).f0] = wlist g (l.take (i + 1)) := by
  unfold wlist
  rw [List.take_add_one, List.map_append, List.getElem?_eq_getElem h, List.getD_eq_getElem?_getD, List.getElem?_eq_getElem h]; rfl
theorem wsum_take (g : S35 → Int) (l : List S37) (i : Nat) (h : i < l.length) : wsum g (l.take (i + 1)) = wsum g (l.take i) + ((l.getD i z37).f1 - (l.getD i z37).f2) * g (l.getD i z37).f0 := by
  rw [List.take_add_one, wsum_app, List.getElem?_eq_getElem h, List.getD_eq_getElem?_getD, List.getElem?_eq_getElem h]
  show _ + wsum g [l[i]] = _
  rw [wsum_cons, wsum_nil]
  show _ + ((l[i].f1 - l[i].f2) * g l[i].f0 + 0) = _ + (l[i].f1 - l[i].f2) * g l[i].f0
  omega
theorem mul_bnd (x y m n : Int) (hx : -m ≤ x ∧ x ≤ m) (hy : -n ≤ y ∧ y ≤ n) : -(m * n) ≤ x * y ∧ x * y ≤ m * n := by
  have hm : 0 ≤ m := by omega
  have hn : 0 ≤ n := by omega
  by_cases h : 0 ≤ y
  · have h1 := Int.mul_le_mul_of_nonneg_right hx.2 h
    have h2 := Int.mul_le_mul_of_nonneg_right hx.1 h
    have h3 := Int.mul_le_mul_of_nonneg_left hy.2 hm
    rw [Int.neg_mul] at h2
    omega
  · have h1 := Int.mul_le_mul_of_nonneg_right hx.2 (show 0 ≤ -y by omega)
    have h2 := Int.mul_le_mul_of_nonneg_right hx.1 (show 0 ≤ -y by omega)
    have h3 := Int.mul_le_mul_of_nonneg_left (show -y ≤ n by omega) hm
    rw [Int.neg_mul] at h2
    simp only [Int.mul_neg] at h1 h2 h3
    omega
def gl (A : List S42) (t : Nat) (s : S35) : Int := match pick A s with
  | some a => a.f1.getD t 0
  | none => 0
def gd (A : List S42) (s : S35) : Int := match pick A s with
  | some a => a.f2
  | none => 0
theorem pick_congr (A : List S42) {x y : S35} (h : sEq x y = true) : pick A x = pick A y := by
  unfold pick
  congr 1
  funext a
  exact sEq_congr h a.f0
theorem gl_congr (A : List S42) (t : Nat) {x y : S35} (h : sEq x y = true) : gl A t x = gl A t y := by unfold gl; rw [pick_congr A h]
theorem gd_congr (A : List S42) {x y : S35} (h : sEq x y = true) : gd A x = gd A y := by unfold gd; rw [pick_congr A h]
theorem Found.mem {l : List S37} {A o : List S42} (F : Found l A o) (j : Nat) (hj : j < l.length) : o.getD j z42 ∈ A := List.mem_of_find?_eq_some (F.at_ j hj)
theorem Found.gl {l : List S37} {A o : List S42} (F : Found l A o) (t j : Nat) (hj : j < l.length) : gl A t (l.getD j z37).f0 = (o.getD j z42).f1.getD t 0 := by
  unfold Pure.gl; rw [F.at_ j hj]
theorem Found.gd {l : List S37} {A o : List S42} (F : Found l A o) (j : Nat) (hj : j < l.length) : gd A (l.getD j z37).f0 = (o.getD j z42).f2 := by
  unfold Pure.gd; rw [F.at_ j hj]
theorem lots_diff {p : S37} (h : lotsP p) : -1048576 ≤ p.f1 - p.f2 ∧ p.f1 - p.f2 ≤ 1048576 := by
  obtain ⟨h1, h2, h3, h4⟩ := h; omega
/-! ### losses -/
def LossIs (l : List S37) (A : List S42) (r : List Int × Int) : Prop := (r.2 ≠ 0 → r.1 = []) ∧ (r.2 = 0 → (A = [] → r.1 = []) ∧ (A ≠ [] → r.1.length = (A.getD 0 z42).f1.length) ∧ ∀ t, t < r.1.length → r.1.getD t 0 = wsum (gl A t) l ∧ fitsP (wsum (gl A t) l))
theorem loss_l1 {l : List S37} {A o : List S42} (F : Found l A o) (hne : A ≠ []) (x4 : List Int) (t : Nat) (ht : t < (A.getD 0 z42).f1.length) (hx4 : x4.length ≤ 100) (r : List Int × Int) (hnx : Ev (fun k => if (sumAns (wlist (gl A t) l)).2 = 0 then (if x4.length < 17592186044416 then (scan_Losses.l0 k l (x4 ++ [(sumAns (wlist (gl A t) l)).1]) o ((A.getD 0 z42).f1.length : Int) (wrap64 ((t : Int) + 1))) else (none)) else (some (([] : List Int), (sumAns (wlist (gl A t) l)).2))) r) : ∀ d i, i + d = l.length → Ev (fun k => scan_Losses.l1 k l x4 o (t : Int) (wlist (gl A t) (l.take i)) ((A.getD 0 z42).f1.length : Int) (t : Int) l (l.length : Int) (i : Int)) r := by
  have hl := F.pos.len
  intro d
  induction d with
  | zero =>
    intro i hi
    obtain rfl : i = l.length := by omega
    rw [List.take_length]
    refine Ev.step (fun _ => by rw [scan_Losses.l1]) ?_
    exact (ev_neg (by omega) (ev_bnd (csum_ev _ (by unfold wlist; rw [List.length_map]; omega)) hnx))
  | succ d ih =>
    intro i hi
    have ih := ih (i + 1) (by omega)
    have hm := F.mem i (by omega)
    have hs := F.arr.same _ hm
    have hlen := F.len
    have hlo := lots_diff (F.pos.each i (by omega))
    have hsm := F.arr.small _ hm _ (mem_getD (o.getD i z42).f1 t (by omega))
    have hb := mul_bnd _ _ 1048576 68719476736 hlo hsm
    refine Ev.step (fun _ => by rw [scan_Losses.l1]) ?_
    refine (ev_pos (by omega) (ev_pos (by omega) (ev_pos (by omega) (ev_pos (by omega) (ev_pos (by omega) (ev_pos (by rw [rd42]; omega) (ev_pos (by unfold wlist; rw [List.length_map, List.length_take]; omega) ?_)))))))
    rw [rd37, rd42, rd_nat, wsucc i (by omega), w64id ((l.getD i z37).f1 - (l.getD i z37).f2) (by omega) (by omega), w64id _ (by omega) (by omega), ← F.gl t i (by omega), wlist_take _ _ _ (by omega)]
    exact ih
theorem loss_fits {l : List S37} {A o : List S42} (F : Found l A o) (t : Nat) (hne : A ≠ []) (ht : t < (A.getD 0 z42).f1.length) : ∀ a ∈ wlist (gl A t) l, fitsP a := by
  intro a ha
  obtain ⟨p, hp, rfl⟩ := List.mem_map.1 ha
  obtain ⟨j, hj, e⟩ := List.getElem_of_mem hp
  have e : l.getD j z37 = p := by rw [List.getD_eq_getElem?_getD, List.getElem?_eq_getElem hj]; exact e
  have hm := F.mem j hj
  have hs := F.arr.same _ hm
  have hlo := lots_diff (F.pos.each j hj)
  have hsm := F.arr.small _ hm _ (mem_getD (o.getD j z42).f1 t (by omega))
  have hb := mul_bnd _ _ 1048576 68719476736 hlo hsm
  rw [← F.gl t j hj, e] at hb
  show fitsP ((p.f1 - p.f2) * gl A t p.f0)
  unfold fitsP
  omega
theorem sumAns_f (l : List Int) (h : ∀ a ∈ l, fitsP a) : sumAns l = if fitsP (sumI l) then (sumI l, 0) else (0, 3) := by
  unfold sumAns
  rw [if_pos (List.all_eq_true.2 fun a ha => decide_eq_true (h a ha))]
theorem loss_l0 {l : List S37} {A o : List S42} (F : Found l A o) (hne : A ≠ []) (hfew : (A.getD 0 z42).f1.length ≤ 32) : ∀ d t (x4 : List Int), t + d = (A.getD 0 z42).f1.length → x4.length = t → (∀ s, s < t → x4.getD s 0 = wsum (gl A s) l ∧ fitsP (wsum (gl A s) l)) → ∃ r, Ev (fun k => scan_Losses.l0 k l x4 o ((A.getD 0 z42).f1.length : Int) (t : Int)) r ∧ LossIs l A r := by
  intro d
  induction d with
  | zero =>
    intro t x4 ht hx hs
    refine ⟨(x4, 0), ?_, fun h => absurd rfl h, fun _ => ⟨fun h => absurd h hne, fun _ => by show x4.length = _; omega, fun s h => hs s (by show s < t; have h : s < x4.length := h; omega)⟩⟩
    refine Ev.step (fun _ => by rw [scan_Losses.l0]) ?_
    exact (ev_neg (by omega) (ev_some rfl))
  | succ d ih =>
    intro t x4 ht hx hs
    have hfit := loss_fits F t hne (by omega)
    have hsum := sumAns_f _ hfit
    have hstart : ∀ r, Ev (fun k => if (sumAns (wlist (gl A t) l)).2 = 0 then (if x4.length < 17592186044416 then (scan_Losses.l0 k l (x4 ++ [(sumAns (wlist (gl A t) l)).1]) o ((A.getD 0 z42).f1.length : Int) (wrap64 ((t : Int) + 1))) else (none)) else (some (([] : List Int), (sumAns (wlist (gl A t) l)).2))) r → Ev (fun k => scan_Losses.l0 k l x4 o ((A.getD 0 z42).f1.length : Int) (t : Int)) r := fun r hr => by
      have := loss_l1 F hne x4 t (by omega) (by omega) r hr l.length 0 (by omega)
      rw [List.take_zero] at this
      refine Ev.step (fun _ => by rw [scan_Losses.l0]) ?_
      exact (ev_pos (by omega) this)
    by_cases hf : fitsP (sumI (wlist (gl A t) l))
    · rw [if_pos hf] at hsum
      obtain ⟨r, hr, hp⟩ := ih (t + 1) (x4 ++ [wsum (gl A t) l]) (by omega) (by rw [List.length_append, hx]; rfl) (fun s h => by
        by_cases hst : s = t
        · subst hst
          refine ⟨?_, hf⟩
          rw [List.getD_eq_getElem?_getD, List.getElem?_append, if_neg (by omega), hx, Nat.sub_self]; rfl
        · have := hs s (by omega)
          refine ⟨?_, this.2⟩
          rw [List.getD_eq_getElem?_getD, List.getElem?_append, if_pos (by omega), ← List.getD_eq_getElem?_getD]
          exact this.1)
      refine ⟨r, hstart r ?_, hp⟩
      rw [hsum, wsucc t (by omega)]
      exact ev_pos rfl (ev_pos (by omega) hr)
    · rw [if_neg hf] at hsum
      refine ⟨([], 3), hstart _ ?_, fun _ => rfl, fun h => by cases h⟩
      rw [hsum]
      exact ev_neg (by decide) (ev_some rfl)
theorem losses_ev {l : List S37} {A : List S42} {q : List S42 × Int} (hq : Ev (fun k => scan_found.f k l A) q) (hF : q.2 = 0 → Found l A q.1) : ∃ r, Ev (fun k => scan_Losses.f k l A) r ∧ LossIs l A r ∧ (r.2 = 0 → q.2 = 0) := by
  unfold scan_Losses.f
  by_cases h : q.2 = 0
  · have F := hF h
    by_cases hA : A = []
    · refine ⟨([], 0), ev_bnd hq (ev_pos h ?_), ⟨fun _ => rfl, fun _ => ⟨fun _ => rfl, fun h => absurd hA h, fun t ht => by simp at ht⟩⟩, fun _ => h⟩
      rw [h, hA]
      refine Ev.step (fun _ => by rw [scan_Losses.j0]) ?_
      exact (ev_pos rfl (ev_some rfl))
    · have hpos : 0 < A.length := by
        cases A with
        | nil => exact absurd rfl hA
        | cons a A => simp
      have h0 : A.getD 0 z42 ∈ A := by
        rw [List.getD_eq_getElem?_getD, List.getElem?_eq_getElem hpos]; exact List.getElem_mem hpos
      obtain ⟨r, hr, hp⟩ := loss_l0 F hA (F.arr.few _ h0) (A.getD 0 z42).f1.length 0 [] (by omega) rfl (fun s hs => by omega)
      refine ⟨r, ev_bnd hq (ev_pos h ?_), hp, fun _ => h⟩
      rw [show ((A.length : Int) == 0) = false by rw [beq_eq_false_iff_ne]; omega]
      refine Ev.step (fun _ => by rw [scan_Losses.j0]) ?_
      exact (ev_neg (by decide) (ev_pos (by omega) hr))
  · refine ⟨([], q.2), ev_bnd hq (ev_neg h ?_), ⟨fun _ => rfl, fun h0 => absurd h0 h⟩, fun h0 => absurd h0 h⟩
    refine Ev.step (fun _ => by rw [scan_Losses.j0]) ?_
    exact (ev_pos rfl (ev_some rfl))
/-! ### the greatest loss -/
theorem risk_go (L : List Int) (e : Int) (hl : L.length ≤ 1000) : ∀ d i (r s : Int), i + d = L.length → ∃ r2 s2, Ev (fun k => scan_Risk.l0 k r s e L (L.length : Int) (i : Int)) (r2, s2, e) ∧ r ≤ r2 ∧ (∀ t, i ≤ t → t < L.length → L.getD t 0 ≤ r2) ∧ (r2 = r ∨ ∃ t, t < L.length ∧ r2 = L.getD t 0) := by
  intro d
  induction d with
  | zero =>
    intro i r s hi
    refine ⟨r, s, ?_, Int.le_refl _, fun t h1 h2 => by omega, .inl rfl⟩
    refine Ev.step (fun _ => by rw [scan_Risk.l0]) ?_
    exact (ev_neg (by omega) (ev_some rfl))
  | succ d ih =>
    intro i r s hi
    by_cases h : L.getD i 0 > r
    · obtain ⟨r2, s2, he, h1, h2, h3⟩ := ih (i + 1) (L.getD i 0) (i : Int) (by omega)
      rw [← wsucc i (by omega)] at he
      refine ⟨r2, s2, ?_, by omega, fun t t1 t2 => ?_, ?_⟩
      refine Ev.step (fun _ => by rw [scan_Risk.l0]) ?_
      exact (ev_pos (by omega) (ev_pos (by omega) (ev_pos (by omega) (ev_pos h he))))
      · by_cases ht : t = i
        · subst ht; exact h1
        · exact h2 t (by omega) t2
      · rcases h3 with h3 | h3
        · exact .inr ⟨i, by omega, h3⟩
        · exact .inr h3
    · obtain ⟨r2, s2, he, h1, h2, h3⟩ := ih (i + 1) r s (by omega)
      rw [← wsucc i (by omega)] at he
      refine ⟨r2, s2, ?_, h1, fun t t1 t2 => ?_, h3⟩
      refine Ev.step (fun _ => by rw [scan_Risk.l0]) ?_
      exact (ev_pos (by omega) (ev_pos (by omega) (ev_pos (by omega) (ev_neg h he))))
      by_cases ht : t = i
      · subst ht; omega
      · exact h2 t (by omega) t2
theorem loss_few {l : List S37} {A : List S42} {r : List Int × Int} (h : LossIs l A r) (hA : r.2 = 0 → ArrOk A) : r.1.length ≤ 32 := by
  by_cases h0 : r.2 = 0
  · obtain ⟨h1, h2, _⟩ := h.2 h0
    by_cases hne : A = []
    · rw [h1 hne]; simp
    · rw [h2 hne]
      have hpos : 0 < A.length := by
        cases A with
        | nil => exact absurd rfl hne
        | cons a A => simp
      exact (hA h0).few _ (by rw [List.getD_eq_getElem?_getD, List.getElem?_eq_getElem hpos]; exact List.getElem_mem hpos)
  · rw [h.1 h0]; simp
theorem risk_ev {l : List S37} {A : List S42} {q : List S42 × Int} (hq : Ev (fun k => scan_found.f k l A) q) (hF : q.2 = 0 → Found l A q.1) : ∃ (L : List Int × Int) (r s : Int), Ev (fun k => scan_Risk.f k l A) (r, s, L.2) ∧ LossIs l A L ∧ (L.2 = 0 → q.2 = 0) ∧ 0 ≤ r ∧ (∀ t, t < L.1.length → L.1.getD t 0 ≤ r) ∧ (r = 0 ∨ ∃ t, t < L.1.length ∧ r = L.1.getD t 0) := by
  obtain ⟨L, hL, hI, h0⟩ := losses_ev hq hF
  have hfew := loss_few hI (fun h => (hF (h0 h)).arr)
  obtain ⟨r, s, he, h1, h2, h3⟩ := risk_go L.1 L.2 (by omega) L.1.length 0 0 0 (by omega)
  refine ⟨L, r, s, ?_, hI, h0, h1, fun t ht => h2 t (by omega) ht, h3⟩
  unfold scan_Risk.f
  exact ev_bnd hL he
/-! ### deltas -/
theorem delta_b {l : List S37} {A o : List S42} (F : Found l A o) : ∀ i, i ≤ l.length → -(1048576000 * (i : Int)) ≤ wsum (gd A) (l.take i) ∧ wsum (gd A) (l.take i) ≤ 1048576000 * (i : Int) := by
  intro i
  induction i with
  | zero => intro _; rw [List.take_zero, wsum_nil]; exact ⟨Int.le_refl _, Int.le_refl _⟩
  | succ i ih =>
    intro hi
    have ih := ih (by omega)
    have hlo := lots_diff (F.pos.each i (by omega))
    have hd := F.arr.delta _ (F.mem i (by omega))
    have hb := mul_bnd _ _ 1048576 1000 hlo hd
    rw [← F.gd i (by omega)] at hb
    rw [wsum_take _ _ _ (by omega)]
    omega
theorem delta_go {l : List S37} {A o : List S42} (F : Found l A o) : ∀ d i, i + d = l.length → Ev (fun k => scan_Delta.l0 k l (wsum (gd A) (l.take i)) 0 o (o.length : Int) (i : Int)) (wsum (gd A) l, 0) := by
  have hl := F.pos.len
  have hlen := F.len
  intro d
  induction d with
  | zero =>
    intro i hi
    obtain rfl : i = l.length := by omega
    rw [List.take_length]
    refine Ev.step (fun _ => by rw [scan_Delta.l0]) ?_
    exact (ev_neg (by omega) (ev_some rfl))
  | succ d ih =>
    intro i hi
    have ih := ih (i + 1) (by omega)
    have b1 := delta_b F i (by omega)
    have b2 := delta_b F (i + 1) (by omega)
    have hlo := lots_diff (F.pos.each i (by omega))
    have hd := F.arr.delta _ (F.mem i (by omega))
    have hb := mul_bnd _ _ 1048576 1000 hlo hd
    rw [wsum_take _ _ _ (by omega), F.gd i (by omega)] at ih b2
    refine Ev.step (fun _ => by rw [scan_Delta.l0]) ?_
    refine (ev_pos (by omega) (ev_pos (by omega) (ev_pos (by omega) (ev_pos (by omega) ?_))))
    rw [rd37, rd42, wsucc i (by omega), w64id ((l.getD i z37).f1 - (l.getD i z37).f2) (by omega) (by omega), w64id (_ * _) (by omega) (by omega), w64id _ (by omega) (by omega)]
    exact ih
theorem delta_ev {l : List S37} {A : List S42} {q : List S42 × Int} (hq : Ev (fun k => scan_found.f k l A) q) (hF : q.2 = 0 → Found l A q.1) (hN : q.2 ≠ 0 → q.1 = []) : ∃ n, Ev (fun k => scan_Delta.f k l A) (n, q.2) ∧ (q.2 = 0 → n = wsum (gd A) l ∧ -1048576000000 ≤ n ∧ n ≤ 1048576000000) := by
  unfold scan_Delta.f
  by_cases h : q.2 = 0
  · have F := hF h
    have hg := delta_go F l.length 0 (by omega)
    rw [List.take_zero, wsum_nil] at hg
    have hb := delta_b F l.length (Nat.le_refl _)
    rw [List.take_length] at hb
    have hl := F.pos.len
    refine ⟨wsum (gd A) l, ev_bnd hq ?_, fun _ => ⟨rfl, by omega, by omega⟩⟩
    rw [h]
    exact hg
  · refine ⟨0, ev_bnd hq ?_, fun h0 => absurd h0 h⟩
    rw [hN h]
    refine Ev.step (fun _ => by rw [scan_Delta.l0]) ?_
    exact (ev_neg (by simp) (ev_some rfl))
/-! ### two portfolios together -/
def BothIs (a b acc : List S37) (i k : Nat) (r : List S37 × Bool) : Prop := (r.2 = true → PosOk r.1) ∧ ∀ g : S35 → Int, (∀ x y, sEq x y = true → g x = g y) → wsum g r.1 = wsum g acc + wsum g (a.drop i) + wsum g (b.drop k)
theorem drop37 (l : List S37) (i : Nat) (h : i < l.length) : l.drop i = l.getD i z37 :: l.drop (i + 1) := by
  rw [List.drop_eq_getElem_cons h, List.getD_eq_getElem?_getD, List.getElem?_eq_getElem h]; rfl
theorem wsum_drop (g : S35 → Int) (l : List S37) (i : Nat) (h : i < l.length) : wsum g (l.drop i) = ((l.getD i z37).f1 - (l.getD i z37).f2) * g (l.getD i z37).f0 + wsum g (l.drop (i + 1)) := by
  rw [drop37 l i h, wsum_cons]
theorem wsum_snoc (g : S35 → Int) (l : List S37) (p : S37) : wsum g (l ++ [p]) = wsum g l + (p.f1 - p.f2) * g p.f0 := by
  rw [wsum_app, wsum_cons, wsum_nil]; omega
theorem both_l2 (a b : List S37) (hb : b.length ≤ 128) (i : Nat) (hi : a.length ≤ i) : ∀ d k (acc : List S37), k + d = b.length → acc.length ≤ 1000 - d → ∃ r, Ev (fun n => contangotop_bothB.l2 n b acc (k : Int)) r ∧ BothIs a b acc i k r := by
  intro d
  induction d with
  | zero =>
    intro k acc hk ha
    obtain ⟨e, he, hp⟩ := pchk_ev acc
    refine ⟨(acc, e == 0), ?_, fun h => hp (by simpa using h), fun g _ => ?_⟩
    refine Ev.step (fun _ => by rw [contangotop_bothB.l2]) ?_
    exact (ev_neg (by omega) (ev_bnd he (ev_some rfl)))
    rw [List.drop_eq_nil_of_le (show a.length ≤ i from hi), List.drop_eq_nil_of_le (show b.length ≤ k by omega), wsum_nil]
    show wsum g acc = _
    omega
  | succ d ih =>
    intro k acc hk ha
    obtain ⟨r, hr, hp⟩ := ih (k + 1) (acc ++ [b.getD k z37]) (by omega) (by rw [List.length_append, List.length_singleton]; omega)
    rw [← wsucc k (by omega)] at hr
    refine ⟨r, ?_, hp.1, fun g hg => ?_⟩
    refine Ev.step (fun _ => by rw [contangotop_bothB.l2]) ?_
    exact (ev_pos (by omega) (ev_pos (by omega) (ev_pos (by omega) hr)))
    rw [hp.2 g hg, wsum_snoc, wsum_drop g b k (by omega)]
    omega
theorem both_go (a b : List S37) (ha : PosOk a) (hb : PosOk b) : ∀ d i k (acc : List S37), i ≤ a.length → k ≤ b.length → (a.length - i) + (b.length - k) ≤ d → acc.length + d ≤ 256 → (∃ r, Ev (fun n => contangotop_bothB.l0 n a b acc (k : Int) (i : Int)) r ∧ BothIs a b acc i k r) ∧ (i < a.length → ∃ r, Ev (fun n => contangotop_bothB.l1 n a b acc (k : Int) (i : Int)) r ∧ BothIs a b acc i k r) := by
  have hla := ha.len
  have hlb := hb.len
  intro d
  induction d with
  | zero =>
    intro i k acc hi hk hd hc
    refine ⟨?_, fun h => by omega⟩
    obtain ⟨r, hr, hp⟩ := both_l2 a b hlb i (by omega) (b.length - k) k acc (by omega) (by omega)
    refine ⟨r, ?_, hp⟩
    refine Ev.step (fun _ => by rw [contangotop_bothB.l0]) ?_
    exact (ev_neg (by omega) hr)
  | succ d ih =>
    intro i k acc hi hk hd hc
    have h1 : i < a.length → ∃ r, Ev (fun n => contangotop_bothB.l1 n a b acc (k : Int) (i : Int)) r ∧ BothIs a b acc i k r := by
      intro hia
      have hai : ∃ r, Ev (fun n => contangotop_bothB.l0 n a b (acc ++ [a.getD i z37]) (k : Int) (wrap64 ((i : Int) + 1))) r ∧ BothIs a b acc i k r := by
        obtain ⟨⟨r, hr, hp⟩, _⟩ := ih (i + 1) k (acc ++ [a.getD i z37]) (by omega) hk (by omega) (by rw [List.length_append, List.length_singleton]; omega)
        rw [← wsucc i (by omega)] at hr
        refine ⟨r, hr, hp.1, fun g hg => ?_⟩
        rw [hp.2 g hg, wsum_snoc, wsum_drop g a i hia]
        omega
      by_cases hkb : k < b.length
      · obtain ⟨n, hn⟩ := ser_some (b.getD k z37).f0 (a.getD i z37).f0
        by_cases hneg : n < 0
        · obtain ⟨_, hx⟩ := ih i (k + 1) (acc ++ [b.getD k z37]) hi (by omega) (by omega) (by rw [List.length_append, List.length_singleton]; omega)
          obtain ⟨r, hr, hp⟩ := hx hia
          rw [← wsucc k (by omega)] at hr
          refine ⟨r, ?_, hp.1, fun g hg => ?_⟩
          refine Ev.step (fun _ => by rw [contangotop_bothB.l1]) ?_
          exact (ev_pos (by omega) (ev_pos (by omega) (ev_pos (by omega) (ev_pos (by omega) (ev_val hn (ev_pos hneg (ev_pos (by omega) hr)))))))
          rw [hp.2 g hg, wsum_snoc, wsum_drop g b k hkb]
          omega
        · by_cases hs : sEq (b.getD k z37).f0 (a.getD i z37).f0 = true
          · have la := ha.each i hia
            have lb := hb.each k hkb
            obtain ⟨la1, la2, la3, la4⟩ := la
            obtain ⟨lb1, lb2, lb3, lb4⟩ := lb
            obtain ⟨⟨r, hr, hp⟩, _⟩ := ih (i + 1) (k + 1) (acc ++ [⟨(a.getD i z37).f0, (a.getD i z37).f1 + (b.getD k z37).f1, (a.getD i z37).f2 + (b.getD k z37).f2⟩]) (by omega) (by omega) (by omega) (by rw [List.length_append, List.length_singleton]; omega)
            rw [← wsucc k (by omega), ← wsucc i (by omega)] at hr
            refine ⟨r, ?_, hp.1, fun g hg => ?_⟩
            refine Ev.step (fun _ => by rw [contangotop_bothB.l1]) ?_
            refine (ev_pos (by omega) (ev_pos (by omega) (ev_pos (by omega) (ev_pos (by omega) (ev_val hn (ev_neg hneg (ev_pos hs (ev_pos (by omega) ?_))))))))
            · rw [rd37, rd37, w64id ((a.getD i z37).f1 + (b.getD k z37).f1) (by omega) (by omega), w64id ((a.getD i z37).f2 + (b.getD k z37).f2) (by omega) (by omega)]
              exact hr
            · have e := hg _ _ hs
              rw [hp.2 g hg, wsum_snoc, wsum_drop g a i hia, wsum_drop g b k hkb, e]
              show wsum g acc + ((a.getD i z37).f1 + (b.getD k z37).f1 - ((a.getD i z37).f2 + (b.getD k z37).f2)) * g (a.getD i z37).f0 + wsum g (a.drop (i + 1)) + wsum g (b.drop (k + 1)) = _
              rw [show (a.getD i z37).f1 + (b.getD k z37).f1 - ((a.getD i z37).f2 + (b.getD k z37).f2) = ((a.getD i z37).f1 - (a.getD i z37).f2) + ((b.getD k z37).f1 - (b.getD k z37).f2) by omega, Int.add_mul]
              omega
          · obtain ⟨r, hr, hp⟩ := hai
            refine ⟨r, ?_, hp⟩
            refine Ev.step (fun _ => by rw [contangotop_bothB.l1]) ?_
            exact (ev_pos (by omega) (ev_pos (by omega) (ev_pos (by omega) (ev_pos (by omega) (ev_val hn (ev_neg hneg (ev_neg hs (ev_pos (by omega) hr))))))))
      · obtain ⟨r, hr, hp⟩ := hai
        refine ⟨r, ?_, hp⟩
        refine Ev.step (fun _ => by rw [contangotop_bothB.l1]) ?_
        exact (ev_neg (by omega) (ev_pos (by omega) (ev_pos (by omega) (ev_pos (by omega) hr))))
    refine ⟨?_, h1⟩
    by_cases hia : i < a.length
    · obtain ⟨r, hr, hp⟩ := h1 hia
      refine ⟨r, ?_, hp⟩
      refine Ev.step (fun _ => by rw [contangotop_bothB.l0]) ?_
      exact (ev_pos (by omega) hr)
    · obtain ⟨r, hr, hp⟩ := both_l2 a b hlb i (by omega) (b.length - k) k acc (by omega) (by omega)
      refine ⟨r, ?_, hp⟩
      refine Ev.step (fun _ => by rw [contangotop_bothB.l0]) ?_
      exact (ev_neg (by omega) hr)
theorem both_b (a b : List S37) (ha : PosOk a) (hb : PosOk b) : ∃ r, Ev (fun n => contangotop_bothB.f n a b) r ∧ (r.2 = true → PosOk r.1) ∧ ∀ g : S35 → Int, (∀ x y, sEq x y = true → g x = g y) → wsum g r.1 = wsum g a + wsum g b := by
  have hla := ha.len
  have hlb := hb.len
  obtain ⟨⟨r, hr, hp⟩, _⟩ := both_go a b ha hb (a.length + b.length) 0 0 [] (by omega) (by omega) (by omega) (by simp only [List.length_nil]; omega)
  refine ⟨r, hr, hp.1, fun g hg => ?_⟩
  have := hp.2 g hg
  rw [List.drop_zero, List.drop_zero, wsum_nil] at this
  omega
theorem TopTogether : ∀ (l0 : List (S37)) (l1 : List (S37)) (l2 : List (S42)), l0.length ≤ maxLen → (∀ x0 ∈ l0, x0.f0.f0.size ≤ maxLen ∧ (Lit.int .i64 x0.f0.f1).wf = true ∧ (Lit.int .i64 x0.f0.f2).wf = true ∧ (Lit.int .i64 x0.f0.f3).wf = true ∧ (Lit.int .i64 x0.f1).wf = true ∧ (Lit.int .i64 x0.f2).wf = true) → l1.length ≤ maxLen → (∀ x0 ∈ l1, x0.f0.f0.size ≤ maxLen ∧ (Lit.int .i64 x0.f0.f1).wf = true ∧ (Lit.int .i64 x0.f0.f2).wf = true ∧ (Lit.int .i64 x0.f0.f3).wf = true ∧ (Lit.int .i64 x0.f1).wf = true ∧ (Lit.int .i64 x0.f2).wf = true) → l2.length ≤ maxLen → (∀ x0 ∈ l2, x0.f0.f0.size ≤ maxLen ∧ (Lit.int .i64 x0.f0.f1).wf = true ∧ (Lit.int .i64 x0.f0.f2).wf = true ∧ (Lit.int .i64 x0.f0.f3).wf = true ∧ x0.f1.length ≤ maxLen ∧ (∀ x1 ∈ x0.f1, (Lit.int .i64 x1).wf = true) ∧ (Lit.int .i64 x0.f2).wf = true) → ∃ k, contangotop_TopTogether.f k l0 l1 l2 = some true := by
  intro a b A _ _ _ _ _ _
  refine Ev.rounds ?_
  have hend : Ev (fun k => contangotop_TopTogether.j0 k a b A true) true := (by refine Ev.step (fun _ => by rw [contangotop_TopTogether.j0]) ?_; exact (ev_pos rfl goes14t))
  unfold contangotop_TopTogether.f
  obtain ⟨ea, ha, pa⟩ := pchk_ev a
  obtain ⟨eb, hb, pb⟩ := pchk_ev b
  refine ev_bnd ha ?_
  by_cases h1 : ea = 0
  case neg => exact ev_neg h1 hend
  refine ev_pos h1 (ev_bnd hb ?_)
  by_cases h2 : eb = 0
  case neg => exact ev_neg h2 hend
  refine ev_pos h2 ?_
  by_cases h3 : (A.length : Int) > 130
  · rw [decide_eq_true h3]; exact hend
  rw [decide_eq_false h3]
  clear hend
  obtain ⟨all, hall, pall, hsum⟩ := both_b a b (pa h1) (pb h2)
  refine Ev.step (fun _ => by rw [contangotop_TopTogether.j0]) ?_
  refine (ev_neg (by decide) (ev_bnd hall ?_))
  by_cases h4 : all.2 = true
  case neg => exact ev_neg h4 goes14t
  obtain ⟨qa, fa, Fa, Na⟩ := found_ev a A
  obtain ⟨qb, fb, Fb, Nb⟩ := found_ev b A
  obtain ⟨qo, fo, Fo, No⟩ := found_ev all.1 A
  obtain ⟨La, ra, sa, era, ia, za, ra0, rab, rae⟩ := risk_ev fa Fa
  obtain ⟨Lb, rb, sb, erb, ib, zb, rb0, rbb, rbe⟩ := risk_ev fb Fb
  obtain ⟨Lo, ro, so, ero, io, zo, ro0, rob, roe⟩ := risk_ev fo Fo
  obtain ⟨na, da, dpa⟩ := delta_ev fa Fa Na
  obtain ⟨nb, db, dpb⟩ := delta_ev fb Fb Nb
  obtain ⟨no, dO, dpo⟩ := delta_ev fo Fo No
  refine ev_pos h4 (ev_bnd era (ev_bnd erb (ev_bnd ero (ev_bnd da (ev_bnd db (ev_bnd dO ?_))))))
  have hj : ∀ x9 x12 x15 x18 x19 x20 x21 x22 x23, Ev (fun k => contangotop_TopTogether.j1 k x9 x12 x15 x18 x19 x20 x21 x22 x23 true) true := fun x9 x12 x15 x18 x19 x20 x21 x22 x23 => (by refine Ev.step (fun _ => by rw [contangotop_TopTogether.j1]) ?_; exact (ev_pos rfl goes14t))
  by_cases e1 : La.2 = 0
  case neg => exact ev_neg e1 (hj _ _ _ _ _ _ _ _ _)
  refine ev_pos e1 ?_
  by_cases e2 : Lb.2 = 0
  case neg => exact ev_neg e2 (hj _ _ _ _ _ _ _ _ _)
  refine ev_pos e2 ?_
  by_cases e3 : Lo.2 = 0
  case neg =>
    rw [show (Lo.2 != 0) = true from bne_iff_ne.2 e3]
    exact hj _ _ _ _ _ _ _ _ _
  rw [show (Lo.2 != 0) = false by rw [e3]; rfl]
  obtain ⟨xa, ya, va⟩ := ia.2 e1
  obtain ⟨xb, yb, vb⟩ := ib.2 e2
  obtain ⟨xo, yo, vo⟩ := io.2 e3
  obtain ⟨dna, dna1, dna2⟩ := dpa (za e1)
  obtain ⟨dnb, dnb1, dnb2⟩ := dpb (zb e2)
  obtain ⟨dno, dno1, dno2⟩ := dpo (zo e3)
  have hfit : ∀ (L : List Int × Int) (r : Int) (l : List S37), (∀ t, t < L.1.length → L.1.getD t 0 = wsum (gl A t) l ∧ fitsP (wsum (gl A t) l)) → 0 ≤ r → (r = 0 ∨ ∃ t, t < L.1.length ∧ r = L.1.getD t 0) → r ≤ 1152921504606846976 := fun L r l hv h0 he => by
    rcases he with he | ⟨t, ht, he⟩
    · omega
    · obtain ⟨w1, w2⟩ := hv t ht
      unfold fitsP at w2
      omega
  have fra := hfit La ra a va ra0 rae
  have frb := hfit Lb rb b vb rb0 rbe
  have hle : ro ≤ ra + rb := by
    rcases roe with he | ⟨t, ht, he⟩
    · omega
    · obtain ⟨w1, _⟩ := vo t ht
      have hne : A ≠ [] := fun hA => by rw [xo hA] at ht; simp at ht
      have lo := yo hne
      have la := ya hne
      have lb := yb hne
      obtain ⟨u1, _⟩ := va t (by omega)
      obtain ⟨u2, _⟩ := vb t (by omega)
      have m1 := rab t (by omega)
      have m2 := rbb t (by omega)
      have hs := hsum (gl A t) (fun x y h => gl_congr A t h)
      omega
  have hdl := hsum (gd A) (fun x y h => gd_congr A h)
  refine Ev.step (fun _ => by rw [contangotop_TopTogether.j1]) ?_
  refine (ev_neg (by decide) ?_)
  rw [w64id (ra + rb) (by omega) (by omega), w64id (na + nb) (by omega) (by omega)]
  exact ev_pos (za e1) (ev_pos (zb e2) (ev_pos (zo e3) (ev_pos hle (ev_pos (by omega) goes14t))))
end Go.Proofs.Ythlnecmpakfdmaa.Pure
