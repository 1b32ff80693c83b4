/- The pure statement of the law TopExpiry, proved: plain Lean over numbers and lists, no program in sight. -/
import Derived.Test.YtgcefakbbmgbbaaDoorPTopExpiryx3
namespace Go.Proofs.YtgcefakbbmgbbaaDoor.Pure
open Go.RowKit Go.Proofs.YtgcefakbbmgbbaaDoor.PTopExpiry Go.Proofs.YtgcefakbbmgbbaaDoorW.PrintWords Go.Proofs.YtgcefakbbmgbbaaDoorW.PrintLast Go.Proofs.YtgcefakbbmgbbaaDoorW.PrintMore
set_option linter.unusedVariables false
set_option linter.unusedSimpArgs false
/-! ### from some number of rounds on: steps -/
theorem ev_pos {α : Type} {c : Prop} [Decidable c] {a b : Nat → Option α} {r : α} (h : c) (k : Ev a r) : Ev (fun n => if c then a n else b n) r := Ev.congr (fun _ => if_pos h) k
theorem ev_neg {α : Type} {c : Prop} [Decidable c] {a b : Nat → Option α} {r : α} (h : ¬ c) (k : Ev b r) : Ev (fun n => if c then a n else b n) r := Ev.congr (fun _ => if_neg h) k
theorem ev_val {α β : Type} {g : Option α} {f : Nat → α → Option β} {a : α} {r : β} (h : g = some a) (k : Ev (fun n => f n a) r) : Ev (fun n => g.bind (f n)) r := by
  subst h; exact k
theorem ev_some {α : Type} {x r : α} (h : x = r) : Ev (fun _ => some x) r := h ▸ Ev.now x
theorem ev_rw {α : Type} {g : Nat → Option α} {r s : α} (h : r = s) (k : Ev g r) : Ev g s := h ▸ k
theorem wsucc (i : Nat) (h : i ≤ 4611686018427387904) : wrap64 ((i : Int) + 1) = ((i + 1 : Nat) : Int) := by
  unfold wrap64; omega
theorem rd_nat (l : List Int) (i : Nat) : rd l (i : Int) = l.getD i 0 := rfl
/-! ### dates: what the functions tell -/
theorem w64id' (x : Int) (h0 : -9223372036854775808 ≤ x) (h1 : x ≤ 9223372036854775807) : wrap64 x = x := by unfold wrap64; omega
theorem ev_bnd' {α β : Type} {g : Nat → Option α} {f : Nat → α → Option β} {a : α} {r : β} (h : Ev g a) (k : Ev (fun n => f n a) r) : Ev (fun n => (g n).bind (f n)) r := h.bind k
def ofV (y m d : Int) : Int × Int := if y < 2000 ∨ y > 2199 ∨ d < 1 ∨ d > dlen y m then (0, 15) else (startD y + d - 1 + msum (leapV y) (m.toNat - 1), 0)
theorem of_val (y m d : Int) : date_Of.f y m d = some (ofV y m d) := rfl
def wdV (day : Int) : Int := if 0 ≤ day ∧ day ≤ 73048 then (day + 5) % 7 + 1 else 0
theorem here_val (day : Int) : date_here.f day = some (decide (0 ≤ day ∧ day ≤ 73048)) := by
  unfold date_here.f
  by_cases h : day ≥ 0
  · rw [if_pos h]
    by_cases h2 : day ≤ 73048
    · rw [decide_eq_true h2, decide_eq_true (show 0 ≤ day ∧ day ≤ 73048 from ⟨h, h2⟩)]
    · rw [decide_eq_false h2, decide_eq_false (show ¬ (0 ≤ day ∧ day ≤ 73048) from fun x => h2 x.2)]
  · rw [if_neg h, decide_eq_false (show ¬ (0 ≤ day ∧ day ≤ 73048) from fun x => h x.1)]
theorem wd_val (day : Int) : date_Weekday.f day = some (wdV day) := by
  unfold date_Weekday.f wdV
  rw [here_val, Option.bind_some]
  by_cases h : 0 ≤ day ∧ day ≤ 73048
  · rw [decide_eq_true h, if_pos rfl, if_pos h, w64id' (day + 5) (by omega) (by omega), Int.tmod_eq_emod_of_nonneg (by omega), w64id' _ (by omega) (by omega)]
  · rw [decide_eq_false h, if_neg (by decide), if_neg h]
def nthD (y m wd n : Int) : Int := 1 + (wd - wdV (ofV y m 1).1 + 7) % 7 + 7 * (n - 1)
def nthV (y m wd n : Int) : Int × Int := if wd < 1 ∨ wd > 7 ∨ n < 1 ∨ n > 5 then (0, 2) else if (ofV y m 1).2 = 0 then ofV y m (nthD y m wd n) else (0, (ofV y m 1).2)
theorem wdV_range (day : Int) : 0 ≤ wdV day ∧ wdV day ≤ 7 := by
  unfold wdV; split <;> omega
theorem nth_bad (y m wd n : Int) : Ev (fun k => date_Nth.j0 k y m wd n true) (0, 2) := by
  refine Ev.step (fun _ => by rw [date_Nth.j0]) ?_
  exact ev_pos rfl (ev_some rfl)
theorem nth_ev (y m wd n : Int) : Ev (fun k => date_Nth.f k y m wd n) (nthV y m wd n) := by
  unfold date_Nth.f nthV
  by_cases c1 : wd < 1
  · rw [if_pos (show wd < 1 ∨ wd > 7 ∨ n < 1 ∨ n > 5 from .inl c1)]; exact ev_pos c1 (nth_bad _ _ _ _)
  refine ev_neg c1 ?_
  by_cases c2 : wd > 7
  · rw [if_pos (show wd < 1 ∨ wd > 7 ∨ n < 1 ∨ n > 5 from .inr (.inl c2))]; exact ev_pos c2 (nth_bad _ _ _ _)
  refine ev_neg c2 ?_
  by_cases c3 : n < 1
  · rw [if_pos (show wd < 1 ∨ wd > 7 ∨ n < 1 ∨ n > 5 from .inr (.inr (.inl c3)))]; exact ev_pos c3 (nth_bad _ _ _ _)
  refine ev_neg c3 ?_
  by_cases c4 : n > 5
  · rw [if_pos (show wd < 1 ∨ wd > 7 ∨ n < 1 ∨ n > 5 from .inr (.inr (.inr c4))), decide_eq_true c4]; exact nth_bad _ _ _ _
  rw [if_neg (by omega), decide_eq_false c4]
  refine Ev.step (fun _ => by rw [date_Nth.j0]) ?_
  refine ev_neg (by decide) (ev_val (of_val _ _ _) ?_)
  by_cases h0 : (ofV y m 1).2 = 0
  · refine ev_rw (if_pos h0).symm ?_
    refine ev_pos h0 (ev_val (wd_val _) (ev_val (of_val _ _ _) (ev_some ?_)))
    have hr := wdV_range (ofV y m 1).1
    unfold nthD
    generalize wdV (ofV y m 1).1 = q at *
    rw [w64id' (wd - q) (by omega) (by omega), w64id' (wd - q + 7) (by omega) (by omega), Int.tmod_eq_emod_of_nonneg (by omega), w64id' (n - 1) (by omega) (by omega), w64id' (7 * (n - 1)) (by omega) (by omega), w64id' (1 + _) (by omega) (by omega), w64id' (1 + _ + _) (by omega) (by omega)]
  · refine ev_rw (if_neg h0).symm ?_
    exact ev_neg h0 (ev_some rfl)
/-! ### years' lengths -/
theorem leap_emod (y : Int) (h : 0 ≤ y) : leapV y = (((y % 4 == 0) && (y % 100 != 0)) || (y % 400 == 0)) := by
  unfold leapV date_Leap.f
  rw [Int.tmod_eq_emod_of_nonneg h, Int.tmod_eq_emod_of_nonneg h, Int.tmod_eq_emod_of_nonneg h]
  by_cases h4 : y % 4 = 0
  · rw [if_pos h4]
    by_cases h1 : y % 100 = 0
    · rw [if_pos h1]; simp [h4, h1]
    · rw [if_neg h1]; simp [h4, h1]
  · rw [if_neg h4]
    have : y % 400 ≠ 0 := by omega
    simp [h4, this]
theorem msum12 (b : Bool) : msum b 12 = 365 + (if b = true then 1 else 0) := by cases b <;> rfl
theorem start_step (y : Int) (h : 2000 ≤ y) (h2 : y ≤ 2199) : startD (y + 1) = startD y + msum (leapV y) 12 := by
  rw [leap_emod y (by omega), msum12]
  unfold startD
  by_cases h4 : y % 4 = 0
  · by_cases h1 : y % 100 = 0
    · by_cases h5 : y % 400 = 0
      · have e : (((y % 4 == 0) && (y % 100 != 0)) || (y % 400 == 0)) = true := by simp [h4, h1, h5]
        rw [e, if_pos rfl]; omega
      · have e : (((y % 4 == 0) && (y % 100 != 0)) || (y % 400 == 0)) = false := by simp [h4, h1, h5]
        rw [e, if_neg (by decide)]; omega
    · have e : (((y % 4 == 0) && (y % 100 != 0)) || (y % 400 == 0)) = true := by simp [h4, h1]
      rw [e, if_pos rfl]; omega
  · have h5 : y % 400 ≠ 0 := by omega
    have e : (((y % 4 == 0) && (y % 100 != 0)) || (y % 400 == 0)) = false := by simp [h4, h5]
    rw [e, if_neg (by decide)]; omega
theorem msum12_pos (b : Bool) : 365 ≤ msum b 12 ∧ msum b 12 ≤ 366 := by rw [msum12]; split <;> omega
theorem start_mono (y z : Int) (h : 2000 ≤ y) (h2 : y ≤ z) (h3 : z ≤ 2200) : startD y ≤ startD z := by unfold startD; omega
/-! ### dates: every valid date has its own day -/
def okD (y m d : Int) : Prop := 2000 ≤ y ∧ y ≤ 2199 ∧ 1 ≤ m ∧ m ≤ 12 ∧ 1 ≤ d ∧ d ≤ dl (leapV y) m
def valD (y m d : Int) : Int := startD y + d - 1 + msum (leapV y) (m.toNat - 1)
theorem dlen_in (y m : Int) (h : 1 ≤ m) (h2 : m ≤ 12) : dlen y m = dl (leapV y) m := by unfold dlen; rw [if_neg (by omega)]
theorem dlen_out (y m : Int) (h : m < 1 ∨ m > 12) : dlen y m = 0 := by unfold dlen; rw [if_pos h]
theorem of_ok (y m d : Int) (h : okD y m d) : ofV y m d = (valD y m d, 0) := by
  obtain ⟨h1, h2, h3, h4, h5, h6⟩ := h
  unfold ofV valD
  rw [dlen_in y m h3 h4, if_neg (by omega)]
theorem ok_iff (y m d : Int) : okD y m d ↔ ¬ (y < 2000 ∨ y > 2199 ∨ d < 1 ∨ d > dlen y m) := by
  unfold okD
  by_cases hm : m < 1 ∨ m > 12
  · rw [dlen_out y m hm]; omega
  · rw [dlen_in y m (by omega) (by omega)]; omega
theorem of_not (y m d : Int) (h : ¬ okD y m d) : ofV y m d = (0, 15) := by
  rw [ok_iff, Classical.not_not] at h
  unfold ofV
  rw [if_pos h]
theorem msum_mono (b : Bool) (i n : Nat) (h : i + n ≤ 12) : msum b i ≤ msum b (i + n) := by
  induction n with
  | zero => exact Int.le_refl _
  | succ n ih =>
    have h1 := ih (by omega)
    have h2 := dl_range b (((i + n : Nat) : Int) + 1) (by omega) (by omega)
    rw [show i + (n + 1) = (i + n) + 1 by omega]
    simp only [msum]
    omega
theorem msum_at (b : Bool) (m : Int) (h : 1 ≤ m) : msum b m.toNat = msum b (m.toNat - 1) + dl b m := by
  obtain ⟨j, rfl⟩ : ∃ j : Nat, m = (j : Int) + 1 := ⟨m.toNat - 1, by omega⟩
  rw [show ((j : Int) + 1).toNat = j + 1 by omega]
  rfl
theorem val_year (y m d : Int) (h : okD y m d) : startD y ≤ valD y m d ∧ valD y m d < startD (y + 1) := by
  obtain ⟨h1, h2, h3, h4, h5, h6⟩ := h
  rw [start_step y h1 h2]
  unfold valD
  have e1 := msum_at (leapV y) m h3
  have e2 := msum_mono (leapV y) m.toNat (12 - m.toNat) (by omega)
  rw [show m.toNat + (12 - m.toNat) = 12 by omega] at e2
  have e3 := (msum_range (leapV y) (m.toNat - 1) (by omega)).1
  omega
theorem val_range (y m d : Int) (h : okD y m d) : 0 ≤ valD y m d ∧ valD y m d ≤ 73048 := by
  obtain ⟨h1, h2⟩ := val_year y m d h
  have h3 := start_mono 2000 y (by omega) h.1 (by have := h.2.1; omega)
  have h4 := start_mono (y + 1) 2200 (by have := h.1; omega) (by have := h.2.1; omega) (by omega)
  rw [show startD 2000 = 0 from rfl] at h3
  rw [show startD 2200 = 73049 from rfl] at h4
  omega
theorem year_one (y z v : Int) (hy : 2000 ≤ y) (hy2 : y ≤ 2199) (hz : 2000 ≤ z) (hz2 : z ≤ 2199) (h1 : startD y ≤ v) (h2 : v < startD (y + 1)) (h3 : startD z ≤ v) (h4 : v < startD (z + 1)) : y = z := by
  apply Classical.byContradiction
  intro hne
  rcases Int.lt_or_lt_of_ne hne with h | h
  · have := start_mono (y + 1) z (by omega) (by omega) (by omega); omega
  · have := start_mono (z + 1) y (by omega) (by omega) (by omega); omega
theorem month_one (b : Bool) (m d n e : Int) (hm : 1 ≤ m) (hm2 : m ≤ 12) (hd : 1 ≤ d) (hd2 : d ≤ dl b m) (hn : 1 ≤ n) (hn2 : n ≤ 12) (he : 1 ≤ e) (he2 : e ≤ dl b n) (h : d + msum b (m.toNat - 1) = e + msum b (n.toNat - 1)) : m = n ∧ d = e := by
  have e1 := msum_at b m hm
  have e2 := msum_at b n hn
  have hmn : m = n := by
    apply Classical.byContradiction
    intro hne
    rcases Int.lt_or_lt_of_ne hne with hl | hl
    · have := msum_mono b m.toNat (n.toNat - 1 - m.toNat) (by omega)
      rw [show m.toNat + (n.toNat - 1 - m.toNat) = n.toNat - 1 by omega] at this
      omega
    · have := msum_mono b n.toNat (m.toNat - 1 - n.toNat) (by omega)
      rw [show n.toNat + (m.toNat - 1 - n.toNat) = m.toNat - 1 by omega] at this
      omega
  subst hmn
  exact ⟨rfl, by omega⟩
theorem val_inj (y m d z n e : Int) (h : okD y m d) (k : okD z n e) (hv : valD y m d = valD z n e) : y = z ∧ m = n ∧ d = e := by
  have h1 := val_year y m d h
  have h2 := val_year z n e k
  obtain rfl := year_one y z (valD y m d) h.1 h.2.1 k.1 k.2.1 h1.1 h1.2 (by omega) (by omega)
  obtain ⟨_, _, h3, h4, h5, h6⟩ := h
  obtain ⟨_, _, k3, k4, k5, k6⟩ := k
  unfold valD at hv
  obtain ⟨rfl, rfl⟩ := month_one (leapV y) m d n e h3 h4 h5 h6 k3 k4 k5 k6 (by omega)
  exact ⟨rfl, rfl, rfl⟩
/-! ### working days: what the program's functions tell -/
def stepV (l : List Int) (d by_ : Int) : Int × Int := if chk2 l [d] = 0 then scanV 73050 l (d + by_) by_ else (0, chk2 l [d])
def worksV (l : List Int) (d : Int) : Bool × Int := if chk2 l [d] = 0 then (workV l d, 0) else (false, chk2 l [d])
theorem works_val (l : List Int) (d : Int) : workday_Works.f l d = some (worksV l d) := rfl
theorem step_val (l : List Int) (d : Int) : workday_step.f l d 1 = some (stepV l d 1) ∧ workday_step.f l d (-1) = some (stepV l d (-1)) := by
  unfold workday_step.f stepV
  exact ⟨by rw [if_pos (Or.inl rfl)], by rw [if_pos (Or.inr rfl)]⟩
theorem before_val (l : List Int) (d : Int) : workday_Before.f l d = some (stepV l d (-1)) := by
  unfold workday_Before.f
  rw [(step_val l d).2]; rfl
def countV (l : List Int) (a b : Int) : Int × Int := if chk2 l [a, b] = 0 then (cntGo (b - a + 1).toNat l a 0, 0) else (0, chk2 l [a, b])
theorem count_val (l : List Int) (a b : Int) : workday_Count.f l a b = some (countV l a b) := rfl
def expV (l : List Int) (y m : Int) : Int × Int := if chkV l = 0 then (if (nthV y m 5 3).2 = 0 then (if workV l (nthV y m 5 3).1 = true then ((nthV y m 5 3).1, 0) else stepV l (nthV y m 5 3).1 (-1)) else (0, (nthV y m 5 3).2)) else (0, chkV l)
theorem exp_ev (l : List Int) (y m : Int) : Ev (fun k => workday_Expiry.f k l y m) (expV l y m) := by
  unfold workday_Expiry.f expV
  by_cases h : chkV l = 0
  · rw [if_pos h]
    refine ev_pos h (ev_bnd' (nth_ev y m 5 3) ?_)
    by_cases h1 : (nthV y m 5 3).2 = 0
    · refine ev_rw (if_pos h1).symm (ev_pos h1 ?_)
      by_cases h2 : workV l (nthV y m 5 3).1 = true
      · exact ev_rw (if_pos h2).symm (ev_pos h2 (ev_some rfl))
      · refine ev_rw (if_neg h2).symm (ev_neg h2 ?_)
        exact ⟨0, fun _ _ => before_val l _⟩
    · exact ev_rw (if_neg h1).symm (ev_neg h1 (ev_some rfl))
  · rw [if_neg h]
    exact ev_neg h (ev_some rfl)
theorem chk2_one (l : List Int) (d : Int) : chk2 l [d] = if chkV l = 0 then (if isV d = true then 0 else 15) else chkV l := by
  unfold chk2; simp only [List.all_cons, List.all_nil, Bool.and_true]
theorem chk2_two (l : List Int) (a b : Int) : chk2 l [a, b] = if chkV l = 0 then (if (isV a && isV b) = true then 0 else 15) else chkV l := by
  unfold chk2; simp only [List.all_cons, List.all_nil, Bool.and_true]
theorem isV_iff (d : Int) : isV d = true ↔ 0 ≤ d ∧ d ≤ 73048 := by unfold isV; simp
theorem workV_in (l : List Int) (d : Int) (h : workV l d = true) : 0 ≤ d ∧ d ≤ 73048 := by
  unfold workV at h
  simp only [Bool.and_eq_true] at h
  exact (isV_iff d).1 h.1.1
theorem third_ok (y m : Int) (h : (nthV y m 5 3).2 = 0) : ∃ D, okD y m D ∧ nthV y m 5 3 = (valD y m D, 0) := by
  have hv : nthV y m 5 3 = if (ofV y m 1).2 = 0 then ofV y m (nthD y m 5 3) else (0, (ofV y m 1).2) := by unfold nthV; rw [if_neg (by decide)]
  rw [hv] at h ⊢
  by_cases h1 : (ofV y m 1).2 = 0
  · rw [if_pos h1] at h ⊢
    by_cases hok : okD y m (nthD y m 5 3)
    · exact ⟨_, hok, of_ok _ _ _ hok⟩
    · rw [of_not _ _ _ hok] at h; exact absurd h (by decide)
  · rw [if_neg h1] at h; exact absurd h h1
theorem third_no (y m : Int) (h : (nthV y m 5 3).2 ≠ 0) : (nthV y m 5 3).1 = 0 := by
  have hv : nthV y m 5 3 = if (ofV y m 1).2 = 0 then ofV y m (nthD y m 5 3) else (0, (ofV y m 1).2) := by unfold nthV; rw [if_neg (by decide)]
  rw [hv] at h ⊢
  by_cases h1 : (ofV y m 1).2 = 0
  · rw [if_pos h1] at h ⊢
    by_cases hok : okD y m (nthD y m 5 3)
    · rw [of_ok _ _ _ hok] at h; exact absurd rfl h
    · rw [of_not _ _ _ hok]
  · rw [if_neg h1]
theorem goes03 : Ev (fun k => contangotop_goes03.f k) true := by
  unfold contangotop_goes03.f
  refine ev_bnd' (ev_rw (show expV ([] : List Int) 2000 1 = (20, 0) by decide +kernel) (exp_ev [] 2000 1)) (ev_val (show workday_Works.f ([] : List Int) 20 = some (true, 0) by decide +kernel) ?_)
  refine ev_pos rfl (ev_pos rfl (ev_pos rfl (ev_pos rfl (ev_val (show date_Weekday.f 20 = some 5 by decide +kernel) (ev_some rfl)))))
/-- going down from a day: the last working day not behind it -/
theorem scan_down (l : List Int) (f : Nat) : ∀ d : Int, d + 1 < f → (∃ e, scanV f l d (-1) = (e, 0) ∧ workV l e = true ∧ e ≤ d ∧ ∀ t, e < t → t ≤ d → workV l t = false) ∨ scanV f l d (-1) = (0, 15) := by
  induction f with
  | zero => intro d _; right; rfl
  | succ f ih =>
    intro d hf
    rw [scanV]
    by_cases hv : isV d = true
    · rw [if_pos hv]
      by_cases hw : workV l d = true
      · rw [if_pos hw]
        exact .inl ⟨d, rfl, hw, Int.le_refl _, fun t h1 h2 => by omega⟩
      · rw [if_neg hw]
        rcases ih (d + -1) (by omega) with ⟨e, h1, h2, h3, h4⟩ | h
        · refine .inl ⟨e, h1, h2, by omega, fun t h5 h6 => ?_⟩
          by_cases ht : t = d
          · subst ht; exact Bool.eq_false_iff.2 hw
          · exact h4 t h5 (by omega)
        · exact .inr h
    · rw [if_neg hv]; right; rfl
/-- a month's expiry, told: the last working day not behind the third Friday -/
theorem exp_char (l : List Int) (y m : Int) : ((expV l y m).2 ≠ 0 ∧ (expV l y m).1 = 0) ∨ (chkV l = 0 ∧ ∃ D e, okD y m D ∧ nthV y m 5 3 = (valD y m D, 0) ∧ expV l y m = (e, 0) ∧ workV l e = true ∧ e ≤ valD y m D ∧ ∀ t, e < t → t ≤ valD y m D → workV l t = false) := by
  by_cases hc : chkV l = 0
  · have hx : expV l y m = (if (nthV y m 5 3).2 = 0 then (if workV l (nthV y m 5 3).1 = true then ((nthV y m 5 3).1, 0) else stepV l (nthV y m 5 3).1 (-1)) else (0, (nthV y m 5 3).2)) := by unfold expV; rw [if_pos hc]
    by_cases h1 : (nthV y m 5 3).2 = 0
    · obtain ⟨D, hD, hv⟩ := third_ok y m h1
      obtain ⟨r1, r2⟩ := val_range y m D hD
      rw [if_pos h1] at hx
      rw [hv] at hx
      dsimp only at hx
      by_cases hw : workV l (valD y m D) = true
      · rw [if_pos hw] at hx
        exact .inr ⟨hc, D, _, hD, hv, hx, hw, Int.le_refl _, fun t h1 h2 => by omega⟩
      · rw [if_neg hw] at hx
        have hs : stepV l (valD y m D) (-1) = scanV 73050 l (valD y m D + -1) (-1) := by
          unfold stepV
          rw [if_pos (show chk2 l [valD y m D] = 0 by rw [chk2_one, if_pos hc, if_pos ((isV_iff _).2 ⟨r1, r2⟩)])]
        rw [hs] at hx
        rcases scan_down l 73050 (valD y m D + -1) (by omega) with ⟨e, k1, k2, k3, k4⟩ | h
        · refine .inr ⟨hc, D, e, hD, hv, hx.trans k1, k2, by omega, fun t h5 h6 => ?_⟩
          by_cases ht : t = valD y m D
          · subst ht; exact Bool.eq_false_iff.2 hw
          · exact k4 t h5 (by omega)
        · rw [hx, h]; exact .inl ⟨by decide, rfl⟩
    · rw [if_neg h1] at hx
      rw [hx]; exact .inl ⟨h1, rfl⟩
  · have hx : expV l y m = (0, chkV l) := by unfold expV; rw [if_neg hc]
    rw [hx]; exact .inl ⟨hc, rfl⟩
theorem third_later (y m D D' : Int) (h : okD y m D) (h' : okD (y + m / 12) (m % 12 + 1) D') : valD y m D ≤ valD (y + m / 12) (m % 12 + 1) D' := by
  have hy := val_year y m D h
  by_cases hm : m = 12
  · subst hm
    have h2 := val_year _ _ _ h'
    rw [show y + 12 / 12 = y + 1 by omega] at h2 ⊢
    omega
  · obtain ⟨k1, k2, k3, k4, k5, k6⟩ := h
    have e1 : y + m / 12 = y := by omega
    have e2 : m % 12 + 1 = m + 1 := by omega
    rw [e1, e2] at h' ⊢
    obtain ⟨_, _, _, _, j5, j6⟩ := h'
    unfold valD
    have := msum_at (leapV y) m k3
    rw [show (m + 1).toNat - 1 = m.toNat by omega]
    omega
theorem cnt_none (l : List Int) (f : Nat) : ∀ d : Int, (∀ t, d ≤ t → t < d + f → workV l t = false) → cntGo f l d 0 = 0 := by
  induction f with
  | zero => intro d _; rfl
  | succ f ih =>
    intro d h
    rw [cntGo, h d (Int.le_refl _) (by omega), if_neg (by decide)]
    exact ih (d + 1) (fun t h1 h2 => h t (by omega) (by omega))
theorem cnt_add' (l : List Int) (f : Nat) : ∀ d n : Int, cntGo f l d n = n + cntGo f l d 0 := by
  induction f with
  | zero => intro d n; simp [cntGo]
  | succ f ih =>
    intro d n
    rw [cntGo, cntGo]
    by_cases h : workV l d = true
    · rw [if_pos h, if_pos h, ih _ (n + 1), ih _ (0 + 1)]; omega
    · rw [if_neg h, if_neg h, ih _ n]
theorem TopExpiry : contangotop_TopExpiry.Pure := by
  intro l y m _ _ _ hy hm
  refine Ev.rounds ?_
  unfold contangotop_TopExpiry.f
  by_cases h60 : (l.length : Int) > 60
  · exact ev_pos h60 (ev_bnd' goes03 (ev_some rfl))
  refine ev_neg h60 (ev_bnd' (exp_ev l y m) ?_)
  rcases exp_char l y m with ⟨e1, e2⟩ | ⟨hc, D, e, hD, hv, hx, hw, hle, hno⟩
  · exact ev_neg e1 (ev_pos e2 (ev_bnd' goes03 (ev_some rfl)))
  · obtain ⟨r1, r2⟩ := val_range y m D hD
    have he := workV_in l e hw
    rw [hx]
    refine ev_pos rfl (ev_bnd' (nth_ev y m 5 3) ?_)
    rw [hv]
    dsimp only
    refine ev_val (works_val l e) (ev_val (count_val l e (valD y m D)) ?_)
    have hk1 : chk2 l [e] = 0 := by rw [chk2_one, if_pos hc, if_pos ((isV_iff _).2 he)]
    have hk2 : chk2 l [e, valD y m D] = 0 := by rw [chk2_two, if_pos hc, (isV_iff e).2 he, (isV_iff _).2 ⟨r1, r2⟩]; rfl
    have hW : worksV l e = (true, 0) := by unfold worksV; rw [if_pos hk1, hw]
    have hC : countV l e (valD y m D) = (1, 0) := by
      unfold countV
      rw [if_pos hk2, show (valD y m D - e + 1).toNat = (valD y m D - e).toNat + 1 by omega, cntGo, if_pos hw, cnt_add', cnt_none l _ (e + 1) (fun t h1 h2 => hno t (by omega) (by omega))]
      rfl
    rw [hW, hC]
    refine ev_pos rfl (ev_pos rfl (ev_pos rfl (ev_pos rfl (ev_pos rfl ?_))))
    rw [decide_eq_false (show ¬ e > valD y m D by omega)]
    refine Ev.step (fun _ => by rw [contangotop_TopExpiry.j0]) ?_
    refine ev_neg (by decide) ?_
    have hb := hD
    obtain ⟨b1, b2, b3, b4, _, _⟩ := hb
    rw [Int.tdiv_eq_ediv_of_nonneg (by omega), Int.tmod_eq_emod_of_nonneg (by omega), w64id' (m / 12) (by omega) (by omega), w64id' (y + m / 12) (by omega) (by omega), w64id' (m % 12 + 1) (by omega) (by omega)]
    refine ev_bnd' (exp_ev l _ _) ?_
    rcases exp_char l (y + m / 12) (m % 12 + 1) with ⟨e1, e2⟩ | ⟨_, D', e', hD', _, hx', hw', _, hno'⟩
    · exact ev_neg e1 (ev_bnd' goes03 (ev_some rfl))
    · rw [hx']
      refine ev_pos rfl (ev_pos ?_ (ev_bnd' goes03 (ev_some rfl)))
      show e ≤ e'
      apply Classical.byContradiction
      intro hlt
      have hl := third_later y m D D' hD hD'
      have := hno' e (by omega) (by omega)
      rw [hw] at this; cases this
end Go.Proofs.YtgcefakbbmgbbaaDoor.Pure
