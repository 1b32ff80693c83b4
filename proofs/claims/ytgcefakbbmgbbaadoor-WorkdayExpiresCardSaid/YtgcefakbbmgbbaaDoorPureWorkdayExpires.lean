/- The pure statement of the law WorkdayExpires, proved: plain Lean over numbers and lists, no program in sight. -/
import Derived.Test.YtgcefakbbmgbbaaDoorPWorkdayExpiresx6
namespace Go.Proofs.YtgcefakbbmgbbaaDoor.Pure
open Go.RowKit Go.Proofs.YtgcefakbbmgbbaaDoor.PWorkdayExpires Go.Proofs.YtgcefakbbmgbbaaDoorW.PrintWords Go.Proofs.YtgcefakbbmgbbaaDoorW.PrintLast Go.Proofs.YtgcefakbbmgbbaaDoorW.PrintMore
set_option linter.unusedVariables false
set_option linter.unusedSimpArgs false
/-! ### from some number of rounds on: steps -/
theorem ev_pos {α : Type} {c : Prop} [Decidable c] {a b : Nat → Option α} {r : α} (h : c) (k : Ev a r) : Ev (fun n => if c then a n else b n) r := Ev.congr (fun _ => if_pos h) k
theorem ev_neg {α : Type} {c : Prop} [Decidable c] {a b : Nat → Option α} {r : α} (h : ¬ c) (k : Ev b r) : Ev (fun n => if c then a n else b n) r := Ev.congr (fun _ => if_neg h) k
theorem ev_val {α β : Type} {g : Option α} {f : Nat → α → Option β} {a : α} {r : β} (h : g = some a) (k : Ev (fun n => f n a) r) : Ev (fun n => g.bind (f n)) r := by
  subst h; exact k
theorem ev_some {α : Type} {x r : α} (h : x = r) : Ev (fun _ => some x) r := h ▸ Ev.now x
theorem ev_rw {α : Type} {g : Nat → Option α} {r s : α} (h : r = s) (k : Ev g r) : Ev g s := h ▸ k
theorem wsucc (i : Nat) (h : i ≤ 4611686018427387904) : wrap64 ((i : Int) + 1) = ((i + 1 : Nat) : Int) := by
  unfold wrap64; omega
theorem rd_nat (l : List Int) (i : Nat) : rd l (i : Int) = l.getD i 0 := rfl
/-! ### dates: what the functions tell -/
theorem w64id' (x : Int) (h0 : -9223372036854775808 ≤ x) (h1 : x ≤ 9223372036854775807) : wrap64 x = x := by unfold wrap64; omega
theorem ev_bnd' {α β : Type} {g : Nat → Option α} {f : Nat → α → Option β} {a : α} {r : β} (h : Ev g a) (k : Ev (fun n => f n a) r) : Ev (fun n => (g n).bind (f n)) r := h.bind k
def ofV (y m d : Int) : Int × Int := if y < 2000 ∨ y > 2199 ∨ d < 1 ∨ d > dlen y m then (0, 15) else (startD y + d - 1 + msum (leapV y) (m.toNat - 1), 0)
theorem of_val (y m d : Int) : date_Of.f y m d = some (ofV y m d) := rfl
def wdV (day : Int) : Int := if 0 ≤ day ∧ day ≤ 73048 then (day + 5) % 7 + 1 else 0
theorem here_val (day : Int) : date_here.f day = some (decide (0 ≤ day ∧ day ≤ 73048)) := by
  unfold date_here.f
  by_cases h : day ≥ 0
  · rw [if_pos h]
    by_cases h2 : day ≤ 73048
    · rw [decide_eq_true h2, decide_eq_true (show 0 ≤ day ∧ day ≤ 73048 from ⟨h, h2⟩)]
    · rw [decide_eq_false h2, decide_eq_false (show ¬ (0 ≤ day ∧ day ≤ 73048) from fun x => h2 x.2)]
  · rw [if_neg h, decide_eq_false (show ¬ (0 ≤ day ∧ day ≤ 73048) from fun x => h x.1)]
theorem wd_val (day : Int) : date_Weekday.f day = some (wdV day) := by
  unfold date_Weekday.f wdV
  rw [here_val, Option.bind_some]
  by_cases h : 0 ≤ day ∧ day ≤ 73048
  · rw [decide_eq_true h, if_pos rfl, if_pos h, w64id' (day + 5) (by omega) (by omega), Int.tmod_eq_emod_of_nonneg (by omega), w64id' _ (by omega) (by omega)]
  · rw [decide_eq_false h, if_neg (by decide), if_neg h]
def nthD (y m wd n : Int) : Int := 1 + (wd - wdV (ofV y m 1).1 + 7) % 7 + 7 * (n - 1)
def nthV (y m wd n : Int) : Int × Int := if wd < 1 ∨ wd > 7 ∨ n < 1 ∨ n > 5 then (0, 2) else if (ofV y m 1).2 = 0 then ofV y m (nthD y m wd n) else (0, (ofV y m 1).2)
theorem wdV_range (day : Int) : 0 ≤ wdV day ∧ wdV day ≤ 7 := by
  unfold wdV; split <;> omega
theorem nth_bad (y m wd n : Int) : Ev (fun k => date_Nth.j0 k y m wd n true) (0, 2) := by
  refine Ev.step (fun _ => by rw [date_Nth.j0]) ?_
  exact ev_pos rfl (ev_some rfl)
theorem nth_ev (y m wd n : Int) : Ev (fun k => date_Nth.f k y m wd n) (nthV y m wd n) := by
  unfold date_Nth.f nthV
  by_cases c1 : wd < 1
  · rw [if_pos (show wd < 1 ∨ wd > 7 ∨ n < 1 ∨ n > 5 from .inl c1)]; exact ev_pos c1 (nth_bad _ _ _ _)
  refine ev_neg c1 ?_
  by_cases c2 : wd > 7
  · rw [if_pos (show wd < 1 ∨ wd > 7 ∨ n < 1 ∨ n > 5 from .inr (.inl c2))]; exact ev_pos c2 (nth_bad _ _ _ _)
  refine ev_neg c2 ?_
  by_cases c3 : n < 1
  · rw [if_pos (show wd < 1 ∨ wd > 7 ∨ n < 1 ∨ n > 5 from .inr (.inr (.inl c3)))]; exact ev_pos c3 (nth_bad _ _ _ _)
  refine ev_neg c3 ?_
  by_cases c4 : n > 5
  · rw [if_pos (show wd < 1 ∨ wd > 7 ∨ n < 1 ∨ n > 5 from .inr (.inr (.inr c4))), decide_eq_true c4]; exact nth_bad _ _ _ _
  rw [if_neg (by omega), decide_eq_false c4]
  refine Ev.step (fun _ => by rw [date_Nth.j0]) ?_
  refine ev_neg (by decide) (ev_val (of_val _ _ _) ?_)
  by_cases h0 : (ofV y m 1).2 = 0
  · refine ev_rw (if_pos h0).symm ?_
    refine ev_pos h0 (ev_val (wd_val _) (ev_val (of_val _ _ _) (ev_some ?_)))
    have hr := wdV_range (ofV y m 1).1
    unfold nthD
    generalize wdV (ofV y m 1).1 = q at *
    rw [w64id' (wd - q) (by omega) (by omega), w64id' (wd - q + 7) (by omega) (by omega), Int.tmod_eq_emod_of_nonneg (by omega), w64id' (n - 1) (by omega) (by omega), w64id' (7 * (n - 1)) (by omega) (by omega), w64id' (1 + _) (by omega) (by omega), w64id' (1 + _ + _) (by omega) (by omega)]
  · refine ev_rw (if_neg h0).symm ?_
    exact ev_neg h0 (ev_some rfl)
/-! ### years' lengths -/
theorem leap_emod (y : Int) (h : 0 ≤ y) : leapV y = (((y % 4 == 0) && (y % 100 != 0)) || (y % 400 == 0)) := by
  unfold leapV date_Leap.f
  rw [Int.tmod_eq_emod_of_nonneg h, Int.tmod_eq_emod_of_nonneg h, Int.tmod_eq_emod_of_nonneg h]
  by_cases h4 : y % 4 = 0
  · rw [if_pos h4]
    by_cases h1 : y % 100 = 0
    · rw [if_pos h1]; simp [h4, h1]
    · rw [if_neg h1]; simp [h4, h1]
  · rw [if_neg h4]
    have : y % 400 ≠ 0 := by omega
    simp [h4, this]
theorem msum12 (b : Bool) : msum b 12 = 365 + (if b = true then 1 else 0) := by cases b <;> rfl
theorem start_step (y : Int) (h : 2000 ≤ y) (h2 : y ≤ 2199) : startD (y + 1) = startD y + msum (leapV y) 12 := by
  rw [leap_emod y (by omega), msum12]
  unfold startD
  by_cases h4 : y % 4 = 0
  · by_cases h1 : y % 100 = 0
    · by_cases h5 : y % 400 = 0
      · have e : (((y % 4 == 0) && (y % 100 != 0)) || (y % 400 == 0)) = true := by simp [h4, h1, h5]
        rw [e, if_pos rfl]; omega
      · have e : (((y % 4 == 0) && (y % 100 != 0)) || (y % 400 == 0)) = false := by simp [h4, h1, h5]
        rw [e, if_neg (by decide)]; omega
    · have e : (((y % 4 == 0) && (y % 100 != 0)) || (y % 400 == 0)) = true := by simp [h4, h1]
      rw [e, if_pos rfl]; omega
  · have h5 : y % 400 ≠ 0 := by omega
    have e : (((y % 4 == 0) && (y % 100 != 0)) || (y % 400 == 0)) = false := by simp [h4, h5]
    rw [e, if_neg (by decide)]; omega
theorem msum12_pos (b : Bool) : 365 ≤ msum b 12 ∧ msum b 12 ≤ 366 := by rw [msum12]; split <;> omega
theorem start_mono (y z : Int) (h : 2000 ≤ y) (h2 : y ≤ z) (h3 : z ≤ 2200) : startD y ≤ startD z := by unfold startD; omega
/-! ### dates: every valid date has its own day -/
def okD (y m d : Int) : Prop := 2000 ≤ y ∧ y ≤ 2199 ∧ 1 ≤ m ∧ m ≤ 12 ∧ 1 ≤ d ∧ d ≤ dl (leapV y) m
def valD (y m d : Int) : Int := startD y + d - 1 + msum (leapV y) (m.toNat - 1)
theorem dlen_in (y m : Int) (h : 1 ≤ m) (h2 : m ≤ 12) : dlen y m = dl (leapV y) m := by unfold dlen; rw [if_neg (by omega)]
theorem dlen_out (y m : Int) (h : m < 1 ∨ m > 12) : dlen y m = 0 := by unfold dlen; rw [if_pos h]
theorem of_ok (y m d : Int) (h : okD y m d) : ofV y m d = (valD y m d, 0) := by
  obtain ⟨h1, h2, h3, h4, h5, h6⟩ := h
  unfold ofV valD
  rw [dlen_in y m h3 h4, if_neg (by omega)]
theorem ok_iff (y m d : Int) : okD y m d ↔ ¬ (y < 2000 ∨ y > 2199 ∨ d < 1 ∨ d > dlen y m) := by
  unfold okD
  by_cases hm : m < 1 ∨ m > 12
  · rw [dlen_out y m hm]; omega
  · rw [dlen_in y m (by omega) (by omega)]; omega
theorem of_not (y m d : Int) (h : ¬ okD y m d) : ofV y m d = (0, 15) := by
  rw [ok_iff, Classical.not_not] at h
  unfold ofV
  rw [if_pos h]
theorem msum_mono (b : Bool) (i n : Nat) (h : i + n ≤ 12) : msum b i ≤ msum b (i + n) := by
  induction n with
  | zero => exact Int.le_refl _
  | succ n ih =>
    have h1 := ih (by omega)
    have h2 := dl_range b (((i + n : Nat) : Int) + 1) (by omega) (by omega)
    rw [show i + (n + 1) = (i + n) + 1 by omega]
    simp only [msum]
    omega
theorem msum_at (b : Bool) (m : Int) (h : 1 ≤ m) : msum b m.toNat = msum b (m.toNat - 1) + dl b m := by
  obtain ⟨j, rfl⟩ : ∃ j : Nat, m = (j : Int) + 1 := ⟨m.toNat - 1, by omega⟩
  rw [show ((j : Int) + 1).toNat = j + 1 by omega]
  rfl
theorem val_year (y m d : Int) (h : okD y m d) : startD y ≤ valD y m d ∧ valD y m d < startD (y + 1) := by
  obtain ⟨h1, h2, h3, h4, h5, h6⟩ := h
  rw [start_step y h1 h2]
  unfold valD
  have e1 := msum_at (leapV y) m h3
  have e2 := msum_mono (leapV y) m.toNat (12 - m.toNat) (by omega)
  rw [show m.toNat + (12 - m.toNat) = 12 by omega] at e2
  have e3 := (msum_range (leapV y) (m.toNat - 1) (by omega)).1
  omega
theorem val_range (y m d : Int) (h : okD y m d) : 0 ≤ valD y m d ∧ valD y m d ≤ 73048 := by
  obtain ⟨h1, h2⟩ := val_year y m d h
  have h3 := start_mono 2000 y (by omega) h.1 (by have := h.2.1; omega)
  have h4 := start_mono (y + 1) 2200 (by have := h.1; omega) (by have := h.2.1; omega) (by omega)
  rw [show startD 2000 = 0 from rfl] at h3
  rw [show startD 2200 = 73049 from rfl] at h4
  omega
theorem year_one (y z v : Int) (hy : 2000 ≤ y) (hy2 : y ≤ 2199) (hz : 2000 ≤ z) (hz2 : z ≤ 2199) (h1 : startD y ≤ v) (h2 : v < startD (y + 1)) (h3 : startD z ≤ v) (h4 : v < startD (z + 1)) : y = z := by
  apply Classical.byContradiction
  intro hne
  rcases Int.lt_or_lt_of_ne hne with h | h
  · have := start_mono (y + 1) z (by omega) (by omega) (by omega); omega
  · have := start_mono (z + 1) y (by omega) (by omega) (by omega); omega
theorem month_one (b : Bool) (m d n e : Int) (hm : 1 ≤ m) (hm2 : m ≤ 12) (hd : 1 ≤ d) (hd2 : d ≤ dl b m) (hn : 1 ≤ n) (hn2 : n ≤ 12) (he : 1 ≤ e) (he2 : e ≤ dl b n) (h : d + msum b (m.toNat - 1) = e + msum b (n.toNat - 1)) : m = n ∧ d = e := by
  have e1 := msum_at b m hm
  have e2 := msum_at b n hn
  have hmn : m = n := by
    apply Classical.byContradiction
    intro hne
    rcases Int.lt_or_lt_of_ne hne with hl | hl
    · have := msum_mono b m.toNat (n.toNat - 1 - m.toNat) (by omega)
      rw [show m.toNat + (n.toNat - 1 - m.toNat) = n.toNat - 1 by omega] at this
      omega
    · have := msum_mono b n.toNat (m.toNat - 1 - n.toNat) (by omega)
      rw [show n.toNat + (m.toNat - 1 - n.toNat) = m.toNat - 1 by omega] at this
      omega
  subst hmn
  exact ⟨rfl, by omega⟩
theorem val_inj (y m d z n e : Int) (h : okD y m d) (k : okD z n e) (hv : valD y m d = valD z n e) : y = z ∧ m = n ∧ d = e := by
  have h1 := val_year y m d h
  have h2 := val_year z n e k
  obtain rfl := year_one y z (valD y m d) h.1 h.2.1 k.1 k.2.1 h1.1 h1.2 (by omega) (by omega)
  obtain ⟨_, _, h3, h4, h5, h6⟩ := h
  obtain ⟨_, _, k3, k4, k5, k6⟩ := k
  unfold valD at hv
  obtain ⟨rfl, rfl⟩ := month_one (leapV y) m d n e h3 h4 h5 h6 k3 k4 k5 k6 (by omega)
  exact ⟨rfl, rfl, rfl⟩
/-! ### the document's Of -/
theorem refleap (y : Int) : contangoref05_Leap.f y = some (leapV y) := leap_val y
theorem days_j0 (y m : Int) : Ev (fun k => contangoref05_Days.j0 k y m true) 31 := by
  refine Ev.step (fun _ => by rw [contangoref05_Days.j0]) ?_
  exact ev_pos rfl (ev_some rfl)
theorem days_j1 (y m : Int) : Ev (fun k => contangoref05_Days.j1 k y m true) 30 := by
  refine Ev.step (fun _ => by rw [contangoref05_Days.j1]) ?_
  exact ev_pos rfl (ev_some rfl)
theorem days_low (y m : Int) (h4 : m ≠ 4) (h6 : m ≠ 6) (h9 : m ≠ 9) (h11 : m ≠ 11) (r : Int) (k : Ev (fun k => contangoref05_Days.j1 k y m false) r) : Ev (fun k => contangoref05_Days.j0 k y m false) r := by
  refine Ev.step (fun _ => by rw [contangoref05_Days.j0]) ?_
  refine ev_neg (by decide) (ev_neg h4 (ev_neg h6 (ev_neg h9 ?_)))
  rw [show (m == 11) = false from beq_eq_false_iff_ne.2 h11]
  exact k
theorem days30 (y m : Int) (h : m = 4 ∨ m = 6 ∨ m = 9 ∨ m = 11) : Ev (fun k => contangoref05_Days.j0 k y m false) 30 := by
  rcases h with rfl | rfl | rfl | rfl
  · refine Ev.step (fun _ => by rw [contangoref05_Days.j0]) ?_
    refine ev_neg (by decide) (ev_pos rfl ?_)
    exact days_j1 y 4
  · refine Ev.step (fun _ => by rw [contangoref05_Days.j0]) ?_
    refine ev_neg (by decide) (ev_neg (by decide) (ev_pos rfl ?_))
    exact days_j1 y 6
  · refine Ev.step (fun _ => by rw [contangoref05_Days.j0]) ?_
    refine ev_neg (by decide) (ev_neg (by decide) (ev_neg (by decide) (ev_pos rfl ?_)))
    exact days_j1 y 9
  · refine Ev.step (fun _ => by rw [contangoref05_Days.j0]) ?_
    refine ev_neg (by decide) (ev_neg (by decide) (ev_neg (by decide) (ev_neg (by decide) ?_)))
    exact days_j1 y 11
theorem refdays (y m : Int) : Ev (fun k => contangoref05_Days.f k y m) (dlen y m) := by
  unfold contangoref05_Days.f
  by_cases hin : 1 ≤ m ∧ m ≤ 12
  · have : m = 1 ∨ m = 2 ∨ m = 3 ∨ m = 4 ∨ m = 5 ∨ m = 6 ∨ m = 7 ∨ m = 8 ∨ m = 9 ∨ m = 10 ∨ m = 11 ∨ m = 12 := by omega
    rcases this with rfl | rfl | rfl | rfl | rfl | rfl | rfl | rfl | rfl | rfl | rfl | rfl
    · exact ev_rw (by simp [dlen, dl, longL]) (ev_pos rfl (days_j0 _ _))
    · refine ev_neg (by decide) (ev_neg (by decide) (ev_neg (by decide) (ev_neg (by decide) (ev_neg (by decide) (ev_neg (by decide) (days_low _ _ (by decide) (by decide) (by decide) (by decide) _ (Ev.step (fun _ => by rw [contangoref05_Days.j1]) (ev_neg (by decide) (ev_pos rfl (ev_val (refleap y) ?_))))))))))
      cases hb : leapV y with
      | true => exact ev_pos rfl (ev_some (by simp [dlen, dl, longL, hb]))
      | false => exact ev_neg (by decide) (ev_some (by simp [dlen, dl, longL, hb]))
    · exact ev_rw (by simp [dlen, dl, longL]) (ev_neg (by decide) (ev_pos rfl (days_j0 _ _)))
    · exact ev_rw (by simp [dlen, dl, longL]) (ev_neg (by decide) (ev_neg (by decide) (ev_neg (by decide) (ev_neg (by decide) (ev_neg (by decide) (ev_neg (by decide) (days30 _ _ (by decide))))))))
    · exact ev_rw (by simp [dlen, dl, longL]) (ev_neg (by decide) (ev_neg (by decide) (ev_pos rfl (days_j0 _ _))))
    · exact ev_rw (by simp [dlen, dl, longL]) (ev_neg (by decide) (ev_neg (by decide) (ev_neg (by decide) (ev_neg (by decide) (ev_neg (by decide) (ev_neg (by decide) (days30 _ _ (by decide))))))))
    · exact ev_rw (by simp [dlen, dl, longL]) (ev_neg (by decide) (ev_neg (by decide) (ev_neg (by decide) (ev_pos rfl (days_j0 _ _)))))
    · exact ev_rw (by simp [dlen, dl, longL]) (ev_neg (by decide) (ev_neg (by decide) (ev_neg (by decide) (ev_neg (by decide) (ev_pos rfl (days_j0 _ _))))))
    · exact ev_rw (by simp [dlen, dl, longL]) (ev_neg (by decide) (ev_neg (by decide) (ev_neg (by decide) (ev_neg (by decide) (ev_neg (by decide) (ev_neg (by decide) (days30 _ _ (by decide))))))))
    · exact ev_rw (by simp [dlen, dl, longL]) (ev_neg (by decide) (ev_neg (by decide) (ev_neg (by decide) (ev_neg (by decide) (ev_neg (by decide) (ev_pos rfl (days_j0 _ _)))))))
    · exact ev_rw (by simp [dlen, dl, longL]) (ev_neg (by decide) (ev_neg (by decide) (ev_neg (by decide) (ev_neg (by decide) (ev_neg (by decide) (ev_neg (by decide) (days30 _ _ (by decide))))))))
    · exact ev_rw (by simp [dlen, dl, longL]) (ev_neg (by decide) (ev_neg (by decide) (ev_neg (by decide) (ev_neg (by decide) (ev_neg (by decide) (ev_neg (by decide) (days_j0 _ _)))))))
  · rw [dlen_out y m (by omega)]
    refine ev_neg (by omega) (ev_neg (by omega) (ev_neg (by omega) (ev_neg (by omega) (ev_neg (by omega) (ev_neg (by omega) ?_)))))
    rw [show (m == 12) = false from beq_eq_false_iff_ne.2 (by omega)]
    exact days_low _ _ (by omega) (by omega) (by omega) (by omega) _ (Ev.step (fun _ => by rw [contangoref05_Days.j1]) (ev_neg (by decide) (ev_neg (by omega) (ev_some rfl))))
theorem ev_down' {ρ : Type} {n : Nat} {g : Nat → Nat → Option ρ} {r : ρ} (he : Ev (fun k => g k n) r) (hs : ∀ i, i < n → Ev (fun k => g k (i + 1)) r → Ev (fun k => g k i) r) : ∀ i, i ≤ n → Ev (fun k => g k i) r := by
  intro i hi
  generalize hd : n - i = d
  induction d generalizing i with
  | zero =>
    obtain rfl : i = n := by omega
    exact he
  | succ d ih => exact hs i (by omega) (ih (i + 1) (by omega) (by omega))
theorem of_years (y c : Int) (h : 2000 ≤ y) (h2 : y ≤ 2199) (hc : 0 ≤ c) (hc2 : c ≤ 1000) : Ev (fun k => contangoref05_Of.l1 k y c 2000) (c + startD y, 0) := by
  have main := ev_down' (n := (y - 2000).toNat) (g := fun k i => contangoref05_Of.l1 k y (c + startD (2000 + (i : Int))) (2000 + (i : Int))) (r := (c + startD y, 0)) ?_ ?_ 0 (by omega)
  · simpa [show startD 2000 = 0 from rfl] using main
  · refine Ev.step (fun _ => by rw [contangoref05_Of.l1]) ?_
    refine ev_neg (by omega) (ev_some ?_)
    rw [show (2000 : Int) + ((y - 2000).toNat : Int) = y by omega]
  · intro i hi ih
    have hst := start_step (2000 + (i : Int)) (by omega) (by omega)
    rw [msum12] at hst
    have hlo := start_mono 2000 (2000 + (i : Int)) (by omega) (by omega) (by omega)
    have hhi := start_mono (2000 + (i : Int)) 2200 (by omega) (by omega) (by omega)
    rw [show startD 2000 = 0 from rfl] at hlo
    rw [show startD 2200 = 73049 from rfl] at hhi
    refine Ev.step (fun _ => by rw [contangoref05_Of.l1]) ?_
    refine ev_pos (by omega) (ev_val (refleap _) ?_)
    rw [show (2000 : Int) + ((i + 1 : Nat) : Int) = 2000 + (i : Int) + 1 by omega, hst] at ih
    cases hb : leapV (2000 + (i : Int)) with
    | true =>
      rw [hb, if_pos rfl] at ih
      refine ev_pos rfl ?_
      rw [w64id' (c + startD (2000 + (i : Int)) + 365) (by omega) (by omega), w64id' _ (by omega) (by omega), w64id' (2000 + (i : Int) + 1) (by omega) (by omega), show c + startD (2000 + (i : Int)) + 365 + 1 = c + (startD (2000 + (i : Int)) + (365 + 1)) by omega]
      exact ih
    | false =>
      rw [hb, if_neg (by decide)] at ih
      refine ev_neg (by decide) ?_
      rw [w64id' (c + startD (2000 + (i : Int)) + 365) (by omega) (by omega), w64id' (2000 + (i : Int) + 1) (by omega) (by omega), show c + startD (2000 + (i : Int)) + 365 = c + (startD (2000 + (i : Int)) + (365 + 0)) by omega]
      exact ih
theorem of_bad' (y m d : Int) : Ev (fun k => contangoref05_Of.j0 k y m d true) (0, 15) := by
  refine Ev.step (fun _ => by rw [contangoref05_Of.j0]) ?_
  exact ev_pos rfl (ev_some rfl)
theorem refof (y m d : Int) : Ev (fun k => contangoref05_Of.f k y m d) (ofV y m d) := by
  unfold contangoref05_Of.f
  by_cases hok : okD y m d
  · rw [of_ok y m d hok]
    obtain ⟨h1, h2, h3, h4, h5, h6⟩ := hok
    have hdl := (dl_range (leapV y) m h3 h4).2
    refine ev_neg (by omega) (ev_neg (by omega) (ev_neg (by omega) (ev_bnd' (refdays y m) ?_)))
    rw [dlen_in y m h3 h4, decide_eq_false (by omega)]
    refine Ev.step (fun _ => by rw [contangoref05_Of.j0]) ?_
    refine ev_neg (by decide) ?_
    rw [w64id' (d - 1) (by omega) (by omega)]
    have main := ev_down' (n := m.toNat - 1) (g := fun k i => contangoref05_Of.l0 k y m (d - 1 + msum (leapV y) i) ((i : Int) + 1)) (r := (valD y m d, 0)) ?_ ?_ 0 (by omega)
    · simpa [msum] using main
    · have hr := msum_range (leapV y) (m.toNat - 1) (by omega)
      refine Ev.step (fun _ => by rw [contangoref05_Of.l0]) ?_
      refine ev_neg (by omega) ?_
      have := of_years y (d - 1 + msum (leapV y) (m.toNat - 1)) h1 h2 (by omega) (by omega)
      refine ev_rw ?_ this
      unfold valD
      exact Prod.ext (by simp only; omega) rfl
    · intro i hi ih
      have hr := msum_range (leapV y) i (by omega)
      have hr2 := dl_range (leapV y) ((i : Int) + 1) (by omega) (by omega)
      refine Ev.step (fun _ => by rw [contangoref05_Of.l0]) ?_
      refine ev_pos (by omega) (ev_bnd' (refdays y _) ?_)
      rw [dlen_in y _ (by omega) (by omega), w64id' _ (by omega) (by omega), w64id' ((i : Int) + 1 + 1) (by omega) (by omega), show d - 1 + msum (leapV y) i + dl (leapV y) ((i : Int) + 1) = d - 1 + msum (leapV y) (i + 1) by simp only [msum]; omega]
      exact ih
  · rw [of_not y m d hok]
    rw [ok_iff, Classical.not_not] at hok
    by_cases c1 : y < 2000
    · exact ev_pos c1 (of_bad' _ _ _)
    refine ev_neg c1 ?_
    by_cases c2 : y > 2199
    · exact ev_pos c2 (of_bad' _ _ _)
    refine ev_neg c2 ?_
    by_cases c3 : d < 1
    · exact ev_pos c3 (of_bad' _ _ _)
    refine ev_neg c3 (ev_bnd' (refdays y m) ?_)
    rw [decide_eq_true (by omega)]
    exact of_bad' _ _ _
/-! ### working days: what the program's functions tell -/
def stepV (l : List Int) (d by_ : Int) : Int × Int := if chk2 l [d] = 0 then scanV 73050 l (d + by_) by_ else (0, chk2 l [d])
def worksV (l : List Int) (d : Int) : Bool × Int := if chk2 l [d] = 0 then (workV l d, 0) else (false, chk2 l [d])
theorem works_val (l : List Int) (d : Int) : workday_Works.f l d = some (worksV l d) := rfl
theorem step_val (l : List Int) (d : Int) : workday_step.f l d 1 = some (stepV l d 1) ∧ workday_step.f l d (-1) = some (stepV l d (-1)) := by
  unfold workday_step.f stepV
  exact ⟨by rw [if_pos (Or.inl rfl)], by rw [if_pos (Or.inr rfl)]⟩
theorem before_val (l : List Int) (d : Int) : workday_Before.f l d = some (stepV l d (-1)) := by
  unfold workday_Before.f
  rw [(step_val l d).2]; rfl
def countV (l : List Int) (a b : Int) : Int × Int := if chk2 l [a, b] = 0 then (cntGo (b - a + 1).toNat l a 0, 0) else (0, chk2 l [a, b])
theorem count_val (l : List Int) (a b : Int) : workday_Count.f l a b = some (countV l a b) := rfl
def expV (l : List Int) (y m : Int) : Int × Int := if chkV l = 0 then (if (nthV y m 5 3).2 = 0 then (if workV l (nthV y m 5 3).1 = true then ((nthV y m 5 3).1, 0) else stepV l (nthV y m 5 3).1 (-1)) else (0, (nthV y m 5 3).2)) else (0, chkV l)
theorem exp_ev (l : List Int) (y m : Int) : Ev (fun k => workday_Expiry.f k l y m) (expV l y m) := by
  unfold workday_Expiry.f expV
  by_cases h : chkV l = 0
  · rw [if_pos h]
    refine ev_pos h (ev_bnd' (nth_ev y m 5 3) ?_)
    by_cases h1 : (nthV y m 5 3).2 = 0
    · refine ev_rw (if_pos h1).symm (ev_pos h1 ?_)
      by_cases h2 : workV l (nthV y m 5 3).1 = true
      · exact ev_rw (if_pos h2).symm (ev_pos h2 (ev_some rfl))
      · refine ev_rw (if_neg h2).symm (ev_neg h2 ?_)
        exact ⟨0, fun _ _ => before_val l _⟩
    · exact ev_rw (if_neg h1).symm (ev_neg h1 (ev_some rfl))
  · rw [if_neg h]
    exact ev_neg h (ev_some rfl)
theorem chk2_one (l : List Int) (d : Int) : chk2 l [d] = if chkV l = 0 then (if isV d = true then 0 else 15) else chkV l := by
  unfold chk2; simp only [List.all_cons, List.all_nil, Bool.and_true]
theorem chk2_two (l : List Int) (a b : Int) : chk2 l [a, b] = if chkV l = 0 then (if (isV a && isV b) = true then 0 else 15) else chkV l := by
  unfold chk2; simp only [List.all_cons, List.all_nil, Bool.and_true]
theorem isV_iff (d : Int) : isV d = true ↔ 0 ≤ d ∧ d ≤ 73048 := by unfold isV; simp
theorem workV_in (l : List Int) (d : Int) (h : workV l d = true) : 0 ≤ d ∧ d ≤ 73048 := by
  unfold workV at h
  simp only [Bool.and_eq_true] at h
  exact (isV_iff d).1 h.1.1
theorem next_val (l : List Int) (d : Int) : workday_Next.f l d = some (stepV l d 1) := by
  unfold workday_Next.f
  rw [(step_val l d).1]; rfl
def onV (l : List Int) (d : Int) : Int × Int := if (worksV l d).2 = 0 then (if (worksV l d).1 = true then (d, 0) else stepV l d 1) else (0, (worksV l d).2)
theorem on_val (l : List Int) (d : Int) : workday_On.f l d = some (onV l d) := by
  unfold workday_On.f onV
  rw [works_val, Option.bind_some, next_val]
  by_cases h : (worksV l d).2 = 0
  · rw [if_pos h, if_pos h]
    by_cases h2 : (worksV l d).1 = true
    · rw [if_pos h2, if_pos h2]
    · rw [if_neg h2, if_neg h2]; rfl
  · rw [if_neg h, if_neg h]
def addV (l : List Int) (d n : Int) : Int × Int := if n = 0 then onV l d else if chk2 l [d] = 0 then addGo 73050 l (d + addBy n) (addBy n) n else (0, chk2 l [d])
theorem add_val (l : List Int) (d n : Int) : workday_Add.f l d n = some (addV l d n) := by
  unfold workday_Add.f addV
  by_cases h : n = 0
  · rw [if_pos h, if_pos h, on_val]
  · rw [if_neg h, if_neg h]
theorem goes06 : Ev (fun k => contangolaw06_goes.f k) true := by
  unfold contangolaw06_goes.f
  refine ev_val (show workday_Next.f ([] : List Int) 0 = some (2, 0) by decide +kernel) (ev_val (show workday_Next.f ([2] : List Int) 0 = some (3, 0) by decide +kernel) (ev_val (show workday_Before.f ([] : List Int) 2 = some (0, 15) by decide +kernel) (ev_val (show workday_Add.f ([] : List Int) 2 5 = some (9, 0) by decide +kernel) (ev_val (show workday_Count.f ([] : List Int) 0 9 = some (6, 0) by decide +kernel) (ev_bnd' (ev_rw (show expV [20] 2000 1 = (19, 0) by decide +kernel) (exp_ev [20] 2000 1)) ?_)))))
  exact ev_pos rfl (ev_pos rfl (ev_pos rfl (ev_pos rfl (ev_pos rfl (ev_pos rfl (ev_pos rfl (ev_pos rfl (ev_pos rfl (ev_pos rfl (ev_some rfl))))))))))
theorem few_val (l : List Int) : contangolaw06_few.f l = some (decide (l.length ≤ 40 ∨ l.length > 1024)) := by
  unfold contangolaw06_few.f
  by_cases h : l.length ≤ 40
  · rw [if_pos (by omega), decide_eq_true (.inl h)]
  · rw [if_neg (by omega)]
    by_cases h2 : l.length > 1024
    · rw [decide_eq_true (show (l.length : Int) > 1024 by omega), decide_eq_true (.inr h2)]
    · rw [decide_eq_false (show ¬ (l.length : Int) > 1024 by omega), decide_eq_false (by omega)]
/-! ### working days: the document's functions -/
theorem w64s (i : Nat) (h : i ≤ 4611686018427387904) : wrap64 ((i : Int) + 1) = ((i + 1 : Nat) : Int) := by unfold wrap64; omega
theorem refcheck_go (l : List Int) (hl : l.length ≤ 1024) (n : Nat) : ∀ i : Nat, i + n = l.length → Ev (fun k => contangoref06_Check.l0 k l (i : Int)) (chkFrom (if i = 0 then -1 else rd l ((i : Int) - 1)) (l.drop i)) := by
  induction n with
  | zero =>
    intro i hi
    obtain rfl : i = l.length := by omega
    rw [List.drop_length]
    refine Ev.step (fun _ => by rw [contangoref06_Check.l0]) ?_
    exact ev_neg (by omega) (ev_some rfl)
  | succ n ih =>
    intro i hi
    have hlt : i < l.length := by omega
    rw [rd_drop l i hlt, chkFrom]
    have ih := ih (i + 1) (by omega)
    rw [if_neg (by omega), show ((i + 1 : Nat) : Int) - 1 = (i : Int) by omega] at ih
    have bad : Ev (fun k => contangoref06_Check.j1 k l (i : Int) true) 15 := by
      refine Ev.step (fun _ => by rw [contangoref06_Check.j1]) ?_
      exact ev_pos rfl (ev_some rfl)
    refine Ev.step (fun _ => by rw [contangoref06_Check.l0]) ?_
    refine ev_pos (by omega) (ev_pos (by omega) ?_)
    cases hv : isV (rd l (i : Int)) with
    | false =>
      rw [if_neg (show ¬ (false = true) by decide)]
      have hn : ¬ (0 ≤ rd l (i : Int) ∧ rd l (i : Int) ≤ 73048) := fun h => by rw [(isV_iff _).2 h] at hv; cases hv
      by_cases h0 : rd l (i : Int) < 0
      · exact ev_pos h0 bad
      · refine ev_neg h0 ?_
        rw [decide_eq_true (by omega)]
        exact bad
    | true =>
      have hy := (isV_iff _).1 hv
      rw [if_pos rfl]
      refine ev_neg (by omega) ?_
      rw [decide_eq_false (by omega)]
      refine Ev.step (fun _ => by rw [contangoref06_Check.j1]) ?_
      refine ev_neg (by decide) ?_
      rw [w64s i (by omega)]
      by_cases h0 : i = 0
      · subst h0
        rw [if_pos rfl, if_neg (by omega)]
        exact ev_neg (by decide) ih
      · rw [if_neg h0]
        refine ev_pos (by omega) (ev_pos (by omega) (ev_pos (by omega) ?_))
        rw [w64id' _ (by omega) (by omega)]
        refine ev_pos (by omega) (ev_pos (by omega) ?_)
        by_cases hle : rd l (i : Int) ≤ rd l ((i : Int) - 1)
        · rw [if_pos hle]
          exact ev_pos hle (ev_some rfl)
        · rw [if_neg hle]
          exact ev_neg hle ih
theorem refcheck (l : List Int) : Ev (fun k => contangoref06_Check.f k l) (chkV l) := by
  unfold contangoref06_Check.f chkV
  by_cases h : l.length > 1024
  · rw [if_pos h]
    exact ev_pos (by omega) (ev_some rfl)
  · rw [if_neg h]
    refine ev_neg (by omega) ?_
    have := refcheck_go l (by omega) l.length 0 (by omega)
    rw [if_pos rfl, List.drop_zero] at this
    exact this
theorem refworks_go (l : List Int) (hl : l.length ≤ 1024) (d : Int) (hd : 0 ≤ d) (n : Nat) : ∀ i : Nat, i + n = l.length → Ev (fun k => contangoref06_works.l0 k l d (i : Int)) (decide (d % 7 > 1) && !decide (d ∈ l.drop i)) := by
  induction n with
  | zero =>
    intro i hi
    obtain rfl : i = l.length := by omega
    rw [List.drop_length]
    refine Ev.step (fun _ => by rw [contangoref06_works.l0]) ?_
    refine ev_neg (by omega) (ev_some ?_)
    rw [Int.tmod_eq_emod_of_nonneg hd]; simp
  | succ n ih =>
    intro i hi
    have ih := ih (i + 1) (by omega)
    refine Ev.step (fun _ => by rw [contangoref06_works.l0]) ?_
    refine ev_pos (by omega) (ev_pos (by omega) ?_)
    rw [w64s i (by omega), rd_drop l i (by omega)]
    by_cases he : rd l (i : Int) = d
    · refine ev_pos he (ev_some ?_)
      rw [decide_eq_true (show d ∈ rd l (i : Int) :: l.drop (i + 1) by rw [he]; exact List.mem_cons_self)]; simp
    · refine ev_neg he (ev_rw ?_ ih)
      have : (d ∈ rd l (i : Int) :: l.drop (i + 1)) = (d ∈ l.drop (i + 1)) := by
        rw [List.mem_cons]; exact propext ⟨fun h => h.resolve_left (fun h => he h.symm), Or.inr⟩
      rw [show decide (d ∈ rd l (i : Int) :: l.drop (i + 1)) = decide (d ∈ l.drop (i + 1)) from decide_eq_decide.2 (by rw [this])]
theorem refworks (l : List Int) (h : chkV l = 0) (d : Int) (hd : 0 ≤ d) (hd2 : d ≤ 73048) : Ev (fun k => contangoref06_works.f k l d) (workV l d) := by
  have := refworks_go l (chkV_srt l h).1 d hd l.length 0 (by omega)
  rw [List.drop_zero] at this
  unfold contangoref06_works.f workV
  rw [(isV_iff d).2 ⟨hd, hd2⟩, Bool.true_and]
  exact this
theorem refWorks (l : List Int) (d : Int) : Ev (fun k => contangoref06_Works.f k l d) (worksV l d) := by
  unfold contangoref06_Works.f worksV
  rw [chk2_one]
  refine ev_bnd' (refcheck l) ?_
  by_cases h : chkV l = 0
  · rw [if_pos h]
    refine ev_pos h ?_
    by_cases hv : isV d = true
    · rw [if_pos hv, if_pos rfl]
      have := (isV_iff d).1 hv
      exact ev_neg (by omega) (ev_neg (by omega) (ev_bnd' (refworks l h d this.1 this.2) (ev_some rfl)))
    · rw [if_neg hv, if_neg (by decide)]
      have : ¬ (0 ≤ d ∧ d ≤ 73048) := fun h => hv ((isV_iff d).2 h)
      by_cases h0 : d < 0
      · exact ev_pos h0 (ev_some rfl)
      · exact ev_neg h0 (ev_pos (by omega) (ev_some rfl))
  · rw [if_neg h, if_neg h]
    exact ev_neg h (ev_some rfl)
def towGo : Nat → List Int → Int → Int → Int → Int × Int
  | 0, _, _, _, _ => (0, 15)
  | f + 1, l, d, by_, n => if isV d = true then (if workV l d = true then (if wrap64 (n - 1) = 0 then (d, 0) else towGo f l (d + by_) by_ (wrap64 (n - 1))) else (if n = 0 then (d, 0) else towGo f l (d + by_) by_ n)) else (0, 15)
def towV (l : List Int) (d n by_ : Int) : Int × Int := if chk2 l [d] = 0 then towGo 73050 l (d + by_) by_ n else (0, chk2 l [d])
theorem toward_go (l : List Int) (h : chkV l = 0) (by_ : Int) (hb : by_ = 1 ∨ by_ = -1) (f : Nat) : ∀ d n : Int, -1 ≤ d → d ≤ 73049 → 0 < f → (by_ = 1 → 73049 - d < f) → (by_ = -1 → d + 1 < f) → Ev (fun k => contangoref06_toward.l0 k l n by_ d) (towGo f l d by_ n) := by
  induction f with
  | zero => intro d n _ _ h; omega
  | succ f ih =>
    intro d n h0 h1 _ hu hd
    have bad : Ev (fun k => contangoref06_toward.j1 k l n by_ d false) (0, 15) := by
      refine Ev.step (fun _ => by rw [contangoref06_toward.j1]) ?_
      exact ev_neg (by decide) (ev_some rfl)
    refine Ev.step (fun _ => by rw [contangoref06_toward.l0]) ?_
    rw [towGo]
    by_cases hv : isV d = true
    · rw [if_pos hv]
      have hy := (isV_iff d).1 hv
      have ih := fun n => ih (d + by_) n (by omega) (by omega) (by omega) (by omega) (by omega)
      refine ev_pos hy.1 ?_
      rw [decide_eq_true hy.2]
      refine Ev.step (fun _ => by rw [contangoref06_toward.j1]) ?_
      refine ev_pos rfl (ev_bnd' (refworks l h d hy.1 hy.2) ?_)
      rw [w64id' (d + by_) (by omega) (by omega)]
      by_cases hw : workV l d = true
      · refine ev_rw (if_pos hw).symm (ev_pos hw ?_)
        by_cases hz : wrap64 (n - 1) = 0
        · exact ev_rw (if_pos hz).symm (ev_pos hz (ev_some rfl))
        · exact ev_rw (if_neg hz).symm (ev_neg hz (ih _))
      · refine ev_rw (if_neg hw).symm (ev_neg hw ?_)
        by_cases hz : n = 0
        · exact ev_rw (if_pos hz).symm (ev_pos hz (ev_some rfl))
        · exact ev_rw (if_neg hz).symm (ev_neg hz (ih _))
    · rw [if_neg hv]
      have : ¬ (0 ≤ d ∧ d ≤ 73048) := fun h => hv ((isV_iff d).2 h)
      by_cases h0 : d ≥ 0
      · refine ev_pos h0 ?_
        rw [decide_eq_false (by omega)]
        exact bad
      · exact ev_neg h0 bad
theorem toward (l : List Int) (d n by_ : Int) (hb : by_ = 1 ∨ by_ = -1) : Ev (fun k => contangoref06_toward.f k l d n by_) (towV l d n by_) := by
  unfold contangoref06_toward.f towV
  refine ev_bnd' (refWorks l d) ?_
  unfold worksV
  by_cases hz : chk2 l [d] = 0
  · rw [if_pos hz, if_pos hz]
    refine ev_pos rfl ?_
    obtain ⟨h0, h1⟩ := chk2_in l [d] d hz (by simp)
    have hc : chkV l = 0 := by
      unfold chk2 at hz
      apply Classical.byContradiction; intro hc
      rw [if_neg hc] at hz; exact hc hz
    rw [w64id' (d + by_) (by omega) (by omega)]
    exact toward_go l hc by_ hb 73050 (d + by_) n (by omega) (by omega) (by omega) (by omega) (by omega)
  · rw [if_neg hz, if_neg hz]
    exact ev_neg hz (ev_some rfl)
theorem tow_scan (l : List Int) (by_ : Int) (f : Nat) : ∀ d : Int, towGo f l d by_ 1 = scanV f l d by_ := by
  induction f with
  | zero => intro d; rfl
  | succ f ih =>
    intro d
    rw [towGo, scanV, ih, show wrap64 (1 - 1) = 0 from by unfold wrap64; omega, if_pos rfl, if_neg (show ¬ (1 : Int) = 0 by decide)]
theorem refbefore (l : List Int) (d : Int) : Ev (fun k => contangoref06_Before.f k l d) (stepV l d (-1)) := by
  unfold contangoref06_Before.f
  have := toward l d 1 (-1) (.inr rfl)
  unfold towV at this
  rw [tow_scan] at this
  exact ev_bnd' this (ev_some rfl)
/-! ### the document's n-th weekday -/
theorem refwd (day : Int) : contangoref05_Weekday.f day = some (wdV day) := by
  unfold contangoref05_Weekday.f wdV
  by_cases h : day < 0
  · rw [if_pos h, if_neg (by omega)]
  · rw [if_neg h]
    by_cases h2 : day > 73048
    · rw [if_pos h2, if_neg (by omega)]
    · rw [if_neg h2, if_pos (by omega), w64id' (day + 5) (by omega) (by omega), Int.tmod_eq_emod_of_nonneg (by omega), w64id' _ (by omega) (by omega)]
theorem wd_in (day : Int) (h : 0 ≤ day) (h2 : day ≤ 73048) : wdV day = (day + 5) % 7 + 1 := by unfold wdV; rw [if_pos ⟨h, h2⟩]
theorem val_add (y m d : Int) : valD y m d = valD y m 1 + (d - 1) := by unfold valD; omega
theorem nth_val (y m : Int) : nthV y m 5 3 = if (ofV y m 1).2 = 0 then ofV y m (nthD y m 5 3) else (0, (ofV y m 1).2) := by
  unfold nthV; rw [if_neg (by decide)]
theorem refnth_go (y m v : Int) (h1 : okD y m 1) (hv : valD y m 1 = v) (f : Nat) : ∀ d n : Int, 1 ≤ d → d + f = 33 → n = 3 - (d + 6 - (1 + (5 - ((v + 5) % 7 + 1) + 7) % 7)) / 7 → 1 ≤ n →
    Ev (fun k => contangoref05_Nth.l0 k y m 5 n d) (ofV y m (1 + (5 - ((v + 5) % 7 + 1) + 7) % 7 + 14)) := by
  obtain ⟨k1, k2, k3, k4, k5, k6⟩ := h1
  have hb := (dl_range (leapV y) m k3 k4)
  have hbad : ∀ d : Int, d > dl (leapV y) m → ofV y m d = (0, 15) := fun d hd => of_not y m d (fun hk => by have := hk.2.2.2.2.2; omega)
  generalize hD : 1 + (5 - ((v + 5) % 7 + 1) + 7) % 7 = D
  have hD1 : 1 ≤ D ∧ D ≤ 7 := by omega
  induction f with
  | zero =>
    intro d n h0 hf hn hn1
    omega
  | succ f ih =>
    intro d n h0 hf hn hn1
    refine Ev.step (fun _ => by rw [contangoref05_Nth.l0]) ?_
    refine ev_bnd' (refdays y m) ?_
    rw [dlen_in y m k3 k4]
    by_cases hd : d ≤ dl (leapV y) m
    · have hok : okD y m d := ⟨k1, k2, k3, k4, h0, hd⟩
      obtain ⟨r1, r2⟩ := val_range y m d hok
      refine ev_pos hd (ev_bnd' (refof y m d) ?_)
      rw [of_ok y m d hok]
      refine ev_pos rfl (ev_val (refwd _) ?_)
      dsimp only
      have hw : wdV (valD y m d) = (v + (d - 1) + 5) % 7 + 1 := by rw [wd_in _ r1 r2, val_add, hv]
      rw [hw, w64id' (n - 1) (by omega) (by omega), w64id' (d + 1) (by omega) (by omega)]
      by_cases he : (v + (d - 1) + 5) % 7 + 1 = 5
      · refine ev_pos he ?_
        by_cases hz : n - 1 = 0
        · refine ev_pos hz (ev_some ?_)
          rw [show D + 14 = d by omega, of_ok y m d hok]
        · exact ev_neg hz (ih (d + 1) (n - 1) (by omega) (by omega) (by omega) (by omega))
      · refine ev_neg he (ev_neg (by omega) (ih (d + 1) n (by omega) (by omega) (by omega) hn1))
    · refine ev_neg hd (ev_some ?_)
      rw [hbad (D + 14) (by omega)]
theorem refnth (y m : Int) : Ev (fun k => contangoref05_Nth.f k y m 5 3) (nthV y m 5 3) := by
  unfold contangoref05_Nth.f
  refine ev_neg (by decide) (ev_neg (by decide) (ev_neg (by decide) ?_))
  rw [show decide ((3 : Int) > 5) = false by decide]
  refine Ev.step (fun _ => by rw [contangoref05_Nth.j0]) ?_
  refine ev_neg (by decide) ?_
  rw [nth_val]
  by_cases h1 : okD y m 1
  · obtain ⟨r1, r2⟩ := val_range y m 1 h1
    have := refnth_go y m (valD y m 1) h1 rfl 32 1 3 (by omega) (by omega) (by omega) (by omega)
    refine ev_rw ?_ this
    rw [of_ok y m 1 h1, if_pos rfl]
    unfold nthD
    rw [of_ok y m 1 h1, wd_in _ r1 r2]
    rw [show (7 : Int) * (3 - 1) = 14 by decide]
  · rw [of_not y m 1 h1, if_neg (by decide)]
    refine Ev.step (fun _ => by rw [contangoref05_Nth.l0]) ?_
    refine ev_bnd' (refdays y m) ?_
    by_cases hd : 1 ≤ dlen y m
    · refine ev_pos hd (ev_bnd' (refof y m 1) ?_)
      rw [of_not y m 1 h1]
      exact ev_neg (by decide) (ev_some rfl)
    · exact ev_neg hd (ev_some rfl)
theorem third_ok (y m : Int) (h : (nthV y m 5 3).2 = 0) : ∃ D, okD y m D ∧ nthV y m 5 3 = (valD y m D, 0) := by
  have hv : nthV y m 5 3 = if (ofV y m 1).2 = 0 then ofV y m (nthD y m 5 3) else (0, (ofV y m 1).2) := by unfold nthV; rw [if_neg (by decide)]
  rw [hv] at h ⊢
  by_cases h1 : (ofV y m 1).2 = 0
  · rw [if_pos h1] at h ⊢
    by_cases hok : okD y m (nthD y m 5 3)
    · exact ⟨_, hok, of_ok _ _ _ hok⟩
    · rw [of_not _ _ _ hok] at h; exact absurd h (by decide)
  · rw [if_neg h1] at h; exact absurd h h1
theorem third_no (y m : Int) (h : (nthV y m 5 3).2 ≠ 0) : (nthV y m 5 3).1 = 0 := by
  have hv : nthV y m 5 3 = if (ofV y m 1).2 = 0 then ofV y m (nthD y m 5 3) else (0, (ofV y m 1).2) := by unfold nthV; rw [if_neg (by decide)]
  rw [hv] at h ⊢
  by_cases h1 : (ofV y m 1).2 = 0
  · rw [if_pos h1] at h ⊢
    by_cases hok : okD y m (nthD y m 5 3)
    · rw [of_ok _ _ _ hok] at h; exact absurd rfl h
    · rw [of_not _ _ _ hok]
  · rw [if_neg h1]
theorem refexp (l : List Int) (y m : Int) : Ev (fun k => contangoref06_Expiry.f k l y m) (expV l y m) := by
  unfold contangoref06_Expiry.f expV
  refine ev_bnd' (refcheck l) ?_
  by_cases h : chkV l = 0
  · rw [if_pos h]
    refine ev_pos h (ev_bnd' (refnth y m) ?_)
    by_cases h1 : (nthV y m 5 3).2 = 0
    · obtain ⟨D, hD, hv⟩ := third_ok y m h1
      obtain ⟨r1, r2⟩ := val_range y m D hD
      refine ev_rw (if_pos h1).symm (ev_pos h1 ?_)
      rw [hv]
      dsimp only
      refine ev_bnd' (refworks l h _ r1 r2) ?_
      by_cases h2 : workV l (valD y m D) = true
      · exact ev_rw (if_pos h2).symm (ev_pos h2 (ev_some rfl))
      · exact ev_rw (if_neg h2).symm (ev_neg h2 (ev_bnd' (refbefore l _) (ev_some rfl)))
    · exact ev_rw (if_neg h1).symm (ev_neg h1 (ev_some rfl))
  · rw [if_neg h]
    exact ev_neg h (ev_some rfl)
theorem WorkdayExpires : contangolaw06_WorkdayExpires.Pure := by
  intro l y m _ _ _ _ _
  refine Ev.rounds ?_
  unfold contangolaw06_WorkdayExpires.f
  refine ev_val (few_val l) ?_
  by_cases h : l.length ≤ 40 ∨ l.length > 1024
  · rw [decide_eq_true h]
    exact ev_pos rfl (ev_bnd' (exp_ev l y m) (ev_bnd' (refexp l y m) (ev_pos rfl (ev_pos rfl (ev_bnd' goes06 (ev_some rfl))))))
  · rw [decide_eq_false h]
    exact ev_neg (by decide) (ev_bnd' goes06 (ev_some rfl))
end Go.Proofs.YtgcefakbbmgbbaaDoor.Pure
