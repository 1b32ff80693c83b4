/- The pure statement of the law DateMonths, proved: plain Lean over numbers and lists, no program in sight. -/
import Derived.Test.YtmhlajgeihjaeaaDoorPDateMonthsx4
namespace Go.Proofs.YtmhlajgeihjaeaaDoor.Pure
open Go.RowKit Go.Proofs.YtmhlajgeihjaeaaDoor.PDateMonths Go.Proofs.YtmhlajgeihjaeaaDoorW.PrintWords Go.Proofs.YtmhlajgeihjaeaaDoorW.PrintLast Go.Proofs.YtmhlajgeihjaeaaDoorW.PrintMore
set_option linter.unusedVariables false
set_option linter.unusedSimpArgs false
/-! ### from some number of rounds on: steps -/
theorem ev_pos {α : Type} {c : Prop} [Decidable c] {a b : Nat → Option α} {r : α} (h : c) (k : Ev a r) : Ev (fun n => if c then a n else b n) r := Ev.congr (fun _ => if_pos h) k
theorem ev_neg {α : Type} {c : Prop} [Decidable c] {a b : Nat → Option α} {r : α} (h : ¬ c) (k : Ev b r) : Ev (fun n => if c then a n else b n) r := Ev.congr (fun _ => if_neg h) k
theorem ev_val {α β : Type} {g : Option α} {f : Nat → α → Option β} {a : α} {r : β} (h : g = some a) (k : Ev (fun n => f n a) r) : Ev (fun n => g.bind (f n)) r := by
  subst h; exact k
theorem ev_some {α : Type} {x r : α} (h : x = r) : Ev (fun _ => some x) r := h ▸ Ev.now x
theorem ev_rw {α : Type} {g : Nat → Option α} {r s : α} (h : r = s) (k : Ev g r) : Ev g s := h ▸ k
theorem wsucc (i : Nat) (h : i ≤ 4611686018427387904) : wrap64 ((i : Int) + 1) = ((i + 1 : Nat) : Int) := by
  unfold wrap64; omega
theorem rd_nat (l : List Int) (i : Nat) : rd l (i : Int) = l.getD i 0 := rfl
/-! ### dates: what the functions tell -/
theorem w64id' (x : Int) (h0 : -9223372036854775808 ≤ x) (h1 : x ≤ 9223372036854775807) : wrap64 x = x := by unfold wrap64; omega
theorem ev_bnd' {α β : Type} {g : Nat → Option α} {f : Nat → α → Option β} {a : α} {r : β} (h : Ev g a) (k : Ev (fun n => f n a) r) : Ev (fun n => (g n).bind (f n)) r := h.bind k
def ofV (y m d : Int) : Int × Int := if y < 2000 ∨ y > 2199 ∨ d < 1 ∨ d > dlen y m then (0, 15) else (startD y + d - 1 + msum (leapV y) (m.toNat - 1), 0)
theorem of_val (y m d : Int) : date_Of.f y m d = some (ofV y m d) := rfl
def wdV (day : Int) : Int := if 0 ≤ day ∧ day ≤ 73048 then (day + 5) % 7 + 1 else 0
theorem here_val (day : Int) : date_here.f day = some (decide (0 ≤ day ∧ day ≤ 73048)) := by
  unfold date_here.f
  by_cases h : day ≥ 0
  · rw [if_pos h]
    by_cases h2 : day ≤ 73048
    · rw [decide_eq_true h2, decide_eq_true (show 0 ≤ day ∧ day ≤ 73048 from ⟨h, h2⟩)]
    · rw [decide_eq_false h2, decide_eq_false (show ¬ (0 ≤ day ∧ day ≤ 73048) from fun x => h2 x.2)]
  · rw [if_neg h, decide_eq_false (show ¬ (0 ≤ day ∧ day ≤ 73048) from fun x => h x.1)]
theorem wd_val (day : Int) : date_Weekday.f day = some (wdV day) := by
  unfold date_Weekday.f wdV
  rw [here_val, Option.bind_some]
  by_cases h : 0 ≤ day ∧ day ≤ 73048
  · rw [decide_eq_true h, if_pos rfl, if_pos h, w64id' (day + 5) (by omega) (by omega), Int.tmod_eq_emod_of_nonneg (by omega), w64id' _ (by omega) (by omega)]
  · rw [decide_eq_false h, if_neg (by decide), if_neg h]
def nthD (y m wd n : Int) : Int := 1 + (wd - wdV (ofV y m 1).1 + 7) % 7 + 7 * (n - 1)
def nthV (y m wd n : Int) : Int × Int := if wd < 1 ∨ wd > 7 ∨ n < 1 ∨ n > 5 then (0, 2) else if (ofV y m 1).2 = 0 then ofV y m (nthD y m wd n) else (0, (ofV y m 1).2)
theorem wdV_range (day : Int) : 0 ≤ wdV day ∧ wdV day ≤ 7 := by
  unfold wdV; split <;> omega
theorem nth_bad (y m wd n : Int) : Ev (fun k => date_Nth.j0 k y m wd n true) (0, 2) := by
  refine Ev.step (fun _ => by rw [date_Nth.j0]) ?_
  exact ev_pos rfl (ev_some rfl)
theorem nth_ev (y m wd n : Int) : Ev (fun k => date_Nth.f k y m wd n) (nthV y m wd n) := by
  unfold date_Nth.f nthV
  by_cases c1 : wd < 1
  · rw [if_pos (show wd < 1 ∨ wd > 7 ∨ n < 1 ∨ n > 5 from .inl c1)]; exact ev_pos c1 (nth_bad _ _ _ _)
  refine ev_neg c1 ?_
  by_cases c2 : wd > 7
  · rw [if_pos (show wd < 1 ∨ wd > 7 ∨ n < 1 ∨ n > 5 from .inr (.inl c2))]; exact ev_pos c2 (nth_bad _ _ _ _)
  refine ev_neg c2 ?_
  by_cases c3 : n < 1
  · rw [if_pos (show wd < 1 ∨ wd > 7 ∨ n < 1 ∨ n > 5 from .inr (.inr (.inl c3)))]; exact ev_pos c3 (nth_bad _ _ _ _)
  refine ev_neg c3 ?_
  by_cases c4 : n > 5
  · rw [if_pos (show wd < 1 ∨ wd > 7 ∨ n < 1 ∨ n > 5 from .inr (.inr (.inr c4))), decide_eq_true c4]; exact nth_bad _ _ _ _
  rw [if_neg (by omega), decide_eq_false c4]
  refine Ev.step (fun _ => by rw [date_Nth.j0]) ?_
  refine ev_neg (by decide) (ev_val (of_val _ _ _) ?_)
  by_cases h0 : (ofV y m 1).2 = 0
  · refine ev_rw (if_pos h0).symm ?_
    refine ev_pos h0 (ev_val (wd_val _) (ev_val (of_val _ _ _) (ev_some ?_)))
    have hr := wdV_range (ofV y m 1).1
    unfold nthD
    generalize wdV (ofV y m 1).1 = q at *
    rw [w64id' (wd - q) (by omega) (by omega), w64id' (wd - q + 7) (by omega) (by omega), Int.tmod_eq_emod_of_nonneg (by omega), w64id' (n - 1) (by omega) (by omega), w64id' (7 * (n - 1)) (by omega) (by omega), w64id' (1 + _) (by omega) (by omega), w64id' (1 + _ + _) (by omega) (by omega)]
  · refine ev_rw (if_neg h0).symm ?_
    exact ev_neg h0 (ev_some rfl)
theorem goes05 : Ev (fun k => contangolaw05_goes.f k) true := by
  unfold contangolaw05_goes.f
  refine ev_val (show date_Of.f 2000 2 29 = some (59, 0) by decide +kernel) (ev_val (show date_Parse.f (⟨#[50, 48, 50, 52, 45, 48, 51, 45, 49, 53]⟩ : ByteArray) = some (8840, 0) by decide +kernel) (ev_bnd' (ev_rw (show nthV 2024 3 5 3 = (8840, 0) by decide +kernel) (nth_ev 2024 3 5 3)) (ev_val (show date_Parse.f (⟨#[50, 49, 48, 48, 45, 48, 50, 45, 50, 57]⟩ : ByteArray) = some (0, 15) by decide +kernel) ?_)))
  refine ev_pos rfl (ev_pos rfl (ev_pos rfl (ev_pos rfl (ev_pos rfl (ev_pos rfl (ev_val (show date_Weekday.f 0 = some 6 by decide +kernel) (ev_pos rfl (ev_val (show date_Print.f 73048 = some (toB [50, 49, 57, 57, 45, 49, 50, 45, 51, 49]) by decide +kernel) (ev_some ?_)))))))))
  rw [ByteArray.toList_eq]
  decide +kernel
/-! ### dates: every valid date has its own day -/
def okD (y m d : Int) : Prop := 2000 ≤ y ∧ y ≤ 2199 ∧ 1 ≤ m ∧ m ≤ 12 ∧ 1 ≤ d ∧ d ≤ dl (leapV y) m
def valD (y m d : Int) : Int := startD y + d - 1 + msum (leapV y) (m.toNat - 1)
theorem dlen_in (y m : Int) (h : 1 ≤ m) (h2 : m ≤ 12) : dlen y m = dl (leapV y) m := by unfold dlen; rw [if_neg (by omega)]
theorem dlen_out (y m : Int) (h : m < 1 ∨ m > 12) : dlen y m = 0 := by unfold dlen; rw [if_pos h]
theorem of_ok (y m d : Int) (h : okD y m d) : ofV y m d = (valD y m d, 0) := by
  obtain ⟨h1, h2, h3, h4, h5, h6⟩ := h
  unfold ofV valD
  rw [dlen_in y m h3 h4, if_neg (by omega)]
theorem ok_iff (y m d : Int) : okD y m d ↔ ¬ (y < 2000 ∨ y > 2199 ∨ d < 1 ∨ d > dlen y m) := by
  unfold okD
  by_cases hm : m < 1 ∨ m > 12
  · rw [dlen_out y m hm]; omega
  · rw [dlen_in y m (by omega) (by omega)]; omega
theorem of_not (y m d : Int) (h : ¬ okD y m d) : ofV y m d = (0, 15) := by
  rw [ok_iff, Classical.not_not] at h
  unfold ofV
  rw [if_pos h]
theorem msum_mono (b : Bool) (i n : Nat) (h : i + n ≤ 12) : msum b i ≤ msum b (i + n) := by
  induction n with
  | zero => exact Int.le_refl _
  | succ n ih =>
    have h1 := ih (by omega)
    have h2 := dl_range b (((i + n : Nat) : Int) + 1) (by omega) (by omega)
    rw [show i + (n + 1) = (i + n) + 1 by omega]
    simp only [msum]
    omega
theorem msum_at (b : Bool) (m : Int) (h : 1 ≤ m) : msum b m.toNat = msum b (m.toNat - 1) + dl b m := by
  obtain ⟨j, rfl⟩ : ∃ j : Nat, m = (j : Int) + 1 := ⟨m.toNat - 1, by omega⟩
  rw [show ((j : Int) + 1).toNat = j + 1 by omega]
  rfl
theorem val_year (y m d : Int) (h : okD y m d) : startD y ≤ valD y m d ∧ valD y m d < startD (y + 1) := by
  obtain ⟨h1, h2, h3, h4, h5, h6⟩ := h
  rw [start_step y h1 h2]
  unfold valD
  have e1 := msum_at (leapV y) m h3
  have e2 := msum_mono (leapV y) m.toNat (12 - m.toNat) (by omega)
  rw [show m.toNat + (12 - m.toNat) = 12 by omega] at e2
  have e3 := (msum_range (leapV y) (m.toNat - 1) (by omega)).1
  omega
theorem val_range (y m d : Int) (h : okD y m d) : 0 ≤ valD y m d ∧ valD y m d ≤ 73048 := by
  obtain ⟨h1, h2⟩ := val_year y m d h
  have h3 := start_mono 2000 y (by omega) h.1 (by have := h.2.1; omega)
  have h4 := start_mono (y + 1) 2200 (by have := h.1; omega) (by have := h.2.1; omega) (by omega)
  rw [show startD 2000 = 0 from rfl] at h3
  rw [show startD 2200 = 73049 from rfl] at h4
  omega
theorem year_one (y z v : Int) (hy : 2000 ≤ y) (hy2 : y ≤ 2199) (hz : 2000 ≤ z) (hz2 : z ≤ 2199) (h1 : startD y ≤ v) (h2 : v < startD (y + 1)) (h3 : startD z ≤ v) (h4 : v < startD (z + 1)) : y = z := by
  apply Classical.byContradiction
  intro hne
  rcases Int.lt_or_lt_of_ne hne with h | h
  · have := start_mono (y + 1) z (by omega) (by omega) (by omega); omega
  · have := start_mono (z + 1) y (by omega) (by omega) (by omega); omega
theorem month_one (b : Bool) (m d n e : Int) (hm : 1 ≤ m) (hm2 : m ≤ 12) (hd : 1 ≤ d) (hd2 : d ≤ dl b m) (hn : 1 ≤ n) (hn2 : n ≤ 12) (he : 1 ≤ e) (he2 : e ≤ dl b n) (h : d + msum b (m.toNat - 1) = e + msum b (n.toNat - 1)) : m = n ∧ d = e := by
  have e1 := msum_at b m hm
  have e2 := msum_at b n hn
  have hmn : m = n := by
    apply Classical.byContradiction
    intro hne
    rcases Int.lt_or_lt_of_ne hne with hl | hl
    · have := msum_mono b m.toNat (n.toNat - 1 - m.toNat) (by omega)
      rw [show m.toNat + (n.toNat - 1 - m.toNat) = n.toNat - 1 by omega] at this
      omega
    · have := msum_mono b n.toNat (m.toNat - 1 - n.toNat) (by omega)
      rw [show n.toNat + (m.toNat - 1 - n.toNat) = m.toNat - 1 by omega] at this
      omega
  subst hmn
  exact ⟨rfl, by omega⟩
theorem val_inj (y m d z n e : Int) (h : okD y m d) (k : okD z n e) (hv : valD y m d = valD z n e) : y = z ∧ m = n ∧ d = e := by
  have h1 := val_year y m d h
  have h2 := val_year z n e k
  obtain rfl := year_one y z (valD y m d) h.1 h.2.1 k.1 k.2.1 h1.1 h1.2 (by omega) (by omega)
  obtain ⟨_, _, h3, h4, h5, h6⟩ := h
  obtain ⟨_, _, k3, k4, k5, k6⟩ := k
  unfold valD at hv
  obtain ⟨rfl, rfl⟩ := month_one (leapV y) m d n e h3 h4 h5 h6 k3 k4 k5 k6 (by omega)
  exact ⟨rfl, rfl, rfl⟩
theorem split_ok (day : Int) (h : 0 ≤ day) (h2 : day ≤ 73048) : okD (splitV day).1 (splitV day).2.1 (splitV day).2.2 ∧ valD (splitV day).1 (splitV day).2.1 (splitV day).2.2 = day := by
  obtain ⟨s1, s2, s3, s4, s5, s6, s7, s8⟩ := splitV_spec day h h2
  exact ⟨⟨s1, s2, s3, s4, s5, s7⟩, s8⟩
theorem split_of (y m d : Int) (h : okD y m d) : splitV (valD y m d) = (y, m, d) := by
  obtain ⟨r1, r2⟩ := val_range y m d h
  obtain ⟨k1, k2⟩ := split_ok (valD y m d) r1 r2
  obtain ⟨e1, e2, e3⟩ := val_inj _ _ _ _ _ _ k1 h k2
  exact Prod.ext e1 (Prod.ext e2 e3)
theorem of_split (day : Int) (h : 0 ≤ day) (h2 : day ≤ 73048) : ofV (splitV day).1 (splitV day).2.1 (splitV day).2.2 = (day, 0) := by
  obtain ⟨k1, k2⟩ := split_ok day h h2
  rw [of_ok _ _ _ k1, k2]
theorem split_val (day : Int) (h : 0 ≤ day) (h2 : day ≤ 73048) : date_Split.f day = some ((splitV day).1, (splitV day).2.1, (splitV day).2.2, 0) := by
  unfold date_Split.f; rw [if_neg (by omega)]
theorem split_no (day : Int) (h : day < 0 ∨ day > 73048) : date_Split.f day = some (0, 0, 0, 15) := by
  unfold date_Split.f; rw [if_pos h]
/-! ### the document's Of -/
theorem refleap (y : Int) : contangoref05_Leap.f y = some (leapV y) := leap_val y
theorem days_j0 (y m : Int) : Ev (fun k => contangoref05_Days.j0 k y m true) 31 := by
  refine Ev.step (fun _ => by rw [contangoref05_Days.j0]) ?_
  exact ev_pos rfl (ev_some rfl)
theorem days_j1 (y m : Int) : Ev (fun k => contangoref05_Days.j1 k y m true) 30 := by
  refine Ev.step (fun _ => by rw [contangoref05_Days.j1]) ?_
  exact ev_pos rfl (ev_some rfl)
theorem days_low (y m : Int) (h4 : m ≠ 4) (h6 : m ≠ 6) (h9 : m ≠ 9) (h11 : m ≠ 11) (r : Int) (k : Ev (fun k => contangoref05_Days.j1 k y m false) r) : Ev (fun k => contangoref05_Days.j0 k y m false) r := by
  refine Ev.step (fun _ => by rw [contangoref05_Days.j0]) ?_
  refine ev_neg (by decide) (ev_neg h4 (ev_neg h6 (ev_neg h9 ?_)))
  rw [show (m == 11) = false from beq_eq_false_iff_ne.2 h11]
  exact k
theorem days30 (y m : Int) (h : m = 4 ∨ m = 6 ∨ m = 9 ∨ m = 11) : Ev (fun k => contangoref05_Days.j0 k y m false) 30 := by
  rcases h with rfl | rfl | rfl | rfl
  · refine Ev.step (fun _ => by rw [contangoref05_Days.j0]) ?_
    refine ev_neg (by decide) (ev_pos rfl ?_)
    exact days_j1 y 4
  · refine Ev.step (fun _ => by rw [contangoref05_Days.j0]) ?_
    refine ev_neg (by decide) (ev_neg (by decide) (ev_pos rfl ?_))
    exact days_j1 y 6
  · refine Ev.step (fun _ => by rw [contangoref05_Days.j0]) ?_
    refine ev_neg (by decide) (ev_neg (by decide) (ev_neg (by decide) (ev_pos rfl ?_)))
    exact days_j1 y 9
  · refine Ev.step (fun _ => by rw [contangoref05_Days.j0]) ?_
    refine ev_neg (by decide) (ev_neg (by decide) (ev_neg (by decide) (ev_neg (by decide) ?_)))
    exact days_j1 y 11
theorem refdays (y m : Int) : Ev (fun k => contangoref05_Days.f k y m) (dlen y m) := by
  unfold contangoref05_Days.f
  by_cases hin : 1 ≤ m ∧ m ≤ 12
  · have : m = 1 ∨ m = 2 ∨ m = 3 ∨ m = 4 ∨ m = 5 ∨ m = 6 ∨ m = 7 ∨ m = 8 ∨ m = 9 ∨ m = 10 ∨ m = 11 ∨ m = 12 := by omega
    rcases this with rfl | rfl | rfl | rfl | rfl | rfl | rfl | rfl | rfl | rfl | rfl | rfl
    · exact ev_rw (by simp [dlen, dl, longL]) (ev_pos rfl (days_j0 _ _))
    · refine ev_neg (by decide) (ev_neg (by decide) (ev_neg (by decide) (ev_neg (by decide) (ev_neg (by decide) (ev_neg (by decide) (days_low _ _ (by decide) (by decide) (by decide) (by decide) _ (Ev.step (fun _ => by rw [contangoref05_Days.j1]) (ev_neg (by decide) (ev_pos rfl (ev_val (refleap y) ?_))))))))))
      cases hb : leapV y with
      | true => exact ev_pos rfl (ev_some (by simp [dlen, dl, longL, hb]))
      | false => exact ev_neg (by decide) (ev_some (by simp [dlen, dl, longL, hb]))
    · exact ev_rw (by simp [dlen, dl, longL]) (ev_neg (by decide) (ev_pos rfl (days_j0 _ _)))
    · exact ev_rw (by simp [dlen, dl, longL]) (ev_neg (by decide) (ev_neg (by decide) (ev_neg (by decide) (ev_neg (by decide) (ev_neg (by decide) (ev_neg (by decide) (days30 _ _ (by decide))))))))
    · exact ev_rw (by simp [dlen, dl, longL]) (ev_neg (by decide) (ev_neg (by decide) (ev_pos rfl (days_j0 _ _))))
    · exact ev_rw (by simp [dlen, dl, longL]) (ev_neg (by decide) (ev_neg (by decide) (ev_neg (by decide) (ev_neg (by decide) (ev_neg (by decide) (ev_neg (by decide) (days30 _ _ (by decide))))))))
    · exact ev_rw (by simp [dlen, dl, longL]) (ev_neg (by decide) (ev_neg (by decide) (ev_neg (by decide) (ev_pos rfl (days_j0 _ _)))))
    · exact ev_rw (by simp [dlen, dl, longL]) (ev_neg (by decide) (ev_neg (by decide) (ev_neg (by decide) (ev_neg (by decide) (ev_pos rfl (days_j0 _ _))))))
    · exact ev_rw (by simp [dlen, dl, longL]) (ev_neg (by decide) (ev_neg (by decide) (ev_neg (by decide) (ev_neg (by decide) (ev_neg (by decide) (ev_neg (by decide) (days30 _ _ (by decide))))))))
    · exact ev_rw (by simp [dlen, dl, longL]) (ev_neg (by decide) (ev_neg (by decide) (ev_neg (by decide) (ev_neg (by decide) (ev_neg (by decide) (ev_pos rfl (days_j0 _ _)))))))
    · exact ev_rw (by simp [dlen, dl, longL]) (ev_neg (by decide) (ev_neg (by decide) (ev_neg (by decide) (ev_neg (by decide) (ev_neg (by decide) (ev_neg (by decide) (days30 _ _ (by decide))))))))
    · exact ev_rw (by simp [dlen, dl, longL]) (ev_neg (by decide) (ev_neg (by decide) (ev_neg (by decide) (ev_neg (by decide) (ev_neg (by decide) (ev_neg (by decide) (days_j0 _ _)))))))
  · rw [dlen_out y m (by omega)]
    refine ev_neg (by omega) (ev_neg (by omega) (ev_neg (by omega) (ev_neg (by omega) (ev_neg (by omega) (ev_neg (by omega) ?_)))))
    rw [show (m == 12) = false from beq_eq_false_iff_ne.2 (by omega)]
    exact days_low _ _ (by omega) (by omega) (by omega) (by omega) _ (Ev.step (fun _ => by rw [contangoref05_Days.j1]) (ev_neg (by decide) (ev_neg (by omega) (ev_some rfl))))
theorem ev_down' {ρ : Type} {n : Nat} {g : Nat → Nat → Option ρ} {r : ρ} (he : Ev (fun k => g k n) r) (hs : ∀ i, i < n → Ev (fun k => g k (i + 1)) r → Ev (fun k => g k i) r) : ∀ i, i ≤ n → Ev (fun k => g k i) r := by
  intro i hi
  generalize hd : n - i = d
  induction d generalizing i with
  | zero =>
    obtain rfl : i = n := by omega
    exact he
  | succ d ih => exact hs i (by omega) (ih (i + 1) (by omega) (by omega))
theorem of_years (y c : Int) (h : 2000 ≤ y) (h2 : y ≤ 2199) (hc : 0 ≤ c) (hc2 : c ≤ 1000) : Ev (fun k => contangoref05_Of.l1 k y c 2000) (c + startD y, 0) := by
  have main := ev_down' (n := (y - 2000).toNat) (g := fun k i => contangoref05_Of.l1 k y (c + startD (2000 + (i : Int))) (2000 + (i : Int))) (r := (c + startD y, 0)) ?_ ?_ 0 (by omega)
  · simpa [show startD 2000 = 0 from rfl] using main
  · refine Ev.step (fun _ => by rw [contangoref05_Of.l1]) ?_
    refine ev_neg (by omega) (ev_some ?_)
    rw [show (2000 : Int) + ((y - 2000).toNat : Int) = y by omega]
  · intro i hi ih
    have hst := start_step (2000 + (i : Int)) (by omega) (by omega)
    rw [msum12] at hst
    have hlo := start_mono 2000 (2000 + (i : Int)) (by omega) (by omega) (by omega)
    have hhi := start_mono (2000 + (i : Int)) 2200 (by omega) (by omega) (by omega)
    rw [show startD 2000 = 0 from rfl] at hlo
    rw [show startD 2200 = 73049 from rfl] at hhi
    refine Ev.step (fun _ => by rw [contangoref05_Of.l1]) ?_
    refine ev_pos (by omega) (ev_val (refleap _) ?_)
    rw [show (2000 : Int) + ((i + 1 : Nat) : Int) = 2000 + (i : Int) + 1 by omega, hst] at ih
    cases hb : leapV (2000 + (i : Int)) with
    | true =>
      rw [hb, if_pos rfl] at ih
      refine ev_pos rfl ?_
      rw [w64id' (c + startD (2000 + (i : Int)) + 365) (by omega) (by omega), w64id' _ (by omega) (by omega), w64id' (2000 + (i : Int) + 1) (by omega) (by omega), show c + startD (2000 + (i : Int)) + 365 + 1 = c + (startD (2000 + (i : Int)) + (365 + 1)) by omega]
      exact ih
    | false =>
      rw [hb, if_neg (by decide)] at ih
      refine ev_neg (by decide) ?_
      rw [w64id' (c + startD (2000 + (i : Int)) + 365) (by omega) (by omega), w64id' (2000 + (i : Int) + 1) (by omega) (by omega), show c + startD (2000 + (i : Int)) + 365 = c + (startD (2000 + (i : Int)) + (365 + 0)) by omega]
      exact ih
theorem of_bad' (y m d : Int) : Ev (fun k => contangoref05_Of.j0 k y m d true) (0, 15) := by
  refine Ev.step (fun _ => by rw [contangoref05_Of.j0]) ?_
  exact ev_pos rfl (ev_some rfl)
theorem refof (y m d : Int) : Ev (fun k => contangoref05_Of.f k y m d) (ofV y m d) := by
  unfold contangoref05_Of.f
  by_cases hok : okD y m d
  · rw [of_ok y m d hok]
    obtain ⟨h1, h2, h3, h4, h5, h6⟩ := hok
    have hdl := (dl_range (leapV y) m h3 h4).2
    refine ev_neg (by omega) (ev_neg (by omega) (ev_neg (by omega) (ev_bnd' (refdays y m) ?_)))
    rw [dlen_in y m h3 h4, decide_eq_false (by omega)]
    refine Ev.step (fun _ => by rw [contangoref05_Of.j0]) ?_
    refine ev_neg (by decide) ?_
    rw [w64id' (d - 1) (by omega) (by omega)]
    have main := ev_down' (n := m.toNat - 1) (g := fun k i => contangoref05_Of.l0 k y m (d - 1 + msum (leapV y) i) ((i : Int) + 1)) (r := (valD y m d, 0)) ?_ ?_ 0 (by omega)
    · simpa [msum] using main
    · have hr := msum_range (leapV y) (m.toNat - 1) (by omega)
      refine Ev.step (fun _ => by rw [contangoref05_Of.l0]) ?_
      refine ev_neg (by omega) ?_
      have := of_years y (d - 1 + msum (leapV y) (m.toNat - 1)) h1 h2 (by omega) (by omega)
      refine ev_rw ?_ this
      unfold valD
      exact Prod.ext (by simp only; omega) rfl
    · intro i hi ih
      have hr := msum_range (leapV y) i (by omega)
      have hr2 := dl_range (leapV y) ((i : Int) + 1) (by omega) (by omega)
      refine Ev.step (fun _ => by rw [contangoref05_Of.l0]) ?_
      refine ev_pos (by omega) (ev_bnd' (refdays y _) ?_)
      rw [dlen_in y _ (by omega) (by omega), w64id' _ (by omega) (by omega), w64id' ((i : Int) + 1 + 1) (by omega) (by omega), show d - 1 + msum (leapV y) i + dl (leapV y) ((i : Int) + 1) = d - 1 + msum (leapV y) (i + 1) by simp only [msum]; omega]
      exact ih
  · rw [of_not y m d hok]
    rw [ok_iff, Classical.not_not] at hok
    by_cases c1 : y < 2000
    · exact ev_pos c1 (of_bad' _ _ _)
    refine ev_neg c1 ?_
    by_cases c2 : y > 2199
    · exact ev_pos c2 (of_bad' _ _ _)
    refine ev_neg c2 ?_
    by_cases c3 : d < 1
    · exact ev_pos c3 (of_bad' _ _ _)
    refine ev_neg c3 (ev_bnd' (refdays y m) ?_)
    rw [decide_eq_true (by omega)]
    exact of_bad' _ _ _
/-! ### the document's Split, Weekday -/
theorem ev_downS {ρ : Type} {n : Nat} {g : Nat → Nat → Option ρ} {r : ρ} (he : Ev (fun k => g k n) r) (hs : ∀ i, i < n → Ev (fun k => g k (i + 1)) r → Ev (fun k => g k i) r) : ∀ i, i ≤ n → Ev (fun k => g k i) r := by
  intro i hi
  generalize hd : n - i = d
  induction d generalizing i with
  | zero =>
    obtain rfl : i = n := by omega
    exact he
  | succ d ih => exact hs i (by omega) (ih (i + 1) (by omega) (by omega))
theorem split_months (y m d r : Int) (h : okD y m d) (hr : r = msum (leapV y) (m.toNat - 1) + d - 1) : Ev (fun k => contangoref05_Split.l1 k r y 1) (y, m, d, 0) := by
  obtain ⟨h1, h2, h3, h4, h5, h6⟩ := h
  have hb := (dl_range (leapV y) m h3 h4).2
  have hm0 := msum_range (leapV y) (m.toNat - 1) (by omega)
  have main := ev_downS (n := m.toNat - 1) (g := fun k i => contangoref05_Split.l1 k (r - msum (leapV y) i) y ((i : Int) + 1)) (r := (y, m, d, 0)) ?_ ?_ 0 (by omega)
  · simpa [msum] using main
  · have e : ((m.toNat - 1 : Nat) : Int) + 1 = m := by omega
    rw [e, show r - msum (leapV y) (m.toNat - 1) = d - 1 by omega]
    refine Ev.step (fun _ => by rw [contangoref05_Split.l1]) ?_
    refine ev_bnd' (refdays y m) ?_
    rw [dlen_in y m h3 h4]
    refine ev_neg (by omega) (ev_some ?_)
    rw [w64id' _ (by omega) (by omega), show d - 1 + 1 = d by omega]
  · intro i hi ih
    have e1 : msum (leapV y) (i + 1) = msum (leapV y) i + dl (leapV y) ((i : Int) + 1) := rfl
    have e2 := msum_mono (leapV y) (i + 1) (m.toNat - 1 - (i + 1)) (by omega)
    rw [show i + 1 + (m.toNat - 1 - (i + 1)) = m.toNat - 1 by omega] at e2
    have e3 := msum_range (leapV y) i (by omega)
    have e4 := dl_range (leapV y) ((i : Int) + 1) (by omega) (by omega)
    refine Ev.step (fun _ => by rw [contangoref05_Split.l1]) ?_
    refine ev_bnd' (refdays y _) ?_
    rw [dlen_in y _ (by omega) (by omega)]
    refine ev_pos (by omega) (ev_bnd' (refdays y _) ?_)
    rw [dlen_in y _ (by omega) (by omega), w64id' _ (by omega) (by omega), w64id' _ (by omega) (by omega)]
    rw [e1, show r - (msum (leapV y) i + dl (leapV y) ((i : Int) + 1)) = r - msum (leapV y) i - dl (leapV y) ((i : Int) + 1) by omega] at ih
    exact ih
theorem refsplit05 (day : Int) (h : 0 ≤ day) (h2 : day ≤ 73048) : Ev (fun k => contangoref05_Split.f k day) ((splitV day).1, (splitV day).2.1, (splitV day).2.2, 0) := by
  obtain ⟨k1, k2⟩ := split_ok day h h2
  generalize (splitV day).1 = y at *
  generalize (splitV day).2.1 = m at *
  generalize (splitV day).2.2 = d at *
  have hy := val_year y m d k1
  rw [k2] at hy
  unfold contangoref05_Split.f
  refine ev_neg (by omega) ?_
  rw [decide_eq_false (by omega)]
  refine Ev.step (fun _ => by rw [contangoref05_Split.j0]) ?_
  refine ev_neg (by decide) ?_
  have hb1 := k1.1
  have hb2 := k1.2.1
  have main := ev_downS (n := (y - 2000).toNat) (g := fun k i => contangoref05_Split.l0 k (day - startD (2000 + (i : Int))) (2000 + (i : Int))) (r := (y, m, d, 0)) ?_ ?_ 0 (by omega)
  · simpa [show startD 2000 = 0 from rfl] using main
  · have e : (2000 : Int) + ((y - 2000).toNat : Int) = y := by omega
    rw [e]
    have hst := start_step y hb1 hb2
    rw [msum12] at hst
    have hmon := split_months y m d (day - startD y) k1 (by rw [← k2]; unfold valD; omega)
    have hj2 : Ev (fun k => contangoref05_Split.j2 k (day - startD y) y) (y, m, d, 0) := by
      refine Ev.step (fun _ => by rw [contangoref05_Split.j2]) ?_
      exact hmon
    refine Ev.step (fun _ => by rw [contangoref05_Split.l0]) ?_
    refine ev_val (refleap y) ?_
    cases hb : leapV y with
    | true =>
      rw [hb, if_pos rfl] at hst
      exact ev_pos rfl (ev_pos (by omega) hj2)
    | false =>
      rw [hb, if_neg (by decide)] at hst
      exact ev_neg (by decide) (ev_pos (by omega) hj2)
  · intro i hi ih
    have hst := start_step (2000 + (i : Int)) (by omega) (by omega)
    rw [msum12] at hst
    have hmn := start_mono (2000 + (i : Int) + 1) y (by omega) (by omega) (by omega)
    have hlo := start_mono 2000 (2000 + (i : Int)) (by omega) (by omega) (by omega)
    rw [show startD 2000 = 0 from rfl] at hlo
    rw [show (2000 : Int) + ((i + 1 : Nat) : Int) = 2000 + (i : Int) + 1 by omega] at ih
    refine Ev.step (fun _ => by rw [contangoref05_Split.l0]) ?_
    refine ev_val (refleap _) ?_
    cases hb : leapV (2000 + (i : Int)) with
    | true =>
      rw [hb, if_pos rfl] at hst
      refine ev_pos rfl (ev_neg (by omega) ?_)
      rw [w64id' _ (by omega) (by omega), w64id' _ (by omega) (by omega)]
      rw [hst, show day - (startD (2000 + (i : Int)) + (365 + 1)) = day - startD (2000 + (i : Int)) - 366 by omega] at ih
      exact ih
    | false =>
      rw [hb, if_neg (by decide)] at hst
      refine ev_neg (by decide) (ev_neg (by omega) ?_)
      rw [w64id' _ (by omega) (by omega), w64id' _ (by omega) (by omega)]
      rw [hst, show day - (startD (2000 + (i : Int)) + (365 + 0)) = day - startD (2000 + (i : Int)) - 365 by omega] at ih
      exact ih
theorem split_j0 (day : Int) : Ev (fun k => contangoref05_Split.j0 k day true) (0, 0, 0, 15) := by
  refine Ev.step (fun _ => by rw [contangoref05_Split.j0]) ?_
  exact ev_pos rfl (ev_some rfl)
theorem refsplit_no (day : Int) (h : day < 0 ∨ day > 73048) : Ev (fun k => contangoref05_Split.f k day) (0, 0, 0, 15) := by
  unfold contangoref05_Split.f
  by_cases c : day < 0
  · exact ev_pos c (split_j0 day)
  refine ev_neg c ?_
  rw [decide_eq_true (by omega)]
  exact split_j0 day
def monOk (day n : Int) : Prop := 0 ≤ day ∧ day ≤ 73048 ∧ -2400 ≤ n ∧ n ≤ 2400
def monK (t : Int × Int × Int) (n : Int) : Int := 12 * t.1 + t.2.1 - 1 + n
def monTo (t : Int × Int × Int) (n : Int) : Int × Int := ofV (monK t n / 12) (monK t n % 12 + 1) (min t.2.2 (dlen (monK t n / 12) (monK t n % 12 + 1)))
theorem ofV_year (y m d : Int) (h : y < 2000 ∨ y > 2199) : ofV y m d = (0, 15) := of_not y m d (fun hk => by have := hk.1; have := hk.2.1; omega)
theorem months_ev (day n : Int) (h : 0 ≤ day) (h2 : day ≤ 73048) : Ev (fun k => date_Months.f k day n) (if n < -2400 ∨ n > 2400 then (0, 15) else monTo (splitV day) n) := by
  obtain ⟨k1, k2⟩ := split_ok day h h2
  have hbad : ∀ a b c : Int, Ev (fun k => date_Months.j0 k n a b c true) (0, 15) := fun a b c => by
    refine Ev.step (fun _ => by rw [date_Months.j0]) ?_
    exact ev_pos rfl (ev_some rfl)
  unfold date_Months.f
  refine ev_val (split_val day h h2) (ev_pos rfl ?_)
  unfold monTo monK
  dsimp only
  generalize (splitV day).1 = y at *
  generalize (splitV day).2.1 = m at *
  generalize (splitV day).2.2 = d at *
  obtain ⟨h3, h4, h5, h6, h7, h8⟩ := k1
  by_cases c1 : n < -2400
  · rw [if_pos (show n < -2400 ∨ n > 2400 from .inl c1)]; exact ev_pos c1 (hbad _ _ _)
  refine ev_neg c1 ?_
  by_cases c2 : n > 2400
  · rw [if_pos (show n < -2400 ∨ n > 2400 from .inr c2), decide_eq_true c2]; exact hbad _ _ _
  rw [if_neg (by omega), decide_eq_false c2]
  refine Ev.step (fun _ => by rw [date_Months.j0]) ?_
  refine ev_neg (by decide) ?_
  rw [w64id' (12 * y) (by omega) (by omega), w64id' (12 * y + m) (by omega) (by omega), w64id' (12 * y + m - 1) (by omega) (by omega), w64id' (12 * y + m - 1 + n) (by omega) (by omega), Int.tdiv_eq_ediv_of_nonneg (by omega), Int.tmod_eq_emod_of_nonneg (by omega), w64id' _ (by omega) (by omega), w64id' _ (by omega) (by omega)]
  generalize (12 * y + m - 1 + n) / 12 = y2
  generalize (12 * y + m - 1 + n) % 12 + 1 = m2
  refine ev_val (show date_Days.f y2 m2 = some (dlen y2 m2) from rfl) (ev_val (of_val _ _ _) (ev_some ?_))
  rw [show mn d (dlen y2 m2) = min d (dlen y2 m2) by unfold mn; split <;> omega]
theorem refmonths_ev (day n : Int) (h : 0 ≤ day) (h2 : day ≤ 73048) : Ev (fun k => contangoref05_Months.f k day n) (if n < -2400 ∨ n > 2400 then (0, 15) else monTo (splitV day) n) := by
  obtain ⟨k1, k2⟩ := split_ok day h h2
  have hbad : ∀ a b c : Int, Ev (fun k => contangoref05_Months.j0 k n a b c true) (0, 15) := fun a b c => by
    refine Ev.step (fun _ => by rw [contangoref05_Months.j0]) ?_
    exact ev_pos rfl (ev_some rfl)
  unfold contangoref05_Months.f
  refine ev_bnd' (refsplit05 day h h2) (ev_pos rfl ?_)
  unfold monTo monK
  dsimp only
  generalize (splitV day).1 = y at *
  generalize (splitV day).2.1 = m at *
  generalize (splitV day).2.2 = d at *
  obtain ⟨h3, h4, h5, h6, h7, h8⟩ := k1
  by_cases c1 : n < -3000
  · rw [if_pos (show n < -2400 ∨ n > 2400 by omega)]; exact ev_pos c1 (hbad _ _ _)
  refine ev_neg c1 ?_
  by_cases c2 : n > 3000
  · rw [if_pos (show n < -2400 ∨ n > 2400 by omega), decide_eq_true c2]; exact hbad _ _ _
  rw [decide_eq_false c2]
  have hr : (if n < -2400 ∨ n > 2400 then ((0 : Int), (15 : Int)) else ofV ((12 * y + m - 1 + n) / 12) ((12 * y + m - 1 + n) % 12 + 1) (min d (dlen ((12 * y + m - 1 + n) / 12) ((12 * y + m - 1 + n) % 12 + 1)))) = ofV ((12 * y + m - 1 + n) / 12) ((12 * y + m - 1 + n) % 12 + 1) (min d (dlen ((12 * y + m - 1 + n) / 12) ((12 * y + m - 1 + n) % 12 + 1))) := by
    by_cases c : n < -2400 ∨ n > 2400
    · rw [if_pos c, ofV_year _ _ _ (by omega)]
    · rw [if_neg c]
  refine ev_rw hr.symm ?_
  refine Ev.step (fun _ => by rw [contangoref05_Months.j0]) ?_
  refine ev_neg (by decide) ?_
  rw [w64id' (12 * y) (by omega) (by omega), w64id' (12 * y + m) (by omega) (by omega), w64id' (12 * y + m - 1) (by omega) (by omega), w64id' (12 * y + m - 1 + n) (by omega) (by omega), Int.tdiv_eq_ediv_of_nonneg (by omega), Int.tmod_eq_emod_of_nonneg (by omega), w64id' _ (by omega) (by omega), w64id' _ (by omega) (by omega)]
  generalize (12 * y + m - 1 + n) / 12 = y2
  generalize (12 * y + m - 1 + n) % 12 + 1 = m2
  refine ev_bnd' (refdays y2 m2) ?_
  by_cases c : d > dlen y2 m2
  · refine ev_pos c (ev_bnd' (refdays y2 m2) (ev_bnd' (refof _ _ _) (ev_some ?_)))
    rw [show min d (dlen y2 m2) = dlen y2 m2 by omega]
  · refine ev_neg c (ev_bnd' (refof _ _ _) (ev_some ?_))
    rw [show min d (dlen y2 m2) = d by omega]
theorem months_no (day n : Int) (h : day < 0 ∨ day > 73048) : Ev (fun k => date_Months.f k day n) (0, 15) := by
  unfold date_Months.f
  exact ev_val (split_no day h) (ev_neg (by decide) (ev_some rfl))
theorem refmonths_no (day n : Int) (h : day < 0 ∨ day > 73048) : Ev (fun k => contangoref05_Months.f k day n) (0, 15) := by
  unfold contangoref05_Months.f
  refine ev_bnd' (refsplit_no day h) (ev_neg (by decide) ?_)
  refine Ev.step (fun _ => by rw [contangoref05_Months.j0]) ?_
  exact ev_pos rfl (ev_some rfl)
theorem mon_err (day n : Int) : Ev (fun k => contangolaw05_DateMonths.j0 k day n 0 15 false) true := by
  refine Ev.step (fun _ => by rw [contangolaw05_DateMonths.j0]) ?_
  exact ev_neg (by decide) (ev_neg (by decide) (ev_bnd' goes05 (ev_some rfl)))
theorem DateMonths : contangolaw05_DateMonths.Pure := by
  intro day n _ _
  refine Ev.rounds ?_
  unfold contangolaw05_DateMonths.f
  by_cases hin : day < 0 ∨ day > 73048
  · exact ev_bnd' (months_no day n hin) (ev_bnd' (refmonths_no day n hin) (ev_pos rfl (mon_err _ _)))
  have h1 : 0 ≤ day := by omega
  have h2 : day ≤ 73048 := by omega
  refine ev_bnd' (months_ev day n h1 h2) (ev_bnd' (refmonths_ev day n h1 h2) (ev_pos rfl ?_))
  rw [bne_self_eq_false]
  by_cases hn : n < -2400 ∨ n > 2400
  · rw [if_pos hn]; exact mon_err _ _
  rw [if_neg hn]
  obtain ⟨k1, k2⟩ := split_ok day h1 h2
  have hto : monTo (splitV day) n = ofV ((12 * (splitV day).1 + (splitV day).2.1 - 1 + n) / 12) ((12 * (splitV day).1 + (splitV day).2.1 - 1 + n) % 12 + 1) (min (splitV day).2.2 (dlen ((12 * (splitV day).1 + (splitV day).2.1 - 1 + n) / 12) ((12 * (splitV day).1 + (splitV day).2.1 - 1 + n) % 12 + 1))) := rfl
  rw [hto]
  clear hto
  generalize (splitV day).1 = y at *
  generalize (splitV day).2.1 = m at *
  generalize (splitV day).2.2 = d at *
  have hk1 := k1
  obtain ⟨h3, h4, h5, h6, h7, h8⟩ := k1
  have hyr : (12 * y + m - 1 + n) / 12 * 12 + (12 * y + m - 1 + n) % 12 = 12 * y + m - 1 + n := by omega
  have hm2a : 1 ≤ (12 * y + m - 1 + n) % 12 + 1 := by omega
  have hm2b : (12 * y + m - 1 + n) % 12 + 1 ≤ 12 := by omega
  generalize (12 * y + m - 1 + n) / 12 = y2 at *
  generalize hm2 : (12 * y + m - 1 + n) % 12 + 1 = m2 at *
  by_cases hok : okD y2 m2 (min d (dlen y2 m2))
  · rw [of_ok _ _ _ hok]
    have hr := dl_range (leapV y2) m2 hm2a hm2b
    have hr0 := dl_range (leapV y) m h5 h6
    have hdl := dlen_in y2 m2 hm2a hm2b
    obtain ⟨r1, r2⟩ := val_range _ _ _ hok
    have hsp := split_of _ _ _ hok
    have hback := months_ev (valD y2 m2 (min d (dlen y2 m2))) (-n) r1 r2
    rw [hsp, if_neg (by omega)] at hback
    have hb2 : monTo (y2, m2, min d (dlen y2 m2)) (-n) = (valD y m (min d (dlen y2 m2)), 0) := by
      unfold monTo monK
      dsimp only
      rw [show (12 * y2 + m2 - 1 + -n) / 12 = y by omega, show (12 * y2 + m2 - 1 + -n) % 12 + 1 = m by omega, dlen_in y m h5 h6, show min (min d (dlen y2 m2)) (dl (leapV y) m) = min d (dlen y2 m2) by omega]
      exact of_ok _ _ _ ⟨h3, h4, h5, h6, by omega, by omega⟩
    rw [hb2] at hback
    refine Ev.step (fun _ => by rw [contangolaw05_DateMonths.j0]) ?_
    refine ev_neg (by decide) (ev_pos rfl ?_)
    dsimp only
    rw [w64id' (-n) (by omega) (by omega)]
    have hd : day - valD y m (min d (dlen y2 m2)) = d - min d (dlen y2 m2) := by rw [← k2]; unfold valD; omega
    refine ev_bnd' hback (ev_pos rfl (ev_pos (by dsimp only; omega) (ev_pos ?_ (ev_bnd' goes05 (ev_some rfl)))))
    dsimp only
    rw [hd, w64id' _ (by omega) (by omega)]
    omega
  · rw [of_not _ _ _ hok]
    exact mon_err _ _
end Go.Proofs.YtmhlajgeihjaeaaDoor.Pure
