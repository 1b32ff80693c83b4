/- The pure statement of the law DateParses, proved: plain Lean over numbers and lists, no program in sight. -/
import Derived.Test.YtmhlajgeihjaeaaDoorPDateParsesx4
namespace Go.Proofs.YtmhlajgeihjaeaaDoor.Pure
open Go.RowKit Go.Proofs.YtmhlajgeihjaeaaDoor.PDateParses Go.Proofs.YtmhlajgeihjaeaaDoorW.PrintWords Go.Proofs.YtmhlajgeihjaeaaDoorW.PrintLast Go.Proofs.YtmhlajgeihjaeaaDoorW.PrintMore
set_option linter.unusedVariables false
set_option linter.unusedSimpArgs false
/-! ### from some number of rounds on: steps -/
theorem ev_pos {α : Type} {c : Prop} [Decidable c] {a b : Nat → Option α} {r : α} (h : c) (k : Ev a r) : Ev (fun n => if c then a n else b n) r := Ev.congr (fun _ => if_pos h) k
theorem ev_neg {α : Type} {c : Prop} [Decidable c] {a b : Nat → Option α} {r : α} (h : ¬ c) (k : Ev b r) : Ev (fun n => if c then a n else b n) r := Ev.congr (fun _ => if_neg h) k
theorem ev_val {α β : Type} {g : Option α} {f : Nat → α → Option β} {a : α} {r : β} (h : g = some a) (k : Ev (fun n => f n a) r) : Ev (fun n => g.bind (f n)) r := by
  subst h; exact k
theorem ev_some {α : Type} {x r : α} (h : x = r) : Ev (fun _ => some x) r := h ▸ Ev.now x
theorem ev_rw {α : Type} {g : Nat → Option α} {r s : α} (h : r = s) (k : Ev g r) : Ev g s := h ▸ k
theorem wsucc (i : Nat) (h : i ≤ 4611686018427387904) : wrap64 ((i : Int) + 1) = ((i + 1 : Nat) : Int) := by
  unfold wrap64; omega
theorem rd_nat (l : List Int) (i : Nat) : rd l (i : Int) = l.getD i 0 := rfl
/-! ### dates: what the functions tell -/
theorem w64id' (x : Int) (h0 : -9223372036854775808 ≤ x) (h1 : x ≤ 9223372036854775807) : wrap64 x = x := by unfold wrap64; omega
theorem ev_bnd' {α β : Type} {g : Nat → Option α} {f : Nat → α → Option β} {a : α} {r : β} (h : Ev g a) (k : Ev (fun n => f n a) r) : Ev (fun n => (g n).bind (f n)) r := h.bind k
def ofV (y m d : Int) : Int × Int := if y < 2000 ∨ y > 2199 ∨ d < 1 ∨ d > dlen y m then (0, 15) else (startD y + d - 1 + msum (leapV y) (m.toNat - 1), 0)
theorem of_val (y m d : Int) : date_Of.f y m d = some (ofV y m d) := rfl
def wdV (day : Int) : Int := if 0 ≤ day ∧ day ≤ 73048 then (day + 5) % 7 + 1 else 0
theorem here_val (day : Int) : date_here.f day = some (decide (0 ≤ day ∧ day ≤ 73048)) := by
  unfold date_here.f
  by_cases h : day ≥ 0
  · rw [if_pos h]
    by_cases h2 : day ≤ 73048
    · rw [decide_eq_true h2, decide_eq_true (show 0 ≤ day ∧ day ≤ 73048 from ⟨h, h2⟩)]
    · rw [decide_eq_false h2, decide_eq_false (show ¬ (0 ≤ day ∧ day ≤ 73048) from fun x => h2 x.2)]
  · rw [if_neg h, decide_eq_false (show ¬ (0 ≤ day ∧ day ≤ 73048) from fun x => h x.1)]
theorem wd_val (day : Int) : date_Weekday.f day = some (wdV day) := by
  unfold date_Weekday.f wdV
  rw [here_val, Option.bind_some]
  by_cases h : 0 ≤ day ∧ day ≤ 73048
  · rw [decide_eq_true h, if_pos rfl, if_pos h, w64id' (day + 5) (by omega) (by omega), Int.tmod_eq_emod_of_nonneg (by omega), w64id' _ (by omega) (by omega)]
  · rw [decide_eq_false h, if_neg (by decide), if_neg h]
def nthD (y m wd n : Int) : Int := 1 + (wd - wdV (ofV y m 1).1 + 7) % 7 + 7 * (n - 1)
def nthV (y m wd n : Int) : Int × Int := if wd < 1 ∨ wd > 7 ∨ n < 1 ∨ n > 5 then (0, 2) else if (ofV y m 1).2 = 0 then ofV y m (nthD y m wd n) else (0, (ofV y m 1).2)
theorem wdV_range (day : Int) : 0 ≤ wdV day ∧ wdV day ≤ 7 := by
  unfold wdV; split <;> omega
theorem nth_bad (y m wd n : Int) : Ev (fun k => date_Nth.j0 k y m wd n true) (0, 2) := by
  refine Ev.step (fun _ => by rw [date_Nth.j0]) ?_
  exact ev_pos rfl (ev_some rfl)
theorem nth_ev (y m wd n : Int) : Ev (fun k => date_Nth.f k y m wd n) (nthV y m wd n) := by
  unfold date_Nth.f nthV
  by_cases c1 : wd < 1
  · rw [if_pos (show wd < 1 ∨ wd > 7 ∨ n < 1 ∨ n > 5 from .inl c1)]; exact ev_pos c1 (nth_bad _ _ _ _)
  refine ev_neg c1 ?_
  by_cases c2 : wd > 7
  · rw [if_pos (show wd < 1 ∨ wd > 7 ∨ n < 1 ∨ n > 5 from .inr (.inl c2))]; exact ev_pos c2 (nth_bad _ _ _ _)
  refine ev_neg c2 ?_
  by_cases c3 : n < 1
  · rw [if_pos (show wd < 1 ∨ wd > 7 ∨ n < 1 ∨ n > 5 from .inr (.inr (.inl c3)))]; exact ev_pos c3 (nth_bad _ _ _ _)
  refine ev_neg c3 ?_
  by_cases c4 : n > 5
  · rw [if_pos (show wd < 1 ∨ wd > 7 ∨ n < 1 ∨ n > 5 from .inr (.inr (.inr c4))), decide_eq_true c4]; exact nth_bad _ _ _ _
  rw [if_neg (by omega), decide_eq_false c4]
  refine Ev.step (fun _ => by rw [date_Nth.j0]) ?_
  refine ev_neg (by decide) (ev_val (of_val _ _ _) ?_)
  by_cases h0 : (ofV y m 1).2 = 0
  · refine ev_rw (if_pos h0).symm ?_
    refine ev_pos h0 (ev_val (wd_val _) (ev_val (of_val _ _ _) (ev_some ?_)))
    have hr := wdV_range (ofV y m 1).1
    unfold nthD
    generalize wdV (ofV y m 1).1 = q at *
    rw [w64id' (wd - q) (by omega) (by omega), w64id' (wd - q + 7) (by omega) (by omega), Int.tmod_eq_emod_of_nonneg (by omega), w64id' (n - 1) (by omega) (by omega), w64id' (7 * (n - 1)) (by omega) (by omega), w64id' (1 + _) (by omega) (by omega), w64id' (1 + _ + _) (by omega) (by omega)]
  · refine ev_rw (if_neg h0).symm ?_
    exact ev_neg h0 (ev_some rfl)
theorem goes05 : Ev (fun k => contangolaw05_goes.f k) true := by
  unfold contangolaw05_goes.f
  refine ev_val (show date_Of.f 2000 2 29 = some (59, 0) by decide +kernel) (ev_val (show date_Parse.f (⟨#[50, 48, 50, 52, 45, 48, 51, 45, 49, 53]⟩ : ByteArray) = some (8840, 0) by decide +kernel) (ev_bnd' (ev_rw (show nthV 2024 3 5 3 = (8840, 0) by decide +kernel) (nth_ev 2024 3 5 3)) (ev_val (show date_Parse.f (⟨#[50, 49, 48, 48, 45, 48, 50, 45, 50, 57]⟩ : ByteArray) = some (0, 15) by decide +kernel) ?_)))
  refine ev_pos rfl (ev_pos rfl (ev_pos rfl (ev_pos rfl (ev_pos rfl (ev_pos rfl (ev_val (show date_Weekday.f 0 = some 6 by decide +kernel) (ev_pos rfl (ev_val (show date_Print.f 73048 = some (toB [50, 49, 57, 57, 45, 49, 50, 45, 51, 49]) by decide +kernel) (ev_some ?_)))))))))
  rw [ByteArray.toList_eq]
  decide +kernel
/-! ### dates: every valid date has its own day -/
def okD (y m d : Int) : Prop := 2000 ≤ y ∧ y ≤ 2199 ∧ 1 ≤ m ∧ m ≤ 12 ∧ 1 ≤ d ∧ d ≤ dl (leapV y) m
def valD (y m d : Int) : Int := startD y + d - 1 + msum (leapV y) (m.toNat - 1)
theorem dlen_in (y m : Int) (h : 1 ≤ m) (h2 : m ≤ 12) : dlen y m = dl (leapV y) m := by unfold dlen; rw [if_neg (by omega)]
theorem dlen_out (y m : Int) (h : m < 1 ∨ m > 12) : dlen y m = 0 := by unfold dlen; rw [if_pos h]
theorem of_ok (y m d : Int) (h : okD y m d) : ofV y m d = (valD y m d, 0) := by
  obtain ⟨h1, h2, h3, h4, h5, h6⟩ := h
  unfold ofV valD
  rw [dlen_in y m h3 h4, if_neg (by omega)]
theorem ok_iff (y m d : Int) : okD y m d ↔ ¬ (y < 2000 ∨ y > 2199 ∨ d < 1 ∨ d > dlen y m) := by
  unfold okD
  by_cases hm : m < 1 ∨ m > 12
  · rw [dlen_out y m hm]; omega
  · rw [dlen_in y m (by omega) (by omega)]; omega
theorem of_not (y m d : Int) (h : ¬ okD y m d) : ofV y m d = (0, 15) := by
  rw [ok_iff, Classical.not_not] at h
  unfold ofV
  rw [if_pos h]
theorem msum_mono (b : Bool) (i n : Nat) (h : i + n ≤ 12) : msum b i ≤ msum b (i + n) := by
  induction n with
  | zero => exact Int.le_refl _
  | succ n ih =>
    have h1 := ih (by omega)
    have h2 := dl_range b (((i + n : Nat) : Int) + 1) (by omega) (by omega)
    rw [show i + (n + 1) = (i + n) + 1 by omega]
    simp only [msum]
    omega
theorem msum_at (b : Bool) (m : Int) (h : 1 ≤ m) : msum b m.toNat = msum b (m.toNat - 1) + dl b m := by
  obtain ⟨j, rfl⟩ : ∃ j : Nat, m = (j : Int) + 1 := ⟨m.toNat - 1, by omega⟩
  rw [show ((j : Int) + 1).toNat = j + 1 by omega]
  rfl
theorem val_year (y m d : Int) (h : okD y m d) : startD y ≤ valD y m d ∧ valD y m d < startD (y + 1) := by
  obtain ⟨h1, h2, h3, h4, h5, h6⟩ := h
  rw [start_step y h1 h2]
  unfold valD
  have e1 := msum_at (leapV y) m h3
  have e2 := msum_mono (leapV y) m.toNat (12 - m.toNat) (by omega)
  rw [show m.toNat + (12 - m.toNat) = 12 by omega] at e2
  have e3 := (msum_range (leapV y) (m.toNat - 1) (by omega)).1
  omega
theorem val_range (y m d : Int) (h : okD y m d) : 0 ≤ valD y m d ∧ valD y m d ≤ 73048 := by
  obtain ⟨h1, h2⟩ := val_year y m d h
  have h3 := start_mono 2000 y (by omega) h.1 (by have := h.2.1; omega)
  have h4 := start_mono (y + 1) 2200 (by have := h.1; omega) (by have := h.2.1; omega) (by omega)
  rw [show startD 2000 = 0 from rfl] at h3
  rw [show startD 2200 = 73049 from rfl] at h4
  omega
theorem year_one (y z v : Int) (hy : 2000 ≤ y) (hy2 : y ≤ 2199) (hz : 2000 ≤ z) (hz2 : z ≤ 2199) (h1 : startD y ≤ v) (h2 : v < startD (y + 1)) (h3 : startD z ≤ v) (h4 : v < startD (z + 1)) : y = z := by
  apply Classical.byContradiction
  intro hne
  rcases Int.lt_or_lt_of_ne hne with h | h
  · have := start_mono (y + 1) z (by omega) (by omega) (by omega); omega
  · have := start_mono (z + 1) y (by omega) (by omega) (by omega); omega
theorem month_one (b : Bool) (m d n e : Int) (hm : 1 ≤ m) (hm2 : m ≤ 12) (hd : 1 ≤ d) (hd2 : d ≤ dl b m) (hn : 1 ≤ n) (hn2 : n ≤ 12) (he : 1 ≤ e) (he2 : e ≤ dl b n) (h : d + msum b (m.toNat - 1) = e + msum b (n.toNat - 1)) : m = n ∧ d = e := by
  have e1 := msum_at b m hm
  have e2 := msum_at b n hn
  have hmn : m = n := by
    apply Classical.byContradiction
    intro hne
    rcases Int.lt_or_lt_of_ne hne with hl | hl
    · have := msum_mono b m.toNat (n.toNat - 1 - m.toNat) (by omega)
      rw [show m.toNat + (n.toNat - 1 - m.toNat) = n.toNat - 1 by omega] at this
      omega
    · have := msum_mono b n.toNat (m.toNat - 1 - n.toNat) (by omega)
      rw [show n.toNat + (m.toNat - 1 - n.toNat) = m.toNat - 1 by omega] at this
      omega
  subst hmn
  exact ⟨rfl, by omega⟩
theorem val_inj (y m d z n e : Int) (h : okD y m d) (k : okD z n e) (hv : valD y m d = valD z n e) : y = z ∧ m = n ∧ d = e := by
  have h1 := val_year y m d h
  have h2 := val_year z n e k
  obtain rfl := year_one y z (valD y m d) h.1 h.2.1 k.1 k.2.1 h1.1 h1.2 (by omega) (by omega)
  obtain ⟨_, _, h3, h4, h5, h6⟩ := h
  obtain ⟨_, _, k3, k4, k5, k6⟩ := k
  unfold valD at hv
  obtain ⟨rfl, rfl⟩ := month_one (leapV y) m d n e h3 h4 h5 h6 k3 k4 k5 k6 (by omega)
  exact ⟨rfl, rfl, rfl⟩
theorem split_ok (day : Int) (h : 0 ≤ day) (h2 : day ≤ 73048) : okD (splitV day).1 (splitV day).2.1 (splitV day).2.2 ∧ valD (splitV day).1 (splitV day).2.1 (splitV day).2.2 = day := by
  obtain ⟨s1, s2, s3, s4, s5, s6, s7, s8⟩ := splitV_spec day h h2
  exact ⟨⟨s1, s2, s3, s4, s5, s7⟩, s8⟩
theorem split_of (y m d : Int) (h : okD y m d) : splitV (valD y m d) = (y, m, d) := by
  obtain ⟨r1, r2⟩ := val_range y m d h
  obtain ⟨k1, k2⟩ := split_ok (valD y m d) r1 r2
  obtain ⟨e1, e2, e3⟩ := val_inj _ _ _ _ _ _ k1 h k2
  exact Prod.ext e1 (Prod.ext e2 e3)
theorem of_split (day : Int) (h : 0 ≤ day) (h2 : day ≤ 73048) : ofV (splitV day).1 (splitV day).2.1 (splitV day).2.2 = (day, 0) := by
  obtain ⟨k1, k2⟩ := split_ok day h h2
  rw [of_ok _ _ _ k1, k2]
theorem split_val (day : Int) (h : 0 ≤ day) (h2 : day ≤ 73048) : date_Split.f day = some ((splitV day).1, (splitV day).2.1, (splitV day).2.2, 0) := by
  unfold date_Split.f; rw [if_neg (by omega)]
theorem split_no (day : Int) (h : day < 0 ∨ day > 73048) : date_Split.f day = some (0, 0, 0, 15) := by
  unfold date_Split.f; rw [if_pos h]
/-! ### the document's Of -/
theorem refleap (y : Int) : contangoref05_Leap.f y = some (leapV y) := leap_val y
theorem days_j0 (y m : Int) : Ev (fun k => contangoref05_Days.j0 k y m true) 31 := by
  refine Ev.step (fun _ => by rw [contangoref05_Days.j0]) ?_
  exact ev_pos rfl (ev_some rfl)
theorem days_j1 (y m : Int) : Ev (fun k => contangoref05_Days.j1 k y m true) 30 := by
  refine Ev.step (fun _ => by rw [contangoref05_Days.j1]) ?_
  exact ev_pos rfl (ev_some rfl)
theorem days_low (y m : Int) (h4 : m ≠ 4) (h6 : m ≠ 6) (h9 : m ≠ 9) (h11 : m ≠ 11) (r : Int) (k : Ev (fun k => contangoref05_Days.j1 k y m false) r) : Ev (fun k => contangoref05_Days.j0 k y m false) r := by
  refine Ev.step (fun _ => by rw [contangoref05_Days.j0]) ?_
  refine ev_neg (by decide) (ev_neg h4 (ev_neg h6 (ev_neg h9 ?_)))
  rw [show (m == 11) = false from beq_eq_false_iff_ne.2 h11]
  exact k
theorem days30 (y m : Int) (h : m = 4 ∨ m = 6 ∨ m = 9 ∨ m = 11) : Ev (fun k => contangoref05_Days.j0 k y m false) 30 := by
  rcases h with rfl | rfl | rfl | rfl
  · refine Ev.step (fun _ => by rw [contangoref05_Days.j0]) ?_
    refine ev_neg (by decide) (ev_pos rfl ?_)
    exact days_j1 y 4
  · refine Ev.step (fun _ => by rw [contangoref05_Days.j0]) ?_
    refine ev_neg (by decide) (ev_neg (by decide) (ev_pos rfl ?_))
    exact days_j1 y 6
  · refine Ev.step (fun _ => by rw [contangoref05_Days.j0]) ?_
    refine ev_neg (by decide) (ev_neg (by decide) (ev_neg (by decide) (ev_pos rfl ?_)))
    exact days_j1 y 9
  · refine Ev.step (fun _ => by rw [contangoref05_Days.j0]) ?_
    refine ev_neg (by decide) (ev_neg (by decide) (ev_neg (by decide) (ev_neg (by decide) ?_)))
    exact days_j1 y 11
theorem refdays (y m : Int) : Ev (fun k => contangoref05_Days.f k y m) (dlen y m) := by
  unfold contangoref05_Days.f
  by_cases hin : 1 ≤ m ∧ m ≤ 12
  · have : m = 1 ∨ m = 2 ∨ m = 3 ∨ m = 4 ∨ m = 5 ∨ m = 6 ∨ m = 7 ∨ m = 8 ∨ m = 9 ∨ m = 10 ∨ m = 11 ∨ m = 12 := by omega
    rcases this with rfl | rfl | rfl | rfl | rfl | rfl | rfl | rfl | rfl | rfl | rfl | rfl
    · exact ev_rw (by simp [dlen, dl, longL]) (ev_pos rfl (days_j0 _ _))
    · refine ev_neg (by decide) (ev_neg (by decide) (ev_neg (by decide) (ev_neg (by decide) (ev_neg (by decide) (ev_neg (by decide) (days_low _ _ (by decide) (by decide) (by decide) (by decide) _ (Ev.step (fun _ => by rw [contangoref05_Days.j1]) (ev_neg (by decide) (ev_pos rfl (ev_val (refleap y) ?_))))))))))
      cases hb : leapV y with
      | true => exact ev_pos rfl (ev_some (by simp [dlen, dl, longL, hb]))
      | false => exact ev_neg (by decide) (ev_some (by simp [dlen, dl, longL, hb]))
    · exact ev_rw (by simp [dlen, dl, longL]) (ev_neg (by decide) (ev_pos rfl (days_j0 _ _)))
    · exact ev_rw (by simp [dlen, dl, longL]) (ev_neg (by decide) (ev_neg (by decide) (ev_neg (by decide) (ev_neg (by decide) (ev_neg (by decide) (ev_neg (by decide) (days30 _ _ (by decide))))))))
    · exact ev_rw (by simp [dlen, dl, longL]) (ev_neg (by decide) (ev_neg (by decide) (ev_pos rfl (days_j0 _ _))))
    · exact ev_rw (by simp [dlen, dl, longL]) (ev_neg (by decide) (ev_neg (by decide) (ev_neg (by decide) (ev_neg (by decide) (ev_neg (by decide) (ev_neg (by decide) (days30 _ _ (by decide))))))))
    · exact ev_rw (by simp [dlen, dl, longL]) (ev_neg (by decide) (ev_neg (by decide) (ev_neg (by decide) (ev_pos rfl (days_j0 _ _)))))
    · exact ev_rw (by simp [dlen, dl, longL]) (ev_neg (by decide) (ev_neg (by decide) (ev_neg (by decide) (ev_neg (by decide) (ev_pos rfl (days_j0 _ _))))))
    · exact ev_rw (by simp [dlen, dl, longL]) (ev_neg (by decide) (ev_neg (by decide) (ev_neg (by decide) (ev_neg (by decide) (ev_neg (by decide) (ev_neg (by decide) (days30 _ _ (by decide))))))))
    · exact ev_rw (by simp [dlen, dl, longL]) (ev_neg (by decide) (ev_neg (by decide) (ev_neg (by decide) (ev_neg (by decide) (ev_neg (by decide) (ev_pos rfl (days_j0 _ _)))))))
    · exact ev_rw (by simp [dlen, dl, longL]) (ev_neg (by decide) (ev_neg (by decide) (ev_neg (by decide) (ev_neg (by decide) (ev_neg (by decide) (ev_neg (by decide) (days30 _ _ (by decide))))))))
    · exact ev_rw (by simp [dlen, dl, longL]) (ev_neg (by decide) (ev_neg (by decide) (ev_neg (by decide) (ev_neg (by decide) (ev_neg (by decide) (ev_neg (by decide) (days_j0 _ _)))))))
  · rw [dlen_out y m (by omega)]
    refine ev_neg (by omega) (ev_neg (by omega) (ev_neg (by omega) (ev_neg (by omega) (ev_neg (by omega) (ev_neg (by omega) ?_)))))
    rw [show (m == 12) = false from beq_eq_false_iff_ne.2 (by omega)]
    exact days_low _ _ (by omega) (by omega) (by omega) (by omega) _ (Ev.step (fun _ => by rw [contangoref05_Days.j1]) (ev_neg (by decide) (ev_neg (by omega) (ev_some rfl))))
theorem ev_down' {ρ : Type} {n : Nat} {g : Nat → Nat → Option ρ} {r : ρ} (he : Ev (fun k => g k n) r) (hs : ∀ i, i < n → Ev (fun k => g k (i + 1)) r → Ev (fun k => g k i) r) : ∀ i, i ≤ n → Ev (fun k => g k i) r := by
  intro i hi
  generalize hd : n - i = d
  induction d generalizing i with
  | zero =>
    obtain rfl : i = n := by omega
    exact he
  | succ d ih => exact hs i (by omega) (ih (i + 1) (by omega) (by omega))
theorem of_years (y c : Int) (h : 2000 ≤ y) (h2 : y ≤ 2199) (hc : 0 ≤ c) (hc2 : c ≤ 1000) : Ev (fun k => contangoref05_Of.l1 k y c 2000) (c + startD y, 0) := by
  have main := ev_down' (n := (y - 2000).toNat) (g := fun k i => contangoref05_Of.l1 k y (c + startD (2000 + (i : Int))) (2000 + (i : Int))) (r := (c + startD y, 0)) ?_ ?_ 0 (by omega)
  · simpa [show startD 2000 = 0 from rfl] using main
  · refine Ev.step (fun _ => by rw [contangoref05_Of.l1]) ?_
    refine ev_neg (by omega) (ev_some ?_)
    rw [show (2000 : Int) + ((y - 2000).toNat : Int) = y by omega]
  · intro i hi ih
    have hst := start_step (2000 + (i : Int)) (by omega) (by omega)
    rw [msum12] at hst
    have hlo := start_mono 2000 (2000 + (i : Int)) (by omega) (by omega) (by omega)
    have hhi := start_mono (2000 + (i : Int)) 2200 (by omega) (by omega) (by omega)
    rw [show startD 2000 = 0 from rfl] at hlo
    rw [show startD 2200 = 73049 from rfl] at hhi
    refine Ev.step (fun _ => by rw [contangoref05_Of.l1]) ?_
    refine ev_pos (by omega) (ev_val (refleap _) ?_)
    rw [show (2000 : Int) + ((i + 1 : Nat) : Int) = 2000 + (i : Int) + 1 by omega, hst] at ih
    cases hb : leapV (2000 + (i : Int)) with
    | true =>
      rw [hb, if_pos rfl] at ih
      refine ev_pos rfl ?_
      rw [w64id' (c + startD (2000 + (i : Int)) + 365) (by omega) (by omega), w64id' _ (by omega) (by omega), w64id' (2000 + (i : Int) + 1) (by omega) (by omega), show c + startD (2000 + (i : Int)) + 365 + 1 = c + (startD (2000 + (i : Int)) + (365 + 1)) by omega]
      exact ih
    | false =>
      rw [hb, if_neg (by decide)] at ih
      refine ev_neg (by decide) ?_
      rw [w64id' (c + startD (2000 + (i : Int)) + 365) (by omega) (by omega), w64id' (2000 + (i : Int) + 1) (by omega) (by omega), show c + startD (2000 + (i : Int)) + 365 = c + (startD (2000 + (i : Int)) + (365 + 0)) by omega]
      exact ih
theorem of_bad' (y m d : Int) : Ev (fun k => contangoref05_Of.j0 k y m d true) (0, 15) := by
  refine Ev.step (fun _ => by rw [contangoref05_Of.j0]) ?_
  exact ev_pos rfl (ev_some rfl)
theorem refof (y m d : Int) : Ev (fun k => contangoref05_Of.f k y m d) (ofV y m d) := by
  unfold contangoref05_Of.f
  by_cases hok : okD y m d
  · rw [of_ok y m d hok]
    obtain ⟨h1, h2, h3, h4, h5, h6⟩ := hok
    have hdl := (dl_range (leapV y) m h3 h4).2
    refine ev_neg (by omega) (ev_neg (by omega) (ev_neg (by omega) (ev_bnd' (refdays y m) ?_)))
    rw [dlen_in y m h3 h4, decide_eq_false (by omega)]
    refine Ev.step (fun _ => by rw [contangoref05_Of.j0]) ?_
    refine ev_neg (by decide) ?_
    rw [w64id' (d - 1) (by omega) (by omega)]
    have main := ev_down' (n := m.toNat - 1) (g := fun k i => contangoref05_Of.l0 k y m (d - 1 + msum (leapV y) i) ((i : Int) + 1)) (r := (valD y m d, 0)) ?_ ?_ 0 (by omega)
    · simpa [msum] using main
    · have hr := msum_range (leapV y) (m.toNat - 1) (by omega)
      refine Ev.step (fun _ => by rw [contangoref05_Of.l0]) ?_
      refine ev_neg (by omega) ?_
      have := of_years y (d - 1 + msum (leapV y) (m.toNat - 1)) h1 h2 (by omega) (by omega)
      refine ev_rw ?_ this
      unfold valD
      exact Prod.ext (by simp only; omega) rfl
    · intro i hi ih
      have hr := msum_range (leapV y) i (by omega)
      have hr2 := dl_range (leapV y) ((i : Int) + 1) (by omega) (by omega)
      refine Ev.step (fun _ => by rw [contangoref05_Of.l0]) ?_
      refine ev_pos (by omega) (ev_bnd' (refdays y _) ?_)
      rw [dlen_in y _ (by omega) (by omega), w64id' _ (by omega) (by omega), w64id' ((i : Int) + 1 + 1) (by omega) (by omega), show d - 1 + msum (leapV y) i + dl (leapV y) ((i : Int) + 1) = d - 1 + msum (leapV y) (i + 1) by simp only [msum]; omega]
      exact ih
  · rw [of_not y m d hok]
    rw [ok_iff, Classical.not_not] at hok
    by_cases c1 : y < 2000
    · exact ev_pos c1 (of_bad' _ _ _)
    refine ev_neg c1 ?_
    by_cases c2 : y > 2199
    · exact ev_pos c2 (of_bad' _ _ _)
    refine ev_neg c2 ?_
    by_cases c3 : d < 1
    · exact ev_pos c3 (of_bad' _ _ _)
    refine ev_neg c3 (ev_bnd' (refdays y m) ?_)
    rw [decide_eq_true (by omega)]
    exact of_bad' _ _ _
/-! ### Parse, in closed form -/
def dg (x : Int) : Prop := 48 ≤ x ∧ x ≤ 57
instance (x : Int) : Decidable (dg x) := by unfold dg; infer_instance
def okP (s : ByteArray) : Prop := dg (bt s 0) ∧ dg (bt s 1) ∧ dg (bt s 2) ∧ dg (bt s 3) ∧ bt s 4 = 45 ∧ dg (bt s 5) ∧ dg (bt s 6) ∧ bt s 7 = 45 ∧ dg (bt s 8) ∧ dg (bt s 9)
instance (s : ByteArray) : Decidable (okP s) := by unfold okP; infer_instance
def yP (s : ByteArray) : Int := 10 * (10 * (10 * (10 * 0 + (bt s 0 - 48)) + (bt s 1 - 48)) + (bt s 2 - 48)) + (bt s 3 - 48)
def mP (s : ByteArray) : Int := 10 * (10 * 0 + (bt s 5 - 48)) + (bt s 6 - 48)
def dP (s : ByteArray) : Int := 10 * (10 * 0 + (bt s 8 - 48)) + (bt s 9 - 48)
theorem pg_a (f : Nat) (s : ByteArray) (i : Nat) (a b c : Int) (hc : i < 4) : parseGo (f + 1) s i a b c = if dg (bt s (i : Int)) then parseGo f s (i + 1) (10 * a + (bt s (i : Int) - 48)) b c else none := by
  rw [parseGo, if_neg (show ¬ (i = 4 ∨ i = 7) by omega)]
  by_cases hd : bt s (i : Int) < 48 ∨ bt s (i : Int) > 57
  · rw [if_pos hd, if_neg (show ¬ dg (bt s (i : Int)) by unfold dg; omega)]
  · rw [if_neg hd, if_pos (show dg (bt s (i : Int)) by unfold dg; omega), if_pos hc]
theorem pg_b (f : Nat) (s : ByteArray) (i : Nat) (a b c : Int) (hc : 4 < i ∧ i < 7) : parseGo (f + 1) s i a b c = if dg (bt s (i : Int)) then parseGo f s (i + 1) a (10 * b + (bt s (i : Int) - 48)) c else none := by
  rw [parseGo, if_neg (show ¬ (i = 4 ∨ i = 7) by omega)]
  by_cases hd : bt s (i : Int) < 48 ∨ bt s (i : Int) > 57
  · rw [if_pos hd, if_neg (show ¬ dg (bt s (i : Int)) by unfold dg; omega)]
  · rw [if_neg hd, if_pos (show dg (bt s (i : Int)) by unfold dg; omega), if_neg (by omega), if_pos hc.2]
theorem pg_c (f : Nat) (s : ByteArray) (i : Nat) (a b c : Int) (hc : 7 < i) : parseGo (f + 1) s i a b c = if dg (bt s (i : Int)) then parseGo f s (i + 1) a b (10 * c + (bt s (i : Int) - 48)) else none := by
  rw [parseGo, if_neg (show ¬ (i = 4 ∨ i = 7) by omega)]
  by_cases hd : bt s (i : Int) < 48 ∨ bt s (i : Int) > 57
  · rw [if_pos hd, if_neg (show ¬ dg (bt s (i : Int)) by unfold dg; omega)]
  · rw [if_neg hd, if_pos (show dg (bt s (i : Int)) by unfold dg; omega), if_neg (by omega), if_neg (by omega)]
theorem pg_dash (f : Nat) (s : ByteArray) (i : Nat) (a b c : Int) (h : i = 4 ∨ i = 7) : parseGo (f + 1) s i a b c = if bt s (i : Int) = 45 then parseGo f s (i + 1) a b c else none := by
  rw [parseGo, if_pos h]
theorem parse_ten (s : ByteArray) : parseGo 10 s 0 0 0 0 = (if dg (bt s 0) then if dg (bt s 1) then if dg (bt s 2) then if dg (bt s 3) then if bt s 4 = 45 then if dg (bt s 5) then if dg (bt s 6) then if bt s 7 = 45 then if dg (bt s 8) then if dg (bt s 9) then some (yP s, mP s, dP s) else none else none else none else none else none else none else none else none else none else none) := by
  rw [pg_a 9 s 0 _ _ _ (by decide), pg_a 8 s (0 + 1) _ _ _ (by decide), pg_a 7 s (0 + 1 + 1) _ _ _ (by decide), pg_a 6 s (0 + 1 + 1 + 1) _ _ _ (by decide), pg_dash 5 s (0 + 1 + 1 + 1 + 1) _ _ _ (by decide), pg_b 4 s (0 + 1 + 1 + 1 + 1 + 1) _ _ _ (by decide), pg_b 3 s (0 + 1 + 1 + 1 + 1 + 1 + 1) _ _ _ (by decide), pg_dash 2 s (0 + 1 + 1 + 1 + 1 + 1 + 1 + 1) _ _ _ (by decide), pg_c 1 s (0 + 1 + 1 + 1 + 1 + 1 + 1 + 1 + 1) _ _ _ (by decide), pg_c 0 s (0 + 1 + 1 + 1 + 1 + 1 + 1 + 1 + 1 + 1) _ _ _ (by decide)]
  rfl
theorem parse_yes (s : ByteArray) (h : okP s) : parseGo 10 s 0 0 0 0 = some (yP s, mP s, dP s) := by
  obtain ⟨h0, h1, h2, h3, h4, h5, h6, h7, h8, h9⟩ := h
  rw [parse_ten, if_pos h0, if_pos h1, if_pos h2, if_pos h3, if_pos h4, if_pos h5, if_pos h6, if_pos h7, if_pos h8, if_pos h9]
theorem parse_none (s : ByteArray) (h : ¬ okP s) : parseGo 10 s 0 0 0 0 = none := by
  rw [parse_ten]
  by_cases h0 : dg (bt s 0)
  · rw [if_pos h0]
    by_cases h1 : dg (bt s 1)
    · rw [if_pos h1]
      by_cases h2 : dg (bt s 2)
      · rw [if_pos h2]
        by_cases h3 : dg (bt s 3)
        · rw [if_pos h3]
          by_cases h4 : bt s 4 = 45
          · rw [if_pos h4]
            by_cases h5 : dg (bt s 5)
            · rw [if_pos h5]
              by_cases h6 : dg (bt s 6)
              · rw [if_pos h6]
                by_cases h7 : bt s 7 = 45
                · rw [if_pos h7]
                  by_cases h8 : dg (bt s 8)
                  · rw [if_pos h8]
                    by_cases h9 : dg (bt s 9)
                    · exact absurd ⟨h0, h1, h2, h3, h4, h5, h6, h7, h8, h9⟩ h
                    · rw [if_neg h9]
                  · rw [if_neg h8]
                · rw [if_neg h7]
              · rw [if_neg h6]
            · rw [if_neg h5]
          · rw [if_neg h4]
        · rw [if_neg h3]
      · rw [if_neg h2]
    · rw [if_neg h1]
  · rw [if_neg h0]
theorem parse_val (s : ByteArray) (h : s.size = 10) (hp : okP s) : date_Parse.f s = some (ofV (yP s) (mP s) (dP s)) := by
  unfold date_Parse.f
  rw [if_pos h, parse_yes s hp]
  rfl
theorem parse_err (s : ByteArray) (h : ¬ (s.size = 10 ∧ okP s)) : date_Parse.f s = some (0, 5) := by
  unfold date_Parse.f
  by_cases hs : s.size = 10
  · rw [if_pos hs, parse_none s (fun hp => h ⟨hs, hp⟩)]
    rfl
  · rw [if_neg hs]
/-! ### texts of bytes -/
theorem toB_size (l : List Int) : (toB l).size = l.length := by
  show (l.map fun n => UInt8.ofNat n.toNat).toArray.size = l.length
  simp
theorem bt_toB (l : List Int) (i : Nat) (hi : i < l.length) (hb : 0 ≤ l.getD i 0 ∧ l.getD i 0 ≤ 255) : bt (toB l) (i : Int) = l.getD i 0 := by
  unfold bt
  rw [dif_pos (by rw [toB_size]; simpa using hi)]
  show ((((l.map fun n => UInt8.ofNat n.toNat).toArray)[(i : Int).toNat]'(by simpa using hi)).toNat : Int) = _
  simp only [Int.toNat_natCast, List.getElem_toArray, List.getElem_map]
  rw [UInt8.toNat_ofNat']
  rw [List.getD_eq_getElem?_getD, List.getElem?_eq_getElem hi, Option.getD_some] at *
  omega
theorem print_parse (y m d : Int) (h : okD y m d) : date_Parse.f (toB (rowP y m d false false false)) = some (ofV y m d) := by
  obtain ⟨h1, h2, h3, h4, h5, h6⟩ := h
  have hb := (dl_range (leapV y) m h3 h4).2
  have hall := rowP_bytes y m d (by omega) (by omega) h3 h4 h5 (by omega)
  have hbt : ∀ i : Nat, i < 10 → bt (toB (rowP y m d false false false)) (i : Int) = (rowP y m d false false false).getD i 0 := fun i hi => bt_toB _ i hi (hall _ (by
    rw [List.getD_eq_getElem?_getD, List.getElem?_eq_getElem (show i < (rowP y m d false false false).length from hi), Option.getD_some]
    exact List.getElem_mem _))
  have b0 : bt (toB (rowP y m d false false false)) 0 = 48 + y / 1000 := hbt 0 (by omega)
  have b1 : bt (toB (rowP y m d false false false)) 1 = 48 + y / 100 % 10 := hbt 1 (by omega)
  have b2 : bt (toB (rowP y m d false false false)) 2 = 48 + y / 10 % 10 := hbt 2 (by omega)
  have b3 : bt (toB (rowP y m d false false false)) 3 = 48 + y % 10 := hbt 3 (by omega)
  have b4 : bt (toB (rowP y m d false false false)) 4 = 45 := hbt 4 (by omega)
  have b5 : bt (toB (rowP y m d false false false)) 5 = 48 + m / 10 := hbt 5 (by omega)
  have b6 : bt (toB (rowP y m d false false false)) 6 = 48 + m % 10 := hbt 6 (by omega)
  have b7 : bt (toB (rowP y m d false false false)) 7 = 45 := hbt 7 (by omega)
  have b8 : bt (toB (rowP y m d false false false)) 8 = 48 + d / 10 := hbt 8 (by omega)
  have b9 : bt (toB (rowP y m d false false false)) 9 = 48 + d % 10 := hbt 9 (by omega)
  rw [parse_val _ (by rw [toB_size]; rfl) (by unfold okP dg; rw [b0, b1, b2, b3, b4, b5, b6, b7, b8, b9]; omega)]
  unfold yP mP dP
  rw [b0, b1, b2, b3, b5, b6, b8, b9]
  rw [show 10 * (10 * (10 * (10 * 0 + (48 + y / 1000 - 48)) + (48 + y / 100 % 10 - 48)) + (48 + y / 10 % 10 - 48)) + (48 + y % 10 - 48) = y by omega, show 10 * (10 * 0 + (48 + m / 10 - 48)) + (48 + m % 10 - 48) = m by omega, show 10 * (10 * 0 + (48 + d / 10 - 48)) + (48 + d % 10 - 48) = d by omega]
def digGo : Nat → ByteArray → Nat → Int → Int
  | 0, _, _, a => a
  | f + 1, s, i, a => if dg (bt s (i : Int)) then digGo f s (i + 1) (10 * a + (bt s (i : Int) - 48)) else -1
theorem digits_ev (f : Nat) : ∀ (s : ByteArray) (i : Nat) (a : Int), s.size = i + f → i + f ≤ 4 → 0 ≤ a → a < 10 ^ i → Ev (fun k => contangoref05_digits.l0 k s a (i : Int)) (digGo f s i a) := by
  induction f with
  | zero =>
    intro s i a hs hi h0 h1
    refine Ev.step (fun _ => by rw [contangoref05_digits.l0]) ?_
    exact ev_neg (by omega) (ev_some rfl)
  | succ f ih =>
    intro s i a hs hi h0 h1
    have hp : (10 : Int) ^ i ≤ 1000 := by
      have : i = 0 ∨ i = 1 ∨ i = 2 ∨ i = 3 := by omega
      rcases this with rfl | rfl | rfl | rfl <;> decide
    refine Ev.step (fun _ => by rw [contangoref05_digits.l0]) ?_
    refine ev_pos (by omega) (ev_pos (by omega) ?_)
    by_cases hd : dg (bt s (i : Int))
    · have hd2 := hd
      unfold dg at hd2
      refine ev_neg (by omega) (ev_neg (by omega) ?_)
      have h10 : (10 : Int) ^ (i + 1) = 10 ^ i * 10 := Int.pow_succ 10 i
      have := ih s (i + 1) (10 * a + (bt s (i : Int) - 48)) (by omega) (by omega) (by omega) (by rw [h10]; omega)
      rw [w64id' (10 * a) (by omega) (by omega), w64id' (10 * a + _) (by omega) (by omega), w64id' ((i : Int) + 1) (by omega) (by omega)]
      rw [show (bt s (i : Int) - 48) % 256 = bt s (i : Int) - 48 by omega]
      simp only [digGo, if_pos hd]
      exact this
    · simp only [digGo, if_neg hd]
      unfold dg at hd
      by_cases h48 : bt s (i : Int) < 48
      · exact ev_pos h48 (ev_some rfl)
      · exact ev_neg h48 (ev_pos (by omega) (ev_some rfl))
theorem bt_extract (s : ByteArray) (a b i : Nat) (h : b ≤ s.size) (hi : a + i < b) : bt (s.extract a b) (i : Int) = bt s ((a + i : Nat) : Int) := by
  unfold bt
  have h1 : (i : Int).toNat < (s.extract a b).size := by rw [ByteArray.size_extract]; omega
  have h2 : ((a + i : Nat) : Int).toNat < s.size := by omega
  rw [dif_pos h1, dif_pos h2, ByteArray.getElem_extract]
  simp only [Int.toNat_natCast]
theorem dig2 (s : ByteArray) (i0 i1 : Int) (h0 : bt s 0 = i0) (h1 : bt s 1 = i1) : digGo 2 s 0 0 = if dg i0 then (if dg i1 then 10 * (10 * 0 + (i0 - 48)) + (i1 - 48) else -1) else -1 := by
  subst h0; subst h1; rfl
theorem dig4 (s : ByteArray) (i0 i1 i2 i3 : Int) (h0 : bt s 0 = i0) (h1 : bt s 1 = i1) (h2 : bt s 2 = i2) (h3 : bt s 3 = i3) : digGo 4 s 0 0 = if dg i0 then (if dg i1 then (if dg i2 then (if dg i3 then 10 * (10 * (10 * (10 * 0 + (i0 - 48)) + (i1 - 48)) + (i2 - 48)) + (i3 - 48) else -1) else -1) else -1) else -1 := by
  subst h0; subst h1; subst h2; subst h3; rfl
theorem refparse_bad (s : ByteArray) : Ev (fun k => contangoref05_Parse.j0 k s true) (0, 5) := by
  refine Ev.step (fun _ => by rw [contangoref05_Parse.j0]) ?_
  exact ev_pos rfl (ev_some rfl)
theorem refparse (s : ByteArray) (hs : s.size ≤ 140737488351232) : Ev (fun k => contangoref05_Parse.f k s) (if s.size = 10 ∧ okP s then ofV (yP s) (mP s) (dP s) else (0, 5)) := by
  unfold contangoref05_Parse.f
  by_cases h10 : s.size = 10
  case neg =>
    refine ev_rw (if_neg (fun h => h10 h.1)).symm ?_
    exact ev_neg (by omega) (refparse_bad s)
  refine ev_pos (by omega) (ev_pos (by omega) ?_)
  by_cases h4 : bt s 4 = 45
  case neg =>
    refine ev_rw (if_neg (fun h => h4 h.2.2.2.2.2.1)).symm ?_
    exact ev_neg h4 (refparse_bad s)
  refine ev_pos h4 (ev_pos (by omega) ?_)
  by_cases h7 : bt s 7 = 45
  case neg =>
    refine ev_rw (if_neg (fun h => h7 h.2.2.2.2.2.2.2.2.1)).symm ?_
    rw [show (bt s 7 != 45) = true from bne_iff_ne.2 h7]
    exact refparse_bad s
  rw [show (bt s 7 != 45) = false from bne_eq_false_iff_eq.2 h7]
  have s1 : (s.extract 0 4).size = 4 := by rw [ByteArray.size_extract]; omega
  have s2 : (s.extract 5 7).size = 2 := by rw [ByteArray.size_extract]; omega
  have s3 : (s.extract 8 s.size).size = 2 := by rw [ByteArray.size_extract]; omega
  have e1 := digits_ev 4 (s.extract 0 4) 0 0 (by omega) (by omega) (by omega) (by decide)
  have e2 := digits_ev 2 (s.extract 5 7) 0 0 (by omega) (by omega) (by omega) (by decide)
  have e3 := digits_ev 2 (s.extract 8 s.size) 0 0 (by omega) (by omega) (by omega) (by decide)
  rw [dig4 _ (bt s 0) (bt s 1) (bt s 2) (bt s 3) (bt_extract s 0 4 0 (by omega) (by omega)) (bt_extract s 0 4 1 (by omega) (by omega)) (bt_extract s 0 4 2 (by omega) (by omega)) (bt_extract s 0 4 3 (by omega) (by omega))] at e1
  rw [dig2 _ (bt s 5) (bt s 6) (bt_extract s 5 7 0 (by omega) (by omega)) (bt_extract s 5 7 1 (by omega) (by omega))] at e2
  rw [dig2 _ (bt s 8) (bt s 9) (bt_extract s 8 s.size 0 (by omega) (by omega)) (bt_extract s 8 s.size 1 (by omega) (by omega))] at e3
  refine Ev.step (fun _ => by rw [contangoref05_Parse.j0]) ?_
  refine ev_neg (by decide) (ev_pos (by decide) (ev_pos (by omega) (ev_bnd' e1 (ev_pos (by decide) (ev_pos (by omega) (ev_bnd' e2 (ev_pos (by omega) (ev_bnd' e3 ?_))))))))
  clear e1 e2 e3
  by_cases hok : okP s
  · refine ev_rw (if_pos ⟨h10, hok⟩).symm ?_
    have hk := hok
    obtain ⟨q0, q1, q2, q3, _, q5, q6, _, q8, q9⟩ := hok
    rw [if_pos q0, if_pos q1, if_pos q2, if_pos q3, if_pos q5, if_pos q6, if_pos q8, if_pos q9]
    unfold dg at q0 q1 q2 q3 q5 q6 q8 q9
    refine ev_neg (by omega) (ev_neg (by omega) (ev_neg (by omega) (ev_bnd' (refof _ _ _) (ev_some ?_))))
    rfl
  · refine ev_rw (if_neg (fun h => hok h.2)).symm ?_
    have hneg : ∀ (A B C : Int), (A < 0 ∨ B < 0 ∨ C < 0) → Ev (fun k => if A < 0 then (some ((0 : Int), (5 : Int))) else (if B < 0 then (some (0, 5)) else (if C < 0 then (some (0, 5)) else ((contangoref05_Of.f k A B C).bind fun bt124 => (some (bt124.1, bt124.2)))))) (0, 5) := by
      intro A B C h
      by_cases a : A < 0
      · exact ev_pos a (ev_some rfl)
      by_cases b : B < 0
      · exact ev_neg a (ev_pos b (ev_some rfl))
      · exact ev_neg a (ev_neg b (ev_pos (by omega) (ev_some rfl)))
    refine hneg _ _ _ ?_
    by_cases q0 : dg (bt s 0)
    case neg =>
      rw [if_neg q0]; omega
    by_cases q1 : dg (bt s 1)
    case neg =>
      rw [if_pos q0, if_neg q1]; omega
    by_cases q2 : dg (bt s 2)
    case neg =>
      rw [if_pos q0, if_pos q1, if_neg q2]; omega
    by_cases q3 : dg (bt s 3)
    case neg =>
      rw [if_pos q0, if_pos q1, if_pos q2, if_neg q3]; omega
    by_cases q5 : dg (bt s 5)
    case neg =>
      rw [if_neg q5]; omega
    by_cases q6 : dg (bt s 6)
    case neg =>
      rw [if_pos q5, if_neg q6]; omega
    by_cases q8 : dg (bt s 8)
    case neg =>
      rw [if_neg q8]; omega
    by_cases q9 : dg (bt s 9)
    case neg =>
      rw [if_pos q8, if_neg q9]; omega
    exact absurd ⟨q0, q1, q2, q3, h4, q5, q6, h7, q8, q9⟩ hok
theorem parse_all (s : ByteArray) : date_Parse.f s = some (if s.size = 10 ∧ okP s then ofV (yP s) (mP s) (dP s) else (0, 5)) := by
  by_cases h : s.size = 10 ∧ okP s
  · rw [if_pos h]; exact parse_val s h.1 h.2
  · rw [if_neg h]; exact parse_err s h
theorem bt_get (s : ByteArray) (i : Nat) (h : i < s.size) : UInt8.ofNat (bt s (i : Int)).toNat = s[i] := by
  unfold bt
  rw [dif_pos (by simpa using h)]
  simp
theorem print_back (s : ByteArray) (h : s.size = 10) (hp : okP s) : toB (rowP (yP s) (mP s) (dP s) false false false) = s := by
  obtain ⟨q0, q1, q2, q3, q4, q5, q6, q7, q8, q9⟩ := hp
  have hrow : rowP (yP s) (mP s) (dP s) false false false = [bt s 0, bt s 1, bt s 2, bt s 3, bt s 4, bt s 5, bt s 6, bt s 7, bt s 8, bt s 9] := by
    unfold dg at q0 q1 q2 q3 q5 q6 q8 q9
    simp only [rowP, yP, mP, dP, Bool.false_eq_true, if_false, List.cons.injEq, and_true]
    rw [q4, q7]
    omega
  rw [hrow]
  apply ByteArray.ext
  apply Array.ext
  · have := toB_size [bt s 0, bt s 1, bt s 2, bt s 3, bt s 4, bt s 5, bt s 6, bt s 7, bt s 8, bt s 9]
    exact this.trans h.symm
  · intro i h1 h2
    have h2' : i < s.size := h2
    have hg := bt_get s i h2'
    have hi : i = 0 ∨ i = 1 ∨ i = 2 ∨ i = 3 ∨ i = 4 ∨ i = 5 ∨ i = 6 ∨ i = 7 ∨ i = 8 ∨ i = 9 := by omega
    rcases hi with rfl | rfl | rfl | rfl | rfl | rfl | rfl | rfl | rfl | rfl <;> exact hg
theorem print_val' (day : Int) (h : 0 ≤ day) (h2 : day ≤ 73048) : date_Print.f day = some (printB (splitV day)) := by
  unfold date_Print.f; rw [if_neg (by omega)]
theorem DateParses : contangolaw05_DateParses.Pure := by
  intro s hs
  refine Ev.rounds ?_
  unfold contangolaw05_DateParses.f
  refine ev_val (parse_all s) (ev_bnd' (refparse s hs) (ev_pos rfl (ev_pos rfl ?_)))
  by_cases h : s.size = 10 ∧ okP s
  · rw [if_pos h]
    by_cases hok : okD (yP s) (mP s) (dP s)
    · rw [of_ok _ _ _ hok]
      obtain ⟨r1, r2⟩ := val_range _ _ _ hok
      refine ev_pos rfl (ev_val (print_val' _ r1 r2) (ev_pos ?_ (ev_bnd' goes05 (ev_some rfl))))
      rw [split_of _ _ _ hok]
      show (toB (rowP (yP s) (mP s) (dP s) false false false)).toList = s.toList
      rw [print_back s h.1 h.2]
    · rw [of_not _ _ _ hok]
      exact ev_neg (by decide) (ev_bnd' goes05 (ev_some rfl))
  · rw [if_neg h]
    exact ev_neg (by decide) (ev_bnd' goes05 (ev_some rfl))
end Go.Proofs.YtmhlajgeihjaeaaDoor.Pure
