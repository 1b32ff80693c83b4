/- The pure statement of the law DateNth, proved: plain Lean over numbers and lists, no program in sight. -/
import Derived.Test.YtmhlajgeihjaeaaDoorPDateNthx3
namespace Go.Proofs.YtmhlajgeihjaeaaDoor.Pure
open Go.RowKit Go.Proofs.YtmhlajgeihjaeaaDoor.PDateNth Go.Proofs.YtmhlajgeihjaeaaDoorW.PrintWords Go.Proofs.YtmhlajgeihjaeaaDoorW.PrintLast Go.Proofs.YtmhlajgeihjaeaaDoorW.PrintMore
set_option linter.unusedVariables false
set_option linter.unusedSimpArgs false
/-! ### from some number of rounds on: steps -/
theorem ev_pos {α : Type} {c : Prop} [Decidable c] {a b : Nat → Option α} {r : α} (h : c) (k : Ev a r) : Ev (fun n => if c then a n else b n) r := Ev.congr (fun _ => if_pos h) k
theorem ev_neg {α : Type} {c : Prop} [Decidable c] {a b : Nat → Option α} {r : α} (h : ¬ c) (k : Ev b r) : Ev (fun n => if c then a n else b n) r := Ev.congr (fun _ => if_neg h) k
theorem ev_val {α β : Type} {g : Option α} {f : Nat → α → Option β} {a : α} {r : β} (h : g = some a) (k : Ev (fun n => f n a) r) : Ev (fun n => g.bind (f n)) r := by
  subst h; exact k
theorem ev_some {α : Type} {x r : α} (h : x = r) : Ev (fun _ => some x) r := h ▸ Ev.now x
theorem ev_rw {α : Type} {g : Nat → Option α} {r s : α} (h : r = s) (k : Ev g r) : Ev g s := h ▸ k
theorem wsucc (i : Nat) (h : i ≤ 4611686018427387904) : wrap64 ((i : Int) + 1) = ((i + 1 : Nat) : Int) := by
  unfold wrap64; omega
theorem rd_nat (l : List Int) (i : Nat) : rd l (i : Int) = l.getD i 0 := rfl
/-! ### dates: what the functions tell -/
theorem w64id' (x : Int) (h0 : -9223372036854775808 ≤ x) (h1 : x ≤ 9223372036854775807) : wrap64 x = x := by unfold wrap64; omega
theorem ev_bnd' {α β : Type} {g : Nat → Option α} {f : Nat → α → Option β} {a : α} {r : β} (h : Ev g a) (k : Ev (fun n => f n a) r) : Ev (fun n => (g n).bind (f n)) r := h.bind k
def ofV (y m d : Int) : Int × Int := if y < 2000 ∨ y > 2199 ∨ d < 1 ∨ d > dlen y m then (0, 15) else (startD y + d - 1 + msum (leapV y) (m.toNat - 1), 0)
theorem of_val (y m d : Int) : date_Of.f y m d = some (ofV y m d) := rfl
def wdV (day : Int) : Int := if 0 ≤ day ∧ day ≤ 73048 then (day + 5) % 7 + 1 else 0
theorem here_val (day : Int) : date_here.f day = some (decide (0 ≤ day ∧ day ≤ 73048)) := by
  unfold date_here.f
  by_cases h : day ≥ 0
  · rw [if_pos h]
    by_cases h2 : day ≤ 73048
    · rw [decide_eq_true h2, decide_eq_true (show 0 ≤ day ∧ day ≤ 73048 from ⟨h, h2⟩)]
    · rw [decide_eq_false h2, decide_eq_false (show ¬ (0 ≤ day ∧ day ≤ 73048) from fun x => h2 x.2)]
  · rw [if_neg h, decide_eq_false (show ¬ (0 ≤ day ∧ day ≤ 73048) from fun x => h x.1)]
theorem wd_val (day : Int) : date_Weekday.f day = some (wdV day) := by
  unfold date_Weekday.f wdV
  rw [here_val, Option.bind_some]
  by_cases h : 0 ≤ day ∧ day ≤ 73048
  · rw [decide_eq_true h, if_pos rfl, if_pos h, w64id' (day + 5) (by omega) (by omega), Int.tmod_eq_emod_of_nonneg (by omega), w64id' _ (by omega) (by omega)]
  · rw [decide_eq_false h, if_neg (by decide), if_neg h]
def nthD (y m wd n : Int) : Int := 1 + (wd - wdV (ofV y m 1).1 + 7) % 7 + 7 * (n - 1)
def nthV (y m wd n : Int) : Int × Int := if wd < 1 ∨ wd > 7 ∨ n < 1 ∨ n > 5 then (0, 2) else if (ofV y m 1).2 = 0 then ofV y m (nthD y m wd n) else (0, (ofV y m 1).2)
theorem wdV_range (day : Int) : 0 ≤ wdV day ∧ wdV day ≤ 7 := by
  unfold wdV; split <;> omega
theorem nth_bad (y m wd n : Int) : Ev (fun k => date_Nth.j0 k y m wd n true) (0, 2) := by
  refine Ev.step (fun _ => by rw [date_Nth.j0]) ?_
  exact ev_pos rfl (ev_some rfl)
theorem nth_ev (y m wd n : Int) : Ev (fun k => date_Nth.f k y m wd n) (nthV y m wd n) := by
  unfold date_Nth.f nthV
  by_cases c1 : wd < 1
  · rw [if_pos (show wd < 1 ∨ wd > 7 ∨ n < 1 ∨ n > 5 from .inl c1)]; exact ev_pos c1 (nth_bad _ _ _ _)
  refine ev_neg c1 ?_
  by_cases c2 : wd > 7
  · rw [if_pos (show wd < 1 ∨ wd > 7 ∨ n < 1 ∨ n > 5 from .inr (.inl c2))]; exact ev_pos c2 (nth_bad _ _ _ _)
  refine ev_neg c2 ?_
  by_cases c3 : n < 1
  · rw [if_pos (show wd < 1 ∨ wd > 7 ∨ n < 1 ∨ n > 5 from .inr (.inr (.inl c3)))]; exact ev_pos c3 (nth_bad _ _ _ _)
  refine ev_neg c3 ?_
  by_cases c4 : n > 5
  · rw [if_pos (show wd < 1 ∨ wd > 7 ∨ n < 1 ∨ n > 5 from .inr (.inr (.inr c4))), decide_eq_true c4]; exact nth_bad _ _ _ _
  rw [if_neg (by omega), decide_eq_false c4]
  refine Ev.step (fun _ => by rw [date_Nth.j0]) ?_
  refine ev_neg (by decide) (ev_val (of_val _ _ _) ?_)
  by_cases h0 : (ofV y m 1).2 = 0
  · refine ev_rw (if_pos h0).symm ?_
    refine ev_pos h0 (ev_val (wd_val _) (ev_val (of_val _ _ _) (ev_some ?_)))
    have hr := wdV_range (ofV y m 1).1
    unfold nthD
    generalize wdV (ofV y m 1).1 = q at *
    rw [w64id' (wd - q) (by omega) (by omega), w64id' (wd - q + 7) (by omega) (by omega), Int.tmod_eq_emod_of_nonneg (by omega), w64id' (n - 1) (by omega) (by omega), w64id' (7 * (n - 1)) (by omega) (by omega), w64id' (1 + _) (by omega) (by omega), w64id' (1 + _ + _) (by omega) (by omega)]
  · refine ev_rw (if_neg h0).symm ?_
    exact ev_neg h0 (ev_some rfl)
theorem goes05 : Ev (fun k => contangolaw05_goes.f k) true := by
  unfold contangolaw05_goes.f
  refine ev_val (show date_Of.f 2000 2 29 = some (59, 0) by decide +kernel) (ev_val (show date_Parse.f (⟨#[50, 48, 50, 52, 45, 48, 51, 45, 49, 53]⟩ : ByteArray) = some (8840, 0) by decide +kernel) (ev_bnd' (ev_rw (show nthV 2024 3 5 3 = (8840, 0) by decide +kernel) (nth_ev 2024 3 5 3)) (ev_val (show date_Parse.f (⟨#[50, 49, 48, 48, 45, 48, 50, 45, 50, 57]⟩ : ByteArray) = some (0, 15) by decide +kernel) ?_)))
  refine ev_pos rfl (ev_pos rfl (ev_pos rfl (ev_pos rfl (ev_pos rfl (ev_pos rfl (ev_val (show date_Weekday.f 0 = some 6 by decide +kernel) (ev_pos rfl (ev_val (show date_Print.f 73048 = some (toB [50, 49, 57, 57, 45, 49, 50, 45, 51, 49]) by decide +kernel) (ev_some ?_)))))))))
  rw [ByteArray.toList_eq]
  decide +kernel
/-! ### dates: every valid date has its own day -/
def okD (y m d : Int) : Prop := 2000 ≤ y ∧ y ≤ 2199 ∧ 1 ≤ m ∧ m ≤ 12 ∧ 1 ≤ d ∧ d ≤ dl (leapV y) m
def valD (y m d : Int) : Int := startD y + d - 1 + msum (leapV y) (m.toNat - 1)
theorem dlen_in (y m : Int) (h : 1 ≤ m) (h2 : m ≤ 12) : dlen y m = dl (leapV y) m := by unfold dlen; rw [if_neg (by omega)]
theorem dlen_out (y m : Int) (h : m < 1 ∨ m > 12) : dlen y m = 0 := by unfold dlen; rw [if_pos h]
theorem of_ok (y m d : Int) (h : okD y m d) : ofV y m d = (valD y m d, 0) := by
  obtain ⟨h1, h2, h3, h4, h5, h6⟩ := h
  unfold ofV valD
  rw [dlen_in y m h3 h4, if_neg (by omega)]
theorem ok_iff (y m d : Int) : okD y m d ↔ ¬ (y < 2000 ∨ y > 2199 ∨ d < 1 ∨ d > dlen y m) := by
  unfold okD
  by_cases hm : m < 1 ∨ m > 12
  · rw [dlen_out y m hm]; omega
  · rw [dlen_in y m (by omega) (by omega)]; omega
theorem of_not (y m d : Int) (h : ¬ okD y m d) : ofV y m d = (0, 15) := by
  rw [ok_iff, Classical.not_not] at h
  unfold ofV
  rw [if_pos h]
theorem msum_mono (b : Bool) (i n : Nat) (h : i + n ≤ 12) : msum b i ≤ msum b (i + n) := by
  induction n with
  | zero => exact Int.le_refl _
  | succ n ih =>
    have h1 := ih (by omega)
    have h2 := dl_range b (((i + n : Nat) : Int) + 1) (by omega) (by omega)
    rw [show i + (n + 1) = (i + n) + 1 by omega]
    simp only [msum]
    omega
theorem msum_at (b : Bool) (m : Int) (h : 1 ≤ m) : msum b m.toNat = msum b (m.toNat - 1) + dl b m := by
  obtain ⟨j, rfl⟩ : ∃ j : Nat, m = (j : Int) + 1 := ⟨m.toNat - 1, by omega⟩
  rw [show ((j : Int) + 1).toNat = j + 1 by omega]
  rfl
theorem val_year (y m d : Int) (h : okD y m d) : startD y ≤ valD y m d ∧ valD y m d < startD (y + 1) := by
  obtain ⟨h1, h2, h3, h4, h5, h6⟩ := h
  rw [start_step y h1 h2]
  unfold valD
  have e1 := msum_at (leapV y) m h3
  have e2 := msum_mono (leapV y) m.toNat (12 - m.toNat) (by omega)
  rw [show m.toNat + (12 - m.toNat) = 12 by omega] at e2
  have e3 := (msum_range (leapV y) (m.toNat - 1) (by omega)).1
  omega
theorem val_range (y m d : Int) (h : okD y m d) : 0 ≤ valD y m d ∧ valD y m d ≤ 73048 := by
  obtain ⟨h1, h2⟩ := val_year y m d h
  have h3 := start_mono 2000 y (by omega) h.1 (by have := h.2.1; omega)
  have h4 := start_mono (y + 1) 2200 (by have := h.1; omega) (by have := h.2.1; omega) (by omega)
  rw [show startD 2000 = 0 from rfl] at h3
  rw [show startD 2200 = 73049 from rfl] at h4
  omega
theorem year_one (y z v : Int) (hy : 2000 ≤ y) (hy2 : y ≤ 2199) (hz : 2000 ≤ z) (hz2 : z ≤ 2199) (h1 : startD y ≤ v) (h2 : v < startD (y + 1)) (h3 : startD z ≤ v) (h4 : v < startD (z + 1)) : y = z := by
  apply Classical.byContradiction
  intro hne
  rcases Int.lt_or_lt_of_ne hne with h | h
  · have := start_mono (y + 1) z (by omega) (by omega) (by omega); omega
  · have := start_mono (z + 1) y (by omega) (by omega) (by omega); omega
theorem month_one (b : Bool) (m d n e : Int) (hm : 1 ≤ m) (hm2 : m ≤ 12) (hd : 1 ≤ d) (hd2 : d ≤ dl b m) (hn : 1 ≤ n) (hn2 : n ≤ 12) (he : 1 ≤ e) (he2 : e ≤ dl b n) (h : d + msum b (m.toNat - 1) = e + msum b (n.toNat - 1)) : m = n ∧ d = e := by
  have e1 := msum_at b m hm
  have e2 := msum_at b n hn
  have hmn : m = n := by
    apply Classical.byContradiction
    intro hne
    rcases Int.lt_or_lt_of_ne hne with hl | hl
    · have := msum_mono b m.toNat (n.toNat - 1 - m.toNat) (by omega)
      rw [show m.toNat + (n.toNat - 1 - m.toNat) = n.toNat - 1 by omega] at this
      omega
    · have := msum_mono b n.toNat (m.toNat - 1 - n.toNat) (by omega)
      rw [show n.toNat + (m.toNat - 1 - n.toNat) = m.toNat - 1 by omega] at this
      omega
  subst hmn
  exact ⟨rfl, by omega⟩
theorem val_inj (y m d z n e : Int) (h : okD y m d) (k : okD z n e) (hv : valD y m d = valD z n e) : y = z ∧ m = n ∧ d = e := by
  have h1 := val_year y m d h
  have h2 := val_year z n e k
  obtain rfl := year_one y z (valD y m d) h.1 h.2.1 k.1 k.2.1 h1.1 h1.2 (by omega) (by omega)
  obtain ⟨_, _, h3, h4, h5, h6⟩ := h
  obtain ⟨_, _, k3, k4, k5, k6⟩ := k
  unfold valD at hv
  obtain ⟨rfl, rfl⟩ := month_one (leapV y) m d n e h3 h4 h5 h6 k3 k4 k5 k6 (by omega)
  exact ⟨rfl, rfl, rfl⟩
theorem split_ok (day : Int) (h : 0 ≤ day) (h2 : day ≤ 73048) : okD (splitV day).1 (splitV day).2.1 (splitV day).2.2 ∧ valD (splitV day).1 (splitV day).2.1 (splitV day).2.2 = day := by
  obtain ⟨s1, s2, s3, s4, s5, s6, s7, s8⟩ := splitV_spec day h h2
  exact ⟨⟨s1, s2, s3, s4, s5, s7⟩, s8⟩
theorem split_of (y m d : Int) (h : okD y m d) : splitV (valD y m d) = (y, m, d) := by
  obtain ⟨r1, r2⟩ := val_range y m d h
  obtain ⟨k1, k2⟩ := split_ok (valD y m d) r1 r2
  obtain ⟨e1, e2, e3⟩ := val_inj _ _ _ _ _ _ k1 h k2
  exact Prod.ext e1 (Prod.ext e2 e3)
theorem of_split (day : Int) (h : 0 ≤ day) (h2 : day ≤ 73048) : ofV (splitV day).1 (splitV day).2.1 (splitV day).2.2 = (day, 0) := by
  obtain ⟨k1, k2⟩ := split_ok day h h2
  rw [of_ok _ _ _ k1, k2]
theorem split_val (day : Int) (h : 0 ≤ day) (h2 : day ≤ 73048) : date_Split.f day = some ((splitV day).1, (splitV day).2.1, (splitV day).2.2, 0) := by
  unfold date_Split.f; rw [if_neg (by omega)]
theorem split_no (day : Int) (h : day < 0 ∨ day > 73048) : date_Split.f day = some (0, 0, 0, 15) := by
  unfold date_Split.f; rw [if_pos h]
theorem nthl_j0 (y m wd n : Int) : Ev (fun k => contangolaw05_DateNth.j0 k y m wd n 0 2 true) true := by
  refine Ev.step (fun _ => by rw [contangolaw05_DateNth.j0]) ?_
  exact ev_pos rfl (ev_pos rfl (ev_pos rfl (ev_bnd' goes05 (ev_some rfl))))
theorem val_add (y m d : Int) : valD y m d = valD y m 1 + (d - 1) := by unfold valD; omega
theorem ev_down7 {ρ : Type} {n : Nat} {g : Nat → Nat → Option ρ} {r : ρ} (he : Ev (fun k => g k n) r) (hs : ∀ i, i < n → Ev (fun k => g k (i + 1)) r → Ev (fun k => g k i) r) : ∀ i, i ≤ n → Ev (fun k => g k i) r := by
  intro i hi
  generalize hd : n - i = d
  induction d generalizing i with
  | zero =>
    obtain rfl : i = n := by omega
    exact he
  | succ d ih => exact hs i (by omega) (ih (i + 1) (by omega) (by omega))
/-- a day of the seven that is no such weekday, or none at all -/
theorem nth_skip (y m wd n x9 x10 d : Int) (hn : 1 ≤ n) (hn2 : n ≤ 5) (hd : d ≤ 7 * n) (hd0 : 0 ≤ d) (h : okD y m d → wdV (valD y m d) ≠ wd) (ih : Ev (fun k => contangolaw05_DateNth.l0 k y m wd n x9 x10 (d + 1)) true) :
    Ev (fun k => contangolaw05_DateNth.l0 k y m wd n x9 x10 d) true := by
  refine Ev.step (fun _ => by rw [contangolaw05_DateNth.l0]) ?_
  refine ev_pos (by rw [w64id' _ (by omega) (by omega)]; exact hd) (ev_val (of_val _ _ _) ?_)
  by_cases hok : okD y m d
  · rw [of_ok y m d hok]
    refine ev_pos rfl (ev_val (wd_val _) (ev_neg (h hok) ?_))
    rw [w64id' (d + 1) (by omega) (by omega)]
    exact ih
  · rw [of_not y m d hok]
    refine ev_neg (by decide) ?_
    rw [w64id' (d + 1) (by omega) (by omega)]
    exact ih
theorem nth_none (y m wd n : Int) (hn : 1 ≤ n) (hn2 : n ≤ 5) (h : ∀ d, 7 * n - 6 ≤ d → d ≤ 7 * n → okD y m d → wdV (valD y m d) ≠ wd) :
    Ev (fun k => contangolaw05_DateNth.l0 k y m wd n 0 15 (7 * n - 6)) true := by
  have main := ev_down7 (n := 7) (g := fun k i => contangolaw05_DateNth.l0 k y m wd n 0 15 (7 * n - 6 + (i : Int))) (r := true) ?_ ?_ 0 (by omega)
  · simpa using main
  · refine Ev.step (fun _ => by rw [contangolaw05_DateNth.l0]) ?_
    refine ev_neg (by rw [w64id' _ (by omega) (by omega)]; omega) (ev_pos rfl (ev_pos rfl (ev_bnd' goes05 (ev_some rfl))))
  · intro i hi ih
    refine nth_skip y m wd n 0 15 _ hn hn2 (by omega) (by omega) (h _ (by omega) (by omega)) ?_
    rw [show 7 * n - 6 + ((i + 1 : Nat) : Int) = 7 * n - 6 + (i : Int) + 1 by omega] at ih
    exact ih
theorem nth_some (y m wd n D : Int) (hn : 1 ≤ n) (hn2 : n ≤ 5) (hD : 7 * n - 6 ≤ D) (hD2 : D ≤ 7 * n) (hok : okD y m D) (hw : wdV (valD y m D) = wd) (h : ∀ d, 7 * n - 6 ≤ d → d < D → okD y m d → wdV (valD y m d) ≠ wd) :
    Ev (fun k => contangolaw05_DateNth.l0 k y m wd n (valD y m D) 0 (7 * n - 6)) true := by
  have main := ev_down7 (n := (D - (7 * n - 6)).toNat) (g := fun k i => contangolaw05_DateNth.l0 k y m wd n (valD y m D) 0 (7 * n - 6 + (i : Int))) (r := true) ?_ ?_ 0 (by omega)
  · simpa using main
  · have e : 7 * n - 6 + ((D - (7 * n - 6)).toNat : Int) = D := by omega
    rw [e]
    refine Ev.step (fun _ => by rw [contangolaw05_DateNth.l0]) ?_
    refine ev_pos (by rw [w64id' _ (by omega) (by omega)]; exact hD2) (ev_val (of_val _ _ _) ?_)
    rw [of_ok y m D hok]
    exact ev_pos rfl (ev_val (wd_val _) (ev_pos hw (ev_pos rfl (ev_pos rfl (ev_bnd' goes05 (ev_some rfl))))))
  · intro i hi ih
    refine nth_skip y m wd n _ 0 _ hn hn2 (by omega) (by omega) (h _ (by omega) (by omega)) ?_
    rw [show 7 * n - 6 + ((i + 1 : Nat) : Int) = 7 * n - 6 + (i : Int) + 1 by omega] at ih
    exact ih
theorem wd_in (day : Int) (h : 0 ≤ day) (h2 : day ≤ 73048) : wdV day = (day + 5) % 7 + 1 := by unfold wdV; rw [if_pos ⟨h, h2⟩]
theorem DateNth : ∀ (y m wd n : Int), (Lit.int .i64 y).wf = true → (Lit.int .i64 m).wf = true → (Lit.int .i64 wd).wf = true → (Lit.int .i64 n).wf = true → ∃ k, contangolaw05_DateNth.f k y m wd n = some true := by
  intro y m wd n _ _ _ _
  refine Ev.rounds ?_
  unfold contangolaw05_DateNth.f
  refine ev_bnd' (nth_ev y m wd n) ?_
  by_cases hbad : wd < 1 ∨ wd > 7 ∨ n < 1 ∨ n > 5
  · have hv : nthV y m wd n = (0, 2) := by unfold nthV; rw [if_pos hbad]
    rw [hv]
    by_cases c1 : wd < 1
    · exact ev_pos c1 (nthl_j0 _ _ _ _)
    refine ev_neg c1 ?_
    by_cases c2 : wd > 7
    · exact ev_pos c2 (nthl_j0 _ _ _ _)
    refine ev_neg c2 ?_
    by_cases c3 : n < 1
    · exact ev_pos c3 (nthl_j0 _ _ _ _)
    refine ev_neg c3 ?_
    rw [decide_eq_true (by omega)]
    exact nthl_j0 _ _ _ _
  · have hv : nthV y m wd n = (if (ofV y m 1).2 = 0 then ofV y m (nthD y m wd n) else (0, (ofV y m 1).2)) := by unfold nthV; rw [if_neg hbad]
    rw [hv]
    clear hv
    refine ev_neg (by omega) (ev_neg (by omega) (ev_neg (by omega) ?_))
    rw [decide_eq_false (by omega)]
    refine Ev.step (fun _ => by rw [contangolaw05_DateNth.j0]) ?_
    refine ev_neg (by decide) ?_
    rw [w64id' (7 * n) (by omega) (by omega), w64id' (7 * n - 6) (by omega) (by omega)]
    by_cases h1 : okD y m 1
    · rw [of_ok y m 1 h1, if_pos rfl]
      have hD : nthD y m wd n = 1 + (wd - ((valD y m 1 + 5) % 7 + 1) + 7) % 7 + 7 * (n - 1) := by
        unfold nthD
        obtain ⟨r1, r2⟩ := val_range y m 1 h1
        rw [of_ok y m 1 h1, wd_in _ r1 r2]
      have hweek : ∀ d, okD y m d → wdV (valD y m d) = (valD y m 1 + (d - 1) + 5) % 7 + 1 := fun d hd => by
        obtain ⟨r1, r2⟩ := val_range y m d hd
        rw [wd_in _ r1 r2, val_add]
      generalize hv1 : valD y m 1 = v at *
      generalize nthD y m wd n = D at *
      by_cases hok : okD y m D
      · rw [of_ok y m D hok]
        exact nth_some y m wd n D (by omega) (by omega) (by omega) (by omega) hok (by rw [hweek D hok]; omega) (fun d hd1 hd2 hd3 => by rw [hweek d hd3]; omega)
      · rw [of_not y m D hok]
        refine nth_none y m wd n (by omega) (by omega) (fun d hd1 hd2 hd3 => ?_)
        rw [hweek d hd3]
        intro he
        have : d = D := by omega
        subst this
        exact hok hd3
    · rw [of_not y m 1 h1, if_neg (by decide)]
      refine nth_none y m wd n (by omega) (by omega) (fun d hd1 hd2 hd3 => ?_)
      exact absurd ⟨hd3.1, hd3.2.1, hd3.2.2.1, hd3.2.2.2.1, by omega, by have := hd3.2.2.2.2; omega⟩ h1
end Go.Proofs.YtmhlajgeihjaeaaDoor.Pure
