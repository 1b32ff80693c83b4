/- The pure statement of the law DateNext, proved: plain Lean over numbers and lists, no program in sight. -/
import Derived.Test.YtmhlajgeihjaeaaDoorPDateNextx3
namespace Go.Proofs.YtmhlajgeihjaeaaDoor.Pure
open Go.RowKit Go.Proofs.YtmhlajgeihjaeaaDoor.PDateNext Go.Proofs.YtmhlajgeihjaeaaDoorW.PrintWords Go.Proofs.YtmhlajgeihjaeaaDoorW.PrintLast Go.Proofs.YtmhlajgeihjaeaaDoorW.PrintMore
set_option linter.unusedVariables false
set_option linter.unusedSimpArgs false
/-! ### from some number of rounds on: steps -/
theorem ev_pos {α : Type} {c : Prop} [Decidable c] {a b : Nat → Option α} {r : α} (h : c) (k : Ev a r) : Ev (fun n => if c then a n else b n) r := Ev.congr (fun _ => if_pos h) k
theorem ev_neg {α : Type} {c : Prop} [Decidable c] {a b : Nat → Option α} {r : α} (h : ¬ c) (k : Ev b r) : Ev (fun n => if c then a n else b n) r := Ev.congr (fun _ => if_neg h) k
theorem ev_val {α β : Type} {g : Option α} {f : Nat → α → Option β} {a : α} {r : β} (h : g = some a) (k : Ev (fun n => f n a) r) : Ev (fun n => g.bind (f n)) r := by
  subst h; exact k
theorem ev_some {α : Type} {x r : α} (h : x = r) : Ev (fun _ => some x) r := h ▸ Ev.now x
theorem ev_rw {α : Type} {g : Nat → Option α} {r s : α} (h : r = s) (k : Ev g r) : Ev g s := h ▸ k
theorem wsucc (i : Nat) (h : i ≤ 4611686018427387904) : wrap64 ((i : Int) + 1) = ((i + 1 : Nat) : Int) := by
  unfold wrap64; omega
theorem rd_nat (l : List Int) (i : Nat) : rd l (i : Int) = l.getD i 0 := rfl
/-! ### dates: what the functions tell -/
theorem w64id' (x : Int) (h0 : -9223372036854775808 ≤ x) (h1 : x ≤ 9223372036854775807) : wrap64 x = x := by unfold wrap64; omega
theorem ev_bnd' {α β : Type} {g : Nat → Option α} {f : Nat → α → Option β} {a : α} {r : β} (h : Ev g a) (k : Ev (fun n => f n a) r) : Ev (fun n => (g n).bind (f n)) r := h.bind k
def ofV (y m d : Int) : Int × Int := if y < 2000 ∨ y > 2199 ∨ d < 1 ∨ d > dlen y m then (0, 15) else (startD y + d - 1 + msum (leapV y) (m.toNat - 1), 0)
theorem of_val (y m d : Int) : date_Of.f y m d = some (ofV y m d) := rfl
def wdV (day : Int) : Int := if 0 ≤ day ∧ day ≤ 73048 then (day + 5) % 7 + 1 else 0
theorem here_val (day : Int) : date_here.f day = some (decide (0 ≤ day ∧ day ≤ 73048)) := by
  unfold date_here.f
  by_cases h : day ≥ 0
  · rw [if_pos h]
    by_cases h2 : day ≤ 73048
    · rw [decide_eq_true h2, decide_eq_true (show 0 ≤ day ∧ day ≤ 73048 from ⟨h, h2⟩)]
    · rw [decide_eq_false h2, decide_eq_false (show ¬ (0 ≤ day ∧ day ≤ 73048) from fun x => h2 x.2)]
  · rw [if_neg h, decide_eq_false (show ¬ (0 ≤ day ∧ day ≤ 73048) from fun x => h x.1)]
theorem wd_val (day : Int) : date_Weekday.f day = some (wdV day) := by
  unfold date_Weekday.f wdV
  rw [here_val, Option.bind_some]
  by_cases h : 0 ≤ day ∧ day ≤ 73048
  · rw [decide_eq_true h, if_pos rfl, if_pos h, w64id' (day + 5) (by omega) (by omega), Int.tmod_eq_emod_of_nonneg (by omega), w64id' _ (by omega) (by omega)]
  · rw [decide_eq_false h, if_neg (by decide), if_neg h]
def nthD (y m wd n : Int) : Int := 1 + (wd - wdV (ofV y m 1).1 + 7) % 7 + 7 * (n - 1)
def nthV (y m wd n : Int) : Int × Int := if wd < 1 ∨ wd > 7 ∨ n < 1 ∨ n > 5 then (0, 2) else if (ofV y m 1).2 = 0 then ofV y m (nthD y m wd n) else (0, (ofV y m 1).2)
theorem wdV_range (day : Int) : 0 ≤ wdV day ∧ wdV day ≤ 7 := by
  unfold wdV; split <;> omega
theorem nth_bad (y m wd n : Int) : Ev (fun k => date_Nth.j0 k y m wd n true) (0, 2) := by
  refine Ev.step (fun _ => by rw [date_Nth.j0]) ?_
  exact ev_pos rfl (ev_some rfl)
theorem nth_ev (y m wd n : Int) : Ev (fun k => date_Nth.f k y m wd n) (nthV y m wd n) := by
  unfold date_Nth.f nthV
  by_cases c1 : wd < 1
  · rw [if_pos (show wd < 1 ∨ wd > 7 ∨ n < 1 ∨ n > 5 from .inl c1)]; exact ev_pos c1 (nth_bad _ _ _ _)
  refine ev_neg c1 ?_
  by_cases c2 : wd > 7
  · rw [if_pos (show wd < 1 ∨ wd > 7 ∨ n < 1 ∨ n > 5 from .inr (.inl c2))]; exact ev_pos c2 (nth_bad _ _ _ _)
  refine ev_neg c2 ?_
  by_cases c3 : n < 1
  · rw [if_pos (show wd < 1 ∨ wd > 7 ∨ n < 1 ∨ n > 5 from .inr (.inr (.inl c3)))]; exact ev_pos c3 (nth_bad _ _ _ _)
  refine ev_neg c3 ?_
  by_cases c4 : n > 5
  · rw [if_pos (show wd < 1 ∨ wd > 7 ∨ n < 1 ∨ n > 5 from .inr (.inr (.inr c4))), decide_eq_true c4]; exact nth_bad _ _ _ _
  rw [if_neg (by omega), decide_eq_false c4]
  refine Ev.step (fun _ => by rw [date_Nth.j0]) ?_
  refine ev_neg (by decide) (ev_val (of_val _ _ _) ?_)
  by_cases h0 : (ofV y m 1).2 = 0
  · refine ev_rw (if_pos h0).symm ?_
    refine ev_pos h0 (ev_val (wd_val _) (ev_val (of_val _ _ _) (ev_some ?_)))
    have hr := wdV_range (ofV y m 1).1
    unfold nthD
    generalize wdV (ofV y m 1).1 = q at *
    rw [w64id' (wd - q) (by omega) (by omega), w64id' (wd - q + 7) (by omega) (by omega), Int.tmod_eq_emod_of_nonneg (by omega), w64id' (n - 1) (by omega) (by omega), w64id' (7 * (n - 1)) (by omega) (by omega), w64id' (1 + _) (by omega) (by omega), w64id' (1 + _ + _) (by omega) (by omega)]
  · refine ev_rw (if_neg h0).symm ?_
    exact ev_neg h0 (ev_some rfl)
theorem goes05 : Ev (fun k => contangolaw05_goes.f k) true := by
  unfold contangolaw05_goes.f
  refine ev_val (show date_Of.f 2000 2 29 = some (59, 0) by decide +kernel) (ev_val (show date_Parse.f (⟨#[50, 48, 50, 52, 45, 48, 51, 45, 49, 53]⟩ : ByteArray) = some (8840, 0) by decide +kernel) (ev_bnd' (ev_rw (show nthV 2024 3 5 3 = (8840, 0) by decide +kernel) (nth_ev 2024 3 5 3)) (ev_val (show date_Parse.f (⟨#[50, 49, 48, 48, 45, 48, 50, 45, 50, 57]⟩ : ByteArray) = some (0, 15) by decide +kernel) ?_)))
  refine ev_pos rfl (ev_pos rfl (ev_pos rfl (ev_pos rfl (ev_pos rfl (ev_pos rfl (ev_val (show date_Weekday.f 0 = some 6 by decide +kernel) (ev_pos rfl (ev_val (show date_Print.f 73048 = some (toB [50, 49, 57, 57, 45, 49, 50, 45, 51, 49]) by decide +kernel) (ev_some ?_)))))))))
  rw [ByteArray.toList_eq]
  decide +kernel
/-! ### dates: every valid date has its own day -/
def okD (y m d : Int) : Prop := 2000 ≤ y ∧ y ≤ 2199 ∧ 1 ≤ m ∧ m ≤ 12 ∧ 1 ≤ d ∧ d ≤ dl (leapV y) m
def valD (y m d : Int) : Int := startD y + d - 1 + msum (leapV y) (m.toNat - 1)
theorem dlen_in (y m : Int) (h : 1 ≤ m) (h2 : m ≤ 12) : dlen y m = dl (leapV y) m := by unfold dlen; rw [if_neg (by omega)]
theorem dlen_out (y m : Int) (h : m < 1 ∨ m > 12) : dlen y m = 0 := by unfold dlen; rw [if_pos h]
theorem of_ok (y m d : Int) (h : okD y m d) : ofV y m d = (valD y m d, 0) := by
  obtain ⟨h1, h2, h3, h4, h5, h6⟩ := h
  unfold ofV valD
  rw [dlen_in y m h3 h4, if_neg (by omega)]
theorem ok_iff (y m d : Int) : okD y m d ↔ ¬ (y < 2000 ∨ y > 2199 ∨ d < 1 ∨ d > dlen y m) := by
  unfold okD
  by_cases hm : m < 1 ∨ m > 12
  · rw [dlen_out y m hm]; omega
  · rw [dlen_in y m (by omega) (by omega)]; omega
theorem of_not (y m d : Int) (h : ¬ okD y m d) : ofV y m d = (0, 15) := by
  rw [ok_iff, Classical.not_not] at h
  unfold ofV
  rw [if_pos h]
theorem msum_mono (b : Bool) (i n : Nat) (h : i + n ≤ 12) : msum b i ≤ msum b (i + n) := by
  induction n with
  | zero => exact Int.le_refl _
  | succ n ih =>
    have h1 := ih (by omega)
    have h2 := dl_range b (((i + n : Nat) : Int) + 1) (by omega) (by omega)
    rw [show i + (n + 1) = (i + n) + 1 by omega]
    simp only [msum]
    omega
theorem msum_at (b : Bool) (m : Int) (h : 1 ≤ m) : msum b m.toNat = msum b (m.toNat - 1) + dl b m := by
  obtain ⟨j, rfl⟩ : ∃ j : Nat, m = (j : Int) + 1 := ⟨m.toNat - 1, by omega⟩
  rw [show ((j : Int) + 1).toNat = j + 1 by omega]
  rfl
theorem val_year (y m d : Int) (h : okD y m d) : startD y ≤ valD y m d ∧ valD y m d < startD (y + 1) := by
  obtain ⟨h1, h2, h3, h4, h5, h6⟩ := h
  rw [start_step y h1 h2]
  unfold valD
  have e1 := msum_at (leapV y) m h3
  have e2 := msum_mono (leapV y) m.toNat (12 - m.toNat) (by omega)
  rw [show m.toNat + (12 - m.toNat) = 12 by omega] at e2
  have e3 := (msum_range (leapV y) (m.toNat - 1) (by omega)).1
  omega
theorem val_range (y m d : Int) (h : okD y m d) : 0 ≤ valD y m d ∧ valD y m d ≤ 73048 := by
  obtain ⟨h1, h2⟩ := val_year y m d h
  have h3 := start_mono 2000 y (by omega) h.1 (by have := h.2.1; omega)
  have h4 := start_mono (y + 1) 2200 (by have := h.1; omega) (by have := h.2.1; omega) (by omega)
  rw [show startD 2000 = 0 from rfl] at h3
  rw [show startD 2200 = 73049 from rfl] at h4
  omega
theorem year_one (y z v : Int) (hy : 2000 ≤ y) (hy2 : y ≤ 2199) (hz : 2000 ≤ z) (hz2 : z ≤ 2199) (h1 : startD y ≤ v) (h2 : v < startD (y + 1)) (h3 : startD z ≤ v) (h4 : v < startD (z + 1)) : y = z := by
  apply Classical.byContradiction
  intro hne
  rcases Int.lt_or_lt_of_ne hne with h | h
  · have := start_mono (y + 1) z (by omega) (by omega) (by omega); omega
  · have := start_mono (z + 1) y (by omega) (by omega) (by omega); omega
theorem month_one (b : Bool) (m d n e : Int) (hm : 1 ≤ m) (hm2 : m ≤ 12) (hd : 1 ≤ d) (hd2 : d ≤ dl b m) (hn : 1 ≤ n) (hn2 : n ≤ 12) (he : 1 ≤ e) (he2 : e ≤ dl b n) (h : d + msum b (m.toNat - 1) = e + msum b (n.toNat - 1)) : m = n ∧ d = e := by
  have e1 := msum_at b m hm
  have e2 := msum_at b n hn
  have hmn : m = n := by
    apply Classical.byContradiction
    intro hne
    rcases Int.lt_or_lt_of_ne hne with hl | hl
    · have := msum_mono b m.toNat (n.toNat - 1 - m.toNat) (by omega)
      rw [show m.toNat + (n.toNat - 1 - m.toNat) = n.toNat - 1 by omega] at this
      omega
    · have := msum_mono b n.toNat (m.toNat - 1 - n.toNat) (by omega)
      rw [show n.toNat + (m.toNat - 1 - n.toNat) = m.toNat - 1 by omega] at this
      omega
  subst hmn
  exact ⟨rfl, by omega⟩
theorem val_inj (y m d z n e : Int) (h : okD y m d) (k : okD z n e) (hv : valD y m d = valD z n e) : y = z ∧ m = n ∧ d = e := by
  have h1 := val_year y m d h
  have h2 := val_year z n e k
  obtain rfl := year_one y z (valD y m d) h.1 h.2.1 k.1 k.2.1 h1.1 h1.2 (by omega) (by omega)
  obtain ⟨_, _, h3, h4, h5, h6⟩ := h
  obtain ⟨_, _, k3, k4, k5, k6⟩ := k
  unfold valD at hv
  obtain ⟨rfl, rfl⟩ := month_one (leapV y) m d n e h3 h4 h5 h6 k3 k4 k5 k6 (by omega)
  exact ⟨rfl, rfl, rfl⟩
theorem split_ok (day : Int) (h : 0 ≤ day) (h2 : day ≤ 73048) : okD (splitV day).1 (splitV day).2.1 (splitV day).2.2 ∧ valD (splitV day).1 (splitV day).2.1 (splitV day).2.2 = day := by
  obtain ⟨s1, s2, s3, s4, s5, s6, s7, s8⟩ := splitV_spec day h h2
  exact ⟨⟨s1, s2, s3, s4, s5, s7⟩, s8⟩
theorem split_of (y m d : Int) (h : okD y m d) : splitV (valD y m d) = (y, m, d) := by
  obtain ⟨r1, r2⟩ := val_range y m d h
  obtain ⟨k1, k2⟩ := split_ok (valD y m d) r1 r2
  obtain ⟨e1, e2, e3⟩ := val_inj _ _ _ _ _ _ k1 h k2
  exact Prod.ext e1 (Prod.ext e2 e3)
theorem of_split (day : Int) (h : 0 ≤ day) (h2 : day ≤ 73048) : ofV (splitV day).1 (splitV day).2.1 (splitV day).2.2 = (day, 0) := by
  obtain ⟨k1, k2⟩ := split_ok day h h2
  rw [of_ok _ _ _ k1, k2]
theorem split_val (day : Int) (h : 0 ≤ day) (h2 : day ≤ 73048) : date_Split.f day = some ((splitV day).1, (splitV day).2.1, (splitV day).2.2, 0) := by
  unfold date_Split.f; rw [if_neg (by omega)]
theorem split_no (day : Int) (h : day < 0 ∨ day > 73048) : date_Split.f day = some (0, 0, 0, 15) := by
  unfold date_Split.f; rw [if_pos h]
/-! ### texts in their order, and the next day's date -/
theorem toB_list (l : List Int) : (toB l).toList = l.map fun n => UInt8.ofNat n.toNat := by rw [ByteArray.toList_eq]; simp [toB]
def lexL : List Int → List Int → Prop
  | a :: l, b :: l' => a < b ∨ (a = b ∧ lexL l l')
  | _, _ => False
theorem less_of : ∀ (l l' : List Int), (∀ x ∈ l, 0 ≤ x ∧ x ≤ 255) → (∀ x ∈ l', 0 ≤ x ∧ x ≤ 255) → lexL l l' → Op.bytesLess (l.map fun n => UInt8.ofNat n.toNat) (l'.map fun n => UInt8.ofNat n.toNat) = true
  | [], l', _, _, h => by cases l' <;> exact h.elim
  | a :: l, [], _, _, h => h.elim
  | a :: l, b :: l', h1, h2, h => by
    have ha := h1 a List.mem_cons_self
    have hb := h2 b List.mem_cons_self
    simp only [List.map_cons, Op.bytesLess]
    rcases h with h | ⟨rfl, h⟩
    · have : UInt8.ofNat a.toNat < UInt8.ofNat b.toNat := by
        rw [UInt8.lt_iff_toNat_lt, UInt8.toNat_ofNat', UInt8.toNat_ofNat']
        omega
      rw [decide_eq_true this]; rfl
    · rw [less_of l l' (fun x hx => h1 x (List.mem_cons_of_mem _ hx)) (fun x hx => h2 x (List.mem_cons_of_mem _ hx)) h]
      simp
theorem row_bytes (y m d : Int) (h : okD y m d) : ∀ x ∈ rowP y m d false false false, 0 ≤ x ∧ x ≤ 255 := by
  obtain ⟨h1, h2, h3, h4, h5, h6⟩ := h
  have := (dl_range (leapV y) m h3 h4).2
  exact rowP_bytes y m d (by omega) (by omega) h3 h4 h5 (by omega)
theorem next_date (day : Int) (h : 0 ≤ day) (h2 : day < 73048) :
    ((splitV day).2.2 < dlen (splitV day).1 (splitV day).2.1 ∧ splitV (day + 1) = ((splitV day).1, (splitV day).2.1, (splitV day).2.2 + 1)) ∨
    ((splitV day).2.2 = dlen (splitV day).1 (splitV day).2.1 ∧ (splitV day).2.1 < 12 ∧ splitV (day + 1) = ((splitV day).1, (splitV day).2.1 + 1, 1)) ∨
    ((splitV day).2.2 = dlen (splitV day).1 (splitV day).2.1 ∧ (splitV day).2.1 = 12 ∧ splitV (day + 1) = ((splitV day).1 + 1, 1, 1)) := by
  obtain ⟨k1, k2⟩ := split_ok day h (by omega)
  generalize (splitV day).1 = y at *
  generalize (splitV day).2.1 = m at *
  generalize (splitV day).2.2 = d at *
  have hk := k1
  obtain ⟨h3, h4, h5, h6, h7, h8⟩ := k1
  rw [dlen_in y m h5 h6]
  have hv := k2
  unfold valD at hv
  have e1 := msum_at (leapV y) m h5
  by_cases c : d < dl (leapV y) m
  · refine .inl ⟨c, ?_⟩
    have := split_of y m (d + 1) ⟨h3, h4, h5, h6, by omega, by omega⟩
    rw [show valD y m (d + 1) = day + 1 by unfold valD; omega] at this
    exact this
  · have hd : d = dl (leapV y) m := by omega
    by_cases c2 : m < 12
    · refine .inr (.inl ⟨hd, c2, ?_⟩)
      have hr := dl_range (leapV y) (m + 1) (by omega) (by omega)
      have := split_of y (m + 1) 1 ⟨h3, h4, by omega, by omega, by omega, by omega⟩
      rw [show valD y (m + 1) 1 = day + 1 by unfold valD; rw [show (m + 1).toNat - 1 = m.toNat by omega]; omega] at this
      exact this
    · obtain rfl : m = 12 := by omega
      refine .inr (.inr ⟨hd, rfl, ?_⟩)
      have hst := start_step y h3 h4
      have e1 : msum (leapV y) 12 = msum (leapV y) 11 + dl (leapV y) 12 := e1
      have hv : startD y + d - 1 + msum (leapV y) 11 = day := hv
      have hy : y + 1 ≤ 2199 := by
        apply Classical.byContradiction
        intro hy
        obtain rfl : y = 2199 := by omega
        rw [show startD (2199 + 1) = 73049 from rfl] at hst
        omega
      have hr := dl_range (leapV (y + 1)) 1 (by omega) (by omega)
      have := split_of (y + 1) 1 1 ⟨by omega, hy, by omega, by omega, by omega, by omega⟩
      rw [show valD (y + 1) 1 1 = day + 1 by unfold valD; rw [show (1 : Int).toNat - 1 = 0 from rfl, show msum (leapV (y + 1)) 0 = 0 from rfl]; omega] at this
      exact this
theorem print_val (day : Int) (h : 0 ≤ day) (h2 : day ≤ 73048) : date_Print.f day = some (printB (splitV day)) := by
  unfold date_Print.f; rw [if_neg (by omega)]
theorem print_no (day : Int) (h : day < 0 ∨ day > 73048) : date_Print.f day = some (⟨#[]⟩ : ByteArray) := by
  unfold date_Print.f; rw [if_pos h]
theorem print_less (day : Int) (h : 0 ≤ day) (h2 : day < 73048) : Op.bytesLess (printB (splitV day)).toList (printB (splitV (day + 1))).toList = true := by
  obtain ⟨k1, k2⟩ := split_ok day h (by omega)
  obtain ⟨n1, n2⟩ := split_ok (day + 1) (by omega) (by omega)
  have hn := next_date day h h2
  unfold printB
  rw [toB_list, toB_list]
  refine less_of _ _ (row_bytes _ _ _ k1) (row_bytes _ _ _ n1) ?_
  generalize (splitV day).1 = y at *
  generalize (splitV day).2.1 = m at *
  generalize (splitV day).2.2 = d at *
  have hb := (dl_range (leapV y) m k1.2.2.1 k1.2.2.2.1).2
  obtain ⟨h3, h4, h5, h6, h7, h8⟩ := k1
  have hdl := dlen_in y m h5 h6
  rcases hn with ⟨c, e⟩ | ⟨c, c2, e⟩ | ⟨c, c2, e⟩
  · rw [e]; simp only [rowP, lexL, Bool.false_eq_true, if_false, Int.lt_irrefl, true_and, false_or, and_false, or_false]; omega
  · rw [e]; simp only [rowP, lexL, Bool.false_eq_true, if_false, Int.lt_irrefl, true_and, false_or, and_false, or_false]; omega
  · rw [e]; simp only [rowP, lexL, Bool.false_eq_true, if_false, Int.lt_irrefl, true_and, false_or, and_false, or_false]; omega
theorem next_j0 (day : Int) : Ev (fun k => contangolaw05_DateNext.j0 k day true) true := by
  refine Ev.step (fun _ => by rw [contangolaw05_DateNext.j0]) ?_
  exact ev_pos rfl (ev_bnd' goes05 (ev_some rfl))
theorem DateNext : contangolaw05_DateNext.Pure := by
  intro day _
  refine Ev.rounds ?_
  unfold contangolaw05_DateNext.f
  by_cases c1 : day < 0
  · exact ev_pos c1 (next_j0 day)
  refine ev_neg c1 ?_
  by_cases c2 : day ≥ 73048
  · rw [decide_eq_true c2]; exact next_j0 day
  rw [decide_eq_false c2]
  have hn := next_date day (by omega) (by omega)
  have hl := print_less day (by omega) (by omega)
  refine Ev.step (fun _ => by rw [contangolaw05_DateNext.j0]) ?_
  refine ev_neg (by decide) (ev_val (split_val day (by omega) (by omega)) ?_)
  rw [w64id' (day + 1) (by omega) (by omega)]
  refine ev_val (split_val (day + 1) (by omega) (by omega)) (ev_pos rfl (ev_pos rfl (ev_val (print_val day (by omega) (by omega)) (ev_val (print_val (day + 1) (by omega) (by omega)) (ev_pos hl (ev_val (wd_val _) (ev_val (wd_val _) ?_)))))))
  have hw : (wdV (day + 1) != wrap64 (Int.tmod (wdV day) 7 + 1)) = false := by
    unfold wdV
    rw [if_pos (by omega), if_pos (by omega), Int.tmod_eq_emod_of_nonneg (by omega), w64id' _ (by omega) (by omega)]
    exact bne_eq_false_iff_eq.2 (by omega)
  rw [hw]
  clear hw hl
  obtain ⟨k1, k2⟩ := split_ok day (by omega) (by omega)
  generalize (splitV day).1 = y at *
  generalize (splitV day).2.1 = m at *
  generalize (splitV day).2.2 = d at *
  have hb := (dl_range (leapV y) m k1.2.2.1 k1.2.2.2.1).2
  obtain ⟨h3, h4, h5, h6, h7, h8⟩ := k1
  have hdl := dlen_in y m h5 h6
  refine Ev.step (fun _ => by rw [contangolaw05_DateNext.j1]) ?_
  refine ev_neg (by decide) (ev_val (show date_Days.f y m = some (dlen y m) from rfl) ?_)
  dsimp only
  rcases hn with ⟨c, e⟩ | ⟨c, c2, e⟩ | ⟨c, c2, e⟩
  · rw [e]
    dsimp only
    exact ev_pos c (ev_pos rfl (ev_pos rfl (ev_pos (by rw [w64id' _ (by omega) (by omega)]) (ev_bnd' goes05 (ev_some rfl)))))
  · rw [e]
    dsimp only
    exact ev_neg (by omega) (ev_pos c2 (ev_pos rfl (ev_pos (by rw [w64id' _ (by omega) (by omega)]) (ev_pos rfl (ev_bnd' goes05 (ev_some rfl))))))
  · rw [e]
    dsimp only
    exact ev_neg (by omega) (ev_neg (by omega) (ev_pos (by rw [w64id' _ (by omega) (by omega)]) (ev_pos rfl (ev_pos rfl (ev_bnd' goes05 (ev_some rfl))))))
end Go.Proofs.YtmhlajgeihjaeaaDoor.Pure
