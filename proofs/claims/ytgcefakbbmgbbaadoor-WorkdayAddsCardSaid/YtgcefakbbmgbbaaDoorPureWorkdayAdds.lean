/- The pure statement of the law WorkdayAdds, proved: plain Lean over numbers and lists, no program in sight. -/
import Derived.Test.YtgcefakbbmgbbaaDoorPWorkdayAddsx5
namespace Go.Proofs.YtgcefakbbmgbbaaDoor.Pure
open Go.RowKit Go.Proofs.YtgcefakbbmgbbaaDoor.PWorkdayAdds Go.Proofs.YtgcefakbbmgbbaaDoorW.PrintWords Go.Proofs.YtgcefakbbmgbbaaDoorW.PrintLast Go.Proofs.YtgcefakbbmgbbaaDoorW.PrintMore
set_option linter.unusedVariables false
set_option linter.unusedSimpArgs false
/-! ### from some number of rounds on: steps -/
theorem ev_pos {α : Type} {c : Prop} [Decidable c] {a b : Nat → Option α} {r : α} (h : c) (k : Ev a r) : Ev (fun n => if c then a n else b n) r := Ev.congr (fun _ => if_pos h) k
theorem ev_neg {α : Type} {c : Prop} [Decidable c] {a b : Nat → Option α} {r : α} (h : ¬ c) (k : Ev b r) : Ev (fun n => if c then a n else b n) r := Ev.congr (fun _ => if_neg h) k
theorem ev_val {α β : Type} {g : Option α} {f : Nat → α → Option β} {a : α} {r : β} (h : g = some a) (k : Ev (fun n => f n a) r) : Ev (fun n => g.bind (f n)) r := by
  subst h; exact k
theorem ev_some {α : Type} {x r : α} (h : x = r) : Ev (fun _ => some x) r := h ▸ Ev.now x
theorem ev_rw {α : Type} {g : Nat → Option α} {r s : α} (h : r = s) (k : Ev g r) : Ev g s := h ▸ k
theorem wsucc (i : Nat) (h : i ≤ 4611686018427387904) : wrap64 ((i : Int) + 1) = ((i + 1 : Nat) : Int) := by
  unfold wrap64; omega
theorem rd_nat (l : List Int) (i : Nat) : rd l (i : Int) = l.getD i 0 := rfl
/-! ### dates: what the functions tell -/
theorem w64id' (x : Int) (h0 : -9223372036854775808 ≤ x) (h1 : x ≤ 9223372036854775807) : wrap64 x = x := by unfold wrap64; omega
theorem ev_bnd' {α β : Type} {g : Nat → Option α} {f : Nat → α → Option β} {a : α} {r : β} (h : Ev g a) (k : Ev (fun n => f n a) r) : Ev (fun n => (g n).bind (f n)) r := h.bind k
def ofV (y m d : Int) : Int × Int := if y < 2000 ∨ y > 2199 ∨ d < 1 ∨ d > dlen y m then (0, 15) else (startD y + d - 1 + msum (leapV y) (m.toNat - 1), 0)
theorem of_val (y m d : Int) : date_Of.f y m d = some (ofV y m d) := rfl
def wdV (day : Int) : Int := if 0 ≤ day ∧ day ≤ 73048 then (day + 5) % 7 + 1 else 0
theorem here_val (day : Int) : date_here.f day = some (decide (0 ≤ day ∧ day ≤ 73048)) := by
  unfold date_here.f
  by_cases h : day ≥ 0
  · rw [if_pos h]
    by_cases h2 : day ≤ 73048
    · rw [decide_eq_true h2, decide_eq_true (show 0 ≤ day ∧ day ≤ 73048 from ⟨h, h2⟩)]
    · rw [decide_eq_false h2, decide_eq_false (show ¬ (0 ≤ day ∧ day ≤ 73048) from fun x => h2 x.2)]
  · rw [if_neg h, decide_eq_false (show ¬ (0 ≤ day ∧ day ≤ 73048) from fun x => h x.1)]
theorem wd_val (day : Int) : date_Weekday.f day = some (wdV day) := by
  unfold date_Weekday.f wdV
  rw [here_val, Option.bind_some]
  by_cases h : 0 ≤ day ∧ day ≤ 73048
  · rw [decide_eq_true h, if_pos rfl, if_pos h, w64id' (day + 5) (by omega) (by omega), Int.tmod_eq_emod_of_nonneg (by omega), w64id' _ (by omega) (by omega)]
  · rw [decide_eq_false h, if_neg (by decide), if_neg h]
def nthD (y m wd n : Int) : Int := 1 + (wd - wdV (ofV y m 1).1 + 7) % 7 + 7 * (n - 1)
def nthV (y m wd n : Int) : Int × Int := if wd < 1 ∨ wd > 7 ∨ n < 1 ∨ n > 5 then (0, 2) else if (ofV y m 1).2 = 0 then ofV y m (nthD y m wd n) else (0, (ofV y m 1).2)
theorem wdV_range (day : Int) : 0 ≤ wdV day ∧ wdV day ≤ 7 := by
  unfold wdV; split <;> omega
theorem nth_bad (y m wd n : Int) : Ev (fun k => date_Nth.j0 k y m wd n true) (0, 2) := by
  refine Ev.step (fun _ => by rw [date_Nth.j0]) ?_
  exact ev_pos rfl (ev_some rfl)
theorem nth_ev (y m wd n : Int) : Ev (fun k => date_Nth.f k y m wd n) (nthV y m wd n) := by
  unfold date_Nth.f nthV
  by_cases c1 : wd < 1
  · rw [if_pos (show wd < 1 ∨ wd > 7 ∨ n < 1 ∨ n > 5 from .inl c1)]; exact ev_pos c1 (nth_bad _ _ _ _)
  refine ev_neg c1 ?_
  by_cases c2 : wd > 7
  · rw [if_pos (show wd < 1 ∨ wd > 7 ∨ n < 1 ∨ n > 5 from .inr (.inl c2))]; exact ev_pos c2 (nth_bad _ _ _ _)
  refine ev_neg c2 ?_
  by_cases c3 : n < 1
  · rw [if_pos (show wd < 1 ∨ wd > 7 ∨ n < 1 ∨ n > 5 from .inr (.inr (.inl c3)))]; exact ev_pos c3 (nth_bad _ _ _ _)
  refine ev_neg c3 ?_
  by_cases c4 : n > 5
  · rw [if_pos (show wd < 1 ∨ wd > 7 ∨ n < 1 ∨ n > 5 from .inr (.inr (.inr c4))), decide_eq_true c4]; exact nth_bad _ _ _ _
  rw [if_neg (by omega), decide_eq_false c4]
  refine Ev.step (fun _ => by rw [date_Nth.j0]) ?_
  refine ev_neg (by decide) (ev_val (of_val _ _ _) ?_)
  by_cases h0 : (ofV y m 1).2 = 0
  · refine ev_rw (if_pos h0).symm ?_
    refine ev_pos h0 (ev_val (wd_val _) (ev_val (of_val _ _ _) (ev_some ?_)))
    have hr := wdV_range (ofV y m 1).1
    unfold nthD
    generalize wdV (ofV y m 1).1 = q at *
    rw [w64id' (wd - q) (by omega) (by omega), w64id' (wd - q + 7) (by omega) (by omega), Int.tmod_eq_emod_of_nonneg (by omega), w64id' (n - 1) (by omega) (by omega), w64id' (7 * (n - 1)) (by omega) (by omega), w64id' (1 + _) (by omega) (by omega), w64id' (1 + _ + _) (by omega) (by omega)]
  · refine ev_rw (if_neg h0).symm ?_
    exact ev_neg h0 (ev_some rfl)
/-! ### working days: what the program's functions tell -/
def stepV (l : List Int) (d by_ : Int) : Int × Int := if chk2 l [d] = 0 then scanV 73050 l (d + by_) by_ else (0, chk2 l [d])
def worksV (l : List Int) (d : Int) : Bool × Int := if chk2 l [d] = 0 then (workV l d, 0) else (false, chk2 l [d])
theorem works_val (l : List Int) (d : Int) : workday_Works.f l d = some (worksV l d) := rfl
theorem step_val (l : List Int) (d : Int) : workday_step.f l d 1 = some (stepV l d 1) ∧ workday_step.f l d (-1) = some (stepV l d (-1)) := by
  unfold workday_step.f stepV
  exact ⟨by rw [if_pos (Or.inl rfl)], by rw [if_pos (Or.inr rfl)]⟩
theorem next_val (l : List Int) (d : Int) : workday_Next.f l d = some (stepV l d 1) := by
  unfold workday_Next.f
  rw [(step_val l d).1]; rfl
theorem before_val (l : List Int) (d : Int) : workday_Before.f l d = some (stepV l d (-1)) := by
  unfold workday_Before.f
  rw [(step_val l d).2]; rfl
def onV (l : List Int) (d : Int) : Int × Int := if (worksV l d).2 = 0 then (if (worksV l d).1 = true then (d, 0) else stepV l d 1) else (0, (worksV l d).2)
theorem on_val (l : List Int) (d : Int) : workday_On.f l d = some (onV l d) := by
  unfold workday_On.f onV
  rw [works_val, Option.bind_some, next_val]
  by_cases h : (worksV l d).2 = 0
  · rw [if_pos h, if_pos h]
    by_cases h2 : (worksV l d).1 = true
    · rw [if_pos h2, if_pos h2]
    · rw [if_neg h2, if_neg h2]; rfl
  · rw [if_neg h, if_neg h]
def addV (l : List Int) (d n : Int) : Int × Int := if n = 0 then onV l d else if chk2 l [d] = 0 then addGo 73050 l (d + addBy n) (addBy n) n else (0, chk2 l [d])
theorem add_val (l : List Int) (d n : Int) : workday_Add.f l d n = some (addV l d n) := by
  unfold workday_Add.f addV
  by_cases h : n = 0
  · rw [if_pos h, if_pos h, on_val]
  · rw [if_neg h, if_neg h]
def countV (l : List Int) (a b : Int) : Int × Int := if chk2 l [a, b] = 0 then (cntGo (b - a + 1).toNat l a 0, 0) else (0, chk2 l [a, b])
theorem count_val (l : List Int) (a b : Int) : workday_Count.f l a b = some (countV l a b) := rfl
def expV (l : List Int) (y m : Int) : Int × Int := if chkV l = 0 then (if (nthV y m 5 3).2 = 0 then (if workV l (nthV y m 5 3).1 = true then ((nthV y m 5 3).1, 0) else stepV l (nthV y m 5 3).1 (-1)) else (0, (nthV y m 5 3).2)) else (0, chkV l)
theorem exp_ev (l : List Int) (y m : Int) : Ev (fun k => workday_Expiry.f k l y m) (expV l y m) := by
  unfold workday_Expiry.f expV
  by_cases h : chkV l = 0
  · rw [if_pos h]
    refine ev_pos h (ev_bnd' (nth_ev y m 5 3) ?_)
    by_cases h1 : (nthV y m 5 3).2 = 0
    · refine ev_rw (if_pos h1).symm (ev_pos h1 ?_)
      by_cases h2 : workV l (nthV y m 5 3).1 = true
      · exact ev_rw (if_pos h2).symm (ev_pos h2 (ev_some rfl))
      · refine ev_rw (if_neg h2).symm (ev_neg h2 ?_)
        exact ⟨0, fun _ _ => before_val l _⟩
    · exact ev_rw (if_neg h1).symm (ev_neg h1 (ev_some rfl))
  · rw [if_neg h]
    exact ev_neg h (ev_some rfl)
theorem chk2_one (l : List Int) (d : Int) : chk2 l [d] = if chkV l = 0 then (if isV d = true then 0 else 15) else chkV l := by
  unfold chk2; simp only [List.all_cons, List.all_nil, Bool.and_true]
theorem chk2_two (l : List Int) (a b : Int) : chk2 l [a, b] = if chkV l = 0 then (if (isV a && isV b) = true then 0 else 15) else chkV l := by
  unfold chk2; simp only [List.all_cons, List.all_nil, Bool.and_true]
theorem isV_iff (d : Int) : isV d = true ↔ 0 ≤ d ∧ d ≤ 73048 := by unfold isV; simp
theorem workV_in (l : List Int) (d : Int) (h : workV l d = true) : 0 ≤ d ∧ d ≤ 73048 := by
  unfold workV at h
  simp only [Bool.and_eq_true] at h
  exact (isV_iff d).1 h.1.1
theorem goes06 : Ev (fun k => contangolaw06_goes.f k) true := by
  unfold contangolaw06_goes.f
  refine ev_val (show workday_Next.f ([] : List Int) 0 = some (2, 0) by decide +kernel) (ev_val (show workday_Next.f ([2] : List Int) 0 = some (3, 0) by decide +kernel) (ev_val (show workday_Before.f ([] : List Int) 2 = some (0, 15) by decide +kernel) (ev_val (show workday_Add.f ([] : List Int) 2 5 = some (9, 0) by decide +kernel) (ev_val (show workday_Count.f ([] : List Int) 0 9 = some (6, 0) by decide +kernel) (ev_bnd' (ev_rw (show expV [20] 2000 1 = (19, 0) by decide +kernel) (exp_ev [20] 2000 1)) ?_)))))
  exact ev_pos rfl (ev_pos rfl (ev_pos rfl (ev_pos rfl (ev_pos rfl (ev_pos rfl (ev_pos rfl (ev_pos rfl (ev_pos rfl (ev_pos rfl (ev_some rfl))))))))))
theorem few_val (l : List Int) : contangolaw06_few.f l = some (decide (l.length ≤ 40 ∨ l.length > 1024)) := by
  unfold contangolaw06_few.f
  by_cases h : l.length ≤ 40
  · rw [if_pos (by omega), decide_eq_true (.inl h)]
  · rw [if_neg (by omega)]
    by_cases h2 : l.length > 1024
    · rw [decide_eq_true (show (l.length : Int) > 1024 by omega), decide_eq_true (.inr h2)]
    · rw [decide_eq_false (show ¬ (l.length : Int) > 1024 by omega), decide_eq_false (by omega)]
/-! ### working days: the document's functions -/
theorem w64s (i : Nat) (h : i ≤ 4611686018427387904) : wrap64 ((i : Int) + 1) = ((i + 1 : Nat) : Int) := by unfold wrap64; omega
theorem refcheck_go (l : List Int) (hl : l.length ≤ 1024) (n : Nat) : ∀ i : Nat, i + n = l.length → Ev (fun k => contangoref06_Check.l0 k l (i : Int)) (chkFrom (if i = 0 then -1 else rd l ((i : Int) - 1)) (l.drop i)) := by
  induction n with
  | zero =>
    intro i hi
    obtain rfl : i = l.length := by omega
    rw [List.drop_length]
    refine Ev.step (fun _ => by rw [contangoref06_Check.l0]) ?_
    exact ev_neg (by omega) (ev_some rfl)
  | succ n ih =>
    intro i hi
    have hlt : i < l.length := by omega
    rw [rd_drop l i hlt, chkFrom]
    have ih := ih (i + 1) (by omega)
    rw [if_neg (by omega), show ((i + 1 : Nat) : Int) - 1 = (i : Int) by omega] at ih
    have bad : Ev (fun k => contangoref06_Check.j1 k l (i : Int) true) 15 := by
      refine Ev.step (fun _ => by rw [contangoref06_Check.j1]) ?_
      exact ev_pos rfl (ev_some rfl)
    refine Ev.step (fun _ => by rw [contangoref06_Check.l0]) ?_
    refine ev_pos (by omega) (ev_pos (by omega) ?_)
    cases hv : isV (rd l (i : Int)) with
    | false =>
      rw [if_neg (show ¬ (false = true) by decide)]
      have hn : ¬ (0 ≤ rd l (i : Int) ∧ rd l (i : Int) ≤ 73048) := fun h => by rw [(isV_iff _).2 h] at hv; cases hv
      by_cases h0 : rd l (i : Int) < 0
      · exact ev_pos h0 bad
      · refine ev_neg h0 ?_
        rw [decide_eq_true (by omega)]
        exact bad
    | true =>
      have hy := (isV_iff _).1 hv
      rw [if_pos rfl]
      refine ev_neg (by omega) ?_
      rw [decide_eq_false (by omega)]
      refine Ev.step (fun _ => by rw [contangoref06_Check.j1]) ?_
      refine ev_neg (by decide) ?_
      rw [w64s i (by omega)]
      by_cases h0 : i = 0
      · subst h0
        rw [if_pos rfl, if_neg (by omega)]
        exact ev_neg (by decide) ih
      · rw [if_neg h0]
        refine ev_pos (by omega) (ev_pos (by omega) (ev_pos (by omega) ?_))
        rw [w64id' _ (by omega) (by omega)]
        refine ev_pos (by omega) (ev_pos (by omega) ?_)
        by_cases hle : rd l (i : Int) ≤ rd l ((i : Int) - 1)
        · rw [if_pos hle]
          exact ev_pos hle (ev_some rfl)
        · rw [if_neg hle]
          exact ev_neg hle ih
theorem refcheck (l : List Int) : Ev (fun k => contangoref06_Check.f k l) (chkV l) := by
  unfold contangoref06_Check.f chkV
  by_cases h : l.length > 1024
  · rw [if_pos h]
    exact ev_pos (by omega) (ev_some rfl)
  · rw [if_neg h]
    refine ev_neg (by omega) ?_
    have := refcheck_go l (by omega) l.length 0 (by omega)
    rw [if_pos rfl, List.drop_zero] at this
    exact this
theorem refworks_go (l : List Int) (hl : l.length ≤ 1024) (d : Int) (hd : 0 ≤ d) (n : Nat) : ∀ i : Nat, i + n = l.length → Ev (fun k => contangoref06_works.l0 k l d (i : Int)) (decide (d % 7 > 1) && !decide (d ∈ l.drop i)) := by
  induction n with
  | zero =>
    intro i hi
    obtain rfl : i = l.length := by omega
    rw [List.drop_length]
    refine Ev.step (fun _ => by rw [contangoref06_works.l0]) ?_
    refine ev_neg (by omega) (ev_some ?_)
    rw [Int.tmod_eq_emod_of_nonneg hd]; simp
  | succ n ih =>
    intro i hi
    have ih := ih (i + 1) (by omega)
    refine Ev.step (fun _ => by rw [contangoref06_works.l0]) ?_
    refine ev_pos (by omega) (ev_pos (by omega) ?_)
    rw [w64s i (by omega), rd_drop l i (by omega)]
    by_cases he : rd l (i : Int) = d
    · refine ev_pos he (ev_some ?_)
      rw [decide_eq_true (show d ∈ rd l (i : Int) :: l.drop (i + 1) by rw [he]; exact List.mem_cons_self)]; simp
    · refine ev_neg he (ev_rw ?_ ih)
      have : (d ∈ rd l (i : Int) :: l.drop (i + 1)) = (d ∈ l.drop (i + 1)) := by
        rw [List.mem_cons]; exact propext ⟨fun h => h.resolve_left (fun h => he h.symm), Or.inr⟩
      rw [show decide (d ∈ rd l (i : Int) :: l.drop (i + 1)) = decide (d ∈ l.drop (i + 1)) from decide_eq_decide.2 (by rw [this])]
theorem refworks (l : List Int) (h : chkV l = 0) (d : Int) (hd : 0 ≤ d) (hd2 : d ≤ 73048) : Ev (fun k => contangoref06_works.f k l d) (workV l d) := by
  have := refworks_go l (chkV_srt l h).1 d hd l.length 0 (by omega)
  rw [List.drop_zero] at this
  unfold contangoref06_works.f workV
  rw [(isV_iff d).2 ⟨hd, hd2⟩, Bool.true_and]
  exact this
theorem refWorks (l : List Int) (d : Int) : Ev (fun k => contangoref06_Works.f k l d) (worksV l d) := by
  unfold contangoref06_Works.f worksV
  rw [chk2_one]
  refine ev_bnd' (refcheck l) ?_
  by_cases h : chkV l = 0
  · rw [if_pos h]
    refine ev_pos h ?_
    by_cases hv : isV d = true
    · rw [if_pos hv, if_pos rfl]
      have := (isV_iff d).1 hv
      exact ev_neg (by omega) (ev_neg (by omega) (ev_bnd' (refworks l h d this.1 this.2) (ev_some rfl)))
    · rw [if_neg hv, if_neg (by decide)]
      have : ¬ (0 ≤ d ∧ d ≤ 73048) := fun h => hv ((isV_iff d).2 h)
      by_cases h0 : d < 0
      · exact ev_pos h0 (ev_some rfl)
      · exact ev_neg h0 (ev_pos (by omega) (ev_some rfl))
  · rw [if_neg h, if_neg h]
    exact ev_neg h (ev_some rfl)
def towGo : Nat → List Int → Int → Int → Int → Int × Int
  | 0, _, _, _, _ => (0, 15)
  | f + 1, l, d, by_, n => if isV d = true then (if workV l d = true then (if wrap64 (n - 1) = 0 then (d, 0) else towGo f l (d + by_) by_ (wrap64 (n - 1))) else (if n = 0 then (d, 0) else towGo f l (d + by_) by_ n)) else (0, 15)
def towV (l : List Int) (d n by_ : Int) : Int × Int := if chk2 l [d] = 0 then towGo 73050 l (d + by_) by_ n else (0, chk2 l [d])
theorem toward_go (l : List Int) (h : chkV l = 0) (by_ : Int) (hb : by_ = 1 ∨ by_ = -1) (f : Nat) : ∀ d n : Int, -1 ≤ d → d ≤ 73049 → 0 < f → (by_ = 1 → 73049 - d < f) → (by_ = -1 → d + 1 < f) → Ev (fun k => contangoref06_toward.l0 k l n by_ d) (towGo f l d by_ n) := by
  induction f with
  | zero => intro d n _ _ h; omega
  | succ f ih =>
    intro d n h0 h1 _ hu hd
    have bad : Ev (fun k => contangoref06_toward.j1 k l n by_ d false) (0, 15) := by
      refine Ev.step (fun _ => by rw [contangoref06_toward.j1]) ?_
      exact ev_neg (by decide) (ev_some rfl)
    refine Ev.step (fun _ => by rw [contangoref06_toward.l0]) ?_
    rw [towGo]
    by_cases hv : isV d = true
    · rw [if_pos hv]
      have hy := (isV_iff d).1 hv
      have ih := fun n => ih (d + by_) n (by omega) (by omega) (by omega) (by omega) (by omega)
      refine ev_pos hy.1 ?_
      rw [decide_eq_true hy.2]
      refine Ev.step (fun _ => by rw [contangoref06_toward.j1]) ?_
      refine ev_pos rfl (ev_bnd' (refworks l h d hy.1 hy.2) ?_)
      rw [w64id' (d + by_) (by omega) (by omega)]
      by_cases hw : workV l d = true
      · refine ev_rw (if_pos hw).symm (ev_pos hw ?_)
        by_cases hz : wrap64 (n - 1) = 0
        · exact ev_rw (if_pos hz).symm (ev_pos hz (ev_some rfl))
        · exact ev_rw (if_neg hz).symm (ev_neg hz (ih _))
      · refine ev_rw (if_neg hw).symm (ev_neg hw ?_)
        by_cases hz : n = 0
        · exact ev_rw (if_pos hz).symm (ev_pos hz (ev_some rfl))
        · exact ev_rw (if_neg hz).symm (ev_neg hz (ih _))
    · rw [if_neg hv]
      have : ¬ (0 ≤ d ∧ d ≤ 73048) := fun h => hv ((isV_iff d).2 h)
      by_cases h0 : d ≥ 0
      · refine ev_pos h0 ?_
        rw [decide_eq_false (by omega)]
        exact bad
      · exact ev_neg h0 bad
theorem toward (l : List Int) (d n by_ : Int) (hb : by_ = 1 ∨ by_ = -1) : Ev (fun k => contangoref06_toward.f k l d n by_) (towV l d n by_) := by
  unfold contangoref06_toward.f towV
  refine ev_bnd' (refWorks l d) ?_
  unfold worksV
  by_cases hz : chk2 l [d] = 0
  · rw [if_pos hz, if_pos hz]
    refine ev_pos rfl ?_
    obtain ⟨h0, h1⟩ := chk2_in l [d] d hz (by simp)
    have hc : chkV l = 0 := by
      unfold chk2 at hz
      apply Classical.byContradiction; intro hc
      rw [if_neg hc] at hz; exact hc hz
    rw [w64id' (d + by_) (by omega) (by omega)]
    exact toward_go l hc by_ hb 73050 (d + by_) n (by omega) (by omega) (by omega) (by omega) (by omega)
  · rw [if_neg hz, if_neg hz]
    exact ev_neg hz (ev_some rfl)
theorem tow_scan (l : List Int) (by_ : Int) (f : Nat) : ∀ d : Int, towGo f l d by_ 1 = scanV f l d by_ := by
  induction f with
  | zero => intro d; rfl
  | succ f ih =>
    intro d
    rw [towGo, scanV, ih, show wrap64 (1 - 1) = 0 from by unfold wrap64; omega, if_pos rfl, if_neg (show ¬ (1 : Int) = 0 by decide)]
theorem refnext (l : List Int) (d : Int) : Ev (fun k => contangoref06_Next.f k l d) (stepV l d 1) := by
  unfold contangoref06_Next.f
  have := toward l d 1 1 (.inl rfl)
  unfold towV at this
  rw [tow_scan] at this
  exact ev_bnd' this (ev_some rfl)
theorem refon (l : List Int) (d : Int) : Ev (fun k => contangoref06_On.f k l d) (onV l d) := by
  unfold contangoref06_On.f onV
  refine ev_bnd' (refWorks l d) ?_
  by_cases h : (worksV l d).2 = 0
  · refine ev_rw (if_pos h).symm (ev_pos h ?_)
    by_cases h2 : (worksV l d).1 = true
    · exact ev_rw (if_pos h2).symm (ev_pos h2 (ev_some rfl))
    · exact ev_rw (if_neg h2).symm (ev_neg h2 (ev_bnd' (refnext l d) (ev_some rfl)))
  · exact ev_rw (if_neg h).symm (ev_neg h (ev_some rfl))
theorem add_up_tow (l : List Int) (f : Nat) : ∀ d n : Int, addGo f l d 1 n = towGo f l d 1 n := by
  induction f with
  | zero => intro d n; rfl
  | succ f ih => intro d n; rw [addGo, towGo, ih, ih]
theorem add_down_tow (l : List Int) (f : Nat) : ∀ d n : Int, n < 0 → -9223372036854775808 < n → addGo f l d (-1) n = towGo f l d (-1) (-n) := by
  induction f with
  | zero => intro d n _ _; rfl
  | succ f ih =>
    intro d n h0 h1
    rw [addGo, towGo, w64id' (n - -1) (by omega) (by omega), w64id' (-n - 1) (by omega) (by omega)]
    by_cases hz : n - -1 = 0
    · rw [if_pos hz, if_pos (show -n - 1 = 0 by omega), if_neg (show ¬ n = 0 by omega), if_neg (show ¬ -n = 0 by omega), ih _ n h0 h1]
    · rw [if_neg hz, if_neg (show ¬ -n - 1 = 0 by omega), if_neg (show ¬ n = 0 by omega), if_neg (show ¬ -n = 0 by omega), ih _ n h0 h1, ih _ (n - -1) (by omega) (by omega), show -(n - -1) = -n - 1 by omega]
theorem tow_none (l : List Int) (by_ : Int) (f : Nat) : ∀ d n : Int, (f : Int) < n → n ≤ 9223372036854775807 → towGo f l d by_ n = (0, 15) := by
  induction f with
  | zero => intro d n _ _; rfl
  | succ f ih =>
    intro d n h0 h1
    rw [towGo, w64id' (n - 1) (by omega) (by omega), if_neg (show ¬ n - 1 = 0 by omega), if_neg (show ¬ n = 0 by omega), ih _ (n - 1) (by omega) (by omega), ih _ n (by omega) h1]
    simp
theorem add_none (l : List Int) (f : Nat) : ∀ d n : Int, n < -(f : Int) → -9223372036854775808 ≤ n → addGo f l d (-1) n = (0, 15) := by
  induction f with
  | zero => intro d n _ _; rfl
  | succ f ih =>
    intro d n h0 h1
    rw [addGo, w64id' (n - -1) (by omega) (by omega), if_neg (show ¬ n - -1 = 0 by omega), if_neg (show ¬ n = 0 by omega), ih _ (n - -1) (by omega) (by omega), ih _ n (by omega) h1]
    simp
theorem refadd (l : List Int) (d n : Int) (h : -9223372036854775808 ≤ n) (h2 : n ≤ 9223372036854775807) : Ev (fun k => contangoref06_Add.f k l d n) (addV l d n) := by
  unfold contangoref06_Add.f addV addBy
  by_cases hp : n > 0
  · rw [if_neg (show ¬ n = 0 by omega), if_neg (show ¬ n < 0 by omega)]
    have := toward l d n 1 (.inl rfl)
    unfold towV at this
    rw [← add_up_tow] at this
    exact ev_pos hp (ev_bnd' this (ev_some rfl))
  · refine ev_neg hp ?_
    by_cases hn : n < 0
    · refine ev_rw (show (if n = 0 then onV l d else if chk2 l [d] = 0 then addGo 73050 l (d + if n < 0 then -1 else 1) (if n < 0 then -1 else 1) n else (0, chk2 l [d])) = towV l d (-(mx n (-100000))) (-1) from ?_).symm ?_
      · rw [if_neg (show ¬ n = 0 by omega), if_pos hn]
        unfold towV
        by_cases hz : chk2 l [d] = 0
        · rw [if_pos hz, if_pos hz]
          unfold mx
          by_cases hb : n < -100000
          · rw [if_pos hb, add_none l 73050 _ n (by omega) h, tow_none l (-1) 73050 _ _ (by omega) (by omega)]
          · rw [if_neg hb, add_down_tow l 73050 _ n hn (by omega)]
        · rw [if_neg hz, if_neg hz]
      · refine ev_pos hn ?_
        rw [w64id' (-(mx n (-100000))) (by unfold mx; split <;> omega) (by unfold mx; split <;> omega)]
        exact ev_bnd' (toward l d _ (-1) (.inr rfl)) (ev_some rfl)
    · obtain rfl : n = 0 := by omega
      refine ev_neg hn ?_
      rw [if_pos rfl]
      exact ev_bnd' (refon l d) (ev_some rfl)
theorem cnt_go (l : List Int) (h : chkV l = 0) (b : Int) (hb : b ≤ 73048) (f : Nat) : ∀ d n : Int, 0 ≤ d → (b - d + 1).toNat = f → d ≤ 73049 → 0 ≤ n → n ≤ d → Ev (fun k => contangoref06_Count.l0 k l b n d) (cntGo f l d n, 0) := by
  induction f with
  | zero =>
    intro d n h0 hf _ _ _
    refine Ev.step (fun _ => by rw [contangoref06_Count.l0]) ?_
    exact ev_neg (by omega) (ev_some rfl)
  | succ f ih =>
    intro d n h0 hf hd hn hnd
    have ih := fun n => ih (d + 1) n (by omega) (by omega) (by omega)
    refine Ev.step (fun _ => by rw [contangoref06_Count.l0]) ?_
    refine ev_pos (by omega) (ev_bnd' (refworks l h d h0 (by omega)) ?_)
    rw [w64id' (n + 1) (by omega) (by omega), w64id' (d + 1) (by omega) (by omega), cntGo]
    by_cases hw : workV l d = true
    · refine ev_rw (show (cntGo f l (d + 1) (n + 1), (0 : Int)) = (cntGo f l (d + 1) (if workV l d = true then n + 1 else n), 0) by rw [if_pos hw]) (ev_pos hw (ih _ (by omega) (by omega)))
    · refine ev_rw (show (cntGo f l (d + 1) n, (0 : Int)) = (cntGo f l (d + 1) (if workV l d = true then n + 1 else n), 0) by rw [if_neg hw]) (ev_neg hw (ih _ (by omega) (by omega)))
theorem refcount (l : List Int) (a b : Int) : Ev (fun k => contangoref06_Count.f k l a b) (countV l a b) := by
  unfold contangoref06_Count.f countV
  have e1 := chk2_one l a
  have e2 := chk2_one l b
  rw [chk2_two]
  refine ev_bnd' (refWorks l a) ?_
  have hB := refWorks l b
  unfold worksV at hB ⊢
  by_cases hc : chkV l = 0
  · rw [if_pos hc] at e1 e2
    rw [if_pos hc]
    cases ha : isV a with
    | false =>
      rw [ha, if_neg (by decide)] at e1
      rw [e1, if_neg (by decide), Bool.false_and, if_neg (by decide), if_neg (by decide)]
      exact ev_neg (by decide) (ev_some rfl)
    | true =>
      have hya := (isV_iff a).1 ha
      rw [ha, if_pos rfl] at e1
      rw [if_pos e1]
      refine ev_pos rfl (ev_bnd' hB ?_)
      cases hb : isV b with
      | false =>
        rw [hb, if_neg (by decide)] at e2
        rw [e2, if_neg (by decide), Bool.and_false, if_neg (by decide), if_neg (by decide)]
        exact ev_neg (by decide) (ev_some rfl)
      | true =>
        have hyb := (isV_iff b).1 hb
        rw [hb, if_pos rfl] at e2
        rw [if_pos e2, Bool.and_true, if_pos rfl, if_pos rfl]
        exact ev_pos rfl (cnt_go l hc b hyb.2 (b - a + 1).toNat a 0 hya.1 rfl (by omega) (by omega) (by omega))
  · rw [if_neg hc] at e1
    rw [e1, if_neg hc, if_neg hc, if_neg hc]
    exact ev_neg hc (ev_some rfl)
theorem adds_j0 (l : List Int) (d n : Int) : Ev (fun k => contangolaw06_WorkdayAdds.j0 k l d n true) true := by
  refine Ev.step (fun _ => by rw [contangolaw06_WorkdayAdds.j0]) ?_
  exact ev_pos rfl (ev_bnd' goes06 (ev_some rfl))
theorem adds_j1 (l : List Int) (d n : Int) (h : -9223372036854775808 ≤ n) (h2 : n ≤ 9223372036854775807) : Ev (fun k => contangolaw06_WorkdayAdds.j0 k l d n false) true := by
  refine Ev.step (fun _ => by rw [contangolaw06_WorkdayAdds.j0]) ?_
  refine ev_neg (by decide) (ev_val (add_val l d n) (ev_bnd' (refadd l d n h h2) (ev_val (count_val l d n) (ev_bnd' (refcount l d n) ?_))))
  exact ev_pos rfl (ev_pos rfl (ev_pos rfl (ev_pos rfl (ev_bnd' goes06 (ev_some rfl)))))
theorem wf_i64 (n : Int) (h : (Lit.int .i64 n).wf = true) : -9223372036854775808 ≤ n ∧ n ≤ 9223372036854775807 := by
  have e1 : IntKind.i64.min = -9223372036854775808 := by decide
  have e2 : IntKind.i64.max = 9223372036854775807 := by decide
  have h : (decide (IntKind.i64.min ≤ n) && decide (n ≤ IntKind.i64.max)) = true := h
  rw [e1, e2] at h
  simpa using h
theorem WorkdayAdds : contangolaw06_WorkdayAdds.Pure := by
  intro l d n _ _ _ _ hn
  obtain ⟨hn1, hn2⟩ := wf_i64 n hn
  refine Ev.rounds ?_
  unfold contangolaw06_WorkdayAdds.f
  refine ev_val (few_val l) ?_
  by_cases h : l.length ≤ 40 ∨ l.length > 1024
  · rw [decide_eq_true h]
    refine ev_pos rfl ?_
    by_cases h12 : (l.length : Int) > 12
    · refine ev_pos h12 ?_
      by_cases h3 : (l.length : Int) ≤ 1024
      · rw [decide_eq_true h3]; exact adds_j0 l d n
      · rw [decide_eq_false h3]; exact adds_j1 l d n hn1 hn2
    · exact ev_neg h12 (adds_j1 l d n hn1 hn2)
  · rw [decide_eq_false h]
    exact ev_neg (by decide) (adds_j0 l d n)
end Go.Proofs.YtgcefakbbmgbbaaDoor.Pure
