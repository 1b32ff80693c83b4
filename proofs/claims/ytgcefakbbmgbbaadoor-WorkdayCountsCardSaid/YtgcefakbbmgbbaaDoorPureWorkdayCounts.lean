/- The pure statement of the law WorkdayCounts, proved: plain Lean over numbers and lists, no program in sight. -/
import Derived.Test.YtgcefakbbmgbbaaDoorPWorkdayCountsx4
namespace Go.Proofs.YtgcefakbbmgbbaaDoor.Pure
open Go.RowKit Go.Proofs.YtgcefakbbmgbbaaDoor.PWorkdayCounts Go.Proofs.YtgcefakbbmgbbaaDoorW.PrintWords Go.Proofs.YtgcefakbbmgbbaaDoorW.PrintLast Go.Proofs.YtgcefakbbmgbbaaDoorW.PrintMore
set_option linter.unusedVariables false
set_option linter.unusedSimpArgs false
/-! ### from some number of rounds on: steps -/
theorem ev_pos {α : Type} {c : Prop} [Decidable c] {a b : Nat → Option α} {r : α} (h : c) (k : Ev a r) : Ev (fun n => if c then a n else b n) r := Ev.congr (fun _ => if_pos h) k
theorem ev_neg {α : Type} {c : Prop} [Decidable c] {a b : Nat → Option α} {r : α} (h : ¬ c) (k : Ev b r) : Ev (fun n => if c then a n else b n) r := Ev.congr (fun _ => if_neg h) k
theorem ev_val {α β : Type} {g : Option α} {f : Nat → α → Option β} {a : α} {r : β} (h : g = some a) (k : Ev (fun n => f n a) r) : Ev (fun n => g.bind (f n)) r := by
  subst h; exact k
theorem ev_some {α : Type} {x r : α} (h : x = r) : Ev (fun _ => some x) r := h ▸ Ev.now x
theorem ev_rw {α : Type} {g : Nat → Option α} {r s : α} (h : r = s) (k : Ev g r) : Ev g s := h ▸ k
theorem wsucc (i : Nat) (h : i ≤ 4611686018427387904) : wrap64 ((i : Int) + 1) = ((i + 1 : Nat) : Int) := by
  unfold wrap64; omega
theorem rd_nat (l : List Int) (i : Nat) : rd l (i : Int) = l.getD i 0 := rfl
/-! ### dates: what the functions tell -/
theorem w64id' (x : Int) (h0 : -9223372036854775808 ≤ x) (h1 : x ≤ 9223372036854775807) : wrap64 x = x := by unfold wrap64; omega
theorem ev_bnd' {α β : Type} {g : Nat → Option α} {f : Nat → α → Option β} {a : α} {r : β} (h : Ev g a) (k : Ev (fun n => f n a) r) : Ev (fun n => (g n).bind (f n)) r := h.bind k
def ofV (y m d : Int) : Int × Int := if y < 2000 ∨ y > 2199 ∨ d < 1 ∨ d > dlen y m then (0, 15) else (startD y + d - 1 + msum (leapV y) (m.toNat - 1), 0)
theorem of_val (y m d : Int) : date_Of.f y m d = some (ofV y m d) := rfl
def wdV (day : Int) : Int := if 0 ≤ day ∧ day ≤ 73048 then (day + 5) % 7 + 1 else 0
theorem here_val (day : Int) : date_here.f day = some (decide (0 ≤ day ∧ day ≤ 73048)) := by
  unfold date_here.f
  by_cases h : day ≥ 0
  · rw [if_pos h]
    by_cases h2 : day ≤ 73048
    · rw [decide_eq_true h2, decide_eq_true (show 0 ≤ day ∧ day ≤ 73048 from ⟨h, h2⟩)]
    · rw [decide_eq_false h2, decide_eq_false (show ¬ (0 ≤ day ∧ day ≤ 73048) from fun x => h2 x.2)]
  · rw [if_neg h, decide_eq_false (show ¬ (0 ≤ day ∧ day ≤ 73048) from fun x => h x.1)]
theorem wd_val (day : Int) : date_Weekday.f day = some (wdV day) := by
  unfold date_Weekday.f wdV
  rw [here_val, Option.bind_some]
  by_cases h : 0 ≤ day ∧ day ≤ 73048
  · rw [decide_eq_true h, if_pos rfl, if_pos h, w64id' (day + 5) (by omega) (by omega), Int.tmod_eq_emod_of_nonneg (by omega), w64id' _ (by omega) (by omega)]
  · rw [decide_eq_false h, if_neg (by decide), if_neg h]
def nthD (y m wd n : Int) : Int := 1 + (wd - wdV (ofV y m 1).1 + 7) % 7 + 7 * (n - 1)
def nthV (y m wd n : Int) : Int × Int := if wd < 1 ∨ wd > 7 ∨ n < 1 ∨ n > 5 then (0, 2) else if (ofV y m 1).2 = 0 then ofV y m (nthD y m wd n) else (0, (ofV y m 1).2)
theorem wdV_range (day : Int) : 0 ≤ wdV day ∧ wdV day ≤ 7 := by
  unfold wdV; split <;> omega
theorem nth_bad (y m wd n : Int) : Ev (fun k => date_Nth.j0 k y m wd n true) (0, 2) := by
  refine Ev.step (fun _ => by rw [date_Nth.j0]) ?_
  exact ev_pos rfl (ev_some rfl)
theorem nth_ev (y m wd n : Int) : Ev (fun k => date_Nth.f k y m wd n) (nthV y m wd n) := by
  unfold date_Nth.f nthV
  by_cases c1 : wd < 1
  · rw [if_pos (show wd < 1 ∨ wd > 7 ∨ n < 1 ∨ n > 5 from .inl c1)]; exact ev_pos c1 (nth_bad _ _ _ _)
  refine ev_neg c1 ?_
  by_cases c2 : wd > 7
  · rw [if_pos (show wd < 1 ∨ wd > 7 ∨ n < 1 ∨ n > 5 from .inr (.inl c2))]; exact ev_pos c2 (nth_bad _ _ _ _)
  refine ev_neg c2 ?_
  by_cases c3 : n < 1
  · rw [if_pos (show wd < 1 ∨ wd > 7 ∨ n < 1 ∨ n > 5 from .inr (.inr (.inl c3)))]; exact ev_pos c3 (nth_bad _ _ _ _)
  refine ev_neg c3 ?_
  by_cases c4 : n > 5
  · rw [if_pos (show wd < 1 ∨ wd > 7 ∨ n < 1 ∨ n > 5 from .inr (.inr (.inr c4))), decide_eq_true c4]; exact nth_bad _ _ _ _
  rw [if_neg (by omega), decide_eq_false c4]
  refine Ev.step (fun _ => by rw [date_Nth.j0]) ?_
  refine ev_neg (by decide) (ev_val (of_val _ _ _) ?_)
  by_cases h0 : (ofV y m 1).2 = 0
  · refine ev_rw (if_pos h0).symm ?_
    refine ev_pos h0 (ev_val (wd_val _) (ev_val (of_val _ _ _) (ev_some ?_)))
    have hr := wdV_range (ofV y m 1).1
    unfold nthD
    generalize wdV (ofV y m 1).1 = q at *
    rw [w64id' (wd - q) (by omega) (by omega), w64id' (wd - q + 7) (by omega) (by omega), Int.tmod_eq_emod_of_nonneg (by omega), w64id' (n - 1) (by omega) (by omega), w64id' (7 * (n - 1)) (by omega) (by omega), w64id' (1 + _) (by omega) (by omega), w64id' (1 + _ + _) (by omega) (by omega)]
  · refine ev_rw (if_neg h0).symm ?_
    exact ev_neg h0 (ev_some rfl)
/-! ### working days: what the program's functions tell -/
def stepV (l : List Int) (d by_ : Int) : Int × Int := if chk2 l [d] = 0 then scanV 73050 l (d + by_) by_ else (0, chk2 l [d])
def worksV (l : List Int) (d : Int) : Bool × Int := if chk2 l [d] = 0 then (workV l d, 0) else (false, chk2 l [d])
theorem works_val (l : List Int) (d : Int) : workday_Works.f l d = some (worksV l d) := rfl
theorem step_val (l : List Int) (d : Int) : workday_step.f l d 1 = some (stepV l d 1) ∧ workday_step.f l d (-1) = some (stepV l d (-1)) := by
  unfold workday_step.f stepV
  exact ⟨by rw [if_pos (Or.inl rfl)], by rw [if_pos (Or.inr rfl)]⟩
theorem next_val (l : List Int) (d : Int) : workday_Next.f l d = some (stepV l d 1) := by
  unfold workday_Next.f
  rw [(step_val l d).1]; rfl
theorem before_val (l : List Int) (d : Int) : workday_Before.f l d = some (stepV l d (-1)) := by
  unfold workday_Before.f
  rw [(step_val l d).2]; rfl
def onV (l : List Int) (d : Int) : Int × Int := if (worksV l d).2 = 0 then (if (worksV l d).1 = true then (d, 0) else stepV l d 1) else (0, (worksV l d).2)
theorem on_val (l : List Int) (d : Int) : workday_On.f l d = some (onV l d) := by
  unfold workday_On.f onV
  rw [works_val, Option.bind_some, next_val]
  by_cases h : (worksV l d).2 = 0
  · rw [if_pos h, if_pos h]
    by_cases h2 : (worksV l d).1 = true
    · rw [if_pos h2, if_pos h2]
    · rw [if_neg h2, if_neg h2]; rfl
  · rw [if_neg h, if_neg h]
def addV (l : List Int) (d n : Int) : Int × Int := if n = 0 then onV l d else if chk2 l [d] = 0 then addGo 73050 l (d + addBy n) (addBy n) n else (0, chk2 l [d])
theorem add_val (l : List Int) (d n : Int) : workday_Add.f l d n = some (addV l d n) := by
  unfold workday_Add.f addV
  by_cases h : n = 0
  · rw [if_pos h, if_pos h, on_val]
  · rw [if_neg h, if_neg h]
def countV (l : List Int) (a b : Int) : Int × Int := if chk2 l [a, b] = 0 then (cntGo (b - a + 1).toNat l a 0, 0) else (0, chk2 l [a, b])
theorem count_val (l : List Int) (a b : Int) : workday_Count.f l a b = some (countV l a b) := rfl
def expV (l : List Int) (y m : Int) : Int × Int := if chkV l = 0 then (if (nthV y m 5 3).2 = 0 then (if workV l (nthV y m 5 3).1 = true then ((nthV y m 5 3).1, 0) else stepV l (nthV y m 5 3).1 (-1)) else (0, (nthV y m 5 3).2)) else (0, chkV l)
theorem exp_ev (l : List Int) (y m : Int) : Ev (fun k => workday_Expiry.f k l y m) (expV l y m) := by
  unfold workday_Expiry.f expV
  by_cases h : chkV l = 0
  · rw [if_pos h]
    refine ev_pos h (ev_bnd' (nth_ev y m 5 3) ?_)
    by_cases h1 : (nthV y m 5 3).2 = 0
    · refine ev_rw (if_pos h1).symm (ev_pos h1 ?_)
      by_cases h2 : workV l (nthV y m 5 3).1 = true
      · exact ev_rw (if_pos h2).symm (ev_pos h2 (ev_some rfl))
      · refine ev_rw (if_neg h2).symm (ev_neg h2 ?_)
        exact ⟨0, fun _ _ => before_val l _⟩
    · exact ev_rw (if_neg h1).symm (ev_neg h1 (ev_some rfl))
  · rw [if_neg h]
    exact ev_neg h (ev_some rfl)
theorem chk2_one (l : List Int) (d : Int) : chk2 l [d] = if chkV l = 0 then (if isV d = true then 0 else 15) else chkV l := by
  unfold chk2; simp only [List.all_cons, List.all_nil, Bool.and_true]
theorem chk2_two (l : List Int) (a b : Int) : chk2 l [a, b] = if chkV l = 0 then (if (isV a && isV b) = true then 0 else 15) else chkV l := by
  unfold chk2; simp only [List.all_cons, List.all_nil, Bool.and_true]
theorem isV_iff (d : Int) : isV d = true ↔ 0 ≤ d ∧ d ≤ 73048 := by unfold isV; simp
theorem workV_in (l : List Int) (d : Int) (h : workV l d = true) : 0 ≤ d ∧ d ≤ 73048 := by
  unfold workV at h
  simp only [Bool.and_eq_true] at h
  exact (isV_iff d).1 h.1.1
theorem goes06 : Ev (fun k => contangolaw06_goes.f k) true := by
  unfold contangolaw06_goes.f
  refine ev_val (show workday_Next.f ([] : List Int) 0 = some (2, 0) by decide +kernel) (ev_val (show workday_Next.f ([2] : List Int) 0 = some (3, 0) by decide +kernel) (ev_val (show workday_Before.f ([] : List Int) 2 = some (0, 15) by decide +kernel) (ev_val (show workday_Add.f ([] : List Int) 2 5 = some (9, 0) by decide +kernel) (ev_val (show workday_Count.f ([] : List Int) 0 9 = some (6, 0) by decide +kernel) (ev_bnd' (ev_rw (show expV [20] 2000 1 = (19, 0) by decide +kernel) (exp_ev [20] 2000 1)) ?_)))))
  exact ev_pos rfl (ev_pos rfl (ev_pos rfl (ev_pos rfl (ev_pos rfl (ev_pos rfl (ev_pos rfl (ev_pos rfl (ev_pos rfl (ev_pos rfl (ev_some rfl))))))))))
/-! ### counting working days -/
theorem cnt_add (l : List Int) (f : Nat) : ∀ d n : Int, cntGo f l d n = n + cntGo f l d 0 := by
  induction f with
  | zero => intro d n; simp [cntGo]
  | succ f ih =>
    intro d n
    rw [cntGo, cntGo]
    by_cases h : workV l d = true
    · rw [if_pos h, if_pos h, ih _ (n + 1), ih _ (0 + 1)]; omega
    · rw [if_neg h, if_neg h, ih _ n]
theorem cnt_app (l : List Int) (f g : Nat) : ∀ d : Int, cntGo (f + g) l d 0 = cntGo f l d 0 + cntGo g l (d + f) 0 := by
  induction f with
  | zero => intro d; simp [cntGo]
  | succ f ih =>
    intro d
    rw [show f + 1 + g = (f + g) + 1 by omega, cntGo, cntGo, cnt_add, cnt_add l f, ih]
    rw [show d + 1 + (f : Int) = d + ((f + 1 : Nat) : Int) by omega]
    omega
theorem cnt_one (l : List Int) (d : Int) : cntGo 1 l d 0 = if workV l d = true then 1 else 0 := by
  rw [cntGo, cntGo]; split <;> rfl
theorem cnt_pos (l : List Int) (f : Nat) : ∀ d : Int, 0 ≤ cntGo f l d 0 ∧ cntGo f l d 0 ≤ f := by
  induction f with
  | zero => intro d; simp [cntGo]
  | succ f ih =>
    intro d
    rw [cntGo, cnt_add]
    have := ih (d + 1)
    split <;> omega
/-- going up to the n-th working day: it works, and there are n up to it -/
theorem up_char (l : List Int) (f : Nat) : ∀ d n e : Int, 1 ≤ n → n ≤ 1000 → addGo f l d 1 n = (e, 0) → workV l e = true ∧ d ≤ e ∧ cntGo (e - d + 1).toNat l d 0 = n := by
  induction f with
  | zero => intro d n e _ _ h; rw [addGo] at h; cases h
  | succ f ih =>
    intro d n e h1 h2 h
    rw [addGo] at h
    by_cases hv : isV d = true
    · rw [if_pos hv] at h
      by_cases hw : workV l d = true
      · rw [if_pos hw, w64id' (n - 1) (by omega) (by omega)] at h
        by_cases hz : n - 1 = 0
        · rw [if_pos hz] at h
          obtain rfl : d = e := (Prod.mk.inj h).1
          refine ⟨hw, Int.le_refl _, ?_⟩
          rw [show (d - d + 1).toNat = 1 by omega, cnt_one, if_pos hw]; omega
        · rw [if_neg hz] at h
          obtain ⟨a1, a2, a3⟩ := ih (d + 1) (n - 1) e (by omega) (by omega) h
          refine ⟨a1, by omega, ?_⟩
          rw [show (e - d + 1).toNat = (e - (d + 1) + 1).toNat + 1 by omega, cntGo, if_pos hw, cnt_add, a3]; omega
      · rw [if_neg hw, if_neg (show ¬ n = 0 by omega)] at h
        obtain ⟨a1, a2, a3⟩ := ih (d + 1) n e h1 h2 h
        refine ⟨a1, by omega, ?_⟩
        rw [show (e - d + 1).toNat = (e - (d + 1) + 1).toNat + 1 by omega, cntGo, if_neg hw, a3]
    · rw [if_neg hv] at h; exact absurd (Prod.mk.inj h).2 (by decide)
/-- going down to a working day that has n down to it -/
theorem down_of (l : List Int) (e : Int) (he : workV l e = true) (f : Nat) : ∀ d n : Int, e ≤ d → d ≤ 73048 → d - e < f → 1 ≤ n → n ≤ 1000 → cntGo (d - e + 1).toNat l e 0 = n → addGo f l d (-1) (-n) = (e, 0) := by
  have hy := workV_in l e he
  induction f with
  | zero => intro d n h1 _ h2; omega
  | succ f ih =>
    intro d n h1 h1b h2 h3 h4 hc
    have hv : isV d = true := (isV_iff d).2 ⟨by omega, h1b⟩
    rw [addGo, if_pos hv, w64id' (-n - -1) (by omega) (by omega)]
    have hsplit : cntGo (d - e + 1).toNat l e 0 = cntGo (d - e).toNat l e 0 + cntGo 1 l d 0 := by
      have := cnt_app l (d - e).toNat 1 e
      rw [show e + ((d - e).toNat : Int) = d by omega] at this
      rw [show (d - e + 1).toNat = (d - e).toNat + 1 by omega]; exact this
    rw [cnt_one] at hsplit
    by_cases hde : d = e
    · subst hde
      rw [show (d - d).toNat = 0 by omega, if_pos he] at hsplit
      have h0 : cntGo 0 l d 0 = 0 := rfl
      rw [if_pos he, if_pos (show -n - -1 = 0 by omega)]
    · by_cases hw : workV l d = true
      · rw [if_pos hw] at hsplit
        have hge : 1 ≤ cntGo (d - e).toNat l e 0 := by
          have := cnt_app l 1 ((d - e).toNat - 1) e
          rw [show 1 + ((d - e).toNat - 1) = (d - e).toNat by omega, cnt_one, if_pos he] at this
          have := cnt_pos l ((d - e).toNat - 1) (e + (1 : Nat))
          omega
        rw [if_pos hw, if_neg (show ¬ -n - -1 = 0 by omega), show -n - -1 = -(n - 1) by omega]
        exact ih (d + -1) (n - 1) (by omega) (by omega) (by omega) (by omega) (by omega) (by rw [show d + -1 - e + 1 = d - e by omega]; omega)
      · rw [if_neg hw] at hsplit
        rw [if_neg hw, if_neg (show ¬ -n = 0 by omega)]
        exact ih (d + -1) n (by omega) (by omega) (by omega) h3 h4 (by rw [show d + -1 - e + 1 = d - e by omega]; omega)
theorem wf_u8 (n : Int) (h : (Lit.int .u8 n).wf = true) : 0 ≤ n ∧ n ≤ 255 := by
  have e1 : IntKind.u8.min = 0 := by decide
  have e2 : IntKind.u8.max = 255 := by decide
  have h : (decide (IntKind.u8.min ≤ n) && decide (n ≤ IntKind.u8.max)) = true := h
  rw [e1, e2] at h
  simpa using h
theorem chk_zero (l : List Int) (ds : List Int) (h : chk2 l ds = 0) : chkV l = 0 := by
  unfold chk2 at h
  apply Classical.byContradiction; intro hc
  rw [if_neg hc] at h; exact hc h
theorem chk_ok (l : List Int) (d : Int) (h : chkV l = 0) (h0 : 0 ≤ d) (h1 : d ≤ 73048) : chk2 l [d] = 0 := by
  rw [chk2_one, if_pos h, if_pos ((isV_iff d).2 ⟨h0, h1⟩)]
theorem counts_j1 (l : List Int) (n x c0 c1 c2 : Int) : Ev (fun k => contangolaw06_WorkdayCounts.j1 k l n x true c0 c1 c2) true := by
  refine Ev.step (fun _ => by rw [contangolaw06_WorkdayCounts.j1]) ?_
  exact ev_pos rfl (ev_bnd' goes06 (ev_some rfl))
theorem counts_j0 (l : List Int) (n c0 c1 c2 : Int) (h0 : 0 ≤ n) (h1 : n ≤ 255) : Ev (fun k => contangolaw06_WorkdayCounts.j0 k l n false c0 c1 c2) true := by
  refine Ev.step (fun _ => by rw [contangolaw06_WorkdayCounts.j0]) ?_
  refine ev_neg (by decide) ?_
  rw [w64id' n (by omega) (by omega)]
  refine ev_val (add_val l c0 n) ?_
  by_cases hz : (addV l c0 n).2 = 0
  · refine ev_pos hz ?_
    by_cases hn : n = 0
    · subst hn; exact counts_j1 _ _ _ _ _ _
    · rw [show (n == 0) = false from beq_eq_false_iff_ne.2 hn]
      refine Ev.step (fun _ => by rw [contangolaw06_WorkdayCounts.j1]) ?_
      refine ev_neg (by decide) ?_
      unfold addV at hz ⊢
      rw [if_neg hn] at hz ⊢
      by_cases hc : chk2 l [c0] = 0
      · rw [if_pos hc] at hz ⊢
        have hby : addBy n = 1 := by unfold addBy; rw [if_neg (by omega)]
        rw [hby] at hz ⊢
        obtain ⟨d0, d1⟩ := chk2_in l [c0] c0 hc (by simp)
        generalize hr : addGo 73050 l (c0 + 1) 1 n = r at hz ⊢
        obtain ⟨e, er⟩ := r
        dsimp only at hz ⊢
        subst hz
        obtain ⟨u1, u2, u3⟩ := up_char l 73050 (c0 + 1) n e (by omega) (by omega) hr
        have hy := workV_in l e u1
        rw [w64id' (c0 + 1) (by omega) (by omega), w64id' n (by omega) (by omega)]
        have hcv : countV l (c0 + 1) e = (n, 0) := by
          have hk : chk2 l [c0 + 1, e] = 0 := by
            rw [chk2_two, if_pos (chk_zero l _ hc), (isV_iff (c0 + 1)).2 ⟨by omega, by omega⟩, (isV_iff e).2 hy]; rfl
          unfold countV
          rw [if_pos hk, u3]
        refine ev_val (count_val l (c0 + 1) e) ?_
        rw [hcv]
        exact ev_pos rfl (ev_pos rfl (ev_bnd' goes06 (ev_some rfl)))
      · rw [if_neg hc] at hz; exact absurd hz hc
  · exact ev_neg hz (counts_j1 _ _ _ _ _ _)
theorem WorkdayCounts : ∀ (l0 : List Int) (a1_0 : Int) (a1_1 : Int) (a1_2 : Int) (a2 : Int), l0.length ≤ maxLen → (∀ x0 ∈ l0, (Lit.int .i64 x0).wf = true) → (Lit.int .i64 a1_0).wf = true → (Lit.int .i64 a1_1).wf = true → (Lit.int .i64 a1_2).wf = true → (Lit.int .u8 a2).wf = true → ∃ k, contangolaw06_WorkdayCounts.f k l0 a1_0 a1_1 a1_2 a2 = some true := by
  intro l c0 c1 c2 n _ _ _ _ _ hn
  obtain ⟨n0, n1⟩ := wf_u8 n hn
  refine Ev.rounds ?_
  unfold contangolaw06_WorkdayCounts.f
  have J := counts_j0 l n c0 c1 c2 n0 n1
  refine ev_val (count_val _ _ _) (ev_val (count_val _ _ _) (ev_val (count_val _ _ _) ?_))
  by_cases h1 : (countV l c0 c1).2 = 0
  · refine ev_pos h1 ?_
    by_cases h2 : (countV l (wrap64 (c1 + 1)) c2).2 = 0
    · refine ev_pos h2 ?_
      by_cases h3 : (countV l c0 c2).2 = 0
      · refine ev_pos h3 ?_
        by_cases h4 : c0 ≤ c1
        · refine ev_pos h4 ?_
          by_cases h5 : c1 < c2
          · refine ev_pos h5 ?_
            have hsum : (wrap64 ((countV l c0 c1).1 + (countV l (wrap64 (c1 + 1)) c2).1) != (countV l c0 c2).1) = false := by
              unfold countV at h1 h2 h3 ⊢
              by_cases k1 : chk2 l [c0, c1] = 0
              · by_cases k3 : chk2 l [c0, c2] = 0
                · obtain ⟨d0, d1⟩ := chk2_in l [c0, c1] c0 k1 (by simp)
                  obtain ⟨d2, d3⟩ := chk2_in l [c0, c1] c1 k1 (by simp)
                  obtain ⟨d4, d5⟩ := chk2_in l [c0, c2] c2 k3 (by simp)
                  rw [w64id' (c1 + 1) (by omega) (by omega)] at h2 ⊢
                  have k2 : chk2 l [c1 + 1, c2] = 0 := by
                    rw [chk2_two, if_pos (chk_zero l _ k1), (isV_iff (c1 + 1)).2 ⟨by omega, by omega⟩, (isV_iff c2).2 ⟨d4, d5⟩]; rfl
                  rw [if_pos k1, if_pos k2, if_pos k3]
                  dsimp only
                  have happ := cnt_app l (c1 - c0 + 1).toNat (c2 - (c1 + 1) + 1).toNat c0
                  rw [show (c1 - c0 + 1).toNat + (c2 - (c1 + 1) + 1).toNat = (c2 - c0 + 1).toNat by omega, show c0 + ((c1 - c0 + 1).toNat : Int) = c1 + 1 by omega] at happ
                  rw [happ]
                  have p1 := cnt_pos l (c1 - c0 + 1).toNat c0
                  have p2 := cnt_pos l (c2 - (c1 + 1) + 1).toNat (c1 + 1)
                  rw [w64id' _ (by omega) (by omega)]
                  exact bne_self_eq_false _
                · rw [if_neg k3] at h3; exact absurd h3 k3
              · rw [if_neg k1] at h1; exact absurd h1 k1
            rw [hsum]
            exact J
          · exact ev_neg h5 J
        · exact ev_neg h4 J
      · exact ev_neg h3 J
    · exact ev_neg h2 J
  · exact ev_neg h1 J
end Go.Proofs.YtgcefakbbmgbbaaDoor.Pure
