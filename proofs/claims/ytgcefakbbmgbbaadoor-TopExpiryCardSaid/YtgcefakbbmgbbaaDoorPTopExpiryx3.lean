/- Laid for this claim by a program of this session's (wip/mkprint.py, wip/ext.py); not trusted: Lean checks it. -/
import Derived.Test.YtgcefakbbmgbbaaDoorPTopExpiryx0
import Derived.Test.YtgcefakbbmgbbaaDoorPTopExpiryx1
import Derived.Test.YtgcefakbbmgbbaaDoorPTopExpiryx2
namespace Go.Proofs.YtgcefakbbmgbbaaDoor.PTopExpiry
open Go.RowKit Go.Proofs.YtgcefakbbmgbbaaDoorW.PrintWords Go.Proofs.YtgcefakbbmgbbaaDoorW.PrintLast Go.Proofs.YtgcefakbbmgbbaaDoorW.PrintMore
attribute [local go_sem] max2_int min2_int max_two min_two max_three min_three max_four min_four   -- for this text's walks alone
set_option linter.unusedVariables false
set_option linter.unusedSimpArgs false

/-! ### date_Of: function 37 -/
def startD (y : Int) : Int := 365 * (y - 2000) + ((y - 1) / 4 - (y - 1) / 100 + (y - 1) / 400) - 484
def msum (b : Bool) : Nat → Int
  | 0 => 0
  | n + 1 => msum b n + dl b ((n : Int) + 1)
def date_Of.f (a0 a1 a2 : Int) : Option (Int × Int) := some (if a0 < 2000 ∨ a0 > 2199 ∨ a2 < 1 ∨ a2 > dlen a0 a1 then (0, 15) else (startD a0 + a2 - 1 + msum (leapV a0) (a1.toNat - 1), 0))
theorem drawn0_tr {a b c : World} (h : Drawn0 a b) (k : Drawn0 b c) : Drawn0 a c := by
  obtain ⟨n, rfl⟩ := h
  obtain ⟨m, rfl⟩ := k
  exact ⟨n + m, by rw [World.drewN_drewN]⟩
theorem dl_range (b : Bool) (m : Int) (h : 1 ≤ m) (h2 : m ≤ 12) : 28 ≤ dl b m ∧ dl b m ≤ 31 := by
  have : m = 1 ∨ m = 2 ∨ m = 3 ∨ m = 4 ∨ m = 5 ∨ m = 6 ∨ m = 7 ∨ m = 8 ∨ m = 9 ∨ m = 10 ∨ m = 11 ∨ m = 12 := by omega
  rcases this with rfl | rfl | rfl | rfl | rfl | rfl | rfl | rfl | rfl | rfl | rfl | rfl <;> cases b <;> decide
theorem msum_range (b : Bool) (n : Nat) (h : n ≤ 12) : 0 ≤ msum b n ∧ msum b n ≤ 31 * n := by
  induction n with
  | zero => simp [msum]
  | succ n ih =>
    have h1 := ih (by omega)
    have h2 := dl_range b ((n : Int) + 1) (by omega) (by omega)
    simp only [msum]; omega
set_option maxHeartbeats 4000000 in
set_option maxRecDepth 100000 in
theorem start1_any (y : Int) (w : World) (h : 0 ≤ y) (h2 : y ≤ 3000) :
    Calls Tryd.prog 50 #[.int .i64 y] w fun e w' => e = .returned (.int .i64 (y / 4 - y / 100 + y / 400)) ∧ Drawn0 w w' := by
  go_enter Tryd.func50, Tryd.ntmps50
  go_wp2
  go_ret
  exact ⟨by first | rfl | (congr 2; unfold wrap64; omega), by repeat (first | exact Drawn0.refl _ | apply Drawn0.step)⟩
set_option maxHeartbeats 4000000 in
set_option maxRecDepth 100000 in
theorem start_any (y : Int) (w : World) (h : 2000 ≤ y) (h2 : y ≤ 2200) :
    Calls Tryd.prog 45 #[.int .i64 y] w fun e w' => e = .returned (.int .i64 (startD y)) ∧ Drawn0 w w' := by
  unfold startD
  go_enter Tryd.func45, Tryd.ntmps45
  go_wp2_with fail
  refine (start1_any (y - 1) _ (by omega) (by omega)).mono ?_
  rintro e w1 ⟨rfl, hd⟩
  have HD := Aside0.mk hd
  clear hd
  go_wp2_with fail
  refine (start1_any 1999 _ (by omega) (by omega)).mono ?_
  rintro e w2 ⟨rfl, hd⟩
  have HD2 := Aside0.mk (drawn0_tr HD.out hd)
  clear hd
  go_wp2
  go_ret
  exact ⟨congrArg (fun x => Ending.returned (Value.int .i64 x)) (by omega), HD2.out⟩
set_option maxHeartbeats 4000000 in
set_option maxRecDepth 100000 in
theorem of_bad (y m d : Int) (w : World) (hL : LongAt w) (h : y < 2000 ∨ y > 2199 ∨ d < 1 ∨ d > dlen y m) :
    Calls Tryd.prog 37 #[.int .i64 y, .int .i64 m, .int .i64 d] w fun e w' => e = .returned (.tuple #[.int .i64 0, .int .i64 15]) ∧ Below w.heap.size w w' := by
  by_cases h1 : y < 2000
  · have d1 : decide (y < 2000) = true := decide_eq_true h1
    clear h h1 hL
    go_enter Tryd.func37, Tryd.ntmps37
    go_wp2_with fail
    go_ret2
    exact ⟨rfl, Below.refl _ _⟩
  have d1 : decide (y < 2000) = false := decide_eq_false h1
  by_cases h2 : y > 2199
  · have d2 : decide (2199 < y) = true := decide_eq_true h2
    clear h h1 h2 hL
    go_enter Tryd.func37, Tryd.ntmps37
    go_wp2_with fail
    go_ret2
    exact ⟨rfl, Below.refl _ _⟩
  have d2 : decide (2199 < y) = false := decide_eq_false h2
  by_cases h3 : d < 1
  · have d3 : decide (d < 1) = true := decide_eq_true h3
    clear h h1 h2 h3 hL
    go_enter Tryd.func37, Tryd.ntmps37
    go_wp2_with fail
    go_ret2
    exact ⟨rfl, Below.refl _ _⟩
  have d3 : decide (d < 1) = false := decide_eq_false h3
  have h4 : d > dlen y m := by omega
  have HV := Aside0.mk (show date_Days.f y m = some (dlen y m) from rfl)
  generalize dlen y m = n at *
  have d4 : decide (n < d) = true := decide_eq_true h4
  have HL := Aside0.mk hL
  clear h h1 h2 h3 h4 hL
  go_enter Tryd.func37, Tryd.ntmps37
  go_wp2_with (go_at_call 44; (with_reducible refine (date_Days.calls y m n _ HL.out HV.out).mono ?_); rintro e w' ⟨rfl, hb⟩; have HB := Aside0.mk hb; clear hb)
  go_ret2
  exact ⟨rfl, HB.out⟩
set_option maxHeartbeats 4000000 in
set_option maxRecDepth 100000 in
theorem of_good (y m d : Int) (w : World) (hL : LongAt w) (h1 : 2000 ≤ y) (h2 : y ≤ 2199) (h3 : 1 ≤ d) (h4 : d ≤ dl (leapV y) m) (h5 : 1 ≤ m) (h6 : m ≤ 12) :
    Calls Tryd.prog 37 #[.int .i64 y, .int .i64 m, .int .i64 d] w fun e w' => e = .returned (.tuple #[.int .i64 (startD y + d - 1 + msum (leapV y) (m.toNat - 1)), .int .i64 0]) ∧ Below w.heap.size w w' := by
  have d1 : decide (y < 2000) = false := decide_eq_false (by omega)
  have d2 : decide (2199 < y) = false := decide_eq_false (by omega)
  have d3 : decide (d < 1) = false := decide_eq_false (by omega)
  have hdl := (dl_range (leapV y) m h5 h6).2
  have hs1 : -1000 ≤ startD y := by unfold startD; omega
  have hs2 : startD y ≤ 100000 := by unfold startD; omega
  have hv : date_Days.f y m = some (dl (leapV y) m) := by
    unfold date_Days.f dlen
    rw [if_neg (by omega)]
  have hd1 : d ≤ 31 := by omega
  have d4 : decide (dl (leapV y) m < d) = false := decide_eq_false (by omega)
  have hmo : ∀ W : World, Calls Tryd.prog 46 #[.int .i64 y] W fun e w' => ∃ gt : Nat, e = .returned (.func (.func 52) #[] #[.pointer (some ⟨gt, 0, none⟩)]) ∧ W.heap.size ≤ gt ∧ w'.heap[gt]? = some (.cells #[.bool (leapV y)] 4 (0, 0)) ∧ Below W.heap.size W w' := fun W => month_any y W
  have hst : ∀ W : World, Calls Tryd.prog 45 #[.int .i64 y] W fun e w' => e = .returned (.int .i64 (startD y)) ∧ Drawn0 W w' := fun W => start_any y W h1 (by omega)
  generalize dl (leapV y) m = n at *
  generalize leapV y = b at *
  generalize startD y = s at *
  have HV := Aside0.mk hv
  have HL := Aside0.mk hL
  have HM := Aside0.mk hmo
  have HS := Aside0.mk hst
  have H5 := Aside0.mk h5
  have H6 := Aside0.mk h6
  clear hL h1 h2 h4 hv hdl hmo hst
  go_enter Tryd.func37, Tryd.ntmps37
  go_wp2_with (first | (go_at_call 44; (with_reducible refine (date_Days.calls y m n _ HL.out HV.out).mono ?_); rintro e w' ⟨rfl, hb⟩; have HB := Aside0.mk hb; clear hb) | (go_at_call 45; (with_reducible refine (HS.out _).mono ?_); rintro e w2 ⟨rfl, hd⟩; have HB2 := Aside0.mk (HB.out.trans (hd.below.mono HB.out.size)); clear hd))
  refine (HM.out _).mono ?_
  rintro e w3 ⟨gt, rfl, hg0, hgt, hb⟩
  have HB3 := Aside0.mk (below_step HB2.out hb)
  have HG := Aside0.mk hgt
  clear hb hgt hg0
  go_wp2_with fail
  go_loopw [6, 9] (fun v6 v9 wr => ∃ (k : Nat), 1 ≤ k ∧ (k : Int) ≤ m ∧ v9 = .int .i64 (k : Int) ∧ v6 = .int .i64 (s + d - 1 + msum b (k - 1)) ∧ Aside0 (wr.heap[gt]? = some (.cells #[.bool b] 4 (0, 0))) ∧ Aside0 (Below w.heap.size w wr)) (fun _ v9 _ => m.toNat - (intOf v9).toNat)
  case atStart => exact ⟨1, by omega, by have := H5.out; omega, rfl, by simp [msum], HG, HB3⟩
  case round =>
    clear HB3 HG HB2 HB
    obtain ⟨k, hk1, hk2, rfl, rfl, HG, HB⟩ := hrel
    by_cases hlt : (k : Int) < m
    · have hr := msum_range b (k - 1) (by have := H6.out; omega)
      have hr2 := dl_range b (k : Int) (by omega) (by have := H6.out; omega)
      have hms : msum b (k + 1 - 1) = msum b (k - 1) + dl b (k : Int) := by
        obtain ⟨j, rfl⟩ : ∃ j, k = j + 1 := ⟨k - 1, by omega⟩
        simp [msum]
      have HMS := Aside0.mk hms
      clear hms
      generalize msum b (k - 1) = q at *
      have hq : q ≤ 400 := by have := H6.out; omega
      go_wp2_with fail
      refine (month1_any (k : Int) b gt _ (by omega) (by have := H6.out; omega) (HL.out.below HB.out) HG.out).mono ?_
      rintro e w4 ⟨rfl, hb⟩
      have HB4 := Aside0.mk (below_step HB.out hb)
      have HG4 := Aside0.mk (blk_below HG.out hb)
      clear hb HG HB
      have HQ := Aside0.mk hr2
      generalize dl b (k : Int) = z at *
      obtain ⟨hz1, hz2⟩ := hr2
      go_wp2
      go_roundw
      case measure => show _ < _; simp [intOf]; omega
      case rel => exact ⟨k + 1, by omega, by omega, by go_num, by rw [HMS.out]; congr 1; omega, HG4, HB4⟩
    · have hkm : (k : Int) = m := by omega
      have hkn : k - 1 = m.toNat - 1 := by omega
      rw [hkn] at *
      go_wp2
      go_ret2
      exact ⟨rfl, HB.out⟩
theorem date_Of.calls (a0 a1 a2 r1 r2 : Int) (w : World) (hL : LongAt w) (h : date_Of.f a0 a1 a2 = some (r1, r2)) :
    Calls Tryd.prog 37 #[.int .i64 a0, .int .i64 a1, .int .i64 a2] w fun e w' => e = .returned (.tuple #[.int .i64 r1, .int .i64 r2]) ∧ Below w.heap.size w w' := by
  unfold date_Of.f at h
  have h := Option.some.inj h
  by_cases hc : a0 < 2000 ∨ a0 > 2199 ∨ a2 < 1 ∨ a2 > dlen a0 a1
  · rw [if_pos hc] at h
    simp only [Prod.mk.injEq] at h
    obtain ⟨rfl, rfl⟩ := h
    exact of_bad a0 a1 a2 w hL hc
  · rw [if_neg hc] at h
    simp only [Prod.mk.injEq] at h
    obtain ⟨rfl, rfl⟩ := h
    have hm : ¬ (a1 < 1 ∨ a1 > 12) := by
      intro hm
      have : dlen a0 a1 = 0 := by unfold dlen; rw [if_pos hm]
      omega
    have hd : dlen a0 a1 = dl (leapV a0) a1 := by unfold dlen; rw [if_neg hm]
    rw [hd] at hc
    exact of_good a0 a1 a2 w hL (by omega) (by omega) (by omega) (by omega) (by omega) (by omega)

/-! ### date_Nth: function 28 -/
def date_Nth.j0 : Nat → Int → Int → Int → Int → Bool → Option (Int × Int)
  | 0, _, _, _, _, _ => none
  | k + 1, x0, x1, x2, x3, x24 => if x24 = true then (some (0, 2)) else ((date_Of.f x0 x1 1).bind fun bt118 => (if bt118.2 = 0 then ((date_Weekday.f bt118.1).bind fun t120 => ((date_Of.f x0 x1 (wrap64 ((wrap64 (1 + (Int.tmod (wrap64 ((wrap64 (x2 - t120)) + 7)) 7))) + (wrap64 (7 * (wrap64 (x3 - 1))))))).bind fun bt121 => (some (bt121.1, bt121.2)))) else (some (0, bt118.2))))
def date_Nth.f (k : Nat) (a0 : Int) (a1 : Int) (a2 : Int) (a3 : Int) : Option (Int × Int) := if a2 < 1 then (date_Nth.j0 k a0 a1 a2 a3 true) else (if a2 > 7 then (date_Nth.j0 k a0 a1 a2 a3 true) else (if a3 < 1 then (date_Nth.j0 k a0 a1 a2 a3 true) else (date_Nth.j0 k a0 a1 a2 a3 (decide (a3 > 5)))))
theorem date_Nth.mono_l : ∀ k, (∀ y0 y1 y2 y3 y4, LeO (date_Nth.j0 k y0 y1 y2 y3 y4) (date_Nth.j0 (k + 1) y0 y1 y2 y3 y4))
  | 0 => fun _ _ _ _ _ r h => by simp [date_Nth.j0] at h
  | k + 1 => by
    have ih0 := date_Nth.mono_l k
    · intro y0 y1 y2 y3 y4
      unfold date_Nth.j0
      repeat' first
      | (with_reducible exact ih0 _ _ _ _ _)
      | (with_reducible exact LeO.refl _)
      | (with_reducible exact LeO.none _)
      | (with_reducible refine LeO.ite ?_ ?_)
      | (with_reducible refine LeO.bind ?_ (fun _ => ?_))
      | exact ih0 _ _ _ _ _
      | exact LeO.none _
      | refine LeO.ite ?_ ?_
      | refine LeO.bind ?_ (fun _ => ?_)
theorem date_Nth.mono : ∀ a0 a1 a2 a3 k, LeO (date_Nth.f k a0 a1 a2 a3) (date_Nth.f (k + 1) a0 a1 a2 a3) := by
  intro a0 a1 a2 a3 k
  have ih0 := date_Nth.mono_l k
  unfold date_Nth.f
  repeat' first
      | (with_reducible exact ih0 _ _ _ _ _)
      | (with_reducible exact LeO.refl _)
      | (with_reducible exact LeO.none _)
      | (with_reducible refine LeO.ite ?_ ?_)
      | (with_reducible refine LeO.bind ?_ (fun _ => ?_))
      | exact ih0 _ _ _ _ _
      | exact LeO.none _
      | refine LeO.ite ?_ ?_
      | refine LeO.bind ?_ (fun _ => ?_)
set_option maxHeartbeats 8000000 in
set_option maxRecDepth 100000 in
theorem date_Nth.calls (k : Nat) (a0 : Int) (a1 : Int) (a2 : Int) (a3 : Int) (r1 : Int) (r2 : Int) (w : World) (hL : LongAt w) (h : date_Nth.f k a0 a1 a2 a3 = some (r1, r2)) :
    Calls Tryd.prog 28 #[.int .i64 a0, .int .i64 a1, .int .i64 a2, .int .i64 a3] w fun e w' => e = .returned (.tuple #[.int .i64 r1, .int .i64 r2]) ∧ Below w.heap.size w w' := by
  have HLONG := Aside0.mk hL
  clear hL
  have HB := Aside0.mk (Below.refl w.heap.size w)
  have H : (if a2 < 1 then (date_Nth.j0 k a0 a1 a2 a3 true) else (if a2 > 7 then (date_Nth.j0 k a0 a1 a2 a3 true) else (if a3 < 1 then (date_Nth.j0 k a0 a1 a2 a3 true) else (date_Nth.j0 k a0 a1 a2 a3 (decide (a3 > 5)))))) = some (r1, r2) := h
  clear h
  have HC5 := Aside0.mk H
  clear H
  go_enter Tryd.func28, Tryd.ntmps28
  go_upto_region 1 with (fail)
  go_cut [24] (fun v24 wc => ∃ (kq : Nat) (x24_4 : Bool), v24 = .bool x24_4 ∧ Aside0 (date_Nth.j0 kq a0 a1 a2 a3 x24_4 = some (r1, r2)) ∧ Aside0 (kq ≤ k) ∧ Aside0 (Below w.heap.size w wc))
  case first =>
    have H := HC5.out
    clear HC5
    by_cases c6 : a2 < 1
    · rw [if_pos c6] at H
      have c6b0 : decide (a2 < 1) = true := decide_eq_true c6
      clear c6
      (first | rw [c6b0] | (simp only [i64_w, i32_w]; rw [c6b0]) | skip)
      have H' := Aside0.mk H
      clear H
      go_wp2
      go_meet
      case rel => exact ⟨_, (true), (by first | rfl | (simp; done) | (simp [*]; done)), H', ⟨by first | omega | exact Nat.le_refl _⟩, ⟨by repeat (first | (with_reducible first | exact HB.out | apply below_alloc | apply pw_below_drewN | apply below_drew1) | exact HB.out)⟩⟩
    · rw [if_neg c6] at H
      have c6b0 : decide (a2 < 1) = false := decide_eq_false c6
      clear c6
      (first | rw [c6b0] | (simp only [i64_w, i32_w]; rw [c6b0]) | skip)
      by_cases c7 : a2 > 7
      · rw [if_pos c7] at H
        have c7b0 : decide (7 < a2) = true := decide_eq_true c7
        clear c7
        have H' := Aside0.mk H
        clear H
        go_wp2
        go_meet
        case rel => exact ⟨_, (true), (by first | rfl | (simp; done) | (simp [*]; done)), H', ⟨by first | omega | exact Nat.le_refl _⟩, ⟨by repeat (first | (with_reducible first | exact HB.out | apply below_alloc | apply pw_below_drewN | apply below_drew1) | exact HB.out)⟩⟩
      · rw [if_neg c7] at H
        have c7b0 : decide (7 < a2) = false := decide_eq_false c7
        clear c7
        by_cases c8 : a3 < 1
        · rw [if_pos c8] at H
          have c8b0 : decide (a3 < 1) = true := decide_eq_true c8
          clear c8
          have H' := Aside0.mk H
          clear H
          go_wp2
          go_meet
          case rel => exact ⟨_, (true), (by first | rfl | (simp; done) | (simp [*]; done)), H', ⟨by first | omega | exact Nat.le_refl _⟩, ⟨by repeat (first | (with_reducible first | exact HB.out | apply below_alloc | apply pw_below_drewN | apply below_drew1) | exact HB.out)⟩⟩
        · rw [if_neg c8] at H
          have c8b0 : decide (a3 < 1) = false := decide_eq_false c8
          clear c8
          have H' := Aside0.mk H
          clear H
          go_wp2
          go_meet
          case rel => exact ⟨_, (decide (a3 > 5)), (by first | rfl | (simp; done) | (simp [*]; done)), H', ⟨by first | omega | exact Nat.le_refl _⟩, ⟨by repeat (first | (with_reducible first | exact HB.out | apply below_alloc | apply pw_below_drewN | apply below_drew1) | exact HB.out)⟩⟩
  case rest =>
    clear HC5
    try clear c2
    try clear p2
    try clear c6
    try clear c6b0
    try clear c7
    try clear c7b0
    try clear c8
    try clear c8b0
    obtain ⟨kq, x24_4, rfl, HA, HJ4, HB⟩ := hcut
    cases kq with
    | zero => exact absurd HA.out (by simp [date_Nth.j0])
    | succ kj4 =>
      have H := HA.out
      clear HA
      simp only [date_Nth.j0] at H
      by_cases c9 : x24_4 = true
      · subst c9
        have H1 : (some (0, 2)) = some (r1, r2) := by rw [if_pos rfl] at H; exact H
        clear H
        have H := H1
        clear H1
        simp only [Option.some.injEq, Prod.mk.injEq] at H
        obtain ⟨rfl, rfl⟩ := H
        go_wp2
        go_ret2
        exact ⟨by first | rfl | (simp [errW_none, errW_some] <;> rfl) | (simp [*, errW_none, errW_some] <;> rfl), by repeat (first | (with_reducible first | exact HB.out | apply below_alloc | apply pw_below_drewN | apply below_drew1) | exact HB.out)⟩
      · replace c9 := Bool.eq_false_iff.mpr c9
        subst c9
        have H1 : ((date_Of.f a0 a1 1).bind fun bt118 => (if bt118.2 = 0 then ((date_Weekday.f bt118.1).bind fun t120 => ((date_Of.f a0 a1 (wrap64 ((wrap64 (1 + (Int.tmod (wrap64 ((wrap64 (a2 - t120)) + 7)) 7))) + (wrap64 (7 * (wrap64 (a3 - 1))))))).bind fun bt121 => (some (bt121.1, bt121.2)))) else (some (0, bt118.2)))) = some (r1, r2) := by rw [if_neg (show ¬ (false = true) by decide)] at H; exact H
        clear H
        have H := H1
        clear H1
        replace H := Option.bind_eq_some_iff.mp H
        obtain ⟨⟨t118, t119⟩, A100, H⟩ := H
        replace H : (if t119 = 0 then ((date_Weekday.f t118).bind fun t120 => ((date_Of.f a0 a1 (wrap64 ((wrap64 (1 + (Int.tmod (wrap64 ((wrap64 (a2 - t120)) + 7)) 7))) + (wrap64 (7 * (wrap64 (a3 - 1))))))).bind fun bt121 => (some (bt121.1, bt121.2)))) else (some (0, t119))) = some (r1, r2) := H
        have A10 := Aside0.mk A100
        clear A100
        by_cases c11 : t119 = 0
        · rw [if_pos c11] at H
          have c11b0 : (t119 == 0) = true := beq_iff_eq.mpr c11
          have c11b1 : (t119 != 0) = false := bne_eq_false_iff_eq.mpr c11
          clear c11
          replace H := Option.bind_eq_some_iff.mp H
          obtain ⟨t120, A120, H⟩ := H
          replace H : ((date_Of.f a0 a1 (wrap64 ((wrap64 (1 + (Int.tmod (wrap64 ((wrap64 (a2 - t120)) + 7)) 7))) + (wrap64 (7 * (wrap64 (a3 - 1))))))).bind fun bt121 => (some (bt121.1, bt121.2))) = some (r1, r2) := H
          have A12 := Aside0.mk A120
          clear A120
          replace H := Option.bind_eq_some_iff.mp H
          obtain ⟨⟨t121, t122⟩, A130, H⟩ := H
          replace H : (some (t121, t122)) = some (r1, r2) := H
          have A13 := Aside0.mk A130
          clear A130
          simp only [Option.some.injEq, Prod.mk.injEq] at H
          obtain ⟨rfl, rfl⟩ := H
          go_wp2_with (first | ((with_reducible refine gate_callee (f := 37) rfl ?_); refine goesL_ (some 28) rfl rfl Tryd.func37 (by kernel_rfl) rfl #[.int .i64 a0, .int .i64 a1, .int .i64 1] rfl (by (try simp only [List.map_toArray, List.map_cons, List.map_nil]); first | done | rfl | (simp only [List.length_drop, List.length_take]; rfl)) ?_; (with_reducible refine (date_Of.calls a0 a1 1 t118 t119 _ (by repeat (first | exact HLONG.out | exact LongAt.after HLONG.out (by assumption) | exact LongAt.below HLONG.out (by assumption) | apply LongAt.drewN | apply LongAt.drew | apply LongAt.alloc)) A10.out).mono ?_); rintro e w14 ⟨rfl, hb⟩; refine ⟨_, rfl, ?_⟩; have n0_ := Aside0.mk (below_step (by repeat (first | (with_reducible first | exact HB.out | apply below_alloc | apply pw_below_drewN | apply below_drew1) | exact HB.out)) hb); clear HB; have HB := n0_; clear n0_; (try clear hb); (try clear hb2); (try clear hk); (try clear hi)) | ((with_reducible refine gate_callee (f := 36) rfl ?_); refine goesL_ (some 36) rfl rfl Tryd.func36 (by kernel_rfl) rfl #[.int .i64 t118] rfl (by (try simp only [List.map_toArray, List.map_cons, List.map_nil]); first | done | rfl | (simp only [List.length_drop, List.length_take]; rfl)) ?_; (with_reducible refine (date_Weekday.calls t118 t120 _ A12.out).mono ?_); rintro e w' ⟨rfl, ⟨nd, rfl⟩⟩; refine ⟨_, rfl, ?_⟩) | ((with_reducible refine gate_callee (f := 37) rfl ?_); refine goesL_ (some 48) rfl rfl Tryd.func37 (by kernel_rfl) rfl #[.int .i64 a0, .int .i64 a1, .int .i64 (wrap64 ((wrap64 (1 + (Int.tmod (wrap64 ((wrap64 (a2 - t120)) + 7)) 7))) + (wrap64 (7 * (wrap64 (a3 - 1))))))] rfl (by (try simp only [List.map_toArray, List.map_cons, List.map_nil]); first | done | rfl | (simp only [List.length_drop, List.length_take]; rfl)) ?_; (with_reducible refine (date_Of.calls a0 a1 (wrap64 ((wrap64 (1 + (Int.tmod (wrap64 ((wrap64 (a2 - t120)) + 7)) 7))) + (wrap64 (7 * (wrap64 (a3 - 1)))))) t121 t122 _ (by repeat (first | exact HLONG.out | exact LongAt.after HLONG.out (by assumption) | exact LongAt.below HLONG.out (by assumption) | apply LongAt.drewN | apply LongAt.drew | apply LongAt.alloc)) A13.out).mono ?_); rintro e w15 ⟨rfl, hb⟩; refine ⟨_, rfl, ?_⟩; have n0_ := Aside0.mk (below_step (by repeat (first | (with_reducible first | exact HB.out | apply below_alloc | apply pw_below_drewN | apply below_drew1) | exact HB.out)) hb); clear HB; have HB := n0_; clear n0_; (try clear hb); (try clear hb2); (try clear hk); (try clear hi)))
          go_ret2
          exact ⟨by first | rfl | (simp [errW_none, errW_some] <;> rfl) | (simp [*, errW_none, errW_some] <;> rfl), by repeat (first | (with_reducible first | exact HB.out | apply below_alloc | apply pw_below_drewN | apply below_drew1) | exact HB.out)⟩
        · rw [if_neg c11] at H
          have c11b0 : (t119 == 0) = false := beq_eq_false_iff_ne.mpr c11
          have c11b1 : (t119 != 0) = true := bne_iff_ne.mpr c11
          simp only [Option.some.injEq, Prod.mk.injEq] at H
          obtain ⟨rfl, rfl⟩ := H
          go_wp2_with (first | ((with_reducible refine gate_callee (f := 37) rfl ?_); refine goesL_ (some 28) rfl rfl Tryd.func37 (by kernel_rfl) rfl #[.int .i64 a0, .int .i64 a1, .int .i64 1] rfl (by (try simp only [List.map_toArray, List.map_cons, List.map_nil]); first | done | rfl | (simp only [List.length_drop, List.length_take]; rfl)) ?_; (with_reducible refine (date_Of.calls a0 a1 1 t118 t119 _ (by repeat (first | exact HLONG.out | exact LongAt.after HLONG.out (by assumption) | exact LongAt.below HLONG.out (by assumption) | apply LongAt.drewN | apply LongAt.drew | apply LongAt.alloc)) A10.out).mono ?_); rintro e w16 ⟨rfl, hb⟩; refine ⟨_, rfl, ?_⟩; have n0_ := Aside0.mk (below_step (by repeat (first | (with_reducible first | exact HB.out | apply below_alloc | apply pw_below_drewN | apply below_drew1) | exact HB.out)) hb); clear HB; have HB := n0_; clear n0_; (try clear hb); (try clear hb2); (try clear hk); (try clear hi)))
          go_ret2
          exact ⟨by first | rfl | (simp [errW_none, errW_some] <;> rfl) | (simp [*, errW_none, errW_some] <;> rfl), by repeat (first | (with_reducible first | exact HB.out | apply below_alloc | apply pw_below_drewN | apply below_drew1) | exact HB.out)⟩

/-! ### workday_Expiry: function 25 -/
def workday_Expiry.f (k : Nat) (l0 : List Int) (a1 a2 : Int) : Option (Int × Int) := if chkV l0 = 0 then ((date_Nth.f k a1 a2 5 3).bind fun t => if t.2 = 0 then (if workV l0 t.1 = true then some (t.1, 0) else workday_Before.f l0 t.1) else some (0, t.2)) else some (0, chkV l0)
theorem workday_Expiry.mono : ∀ a0 a1 a2 k, LeO (workday_Expiry.f k a0 a1 a2) (workday_Expiry.f (k + 1) a0 a1 a2) := by
  intro a0 a1 a2 k
  unfold workday_Expiry.f
  exact LeO.ite (LeO.bind (date_Nth.mono _ _ _ _ _) (fun _ => LeO.refl _)) (LeO.refl _)
set_option maxHeartbeats 8000000 in
set_option maxRecDepth 100000 in
theorem workday_Expiry.calls (k : Nat) (A0 : Option Addr) (c0 : Nat) (l0 : List Int) (a1 a2 r1 r2 : Int) (w : World) (hL : LongAt w) (hr0 : Kd.C (Kd.int .i64) w A0 l0.length l0) (hc0 : l0.length ≤ c0) (h : workday_Expiry.f k l0 a1 a2 = some (r1, r2)) :
    Calls Tryd.prog 25 #[.slice A0 l0.length c0, .int .i64 a1, .int .i64 a2] w fun e w' => e = .returned (.tuple #[.int .i64 r1, .int .i64 r2]) ∧ Below w.heap.size w w' := by
  unfold workday_Expiry.f at h
  obtain ⟨kc, hkc⟩ := xv_get (check_val l0)
  have HCK := Aside0.mk (workday_Check.calls kc A0 c0 l0 (chkV l0) w hr0 hc0 hkc)
  clear hkc
  by_cases hz : chkV l0 = 0
  · rw [if_pos hz] at h
    obtain ⟨⟨day, e1⟩, hn, h⟩ := Option.bind_eq_some_iff.1 h
    dsimp only at h
    have HN := Aside0.mk (fun (W : World) (hB : Below w.heap.size w W) => date_Nth.calls k a1 a2 5 3 day e1 W (hL.below hB) hn)
    rw [hz] at HCK
    have hs := chkV_srt _ hz
    clear hn hz hL
    by_cases he : e1 = 0
    · rw [if_pos he] at h
      subst he
      have hwk : ∀ (W : World) (g1 g2 : Nat), Below w.heap.size w W → W.heap[g1]? = some (.cells #[.slice A0 l0.length c0] 22 (0, 0)) → W.heap[g2]? = some (.cells weekL.toArray 51 (0, 0)) → Calls Tryd.prog 38 #[.int .i64 day, .pointer (some ⟨g1, 0, none⟩), .pointer (some ⟨g2, 0, none⟩)] W fun e w' => e = .returned (.bool (workV l0 day)) ∧ Below W.heap.size W w' := fun W g1 g2 hB h1 h2 => working1_any A0 c0 l0 day g1 g2 W (Kd.C_below hr0 hB) hc0 hs h1 h2
      have HW := Aside0.mk hwk
      clear hwk hs
      cases hb : workV l0 day with
      | true =>
        rw [hb] at HW
        rw [hb, if_pos rfl] at h
        simp only [Option.some.injEq, Prod.mk.injEq] at h
        obtain ⟨rfl, rfl⟩ := h
        clear hb hr0
        go_enter Tryd.func25, Tryd.ntmps25
        go_wp2_with (first | (go_at_call 19; (with_reducible refine HCK.out.mono ?_); rintro e w2 ⟨rfl, hd⟩; have HB := Aside0.mk hd.below; clear hd) | (go_at_call 28; (with_reducible refine (HN.out _ HB.out).mono ?_); rintro e w3 ⟨rfl, hd⟩; have HB2 := Aside0.mk (below_step HB.out hd); clear hd))
        refine (working_any A0 l0.length c0 _).mono ?_
        rintro e w4 ⟨g1, g2, rfl, _, _, h1, h2, hb⟩
        have HB3 := Aside0.mk (below_step HB2.out hb)
        have H1 := Aside0.mk h1
        have H2 := Aside0.mk h2
        clear hb h1 h2
        go_wp2_with fail
        refine (HW.out _ g1 g2 HB3.out H1.out H2.out).mono ?_
        rintro e w5 ⟨rfl, hb⟩
        have HB5 := Aside0.mk (below_step HB3.out hb)
        clear hb
        go_wp2
        go_ret2
        exact ⟨rfl, HB5.out⟩
      | false =>
        rw [hb] at HW
        rw [hb, if_neg (by decide)] at h
        have HBF := Aside0.mk (fun (W : World) (hB : Below w.heap.size w W) => workday_Before.calls A0 c0 l0 day r1 r2 W (Kd.C_below hr0 hB) hc0 h)
        clear hb hr0 h
        go_enter Tryd.func25, Tryd.ntmps25
        go_wp2_with (first | (go_at_call 19; (with_reducible refine HCK.out.mono ?_); rintro e w2 ⟨rfl, hd⟩; have HB := Aside0.mk hd.below; clear hd) | (go_at_call 28; (with_reducible refine (HN.out _ HB.out).mono ?_); rintro e w3 ⟨rfl, hd⟩; have HB2 := Aside0.mk (below_step HB.out hd); clear hd))
        refine (working_any A0 l0.length c0 _).mono ?_
        rintro e w4 ⟨g1, g2, rfl, _, _, h1, h2, hb⟩
        have HB3 := Aside0.mk (below_step HB2.out hb)
        have H1 := Aside0.mk h1
        have H2 := Aside0.mk h2
        clear hb h1 h2
        go_wp2_with fail
        refine (HW.out _ g1 g2 HB3.out H1.out H2.out).mono ?_
        rintro e w5 ⟨rfl, hb⟩
        have HB5 := Aside0.mk (below_step HB3.out hb)
        clear hb
        go_wp2_with (go_at_call 15; (with_reducible refine (HBF.out _ HB5.out).mono ?_); rintro e w6 ⟨rfl, hd⟩; have HB6 := Aside0.mk (below_step HB5.out hd); clear hd)
        go_ret2
        exact ⟨rfl, HB6.out⟩
    · rw [if_neg he] at h
      simp only [Option.some.injEq, Prod.mk.injEq] at h
      obtain ⟨rfl, rfl⟩ := h
      have de : (e1 != 0) = true := bne_iff_ne.2 he
      clear he hr0
      go_enter Tryd.func25, Tryd.ntmps25
      go_wp2_with (first | (go_at_call 19; (with_reducible refine HCK.out.mono ?_); rintro e w2 ⟨rfl, hd⟩; have HB := Aside0.mk hd.below; clear hd) | (go_at_call 28; (with_reducible refine (HN.out _ HB.out).mono ?_); rintro e w3 ⟨rfl, hd⟩; have HB2 := Aside0.mk (below_step HB.out hd); clear hd))
      go_ret2
      exact ⟨rfl, HB2.out⟩
  · rw [if_neg hz] at h
    simp only [Option.some.injEq, Prod.mk.injEq] at h
    obtain ⟨rfl, rfl⟩ := h
    have dz : (chkV l0 != 0) = true := bne_iff_ne.2 hz
    generalize chkV l0 = e0 at *
    clear hz hr0
    go_enter Tryd.func25, Tryd.ntmps25
    go_wp2_with (go_at_call 19; (with_reducible refine HCK.out.mono ?_); rintro e w2 ⟨rfl, hd⟩; have HB := Aside0.mk hd.below; clear hd)
    go_ret2
    exact ⟨rfl, HB.out⟩

/-! ### contangotop_goes03: function 27 -/
def contangotop_goes03.f (k : Nat)  : Option (Bool) := (workday_Expiry.f k ([] : List Int) 2000 1).bind fun bt123 => ((workday_Works.f ([] : List Int) bt123.1).bind fun bt125 => (if bt123.1 = 20 then (if bt123.2 = 0 then (if bt125.1 = true then (if bt125.2 = 0 then ((date_Weekday.f bt123.1).bind fun t127 => (some (t127 == 5))) else (none)) else (none)) else (none)) else (none)))
theorem contangotop_goes03.mono : ∀ k, LeO (contangotop_goes03.f k ) (contangotop_goes03.f (k + 1) ) := by
  intro  k
  unfold contangotop_goes03.f
  repeat' first
      | (with_reducible exact workday_Expiry.mono _ _ _ _)
      | (with_reducible exact LeO.refl _)
      | (with_reducible exact LeO.none _)
      | (with_reducible refine LeO.ite ?_ ?_)
      | (with_reducible refine LeO.bind ?_ (fun _ => ?_))
      | exact workday_Expiry.mono _ _ _ _
      | exact LeO.none _
      | refine LeO.ite ?_ ?_
      | refine LeO.bind ?_ (fun _ => ?_)
set_option maxHeartbeats 8000000 in
set_option maxRecDepth 100000 in
theorem contangotop_goes03.calls (k : Nat)  (r : Bool) (w : World) (hL : LongAt w) (h : contangotop_goes03.f k  = some r) :
    Calls Tryd.prog 27 #[] w fun e w' => e = .returned (.bool r) ∧ Below w.heap.size w w' := by
  have HLONG := Aside0.mk hL
  clear hL
  have HB := Aside0.mk (Below.refl w.heap.size w)
  have H : ((workday_Expiry.f k ([] : List Int) 2000 1).bind fun bt123 => ((workday_Works.f ([] : List Int) bt123.1).bind fun bt125 => (if bt123.1 = 20 then (if bt123.2 = 0 then (if bt125.1 = true then (if bt125.2 = 0 then ((date_Weekday.f bt123.1).bind fun t127 => (some (t127 == 5))) else (none)) else (none)) else (none)) else (none)))) = some r := h
  clear h
  replace H := Option.bind_eq_some_iff.mp H
  obtain ⟨⟨t123, t124⟩, A10, H⟩ := H
  replace H : ((workday_Works.f ([] : List Int) t123).bind fun bt125 => (if t123 = 20 then (if t124 = 0 then (if bt125.1 = true then (if bt125.2 = 0 then ((date_Weekday.f t123).bind fun t127 => (some (t127 == 5))) else (none)) else (none)) else (none)) else (none))) = some r := H
  have A1 := Aside0.mk A10
  clear A10
  replace H := Option.bind_eq_some_iff.mp H
  obtain ⟨⟨t125, t126⟩, A20, H⟩ := H
  replace H : (if t123 = 20 then (if t124 = 0 then (if t125 = true then (if t126 = 0 then ((date_Weekday.f t123).bind fun t127 => (some (t127 == 5))) else (none)) else (none)) else (none)) else (none)) = some r := H
  have A2 := Aside0.mk A20
  clear A20
  by_cases c3 : t123 = 20
  · rw [if_pos c3] at H
    have c3b0 : (t123 == 20) = true := beq_iff_eq.mpr c3
    have c3b1 : (t123 != 20) = false := bne_eq_false_iff_eq.mpr c3
    clear c3
    by_cases c4 : t124 = 0
    · rw [if_pos c4] at H
      have c4b0 : (t124 == 0) = true := beq_iff_eq.mpr c4
      have c4b1 : (t124 != 0) = false := bne_eq_false_iff_eq.mpr c4
      clear c4
      by_cases c5 : t125 = true
      · subst c5
        have H1 : (if t126 = 0 then ((date_Weekday.f t123).bind fun t127 => (some (t127 == 5))) else (none)) = some r := by rw [if_pos rfl] at H; exact H
        clear H
        have H := H1
        clear H1
        by_cases c6 : t126 = 0
        · rw [if_pos c6] at H
          have c6b0 : (t126 == 0) = true := beq_iff_eq.mpr c6
          have c6b1 : (t126 != 0) = false := bne_eq_false_iff_eq.mpr c6
          clear c6
          replace H := Option.bind_eq_some_iff.mp H
          obtain ⟨t127, A70, H⟩ := H
          replace H : (some (t127 == 5)) = some r := H
          have A7 := Aside0.mk A70
          clear A70
          obtain rfl := Option.some.inj H
          go_enter Tryd.func27, Tryd.ntmps27
          go_wp2_with (first | ((with_reducible refine gate_callee (f := 25) rfl ?_); refine goesL_ (some 6) rfl rfl Tryd.func25 (by kernel_rfl) rfl #[.slice none 0 0, .int .i64 2000, .int .i64 1] rfl (by (try simp only [List.map_toArray, List.map_cons, List.map_nil]); first | done | rfl | (simp only [List.length_drop, List.length_take]; rfl)) ?_; (refine (workday_Expiry.calls k _ _ ([] : List Int) 2000 1 t123 t124 _ (by repeat (first | exact HLONG.out | exact LongAt.after HLONG.out (by assumption) | exact LongAt.below HLONG.out (by assumption) | apply LongAt.drewN | apply LongAt.drew | apply LongAt.alloc)) ?side1 ?side2 A1.out).mono ?_); (case side1 => exact Kd.C_nil _ _); (case side2 => exact Nat.le_refl _); rintro e w8 ⟨rfl, hb⟩; refine ⟨_, rfl, ?_⟩; have n0_ := Aside0.mk (below_step (by repeat (first | (with_reducible first | exact HB.out | apply below_alloc | apply pw_below_drewN | apply below_drew1) | exact HB.out)) hb); clear HB; have HB := n0_; clear n0_; (try clear hb); (try clear hb2); (try clear hk); (try clear hi)) | ((with_reducible refine gate_callee (f := 11) rfl ?_); refine goesL_ (some 11) rfl rfl Tryd.func11 (by kernel_rfl) rfl #[.slice none 0 0, .int .i64 t123] rfl (by (try simp only [List.map_toArray, List.map_cons, List.map_nil]); first | done | rfl | (simp only [List.length_drop, List.length_take]; rfl)) ?_; (refine (workday_Works.calls _ _ ([] : List Int) t123 true t126 _ ?side1 ?side2 A2.out).mono ?_); (case side1 => exact Kd.C_nil _ _); (case side2 => exact Nat.le_refl _); rintro e w9 ⟨rfl, hb⟩; refine ⟨_, rfl, ?_⟩; have n0_ := Aside0.mk (below_step (by repeat (first | (with_reducible first | exact HB.out | apply below_alloc | apply pw_below_drewN | apply below_drew1) | exact HB.out)) hb); clear HB; have HB := n0_; clear n0_; (try clear hb); (try clear hb2); (try clear hk); (try clear hi)) | (go_at_call 36; (with_reducible refine (date_Weekday.calls t123 t127 _ A7.out).mono ?_); rintro e w' ⟨rfl, ⟨nd, rfl⟩⟩))
          go_ret
          exact ⟨by first | rfl | (simp [errW_none, errW_some] <;> rfl) | (simp [*, errW_none, errW_some] <;> rfl), by repeat (first | (with_reducible first | exact HB.out | apply below_alloc | apply pw_below_drewN | apply below_drew1) | exact HB.out)⟩
        · rw [if_neg c6] at H
          exact absurd H (by simp)
      · replace c5 := Bool.eq_false_iff.mpr c5
        subst c5
        have H1 : (none) = some r := by rw [if_neg (show ¬ (false = true) by decide)] at H; exact H
        clear H
        have H := H1
        clear H1
        exact absurd H (by simp)
    · rw [if_neg c4] at H
      exact absurd H (by simp)
  · rw [if_neg c3] at H
    exact absurd H (by simp)

/-! ### contangotop_TopExpiry: function 8 -/
def contangotop_TopExpiry.j0 : Nat → List Int → Int → Int → Int → Bool → Option (Bool)
  | 0, _, _, _, _, _ => none
  | k + 1, x0, x1, x2, x7, x76 => if x76 = true then (none) else ((workday_Expiry.f k x0 (wrap64 (x1 + (wrap64 (Int.tdiv x2 12)))) (wrap64 ((Int.tmod x2 12) + 1))).bind fun bt138 => (if bt138.2 = 0 then (if x7 ≤ bt138.1 then ((contangotop_goes03.f k).bind fun t140 => (some t140)) else (none)) else ((contangotop_goes03.f k).bind fun t141 => (some t141))))
def contangotop_TopExpiry.f (k : Nat) (l0 : List Int) (a1 : Int) (a2 : Int) : Option (Bool) := if (l0.length : Int) > 60 then ((contangotop_goes03.f k).bind fun t128 => (some t128)) else ((workday_Expiry.f k l0 a1 a2).bind fun bt129 => (if bt129.2 = 0 then ((date_Nth.f k a1 a2 5 3).bind fun bt132 => ((workday_Works.f l0 bt129.1).bind fun bt134 => ((workday_Count.f l0 bt129.1 bt132.1).bind fun bt136 => (if bt132.2 = 0 then (if bt134.2 = 0 then (if bt136.2 = 0 then (if bt134.1 = true then (if bt136.1 = 1 then (contangotop_TopExpiry.j0 k l0 a1 a2 bt129.1 (decide (bt129.1 > bt132.1))) else (contangotop_TopExpiry.j0 k l0 a1 a2 bt129.1 true)) else (contangotop_TopExpiry.j0 k l0 a1 a2 bt129.1 true)) else (contangotop_TopExpiry.j0 k l0 a1 a2 bt129.1 true)) else (contangotop_TopExpiry.j0 k l0 a1 a2 bt129.1 true)) else (contangotop_TopExpiry.j0 k l0 a1 a2 bt129.1 true))))) else (if bt129.1 = 0 then ((contangotop_goes03.f k).bind fun t131 => (some t131)) else (none))))
theorem contangotop_TopExpiry.mono_l : ∀ k, (∀ y0 y1 y2 y3 y4, LeO (contangotop_TopExpiry.j0 k y0 y1 y2 y3 y4) (contangotop_TopExpiry.j0 (k + 1) y0 y1 y2 y3 y4))
  | 0 => fun _ _ _ _ _ r h => by simp [contangotop_TopExpiry.j0] at h
  | k + 1 => by
    have ih0 := contangotop_TopExpiry.mono_l k
    · intro y0 y1 y2 y3 y4
      unfold contangotop_TopExpiry.j0
      repeat' first
      | (with_reducible exact ih0 _ _ _ _ _)
      | (with_reducible exact contangotop_goes03.mono _)
      | (with_reducible exact date_Nth.mono _ _ _ _ _)
      | (with_reducible exact workday_Expiry.mono _ _ _ _)
      | (with_reducible exact LeO.refl _)
      | (with_reducible exact LeO.none _)
      | (with_reducible refine LeO.ite ?_ ?_)
      | (with_reducible refine LeO.bind ?_ (fun _ => ?_))
      | exact ih0 _ _ _ _ _
      | exact contangotop_goes03.mono _
      | exact date_Nth.mono _ _ _ _ _
      | exact workday_Expiry.mono _ _ _ _
      | exact LeO.none _
      | refine LeO.ite ?_ ?_
      | refine LeO.bind ?_ (fun _ => ?_)
theorem contangotop_TopExpiry.mono : ∀ a0 a1 a2 k, LeO (contangotop_TopExpiry.f k a0 a1 a2) (contangotop_TopExpiry.f (k + 1) a0 a1 a2) := by
  intro a0 a1 a2 k
  have ih0 := contangotop_TopExpiry.mono_l k
  unfold contangotop_TopExpiry.f
  repeat' first
      | (with_reducible exact ih0 _ _ _ _ _)
      | (with_reducible exact contangotop_goes03.mono _)
      | (with_reducible exact date_Nth.mono _ _ _ _ _)
      | (with_reducible exact workday_Expiry.mono _ _ _ _)
      | (with_reducible exact LeO.refl _)
      | (with_reducible exact LeO.none _)
      | (with_reducible refine LeO.ite ?_ ?_)
      | (with_reducible refine LeO.bind ?_ (fun _ => ?_))
      | exact ih0 _ _ _ _ _
      | exact contangotop_goes03.mono _
      | exact date_Nth.mono _ _ _ _ _
      | exact workday_Expiry.mono _ _ _ _
      | exact LeO.none _
      | refine LeO.ite ?_ ?_
      | refine LeO.bind ?_ (fun _ => ?_)
set_option maxHeartbeats 8000000 in
set_option maxRecDepth 100000 in
theorem contangotop_TopExpiry.calls (k : Nat) (A0 : Option Addr) (c0 : Nat) (l0 : List Int) (a1 : Int) (a2 : Int) (r : Bool) (w : World) (hL : LongAt w) (hr0 : Kd.C (Kd.int .i64) w A0 l0.length l0) (hc0 : l0.length ≤ c0) (h : contangotop_TopExpiry.f k l0 a1 a2 = some r) :
    Calls Tryd.prog 8 #[.slice A0 l0.length c0, .int .i64 a1, .int .i64 a2] w fun e w' => e = .returned (.bool r) ∧ Below w.heap.size w w' := by
  have HLONG := Aside0.mk hL
  clear hL
  have HR0 := Aside0.mk hr0
  have HC0 := Aside0.mk hc0
  clear hr0 hc0
  have HB := Aside0.mk (Below.refl w.heap.size w)
  have H : (if (l0.length : Int) > 60 then ((contangotop_goes03.f k).bind fun t128 => (some t128)) else ((workday_Expiry.f k l0 a1 a2).bind fun bt129 => (if bt129.2 = 0 then ((date_Nth.f k a1 a2 5 3).bind fun bt132 => ((workday_Works.f l0 bt129.1).bind fun bt134 => ((workday_Count.f l0 bt129.1 bt132.1).bind fun bt136 => (if bt132.2 = 0 then (if bt134.2 = 0 then (if bt136.2 = 0 then (if bt134.1 = true then (if bt136.1 = 1 then (contangotop_TopExpiry.j0 k l0 a1 a2 bt129.1 (decide (bt129.1 > bt132.1))) else (contangotop_TopExpiry.j0 k l0 a1 a2 bt129.1 true)) else (contangotop_TopExpiry.j0 k l0 a1 a2 bt129.1 true)) else (contangotop_TopExpiry.j0 k l0 a1 a2 bt129.1 true)) else (contangotop_TopExpiry.j0 k l0 a1 a2 bt129.1 true)) else (contangotop_TopExpiry.j0 k l0 a1 a2 bt129.1 true))))) else (if bt129.1 = 0 then ((contangotop_goes03.f k).bind fun t131 => (some t131)) else (none))))) = some r := h
  clear h
  by_cases c4 : (l0.length : Int) > 60
  · rw [if_pos c4] at H
    have c4b0 : decide (60 < (l0.length : Int)) = true := decide_eq_true c4
    have c4b1 : decide (60 < l0.length) = true := decide_eq_true (by omega)
    clear c4
    replace H := Option.bind_eq_some_iff.mp H
    obtain ⟨t128, A50, H⟩ := H
    replace H : (some t128) = some r := H
    have A5 := Aside0.mk A50
    clear A50
    obtain rfl := Option.some.inj H
    go_enter Tryd.func8, Tryd.ntmps8
    go_wp2_with (first | ((with_reducible refine gate_callee (f := 27) rfl ?_); refine goesL_ (some 20) rfl rfl Tryd.func27 (by kernel_rfl) rfl #[] rfl (by (try simp only [List.map_toArray, List.map_cons, List.map_nil]); first | done | rfl | (simp only [List.length_drop, List.length_take]; rfl)) ?_; (with_reducible refine (contangotop_goes03.calls k  t128 _ (by repeat (first | exact HLONG.out | exact LongAt.after HLONG.out (by assumption) | exact LongAt.below HLONG.out (by assumption) | apply LongAt.drewN | apply LongAt.drew | apply LongAt.alloc)) A5.out).mono ?_); rintro e w6 ⟨rfl, hb⟩; refine ⟨_, rfl, ?_⟩; have n0_ := Aside0.mk (below_step (by repeat (first | (with_reducible first | exact HB.out | apply below_alloc | apply pw_below_drewN | apply below_drew1) | exact HB.out)) hb); clear HB; have HB := n0_; clear n0_; (try clear hb); (try clear hb2); (try clear hk); (try clear hi)))
    go_ret
    exact ⟨by first | rfl | (simp [errW_none, errW_some] <;> rfl) | (simp [*, errW_none, errW_some] <;> rfl), by repeat (first | (with_reducible first | exact HB.out | apply below_alloc | apply pw_below_drewN | apply below_drew1) | exact HB.out)⟩
  · rw [if_neg c4] at H
    have c4b0 : decide (60 < (l0.length : Int)) = false := decide_eq_false c4
    have c4b1 : decide (60 < l0.length) = false := decide_eq_false (by omega)
    clear c4
    replace H := Option.bind_eq_some_iff.mp H
    obtain ⟨⟨t129, t130⟩, A70, H⟩ := H
    replace H : (if t130 = 0 then ((date_Nth.f k a1 a2 5 3).bind fun bt132 => ((workday_Works.f l0 t129).bind fun bt134 => ((workday_Count.f l0 t129 bt132.1).bind fun bt136 => (if bt132.2 = 0 then (if bt134.2 = 0 then (if bt136.2 = 0 then (if bt134.1 = true then (if bt136.1 = 1 then (contangotop_TopExpiry.j0 k l0 a1 a2 t129 (decide (t129 > bt132.1))) else (contangotop_TopExpiry.j0 k l0 a1 a2 t129 true)) else (contangotop_TopExpiry.j0 k l0 a1 a2 t129 true)) else (contangotop_TopExpiry.j0 k l0 a1 a2 t129 true)) else (contangotop_TopExpiry.j0 k l0 a1 a2 t129 true)) else (contangotop_TopExpiry.j0 k l0 a1 a2 t129 true))))) else (if t129 = 0 then ((contangotop_goes03.f k).bind fun t131 => (some t131)) else (none))) = some r := H
    have A7 := Aside0.mk A70
    clear A70
    by_cases c8 : t130 = 0
    · rw [if_pos c8] at H
      have c8b0 : (t130 == 0) = true := beq_iff_eq.mpr c8
      have c8b1 : (t130 != 0) = false := bne_eq_false_iff_eq.mpr c8
      clear c8
      replace H := Option.bind_eq_some_iff.mp H
      obtain ⟨⟨t132, t133⟩, A90, H⟩ := H
      replace H : ((workday_Works.f l0 t129).bind fun bt134 => ((workday_Count.f l0 t129 t132).bind fun bt136 => (if t133 = 0 then (if bt134.2 = 0 then (if bt136.2 = 0 then (if bt134.1 = true then (if bt136.1 = 1 then (contangotop_TopExpiry.j0 k l0 a1 a2 t129 (decide (t129 > t132))) else (contangotop_TopExpiry.j0 k l0 a1 a2 t129 true)) else (contangotop_TopExpiry.j0 k l0 a1 a2 t129 true)) else (contangotop_TopExpiry.j0 k l0 a1 a2 t129 true)) else (contangotop_TopExpiry.j0 k l0 a1 a2 t129 true)) else (contangotop_TopExpiry.j0 k l0 a1 a2 t129 true)))) = some r := H
      have A9 := Aside0.mk A90
      clear A90
      replace H := Option.bind_eq_some_iff.mp H
      obtain ⟨⟨t134, t135⟩, A100, H⟩ := H
      replace H : ((workday_Count.f l0 t129 t132).bind fun bt136 => (if t133 = 0 then (if t135 = 0 then (if bt136.2 = 0 then (if t134 = true then (if bt136.1 = 1 then (contangotop_TopExpiry.j0 k l0 a1 a2 t129 (decide (t129 > t132))) else (contangotop_TopExpiry.j0 k l0 a1 a2 t129 true)) else (contangotop_TopExpiry.j0 k l0 a1 a2 t129 true)) else (contangotop_TopExpiry.j0 k l0 a1 a2 t129 true)) else (contangotop_TopExpiry.j0 k l0 a1 a2 t129 true)) else (contangotop_TopExpiry.j0 k l0 a1 a2 t129 true))) = some r := H
      have A10 := Aside0.mk A100
      clear A100
      replace H := Option.bind_eq_some_iff.mp H
      obtain ⟨⟨t136, t137⟩, A110, H⟩ := H
      replace H : (if t133 = 0 then (if t135 = 0 then (if t137 = 0 then (if t134 = true then (if t136 = 1 then (contangotop_TopExpiry.j0 k l0 a1 a2 t129 (decide (t129 > t132))) else (contangotop_TopExpiry.j0 k l0 a1 a2 t129 true)) else (contangotop_TopExpiry.j0 k l0 a1 a2 t129 true)) else (contangotop_TopExpiry.j0 k l0 a1 a2 t129 true)) else (contangotop_TopExpiry.j0 k l0 a1 a2 t129 true)) else (contangotop_TopExpiry.j0 k l0 a1 a2 t129 true)) = some r := H
      have A11 := Aside0.mk A110
      clear A110
      have HC12 := Aside0.mk H
      clear H
      go_enter Tryd.func8, Tryd.ntmps8
      go_upto_region 9 with (first | ((with_reducible refine gate_callee (f := 25) rfl ?_); refine goesL_ (some 25) rfl rfl Tryd.func25 (by kernel_rfl) rfl #[.slice A0 l0.length c0, .int .i64 a1, .int .i64 a2] rfl (by (try simp only [List.map_toArray, List.map_cons, List.map_nil]); first | done | rfl | (simp only [List.length_drop, List.length_take]; rfl)) ?_; (with_reducible refine (workday_Expiry.calls k _ _ l0 a1 a2 t129 t130 _ (by repeat (first | exact HLONG.out | exact LongAt.after HLONG.out (by assumption) | exact LongAt.below HLONG.out (by assumption) | apply LongAt.drewN | apply LongAt.drew | apply LongAt.alloc)) ?side1 ?side2 A7.out).mono ?_); (case side1 => repeat (first | exact HR0.out | (with_reducible refine Kd.C_alloc ?_ _) | (with_reducible refine Kd.C_drewN ?_ _) | (with_reducible refine Kd.C_drew ?_))); (case side2 => exact HC0.out); rintro e w13 ⟨rfl, hb⟩; refine ⟨_, rfl, ?_⟩; have n0_ := Aside0.mk (below_step (by repeat (first | (with_reducible first | exact HB.out | apply below_alloc | apply pw_below_drewN | apply below_drew1) | exact HB.out)) hb); clear HB; have HB := n0_; clear n0_; (try clear hb); (try clear hb2); (try clear hk); (try clear hi)) | ((with_reducible refine gate_callee (f := 28) rfl ?_); refine goesL_ (some 38) rfl rfl Tryd.func28 (by kernel_rfl) rfl #[.int .i64 a1, .int .i64 a2, .int .i64 5, .int .i64 3] rfl (by (try simp only [List.map_toArray, List.map_cons, List.map_nil]); first | done | rfl | (simp only [List.length_drop, List.length_take]; rfl)) ?_; (with_reducible refine (date_Nth.calls k a1 a2 5 3 t132 t133 _ (by repeat (first | exact HLONG.out | exact LongAt.after HLONG.out (by assumption) | exact LongAt.below HLONG.out (by assumption) | apply LongAt.drewN | apply LongAt.drew | apply LongAt.alloc)) A9.out).mono ?_); rintro e w14 ⟨rfl, hb⟩; refine ⟨_, rfl, ?_⟩; have n0_ := Aside0.mk (below_step (by repeat (first | (with_reducible first | exact HB.out | apply below_alloc | apply pw_below_drewN | apply below_drew1) | exact HB.out)) hb); clear HB; have HB := n0_; clear n0_; (try clear hb); (try clear hb2); (try clear hk); (try clear hi)) | ((with_reducible refine gate_callee (f := 11) rfl ?_); refine goesL_ (some 44) rfl rfl Tryd.func11 (by kernel_rfl) rfl #[.slice A0 l0.length c0, .int .i64 t129] rfl (by (try simp only [List.map_toArray, List.map_cons, List.map_nil]); first | done | rfl | (simp only [List.length_drop, List.length_take]; rfl)) ?_; (with_reducible refine (workday_Works.calls _ _ l0 t129 t134 t135 _ ?side1 ?side2 A10.out).mono ?_); (case side1 => repeat (first | exact (Kd.C_below HR0.out HB.out) | (with_reducible refine Kd.C_alloc ?_ _) | (with_reducible refine Kd.C_drewN ?_ _) | (with_reducible refine Kd.C_drew ?_))); (case side2 => exact HC0.out); rintro e w15 ⟨rfl, hb⟩; refine ⟨_, rfl, ?_⟩; have n0_ := Aside0.mk (below_step (by repeat (first | (with_reducible first | exact HB.out | apply below_alloc | apply pw_below_drewN | apply below_drew1) | exact HB.out)) hb); clear HB; have HB := n0_; clear n0_; (try clear hb); (try clear hb2); (try clear hk); (try clear hi)) | ((with_reducible refine gate_callee (f := 23) rfl ?_); refine goesL_ (some 51) rfl rfl Tryd.func23 (by kernel_rfl) rfl #[.slice A0 l0.length c0, .int .i64 t129, .int .i64 t132] rfl (by (try simp only [List.map_toArray, List.map_cons, List.map_nil]); first | done | rfl | (simp only [List.length_drop, List.length_take]; rfl)) ?_; (with_reducible refine (workday_Count.calls _ _ l0 t129 t132 t136 t137 _ ?side1 ?side2 A11.out).mono ?_); (case side1 => repeat (first | exact (Kd.C_below HR0.out HB.out) | (with_reducible refine Kd.C_alloc ?_ _) | (with_reducible refine Kd.C_drewN ?_ _) | (with_reducible refine Kd.C_drew ?_))); (case side2 => exact HC0.out); rintro e w16 ⟨rfl, hb⟩; refine ⟨_, rfl, ?_⟩; have n0_ := Aside0.mk (below_step (by repeat (first | (with_reducible first | exact HB.out | apply below_alloc | apply pw_below_drewN | apply below_drew1) | exact HB.out)) hb); clear HB; have HB := n0_; clear n0_; (try clear hb); (try clear hb2); (try clear hk); (try clear hi)))
      (try simp only [Act.put, List.setIfInBounds_toArray, List.set_cons_zero, List.set_cons_succ])
      go_cut [76] (fun v76 wc => ∃ (kq : Nat) (x76_11 : Bool), v76 = .bool x76_11 ∧ Aside0 (contangotop_TopExpiry.j0 kq l0 a1 a2 t129 x76_11 = some r) ∧ Aside0 (kq ≤ k) ∧ Aside0 (Below w.heap.size w wc))
      case first =>
        have H := HC12.out
        clear HC12
        by_cases c17 : t133 = 0
        · rw [if_pos c17] at H
          have c17b0 : (t133 == 0) = true := beq_iff_eq.mpr c17
          have c17b1 : (t133 != 0) = false := bne_eq_false_iff_eq.mpr c17
          clear c17
          (first | rw [c17b0] | (simp only [i64_w, i32_w]; rw [c17b0]) | rw [c17b1] | skip)
          by_cases c18 : t135 = 0
          · rw [if_pos c18] at H
            have c18b0 : (t135 == 0) = true := beq_iff_eq.mpr c18
            have c18b1 : (t135 != 0) = false := bne_eq_false_iff_eq.mpr c18
            clear c18
            by_cases c19 : t137 = 0
            · rw [if_pos c19] at H
              have c19b0 : (t137 == 0) = true := beq_iff_eq.mpr c19
              have c19b1 : (t137 != 0) = false := bne_eq_false_iff_eq.mpr c19
              clear c19
              by_cases c20 : t134 = true
              · subst c20
                have H1 : (if t136 = 1 then (contangotop_TopExpiry.j0 k l0 a1 a2 t129 (decide (t129 > t132))) else (contangotop_TopExpiry.j0 k l0 a1 a2 t129 true)) = some r := by rw [if_pos rfl] at H; exact H
                clear H
                have H := H1
                clear H1
                by_cases c21 : t136 = 1
                · rw [if_pos c21] at H
                  have c21b0 : (t136 == 1) = true := beq_iff_eq.mpr c21
                  have c21b1 : (t136 != 1) = false := bne_eq_false_iff_eq.mpr c21
                  clear c21
                  have H' := Aside0.mk H
                  clear H
                  go_wp2
                  go_meet
                  case rel => exact ⟨_, (decide (t129 > t132)), (by first | rfl | (simp; done) | (simp [*]; done)), H', ⟨by first | omega | exact Nat.le_refl _⟩, ⟨by repeat (first | (with_reducible first | exact HB.out | apply below_alloc | apply pw_below_drewN | apply below_drew1) | exact HB.out)⟩⟩
                · rw [if_neg c21] at H
                  have c21b0 : (t136 == 1) = false := beq_eq_false_iff_ne.mpr c21
                  have c21b1 : (t136 != 1) = true := bne_iff_ne.mpr c21
                  have H' := Aside0.mk H
                  clear H
                  go_wp2
                  go_meet
                  case rel => exact ⟨_, (true), (by first | rfl | (simp; done) | (simp [*]; done)), H', ⟨by first | omega | exact Nat.le_refl _⟩, ⟨by repeat (first | (with_reducible first | exact HB.out | apply below_alloc | apply pw_below_drewN | apply below_drew1) | exact HB.out)⟩⟩
              · replace c20 := Bool.eq_false_iff.mpr c20
                subst c20
                have H1 : (contangotop_TopExpiry.j0 k l0 a1 a2 t129 true) = some r := by rw [if_neg (show ¬ (false = true) by decide)] at H; exact H
                clear H
                have H := H1
                clear H1
                have H' := Aside0.mk H
                clear H
                go_wp2
                go_meet
                case rel => exact ⟨_, (true), (by first | rfl | (simp; done) | (simp [*]; done)), H', ⟨by first | omega | exact Nat.le_refl _⟩, ⟨by repeat (first | (with_reducible first | exact HB.out | apply below_alloc | apply pw_below_drewN | apply below_drew1) | exact HB.out)⟩⟩
            · rw [if_neg c19] at H
              have c19b0 : (t137 == 0) = false := beq_eq_false_iff_ne.mpr c19
              have c19b1 : (t137 != 0) = true := bne_iff_ne.mpr c19
              have H' := Aside0.mk H
              clear H
              go_wp2
              go_meet
              case rel => exact ⟨_, (true), (by first | rfl | (simp; done) | (simp [*]; done)), H', ⟨by first | omega | exact Nat.le_refl _⟩, ⟨by repeat (first | (with_reducible first | exact HB.out | apply below_alloc | apply pw_below_drewN | apply below_drew1) | exact HB.out)⟩⟩
          · rw [if_neg c18] at H
            have c18b0 : (t135 == 0) = false := beq_eq_false_iff_ne.mpr c18
            have c18b1 : (t135 != 0) = true := bne_iff_ne.mpr c18
            have H' := Aside0.mk H
            clear H
            go_wp2
            go_meet
            case rel => exact ⟨_, (true), (by first | rfl | (simp; done) | (simp [*]; done)), H', ⟨by first | omega | exact Nat.le_refl _⟩, ⟨by repeat (first | (with_reducible first | exact HB.out | apply below_alloc | apply pw_below_drewN | apply below_drew1) | exact HB.out)⟩⟩
        · rw [if_neg c17] at H
          have c17b0 : (t133 == 0) = false := beq_eq_false_iff_ne.mpr c17
          have c17b1 : (t133 != 0) = true := bne_iff_ne.mpr c17
          (first | rw [c17b0] | (simp only [i64_w, i32_w]; rw [c17b0]) | rw [c17b1] | skip)
          have H' := Aside0.mk H
          clear H
          go_wp2
          go_meet
          case rel => exact ⟨_, (true), (by first | rfl | (simp; done) | (simp [*]; done)), H', ⟨by first | omega | exact Nat.le_refl _⟩, ⟨by repeat (first | (with_reducible first | exact HB.out | apply below_alloc | apply pw_below_drewN | apply below_drew1) | exact HB.out)⟩⟩
      case rest =>
        clear HC12
        try clear c1
        try clear c2
        try clear p2
        try clear c4
        try clear c4b0
        try clear c4b1
        try clear c8
        try clear c8b0
        try clear c8b1
        try clear c11
        try clear c17
        try clear c17b0
        try clear c17b1
        try clear c18
        try clear c18b0
        try clear c18b1
        try clear c19
        try clear c19b0
        try clear c19b1
        try clear c20
        try clear c21
        try clear c21b0
        try clear c21b1
        obtain ⟨kq, x76_11, rfl, HA, HJ11, HB⟩ := hcut
        cases kq with
        | zero => exact absurd HA.out (by simp [contangotop_TopExpiry.j0])
        | succ kj11 =>
          have H := HA.out
          clear HA
          simp only [contangotop_TopExpiry.j0] at H
          by_cases c22 : x76_11 = true
          · subst c22
            have H1 : (none) = some r := by rw [if_pos rfl] at H; exact H
            clear H
            have H := H1
            clear H1
            exact absurd H (by simp)
          · replace c22 := Bool.eq_false_iff.mpr c22
            subst c22
            have H1 : ((workday_Expiry.f kj11 l0 (wrap64 (a1 + (wrap64 (Int.tdiv a2 12)))) (wrap64 ((Int.tmod a2 12) + 1))).bind fun bt138 => (if bt138.2 = 0 then (if t129 ≤ bt138.1 then ((contangotop_goes03.f kj11).bind fun t140 => (some t140)) else (none)) else ((contangotop_goes03.f kj11).bind fun t141 => (some t141)))) = some r := by rw [if_neg (show ¬ (false = true) by decide)] at H; exact H
            clear H
            have H := H1
            clear H1
            replace H := Option.bind_eq_some_iff.mp H
            obtain ⟨⟨t138, t139⟩, A230, H⟩ := H
            replace H : (if t139 = 0 then (if t129 ≤ t138 then ((contangotop_goes03.f kj11).bind fun t140 => (some t140)) else (none)) else ((contangotop_goes03.f kj11).bind fun t141 => (some t141))) = some r := H
            have A23 := Aside0.mk A230
            clear A230
            by_cases c24 : t139 = 0
            · rw [if_pos c24] at H
              have c24b0 : (t139 == 0) = true := beq_iff_eq.mpr c24
              have c24b1 : (t139 != 0) = false := bne_eq_false_iff_eq.mpr c24
              clear c24
              by_cases c25 : t129 ≤ t138
              · rw [if_pos c25] at H
                have c25b0 : decide (t129 ≤ t138) = true := decide_eq_true c25
                clear c25
                replace H := Option.bind_eq_some_iff.mp H
                obtain ⟨t140, A260, H⟩ := H
                replace H : (some t140) = some r := H
                have A26 := Aside0.mk A260
                clear A260
                obtain rfl := Option.some.inj H
                go_wp2_with (first | ((with_reducible refine gate_callee (f := 25) rfl ?_); refine goesL_ (some 88) rfl rfl Tryd.func25 (by kernel_rfl) rfl #[.slice A0 l0.length c0, .int .i64 (wrap64 (a1 + (wrap64 (Int.tdiv a2 12)))), .int .i64 (wrap64 ((Int.tmod a2 12) + 1))] rfl (by (try simp only [List.map_toArray, List.map_cons, List.map_nil]); first | done | rfl | (simp only [List.length_drop, List.length_take]; rfl)) ?_; (with_reducible refine (workday_Expiry.calls kj11 _ _ l0 (wrap64 (a1 + (wrap64 (Int.tdiv a2 12)))) (wrap64 ((Int.tmod a2 12) + 1)) t138 t139 _ (by repeat (first | exact HLONG.out | exact LongAt.after HLONG.out (by assumption) | exact LongAt.below HLONG.out (by assumption) | apply LongAt.drewN | apply LongAt.drew | apply LongAt.alloc)) ?side1 ?side2 A23.out).mono ?_); (case side1 => repeat (first | exact (Kd.C_below HR0.out HB.out) | (with_reducible refine Kd.C_alloc ?_ _) | (with_reducible refine Kd.C_drewN ?_ _) | (with_reducible refine Kd.C_drew ?_))); (case side2 => exact HC0.out); rintro e w27 ⟨rfl, hb⟩; refine ⟨_, rfl, ?_⟩; have n0_ := Aside0.mk (below_step (by repeat (first | (with_reducible first | exact HB.out | apply below_alloc | apply pw_below_drewN | apply below_drew1) | exact HB.out)) hb); clear HB; have HB := n0_; clear n0_; (try clear hb); (try clear hb2); (try clear hk); (try clear hi)) | (go_at_call 27; (with_reducible refine (contangotop_goes03.calls kj11  t140 _ (by repeat (first | exact HLONG.out | exact LongAt.after HLONG.out (by assumption) | exact LongAt.below HLONG.out (by assumption) | apply LongAt.drewN | apply LongAt.drew | apply LongAt.alloc)) A26.out).mono ?_); rintro e w28 ⟨rfl, hb⟩; have n0_ := Aside0.mk (below_step (by repeat (first | (with_reducible first | exact HB.out | apply below_alloc | apply pw_below_drewN | apply below_drew1) | exact HB.out)) hb); clear HB; have HB := n0_; clear n0_; (try clear hb); (try clear hb2); (try clear hk); (try clear hi)))
                go_ret
                exact ⟨by first | rfl | (simp [errW_none, errW_some] <;> rfl) | (simp [*, errW_none, errW_some] <;> rfl), by repeat (first | (with_reducible first | exact HB.out | apply below_alloc | apply pw_below_drewN | apply below_drew1) | exact HB.out)⟩
              · rw [if_neg c25] at H
                exact absurd H (by simp)
            · rw [if_neg c24] at H
              have c24b0 : (t139 == 0) = false := beq_eq_false_iff_ne.mpr c24
              have c24b1 : (t139 != 0) = true := bne_iff_ne.mpr c24
              replace H := Option.bind_eq_some_iff.mp H
              obtain ⟨t141, A290, H⟩ := H
              replace H : (some t141) = some r := H
              have A29 := Aside0.mk A290
              clear A290
              obtain rfl := Option.some.inj H
              go_wp2_with (first | ((with_reducible refine gate_callee (f := 25) rfl ?_); refine goesL_ (some 88) rfl rfl Tryd.func25 (by kernel_rfl) rfl #[.slice A0 l0.length c0, .int .i64 (wrap64 (a1 + (wrap64 (Int.tdiv a2 12)))), .int .i64 (wrap64 ((Int.tmod a2 12) + 1))] rfl (by (try simp only [List.map_toArray, List.map_cons, List.map_nil]); first | done | rfl | (simp only [List.length_drop, List.length_take]; rfl)) ?_; (with_reducible refine (workday_Expiry.calls kj11 _ _ l0 (wrap64 (a1 + (wrap64 (Int.tdiv a2 12)))) (wrap64 ((Int.tmod a2 12) + 1)) t138 t139 _ (by repeat (first | exact HLONG.out | exact LongAt.after HLONG.out (by assumption) | exact LongAt.below HLONG.out (by assumption) | apply LongAt.drewN | apply LongAt.drew | apply LongAt.alloc)) ?side1 ?side2 A23.out).mono ?_); (case side1 => repeat (first | exact (Kd.C_below HR0.out HB.out) | (with_reducible refine Kd.C_alloc ?_ _) | (with_reducible refine Kd.C_drewN ?_ _) | (with_reducible refine Kd.C_drew ?_))); (case side2 => exact HC0.out); rintro e w30 ⟨rfl, hb⟩; refine ⟨_, rfl, ?_⟩; have n0_ := Aside0.mk (below_step (by repeat (first | (with_reducible first | exact HB.out | apply below_alloc | apply pw_below_drewN | apply below_drew1) | exact HB.out)) hb); clear HB; have HB := n0_; clear n0_; (try clear hb); (try clear hb2); (try clear hk); (try clear hi)) | (go_at_call 27; (with_reducible refine (contangotop_goes03.calls kj11  t141 _ (by repeat (first | exact HLONG.out | exact LongAt.after HLONG.out (by assumption) | exact LongAt.below HLONG.out (by assumption) | apply LongAt.drewN | apply LongAt.drew | apply LongAt.alloc)) A29.out).mono ?_); rintro e w31 ⟨rfl, hb⟩; have n0_ := Aside0.mk (below_step (by repeat (first | (with_reducible first | exact HB.out | apply below_alloc | apply pw_below_drewN | apply below_drew1) | exact HB.out)) hb); clear HB; have HB := n0_; clear n0_; (try clear hb); (try clear hb2); (try clear hk); (try clear hi)))
              go_ret
              exact ⟨by first | rfl | (simp [errW_none, errW_some] <;> rfl) | (simp [*, errW_none, errW_some] <;> rfl), by repeat (first | (with_reducible first | exact HB.out | apply below_alloc | apply pw_below_drewN | apply below_drew1) | exact HB.out)⟩
    · rw [if_neg c8] at H
      have c8b0 : (t130 == 0) = false := beq_eq_false_iff_ne.mpr c8
      have c8b1 : (t130 != 0) = true := bne_iff_ne.mpr c8
      by_cases c32 : t129 = 0
      · rw [if_pos c32] at H
        have c32b0 : (t129 == 0) = true := beq_iff_eq.mpr c32
        have c32b1 : (t129 != 0) = false := bne_eq_false_iff_eq.mpr c32
        clear c32
        replace H := Option.bind_eq_some_iff.mp H
        obtain ⟨t131, A330, H⟩ := H
        replace H : (some t131) = some r := H
        have A33 := Aside0.mk A330
        clear A330
        obtain rfl := Option.some.inj H
        go_enter Tryd.func8, Tryd.ntmps8
        go_wp2_with (first | ((with_reducible refine gate_callee (f := 25) rfl ?_); refine goesL_ (some 25) rfl rfl Tryd.func25 (by kernel_rfl) rfl #[.slice A0 l0.length c0, .int .i64 a1, .int .i64 a2] rfl (by (try simp only [List.map_toArray, List.map_cons, List.map_nil]); first | done | rfl | (simp only [List.length_drop, List.length_take]; rfl)) ?_; (with_reducible refine (workday_Expiry.calls k _ _ l0 a1 a2 t129 t130 _ (by repeat (first | exact HLONG.out | exact LongAt.after HLONG.out (by assumption) | exact LongAt.below HLONG.out (by assumption) | apply LongAt.drewN | apply LongAt.drew | apply LongAt.alloc)) ?side1 ?side2 A7.out).mono ?_); (case side1 => repeat (first | exact HR0.out | (with_reducible refine Kd.C_alloc ?_ _) | (with_reducible refine Kd.C_drewN ?_ _) | (with_reducible refine Kd.C_drew ?_))); (case side2 => exact HC0.out); rintro e w34 ⟨rfl, hb⟩; refine ⟨_, rfl, ?_⟩; have n0_ := Aside0.mk (below_step (by repeat (first | (with_reducible first | exact HB.out | apply below_alloc | apply pw_below_drewN | apply below_drew1) | exact HB.out)) hb); clear HB; have HB := n0_; clear n0_; (try clear hb); (try clear hb2); (try clear hk); (try clear hi)) | (go_at_call 27; (with_reducible refine (contangotop_goes03.calls k  t131 _ (by repeat (first | exact HLONG.out | exact LongAt.after HLONG.out (by assumption) | exact LongAt.below HLONG.out (by assumption) | apply LongAt.drewN | apply LongAt.drew | apply LongAt.alloc)) A33.out).mono ?_); rintro e w35 ⟨rfl, hb⟩; have n0_ := Aside0.mk (below_step (by repeat (first | (with_reducible first | exact HB.out | apply below_alloc | apply pw_below_drewN | apply below_drew1) | exact HB.out)) hb); clear HB; have HB := n0_; clear n0_; (try clear hb); (try clear hb2); (try clear hk); (try clear hi)))
        go_ret
        exact ⟨by first | rfl | (simp [errW_none, errW_some] <;> rfl) | (simp [*, errW_none, errW_some] <;> rfl), by repeat (first | (with_reducible first | exact HB.out | apply below_alloc | apply pw_below_drewN | apply below_drew1) | exact HB.out)⟩
      · rw [if_neg c32] at H
        exact absurd H (by simp)

/-- THE ONE PURE STATEMENT of contangotop_TopExpiry: yours. -/
def contangotop_TopExpiry.Pure : Prop := ∀ (l0 : List Int) (a1 : Int) (a2 : Int), l0.length ≤ maxLen → l0.length * 8 ≤ 140737488351232 → (∀ x ∈ l0, (Lit.int .i64 x).wf = true) → (Lit.int .i64 a1).wf = true → (Lit.int .i64 a2).wf = true → ∃ k, contangotop_TopExpiry.f k l0 a1 a2 = some true
theorem contangotop_TopExpiry.walk (P : contangotop_TopExpiry.Pure) (a0 : Option Addr) (len0 cap0 : Nat) (z0 : List Int) (a1 : Int) (a2 : Int) (w : World) (hL : LongAt w) (w0 : (a0 = none ∧ len0 = 0 ∧ cap0 = 0 ∧ z0 = []) ∨ ∃ x, a0 = some x ∧ len0 ≤ cap0 ∧ cap0 ≤ maxLen ∧ z0.length = cap0 ∧ (∀ i, i < z0.length → w.cell? (x.add i) = some (.int .i64 (z0.getD i 0))) ∧ ∀ n ∈ z0, (Lit.int .i64 n).wf = true) (y0 : len0 * 8 ≤ 140737488351232) (w1 : (Lit.int .i64 a1).wf = true) (w2 : (Lit.int .i64 a2).wf = true) :
    Calls Tryd.prog 8 #[.slice a0 len0 cap0, .int .i64 a1, .int .i64 a2] w fun e w' => e = .returned (.bool true) ∧ Below w.heap.size w w' := by
  obtain ⟨l0, rfl, hr0, hm0, hw0, hc0⟩ := ReadsInt.ofRowC w0
  obtain ⟨k, h⟩ := P l0 a1 a2 hm0 y0 hw0 w1 w2
  refine (contangotop_TopExpiry.calls k _ _ l0 a1 a2 true w hL (Kd.C_of_reads (d := (0 : Int)) (h1 := fun _ => rfl) hr0) hc0 h).mono ?_
  rintro e w' ⟨rfl, hd⟩
  exact ⟨rfl, hd⟩

end Go.Proofs.YtgcefakbbmgbbaaDoor.PTopExpiry
