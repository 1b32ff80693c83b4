/- Laid for this claim by a program of this session's (wip/mkprint.py, wip/ext.py); not trusted: Lean checks it. -/
import Derived.Test.YtmhlajgeihjaeaaDoorPDateParsesx0
namespace Go.Proofs.YtmhlajgeihjaeaaDoor.PDateParses
open Go.RowKit Go.Proofs.YtmhlajgeihjaeaaDoorW.PrintWords Go.Proofs.YtmhlajgeihjaeaaDoorW.PrintLast Go.Proofs.YtmhlajgeihjaeaaDoorW.PrintMore
attribute [local go_sem] max2_int min2_int max_two min_two max_three min_three max_four min_four   -- for this text's walks alone
set_option linter.unusedVariables false
set_option linter.unusedSimpArgs false

/-! ### date_Leap: function 11 -/
def date_Leap.f (a0 : Int) : Option (Bool) := if (Int.tmod a0 4) = 0 then (if (Int.tmod a0 100) = 0 then (some ((Int.tmod a0 400) == 0)) else (some true)) else (some ((Int.tmod a0 400) == 0))
set_option maxHeartbeats 8000000 in
set_option maxRecDepth 100000 in
theorem date_Leap.calls (a0 : Int) (r : Bool) (w : World) (h : date_Leap.f a0 = some r) :
    Calls Tryd.prog 11 #[.int .i64 a0] w fun e w' => e = .returned (.bool r) ∧ Drawn0 w w' := by
  have H : (if (Int.tmod a0 4) = 0 then (if (Int.tmod a0 100) = 0 then (some ((Int.tmod a0 400) == 0)) else (some true)) else (some ((Int.tmod a0 400) == 0))) = some r := h
  clear h
  by_cases c2 : (Int.tmod a0 4) = 0
  · rw [if_pos c2] at H
    have c2b0 : ((Int.tmod a0 4) == 0) = true := beq_iff_eq.mpr c2
    have c2b1 : ((Int.tmod a0 4) != 0) = false := bne_eq_false_iff_eq.mpr c2
    clear c2
    by_cases c3 : (Int.tmod a0 100) = 0
    · rw [if_pos c3] at H
      have c3b0 : ((Int.tmod a0 100) == 0) = true := beq_iff_eq.mpr c3
      have c3b1 : ((Int.tmod a0 100) != 0) = false := bne_eq_false_iff_eq.mpr c3
      clear c3
      obtain rfl := Option.some.inj H
      go_enter Tryd.func11, Tryd.ntmps11
      go_wp2
      go_ret
      exact ⟨by first | rfl | (simp; done) | (simp [*]; done), by repeat (first | exact Drawn0.refl _ | apply Drawn0.step)⟩
    · rw [if_neg c3] at H
      have c3b0 : ((Int.tmod a0 100) == 0) = false := beq_eq_false_iff_ne.mpr c3
      have c3b1 : ((Int.tmod a0 100) != 0) = true := bne_iff_ne.mpr c3
      obtain rfl := Option.some.inj H
      go_enter Tryd.func11, Tryd.ntmps11
      go_wp2
      go_ret
      exact ⟨by first | rfl | (simp; done) | (simp [*]; done), by repeat (first | exact Drawn0.refl _ | apply Drawn0.step)⟩
  · rw [if_neg c2] at H
    have c2b0 : ((Int.tmod a0 4) == 0) = false := beq_eq_false_iff_ne.mpr c2
    have c2b1 : ((Int.tmod a0 4) != 0) = true := bne_iff_ne.mpr c2
    obtain rfl := Option.some.inj H
    go_enter Tryd.func11, Tryd.ntmps11
    go_wp2
    go_ret
    exact ⟨by first | rfl | (simp; done) | (simp [*]; done), by repeat (first | exact Drawn0.refl _ | apply Drawn0.step)⟩

-- NOT PRINTED: function 35 (date_month_1)

-- NOT PRINTED: function 28 (date_month)

/-! ### date_Days: function 13 -/
def longL : List Int := [0, 31, 28, 31, 30, 31, 30, 31, 31, 30, 31, 30, 31]
def LongAt (w : World) : Prop := ∀ j : Nat, j < 13 → w.cell? ⟨0, j, none⟩ = some (.int .i64 (longL.getD j 0))
theorem LongAt.below {w w' : World} (h : LongAt w) (hb : Below w.heap.size w w') : LongAt w' := fun j hj => (hb.cell (World.block_lt_of_cell? _ _ (h j hj))).trans (h j hj)
theorem LongAt.drewN {w : World} (h : LongAt w) (n : Nat) : LongAt (w.drewN n) := h.below (pw_below_drewN (Below.refl _ _) n)
theorem LongAt.drew {w : World} (h : LongAt w) : LongAt w.drew := h.below (below_drew (Below.refl _ _))
theorem LongAt.alloc {w : World} (h : LongAt w) (o : Obj) : LongAt (w.alloc o) := h.below (below_alloc (Below.refl _ _) o)
theorem LongAt.aside {w : World} (h : Aside0 (LongAt w)) : LongAt w := h.out
theorem LongAt.after {w w' : World} (h : LongAt w) (hb : Aside0 (Below w.heap.size w w')) : LongAt w' := h.below hb.out
def leapV (y : Int) : Bool := (date_Leap.f y).getD false
theorem leap_val (y : Int) : date_Leap.f y = some (leapV y) := by
  unfold leapV date_Leap.f
  split
  · split <;> rfl
  · rfl
def dl (b : Bool) (m : Int) : Int := if m = 2 ∧ b = true then 29 else longL.getD m.toNat 0
def dlen (y m : Int) : Int := if m < 1 ∨ m > 12 then 0 else dl (leapV y) m
def date_Days.f (a0 a1 : Int) : Option Int := some (dlen a0 a1)
set_option maxHeartbeats 4000000 in
set_option maxRecDepth 100000 in
theorem month_any (y : Int) (w : World) :
    Calls Tryd.prog 28 #[.int .i64 y] w fun e w' => ∃ gt : Nat, e = .returned (.func (.func 35) #[] #[.pointer (some ⟨gt, 0, none⟩)]) ∧ w.heap.size ≤ gt ∧ w'.heap[gt]? = some (.cells #[.bool (leapV y)] 4 (0, 0)) ∧ Below w.heap.size w w' := by
  have hmf : ∀ (fn : Fn) (first cap : Array Value) (w : World), (Instr.makeFunc fn first cap).run Tryd.prog w = .ok (.func fn first cap) w := fun _ _ _ _ => rfl
  have HL := Aside0.mk (leap_val y)
  generalize leapV y = b at *
  go_enter Tryd.func28, Tryd.ntmps28
  go_wp2_with (go_at_call 11; (with_reducible refine (date_Leap.calls y b _ HL.out).mono ?_); rintro e w' ⟨rfl, hd⟩; have HD := Aside0.mk hd; clear hd)
  go_ret
  exact ⟨_, rfl, HD.out.below.size, blk_new _ _, below_alloc HD.out.below _⟩
set_option maxHeartbeats 4000000 in
set_option maxRecDepth 100000 in
theorem month1_any (m : Int) (b : Bool) (gt : Nat) (w : World) (hm : 1 ≤ m) (hm2 : m ≤ 12) (hL : LongAt w) (hg : w.heap[gt]? = some (.cells #[.bool b] 4 (0, 0))) :
    Calls Tryd.prog 35 #[.int .i64 m, .pointer (some ⟨gt, 0, none⟩)] w fun e w' => e = .returned (.int .i64 (dl b m)) ∧ Below w.heap.size w w' := by
  have hc := blk_cell hg 0
  have hcx : w.cell? ⟨gt, 0, none⟩ = some (.bool b) := hc.trans rfl
  have hl := hL m.toNat (by omega)
  clear hc hg hL
  by_cases h2 : m = 2 ∧ b = true
  · obtain ⟨rfl, rfl⟩ := h2
    rw [show dl true 2 = 29 from rfl]
    clear hl
    go_enter Tryd.func35, Tryd.ntmps35
    go_wp2
    go_ret
    exact ⟨rfl, by first | exact Below.refl _ _ | exact pw_below_drewN (Below.refl _ _) _⟩
  · rw [show dl b m = longL.getD m.toNat 0 from if_neg h2]
    generalize longL.getD m.toNat 0 = v at *
    by_cases h3 : m = 2
    · subst h3
      have hb : b = false := by cases b <;> simp_all
      subst hb
      have hl2 : w.cell? ⟨0, 2, none⟩ = some (.int .i64 v) := hl
      clear h2 hl
      go_enter Tryd.func35, Tryd.ntmps35
      go_wp2
      go_ret
      exact ⟨rfl, by first | exact Below.refl _ _ | exact pw_below_drewN (Below.refl _ _) _⟩
    · have h4 : (m == 2) = false := beq_eq_false_iff_ne.2 h3
      clear h2 h3
      go_enter Tryd.func35, Tryd.ntmps35
      go_wp2
      go_ret
      exact ⟨rfl, by first | exact Below.refl _ _ | exact pw_below_drewN (Below.refl _ _) _⟩

set_option maxHeartbeats 4000000 in
set_option maxRecDepth 100000 in
theorem days_in (y m : Int) (w : World) (hm : 1 ≤ m) (hm2 : m ≤ 12) (hL : LongAt w) :
    Calls Tryd.prog 13 #[.int .i64 y, .int .i64 m] w fun e w' => e = .returned (.int .i64 (dl (leapV y) m)) ∧ Below w.heap.size w w' := by
  have d1 : decide (m < 1) = false := decide_eq_false (by omega)
  have d2 : decide (12 < m) = false := decide_eq_false (by omega)
  have HL := Aside0.mk hL
  have H1 := Aside0.mk hm
  have H2 := Aside0.mk hm2
  clear hL hm hm2
  go_enter Tryd.func13, Tryd.ntmps13
  go_wp2_with fail
  refine (month_any y _).mono ?_
  rintro e w1 ⟨gt, rfl, hg0, hgt, hb⟩
  have HB := Aside0.mk hb
  have HG := Aside0.mk hgt
  clear hb hgt hg0
  go_wp2_with fail
  refine (month1_any m (leapV y) gt _ H1.out H2.out (HL.out.below HB.out) HG.out).mono ?_
  rintro e w2 ⟨rfl, hb⟩
  have HB2 := Aside0.mk (below_step HB.out hb)
  clear hb
  go_wp2
  go_ret
  exact ⟨rfl, HB2.out⟩
set_option maxHeartbeats 4000000 in
set_option maxRecDepth 100000 in
theorem days_out (y m : Int) (w : World) (h : m < 1 ∨ m > 12) :
    Calls Tryd.prog 13 #[.int .i64 y, .int .i64 m] w fun e w' => e = .returned (.int .i64 0) ∧ Below w.heap.size w w' := by
  by_cases h1 : m < 1
  · have d1 : decide (m < 1) = true := decide_eq_true h1
    clear h h1
    go_enter Tryd.func13, Tryd.ntmps13
    go_wp2_with fail
    go_ret
    exact ⟨rfl, Below.refl _ _⟩
  · have d1 : decide (m < 1) = false := decide_eq_false h1
    have d2 : decide (12 < m) = true := decide_eq_true (by omega)
    clear h h1
    go_enter Tryd.func13, Tryd.ntmps13
    go_wp2_with fail
    go_ret
    exact ⟨rfl, Below.refl _ _⟩
theorem date_Days.calls (a0 a1 r : Int) (w : World) (hL : LongAt w) (h : date_Days.f a0 a1 = some r) :
    Calls Tryd.prog 13 #[.int .i64 a0, .int .i64 a1] w fun e w' => e = .returned (.int .i64 r) ∧ Below w.heap.size w w' := by
  unfold date_Days.f dlen at h
  obtain rfl := Option.some.inj h
  by_cases hm : a1 < 1 ∨ a1 > 12
  · rw [if_pos hm]; exact days_out a0 a1 w hm
  · rw [if_neg hm]; exact days_in a0 a1 w (by omega) (by omega) hL

-- NOT PRINTED: function 34 (date_start_1)

-- NOT PRINTED: function 27 (date_start)

/-! ### date_Of: function 9 -/
def startD (y : Int) : Int := 365 * (y - 2000) + ((y - 1) / 4 - (y - 1) / 100 + (y - 1) / 400) - 484
def msum (b : Bool) : Nat → Int
  | 0 => 0
  | n + 1 => msum b n + dl b ((n : Int) + 1)
def date_Of.f (a0 a1 a2 : Int) : Option (Int × Int) := some (if a0 < 2000 ∨ a0 > 2199 ∨ a2 < 1 ∨ a2 > dlen a0 a1 then (0, 15) else (startD a0 + a2 - 1 + msum (leapV a0) (a1.toNat - 1), 0))
theorem drawn0_tr {a b c : World} (h : Drawn0 a b) (k : Drawn0 b c) : Drawn0 a c := by
  obtain ⟨n, rfl⟩ := h
  obtain ⟨m, rfl⟩ := k
  exact ⟨n + m, by rw [World.drewN_drewN]⟩
theorem dl_range (b : Bool) (m : Int) (h : 1 ≤ m) (h2 : m ≤ 12) : 28 ≤ dl b m ∧ dl b m ≤ 31 := by
  have : m = 1 ∨ m = 2 ∨ m = 3 ∨ m = 4 ∨ m = 5 ∨ m = 6 ∨ m = 7 ∨ m = 8 ∨ m = 9 ∨ m = 10 ∨ m = 11 ∨ m = 12 := by omega
  rcases this with rfl | rfl | rfl | rfl | rfl | rfl | rfl | rfl | rfl | rfl | rfl | rfl <;> cases b <;> decide
theorem msum_range (b : Bool) (n : Nat) (h : n ≤ 12) : 0 ≤ msum b n ∧ msum b n ≤ 31 * n := by
  induction n with
  | zero => simp [msum]
  | succ n ih =>
    have h1 := ih (by omega)
    have h2 := dl_range b ((n : Int) + 1) (by omega) (by omega)
    simp only [msum]; omega
set_option maxHeartbeats 4000000 in
set_option maxRecDepth 100000 in
theorem start1_any (y : Int) (w : World) (h : 0 ≤ y) (h2 : y ≤ 3000) :
    Calls Tryd.prog 34 #[.int .i64 y] w fun e w' => e = .returned (.int .i64 (y / 4 - y / 100 + y / 400)) ∧ Drawn0 w w' := by
  go_enter Tryd.func34, Tryd.ntmps34
  go_wp2
  go_ret
  exact ⟨by first | rfl | (congr 2; unfold wrap64; omega), by repeat (first | exact Drawn0.refl _ | apply Drawn0.step)⟩
set_option maxHeartbeats 4000000 in
set_option maxRecDepth 100000 in
theorem start_any (y : Int) (w : World) (h : 2000 ≤ y) (h2 : y ≤ 2200) :
    Calls Tryd.prog 27 #[.int .i64 y] w fun e w' => e = .returned (.int .i64 (startD y)) ∧ Drawn0 w w' := by
  unfold startD
  go_enter Tryd.func27, Tryd.ntmps27
  go_wp2_with fail
  refine (start1_any (y - 1) _ (by omega) (by omega)).mono ?_
  rintro e w1 ⟨rfl, hd⟩
  have HD := Aside0.mk hd
  clear hd
  go_wp2_with fail
  refine (start1_any 1999 _ (by omega) (by omega)).mono ?_
  rintro e w2 ⟨rfl, hd⟩
  have HD2 := Aside0.mk (drawn0_tr HD.out hd)
  clear hd
  go_wp2
  go_ret
  exact ⟨congrArg (fun x => Ending.returned (Value.int .i64 x)) (by omega), HD2.out⟩
set_option maxHeartbeats 4000000 in
set_option maxRecDepth 100000 in
theorem of_bad (y m d : Int) (w : World) (hL : LongAt w) (h : y < 2000 ∨ y > 2199 ∨ d < 1 ∨ d > dlen y m) :
    Calls Tryd.prog 9 #[.int .i64 y, .int .i64 m, .int .i64 d] w fun e w' => e = .returned (.tuple #[.int .i64 0, .int .i64 15]) ∧ Below w.heap.size w w' := by
  by_cases h1 : y < 2000
  · have d1 : decide (y < 2000) = true := decide_eq_true h1
    clear h h1 hL
    go_enter Tryd.func9, Tryd.ntmps9
    go_wp2_with fail
    go_ret2
    exact ⟨rfl, Below.refl _ _⟩
  have d1 : decide (y < 2000) = false := decide_eq_false h1
  by_cases h2 : y > 2199
  · have d2 : decide (2199 < y) = true := decide_eq_true h2
    clear h h1 h2 hL
    go_enter Tryd.func9, Tryd.ntmps9
    go_wp2_with fail
    go_ret2
    exact ⟨rfl, Below.refl _ _⟩
  have d2 : decide (2199 < y) = false := decide_eq_false h2
  by_cases h3 : d < 1
  · have d3 : decide (d < 1) = true := decide_eq_true h3
    clear h h1 h2 h3 hL
    go_enter Tryd.func9, Tryd.ntmps9
    go_wp2_with fail
    go_ret2
    exact ⟨rfl, Below.refl _ _⟩
  have d3 : decide (d < 1) = false := decide_eq_false h3
  have h4 : d > dlen y m := by omega
  have HV := Aside0.mk (show date_Days.f y m = some (dlen y m) from rfl)
  generalize dlen y m = n at *
  have d4 : decide (n < d) = true := decide_eq_true h4
  have HL := Aside0.mk hL
  clear h h1 h2 h3 h4 hL
  go_enter Tryd.func9, Tryd.ntmps9
  go_wp2_with (go_at_call 13; (with_reducible refine (date_Days.calls y m n _ HL.out HV.out).mono ?_); rintro e w' ⟨rfl, hb⟩; have HB := Aside0.mk hb; clear hb)
  go_ret2
  exact ⟨rfl, HB.out⟩
set_option maxHeartbeats 4000000 in
set_option maxRecDepth 100000 in
theorem of_good (y m d : Int) (w : World) (hL : LongAt w) (h1 : 2000 ≤ y) (h2 : y ≤ 2199) (h3 : 1 ≤ d) (h4 : d ≤ dl (leapV y) m) (h5 : 1 ≤ m) (h6 : m ≤ 12) :
    Calls Tryd.prog 9 #[.int .i64 y, .int .i64 m, .int .i64 d] w fun e w' => e = .returned (.tuple #[.int .i64 (startD y + d - 1 + msum (leapV y) (m.toNat - 1)), .int .i64 0]) ∧ Below w.heap.size w w' := by
  have d1 : decide (y < 2000) = false := decide_eq_false (by omega)
  have d2 : decide (2199 < y) = false := decide_eq_false (by omega)
  have d3 : decide (d < 1) = false := decide_eq_false (by omega)
  have hdl := (dl_range (leapV y) m h5 h6).2
  have hs1 : -1000 ≤ startD y := by unfold startD; omega
  have hs2 : startD y ≤ 100000 := by unfold startD; omega
  have hv : date_Days.f y m = some (dl (leapV y) m) := by
    unfold date_Days.f dlen
    rw [if_neg (by omega)]
  have hd1 : d ≤ 31 := by omega
  have d4 : decide (dl (leapV y) m < d) = false := decide_eq_false (by omega)
  have hmo : ∀ W : World, Calls Tryd.prog 28 #[.int .i64 y] W fun e w' => ∃ gt : Nat, e = .returned (.func (.func 35) #[] #[.pointer (some ⟨gt, 0, none⟩)]) ∧ W.heap.size ≤ gt ∧ w'.heap[gt]? = some (.cells #[.bool (leapV y)] 4 (0, 0)) ∧ Below W.heap.size W w' := fun W => month_any y W
  have hst : ∀ W : World, Calls Tryd.prog 27 #[.int .i64 y] W fun e w' => e = .returned (.int .i64 (startD y)) ∧ Drawn0 W w' := fun W => start_any y W h1 (by omega)
  generalize dl (leapV y) m = n at *
  generalize leapV y = b at *
  generalize startD y = s at *
  have HV := Aside0.mk hv
  have HL := Aside0.mk hL
  have HM := Aside0.mk hmo
  have HS := Aside0.mk hst
  have H5 := Aside0.mk h5
  have H6 := Aside0.mk h6
  clear hL h1 h2 h4 hv hdl hmo hst
  go_enter Tryd.func9, Tryd.ntmps9
  go_wp2_with (first | (go_at_call 13; (with_reducible refine (date_Days.calls y m n _ HL.out HV.out).mono ?_); rintro e w' ⟨rfl, hb⟩; have HB := Aside0.mk hb; clear hb) | (go_at_call 27; (with_reducible refine (HS.out _).mono ?_); rintro e w2 ⟨rfl, hd⟩; have HB2 := Aside0.mk (HB.out.trans (hd.below.mono HB.out.size)); clear hd))
  refine (HM.out _).mono ?_
  rintro e w3 ⟨gt, rfl, hg0, hgt, hb⟩
  have HB3 := Aside0.mk (below_step HB2.out hb)
  have HG := Aside0.mk hgt
  clear hb hgt hg0
  go_wp2_with fail
  go_loopw [6, 9] (fun v6 v9 wr => ∃ (k : Nat), 1 ≤ k ∧ (k : Int) ≤ m ∧ v9 = .int .i64 (k : Int) ∧ v6 = .int .i64 (s + d - 1 + msum b (k - 1)) ∧ Aside0 (wr.heap[gt]? = some (.cells #[.bool b] 4 (0, 0))) ∧ Aside0 (Below w.heap.size w wr)) (fun _ v9 _ => m.toNat - (intOf v9).toNat)
  case atStart => exact ⟨1, by omega, by have := H5.out; omega, rfl, by simp [msum], HG, HB3⟩
  case round =>
    clear HB3 HG HB2 HB
    obtain ⟨k, hk1, hk2, rfl, rfl, HG, HB⟩ := hrel
    by_cases hlt : (k : Int) < m
    · have hr := msum_range b (k - 1) (by have := H6.out; omega)
      have hr2 := dl_range b (k : Int) (by omega) (by have := H6.out; omega)
      have hms : msum b (k + 1 - 1) = msum b (k - 1) + dl b (k : Int) := by
        obtain ⟨j, rfl⟩ : ∃ j, k = j + 1 := ⟨k - 1, by omega⟩
        simp [msum]
      have HMS := Aside0.mk hms
      clear hms
      generalize msum b (k - 1) = q at *
      have hq : q ≤ 400 := by have := H6.out; omega
      go_wp2_with fail
      refine (month1_any (k : Int) b gt _ (by omega) (by have := H6.out; omega) (HL.out.below HB.out) HG.out).mono ?_
      rintro e w4 ⟨rfl, hb⟩
      have HB4 := Aside0.mk (below_step HB.out hb)
      have HG4 := Aside0.mk (blk_below HG.out hb)
      clear hb HG HB
      have HQ := Aside0.mk hr2
      generalize dl b (k : Int) = z at *
      obtain ⟨hz1, hz2⟩ := hr2
      go_wp2
      go_roundw
      case measure => show _ < _; simp [intOf]; omega
      case rel => exact ⟨k + 1, by omega, by omega, by go_num, by rw [HMS.out]; congr 1; omega, HG4, HB4⟩
    · have hkm : (k : Int) = m := by omega
      have hkn : k - 1 = m.toNat - 1 := by omega
      rw [hkn] at *
      go_wp2
      go_ret2
      exact ⟨rfl, HB.out⟩
theorem date_Of.calls (a0 a1 a2 r1 r2 : Int) (w : World) (hL : LongAt w) (h : date_Of.f a0 a1 a2 = some (r1, r2)) :
    Calls Tryd.prog 9 #[.int .i64 a0, .int .i64 a1, .int .i64 a2] w fun e w' => e = .returned (.tuple #[.int .i64 r1, .int .i64 r2]) ∧ Below w.heap.size w w' := by
  unfold date_Of.f at h
  have h := Option.some.inj h
  by_cases hc : a0 < 2000 ∨ a0 > 2199 ∨ a2 < 1 ∨ a2 > dlen a0 a1
  · rw [if_pos hc] at h
    simp only [Prod.mk.injEq] at h
    obtain ⟨rfl, rfl⟩ := h
    exact of_bad a0 a1 a2 w hL hc
  · rw [if_neg hc] at h
    simp only [Prod.mk.injEq] at h
    obtain ⟨rfl, rfl⟩ := h
    have hm : ¬ (a1 < 1 ∨ a1 > 12) := by
      intro hm
      have : dlen a0 a1 = 0 := by unfold dlen; rw [if_pos hm]
      omega
    have hd : dlen a0 a1 = dl (leapV a0) a1 := by unfold dlen; rw [if_neg hm]
    rw [hd] at hc
    exact of_good a0 a1 a2 w hL (by omega) (by omega) (by omega) (by omega) (by omega) (by omega)

/-! ### date_here: function 29 -/
def date_here.f (a0 : Int) : Option (Bool) := if a0 ≥ 0 then (some (decide (a0 ≤ 73048))) else (some false)
set_option maxHeartbeats 8000000 in
set_option maxRecDepth 100000 in
theorem date_here.calls (a0 : Int) (r : Bool) (w : World) (h : date_here.f a0 = some r) :
    Calls Tryd.prog 29 #[.int .i64 a0] w fun e w' => e = .returned (.bool r) ∧ Drawn0 w w' := by
  have H : (if a0 ≥ 0 then (some (decide (a0 ≤ 73048))) else (some false)) = some r := h
  clear h
  by_cases c2 : a0 ≥ 0
  · rw [if_pos c2] at H
    have c2b0 : decide (0 ≤ a0) = true := decide_eq_true c2
    clear c2
    obtain rfl := Option.some.inj H
    go_enter Tryd.func29, Tryd.ntmps29
    go_wp2
    go_ret
    exact ⟨by first | rfl | (simp; done) | (simp [*]; done), by repeat (first | exact Drawn0.refl _ | apply Drawn0.step)⟩
  · rw [if_neg c2] at H
    have c2b0 : decide (0 ≤ a0) = false := decide_eq_false c2
    clear c2
    obtain rfl := Option.some.inj H
    go_enter Tryd.func29, Tryd.ntmps29
    go_wp2
    go_ret
    exact ⟨by first | rfl | (simp; done) | (simp [*]; done), by repeat (first | exact Drawn0.refl _ | apply Drawn0.step)⟩

/-! ### date_Weekday: function 18 -/
def date_Weekday.f (a0 : Int) : Option (Int) := (date_here.f a0).bind fun t101 => (if t101 = true then (some (wrap64 ((Int.tmod (wrap64 (a0 + 5)) 7) + 1))) else (some 0))
set_option maxHeartbeats 8000000 in
set_option maxRecDepth 100000 in
theorem date_Weekday.calls (a0 : Int) (r : Int) (w : World) (h : date_Weekday.f a0 = some r) :
    Calls Tryd.prog 18 #[.int .i64 a0] w fun e w' => e = .returned (.int .i64 r) ∧ Drawn0 w w' := by
  have H : ((date_here.f a0).bind fun t101 => (if t101 = true then (some (wrap64 ((Int.tmod (wrap64 (a0 + 5)) 7) + 1))) else (some 0))) = some r := h
  clear h
  replace H := Option.bind_eq_some_iff.mp H
  obtain ⟨t101, A20, H⟩ := H
  replace H : (if t101 = true then (some (wrap64 ((Int.tmod (wrap64 (a0 + 5)) 7) + 1))) else (some 0)) = some r := H
  have A2 := Aside0.mk A20
  clear A20
  by_cases c3 : t101 = true
  · subst c3
    have H1 : (some (wrap64 ((Int.tmod (wrap64 (a0 + 5)) 7) + 1))) = some r := by rw [if_pos rfl] at H; exact H
    clear H
    have H := H1
    clear H1
    obtain rfl := Option.some.inj H
    go_enter Tryd.func18, Tryd.ntmps18
    go_wp2_with (first | ((with_reducible refine gate_callee (f := 29) rfl ?_); refine goesL_ (some 4) rfl rfl Tryd.func29 (by kernel_rfl) rfl #[.int .i64 a0] rfl (by (try simp only [List.map_toArray, List.map_cons, List.map_nil]); first | done | rfl | (simp only [List.length_drop, List.length_take]; rfl)) ?_; (with_reducible refine (date_here.calls a0 true _ A2.out).mono ?_); rintro e w' ⟨rfl, ⟨nd, rfl⟩⟩; refine ⟨_, rfl, ?_⟩))
    go_ret
    exact ⟨by first | rfl | (simp; done) | (simp [*]; done), by repeat (first | exact Drawn0.refl _ | apply Drawn0.step)⟩
  · replace c3 := Bool.eq_false_iff.mpr c3
    subst c3
    have H1 : (some 0) = some r := by rw [if_neg (show ¬ (false = true) by decide)] at H; exact H
    clear H
    have H := H1
    clear H1
    obtain rfl := Option.some.inj H
    go_enter Tryd.func18, Tryd.ntmps18
    go_wp2_with (first | ((with_reducible refine gate_callee (f := 29) rfl ?_); refine goesL_ (some 4) rfl rfl Tryd.func29 (by kernel_rfl) rfl #[.int .i64 a0] rfl (by (try simp only [List.map_toArray, List.map_cons, List.map_nil]); first | done | rfl | (simp only [List.length_drop, List.length_take]; rfl)) ?_; (with_reducible refine (date_here.calls a0 false _ A2.out).mono ?_); rintro e w' ⟨rfl, ⟨nd, rfl⟩⟩; refine ⟨_, rfl, ?_⟩))
    go_ret
    exact ⟨by first | rfl | (simp; done) | (simp [*]; done), by repeat (first | exact Drawn0.refl _ | apply Drawn0.step)⟩

-- NOT PRINTED: function 30 (sort_Search)

-- NOT PRINTED: function 31 (date_Split_1)

/-! ### date_Split: function 16 -/
def yearGo : Nat → Int → Int → Int
  | 0, y, _ => y
  | f + 1, y, day => if startD (y + 1) > day then y else yearGo f (y + 1) day
def yearOf (day : Int) : Int := yearGo 199 2000 day
def monGo : Nat → Bool → Int → Int → Int × Int
  | 0, _, m, d => (m, d + 1)
  | f + 1, b, m, d => if d < dl b m then (m, d + 1) else monGo f b (m + 1) (d - dl b m)
def splitV (day : Int) : Int × Int × Int := (yearOf day, (monGo 12 (leapV (yearOf day)) 1 (day - startD (yearOf day))).1, (monGo 12 (leapV (yearOf day)) 1 (day - startD (yearOf day))).2)
def date_Split.f (a0 : Int) : Option (Int × Int × Int × Int) := some (if a0 < 0 ∨ a0 > 73048 then (0, 0, 0, 15) else ((splitV a0).1, (splitV a0).2.1, (splitV a0).2.2, 0))
theorem leap_emod (y : Int) (h : 0 ≤ y) : leapV y = (((y % 4 == 0) && (y % 100 != 0)) || (y % 400 == 0)) := by
  unfold leapV date_Leap.f
  rw [Int.tmod_eq_emod_of_nonneg h, Int.tmod_eq_emod_of_nonneg h, Int.tmod_eq_emod_of_nonneg h]
  by_cases h4 : y % 4 = 0
  · rw [if_pos h4]
    by_cases h1 : y % 100 = 0
    · rw [if_pos h1]; simp [h4, h1]
    · rw [if_neg h1]; simp [h4, h1]
  · rw [if_neg h4]
    have : y % 400 ≠ 0 := by omega
    simp [h4, this]
theorem msum12 (b : Bool) : msum b 12 = 365 + (if b = true then 1 else 0) := by cases b <;> rfl
theorem start_step (y : Int) (h : 2000 ≤ y) (h2 : y ≤ 2199) : startD (y + 1) = startD y + msum (leapV y) 12 := by
  rw [leap_emod y (by omega), msum12]
  unfold startD
  by_cases h4 : y % 4 = 0
  · by_cases h1 : y % 100 = 0
    · by_cases h5 : y % 400 = 0
      · have e : (((y % 4 == 0) && (y % 100 != 0)) || (y % 400 == 0)) = true := by simp [h4, h1, h5]
        rw [e, if_pos rfl]; omega
      · have e : (((y % 4 == 0) && (y % 100 != 0)) || (y % 400 == 0)) = false := by simp [h4, h1, h5]
        rw [e, if_neg (by decide)]; omega
    · have e : (((y % 4 == 0) && (y % 100 != 0)) || (y % 400 == 0)) = true := by simp [h4, h1]
      rw [e, if_pos rfl]; omega
  · have h5 : y % 400 ≠ 0 := by omega
    have e : (((y % 4 == 0) && (y % 100 != 0)) || (y % 400 == 0)) = false := by simp [h4, h5]
    rw [e, if_neg (by decide)]; omega
theorem msum12_pos (b : Bool) : 365 ≤ msum b 12 ∧ msum b 12 ≤ 366 := by rw [msum12]; split <;> omega
theorem start_mono (y z : Int) (h : 2000 ≤ y) (h2 : y ≤ z) (h3 : z ≤ 2200) : startD y ≤ startD z := by unfold startD; omega
theorem yearGo_spec (f : Nat) : ∀ (y day : Int), 2000 ≤ y → y + f = 2199 → startD y ≤ day → day < startD 2200 → 2000 ≤ yearGo f y day ∧ yearGo f y day ≤ 2199 ∧ startD (yearGo f y day) ≤ day ∧ day < startD (yearGo f y day + 1) := by
  induction f with
  | zero =>
    intro y day h1 h2 h3 h4
    obtain rfl : y = 2199 := by omega
    exact ⟨by simp [yearGo], by simp [yearGo], h3, h4⟩
  | succ f ih =>
    intro y day h1 h2 h3 h4
    simp only [yearGo]
    by_cases hc : startD (y + 1) > day
    · rw [if_pos hc]; exact ⟨h1, by omega, h3, hc⟩
    · rw [if_neg hc]; exact ih (y + 1) day (by omega) (by omega) (by omega) h4
theorem yearOf_spec (day : Int) (h : 0 ≤ day) (h2 : day ≤ 73048) : 2000 ≤ yearOf day ∧ yearOf day ≤ 2199 ∧ startD (yearOf day) ≤ day ∧ day < startD (yearOf day + 1) :=
  yearGo_spec 199 2000 day (by omega) (by omega) (by rw [show startD 2000 = 0 from rfl]; exact h) (by rw [show startD 2200 = 73049 from rfl]; omega)
set_option maxHeartbeats 4000000 in
set_option maxRecDepth 100000 in
theorem search_any (n lo : Nat) (p : Nat → Bool) (gt : Nat) (w : World) (hn : n ≤ 1000000) (hln : lo ≤ n) (hlo : ∀ t, t < lo → p t = false) (hhi : ∀ t, lo ≤ t → t < n → p t = true)
    (hf : ∀ (W : World) (i : Nat), Below w.heap.size w W → i < n → Calls Tryd.prog 31 #[.int .i64 (i : Int), .pointer (some ⟨gt, 0, none⟩)] W fun e w' => e = .returned (.bool (p i)) ∧ Below W.heap.size W w') :
    Calls Tryd.prog 30 #[.int .i64 (n : Int), .func (.func 31) #[] #[.pointer (some ⟨gt, 0, none⟩)]] w fun e w' => e = .returned (.int .i64 (lo : Int)) ∧ Below w.heap.size w w' := by
  have HF := Aside0.mk hf
  have HA := Aside0.mk hlo
  have HB := Aside0.mk hhi
  clear hf hlo hhi
  go_enter Tryd.func30, Tryd.ntmps30
  go_wp2_with fail
  go_loopw [5, 6] (fun v5 v6 wr => ∃ (i j : Nat), v5 = .int .i64 (i : Int) ∧ v6 = .int .i64 (j : Int) ∧ i ≤ lo ∧ lo ≤ j ∧ j ≤ n ∧ Aside0 (Below w.heap.size w wr)) (fun v5 v6 _ => (intOf v6).toNat - (intOf v5).toNat)
  case atStart => exact ⟨0, n, rfl, rfl, by omega, hln, by omega, ⟨Below.refl _ _⟩⟩
  case round =>
    obtain ⟨i, j, rfl, rfl, h1, h2, h3, HW⟩ := hrel
    by_cases hlt : i < j
    · have hh : (i + j) / 2 < n := by omega
      have hc := HF.out wr ((i + j) / 2) HW.out hh
      rw [show (((i + j) / 2 : Nat) : Int) = ((i : Int) + (j : Int)) / 2 by omega] at hc
      cases hp : p ((i + j) / 2) with
      | false =>
        rw [hp] at hc
        have hlo2 : (i + j) / 2 < lo := by
          apply Classical.byContradiction; intro hx
          have := HB.out _ (by omega) hh
          rw [hp] at this; cases this
        clear hp
        have HC := Aside0.mk hc
        clear hc
        go_wp2_with fail
        refine HC.out.mono ?_
        rintro e w2 ⟨rfl, hb⟩
        have HW2 := Aside0.mk (below_step HW.out hb)
        clear hb
        go_wp2
        go_roundw
        case measure => show _ < _; simp [intOf]; omega
        case rel => exact ⟨(i + j) / 2 + 1, j, by go_num, rfl, by omega, h2, h3, HW2⟩
      | true =>
        rw [hp] at hc
        have hlo2 : lo ≤ (i + j) / 2 := by
          apply Classical.byContradiction; intro hx
          have := HA.out ((i + j) / 2) (by omega)
          rw [hp] at this; cases this
        clear hp
        have HC := Aside0.mk hc
        clear hc
        go_wp2_with fail
        refine HC.out.mono ?_
        rintro e w2 ⟨rfl, hb⟩
        have HW2 := Aside0.mk (below_step HW.out hb)
        clear hb
        go_wp2
        go_roundw
        case measure => show _ < _; simp [intOf]; omega
        case rel => exact ⟨i, (i + j) / 2, rfl, by go_num, h1, hlo2, by omega, HW2⟩
    · obtain rfl : i = lo := by omega
      go_wp2
      go_ret
      exact ⟨rfl, HW.out⟩
theorem w64 (n : Int) (h : -9223372036854775808 ≤ n) (h2 : n ≤ 9223372036854775807) : wrap64 n = n := by unfold wrap64; omega
set_option maxHeartbeats 4000000 in
set_option maxRecDepth 100000 in
theorem split1_any (i : Nat) (day : Int) (gt : Nat) (w : World) (hi : i < 199) (hg : w.heap[gt]? = some (.cells #[.int .i64 day] 3 (0, 0))) :
    Calls Tryd.prog 31 #[.int .i64 (i : Int), .pointer (some ⟨gt, 0, none⟩)] w fun e w' => e = .returned (.bool (decide (startD (2001 + (i : Int)) > day))) ∧ Below w.heap.size w w' := by
  have hw : IntKind.i64.wrap (IntKind.i64.wrap (2000 + (i : Int)) + 1) = 2001 + (i : Int) := by
    simp only [i64_w]; rw [w64 (2000 + (i : Int)) (by omega) (by omega), w64 _ (by omega) (by omega)]; omega
  have hs : ∀ W : World, Calls Tryd.prog 27 #[.int .i64 (IntKind.i64.wrap (IntKind.i64.wrap (2000 + (i : Int)) + 1))] W fun e w' => e = .returned (.int .i64 (startD (2001 + (i : Int)))) ∧ Drawn0 W w' := fun W => by
    rw [hw]; exact start_any _ W (by omega) (by omega)
  clear hw
  generalize startD (2001 + (i : Int)) = s at *
  have HS := Aside0.mk hs
  have HG := Aside0.mk hg
  clear hs hg
  have hcond : decide (s > day) = decide (day < s) := rfl
  rw [hcond]
  go_enter Tryd.func31, Tryd.ntmps31
  go_wp2_with fail
  have hc0 : w.drew.cell? ⟨gt, 0, none⟩ = some (.int .i64 day) := (blk_cell (blk_drew HG.out) 0).trans rfl
  go_region_with (go_at_call 27; (with_reducible refine (HS.out _).mono ?_); rintro e w2 ⟨rfl, hd⟩; have HB := Aside0.mk hd.below; have hc2 := (blk_cell (blk_below (blk_drew HG.out) hd.below) 0).trans (rfl : _ = some (Value.int .i64 day)); clear hd)
  all_goals (go_wp2; go_ret; exact ⟨rfl, by first | exact (below_drew (Below.refl _ _)).trans HB.out | exact HB.out⟩)
theorem sp_w64 (n : Int) (h : -9223372036854775808 ≤ n) (h2 : n ≤ 9223372036854775807) : wrap64 n = n := w64 n h h2
set_option maxHeartbeats 4000000 in
set_option maxRecDepth 100000 in
theorem split_bad (day : Int) (w : World) (h : day < 0 ∨ day > 73048) :
    Calls Tryd.prog 16 #[.int .i64 day] w fun e w' => e = .returned (.tuple #[.int .i64 0, .int .i64 0, .int .i64 0, .int .i64 15]) ∧ Below w.heap.size w w' := by
  have hh : date_here.f day = some false := by
    unfold date_here.f
    by_cases h0 : day ≥ 0
    · rw [if_pos h0]; congr 1; exact decide_eq_false (by omega)
    · rw [if_neg h0]
  have HH := Aside0.mk hh
  clear h hh
  go_enter Tryd.func16, Tryd.ntmps16
  go_wp2_with (go_at_call 29; (with_reducible refine (date_here.calls day false _ HH.out).mono ?_); rintro e w2 ⟨rfl, hd⟩; have HB := Aside0.mk (below_step (below_alloc (Below.refl _ _) _) hd.below); clear hd)
  refine bodyPost_ret (v := .tuple #[.int .i64 0, .int .i64 0, .int .i64 0, .int .i64 15]) (by simp [results, Tryd.results16, go_sem]) rfl ?_
  exact ⟨rfl, HB.out⟩
set_option maxHeartbeats 4000000 in
set_option maxRecDepth 100000 in
theorem split_good (day : Int) (w : World) (hL : LongAt w) (h : 0 ≤ day) (h2 : day ≤ 73048) :
    Calls Tryd.prog 16 #[.int .i64 day] w fun e w' => e = .returned (.tuple #[.int .i64 (splitV day).1, .int .i64 (splitV day).2.1, .int .i64 (splitV day).2.2, .int .i64 0]) ∧ Below w.heap.size w w' := by
  have hh : date_here.f day = some true := by
    unfold date_here.f
    rw [if_pos h]; congr 1; exact decide_eq_true (by omega)
  have hmf : ∀ (fn : Fn) (first cap : Array Value) (w : World), (Instr.makeFunc fn first cap).run Tryd.prog w = .ok (.func fn first cap) w := fun _ _ _ _ => rfl
  obtain ⟨hy1, hy2, hy3, hy4⟩ := yearOf_spec day h h2
  unfold splitV
  obtain ⟨lo, hlo, hlo9⟩ : ∃ lo : Nat, yearOf day = 2000 + (lo : Int) ∧ lo ≤ 199 := ⟨(yearOf day - 2000).toNat, by omega, by omega⟩
  rw [hlo] at hy1 hy2 hy3 hy4 ⊢
  have hstep := start_step (2000 + (lo : Int)) hy1 hy2
  rw [hstep] at hy4
  have hlow : ∀ t, t < lo → decide (startD (2001 + (t : Int)) > day) = false := fun t ht => decide_eq_false (by
    have := start_mono (2001 + (t : Int)) (2000 + (lo : Int)) (by omega) (by omega) (by omega); omega)
  have hhigh : ∀ t, lo ≤ t → t < 199 → decide (startD (2001 + (t : Int)) > day) = true := fun t ht ht9 => decide_eq_true (by
    have := start_mono (2000 + (lo : Int) + 1) (2001 + (t : Int)) (by omega) (by omega) (by omega); omega)
  have hst : ∀ W : World, Calls Tryd.prog 27 #[.int .i64 (2000 + (lo : Int))] W fun e w' => e = .returned (.int .i64 (startD (2000 + (lo : Int)))) ∧ Drawn0 W w' := fun W => start_any _ W (by omega) (by omega)
  have hmo : ∀ W : World, Calls Tryd.prog 28 #[.int .i64 (2000 + (lo : Int))] W fun e w' => ∃ gt : Nat, e = .returned (.func (.func 35) #[] #[.pointer (some ⟨gt, 0, none⟩)]) ∧ W.heap.size ≤ gt ∧ w'.heap[gt]? = some (.cells #[.bool (leapV (2000 + (lo : Int)))] 4 (0, 0)) ∧ Below W.heap.size W w' := fun W => month_any _ W
  have hs1 : 0 ≤ startD (2000 + (lo : Int)) := by have := start_mono 2000 (2000 + (lo : Int)) (by omega) (by omega) (by omega); rw [show startD 2000 = 0 from rfl] at this; exact this
  generalize startD (2000 + (lo : Int)) = s at *
  generalize leapV (2000 + (lo : Int)) = b at *
  have hse : ∀ W gt, Below w.heap.size w W → W.heap[gt]? = some (.cells #[.int .i64 day] 3 (0, 0)) → Calls Tryd.prog 30 #[.int .i64 ((199 : Nat) : Int), .func (.func 31) #[] #[.pointer (some ⟨gt, 0, none⟩)]] W fun e w' => e = .returned (.int .i64 (lo : Int)) ∧ Below W.heap.size W w' := fun W gt hB hg =>
    search_any 199 lo (fun t => decide (startD (2001 + (t : Int)) > day)) gt W (by omega) hlo9 hlow hhigh (fun W' i hB' hi => split1_any i day gt W' hi (blk_below hg hB'))
  have hm12 := (msum12_pos b).2
  have HM12 := Aside0.mk hy4
  have HH := Aside0.mk hh
  have HS := Aside0.mk hst
  have HM := Aside0.mk hmo
  have HSE := Aside0.mk hse
  have HL := Aside0.mk hL
  have hds : day - s ≤ 400 := by omega
  clear hh hst hmo hse hL hlow hhigh hstep hy4 hm12 hlo hy2
  go_enter Tryd.func16, Tryd.ntmps16
  go_wp2_with (go_at_call 29; (with_reducible refine (date_here.calls day true _ HH.out).mono ?_); rintro e w2 ⟨rfl, hd⟩; have HB := Aside0.mk (below_step (below_alloc (Below.refl _ _) _) hd.below); have HG := Aside0.mk (blk_below (blk_new w (.cells #[.int .i64 day] 3)) hd.below); have hc2 := (blk_cell HG.out 0).trans (rfl : _ = some (Value.int .i64 day)); clear hd)
  refine (HSE.out _ _ HB.out HG.out).mono ?_
  rintro e w3 ⟨rfl, hb⟩
  have HB3 := Aside0.mk (below_step HB.out hb)
  have HG3 := Aside0.mk (blk_below HG.out hb)
  clear hb hc2 HB HG
  have hc0 : w3.drew.cell? ⟨w.heap.size, 0, none⟩ = some (.int .i64 day) := (blk_cell (blk_drew HG3.out) 0).trans rfl
  go_wp2_with fail
  go_region_with (go_at_call 27; (with_reducible refine (HS.out _).mono ?_); rintro e w4 ⟨rfl, hd⟩; have HB4 := Aside0.mk (below_step (below_drew HB3.out) hd.below); have hc4 := (blk_cell (blk_below (blk_drew HG3.out) hd.below) 0).trans (rfl : _ = some (Value.int .i64 day)); clear hd)
  all_goals (
    go_wp2_with fail
    refine (HM.out _).mono ?_
    rintro e w5 ⟨gt, rfl, hg0, hgt, hb⟩
    have HB5 := Aside0.mk (below_step HB4.out hb)
    have HG5 := Aside0.mk hgt
    clear hb hgt hg0 hc0 hc4
    go_wp2_with fail
    go_loopw [3, 4] (fun v3 v4 wr => ∃ (k f : Nat) (x : Int), 1 ≤ k ∧ k + f = 13 ∧ 1 ≤ f ∧ v3 = .int .i64 (k : Int) ∧ v4 = .int .i64 x ∧ 0 ≤ x ∧ x ≤ 400 ∧ Aside0 (msum b (k - 1) + x = day - s) ∧ Aside0 (monGo f b (k : Int) x = monGo 12 b 1 (day - s)) ∧ Aside0 (wr.heap[gt]? = some (.cells #[.bool b] 4 (0, 0))) ∧ Aside0 (Below w.heap.size w wr)) (fun v3 _ _ => 13 - (intOf v3).toNat)
    case atStart => exact ⟨1, 12, day - s, by omega, by omega, by omega, rfl, by (try simp only [i64_w]); (try rw [sp_w64 _ (by omega) (by omega)]), by omega, by omega, ⟨by simp [msum]⟩, ⟨rfl⟩, HG5, HB5⟩
    case round =>
      clear HG5 HB5
      obtain ⟨k, f, x, hk1, hkf, hf1, rfl, rfl, hx0, hx1, HX, HMG, HG, HB⟩ := hrel
      have hr2 := dl_range b (k : Int) (by omega) (by omega)
      have hms : msum b k = msum b (k - 1) + dl b (k : Int) := by
        obtain ⟨j, rfl⟩ : ∃ j, k = j + 1 := ⟨k - 1, by omega⟩
        simp [msum]
      obtain ⟨f, rfl⟩ : ∃ j, f = j + 1 := ⟨f - 1, by omega⟩
      have hmg := HMG.out
      rw [monGo] at hmg
      have hcall : ∀ W : World, Below w.heap.size w W → W.heap[gt]? = some (.cells #[.bool b] 4 (0, 0)) → Calls Tryd.prog 35 #[.int .i64 (k : Int), .pointer (some ⟨gt, 0, none⟩)] W fun e w' => e = .returned (.int .i64 (dl b (k : Int))) ∧ Below W.heap.size W w' := fun W hB hg => month1_any (k : Int) b gt W (by omega) (by omega) (HL.out.below hB) hg
      have hnext : ¬ x < dl b (k : Int) → k < 12 := by
        intro hge
        apply Classical.byContradiction
        intro hk
        obtain rfl : k = 12 := by omega
        have h3 := HM12.out
        have h4 := HX.out
        omega
      have HMS := Aside0.mk hms
      have HCALL := Aside0.mk hcall
      clear hms hcall HMG
      generalize dl b (k : Int) = z at *
      by_cases hlt : x < z
      · have dx : decide (z ≤ x) = false := decide_eq_false (by omega)
        rw [if_pos hlt] at hmg
        have HMG := Aside0.mk hmg
        clear hnext hmg
        go_wp2_with fail
        refine (HCALL.out _ HB.out HG.out).mono ?_
        rintro e w6 ⟨rfl, hb⟩
        have HB6 := Aside0.mk (below_step HB.out hb)
        clear hb
        go_wp2
        refine bodyPost_ret (v := .tuple #[.int .i64 (2000 + (lo : Int)), .int .i64 (k : Int), .int .i64 (x + 1), .int .i64 0]) (by simp [results, Tryd.results16, go_sem]) rfl ?_
        exact ⟨by rw [← HMG.out], HB6.out⟩
      · have dx : decide (z ≤ x) = true := decide_eq_true (by omega)
        have hk12 := hnext hlt
        rw [if_neg hlt] at hmg
        have HMG := Aside0.mk hmg
        clear hnext hmg
        go_wp2_with fail
        refine (HCALL.out _ HB.out HG.out).mono ?_
        rintro e w6 ⟨rfl, hb⟩
        have HB6 := Aside0.mk (below_step HB.out hb)
        have HG6 := Aside0.mk (blk_below HG.out hb)
        clear hb
        go_wp2_with fail
        refine (HCALL.out _ HB6.out HG6.out).mono ?_
        rintro e w7 ⟨rfl, hb⟩
        have HB7 := Aside0.mk (below_step HB6.out hb)
        have HG7 := Aside0.mk (blk_below HG6.out hb)
        clear hb HB HG HB6 HG6
        go_wp2
        go_roundw
        case measure => show _ < _; simp [intOf]; omega
        case rel => exact ⟨k + 1, f, x - z, by omega, by omega, by omega, by go_num, rfl, by omega, by omega, ⟨by have := HX.out; have := HMS.out; rw [show k + 1 - 1 = k from rfl]; omega⟩, ⟨by rw [← HMG.out]; congr 1⟩, HG7, HB7⟩)
theorem date_Split.calls (a0 r1 r2 r3 r4 : Int) (w : World) (hL : LongAt w) (h : date_Split.f a0 = some (r1, r2, r3, r4)) :
    Calls Tryd.prog 16 #[.int .i64 a0] w fun e w' => e = .returned (.tuple #[.int .i64 r1, .int .i64 r2, .int .i64 r3, .int .i64 r4]) ∧ Below w.heap.size w w' := by
  unfold date_Split.f at h
  have h := Option.some.inj h
  by_cases hc : a0 < 0 ∨ a0 > 73048
  · rw [if_pos hc] at h
    simp only [Prod.mk.injEq] at h
    obtain ⟨rfl, rfl, rfl, rfl⟩ := h
    exact split_bad a0 w hc
  · rw [if_neg hc] at h
    simp only [Prod.mk.injEq] at h
    obtain ⟨rfl, rfl, rfl, rfl⟩ := h
    exact split_good a0 w hL (by omega) (by omega)

end Go.Proofs.YtmhlajgeihjaeaaDoor.PDateParses
