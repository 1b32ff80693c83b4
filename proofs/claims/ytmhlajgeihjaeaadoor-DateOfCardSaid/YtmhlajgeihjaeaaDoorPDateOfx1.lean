/- Laid for this claim by a program of this session's (wip/mkprint.py, wip/ext.py); not trusted: Lean checks it. -/
import Derived.Test.YtmhlajgeihjaeaaDoorPDateOfx0
namespace Go.Proofs.YtmhlajgeihjaeaaDoor.PDateOf
open Go.RowKit Go.Proofs.YtmhlajgeihjaeaaDoorW.PrintWords Go.Proofs.YtmhlajgeihjaeaaDoorW.PrintLast Go.Proofs.YtmhlajgeihjaeaaDoorW.PrintMore
attribute [local go_sem] max2_int min2_int max_two min_two max_three min_three max_four min_four   -- for this text's walks alone
set_option linter.unusedVariables false
set_option linter.unusedSimpArgs false

/-! ### date_Leap: function 11 -/
def date_Leap.f (a0 : Int) : Option (Bool) := if (Int.tmod a0 4) = 0 then (if (Int.tmod a0 100) = 0 then (some ((Int.tmod a0 400) == 0)) else (some true)) else (some ((Int.tmod a0 400) == 0))
set_option maxHeartbeats 8000000 in
set_option maxRecDepth 100000 in
theorem date_Leap.calls (a0 : Int) (r : Bool) (w : World) (h : date_Leap.f a0 = some r) :
    Calls Tryd.prog 11 #[.int .i64 a0] w fun e w' => e = .returned (.bool r) ∧ Drawn0 w w' := by
  have H : (if (Int.tmod a0 4) = 0 then (if (Int.tmod a0 100) = 0 then (some ((Int.tmod a0 400) == 0)) else (some true)) else (some ((Int.tmod a0 400) == 0))) = some r := h
  clear h
  by_cases c2 : (Int.tmod a0 4) = 0
  · rw [if_pos c2] at H
    have c2b0 : ((Int.tmod a0 4) == 0) = true := beq_iff_eq.mpr c2
    have c2b1 : ((Int.tmod a0 4) != 0) = false := bne_eq_false_iff_eq.mpr c2
    clear c2
    by_cases c3 : (Int.tmod a0 100) = 0
    · rw [if_pos c3] at H
      have c3b0 : ((Int.tmod a0 100) == 0) = true := beq_iff_eq.mpr c3
      have c3b1 : ((Int.tmod a0 100) != 0) = false := bne_eq_false_iff_eq.mpr c3
      clear c3
      obtain rfl := Option.some.inj H
      go_enter Tryd.func11, Tryd.ntmps11
      go_wp2
      go_ret
      exact ⟨by first | rfl | (simp; done) | (simp [*]; done), by repeat (first | exact Drawn0.refl _ | apply Drawn0.step)⟩
    · rw [if_neg c3] at H
      have c3b0 : ((Int.tmod a0 100) == 0) = false := beq_eq_false_iff_ne.mpr c3
      have c3b1 : ((Int.tmod a0 100) != 0) = true := bne_iff_ne.mpr c3
      obtain rfl := Option.some.inj H
      go_enter Tryd.func11, Tryd.ntmps11
      go_wp2
      go_ret
      exact ⟨by first | rfl | (simp; done) | (simp [*]; done), by repeat (first | exact Drawn0.refl _ | apply Drawn0.step)⟩
  · rw [if_neg c2] at H
    have c2b0 : ((Int.tmod a0 4) == 0) = false := beq_eq_false_iff_ne.mpr c2
    have c2b1 : ((Int.tmod a0 4) != 0) = true := bne_iff_ne.mpr c2
    obtain rfl := Option.some.inj H
    go_enter Tryd.func11, Tryd.ntmps11
    go_wp2
    go_ret
    exact ⟨by first | rfl | (simp; done) | (simp [*]; done), by repeat (first | exact Drawn0.refl _ | apply Drawn0.step)⟩

-- NOT PRINTED: function 35 (date_month_1)

-- NOT PRINTED: function 28 (date_month)

/-! ### date_Days: function 13 -/
def longL : List Int := [0, 31, 28, 31, 30, 31, 30, 31, 31, 30, 31, 30, 31]
def LongAt (w : World) : Prop := ∀ j : Nat, j < 13 → w.cell? ⟨0, j, none⟩ = some (.int .i64 (longL.getD j 0))
theorem LongAt.below {w w' : World} (h : LongAt w) (hb : Below w.heap.size w w') : LongAt w' := fun j hj => (hb.cell (World.block_lt_of_cell? _ _ (h j hj))).trans (h j hj)
theorem LongAt.drewN {w : World} (h : LongAt w) (n : Nat) : LongAt (w.drewN n) := h.below (pw_below_drewN (Below.refl _ _) n)
theorem LongAt.drew {w : World} (h : LongAt w) : LongAt w.drew := h.below (below_drew (Below.refl _ _))
theorem LongAt.alloc {w : World} (h : LongAt w) (o : Obj) : LongAt (w.alloc o) := h.below (below_alloc (Below.refl _ _) o)
theorem LongAt.aside {w : World} (h : Aside0 (LongAt w)) : LongAt w := h.out
theorem LongAt.after {w w' : World} (h : LongAt w) (hb : Aside0 (Below w.heap.size w w')) : LongAt w' := h.below hb.out
def leapV (y : Int) : Bool := (date_Leap.f y).getD false
theorem leap_val (y : Int) : date_Leap.f y = some (leapV y) := by
  unfold leapV date_Leap.f
  split
  · split <;> rfl
  · rfl
def dl (b : Bool) (m : Int) : Int := if m = 2 ∧ b = true then 29 else longL.getD m.toNat 0
def dlen (y m : Int) : Int := if m < 1 ∨ m > 12 then 0 else dl (leapV y) m
def date_Days.f (a0 a1 : Int) : Option Int := some (dlen a0 a1)
set_option maxHeartbeats 4000000 in
set_option maxRecDepth 100000 in
theorem month_any (y : Int) (w : World) :
    Calls Tryd.prog 28 #[.int .i64 y] w fun e w' => ∃ gt : Nat, e = .returned (.func (.func 35) #[] #[.pointer (some ⟨gt, 0, none⟩)]) ∧ w.heap.size ≤ gt ∧ w'.heap[gt]? = some (.cells #[.bool (leapV y)] 4 (0, 0)) ∧ Below w.heap.size w w' := by
  have hmf : ∀ (fn : Fn) (first cap : Array Value) (w : World), (Instr.makeFunc fn first cap).run Tryd.prog w = .ok (.func fn first cap) w := fun _ _ _ _ => rfl
  have HL := Aside0.mk (leap_val y)
  generalize leapV y = b at *
  go_enter Tryd.func28, Tryd.ntmps28
  go_wp2_with (go_at_call 11; (with_reducible refine (date_Leap.calls y b _ HL.out).mono ?_); rintro e w' ⟨rfl, hd⟩; have HD := Aside0.mk hd; clear hd)
  go_ret
  exact ⟨_, rfl, HD.out.below.size, blk_new _ _, below_alloc HD.out.below _⟩
set_option maxHeartbeats 4000000 in
set_option maxRecDepth 100000 in
theorem month1_any (m : Int) (b : Bool) (gt : Nat) (w : World) (hm : 1 ≤ m) (hm2 : m ≤ 12) (hL : LongAt w) (hg : w.heap[gt]? = some (.cells #[.bool b] 4 (0, 0))) :
    Calls Tryd.prog 35 #[.int .i64 m, .pointer (some ⟨gt, 0, none⟩)] w fun e w' => e = .returned (.int .i64 (dl b m)) ∧ Below w.heap.size w w' := by
  have hc := blk_cell hg 0
  have hcx : w.cell? ⟨gt, 0, none⟩ = some (.bool b) := hc.trans rfl
  have hl := hL m.toNat (by omega)
  clear hc hg hL
  by_cases h2 : m = 2 ∧ b = true
  · obtain ⟨rfl, rfl⟩ := h2
    rw [show dl true 2 = 29 from rfl]
    clear hl
    go_enter Tryd.func35, Tryd.ntmps35
    go_wp2
    go_ret
    exact ⟨rfl, by first | exact Below.refl _ _ | exact pw_below_drewN (Below.refl _ _) _⟩
  · rw [show dl b m = longL.getD m.toNat 0 from if_neg h2]
    generalize longL.getD m.toNat 0 = v at *
    by_cases h3 : m = 2
    · subst h3
      have hb : b = false := by cases b <;> simp_all
      subst hb
      have hl2 : w.cell? ⟨0, 2, none⟩ = some (.int .i64 v) := hl
      clear h2 hl
      go_enter Tryd.func35, Tryd.ntmps35
      go_wp2
      go_ret
      exact ⟨rfl, by first | exact Below.refl _ _ | exact pw_below_drewN (Below.refl _ _) _⟩
    · have h4 : (m == 2) = false := beq_eq_false_iff_ne.2 h3
      clear h2 h3
      go_enter Tryd.func35, Tryd.ntmps35
      go_wp2
      go_ret
      exact ⟨rfl, by first | exact Below.refl _ _ | exact pw_below_drewN (Below.refl _ _) _⟩

set_option maxHeartbeats 4000000 in
set_option maxRecDepth 100000 in
theorem days_in (y m : Int) (w : World) (hm : 1 ≤ m) (hm2 : m ≤ 12) (hL : LongAt w) :
    Calls Tryd.prog 13 #[.int .i64 y, .int .i64 m] w fun e w' => e = .returned (.int .i64 (dl (leapV y) m)) ∧ Below w.heap.size w w' := by
  have d1 : decide (m < 1) = false := decide_eq_false (by omega)
  have d2 : decide (12 < m) = false := decide_eq_false (by omega)
  have HL := Aside0.mk hL
  have H1 := Aside0.mk hm
  have H2 := Aside0.mk hm2
  clear hL hm hm2
  go_enter Tryd.func13, Tryd.ntmps13
  go_wp2_with fail
  refine (month_any y _).mono ?_
  rintro e w1 ⟨gt, rfl, hg0, hgt, hb⟩
  have HB := Aside0.mk hb
  have HG := Aside0.mk hgt
  clear hb hgt hg0
  go_wp2_with fail
  refine (month1_any m (leapV y) gt _ H1.out H2.out (HL.out.below HB.out) HG.out).mono ?_
  rintro e w2 ⟨rfl, hb⟩
  have HB2 := Aside0.mk (below_step HB.out hb)
  clear hb
  go_wp2
  go_ret
  exact ⟨rfl, HB2.out⟩
set_option maxHeartbeats 4000000 in
set_option maxRecDepth 100000 in
theorem days_out (y m : Int) (w : World) (h : m < 1 ∨ m > 12) :
    Calls Tryd.prog 13 #[.int .i64 y, .int .i64 m] w fun e w' => e = .returned (.int .i64 0) ∧ Below w.heap.size w w' := by
  by_cases h1 : m < 1
  · have d1 : decide (m < 1) = true := decide_eq_true h1
    clear h h1
    go_enter Tryd.func13, Tryd.ntmps13
    go_wp2_with fail
    go_ret
    exact ⟨rfl, Below.refl _ _⟩
  · have d1 : decide (m < 1) = false := decide_eq_false h1
    have d2 : decide (12 < m) = true := decide_eq_true (by omega)
    clear h h1
    go_enter Tryd.func13, Tryd.ntmps13
    go_wp2_with fail
    go_ret
    exact ⟨rfl, Below.refl _ _⟩
theorem date_Days.calls (a0 a1 r : Int) (w : World) (hL : LongAt w) (h : date_Days.f a0 a1 = some r) :
    Calls Tryd.prog 13 #[.int .i64 a0, .int .i64 a1] w fun e w' => e = .returned (.int .i64 r) ∧ Below w.heap.size w w' := by
  unfold date_Days.f dlen at h
  obtain rfl := Option.some.inj h
  by_cases hm : a1 < 1 ∨ a1 > 12
  · rw [if_pos hm]; exact days_out a0 a1 w hm
  · rw [if_neg hm]; exact days_in a0 a1 w (by omega) (by omega) hL

-- NOT PRINTED: function 34 (date_start_1)

-- NOT PRINTED: function 27 (date_start)

/-! ### date_Of: function 9 -/
def startD (y : Int) : Int := 365 * (y - 2000) + ((y - 1) / 4 - (y - 1) / 100 + (y - 1) / 400) - 484
def msum (b : Bool) : Nat → Int
  | 0 => 0
  | n + 1 => msum b n + dl b ((n : Int) + 1)
def date_Of.f (a0 a1 a2 : Int) : Option (Int × Int) := some (if a0 < 2000 ∨ a0 > 2199 ∨ a2 < 1 ∨ a2 > dlen a0 a1 then (0, 15) else (startD a0 + a2 - 1 + msum (leapV a0) (a1.toNat - 1), 0))
theorem drawn0_tr {a b c : World} (h : Drawn0 a b) (k : Drawn0 b c) : Drawn0 a c := by
  obtain ⟨n, rfl⟩ := h
  obtain ⟨m, rfl⟩ := k
  exact ⟨n + m, by rw [World.drewN_drewN]⟩
theorem dl_range (b : Bool) (m : Int) (h : 1 ≤ m) (h2 : m ≤ 12) : 28 ≤ dl b m ∧ dl b m ≤ 31 := by
  have : m = 1 ∨ m = 2 ∨ m = 3 ∨ m = 4 ∨ m = 5 ∨ m = 6 ∨ m = 7 ∨ m = 8 ∨ m = 9 ∨ m = 10 ∨ m = 11 ∨ m = 12 := by omega
  rcases this with rfl | rfl | rfl | rfl | rfl | rfl | rfl | rfl | rfl | rfl | rfl | rfl <;> cases b <;> decide
theorem msum_range (b : Bool) (n : Nat) (h : n ≤ 12) : 0 ≤ msum b n ∧ msum b n ≤ 31 * n := by
  induction n with
  | zero => simp [msum]
  | succ n ih =>
    have h1 := ih (by omega)
    have h2 := dl_range b ((n : Int) + 1) (by omega) (by omega)
    simp only [msum]; omega
set_option maxHeartbeats 4000000 in
set_option maxRecDepth 100000 in
theorem start1_any (y : Int) (w : World) (h : 0 ≤ y) (h2 : y ≤ 3000) :
    Calls Tryd.prog 34 #[.int .i64 y] w fun e w' => e = .returned (.int .i64 (y / 4 - y / 100 + y / 400)) ∧ Drawn0 w w' := by
  go_enter Tryd.func34, Tryd.ntmps34
  go_wp2
  go_ret
  exact ⟨by first | rfl | (congr 2; unfold wrap64; omega), by repeat (first | exact Drawn0.refl _ | apply Drawn0.step)⟩
set_option maxHeartbeats 4000000 in
set_option maxRecDepth 100000 in
theorem start_any (y : Int) (w : World) (h : 2000 ≤ y) (h2 : y ≤ 2200) :
    Calls Tryd.prog 27 #[.int .i64 y] w fun e w' => e = .returned (.int .i64 (startD y)) ∧ Drawn0 w w' := by
  unfold startD
  go_enter Tryd.func27, Tryd.ntmps27
  go_wp2_with fail
  refine (start1_any (y - 1) _ (by omega) (by omega)).mono ?_
  rintro e w1 ⟨rfl, hd⟩
  have HD := Aside0.mk hd
  clear hd
  go_wp2_with fail
  refine (start1_any 1999 _ (by omega) (by omega)).mono ?_
  rintro e w2 ⟨rfl, hd⟩
  have HD2 := Aside0.mk (drawn0_tr HD.out hd)
  clear hd
  go_wp2
  go_ret
  exact ⟨congrArg (fun x => Ending.returned (Value.int .i64 x)) (by omega), HD2.out⟩
set_option maxHeartbeats 4000000 in
set_option maxRecDepth 100000 in
theorem of_bad (y m d : Int) (w : World) (hL : LongAt w) (h : y < 2000 ∨ y > 2199 ∨ d < 1 ∨ d > dlen y m) :
    Calls Tryd.prog 9 #[.int .i64 y, .int .i64 m, .int .i64 d] w fun e w' => e = .returned (.tuple #[.int .i64 0, .int .i64 15]) ∧ Below w.heap.size w w' := by
  by_cases h1 : y < 2000
  · have d1 : decide (y < 2000) = true := decide_eq_true h1
    clear h h1 hL
    go_enter Tryd.func9, Tryd.ntmps9
    go_wp2_with fail
    go_ret2
    exact ⟨rfl, Below.refl _ _⟩
  have d1 : decide (y < 2000) = false := decide_eq_false h1
  by_cases h2 : y > 2199
  · have d2 : decide (2199 < y) = true := decide_eq_true h2
    clear h h1 h2 hL
    go_enter Tryd.func9, Tryd.ntmps9
    go_wp2_with fail
    go_ret2
    exact ⟨rfl, Below.refl _ _⟩
  have d2 : decide (2199 < y) = false := decide_eq_false h2
  by_cases h3 : d < 1
  · have d3 : decide (d < 1) = true := decide_eq_true h3
    clear h h1 h2 h3 hL
    go_enter Tryd.func9, Tryd.ntmps9
    go_wp2_with fail
    go_ret2
    exact ⟨rfl, Below.refl _ _⟩
  have d3 : decide (d < 1) = false := decide_eq_false h3
  have h4 : d > dlen y m := by omega
  have HV := Aside0.mk (show date_Days.f y m = some (dlen y m) from rfl)
  generalize dlen y m = n at *
  have d4 : decide (n < d) = true := decide_eq_true h4
  have HL := Aside0.mk hL
  clear h h1 h2 h3 h4 hL
  go_enter Tryd.func9, Tryd.ntmps9
  go_wp2_with (go_at_call 13; (with_reducible refine (date_Days.calls y m n _ HL.out HV.out).mono ?_); rintro e w' ⟨rfl, hb⟩; have HB := Aside0.mk hb; clear hb)
  go_ret2
  exact ⟨rfl, HB.out⟩
set_option maxHeartbeats 4000000 in
set_option maxRecDepth 100000 in
theorem of_good (y m d : Int) (w : World) (hL : LongAt w) (h1 : 2000 ≤ y) (h2 : y ≤ 2199) (h3 : 1 ≤ d) (h4 : d ≤ dl (leapV y) m) (h5 : 1 ≤ m) (h6 : m ≤ 12) :
    Calls Tryd.prog 9 #[.int .i64 y, .int .i64 m, .int .i64 d] w fun e w' => e = .returned (.tuple #[.int .i64 (startD y + d - 1 + msum (leapV y) (m.toNat - 1)), .int .i64 0]) ∧ Below w.heap.size w w' := by
  have d1 : decide (y < 2000) = false := decide_eq_false (by omega)
  have d2 : decide (2199 < y) = false := decide_eq_false (by omega)
  have d3 : decide (d < 1) = false := decide_eq_false (by omega)
  have hdl := (dl_range (leapV y) m h5 h6).2
  have hs1 : -1000 ≤ startD y := by unfold startD; omega
  have hs2 : startD y ≤ 100000 := by unfold startD; omega
  have hv : date_Days.f y m = some (dl (leapV y) m) := by
    unfold date_Days.f dlen
    rw [if_neg (by omega)]
  have hd1 : d ≤ 31 := by omega
  have d4 : decide (dl (leapV y) m < d) = false := decide_eq_false (by omega)
  have hmo : ∀ W : World, Calls Tryd.prog 28 #[.int .i64 y] W fun e w' => ∃ gt : Nat, e = .returned (.func (.func 35) #[] #[.pointer (some ⟨gt, 0, none⟩)]) ∧ W.heap.size ≤ gt ∧ w'.heap[gt]? = some (.cells #[.bool (leapV y)] 4 (0, 0)) ∧ Below W.heap.size W w' := fun W => month_any y W
  have hst : ∀ W : World, Calls Tryd.prog 27 #[.int .i64 y] W fun e w' => e = .returned (.int .i64 (startD y)) ∧ Drawn0 W w' := fun W => start_any y W h1 (by omega)
  generalize dl (leapV y) m = n at *
  generalize leapV y = b at *
  generalize startD y = s at *
  have HV := Aside0.mk hv
  have HL := Aside0.mk hL
  have HM := Aside0.mk hmo
  have HS := Aside0.mk hst
  have H5 := Aside0.mk h5
  have H6 := Aside0.mk h6
  clear hL h1 h2 h4 hv hdl hmo hst
  go_enter Tryd.func9, Tryd.ntmps9
  go_wp2_with (first | (go_at_call 13; (with_reducible refine (date_Days.calls y m n _ HL.out HV.out).mono ?_); rintro e w' ⟨rfl, hb⟩; have HB := Aside0.mk hb; clear hb) | (go_at_call 27; (with_reducible refine (HS.out _).mono ?_); rintro e w2 ⟨rfl, hd⟩; have HB2 := Aside0.mk (HB.out.trans (hd.below.mono HB.out.size)); clear hd))
  refine (HM.out _).mono ?_
  rintro e w3 ⟨gt, rfl, hg0, hgt, hb⟩
  have HB3 := Aside0.mk (below_step HB2.out hb)
  have HG := Aside0.mk hgt
  clear hb hgt hg0
  go_wp2_with fail
  go_loopw [6, 9] (fun v6 v9 wr => ∃ (k : Nat), 1 ≤ k ∧ (k : Int) ≤ m ∧ v9 = .int .i64 (k : Int) ∧ v6 = .int .i64 (s + d - 1 + msum b (k - 1)) ∧ Aside0 (wr.heap[gt]? = some (.cells #[.bool b] 4 (0, 0))) ∧ Aside0 (Below w.heap.size w wr)) (fun _ v9 _ => m.toNat - (intOf v9).toNat)
  case atStart => exact ⟨1, by omega, by have := H5.out; omega, rfl, by simp [msum], HG, HB3⟩
  case round =>
    clear HB3 HG HB2 HB
    obtain ⟨k, hk1, hk2, rfl, rfl, HG, HB⟩ := hrel
    by_cases hlt : (k : Int) < m
    · have hr := msum_range b (k - 1) (by have := H6.out; omega)
      have hr2 := dl_range b (k : Int) (by omega) (by have := H6.out; omega)
      have hms : msum b (k + 1 - 1) = msum b (k - 1) + dl b (k : Int) := by
        obtain ⟨j, rfl⟩ : ∃ j, k = j + 1 := ⟨k - 1, by omega⟩
        simp [msum]
      have HMS := Aside0.mk hms
      clear hms
      generalize msum b (k - 1) = q at *
      have hq : q ≤ 400 := by have := H6.out; omega
      go_wp2_with fail
      refine (month1_any (k : Int) b gt _ (by omega) (by have := H6.out; omega) (HL.out.below HB.out) HG.out).mono ?_
      rintro e w4 ⟨rfl, hb⟩
      have HB4 := Aside0.mk (below_step HB.out hb)
      have HG4 := Aside0.mk (blk_below HG.out hb)
      clear hb HG HB
      have HQ := Aside0.mk hr2
      generalize dl b (k : Int) = z at *
      obtain ⟨hz1, hz2⟩ := hr2
      go_wp2
      go_roundw
      case measure => show _ < _; simp [intOf]; omega
      case rel => exact ⟨k + 1, by omega, by omega, by go_num, by rw [HMS.out]; congr 1; omega, HG4, HB4⟩
    · have hkm : (k : Int) = m := by omega
      have hkn : k - 1 = m.toNat - 1 := by omega
      rw [hkn] at *
      go_wp2
      go_ret2
      exact ⟨rfl, HB.out⟩
theorem date_Of.calls (a0 a1 a2 r1 r2 : Int) (w : World) (hL : LongAt w) (h : date_Of.f a0 a1 a2 = some (r1, r2)) :
    Calls Tryd.prog 9 #[.int .i64 a0, .int .i64 a1, .int .i64 a2] w fun e w' => e = .returned (.tuple #[.int .i64 r1, .int .i64 r2]) ∧ Below w.heap.size w w' := by
  unfold date_Of.f at h
  have h := Option.some.inj h
  by_cases hc : a0 < 2000 ∨ a0 > 2199 ∨ a2 < 1 ∨ a2 > dlen a0 a1
  · rw [if_pos hc] at h
    simp only [Prod.mk.injEq] at h
    obtain ⟨rfl, rfl⟩ := h
    exact of_bad a0 a1 a2 w hL hc
  · rw [if_neg hc] at h
    simp only [Prod.mk.injEq] at h
    obtain ⟨rfl, rfl⟩ := h
    have hm : ¬ (a1 < 1 ∨ a1 > 12) := by
      intro hm
      have : dlen a0 a1 = 0 := by unfold dlen; rw [if_pos hm]
      omega
    have hd : dlen a0 a1 = dl (leapV a0) a1 := by unfold dlen; rw [if_neg hm]
    rw [hd] at hc
    exact of_good a0 a1 a2 w hL (by omega) (by omega) (by omega) (by omega) (by omega) (by omega)

/-! ### contangoref05_Leap: function 12 -/
def contangoref05_Leap.f (a0 : Int) : Option (Bool) := if (Int.tmod a0 4) = 0 then (if (Int.tmod a0 100) = 0 then (some ((Int.tmod a0 400) == 0)) else (some true)) else (some ((Int.tmod a0 400) == 0))
set_option maxHeartbeats 8000000 in
set_option maxRecDepth 100000 in
theorem contangoref05_Leap.calls (a0 : Int) (r : Bool) (w : World) (h : contangoref05_Leap.f a0 = some r) :
    Calls Tryd.prog 12 #[.int .i64 a0] w fun e w' => e = .returned (.bool r) ∧ Drawn0 w w' := by
  have H : (if (Int.tmod a0 4) = 0 then (if (Int.tmod a0 100) = 0 then (some ((Int.tmod a0 400) == 0)) else (some true)) else (some ((Int.tmod a0 400) == 0))) = some r := h
  clear h
  by_cases c2 : (Int.tmod a0 4) = 0
  · rw [if_pos c2] at H
    have c2b0 : ((Int.tmod a0 4) == 0) = true := beq_iff_eq.mpr c2
    have c2b1 : ((Int.tmod a0 4) != 0) = false := bne_eq_false_iff_eq.mpr c2
    clear c2
    by_cases c3 : (Int.tmod a0 100) = 0
    · rw [if_pos c3] at H
      have c3b0 : ((Int.tmod a0 100) == 0) = true := beq_iff_eq.mpr c3
      have c3b1 : ((Int.tmod a0 100) != 0) = false := bne_eq_false_iff_eq.mpr c3
      clear c3
      obtain rfl := Option.some.inj H
      go_enter Tryd.func12, Tryd.ntmps12
      go_wp2
      go_ret
      exact ⟨by first | rfl | (simp; done) | (simp [*]; done), by repeat (first | exact Drawn0.refl _ | apply Drawn0.step)⟩
    · rw [if_neg c3] at H
      have c3b0 : ((Int.tmod a0 100) == 0) = false := beq_eq_false_iff_ne.mpr c3
      have c3b1 : ((Int.tmod a0 100) != 0) = true := bne_iff_ne.mpr c3
      obtain rfl := Option.some.inj H
      go_enter Tryd.func12, Tryd.ntmps12
      go_wp2
      go_ret
      exact ⟨by first | rfl | (simp; done) | (simp [*]; done), by repeat (first | exact Drawn0.refl _ | apply Drawn0.step)⟩
  · rw [if_neg c2] at H
    have c2b0 : ((Int.tmod a0 4) == 0) = false := beq_eq_false_iff_ne.mpr c2
    have c2b1 : ((Int.tmod a0 4) != 0) = true := bne_iff_ne.mpr c2
    obtain rfl := Option.some.inj H
    go_enter Tryd.func12, Tryd.ntmps12
    go_wp2
    go_ret
    exact ⟨by first | rfl | (simp; done) | (simp [*]; done), by repeat (first | exact Drawn0.refl _ | apply Drawn0.step)⟩

/-! ### contangoref05_Days: function 14 -/
mutual
def contangoref05_Days.j0 : Nat → Int → Int → Bool → Option (Int)
  | 0, _, _, _ => none
  | k + 1, x0, x5, x6 => if x6 = true then (some 31) else (if x5 = 4 then (contangoref05_Days.j1 k x0 x5 (x5 == 4)) else (if x5 = 6 then (contangoref05_Days.j1 k x0 x5 (x5 == 6)) else (if x5 = 9 then (contangoref05_Days.j1 k x0 x5 (x5 == 9)) else (contangoref05_Days.j1 k x0 x5 (x5 == 11)))))
def contangoref05_Days.j1 : Nat → Int → Int → Bool → Option (Int)
  | 0, _, _, _ => none
  | k + 1, x0, x5, x14 => if x14 = true then (some 30) else (if x5 = 2 then ((contangoref05_Leap.f x0).bind fun t101 => (if t101 = true then (some 29) else (some 28))) else (some 0))
end
def contangoref05_Days.f (k : Nat) (a0 : Int) (a1 : Int) : Option (Int) := if a1 = 1 then (contangoref05_Days.j0 k a0 a1 (a1 == 1)) else (if a1 = 3 then (contangoref05_Days.j0 k a0 a1 (a1 == 3)) else (if a1 = 5 then (contangoref05_Days.j0 k a0 a1 (a1 == 5)) else (if a1 = 7 then (contangoref05_Days.j0 k a0 a1 (a1 == 7)) else (if a1 = 8 then (contangoref05_Days.j0 k a0 a1 (a1 == 8)) else (if a1 = 10 then (contangoref05_Days.j0 k a0 a1 (a1 == 10)) else (contangoref05_Days.j0 k a0 a1 (a1 == 12)))))))
theorem contangoref05_Days.mono_l : ∀ k, (∀ y0 y1 y2, LeO (contangoref05_Days.j0 k y0 y1 y2) (contangoref05_Days.j0 (k + 1) y0 y1 y2)) ∧ (∀ y0 y1 y2, LeO (contangoref05_Days.j1 k y0 y1 y2) (contangoref05_Days.j1 (k + 1) y0 y1 y2))
  | 0 => ⟨fun _ _ _ r h => by simp [contangoref05_Days.j0] at h, fun _ _ _ r h => by simp [contangoref05_Days.j1] at h⟩
  | k + 1 => by
    obtain ⟨ih0, ih1⟩ := contangoref05_Days.mono_l k
    refine ⟨?_, ?_⟩
    · intro y0 y1 y2
      unfold contangoref05_Days.j0
      repeat' first
      | (with_reducible exact ih0 _ _ _)
      | (with_reducible exact ih1 _ _ _)
      | (with_reducible exact LeO.refl _)
      | (with_reducible exact LeO.none _)
      | (with_reducible refine LeO.ite ?_ ?_)
      | (with_reducible refine LeO.bind ?_ (fun _ => ?_))
      | exact ih0 _ _ _
      | exact ih1 _ _ _
      | exact LeO.none _
      | refine LeO.ite ?_ ?_
      | refine LeO.bind ?_ (fun _ => ?_)
    · intro y0 y1 y2
      unfold contangoref05_Days.j1
      repeat' first
      | (with_reducible exact ih0 _ _ _)
      | (with_reducible exact ih1 _ _ _)
      | (with_reducible exact LeO.refl _)
      | (with_reducible exact LeO.none _)
      | (with_reducible refine LeO.ite ?_ ?_)
      | (with_reducible refine LeO.bind ?_ (fun _ => ?_))
      | exact ih0 _ _ _
      | exact ih1 _ _ _
      | exact LeO.none _
      | refine LeO.ite ?_ ?_
      | refine LeO.bind ?_ (fun _ => ?_)
theorem contangoref05_Days.mono : ∀ a0 a1 k, LeO (contangoref05_Days.f k a0 a1) (contangoref05_Days.f (k + 1) a0 a1) := by
  intro a0 a1 k
  obtain ⟨ih0, ih1⟩ := contangoref05_Days.mono_l k
  unfold contangoref05_Days.f
  repeat' first
      | (with_reducible exact ih0 _ _ _)
      | (with_reducible exact ih1 _ _ _)
      | (with_reducible exact LeO.refl _)
      | (with_reducible exact LeO.none _)
      | (with_reducible refine LeO.ite ?_ ?_)
      | (with_reducible refine LeO.bind ?_ (fun _ => ?_))
      | exact ih0 _ _ _
      | exact ih1 _ _ _
      | exact LeO.none _
      | refine LeO.ite ?_ ?_
      | refine LeO.bind ?_ (fun _ => ?_)
set_option maxHeartbeats 8000000 in
set_option maxRecDepth 100000 in
theorem contangoref05_Days.calls (k : Nat) (a0 : Int) (a1 : Int) (r : Int) (w : World) (h : contangoref05_Days.f k a0 a1 = some r) :
    Calls Tryd.prog 14 #[.int .i64 a0, .int .i64 a1] w fun e w' => e = .returned (.int .i64 r) ∧ Drawn0 w w' := by
  have H : (if a1 = 1 then (contangoref05_Days.j0 k a0 a1 (a1 == 1)) else (if a1 = 3 then (contangoref05_Days.j0 k a0 a1 (a1 == 3)) else (if a1 = 5 then (contangoref05_Days.j0 k a0 a1 (a1 == 5)) else (if a1 = 7 then (contangoref05_Days.j0 k a0 a1 (a1 == 7)) else (if a1 = 8 then (contangoref05_Days.j0 k a0 a1 (a1 == 8)) else (if a1 = 10 then (contangoref05_Days.j0 k a0 a1 (a1 == 10)) else (contangoref05_Days.j0 k a0 a1 (a1 == 12)))))))) = some r := h
  clear h
  have HC3 := Aside0.mk H
  clear H
  go_enter Tryd.func14, Tryd.ntmps14
  go_upto_if 6 with (fail)
  go_cut [6] (fun v6 wc => ∃ (kq : Nat) (x6_2 : Bool), v6 = .bool x6_2 ∧ Aside0 (contangoref05_Days.j0 kq a0 a1 x6_2 = some r) ∧ Aside0 (kq ≤ k) ∧ Drawn0 w wc)
  case first =>
    have H := HC3.out
    clear HC3
    by_cases c4 : a1 = 1
    · rw [if_pos c4] at H
      have c4b0 : (a1 == 1) = true := beq_iff_eq.mpr c4
      have c4b1 : (a1 != 1) = false := bne_eq_false_iff_eq.mpr c4
      clear c4
      (first | rw [c4b0] | (simp only [i64_w, i32_w]; rw [c4b0]) | rw [c4b1] | skip)
      have H' := Aside0.mk H
      clear H
      go_wp2
      go_meet
      case rel => exact ⟨_, ((a1 == 1)), (by first | rfl | (simp; done) | (simp [*]; done)), H', ⟨by first | omega | exact Nat.le_refl _⟩, by repeat (first | exact Drawn0.refl _ | apply Drawn0.step)⟩
    · rw [if_neg c4] at H
      have c4b0 : (a1 == 1) = false := beq_eq_false_iff_ne.mpr c4
      have c4b1 : (a1 != 1) = true := bne_iff_ne.mpr c4
      (first | rw [c4b0] | (simp only [i64_w, i32_w]; rw [c4b0]) | rw [c4b1] | skip)
      by_cases c5 : a1 = 3
      · rw [if_pos c5] at H
        have c5b0 : (a1 == 3) = true := beq_iff_eq.mpr c5
        have c5b1 : (a1 != 3) = false := bne_eq_false_iff_eq.mpr c5
        clear c5
        have H' := Aside0.mk H
        clear H
        go_wp2
        go_meet
        case rel => exact ⟨_, ((a1 == 3)), (by first | rfl | (simp; done) | (simp [*]; done)), H', ⟨by first | omega | exact Nat.le_refl _⟩, by repeat (first | exact Drawn0.refl _ | apply Drawn0.step)⟩
      · rw [if_neg c5] at H
        have c5b0 : (a1 == 3) = false := beq_eq_false_iff_ne.mpr c5
        have c5b1 : (a1 != 3) = true := bne_iff_ne.mpr c5
        by_cases c6 : a1 = 5
        · rw [if_pos c6] at H
          have c6b0 : (a1 == 5) = true := beq_iff_eq.mpr c6
          have c6b1 : (a1 != 5) = false := bne_eq_false_iff_eq.mpr c6
          clear c6
          have H' := Aside0.mk H
          clear H
          go_wp2
          go_meet
          case rel => exact ⟨_, ((a1 == 5)), (by first | rfl | (simp; done) | (simp [*]; done)), H', ⟨by first | omega | exact Nat.le_refl _⟩, by repeat (first | exact Drawn0.refl _ | apply Drawn0.step)⟩
        · rw [if_neg c6] at H
          have c6b0 : (a1 == 5) = false := beq_eq_false_iff_ne.mpr c6
          have c6b1 : (a1 != 5) = true := bne_iff_ne.mpr c6
          by_cases c7 : a1 = 7
          · rw [if_pos c7] at H
            have c7b0 : (a1 == 7) = true := beq_iff_eq.mpr c7
            have c7b1 : (a1 != 7) = false := bne_eq_false_iff_eq.mpr c7
            clear c7
            have H' := Aside0.mk H
            clear H
            go_wp2
            go_meet
            case rel => exact ⟨_, ((a1 == 7)), (by first | rfl | (simp; done) | (simp [*]; done)), H', ⟨by first | omega | exact Nat.le_refl _⟩, by repeat (first | exact Drawn0.refl _ | apply Drawn0.step)⟩
          · rw [if_neg c7] at H
            have c7b0 : (a1 == 7) = false := beq_eq_false_iff_ne.mpr c7
            have c7b1 : (a1 != 7) = true := bne_iff_ne.mpr c7
            by_cases c8 : a1 = 8
            · rw [if_pos c8] at H
              have c8b0 : (a1 == 8) = true := beq_iff_eq.mpr c8
              have c8b1 : (a1 != 8) = false := bne_eq_false_iff_eq.mpr c8
              clear c8
              have H' := Aside0.mk H
              clear H
              go_wp2
              go_meet
              case rel => exact ⟨_, ((a1 == 8)), (by first | rfl | (simp; done) | (simp [*]; done)), H', ⟨by first | omega | exact Nat.le_refl _⟩, by repeat (first | exact Drawn0.refl _ | apply Drawn0.step)⟩
            · rw [if_neg c8] at H
              have c8b0 : (a1 == 8) = false := beq_eq_false_iff_ne.mpr c8
              have c8b1 : (a1 != 8) = true := bne_iff_ne.mpr c8
              by_cases c9 : a1 = 10
              · rw [if_pos c9] at H
                have c9b0 : (a1 == 10) = true := beq_iff_eq.mpr c9
                have c9b1 : (a1 != 10) = false := bne_eq_false_iff_eq.mpr c9
                clear c9
                have H' := Aside0.mk H
                clear H
                go_wp2
                go_meet
                case rel => exact ⟨_, ((a1 == 10)), (by first | rfl | (simp; done) | (simp [*]; done)), H', ⟨by first | omega | exact Nat.le_refl _⟩, by repeat (first | exact Drawn0.refl _ | apply Drawn0.step)⟩
              · rw [if_neg c9] at H
                have c9b0 : (a1 == 10) = false := beq_eq_false_iff_ne.mpr c9
                have c9b1 : (a1 != 10) = true := bne_iff_ne.mpr c9
                have H' := Aside0.mk H
                clear H
                go_wp2
                go_meet
                case rel => exact ⟨_, ((a1 == 12)), (by first | rfl | (simp; done) | (simp [*]; done)), H', ⟨by first | omega | exact Nat.le_refl _⟩, by repeat (first | exact Drawn0.refl _ | apply Drawn0.step)⟩
  case rest =>
    clear HC3
    try clear c1
    try clear p2
    try clear c4
    try clear c4b0
    try clear c4b1
    try clear c5
    try clear c5b0
    try clear c5b1
    try clear c6
    try clear c6b0
    try clear c6b1
    try clear c7
    try clear c7b0
    try clear c7b1
    try clear c8
    try clear c8b0
    try clear c8b1
    try clear c9
    try clear c9b0
    try clear c9b1
    obtain ⟨kq, x6_2, rfl, HA, HJ2, ⟨mc2, rfl⟩⟩ := hcut
    cases kq with
    | zero => exact absurd HA.out (by simp [contangoref05_Days.j0])
    | succ kj2 =>
      have H := HA.out
      clear HA
      simp only [contangoref05_Days.j0] at H
      by_cases c10 : x6_2 = true
      · subst c10
        have H1 : (some 31) = some r := by rw [if_pos rfl] at H; exact H
        clear H
        have H := H1
        clear H1
        obtain rfl := Option.some.inj H
        go_wp2
        go_ret
        exact ⟨by first | rfl | (simp; done) | (simp [*]; done), by repeat (first | exact Drawn0.refl _ | apply Drawn0.step)⟩
      · replace c10 := Bool.eq_false_iff.mpr c10
        subst c10
        have H1 : (if a1 = 4 then (contangoref05_Days.j1 kj2 a0 a1 (a1 == 4)) else (if a1 = 6 then (contangoref05_Days.j1 kj2 a0 a1 (a1 == 6)) else (if a1 = 9 then (contangoref05_Days.j1 kj2 a0 a1 (a1 == 9)) else (contangoref05_Days.j1 kj2 a0 a1 (a1 == 11))))) = some r := by rw [if_neg (show ¬ (false = true) by decide)] at H; exact H
        clear H
        have H := H1
        clear H1
        have HC11 := Aside0.mk H
        clear H
        go_upto_if 14 with (fail)
        go_cut [14] (fun v14 wc => ∃ (kq : Nat) (x14_10 : Bool), v14 = .bool x14_10 ∧ Aside0 (contangoref05_Days.j1 kq a0 a1 x14_10 = some r) ∧ Aside0 (kq ≤ kj2) ∧ Drawn0 w wc)
        case first =>
          have H := HC11.out
          clear HC11
          by_cases c12 : a1 = 4
          · rw [if_pos c12] at H
            have c12b0 : (a1 == 4) = true := beq_iff_eq.mpr c12
            have c12b1 : (a1 != 4) = false := bne_eq_false_iff_eq.mpr c12
            clear c12
            (first | rw [c12b0] | (simp only [i64_w, i32_w]; rw [c12b0]) | rw [c12b1] | skip)
            have H' := Aside0.mk H
            clear H
            go_wp2
            go_meet
            case rel => exact ⟨_, ((a1 == 4)), (by first | rfl | (simp; done) | (simp [*]; done)), H', ⟨by have := HJ2.out; first | omega | exact Nat.le_refl _⟩, by repeat (first | exact Drawn0.refl _ | apply Drawn0.step)⟩
          · rw [if_neg c12] at H
            have c12b0 : (a1 == 4) = false := beq_eq_false_iff_ne.mpr c12
            have c12b1 : (a1 != 4) = true := bne_iff_ne.mpr c12
            (first | rw [c12b0] | (simp only [i64_w, i32_w]; rw [c12b0]) | rw [c12b1] | skip)
            by_cases c13 : a1 = 6
            · rw [if_pos c13] at H
              have c13b0 : (a1 == 6) = true := beq_iff_eq.mpr c13
              have c13b1 : (a1 != 6) = false := bne_eq_false_iff_eq.mpr c13
              clear c13
              have H' := Aside0.mk H
              clear H
              go_wp2
              go_meet
              case rel => exact ⟨_, ((a1 == 6)), (by first | rfl | (simp; done) | (simp [*]; done)), H', ⟨by have := HJ2.out; first | omega | exact Nat.le_refl _⟩, by repeat (first | exact Drawn0.refl _ | apply Drawn0.step)⟩
            · rw [if_neg c13] at H
              have c13b0 : (a1 == 6) = false := beq_eq_false_iff_ne.mpr c13
              have c13b1 : (a1 != 6) = true := bne_iff_ne.mpr c13
              by_cases c14 : a1 = 9
              · rw [if_pos c14] at H
                have c14b0 : (a1 == 9) = true := beq_iff_eq.mpr c14
                have c14b1 : (a1 != 9) = false := bne_eq_false_iff_eq.mpr c14
                clear c14
                have H' := Aside0.mk H
                clear H
                go_wp2
                go_meet
                case rel => exact ⟨_, ((a1 == 9)), (by first | rfl | (simp; done) | (simp [*]; done)), H', ⟨by have := HJ2.out; first | omega | exact Nat.le_refl _⟩, by repeat (first | exact Drawn0.refl _ | apply Drawn0.step)⟩
              · rw [if_neg c14] at H
                have c14b0 : (a1 == 9) = false := beq_eq_false_iff_ne.mpr c14
                have c14b1 : (a1 != 9) = true := bne_iff_ne.mpr c14
                have H' := Aside0.mk H
                clear H
                go_wp2
                go_meet
                case rel => exact ⟨_, ((a1 == 11)), (by first | rfl | (simp; done) | (simp [*]; done)), H', ⟨by have := HJ2.out; first | omega | exact Nat.le_refl _⟩, by repeat (first | exact Drawn0.refl _ | apply Drawn0.step)⟩
        case rest =>
          clear HC11
          try clear c1
          try clear c2
          try clear p2
          try clear c4
          try clear c4b0
          try clear c4b1
          try clear c5
          try clear c5b0
          try clear c5b1
          try clear c6
          try clear c6b0
          try clear c6b1
          try clear c7
          try clear c7b0
          try clear c7b1
          try clear c8
          try clear c8b0
          try clear c8b1
          try clear c9
          try clear c9b0
          try clear c9b1
          try clear c10
          try clear c12
          try clear c12b0
          try clear c12b1
          try clear c13
          try clear c13b0
          try clear c13b1
          try clear c14
          try clear c14b0
          try clear c14b1
          try clear p2
          obtain ⟨kq, x14_10, rfl, HA, HJ10, ⟨mc10, rfl⟩⟩ := hcut
          cases kq with
          | zero => exact absurd HA.out (by simp [contangoref05_Days.j1])
          | succ kj10 =>
            have H := HA.out
            clear HA
            simp only [contangoref05_Days.j1] at H
            by_cases c15 : x14_10 = true
            · subst c15
              have H1 : (some 30) = some r := by rw [if_pos rfl] at H; exact H
              clear H
              have H := H1
              clear H1
              obtain rfl := Option.some.inj H
              go_wp2
              go_ret
              exact ⟨by first | rfl | (simp; done) | (simp [*]; done), by repeat (first | exact Drawn0.refl _ | apply Drawn0.step)⟩
            · replace c15 := Bool.eq_false_iff.mpr c15
              subst c15
              have H1 : (if a1 = 2 then ((contangoref05_Leap.f a0).bind fun t101 => (if t101 = true then (some 29) else (some 28))) else (some 0)) = some r := by rw [if_neg (show ¬ (false = true) by decide)] at H; exact H
              clear H
              have H := H1
              clear H1
              by_cases c16 : a1 = 2
              · rw [if_pos c16] at H
                have c16b0 : (a1 == 2) = true := beq_iff_eq.mpr c16
                have c16b1 : (a1 != 2) = false := bne_eq_false_iff_eq.mpr c16
                clear c16
                replace H := Option.bind_eq_some_iff.mp H
                obtain ⟨t101, A170, H⟩ := H
                replace H : (if t101 = true then (some 29) else (some 28)) = some r := H
                have A17 := Aside0.mk A170
                clear A170
                by_cases c18 : t101 = true
                · subst c18
                  have H1 : (some 29) = some r := by rw [if_pos rfl] at H; exact H
                  clear H
                  have H := H1
                  clear H1
                  obtain rfl := Option.some.inj H
                  go_wp2_with (first | ((with_reducible refine gate_callee (f := 12) rfl ?_); refine goesL_ (some 22) rfl rfl Tryd.func12 (by kernel_rfl) rfl #[.int .i64 a0] rfl (by (try simp only [List.map_toArray, List.map_cons, List.map_nil]); first | done | rfl | (simp only [List.length_drop, List.length_take]; rfl)) ?_; (with_reducible refine (contangoref05_Leap.calls a0 true _ A17.out).mono ?_); rintro e w' ⟨rfl, ⟨nd, rfl⟩⟩; refine ⟨_, rfl, ?_⟩))
                  go_ret
                  exact ⟨by first | rfl | (simp; done) | (simp [*]; done), by repeat (first | exact Drawn0.refl _ | apply Drawn0.step)⟩
                · replace c18 := Bool.eq_false_iff.mpr c18
                  subst c18
                  have H1 : (some 28) = some r := by rw [if_neg (show ¬ (false = true) by decide)] at H; exact H
                  clear H
                  have H := H1
                  clear H1
                  obtain rfl := Option.some.inj H
                  go_wp2_with (first | ((with_reducible refine gate_callee (f := 12) rfl ?_); refine goesL_ (some 22) rfl rfl Tryd.func12 (by kernel_rfl) rfl #[.int .i64 a0] rfl (by (try simp only [List.map_toArray, List.map_cons, List.map_nil]); first | done | rfl | (simp only [List.length_drop, List.length_take]; rfl)) ?_; (with_reducible refine (contangoref05_Leap.calls a0 false _ A17.out).mono ?_); rintro e w' ⟨rfl, ⟨nd, rfl⟩⟩; refine ⟨_, rfl, ?_⟩))
                  go_ret
                  exact ⟨by first | rfl | (simp; done) | (simp [*]; done), by repeat (first | exact Drawn0.refl _ | apply Drawn0.step)⟩
              · rw [if_neg c16] at H
                have c16b0 : (a1 == 2) = false := beq_eq_false_iff_ne.mpr c16
                have c16b1 : (a1 != 2) = true := bne_iff_ne.mpr c16
                obtain rfl := Option.some.inj H
                go_wp2
                go_ret
                exact ⟨by first | rfl | (simp; done) | (simp [*]; done), by repeat (first | exact Drawn0.refl _ | apply Drawn0.step)⟩

end Go.Proofs.YtmhlajgeihjaeaaDoor.PDateOf
-- HLONG: seen
