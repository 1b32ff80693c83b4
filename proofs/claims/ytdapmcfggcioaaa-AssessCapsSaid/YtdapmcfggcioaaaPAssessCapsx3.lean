/- Laid for this claim by a program of this session's (wip/mkprint.py, wip/ext.py); not trusted: Lean checks it. -/
import Derived.Test.YtdapmcfggcioaaaPAssessCapsx0
import Derived.Test.YtdapmcfggcioaaaPAssessCapsx2
namespace Go.Proofs.Ytdapmcfggcioaaa.PAssessCaps
open Go.RowKit Go.Proofs.YtdapmcfggcioaaaW.PrintWords Go.Proofs.YtdapmcfggcioaaaW.PrintLast Go.Proofs.YtdapmcfggcioaaaW.PrintMore
attribute [local go_sem] max2_int min2_int max_two min_two max_three min_three max_four min_four   -- for this text's walks alone
set_option linter.unusedVariables false
set_option linter.unusedSimpArgs false

/-! ### contangoref01_size: function 30 -/
def contangoref01_size.f (a0 : Int) : Option (Int) := if a0 < 0 then (some (wrap64 (-a0))) else (some a0)
set_option maxHeartbeats 8000000 in
set_option maxRecDepth 100000 in
theorem contangoref01_size.calls (a0 : Int) (r : Int) (w : World) (h : contangoref01_size.f a0 = some r) :
    Calls Try.prog 30 #[.int .i64 a0] w fun e w' => e = .returned (.int .i64 r) ∧ Drawn0 w w' := by
  have H : (if a0 < 0 then (some (wrap64 (-a0))) else (some a0)) = some r := h
  clear h
  by_cases c2 : a0 < 0
  · rw [if_pos c2] at H
    have c2b0 : decide (a0 < 0) = true := decide_eq_true c2
    clear c2
    obtain rfl := Option.some.inj H
    go_enter Try.func30, Try.ntmps30
    go_wp2
    go_ret
    exact ⟨by first | rfl | (simp; done) | (simp [*]; done), by repeat (first | exact Drawn0.refl _ | apply Drawn0.step)⟩
  · rw [if_neg c2] at H
    have c2b0 : decide (a0 < 0) = false := decide_eq_false c2
    clear c2
    obtain rfl := Option.some.inj H
    go_enter Try.func30, Try.ntmps30
    go_wp2
    go_ret
    exact ⟨by first | rfl | (simp; done) | (simp [*]; done), by repeat (first | exact Drawn0.refl _ | apply Drawn0.step)⟩

/-! ### contangoref01_away: function 31 -/
def contangoref01_away.f (a0 : Int) (a1 : Int) (a2 : Int) (a3 : Int) (a4 : Bool) : Option (Bool) := if a3 = 2 then (some true) else (if a3 = 3 then (some a4) else (if a3 = 4 then (some (!a4)) else (if a3 = 5 then (if a1 > (wrap64 (a2 - a1)) then (some true) else (if a1 = (wrap64 (a2 - a1)) then (some ((Int.tmod a0 2) == 1)) else (some false))) else (some false))))
set_option maxHeartbeats 8000000 in
set_option maxRecDepth 100000 in
theorem contangoref01_away.calls (a0 : Int) (a1 : Int) (a2 : Int) (a3 : Int) (a4 : Bool) (r : Bool) (w : World) (h : contangoref01_away.f a0 a1 a2 a3 a4 = some r) :
    Calls Try.prog 31 #[.int .i64 a0, .int .i64 a1, .int .i64 a2, .int .i64 a3, .bool a4] w fun e w' => e = .returned (.bool r) ∧ Drawn0 w w' := by
  have H : (if a3 = 2 then (some true) else (if a3 = 3 then (some a4) else (if a3 = 4 then (some (!a4)) else (if a3 = 5 then (if a1 > (wrap64 (a2 - a1)) then (some true) else (if a1 = (wrap64 (a2 - a1)) then (some ((Int.tmod a0 2) == 1)) else (some false))) else (some false))))) = some r := h
  clear h
  by_cases c6 : a3 = 2
  · rw [if_pos c6] at H
    have c6b0 : (a3 == 2) = true := beq_iff_eq.mpr c6
    have c6b1 : (a3 != 2) = false := bne_eq_false_iff_eq.mpr c6
    clear c6
    obtain rfl := Option.some.inj H
    go_enter Try.func31, Try.ntmps31
    go_wp2
    go_ret
    exact ⟨by first | rfl | (simp; done) | (simp [*]; done), by repeat (first | exact Drawn0.refl _ | apply Drawn0.step)⟩
  · rw [if_neg c6] at H
    have c6b0 : (a3 == 2) = false := beq_eq_false_iff_ne.mpr c6
    have c6b1 : (a3 != 2) = true := bne_iff_ne.mpr c6
    by_cases c7 : a3 = 3
    · rw [if_pos c7] at H
      have c7b0 : (a3 == 3) = true := beq_iff_eq.mpr c7
      have c7b1 : (a3 != 3) = false := bne_eq_false_iff_eq.mpr c7
      clear c7
      obtain rfl := Option.some.inj H
      go_enter Try.func31, Try.ntmps31
      go_wp2
      go_ret
      exact ⟨by first | rfl | (simp; done) | (simp [*]; done), by repeat (first | exact Drawn0.refl _ | apply Drawn0.step)⟩
    · rw [if_neg c7] at H
      have c7b0 : (a3 == 3) = false := beq_eq_false_iff_ne.mpr c7
      have c7b1 : (a3 != 3) = true := bne_iff_ne.mpr c7
      by_cases c8 : a3 = 4
      · rw [if_pos c8] at H
        have c8b0 : (a3 == 4) = true := beq_iff_eq.mpr c8
        have c8b1 : (a3 != 4) = false := bne_eq_false_iff_eq.mpr c8
        clear c8
        obtain rfl := Option.some.inj H
        go_enter Try.func31, Try.ntmps31
        go_wp2
        go_ret
        exact ⟨by first | rfl | (simp; done) | (simp [*]; done), by repeat (first | exact Drawn0.refl _ | apply Drawn0.step)⟩
      · rw [if_neg c8] at H
        have c8b0 : (a3 == 4) = false := beq_eq_false_iff_ne.mpr c8
        have c8b1 : (a3 != 4) = true := bne_iff_ne.mpr c8
        by_cases c9 : a3 = 5
        · rw [if_pos c9] at H
          have c9b0 : (a3 == 5) = true := beq_iff_eq.mpr c9
          have c9b1 : (a3 != 5) = false := bne_eq_false_iff_eq.mpr c9
          clear c9
          by_cases c10 : a1 > (wrap64 (a2 - a1))
          · rw [if_pos c10] at H
            have c10b0 : decide ((wrap64 (a2 - a1)) < a1) = true := decide_eq_true c10
            clear c10
            obtain rfl := Option.some.inj H
            go_enter Try.func31, Try.ntmps31
            go_wp2
            go_ret
            exact ⟨by first | rfl | (simp; done) | (simp [*]; done), by repeat (first | exact Drawn0.refl _ | apply Drawn0.step)⟩
          · rw [if_neg c10] at H
            have c10b0 : decide ((wrap64 (a2 - a1)) < a1) = false := decide_eq_false c10
            clear c10
            by_cases c11 : a1 = (wrap64 (a2 - a1))
            · rw [if_pos c11] at H
              have c11b0 : (a1 == (wrap64 (a2 - a1))) = true := beq_iff_eq.mpr c11
              have c11b1 : (a1 != (wrap64 (a2 - a1))) = false := bne_eq_false_iff_eq.mpr c11
              clear c11
              obtain rfl := Option.some.inj H
              go_enter Try.func31, Try.ntmps31
              go_wp2
              go_ret
              exact ⟨by first | rfl | (simp; done) | (simp [*]; done), by repeat (first | exact Drawn0.refl _ | apply Drawn0.step)⟩
            · rw [if_neg c11] at H
              have c11b0 : (a1 == (wrap64 (a2 - a1))) = false := beq_eq_false_iff_ne.mpr c11
              have c11b1 : (a1 != (wrap64 (a2 - a1))) = true := bne_iff_ne.mpr c11
              obtain rfl := Option.some.inj H
              go_enter Try.func31, Try.ntmps31
              go_wp2
              go_ret
              exact ⟨by first | rfl | (simp; done) | (simp [*]; done), by repeat (first | exact Drawn0.refl _ | apply Drawn0.step)⟩
        · rw [if_neg c9] at H
          have c9b0 : (a3 == 5) = false := beq_eq_false_iff_ne.mpr c9
          have c9b1 : (a3 != 5) = true := bne_iff_ne.mpr c9
          obtain rfl := Option.some.inj H
          go_enter Try.func31, Try.ntmps31
          go_wp2
          go_ret
          exact ⟨by first | rfl | (simp; done) | (simp [*]; done), by repeat (first | exact Drawn0.refl _ | apply Drawn0.step)⟩

/-! ### contangoref01_MulDiv: function 19 -/
def rbelowB (a b c : Int) : Bool := !(!(decide (a < 0) == decide (b < 0)) == decide (c < 0))
def rdone (q : Int) (bl : Bool) : Int × Int := if q > 1152921504606846976 then (0, 3) else if bl = true then (-q, 0) else (q, 0)
def contangoref01_MulDiv.f (k : Nat) (a0 : Int) (a1 : Int) (a2 : Int) (a3 : Int) : Option (Int × Int) :=
  (contangoref01_Fits.f a0).bind fun fa => if fa = true then (contangoref01_Fits.f a1).bind fun fb => if fb = true then (contangoref01_Fits.f a2).bind fun fc => if fc = true then
    (if a3 < 1 ∨ a3 > 5 then some (0, 2) else if a2 = 0 then some (0, 4) else
      (contangoref01_size.f a0).bind fun sa => (contangoref01_size.f a1).bind fun sb => (contangoref01_size.f a2).bind fun sc => (contangoref01_quotient.f k sa sb sc).bind fun qr =>
        if 0 ≤ qr.1 ∧ qr.1 ≤ 2305843009213693952 then
          (if qr.2 > 0 then (contangoref01_away.f qr.1 qr.2 sc a3 (rbelowB a0 a1 a2)).bind fun up => some (rdone (if up = true then qr.1 + 1 else qr.1) (rbelowB a0 a1 a2))
           else some (rdone qr.1 (rbelowB a0 a1 a2)))
        else none)
    else some (0, 2) else some (0, 2) else some (0, 2)
theorem rleO_if {α : Type} {c : Prop} [Decidable c] {a b a' b' : Option α} (h : LeO a a') (k : LeO b b') : LeO (if c then a else b) (if c then a' else b') := by
  split
  · exact h
  · exact k
theorem contangoref01_MulDiv.mono : ∀ a0 a1 a2 a3 k, LeO (contangoref01_MulDiv.f k a0 a1 a2 a3) (contangoref01_MulDiv.f (k + 1) a0 a1 a2 a3) := by
  intro a0 a1 a2 a3 k
  unfold contangoref01_MulDiv.f
  refine LeO.bind (LeO.refl _) (fun _ => rleO_if ?_ (LeO.refl _))
  refine LeO.bind (LeO.refl _) (fun _ => rleO_if ?_ (LeO.refl _))
  refine LeO.bind (LeO.refl _) (fun _ => rleO_if ?_ (LeO.refl _))
  refine rleO_if (LeO.refl _) (rleO_if (LeO.refl _) ?_)
  refine LeO.bind (LeO.refl _) (fun _ => LeO.bind (LeO.refl _) (fun _ => LeO.bind (LeO.refl _) (fun _ => LeO.bind (contangoref01_quotient.mono _ _ _ _) (fun _ => LeO.refl _))))
set_option maxHeartbeats 40000000 in
set_option maxRecDepth 100000 in
theorem rm_args (a b c mode : Int) (fa fb fc : Bool) (w : World) (ha : contangoref01_Fits.f a = some fa) (hb : fa = true → contangoref01_Fits.f b = some fb) (hc : fa = true → fb = true → contangoref01_Fits.f c = some fc) (hbad : fa = true → fb = true → fc = true → mode < 1 ∨ mode > 5) :
    Calls Try.prog 19 #[.int .i64 a, .int .i64 b, .int .i64 c, .int .i64 mode] w fun e w' => e = .returned (.tuple #[.int .i64 0, .int .i64 2]) ∧ Drawn0 w w' := by
  have FA := Aside0.mk ha
  clear ha
  cases fa with
  | false =>
    clear hb hc hbad
    go_enter Try.func19, Try.ntmps19
    go_wp2_with (go_at_call 28; ((first | (with_reducible refine (contangoref01_Fits.calls a false _ FA.out).mono ?_)); rintro e w' ⟨rfl, ⟨nd, rfl⟩⟩))
    go_ret2
    exact ⟨rfl, by repeat (first | exact Drawn0.refl _ | apply Drawn0.step)⟩
  | true =>
    have FB := Aside0.mk (hb rfl)
    clear hb
    cases fb with
    | false =>
      clear hc hbad
      go_enter Try.func19, Try.ntmps19
      go_wp2_with (go_at_call 28; ((first | (with_reducible refine (contangoref01_Fits.calls a true _ FA.out).mono ?_) | (with_reducible refine (contangoref01_Fits.calls b false _ FB.out).mono ?_)); rintro e w' ⟨rfl, ⟨nd, rfl⟩⟩))
      go_ret2
      exact ⟨rfl, by repeat (first | exact Drawn0.refl _ | apply Drawn0.step)⟩
    | true =>
      have FC := Aside0.mk (hc rfl rfl)
      clear hc
      cases fc with
      | false =>
        clear hbad
        go_enter Try.func19, Try.ntmps19
        go_wp2_with (go_at_call 28; ((first | (with_reducible refine (contangoref01_Fits.calls a true _ FA.out).mono ?_) | (with_reducible refine (contangoref01_Fits.calls b true _ FB.out).mono ?_) | (with_reducible refine (contangoref01_Fits.calls c false _ FC.out).mono ?_)); rintro e w' ⟨rfl, ⟨nd, rfl⟩⟩))
        go_ret2
        exact ⟨rfl, by repeat (first | exact Drawn0.refl _ | apply Drawn0.step)⟩
      | true =>
        have hm := hbad rfl rfl rfl
        clear hbad
        by_cases h1 : mode < 1
        · have d1 : decide (mode < 1) = true := decide_eq_true h1
          clear hm h1
          go_enter Try.func19, Try.ntmps19
          go_wp2_with (go_at_call 28; ((first | (with_reducible refine (contangoref01_Fits.calls a true _ FA.out).mono ?_) | (with_reducible refine (contangoref01_Fits.calls b true _ FB.out).mono ?_) | (with_reducible refine (contangoref01_Fits.calls c true _ FC.out).mono ?_)); rintro e w' ⟨rfl, ⟨nd, rfl⟩⟩))
          go_ret2
          exact ⟨rfl, by repeat (first | exact Drawn0.refl _ | apply Drawn0.step)⟩
        · have d1 : decide (mode < 1) = false := decide_eq_false h1
          have d2 : decide (5 < mode) = true := decide_eq_true (by omega)
          clear hm h1
          go_enter Try.func19, Try.ntmps19
          go_wp2_with (go_at_call 28; ((first | (with_reducible refine (contangoref01_Fits.calls a true _ FA.out).mono ?_) | (with_reducible refine (contangoref01_Fits.calls b true _ FB.out).mono ?_) | (with_reducible refine (contangoref01_Fits.calls c true _ FC.out).mono ?_)); rintro e w' ⟨rfl, ⟨nd, rfl⟩⟩))
          go_ret2
          exact ⟨rfl, by repeat (first | exact Drawn0.refl _ | apply Drawn0.step)⟩
set_option maxHeartbeats 40000000 in
set_option maxRecDepth 100000 in
theorem rm_zero (a b mode : Int) (w : World) (fa : contangoref01_Fits.f a = some true) (fb : contangoref01_Fits.f b = some true) (fc : contangoref01_Fits.f 0 = some true) (m1 : 1 ≤ mode) (m2 : mode ≤ 5) :
    Calls Try.prog 19 #[.int .i64 a, .int .i64 b, .int .i64 0, .int .i64 mode] w fun e w' => e = .returned (.tuple #[.int .i64 0, .int .i64 4]) ∧ Drawn0 w w' := by
  have FA := Aside0.mk fa
  have FB := Aside0.mk fb
  have FC := Aside0.mk fc
  clear fa fb fc
  go_enter Try.func19, Try.ntmps19
  go_wp2_with (go_at_call 28; ((first | (with_reducible refine (contangoref01_Fits.calls a true _ FA.out).mono ?_) | (with_reducible refine (contangoref01_Fits.calls b true _ FB.out).mono ?_) | (with_reducible refine (contangoref01_Fits.calls 0 true _ FC.out).mono ?_)); rintro e w' ⟨rfl, ⟨nd, rfl⟩⟩))
  go_ret2
  exact ⟨rfl, by repeat (first | exact Drawn0.refl _ | apply Drawn0.step)⟩
set_option maxHeartbeats 40000000 in
set_option maxRecDepth 100000 in
theorem rm_even (a b c mode q r sc sa sb : Int) (x y z bl : Bool) (w : World) (k : Nat)
    (fa : contangoref01_Fits.f a = some true) (fb : contangoref01_Fits.f b = some true) (fc : contangoref01_Fits.f c = some true) (m1 : 1 ≤ mode) (m2 : mode ≤ 5) (hc0 : c ≠ 0)
    (s1 : contangoref01_size.f a = some sa) (s2 : contangoref01_size.f b = some sb) (s3 : contangoref01_size.f c = some sc) (hd : contangoref01_quotient.f k sa sb sc = some (q, r)) (hq0 : 0 ≤ q) (hq : q ≤ 2305843009213693952)
    (ba : decide (a < 0) = x) (bb : decide (b < 0) = y) (bc : decide (c < 0) = z) (hbl : (!(!(x == y) == z)) = bl) (hr : ¬ r > 0) :
    Calls Try.prog 19 #[.int .i64 a, .int .i64 b, .int .i64 c, .int .i64 mode] w fun e w' => e = .returned (.tuple #[.int .i64 (rdone q bl).1, .int .i64 (rdone q bl).2]) ∧ Drawn0 w w' := by
  have FA := Aside0.mk fa
  have FB := Aside0.mk fb
  have FC := Aside0.mk fc
  have S1 := Aside0.mk s1
  have S2 := Aside0.mk s2
  have S3 := Aside0.mk s3
  have HD := Aside0.mk hd
  have cz : (c == 0) = false := by simpa using hc0
  have dr : decide (0 < r) = false := decide_eq_false hr
  clear fa fb fc s1 s2 s3 hd hc0 hr
  unfold rdone
  by_cases hov : q > 1152921504606846976
  · rw [if_pos hov]
    have dv : decide (1152921504606846976 < q) = true := decide_eq_true hov
    clear hov
    cases x <;> cases y <;> cases z <;> cases bl <;> first
      | exact absurd hbl (by decide)
      | (clear hbl
         go_enter Try.func19, Try.ntmps19
         go_wp2_with (first | (go_at_call 28; ((first | (with_reducible refine (contangoref01_Fits.calls a true _ FA.out).mono ?_) | (with_reducible refine (contangoref01_Fits.calls b true _ FB.out).mono ?_) | (with_reducible refine (contangoref01_Fits.calls c true _ FC.out).mono ?_)); rintro e w' ⟨rfl, ⟨nd, rfl⟩⟩)) | (go_at_call 30; ((first | (with_reducible refine (contangoref01_size.calls a _ _ S1.out).mono ?_) | (with_reducible refine (contangoref01_size.calls b _ _ S2.out).mono ?_) | (with_reducible refine (contangoref01_size.calls c _ _ S3.out).mono ?_)); rintro e w' ⟨rfl, ⟨nd, rfl⟩⟩)) | (go_at_call 29; (with_reducible refine (contangoref01_quotient.calls k _ _ _ _ _ _ HD.out).mono ?_); rintro e w' ⟨rfl, ⟨nd, rfl⟩⟩))
         go_ret2
         exact ⟨rfl, by repeat (first | exact Drawn0.refl _ | apply Drawn0.step)⟩)
  · rw [if_neg hov]
    have dv : decide (1152921504606846976 < q) = false := decide_eq_false hov
    have hov2 : q ≤ 1152921504606846976 := by omega
    clear hov
    cases x <;> cases y <;> cases z <;> cases bl <;> first
      | exact absurd hbl (by decide)
      | (clear hbl
         go_enter Try.func19, Try.ntmps19
         go_wp2_with (first | (go_at_call 28; ((first | (with_reducible refine (contangoref01_Fits.calls a true _ FA.out).mono ?_) | (with_reducible refine (contangoref01_Fits.calls b true _ FB.out).mono ?_) | (with_reducible refine (contangoref01_Fits.calls c true _ FC.out).mono ?_)); rintro e w' ⟨rfl, ⟨nd, rfl⟩⟩)) | (go_at_call 30; ((first | (with_reducible refine (contangoref01_size.calls a _ _ S1.out).mono ?_) | (with_reducible refine (contangoref01_size.calls b _ _ S2.out).mono ?_) | (with_reducible refine (contangoref01_size.calls c _ _ S3.out).mono ?_)); rintro e w' ⟨rfl, ⟨nd, rfl⟩⟩)) | (go_at_call 29; (with_reducible refine (contangoref01_quotient.calls k _ _ _ _ _ _ HD.out).mono ?_); rintro e w' ⟨rfl, ⟨nd, rfl⟩⟩))
         go_ret2
         exact ⟨rfl, by repeat (first | exact Drawn0.refl _ | apply Drawn0.step)⟩)
set_option maxHeartbeats 40000000 in
set_option maxRecDepth 100000 in
theorem rm_stay (a b c mode q r sc sa sb : Int) (x y z bl : Bool) (w : World) (k : Nat)
    (fa : contangoref01_Fits.f a = some true) (fb : contangoref01_Fits.f b = some true) (fc : contangoref01_Fits.f c = some true) (m1 : 1 ≤ mode) (m2 : mode ≤ 5) (hc0 : c ≠ 0)
    (s1 : contangoref01_size.f a = some sa) (s2 : contangoref01_size.f b = some sb) (s3 : contangoref01_size.f c = some sc) (hd : contangoref01_quotient.f k sa sb sc = some (q, r)) (hq0 : 0 ≤ q) (hq : q ≤ 2305843009213693952)
    (ba : decide (a < 0) = x) (bb : decide (b < 0) = y) (bc : decide (c < 0) = z) (hbl : (!(!(x == y) == z)) = bl) (hr : r > 0) (ha : contangoref01_away.f q r sc mode bl = some false) :
    Calls Try.prog 19 #[.int .i64 a, .int .i64 b, .int .i64 c, .int .i64 mode] w fun e w' => e = .returned (.tuple #[.int .i64 (rdone q bl).1, .int .i64 (rdone q bl).2]) ∧ Drawn0 w w' := by
  have FA := Aside0.mk fa
  have FB := Aside0.mk fb
  have FC := Aside0.mk fc
  have S1 := Aside0.mk s1
  have S2 := Aside0.mk s2
  have S3 := Aside0.mk s3
  have HD := Aside0.mk hd
  have cz : (c == 0) = false := by simpa using hc0
  have dr : decide (0 < r) = true := decide_eq_true hr
  have HA := Aside0.mk ha
  clear fa fb fc s1 s2 s3 hd hc0 hr ha
  unfold rdone
  by_cases hov : q > 1152921504606846976
  · rw [if_pos hov]
    have dv : decide (1152921504606846976 < q) = true := decide_eq_true hov
    clear hov
    cases x <;> cases y <;> cases z <;> cases bl <;> first
      | exact absurd hbl (by decide)
      | (clear hbl
         go_enter Try.func19, Try.ntmps19
         go_wp2_with (first | (go_at_call 28; ((first | (with_reducible refine (contangoref01_Fits.calls a true _ FA.out).mono ?_) | (with_reducible refine (contangoref01_Fits.calls b true _ FB.out).mono ?_) | (with_reducible refine (contangoref01_Fits.calls c true _ FC.out).mono ?_)); rintro e w' ⟨rfl, ⟨nd, rfl⟩⟩)) | (go_at_call 30; ((first | (with_reducible refine (contangoref01_size.calls a _ _ S1.out).mono ?_) | (with_reducible refine (contangoref01_size.calls b _ _ S2.out).mono ?_) | (with_reducible refine (contangoref01_size.calls c _ _ S3.out).mono ?_)); rintro e w' ⟨rfl, ⟨nd, rfl⟩⟩)) | (go_at_call 29; (with_reducible refine (contangoref01_quotient.calls k _ _ _ _ _ _ HD.out).mono ?_); rintro e w' ⟨rfl, ⟨nd, rfl⟩⟩) | (go_at_call 31; (with_reducible refine (contangoref01_away.calls _ _ _ _ _ _ _ HA.out).mono ?_); rintro e w' ⟨rfl, ⟨nd, rfl⟩⟩))
         go_ret2
         exact ⟨rfl, by repeat (first | exact Drawn0.refl _ | apply Drawn0.step)⟩)
  · rw [if_neg hov]
    have dv : decide (1152921504606846976 < q) = false := decide_eq_false hov
    have hov2 : q ≤ 1152921504606846976 := by omega
    clear hov
    cases x <;> cases y <;> cases z <;> cases bl <;> first
      | exact absurd hbl (by decide)
      | (clear hbl
         go_enter Try.func19, Try.ntmps19
         go_wp2_with (first | (go_at_call 28; ((first | (with_reducible refine (contangoref01_Fits.calls a true _ FA.out).mono ?_) | (with_reducible refine (contangoref01_Fits.calls b true _ FB.out).mono ?_) | (with_reducible refine (contangoref01_Fits.calls c true _ FC.out).mono ?_)); rintro e w' ⟨rfl, ⟨nd, rfl⟩⟩)) | (go_at_call 30; ((first | (with_reducible refine (contangoref01_size.calls a _ _ S1.out).mono ?_) | (with_reducible refine (contangoref01_size.calls b _ _ S2.out).mono ?_) | (with_reducible refine (contangoref01_size.calls c _ _ S3.out).mono ?_)); rintro e w' ⟨rfl, ⟨nd, rfl⟩⟩)) | (go_at_call 29; (with_reducible refine (contangoref01_quotient.calls k _ _ _ _ _ _ HD.out).mono ?_); rintro e w' ⟨rfl, ⟨nd, rfl⟩⟩) | (go_at_call 31; (with_reducible refine (contangoref01_away.calls _ _ _ _ _ _ _ HA.out).mono ?_); rintro e w' ⟨rfl, ⟨nd, rfl⟩⟩))
         go_ret2
         exact ⟨rfl, by repeat (first | exact Drawn0.refl _ | apply Drawn0.step)⟩)
set_option maxHeartbeats 40000000 in
set_option maxRecDepth 100000 in
theorem rm_more (a b c mode q r sc sa sb : Int) (x y z bl : Bool) (w : World) (k : Nat)
    (fa : contangoref01_Fits.f a = some true) (fb : contangoref01_Fits.f b = some true) (fc : contangoref01_Fits.f c = some true) (m1 : 1 ≤ mode) (m2 : mode ≤ 5) (hc0 : c ≠ 0)
    (s1 : contangoref01_size.f a = some sa) (s2 : contangoref01_size.f b = some sb) (s3 : contangoref01_size.f c = some sc) (hd : contangoref01_quotient.f k sa sb sc = some (q, r)) (hq0 : 0 ≤ q) (hq : q ≤ 2305843009213693952)
    (ba : decide (a < 0) = x) (bb : decide (b < 0) = y) (bc : decide (c < 0) = z) (hbl : (!(!(x == y) == z)) = bl) (hr : r > 0) (ha : contangoref01_away.f q r sc mode bl = some true) :
    Calls Try.prog 19 #[.int .i64 a, .int .i64 b, .int .i64 c, .int .i64 mode] w fun e w' => e = .returned (.tuple #[.int .i64 (rdone (q + 1) bl).1, .int .i64 (rdone (q + 1) bl).2]) ∧ Drawn0 w w' := by
  have FA := Aside0.mk fa
  have FB := Aside0.mk fb
  have FC := Aside0.mk fc
  have S1 := Aside0.mk s1
  have S2 := Aside0.mk s2
  have S3 := Aside0.mk s3
  have HD := Aside0.mk hd
  have cz : (c == 0) = false := by simpa using hc0
  have dr : decide (0 < r) = true := decide_eq_true hr
  have HA := Aside0.mk ha
  clear fa fb fc s1 s2 s3 hd hc0 hr ha
  unfold rdone
  by_cases hov : (q + 1) > 1152921504606846976
  · rw [if_pos hov]
    have dv : decide (1152921504606846976 < q + 1) = true := decide_eq_true hov
    clear hov
    cases x <;> cases y <;> cases z <;> cases bl <;> first
      | exact absurd hbl (by decide)
      | (clear hbl
         go_enter Try.func19, Try.ntmps19
         go_wp2_with (first | (go_at_call 28; ((first | (with_reducible refine (contangoref01_Fits.calls a true _ FA.out).mono ?_) | (with_reducible refine (contangoref01_Fits.calls b true _ FB.out).mono ?_) | (with_reducible refine (contangoref01_Fits.calls c true _ FC.out).mono ?_)); rintro e w' ⟨rfl, ⟨nd, rfl⟩⟩)) | (go_at_call 30; ((first | (with_reducible refine (contangoref01_size.calls a _ _ S1.out).mono ?_) | (with_reducible refine (contangoref01_size.calls b _ _ S2.out).mono ?_) | (with_reducible refine (contangoref01_size.calls c _ _ S3.out).mono ?_)); rintro e w' ⟨rfl, ⟨nd, rfl⟩⟩)) | (go_at_call 29; (with_reducible refine (contangoref01_quotient.calls k _ _ _ _ _ _ HD.out).mono ?_); rintro e w' ⟨rfl, ⟨nd, rfl⟩⟩) | (go_at_call 31; (with_reducible refine (contangoref01_away.calls _ _ _ _ _ _ _ HA.out).mono ?_); rintro e w' ⟨rfl, ⟨nd, rfl⟩⟩))
         go_ret2
         exact ⟨rfl, by repeat (first | exact Drawn0.refl _ | apply Drawn0.step)⟩)
  · rw [if_neg hov]
    have dv : decide (1152921504606846976 < q + 1) = false := decide_eq_false hov
    have hov2 : (q + 1) ≤ 1152921504606846976 := by omega
    clear hov
    cases x <;> cases y <;> cases z <;> cases bl <;> first
      | exact absurd hbl (by decide)
      | (clear hbl
         go_enter Try.func19, Try.ntmps19
         go_wp2_with (first | (go_at_call 28; ((first | (with_reducible refine (contangoref01_Fits.calls a true _ FA.out).mono ?_) | (with_reducible refine (contangoref01_Fits.calls b true _ FB.out).mono ?_) | (with_reducible refine (contangoref01_Fits.calls c true _ FC.out).mono ?_)); rintro e w' ⟨rfl, ⟨nd, rfl⟩⟩)) | (go_at_call 30; ((first | (with_reducible refine (contangoref01_size.calls a _ _ S1.out).mono ?_) | (with_reducible refine (contangoref01_size.calls b _ _ S2.out).mono ?_) | (with_reducible refine (contangoref01_size.calls c _ _ S3.out).mono ?_)); rintro e w' ⟨rfl, ⟨nd, rfl⟩⟩)) | (go_at_call 29; (with_reducible refine (contangoref01_quotient.calls k _ _ _ _ _ _ HD.out).mono ?_); rintro e w' ⟨rfl, ⟨nd, rfl⟩⟩) | (go_at_call 31; (with_reducible refine (contangoref01_away.calls _ _ _ _ _ _ _ HA.out).mono ?_); rintro e w' ⟨rfl, ⟨nd, rfl⟩⟩))
         go_ret2
         exact ⟨rfl, by repeat (first | exact Drawn0.refl _ | apply Drawn0.step)⟩)
theorem contangoref01_MulDiv.calls (k : Nat) (a0 : Int) (a1 : Int) (a2 : Int) (a3 : Int) (r1 : Int) (r2 : Int) (w : World) (h : contangoref01_MulDiv.f k a0 a1 a2 a3 = some (r1, r2)) :
    Calls Try.prog 19 #[.int .i64 a0, .int .i64 a1, .int .i64 a2, .int .i64 a3] w fun e w' => e = .returned (.tuple #[.int .i64 r1, .int .i64 r2]) ∧ Drawn0 w w' := by
  unfold contangoref01_MulDiv.f at h
  obtain ⟨fa, hfa, h⟩ := Option.bind_eq_some_iff.1 h
  cases fa with
  | false =>
    rw [if_neg (by decide)] at h
    simp only [Option.some.injEq, Prod.mk.injEq] at h
    obtain ⟨rfl, rfl⟩ := h
    exact rm_args a0 a1 a2 a3 false false false w hfa (fun h => Bool.noConfusion h) (fun h => Bool.noConfusion h) (fun h => Bool.noConfusion h)
  | true =>
  rw [if_pos rfl] at h
  obtain ⟨fb, hfb, h⟩ := Option.bind_eq_some_iff.1 h
  cases fb with
  | false =>
    rw [if_neg (by decide)] at h
    simp only [Option.some.injEq, Prod.mk.injEq] at h
    obtain ⟨rfl, rfl⟩ := h
    exact rm_args a0 a1 a2 a3 true false false w hfa (fun _ => hfb) (fun _ h => Bool.noConfusion h) (fun _ h => Bool.noConfusion h)
  | true =>
  rw [if_pos rfl] at h
  obtain ⟨fc, hfc, h⟩ := Option.bind_eq_some_iff.1 h
  cases fc with
  | false =>
    rw [if_neg (by decide)] at h
    simp only [Option.some.injEq, Prod.mk.injEq] at h
    obtain ⟨rfl, rfl⟩ := h
    exact rm_args a0 a1 a2 a3 true true false w hfa (fun _ => hfb) (fun _ _ => hfc) (fun _ _ h => Bool.noConfusion h)
  | true =>
  rw [if_pos rfl] at h
  by_cases hm : a3 < 1 ∨ a3 > 5
  · rw [if_pos hm] at h
    simp only [Option.some.injEq, Prod.mk.injEq] at h
    obtain ⟨rfl, rfl⟩ := h
    exact rm_args a0 a1 a2 a3 true true true w hfa (fun _ => hfb) (fun _ _ => hfc) (fun _ _ _ => hm)
  rw [if_neg hm] at h
  by_cases hz : a2 = 0
  · rw [if_pos hz] at h
    simp only [Option.some.injEq, Prod.mk.injEq] at h
    obtain ⟨rfl, rfl⟩ := h
    subst hz
    exact rm_zero a0 a1 a3 w hfa hfb hfc (by omega) (by omega)
  rw [if_neg hz] at h
  obtain ⟨sa, hsa, h⟩ := Option.bind_eq_some_iff.1 h
  obtain ⟨sb, hsb, h⟩ := Option.bind_eq_some_iff.1 h
  obtain ⟨sc, hsc, h⟩ := Option.bind_eq_some_iff.1 h
  obtain ⟨⟨q, r⟩, hquo, h⟩ := Option.bind_eq_some_iff.1 h
  simp only at h
  by_cases hrng : 0 ≤ q ∧ q ≤ 2305843009213693952
  · rw [if_pos hrng] at h
    by_cases hr : r > 0
    · rw [if_pos hr] at h
      obtain ⟨up, hup, h⟩ := Option.bind_eq_some_iff.1 h
      have h2 := Option.some.inj h
      cases up with
      | true =>
        rw [if_pos rfl] at h2
        have := rm_more a0 a1 a2 a3 q r sc sa sb _ _ _ (rbelowB a0 a1 a2) w k hfa hfb hfc (by omega) (by omega) hz hsa hsb hsc hquo hrng.1 hrng.2 rfl rfl rfl rfl hr hup
        rw [h2] at this; exact this
      | false =>
        rw [if_neg (by decide)] at h2
        have := rm_stay a0 a1 a2 a3 q r sc sa sb _ _ _ (rbelowB a0 a1 a2) w k hfa hfb hfc (by omega) (by omega) hz hsa hsb hsc hquo hrng.1 hrng.2 rfl rfl rfl rfl hr hup
        rw [h2] at this; exact this
    · rw [if_neg hr] at h
      have h2 := Option.some.inj h
      have := rm_even a0 a1 a2 a3 q r sc sa sb _ _ _ (rbelowB a0 a1 a2) w k hfa hfb hfc (by omega) (by omega) hz hsa hsb hsc hquo hrng.1 hrng.2 rfl rfl rfl rfl hr
      rw [h2] at this; exact this
  · rw [if_neg hrng] at h; cases h

/-! ### contangoref48_Caps: function 8 -/
mutual
def contangoref48_Caps.j0 : Nat → List Int → Int → List Int → Bool → Option (List Int × Int)
  | 0, _, _, _, _ => none
  | k + 1, x0, x1, x2, x21 => if x21 = true then (some (([] : List Int), 8)) else (if x1 < 0 then (contangoref48_Caps.j1 k x0 x1 x2 true) else (contangoref48_Caps.j1 k x0 x1 x2 (decide (x1 > 10000))))
def contangoref48_Caps.j1 : Nat → List Int → Int → List Int → Bool → Option (List Int × Int)
  | 0, _, _, _, _ => none
  | k + 1, x0, x1, x2, x27 => if x27 = true then (some (([] : List Int), 2)) else (contangoref48_Caps.l0 k x0 x1 x2 ([] : List Int) 0)
def contangoref48_Caps.l0 : Nat → List Int → Int → List Int → List Int → Int → Option (List Int × Int)
  | 0, _, _, _, _, _ => none
  | k + 1, x0, x1, x2, x8, x9 => if x9 < (x0.length : Int) then (if 0 ≤ x9 then ((contangoref48_fits.f (rd x0 x9)).bind fun t104 => (if t104 = true then (if x9 < (x2.length : Int) then ((contangoref48_fits.f (rd x2 x9)).bind fun t106 => (contangoref48_Caps.j3 k x0 x1 x2 x8 x9 (!t106))) else (none)) else (contangoref48_Caps.j3 k x0 x1 x2 x8 x9 true))) else (none)) else (some (x8, 0))
def contangoref48_Caps.j3 : Nat → List Int → Int → List Int → List Int → Int → Bool → Option (List Int × Int)
  | 0, _, _, _, _, _, _ => none
  | k + 1, x0, x1, x2, x8, x9, x47 => if x47 = true then (some (([] : List Int), 2)) else (if 0 ≤ x9 then (if x9 < (x0.length : Int) then ((contangoref01_MulDiv.f k (rd x0 x9) x1 1000 3).bind fun bt108 => (if bt108.2 = 0 then (if x9 < (x2.length : Int) then (if x8.length < 17592186044416 then (contangoref48_Caps.l0 k x0 x1 x2 (x8 ++ [mx (wrap64 (bt108.1 - (rd x2 x9))) 0]) (wrap64 (x9 + 1))) else (none)) else (none)) else (some (([] : List Int), 3)))) else (none)) else (none))
end
def contangoref48_Caps.f (k : Nat) (l0 : List Int) (a1 : Int) (l2 : List Int) : Option (List Int × Int) := if (l0.length : Int) > 32 then (contangoref48_Caps.j0 k l0 a1 l2 true) else (contangoref48_Caps.j0 k l0 a1 l2 ((l2.length : Int) != (l0.length : Int)))
theorem contangoref48_Caps.mono_l : ∀ k, (∀ y0 y1 y2 y3, LeO (contangoref48_Caps.j0 k y0 y1 y2 y3) (contangoref48_Caps.j0 (k + 1) y0 y1 y2 y3)) ∧ (∀ y0 y1 y2 y3, LeO (contangoref48_Caps.j1 k y0 y1 y2 y3) (contangoref48_Caps.j1 (k + 1) y0 y1 y2 y3)) ∧ (∀ y0 y1 y2 y3 y4, LeO (contangoref48_Caps.l0 k y0 y1 y2 y3 y4) (contangoref48_Caps.l0 (k + 1) y0 y1 y2 y3 y4)) ∧ (∀ y0 y1 y2 y3 y4 y5, LeO (contangoref48_Caps.j3 k y0 y1 y2 y3 y4 y5) (contangoref48_Caps.j3 (k + 1) y0 y1 y2 y3 y4 y5))
  | 0 => ⟨fun _ _ _ _ r h => by simp [contangoref48_Caps.j0] at h, fun _ _ _ _ r h => by simp [contangoref48_Caps.j1] at h, fun _ _ _ _ _ r h => by simp [contangoref48_Caps.l0] at h, fun _ _ _ _ _ _ r h => by simp [contangoref48_Caps.j3] at h⟩
  | k + 1 => by
    obtain ⟨ih0, ih1, ih2, ih3⟩ := contangoref48_Caps.mono_l k
    refine ⟨?_, ?_, ?_, ?_⟩
    · intro y0 y1 y2 y3
      unfold contangoref48_Caps.j0
      repeat' first
      | (with_reducible exact ih0 _ _ _ _)
      | (with_reducible exact ih1 _ _ _ _)
      | (with_reducible exact ih2 _ _ _ _ _)
      | (with_reducible exact ih3 _ _ _ _ _ _)
      | (with_reducible exact contangoref01_MulDiv.mono _ _ _ _ _)
      | (with_reducible exact LeO.refl _)
      | (with_reducible exact LeO.none _)
      | (with_reducible refine LeO.ite ?_ ?_)
      | (with_reducible refine LeO.bind ?_ (fun _ => ?_))
      | exact ih0 _ _ _ _
      | exact ih1 _ _ _ _
      | exact ih2 _ _ _ _ _
      | exact ih3 _ _ _ _ _ _
      | exact contangoref01_MulDiv.mono _ _ _ _ _
      | exact LeO.none _
      | refine LeO.ite ?_ ?_
      | refine LeO.bind ?_ (fun _ => ?_)
    · intro y0 y1 y2 y3
      unfold contangoref48_Caps.j1
      repeat' first
      | (with_reducible exact ih0 _ _ _ _)
      | (with_reducible exact ih1 _ _ _ _)
      | (with_reducible exact ih2 _ _ _ _ _)
      | (with_reducible exact ih3 _ _ _ _ _ _)
      | (with_reducible exact contangoref01_MulDiv.mono _ _ _ _ _)
      | (with_reducible exact LeO.refl _)
      | (with_reducible exact LeO.none _)
      | (with_reducible refine LeO.ite ?_ ?_)
      | (with_reducible refine LeO.bind ?_ (fun _ => ?_))
      | exact ih0 _ _ _ _
      | exact ih1 _ _ _ _
      | exact ih2 _ _ _ _ _
      | exact ih3 _ _ _ _ _ _
      | exact contangoref01_MulDiv.mono _ _ _ _ _
      | exact LeO.none _
      | refine LeO.ite ?_ ?_
      | refine LeO.bind ?_ (fun _ => ?_)
    · intro y0 y1 y2 y3 y4
      unfold contangoref48_Caps.l0
      repeat' first
      | (with_reducible exact ih0 _ _ _ _)
      | (with_reducible exact ih1 _ _ _ _)
      | (with_reducible exact ih2 _ _ _ _ _)
      | (with_reducible exact ih3 _ _ _ _ _ _)
      | (with_reducible exact contangoref01_MulDiv.mono _ _ _ _ _)
      | (with_reducible exact LeO.refl _)
      | (with_reducible exact LeO.none _)
      | (with_reducible refine LeO.ite ?_ ?_)
      | (with_reducible refine LeO.bind ?_ (fun _ => ?_))
      | exact ih0 _ _ _ _
      | exact ih1 _ _ _ _
      | exact ih2 _ _ _ _ _
      | exact ih3 _ _ _ _ _ _
      | exact contangoref01_MulDiv.mono _ _ _ _ _
      | exact LeO.none _
      | refine LeO.ite ?_ ?_
      | refine LeO.bind ?_ (fun _ => ?_)
    · intro y0 y1 y2 y3 y4 y5
      unfold contangoref48_Caps.j3
      repeat' first
      | (with_reducible exact ih0 _ _ _ _)
      | (with_reducible exact ih1 _ _ _ _)
      | (with_reducible exact ih2 _ _ _ _ _)
      | (with_reducible exact ih3 _ _ _ _ _ _)
      | (with_reducible exact contangoref01_MulDiv.mono _ _ _ _ _)
      | (with_reducible exact LeO.refl _)
      | (with_reducible exact LeO.none _)
      | (with_reducible refine LeO.ite ?_ ?_)
      | (with_reducible refine LeO.bind ?_ (fun _ => ?_))
      | exact ih0 _ _ _ _
      | exact ih1 _ _ _ _
      | exact ih2 _ _ _ _ _
      | exact ih3 _ _ _ _ _ _
      | exact contangoref01_MulDiv.mono _ _ _ _ _
      | exact LeO.none _
      | refine LeO.ite ?_ ?_
      | refine LeO.bind ?_ (fun _ => ?_)
theorem contangoref48_Caps.mono : ∀ a0 a1 a2 k, LeO (contangoref48_Caps.f k a0 a1 a2) (contangoref48_Caps.f (k + 1) a0 a1 a2) := by
  intro a0 a1 a2 k
  obtain ⟨ih0, ih1, ih2, ih3⟩ := contangoref48_Caps.mono_l k
  unfold contangoref48_Caps.f
  repeat' first
      | (with_reducible exact ih0 _ _ _ _)
      | (with_reducible exact ih1 _ _ _ _)
      | (with_reducible exact ih2 _ _ _ _ _)
      | (with_reducible exact ih3 _ _ _ _ _ _)
      | (with_reducible exact contangoref01_MulDiv.mono _ _ _ _ _)
      | (with_reducible exact LeO.refl _)
      | (with_reducible exact LeO.none _)
      | (with_reducible refine LeO.ite ?_ ?_)
      | (with_reducible refine LeO.bind ?_ (fun _ => ?_))
      | exact ih0 _ _ _ _
      | exact ih1 _ _ _ _
      | exact ih2 _ _ _ _ _
      | exact ih3 _ _ _ _ _ _
      | exact contangoref01_MulDiv.mono _ _ _ _ _
      | exact LeO.none _
      | refine LeO.ite ?_ ?_
      | refine LeO.bind ?_ (fun _ => ?_)
set_option maxHeartbeats 8000000 in
set_option maxRecDepth 100000 in
theorem contangoref48_Caps.calls (k : Nat) (A0 : Option Addr) (c0 : Nat) (l0 : List Int) (a1 : Int) (A2 : Option Addr) (c2 : Nat) (l2 : List Int) (r1 : List Int) (r2 : Int) (w : World) (hr0 : Kd.C (Kd.int .i64) w A0 l0.length l0) (hc0 : l0.length ≤ c0) (hr2 : Kd.C (Kd.int .i64) w A2 l2.length l2) (hc2 : l2.length ≤ c2) (h : contangoref48_Caps.f k l0 a1 l2 = some (r1, r2)) :
    Calls Try.prog 8 #[.slice A0 l0.length c0, .int .i64 a1, .slice A2 l2.length c2] w fun e w' => ∃ v0_ : Value, e = .returned (.tuple #[v0_, .int .i64 r2]) ∧ Kd.R (Kd.int .i64) 3 w' w.heap.size (fun _ => True) v0_ r1 ∧ Below w.heap.size w w' := by
  have HR0 := Aside0.mk hr0
  have HC0 := Aside0.mk hc0
  clear hr0 hc0
  have HR2 := Aside0.mk hr2
  have HC2 := Aside0.mk hc2
  clear hr2 hc2
  have HB := Aside0.mk (Below.refl w.heap.size w)
  have H : (if (l0.length : Int) > 32 then (contangoref48_Caps.j0 k l0 a1 l2 true) else (contangoref48_Caps.j0 k l0 a1 l2 ((l2.length : Int) != (l0.length : Int)))) = some (r1, r2) := h
  clear h
  have HC4 := Aside0.mk H
  clear H
  go_enter Try.func8, Try.ntmps8
  go_upto_region 1 with (fail)
  go_cut [21] (fun v21 wc => ∃ (kq : Nat) (x21_3 : Bool), v21 = .bool x21_3 ∧ Aside0 (contangoref48_Caps.j0 kq l0 a1 l2 x21_3 = some (r1, r2)) ∧ Aside0 (kq ≤ k) ∧ Aside0 (Below w.heap.size w wc))
  case first =>
    have H := HC4.out
    clear HC4
    by_cases c5 : (l0.length : Int) > 32
    · rw [if_pos c5] at H
      have c5b0 : decide (32 < (l0.length : Int)) = true := decide_eq_true c5
      have c5b1 : decide (32 < l0.length) = true := decide_eq_true (by omega)
      clear c5
      (first | rw [c5b0] | (simp only [i64_w, i32_w]; rw [c5b0]) | skip)
      have H' := Aside0.mk H
      clear H
      go_wp2
      go_meet
      case rel => exact ⟨_, (true), (by first | rfl | (simp; done) | (simp [*]; done)), H', ⟨by first | omega | exact Nat.le_refl _⟩, ⟨by repeat (first | (with_reducible first | exact HB.out | apply below_alloc | apply pw_below_drewN | apply below_drew1) | exact HB.out)⟩⟩
    · rw [if_neg c5] at H
      have c5b0 : decide (32 < (l0.length : Int)) = false := decide_eq_false c5
      have c5b1 : decide (32 < l0.length) = false := decide_eq_false (by omega)
      clear c5
      (first | rw [c5b0] | (simp only [i64_w, i32_w]; rw [c5b0]) | skip)
      have H' := Aside0.mk H
      clear H
      go_wp2
      go_meet
      case rel => exact ⟨_, (((l2.length : Int) != (l0.length : Int))), (by first | rfl | (simp; done) | (simp [*]; done)), H', ⟨by first | omega | exact Nat.le_refl _⟩, ⟨by repeat (first | (with_reducible first | exact HB.out | apply below_alloc | apply pw_below_drewN | apply below_drew1) | exact HB.out)⟩⟩
  case rest =>
    clear HC4
    try clear c2
    try clear p2
    try clear c5
    try clear c5b0
    try clear c5b1
    obtain ⟨kq, x21_3, rfl, HA, HJ3, HB⟩ := hcut
    cases kq with
    | zero => exact absurd HA.out (by simp [contangoref48_Caps.j0])
    | succ kj3 =>
      have H := HA.out
      clear HA
      simp only [contangoref48_Caps.j0] at H
      by_cases c6 : x21_3 = true
      · subst c6
        have H1 : (some (([] : List Int), 8)) = some (r1, r2) := by rw [if_pos rfl] at H; exact H
        clear H
        have H := H1
        clear H1
        simp only [Option.some.injEq, Prod.mk.injEq] at H
        obtain ⟨rfl, rfl⟩ := H
        go_wp2
        go_ret2
        exact ⟨_, by first | rfl | (simp [errW_none, errW_some] <;> rfl) | (simp [*, errW_none, errW_some] <;> rfl), by first | exact Kd.R_nil _ _ _ _ _ | exact Kd.N_nil _ _ _ _ _ | exact Kd.V_nil _ _ _ _ _ | exact Kd.Q_nil _ _ _ _ _ | exact Kd.S_nil _ _ _ _ _, by repeat (first | (with_reducible first | exact HB.out | apply below_alloc | apply pw_below_drewN | apply below_drew1) | exact HB.out)⟩
      · replace c6 := Bool.eq_false_iff.mpr c6
        subst c6
        have H1 : (if a1 < 0 then (contangoref48_Caps.j1 kj3 l0 a1 l2 true) else (contangoref48_Caps.j1 kj3 l0 a1 l2 (decide (a1 > 10000)))) = some (r1, r2) := by rw [if_neg (show ¬ (false = true) by decide)] at H; exact H
        clear H
        have H := H1
        clear H1
        have HC7 := Aside0.mk H
        clear H
        go_upto_region 3 with (fail)
        go_cut [27] (fun v27 wc => ∃ (kq : Nat) (x27_6 : Bool), v27 = .bool x27_6 ∧ Aside0 (contangoref48_Caps.j1 kq l0 a1 l2 x27_6 = some (r1, r2)) ∧ Aside0 (kq ≤ kj3) ∧ Aside0 (Below w.heap.size w wc))
        case first =>
          have H := HC7.out
          clear HC7
          by_cases c8 : a1 < 0
          · rw [if_pos c8] at H
            have c8b0 : decide (a1 < 0) = true := decide_eq_true c8
            clear c8
            (first | rw [c8b0] | (simp only [i64_w, i32_w]; rw [c8b0]) | skip)
            have H' := Aside0.mk H
            clear H
            go_wp2
            go_meet
            case rel => exact ⟨_, (true), (by first | rfl | (simp; done) | (simp [*]; done)), H', ⟨by have := HJ3.out; first | omega | exact Nat.le_refl _⟩, ⟨by repeat (first | (with_reducible first | exact HB.out | apply below_alloc | apply pw_below_drewN | apply below_drew1) | exact HB.out)⟩⟩
          · rw [if_neg c8] at H
            have c8b0 : decide (a1 < 0) = false := decide_eq_false c8
            clear c8
            (first | rw [c8b0] | (simp only [i64_w, i32_w]; rw [c8b0]) | skip)
            have H' := Aside0.mk H
            clear H
            go_wp2
            go_meet
            case rel => exact ⟨_, (decide (a1 > 10000)), (by first | rfl | (simp; done) | (simp [*]; done)), H', ⟨by have := HJ3.out; first | omega | exact Nat.le_refl _⟩, ⟨by repeat (first | (with_reducible first | exact HB.out | apply below_alloc | apply pw_below_drewN | apply below_drew1) | exact HB.out)⟩⟩
        case rest =>
          clear HC7
          try clear c2
          try clear p2
          try clear c5
          try clear c5b0
          try clear c5b1
          try clear c6
          try clear c8
          try clear c8b0
          try clear p2
          obtain ⟨kq, x27_6, rfl, HA, HJ6, HB⟩ := hcut
          cases kq with
          | zero => exact absurd HA.out (by simp [contangoref48_Caps.j1])
          | succ kj6 =>
            have H := HA.out
            clear HA
            simp only [contangoref48_Caps.j1] at H
            by_cases c9 : x27_6 = true
            · subst c9
              have H1 : (some (([] : List Int), 2)) = some (r1, r2) := by rw [if_pos rfl] at H; exact H
              clear H
              have H := H1
              clear H1
              simp only [Option.some.injEq, Prod.mk.injEq] at H
              obtain ⟨rfl, rfl⟩ := H
              go_wp2
              go_ret2
              exact ⟨_, by first | rfl | (simp [errW_none, errW_some] <;> rfl) | (simp [*, errW_none, errW_some] <;> rfl), by first | exact Kd.R_nil _ _ _ _ _ | exact Kd.N_nil _ _ _ _ _ | exact Kd.V_nil _ _ _ _ _ | exact Kd.Q_nil _ _ _ _ _ | exact Kd.S_nil _ _ _ _ _, by repeat (first | (with_reducible first | exact HB.out | apply below_alloc | apply pw_below_drewN | apply below_drew1) | exact HB.out)⟩
            · replace c9 := Bool.eq_false_iff.mpr c9
              subst c9
              have H1 : (contangoref48_Caps.l0 kj6 l0 a1 l2 ([] : List Int) 0) = some (r1, r2) := by rw [if_neg (show ¬ (false = true) by decide)] at H; exact H
              clear H
              have H := H1
              clear H1
              have H' := Aside0.mk H
              clear H
              go_wp2
              go_loopg [8, 9] kj6 (fun kq v8 v9 w' => ∃ (x8_3 : List Int) (x9_3 : Int), v9 = .int .i64 x9_3 ∧ Aside0 (contangoref48_Caps.l0 kq l0 a1 l2 x8_3 x9_3 = some (r1, r2)) ∧ Aside0 (kq ≤ kj6) ∧ Aside0 (Kd.R (Kd.int .i64) 3 w' w.heap.size (fun _ => True) v8 x8_3) ∧ Aside0 (Below w.heap.size w w'))
              case atStart => exact ⟨(([] : List Int)), (0), (by first | rfl | (simp; done) | (simp [*]; done)), H', ⟨Nat.le_refl _⟩, ⟨by first | exact Kd.R_nil _ _ _ _ _ | exact Kd.N_nil _ _ _ _ _ | exact Kd.V_nil _ _ _ _ _ | exact Kd.Q_nil _ _ _ _ _ | exact Kd.S_nil _ _ _ _ _⟩, ⟨by repeat (first | (with_reducible first | exact HB.out | apply below_alloc | apply pw_below_drewN | apply below_drew1) | exact HB.out)⟩⟩
              case round =>
                clear H'
                try clear c2
                try clear p2
                try clear c5
                try clear c5b0
                try clear c5b1
                try clear c6
                try clear c8
                try clear c8b0
                try clear c9
                try clear p2
                obtain ⟨x8_3, x9_3, rfl, HA, HK3, HO_8, HB⟩ := hrel
                cases gk with
                | zero => exact absurd HA.out (by simp [contangoref48_Caps.l0])
                | succ k3 =>
                  have H := HA.out
                  clear HA
                  simp only [contangoref48_Caps.l0] at H
                  by_cases c10 : x9_3 < (l0.length : Int)
                  · rw [if_pos c10] at H
                    have c10b0 : decide (x9_3 < (l0.length : Int)) = true := decide_eq_true c10
                    clear c10
                    have HC11 := Aside0.mk H
                    clear H
                    go_upto_region 9 with (fail)
                    go_cut [47] (fun v47 wc => ∃ (kq : Nat) (x47_10 : Bool), v47 = .bool x47_10 ∧ Aside0 (contangoref48_Caps.j3 kq l0 a1 l2 x8_3 x9_3 x47_10 = some (r1, r2)) ∧ Aside0 (kq ≤ k3) ∧ Aside0 (Kd.R (Kd.int .i64) 3 wc w.heap.size (fun _ => True) u8 x8_3) ∧ Aside0 (Below w.heap.size w wc))
                    case first =>
                      have H := HC11.out
                      clear HC11
                      by_cases c12 : 0 ≤ x9_3
                      · rw [if_pos c12] at H
                        have c12b0 : decide (0 ≤ x9_3) = true := decide_eq_true c12
                        clear c12
                        (first | rw [c12b0] | (simp only [i64_w, i32_w]; rw [c12b0]) | skip)
                        replace H := Option.bind_eq_some_iff.mp H
                        obtain ⟨t104, A130, H⟩ := H
                        replace H : (if t104 = true then (if x9_3 < (l2.length : Int) then ((contangoref48_fits.f (rd l2 x9_3)).bind fun t106 => (contangoref48_Caps.j3 k3 l0 a1 l2 x8_3 x9_3 (!t106))) else (none)) else (contangoref48_Caps.j3 k3 l0 a1 l2 x8_3 x9_3 true)) = some (r1, r2) := H
                        have A13 := Aside0.mk A130
                        clear A130
                        by_cases c14 : t104 = true
                        · subst c14
                          have H1 : (if x9_3 < (l2.length : Int) then ((contangoref48_fits.f (rd l2 x9_3)).bind fun t106 => (contangoref48_Caps.j3 k3 l0 a1 l2 x8_3 x9_3 (!t106))) else (none)) = some (r1, r2) := by rw [if_pos rfl] at H; exact H
                          clear H
                          have H := H1
                          clear H1
                          by_cases c15 : x9_3 < (l2.length : Int)
                          · rw [if_pos c15] at H
                            have c15b0 : decide (x9_3 < (l2.length : Int)) = true := decide_eq_true c15
                            clear c15
                            replace H := Option.bind_eq_some_iff.mp H
                            obtain ⟨t106, A160, H⟩ := H
                            replace H : (contangoref48_Caps.j3 k3 l0 a1 l2 x8_3 x9_3 (!t106)) = some (r1, r2) := H
                            have A16 := Aside0.mk A160
                            clear A160
                            have H' := Aside0.mk H
                            clear H
                            have p103 : 0 ≤ (x9_3 : Int) := of_decide_eq_true (by first | (with_reducible assumption) | assumption)
                            have q103 : x9_3 < (l0.length : Int) := of_decide_eq_true (by first | (with_reducible assumption) | assumption)
                            obtain ⟨ad103, e103, hx103_0⟩ := Kd.at_int HR0.out x9_3 p103 q103
                            cases e103
                            replace hx103_0 := (HB.out.cell (World.block_lt_of_cell? w _ hx103_0)).trans hx103_0
                            replace p103 := eq_true p103
                            replace q103 := eq_true q103
                            go_wp2_with (first | ((with_reducible refine gate_callee (f := 18) rfl ?_); refine goesL_ (some 38) rfl rfl Try.func18 (by kernel_rfl) rfl #[.int .i64 (rd l0 x9_3)] rfl (by (try simp only [List.map_toArray, List.map_cons, List.map_nil]); first | done | rfl | (simp only [List.length_drop, List.length_take]; rfl)) ?_; (with_reducible refine (contangoref48_fits.calls (rd l0 x9_3) true _ A13.out).mono ?_); rintro e w' ⟨rfl, ⟨nd, rfl⟩⟩; refine ⟨_, rfl, ?_⟩; have p105 : 0 ≤ (x9_3 : Int) := of_decide_eq_true (by first | (with_reducible assumption) | assumption); have q105 : x9_3 < (l2.length : Int) := of_decide_eq_true (by first | (with_reducible assumption) | assumption); obtain ⟨ad105, e105, hx105_0⟩ := Kd.at_int HR2.out x9_3 p105 q105; cases e105; replace hx105_0 := (HB.out.cell (World.block_lt_of_cell? w _ hx105_0)).trans hx105_0; replace p105 := eq_true p105; replace q105 := eq_true q105) | (go_at_call 18; (with_reducible refine (contangoref48_fits.calls (rd l2 x9_3) t106 _ A16.out).mono ?_); rintro e w' ⟨rfl, ⟨nd, rfl⟩⟩))
                            go_meet
                            case rel => exact ⟨_, (!t106), (by first | rfl | (simp; done) | (simp [*]; done)), H', ⟨by have := HJ3.out; have := HJ6.out; have := HK3.out; first | omega | exact Nat.le_refl _⟩, ⟨by (with_reducible repeat (first | apply Kd.R_alloc | apply Kd.R_drewN | apply Kd.R_drew)); exact HO_8.out⟩, ⟨by repeat (first | (with_reducible first | exact HB.out | apply below_alloc | apply pw_below_drewN | apply below_drew1) | exact HB.out)⟩⟩
                          · rw [if_neg c15] at H
                            exact absurd H (by simp)
                        · replace c14 := Bool.eq_false_iff.mpr c14
                          subst c14
                          have H1 : (contangoref48_Caps.j3 k3 l0 a1 l2 x8_3 x9_3 true) = some (r1, r2) := by rw [if_neg (show ¬ (false = true) by decide)] at H; exact H
                          clear H
                          have H := H1
                          clear H1
                          have H' := Aside0.mk H
                          clear H
                          have p103 : 0 ≤ (x9_3 : Int) := of_decide_eq_true (by first | (with_reducible assumption) | assumption)
                          have q103 : x9_3 < (l0.length : Int) := of_decide_eq_true (by first | (with_reducible assumption) | assumption)
                          obtain ⟨ad103, e103, hx103_0⟩ := Kd.at_int HR0.out x9_3 p103 q103
                          cases e103
                          replace hx103_0 := (HB.out.cell (World.block_lt_of_cell? w _ hx103_0)).trans hx103_0
                          replace p103 := eq_true p103
                          replace q103 := eq_true q103
                          go_wp2_with (first | ((with_reducible refine gate_callee (f := 18) rfl ?_); refine goesL_ (some 38) rfl rfl Try.func18 (by kernel_rfl) rfl #[.int .i64 (rd l0 x9_3)] rfl (by (try simp only [List.map_toArray, List.map_cons, List.map_nil]); first | done | rfl | (simp only [List.length_drop, List.length_take]; rfl)) ?_; (with_reducible refine (contangoref48_fits.calls (rd l0 x9_3) false _ A13.out).mono ?_); rintro e w' ⟨rfl, ⟨nd, rfl⟩⟩; refine ⟨_, rfl, ?_⟩))
                          go_meet
                          case rel => exact ⟨_, (true), (by first | rfl | (simp; done) | (simp [*]; done)), H', ⟨by have := HJ3.out; have := HJ6.out; have := HK3.out; first | omega | exact Nat.le_refl _⟩, ⟨by (with_reducible repeat (first | apply Kd.R_alloc | apply Kd.R_drewN | apply Kd.R_drew)); exact HO_8.out⟩, ⟨by repeat (first | (with_reducible first | exact HB.out | apply below_alloc | apply pw_below_drewN | apply below_drew1) | exact HB.out)⟩⟩
                      · rw [if_neg c12] at H
                        exact absurd H (by simp)
                    case rest =>
                      clear HC11
                      try clear c1
                      try clear p1
                      try clear q1
                      try clear hx1
                      try clear c2
                      try clear p2
                      try clear c5
                      try clear c5b0
                      try clear c5b1
                      try clear c6
                      try clear c8
                      try clear c8b0
                      try clear c9
                      try clear c10
                      try clear c10b0
                      try clear p10
                      try clear q10
                      try clear hx10
                      try clear c12
                      try clear c12b0
                      try clear c14
                      try clear c15
                      try clear c15b0
                      try clear hx103_0
                      try clear hx105_0
                      try clear p103
                      try clear p105
                      try clear p2
                      try clear q103
                      try clear q105
                      obtain ⟨kq, x47_10, rfl, HA, HJ10, HO_8, HB⟩ := hcut
                      cases kq with
                      | zero => exact absurd HA.out (by simp [contangoref48_Caps.j3])
                      | succ kj10 =>
                        have H := HA.out
                        clear HA
                        simp only [contangoref48_Caps.j3] at H
                        by_cases c17 : x47_10 = true
                        · subst c17
                          have H1 : (some (([] : List Int), 2)) = some (r1, r2) := by rw [if_pos rfl] at H; exact H
                          clear H
                          have H := H1
                          clear H1
                          simp only [Option.some.injEq, Prod.mk.injEq] at H
                          obtain ⟨rfl, rfl⟩ := H
                          go_wp2
                          go_ret2
                          exact ⟨_, by first | rfl | (simp [errW_none, errW_some] <;> rfl) | (simp [*, errW_none, errW_some] <;> rfl), by first | exact Kd.R_nil _ _ _ _ _ | exact Kd.N_nil _ _ _ _ _ | exact Kd.V_nil _ _ _ _ _ | exact Kd.Q_nil _ _ _ _ _ | exact Kd.S_nil _ _ _ _ _, by repeat (first | (with_reducible first | exact HB.out | apply below_alloc | apply pw_below_drewN | apply below_drew1) | exact HB.out)⟩
                        · replace c17 := Bool.eq_false_iff.mpr c17
                          subst c17
                          have H1 : (if 0 ≤ x9_3 then (if x9_3 < (l0.length : Int) then ((contangoref01_MulDiv.f kj10 (rd l0 x9_3) a1 1000 3).bind fun bt108 => (if bt108.2 = 0 then (if x9_3 < (l2.length : Int) then (if x8_3.length < 17592186044416 then (contangoref48_Caps.l0 kj10 l0 a1 l2 (x8_3 ++ [mx (wrap64 (bt108.1 - (rd l2 x9_3))) 0]) (wrap64 (x9_3 + 1))) else (none)) else (none)) else (some (([] : List Int), 3)))) else (none)) else (none)) = some (r1, r2) := by rw [if_neg (show ¬ (false = true) by decide)] at H; exact H
                          clear H
                          have H := H1
                          clear H1
                          by_cases c18 : 0 ≤ x9_3
                          · rw [if_pos c18] at H
                            have c18b0 : decide (0 ≤ x9_3) = true := decide_eq_true c18
                            clear c18
                            by_cases c19 : x9_3 < (l0.length : Int)
                            · rw [if_pos c19] at H
                              have c19b0 : decide (x9_3 < (l0.length : Int)) = true := decide_eq_true c19
                              clear c19
                              replace H := Option.bind_eq_some_iff.mp H
                              obtain ⟨⟨t108, t109⟩, A200, H⟩ := H
                              replace H : (if t109 = 0 then (if x9_3 < (l2.length : Int) then (if x8_3.length < 17592186044416 then (contangoref48_Caps.l0 kj10 l0 a1 l2 (x8_3 ++ [mx (wrap64 (t108 - (rd l2 x9_3))) 0]) (wrap64 (x9_3 + 1))) else (none)) else (none)) else (some (([] : List Int), 3))) = some (r1, r2) := H
                              have A20 := Aside0.mk A200
                              clear A200
                              by_cases c21 : t109 = 0
                              · rw [if_pos c21] at H
                                have c21b0 : (t109 == 0) = true := beq_iff_eq.mpr c21
                                have c21b1 : (t109 != 0) = false := bne_eq_false_iff_eq.mpr c21
                                clear c21
                                by_cases c22 : x9_3 < (l2.length : Int)
                                · rw [if_pos c22] at H
                                  have c22b0 : decide (x9_3 < (l2.length : Int)) = true := decide_eq_true c22
                                  clear c22
                                  obtain ⟨ji23, hji23⟩ : ∃ j_ : Int, (mx (wrap64 (t108 - (rd l2 x9_3))) 0) = j_ := ⟨_, rfl⟩
                                  replace H : (if x8_3.length < 17592186044416 then (contangoref48_Caps.l0 kj10 l0 a1 l2 (x8_3 ++ [ji23]) (wrap64 (x9_3 + 1))) else (none)) = some (r1, r2) := by first | (rw [hji23] at H; exact H) | (simp only [hji23] at H ⊢; exact H)
                                  (try rw [hji23] at A20)
                                  have hji23_ : (if (wrap64 (t108 - (rd l2 x9_3))) < 0 then 0 else (wrap64 (t108 - (rd l2 x9_3)))) = ji23 := hji23
                                  by_cases c24 : x8_3.length < 17592186044416
                                  · rw [if_pos c24] at H
                                    have LMc24 := Aside0.mk c24
                                    clear c24
                                    obtain ⟨y111, hy111⟩ : ∃ y_ : List Int, y_ = (x8_3 ++ [ji23]) := ⟨_, rfl⟩
                                    replace H : (contangoref48_Caps.l0 kj10 l0 a1 l2 y111 (wrap64 (x9_3 + 1))) = some (r1, r2) := by first | (rw [hy111]; with_reducible exact H) | (have H2_ := (Option.bind_some _ _).symm.trans H; rw [hy111]; with_reducible exact H2_) | (have H2_ := (Option.bind_some _ _).symm.trans H; with_reducible exact H2_) | with_reducible exact H | (rw [hy111]; exact H) | exact H
                                    have Ny111 := Aside0.mk hy111
                                    clear hy111
                                    have H' := Aside0.mk H
                                    clear H
                                    have p107 : 0 ≤ (x9_3 : Int) := of_decide_eq_true (by first | (with_reducible assumption) | assumption)
                                    have q107 : x9_3 < (l0.length : Int) := of_decide_eq_true (by first | (with_reducible assumption) | assumption)
                                    obtain ⟨ad107, e107, hx107_0⟩ := Kd.at_int HR0.out x9_3 p107 q107
                                    cases e107
                                    replace hx107_0 := (HB.out.cell (World.block_lt_of_cell? w _ hx107_0)).trans hx107_0
                                    replace p107 := eq_true p107
                                    replace q107 := eq_true q107
                                    go_wp2_with (first | ((with_reducible refine gate_callee (f := 19) rfl ?_); refine goesL_ (some 54) rfl rfl Try.func19 (by kernel_rfl) rfl #[.int .i64 (rd l0 x9_3), .int .i64 a1, .int .i64 1000, .int .i64 3] rfl (by (try simp only [List.map_toArray, List.map_cons, List.map_nil]); first | done | rfl | (simp only [List.length_drop, List.length_take]; rfl)) ?_; (with_reducible refine (contangoref01_MulDiv.calls kj10 (rd l0 x9_3) a1 1000 3 t108 t109 _ A20.out).mono ?_); rintro e w' ⟨rfl, ⟨nd, rfl⟩⟩; refine ⟨_, rfl, ?_⟩; have p110 : 0 ≤ (x9_3 : Int) := of_decide_eq_true (by first | (with_reducible assumption) | assumption); have q110 : x9_3 < (l2.length : Int) := of_decide_eq_true (by first | (with_reducible assumption) | assumption); obtain ⟨ad110, e110, hx110_0⟩ := Kd.at_int HR2.out x9_3 p110 q110; cases e110; replace hx110_0 := (HB.out.cell (World.block_lt_of_cell? w _ hx110_0)).trans hx110_0; replace p110 := eq_true p110; replace q110 := eq_true q110) | ((with_reducible refine gate_builtin (b := .append) (xs := #[.tmp 59, .tmp 67]) rfl ?_); (try (refine gate_guard (by rfl) ?_; dsimp only)); at_builtin; refine Kd.R_append (Kd.int .i64) (w0 := w) w.heap.size rfl (.tmp 59) (.tmp 67) 22 3 (.int .i64 0) 8 rfl Try.underlying22 info3 rfl (by decide) (by omega) u8 x8_3 ji23 [.int .i64 ji23] (fun _ => True) (fun _ => False) rfl rfl ?aP (fun _ hk => hk.elim) ?aF ?aO ?aB ?aS ?aL ?_; (case aP => exact rfl); (case aB => exact (by repeat (first | (with_reducible first | exact HB.out | apply below_alloc | apply pw_below_drewN | apply below_drew1) | exact HB.out))); (case aF => exact (fun _ _ => trivial)); (case aO => exact (by (with_reducible repeat (first | apply Kd.R_alloc | apply Kd.R_drewN | apply Kd.R_drew)); exact HO_8.out)); (case aS => exact (below_size (by repeat (first | (with_reducible first | exact HB.out | apply below_alloc | apply pw_below_drewN | apply below_drew1) | exact HB.out)))); (case aL => have := LMc24.out; omega); intro v112 w25 ho hb hg hat; rw [← Ny111.out] at ho; have n0_ := Aside0.mk (hb); have n1_ := Aside0.mk (ho); clear HB; clear HO_8; have HB := n0_; have HO113 := n1_; clear n0_ n1_; clear ho hb hg hat))
                                    go_roundg kj10
                                    case measure => have := HJ3.out; have := HJ6.out; have := HK3.out; have := HJ10.out; omega
                                    case rel => exact ⟨(y111), (wrap64 (x9_3 + 1)), (by first | rfl | (simp; done) | (simp [*]; done)), H', ⟨by have := HJ3.out; have := HJ6.out; have := HK3.out; have := HJ10.out; omega⟩, ⟨by (with_reducible repeat (first | apply Kd.R_alloc | apply Kd.R_drewN | apply Kd.R_drew)); exact HO113.out⟩, ⟨by repeat (first | (with_reducible first | exact HB.out | apply below_alloc | apply pw_below_drewN | apply below_drew1) | exact HB.out)⟩⟩
                                  · rw [if_neg c24] at H
                                    exact absurd H (by simp)
                                · rw [if_neg c22] at H
                                  exact absurd H (by simp)
                              · rw [if_neg c21] at H
                                have c21b0 : (t109 == 0) = false := beq_eq_false_iff_ne.mpr c21
                                have c21b1 : (t109 != 0) = true := bne_iff_ne.mpr c21
                                simp only [Option.some.injEq, Prod.mk.injEq] at H
                                obtain ⟨rfl, rfl⟩ := H
                                have p107 : 0 ≤ (x9_3 : Int) := of_decide_eq_true (by first | (with_reducible assumption) | assumption)
                                have q107 : x9_3 < (l0.length : Int) := of_decide_eq_true (by first | (with_reducible assumption) | assumption)
                                obtain ⟨ad107, e107, hx107_0⟩ := Kd.at_int HR0.out x9_3 p107 q107
                                cases e107
                                replace hx107_0 := (HB.out.cell (World.block_lt_of_cell? w _ hx107_0)).trans hx107_0
                                replace p107 := eq_true p107
                                replace q107 := eq_true q107
                                go_wp2_with (first | ((with_reducible refine gate_callee (f := 19) rfl ?_); refine goesL_ (some 54) rfl rfl Try.func19 (by kernel_rfl) rfl #[.int .i64 (rd l0 x9_3), .int .i64 a1, .int .i64 1000, .int .i64 3] rfl (by (try simp only [List.map_toArray, List.map_cons, List.map_nil]); first | done | rfl | (simp only [List.length_drop, List.length_take]; rfl)) ?_; (with_reducible refine (contangoref01_MulDiv.calls kj10 (rd l0 x9_3) a1 1000 3 t108 t109 _ A20.out).mono ?_); rintro e w' ⟨rfl, ⟨nd, rfl⟩⟩; refine ⟨_, rfl, ?_⟩))
                                go_ret2
                                exact ⟨_, by first | rfl | (simp [errW_none, errW_some] <;> rfl) | (simp [*, errW_none, errW_some] <;> rfl), by first | exact Kd.R_nil _ _ _ _ _ | exact Kd.N_nil _ _ _ _ _ | exact Kd.V_nil _ _ _ _ _ | exact Kd.Q_nil _ _ _ _ _ | exact Kd.S_nil _ _ _ _ _, by repeat (first | (with_reducible first | exact HB.out | apply below_alloc | apply pw_below_drewN | apply below_drew1) | exact HB.out)⟩
                            · rw [if_neg c19] at H
                              exact absurd H (by simp)
                          · rw [if_neg c18] at H
                            exact absurd H (by simp)
                  · rw [if_neg c10] at H
                    have c10b0 : decide (x9_3 < (l0.length : Int)) = false := decide_eq_false c10
                    clear c10
                    simp only [Option.some.injEq, Prod.mk.injEq] at H
                    obtain ⟨rfl, rfl⟩ := H
                    go_wp2
                    go_ret2
                    exact ⟨_, by first | rfl | (simp [errW_none, errW_some] <;> rfl) | (simp [*, errW_none, errW_some] <;> rfl), by (with_reducible repeat (first | apply Kd.R_alloc | apply Kd.R_drewN | apply Kd.R_drew)); exact HO_8.out, by repeat (first | (with_reducible first | exact HB.out | apply below_alloc | apply pw_below_drewN | apply below_drew1) | exact HB.out)⟩

end Go.Proofs.Ytdapmcfggcioaaa.PAssessCaps
