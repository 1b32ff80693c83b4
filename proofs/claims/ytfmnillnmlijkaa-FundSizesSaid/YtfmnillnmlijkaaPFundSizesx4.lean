/- Laid for this claim by a program of this session's (wip/mkprint.py, wip/ext.py); not trusted: Lean checks it. -/
import Derived.Test.YtfmnillnmlijkaaPFundSizesx0
import Derived.Test.YtfmnillnmlijkaaPFundSizesx3
namespace Go.Proofs.Ytfmnillnmlijkaa.PFundSizes
open Go.RowKit Go.Proofs.YtfmnillnmlijkaaW.PrintWords Go.Proofs.YtfmnillnmlijkaaW.PrintLast Go.Proofs.YtfmnillnmlijkaaW.PrintMore
attribute [local go_sem] max2_int min2_int max_two min_two max_three min_three max_four min_four   -- for this text's walks alone
set_option linter.unusedVariables false
set_option linter.unusedSimpArgs false

/-! ### contangoref01_size: function 43 -/
def contangoref01_size.f (a0 : Int) : Option (Int) := if a0 < 0 then (some (wrap64 (-a0))) else (some a0)
set_option maxHeartbeats 8000000 in
set_option maxRecDepth 100000 in
theorem contangoref01_size.calls (a0 : Int) (r : Int) (w : World) (h : contangoref01_size.f a0 = some r) :
    Calls Try.prog 43 #[.int .i64 a0] w fun e w' => e = .returned (.int .i64 r) ∧ Drawn0 w w' := by
  have H : (if a0 < 0 then (some (wrap64 (-a0))) else (some a0)) = some r := h
  clear h
  by_cases c2 : a0 < 0
  · rw [if_pos c2] at H
    have c2b0 : decide (a0 < 0) = true := decide_eq_true c2
    clear c2
    obtain rfl := Option.some.inj H
    go_enter Try.func43, Try.ntmps43
    go_wp2
    go_ret
    exact ⟨by first | rfl | (simp; done) | (simp [*]; done), by repeat (first | exact Drawn0.refl _ | apply Drawn0.step)⟩
  · rw [if_neg c2] at H
    have c2b0 : decide (a0 < 0) = false := decide_eq_false c2
    clear c2
    obtain rfl := Option.some.inj H
    go_enter Try.func43, Try.ntmps43
    go_wp2
    go_ret
    exact ⟨by first | rfl | (simp; done) | (simp [*]; done), by repeat (first | exact Drawn0.refl _ | apply Drawn0.step)⟩

/-! ### contangoref01_away: function 44 -/
def contangoref01_away.f (a0 : Int) (a1 : Int) (a2 : Int) (a3 : Int) (a4 : Bool) : Option (Bool) := if a3 = 2 then (some true) else (if a3 = 3 then (some a4) else (if a3 = 4 then (some (!a4)) else (if a3 = 5 then (if a1 > (wrap64 (a2 - a1)) then (some true) else (if a1 = (wrap64 (a2 - a1)) then (some ((Int.tmod a0 2) == 1)) else (some false))) else (some false))))
set_option maxHeartbeats 8000000 in
set_option maxRecDepth 100000 in
theorem contangoref01_away.calls (a0 : Int) (a1 : Int) (a2 : Int) (a3 : Int) (a4 : Bool) (r : Bool) (w : World) (h : contangoref01_away.f a0 a1 a2 a3 a4 = some r) :
    Calls Try.prog 44 #[.int .i64 a0, .int .i64 a1, .int .i64 a2, .int .i64 a3, .bool a4] w fun e w' => e = .returned (.bool r) ∧ Drawn0 w w' := by
  have H : (if a3 = 2 then (some true) else (if a3 = 3 then (some a4) else (if a3 = 4 then (some (!a4)) else (if a3 = 5 then (if a1 > (wrap64 (a2 - a1)) then (some true) else (if a1 = (wrap64 (a2 - a1)) then (some ((Int.tmod a0 2) == 1)) else (some false))) else (some false))))) = some r := h
  clear h
  by_cases c6 : a3 = 2
  · rw [if_pos c6] at H
    have c6b0 : (a3 == 2) = true := beq_iff_eq.mpr c6
    have c6b1 : (a3 != 2) = false := bne_eq_false_iff_eq.mpr c6
    clear c6
    obtain rfl := Option.some.inj H
    go_enter Try.func44, Try.ntmps44
    go_wp2
    go_ret
    exact ⟨by first | rfl | (simp; done) | (simp [*]; done), by repeat (first | exact Drawn0.refl _ | apply Drawn0.step)⟩
  · rw [if_neg c6] at H
    have c6b0 : (a3 == 2) = false := beq_eq_false_iff_ne.mpr c6
    have c6b1 : (a3 != 2) = true := bne_iff_ne.mpr c6
    by_cases c7 : a3 = 3
    · rw [if_pos c7] at H
      have c7b0 : (a3 == 3) = true := beq_iff_eq.mpr c7
      have c7b1 : (a3 != 3) = false := bne_eq_false_iff_eq.mpr c7
      clear c7
      obtain rfl := Option.some.inj H
      go_enter Try.func44, Try.ntmps44
      go_wp2
      go_ret
      exact ⟨by first | rfl | (simp; done) | (simp [*]; done), by repeat (first | exact Drawn0.refl _ | apply Drawn0.step)⟩
    · rw [if_neg c7] at H
      have c7b0 : (a3 == 3) = false := beq_eq_false_iff_ne.mpr c7
      have c7b1 : (a3 != 3) = true := bne_iff_ne.mpr c7
      by_cases c8 : a3 = 4
      · rw [if_pos c8] at H
        have c8b0 : (a3 == 4) = true := beq_iff_eq.mpr c8
        have c8b1 : (a3 != 4) = false := bne_eq_false_iff_eq.mpr c8
        clear c8
        obtain rfl := Option.some.inj H
        go_enter Try.func44, Try.ntmps44
        go_wp2
        go_ret
        exact ⟨by first | rfl | (simp; done) | (simp [*]; done), by repeat (first | exact Drawn0.refl _ | apply Drawn0.step)⟩
      · rw [if_neg c8] at H
        have c8b0 : (a3 == 4) = false := beq_eq_false_iff_ne.mpr c8
        have c8b1 : (a3 != 4) = true := bne_iff_ne.mpr c8
        by_cases c9 : a3 = 5
        · rw [if_pos c9] at H
          have c9b0 : (a3 == 5) = true := beq_iff_eq.mpr c9
          have c9b1 : (a3 != 5) = false := bne_eq_false_iff_eq.mpr c9
          clear c9
          by_cases c10 : a1 > (wrap64 (a2 - a1))
          · rw [if_pos c10] at H
            have c10b0 : decide ((wrap64 (a2 - a1)) < a1) = true := decide_eq_true c10
            clear c10
            obtain rfl := Option.some.inj H
            go_enter Try.func44, Try.ntmps44
            go_wp2
            go_ret
            exact ⟨by first | rfl | (simp; done) | (simp [*]; done), by repeat (first | exact Drawn0.refl _ | apply Drawn0.step)⟩
          · rw [if_neg c10] at H
            have c10b0 : decide ((wrap64 (a2 - a1)) < a1) = false := decide_eq_false c10
            clear c10
            by_cases c11 : a1 = (wrap64 (a2 - a1))
            · rw [if_pos c11] at H
              have c11b0 : (a1 == (wrap64 (a2 - a1))) = true := beq_iff_eq.mpr c11
              have c11b1 : (a1 != (wrap64 (a2 - a1))) = false := bne_eq_false_iff_eq.mpr c11
              clear c11
              obtain rfl := Option.some.inj H
              go_enter Try.func44, Try.ntmps44
              go_wp2
              go_ret
              exact ⟨by first | rfl | (simp; done) | (simp [*]; done), by repeat (first | exact Drawn0.refl _ | apply Drawn0.step)⟩
            · rw [if_neg c11] at H
              have c11b0 : (a1 == (wrap64 (a2 - a1))) = false := beq_eq_false_iff_ne.mpr c11
              have c11b1 : (a1 != (wrap64 (a2 - a1))) = true := bne_iff_ne.mpr c11
              obtain rfl := Option.some.inj H
              go_enter Try.func44, Try.ntmps44
              go_wp2
              go_ret
              exact ⟨by first | rfl | (simp; done) | (simp [*]; done), by repeat (first | exact Drawn0.refl _ | apply Drawn0.step)⟩
        · rw [if_neg c9] at H
          have c9b0 : (a3 == 5) = false := beq_eq_false_iff_ne.mpr c9
          have c9b1 : (a3 != 5) = true := bne_iff_ne.mpr c9
          obtain rfl := Option.some.inj H
          go_enter Try.func44, Try.ntmps44
          go_wp2
          go_ret
          exact ⟨by first | rfl | (simp; done) | (simp [*]; done), by repeat (first | exact Drawn0.refl _ | apply Drawn0.step)⟩

/-! ### contangoref01_MulDiv: function 23 -/
def rbelowB (a b c : Int) : Bool := !(!(decide (a < 0) == decide (b < 0)) == decide (c < 0))
def rdone (q : Int) (bl : Bool) : Int × Int := if q > 1152921504606846976 then (0, 3) else if bl = true then (-q, 0) else (q, 0)
def contangoref01_MulDiv.f (k : Nat) (a0 : Int) (a1 : Int) (a2 : Int) (a3 : Int) : Option (Int × Int) :=
  (contangoref01_Fits.f a0).bind fun fa => if fa = true then (contangoref01_Fits.f a1).bind fun fb => if fb = true then (contangoref01_Fits.f a2).bind fun fc => if fc = true then
    (if a3 < 1 ∨ a3 > 5 then some (0, 2) else if a2 = 0 then some (0, 4) else
      (contangoref01_size.f a0).bind fun sa => (contangoref01_size.f a1).bind fun sb => (contangoref01_size.f a2).bind fun sc => (contangoref01_quotient.f k sa sb sc).bind fun qr =>
        if 0 ≤ qr.1 ∧ qr.1 ≤ 2305843009213693952 then
          (if qr.2 > 0 then (contangoref01_away.f qr.1 qr.2 sc a3 (rbelowB a0 a1 a2)).bind fun up => some (rdone (if up = true then qr.1 + 1 else qr.1) (rbelowB a0 a1 a2))
           else some (rdone qr.1 (rbelowB a0 a1 a2)))
        else none)
    else some (0, 2) else some (0, 2) else some (0, 2)
theorem rleO_if {α : Type} {c : Prop} [Decidable c] {a b a' b' : Option α} (h : LeO a a') (k : LeO b b') : LeO (if c then a else b) (if c then a' else b') := by
  split
  · exact h
  · exact k
theorem contangoref01_MulDiv.mono : ∀ a0 a1 a2 a3 k, LeO (contangoref01_MulDiv.f k a0 a1 a2 a3) (contangoref01_MulDiv.f (k + 1) a0 a1 a2 a3) := by
  intro a0 a1 a2 a3 k
  unfold contangoref01_MulDiv.f
  refine LeO.bind (LeO.refl _) (fun _ => rleO_if ?_ (LeO.refl _))
  refine LeO.bind (LeO.refl _) (fun _ => rleO_if ?_ (LeO.refl _))
  refine LeO.bind (LeO.refl _) (fun _ => rleO_if ?_ (LeO.refl _))
  refine rleO_if (LeO.refl _) (rleO_if (LeO.refl _) ?_)
  refine LeO.bind (LeO.refl _) (fun _ => LeO.bind (LeO.refl _) (fun _ => LeO.bind (LeO.refl _) (fun _ => LeO.bind (contangoref01_quotient.mono _ _ _ _) (fun _ => LeO.refl _))))
set_option maxHeartbeats 40000000 in
set_option maxRecDepth 100000 in
theorem rm_args (a b c mode : Int) (fa fb fc : Bool) (w : World) (ha : contangoref01_Fits.f a = some fa) (hb : fa = true → contangoref01_Fits.f b = some fb) (hc : fa = true → fb = true → contangoref01_Fits.f c = some fc) (hbad : fa = true → fb = true → fc = true → mode < 1 ∨ mode > 5) :
    Calls Try.prog 23 #[.int .i64 a, .int .i64 b, .int .i64 c, .int .i64 mode] w fun e w' => e = .returned (.tuple #[.int .i64 0, .int .i64 2]) ∧ Drawn0 w w' := by
  have FA := Aside0.mk ha
  clear ha
  cases fa with
  | false =>
    clear hb hc hbad
    go_enter Try.func23, Try.ntmps23
    go_wp2_with (go_at_call 41; ((first | (with_reducible refine (contangoref01_Fits.calls a false _ FA.out).mono ?_)); rintro e w' ⟨rfl, ⟨nd, rfl⟩⟩))
    go_ret2
    exact ⟨rfl, by repeat (first | exact Drawn0.refl _ | apply Drawn0.step)⟩
  | true =>
    have FB := Aside0.mk (hb rfl)
    clear hb
    cases fb with
    | false =>
      clear hc hbad
      go_enter Try.func23, Try.ntmps23
      go_wp2_with (go_at_call 41; ((first | (with_reducible refine (contangoref01_Fits.calls a true _ FA.out).mono ?_) | (with_reducible refine (contangoref01_Fits.calls b false _ FB.out).mono ?_)); rintro e w' ⟨rfl, ⟨nd, rfl⟩⟩))
      go_ret2
      exact ⟨rfl, by repeat (first | exact Drawn0.refl _ | apply Drawn0.step)⟩
    | true =>
      have FC := Aside0.mk (hc rfl rfl)
      clear hc
      cases fc with
      | false =>
        clear hbad
        go_enter Try.func23, Try.ntmps23
        go_wp2_with (go_at_call 41; ((first | (with_reducible refine (contangoref01_Fits.calls a true _ FA.out).mono ?_) | (with_reducible refine (contangoref01_Fits.calls b true _ FB.out).mono ?_) | (with_reducible refine (contangoref01_Fits.calls c false _ FC.out).mono ?_)); rintro e w' ⟨rfl, ⟨nd, rfl⟩⟩))
        go_ret2
        exact ⟨rfl, by repeat (first | exact Drawn0.refl _ | apply Drawn0.step)⟩
      | true =>
        have hm := hbad rfl rfl rfl
        clear hbad
        by_cases h1 : mode < 1
        · have d1 : decide (mode < 1) = true := decide_eq_true h1
          clear hm h1
          go_enter Try.func23, Try.ntmps23
          go_wp2_with (go_at_call 41; ((first | (with_reducible refine (contangoref01_Fits.calls a true _ FA.out).mono ?_) | (with_reducible refine (contangoref01_Fits.calls b true _ FB.out).mono ?_) | (with_reducible refine (contangoref01_Fits.calls c true _ FC.out).mono ?_)); rintro e w' ⟨rfl, ⟨nd, rfl⟩⟩))
          go_ret2
          exact ⟨rfl, by repeat (first | exact Drawn0.refl _ | apply Drawn0.step)⟩
        · have d1 : decide (mode < 1) = false := decide_eq_false h1
          have d2 : decide (5 < mode) = true := decide_eq_true (by omega)
          clear hm h1
          go_enter Try.func23, Try.ntmps23
          go_wp2_with (go_at_call 41; ((first | (with_reducible refine (contangoref01_Fits.calls a true _ FA.out).mono ?_) | (with_reducible refine (contangoref01_Fits.calls b true _ FB.out).mono ?_) | (with_reducible refine (contangoref01_Fits.calls c true _ FC.out).mono ?_)); rintro e w' ⟨rfl, ⟨nd, rfl⟩⟩))
          go_ret2
          exact ⟨rfl, by repeat (first | exact Drawn0.refl _ | apply Drawn0.step)⟩
set_option maxHeartbeats 40000000 in
set_option maxRecDepth 100000 in
theorem rm_zero (a b mode : Int) (w : World) (fa : contangoref01_Fits.f a = some true) (fb : contangoref01_Fits.f b = some true) (fc : contangoref01_Fits.f 0 = some true) (m1 : 1 ≤ mode) (m2 : mode ≤ 5) :
    Calls Try.prog 23 #[.int .i64 a, .int .i64 b, .int .i64 0, .int .i64 mode] w fun e w' => e = .returned (.tuple #[.int .i64 0, .int .i64 4]) ∧ Drawn0 w w' := by
  have FA := Aside0.mk fa
  have FB := Aside0.mk fb
  have FC := Aside0.mk fc
  clear fa fb fc
  go_enter Try.func23, Try.ntmps23
  go_wp2_with (go_at_call 41; ((first | (with_reducible refine (contangoref01_Fits.calls a true _ FA.out).mono ?_) | (with_reducible refine (contangoref01_Fits.calls b true _ FB.out).mono ?_) | (with_reducible refine (contangoref01_Fits.calls 0 true _ FC.out).mono ?_)); rintro e w' ⟨rfl, ⟨nd, rfl⟩⟩))
  go_ret2
  exact ⟨rfl, by repeat (first | exact Drawn0.refl _ | apply Drawn0.step)⟩
set_option maxHeartbeats 40000000 in
set_option maxRecDepth 100000 in
theorem rm_even (a b c mode q r sc sa sb : Int) (x y z bl : Bool) (w : World) (k : Nat)
    (fa : contangoref01_Fits.f a = some true) (fb : contangoref01_Fits.f b = some true) (fc : contangoref01_Fits.f c = some true) (m1 : 1 ≤ mode) (m2 : mode ≤ 5) (hc0 : c ≠ 0)
    (s1 : contangoref01_size.f a = some sa) (s2 : contangoref01_size.f b = some sb) (s3 : contangoref01_size.f c = some sc) (hd : contangoref01_quotient.f k sa sb sc = some (q, r)) (hq0 : 0 ≤ q) (hq : q ≤ 2305843009213693952)
    (ba : decide (a < 0) = x) (bb : decide (b < 0) = y) (bc : decide (c < 0) = z) (hbl : (!(!(x == y) == z)) = bl) (hr : ¬ r > 0) :
    Calls Try.prog 23 #[.int .i64 a, .int .i64 b, .int .i64 c, .int .i64 mode] w fun e w' => e = .returned (.tuple #[.int .i64 (rdone q bl).1, .int .i64 (rdone q bl).2]) ∧ Drawn0 w w' := by
  have FA := Aside0.mk fa
  have FB := Aside0.mk fb
  have FC := Aside0.mk fc
  have S1 := Aside0.mk s1
  have S2 := Aside0.mk s2
  have S3 := Aside0.mk s3
  have HD := Aside0.mk hd
  have cz : (c == 0) = false := by simpa using hc0
  have dr : decide (0 < r) = false := decide_eq_false hr
  clear fa fb fc s1 s2 s3 hd hc0 hr
  unfold rdone
  by_cases hov : q > 1152921504606846976
  · rw [if_pos hov]
    have dv : decide (1152921504606846976 < q) = true := decide_eq_true hov
    clear hov
    cases x <;> cases y <;> cases z <;> cases bl <;> first
      | exact absurd hbl (by decide)
      | (clear hbl
         go_enter Try.func23, Try.ntmps23
         go_wp2_with (first | (go_at_call 41; ((first | (with_reducible refine (contangoref01_Fits.calls a true _ FA.out).mono ?_) | (with_reducible refine (contangoref01_Fits.calls b true _ FB.out).mono ?_) | (with_reducible refine (contangoref01_Fits.calls c true _ FC.out).mono ?_)); rintro e w' ⟨rfl, ⟨nd, rfl⟩⟩)) | (go_at_call 43; ((first | (with_reducible refine (contangoref01_size.calls a _ _ S1.out).mono ?_) | (with_reducible refine (contangoref01_size.calls b _ _ S2.out).mono ?_) | (with_reducible refine (contangoref01_size.calls c _ _ S3.out).mono ?_)); rintro e w' ⟨rfl, ⟨nd, rfl⟩⟩)) | (go_at_call 42; (with_reducible refine (contangoref01_quotient.calls k _ _ _ _ _ _ HD.out).mono ?_); rintro e w' ⟨rfl, ⟨nd, rfl⟩⟩))
         go_ret2
         exact ⟨rfl, by repeat (first | exact Drawn0.refl _ | apply Drawn0.step)⟩)
  · rw [if_neg hov]
    have dv : decide (1152921504606846976 < q) = false := decide_eq_false hov
    have hov2 : q ≤ 1152921504606846976 := by omega
    clear hov
    cases x <;> cases y <;> cases z <;> cases bl <;> first
      | exact absurd hbl (by decide)
      | (clear hbl
         go_enter Try.func23, Try.ntmps23
         go_wp2_with (first | (go_at_call 41; ((first | (with_reducible refine (contangoref01_Fits.calls a true _ FA.out).mono ?_) | (with_reducible refine (contangoref01_Fits.calls b true _ FB.out).mono ?_) | (with_reducible refine (contangoref01_Fits.calls c true _ FC.out).mono ?_)); rintro e w' ⟨rfl, ⟨nd, rfl⟩⟩)) | (go_at_call 43; ((first | (with_reducible refine (contangoref01_size.calls a _ _ S1.out).mono ?_) | (with_reducible refine (contangoref01_size.calls b _ _ S2.out).mono ?_) | (with_reducible refine (contangoref01_size.calls c _ _ S3.out).mono ?_)); rintro e w' ⟨rfl, ⟨nd, rfl⟩⟩)) | (go_at_call 42; (with_reducible refine (contangoref01_quotient.calls k _ _ _ _ _ _ HD.out).mono ?_); rintro e w' ⟨rfl, ⟨nd, rfl⟩⟩))
         go_ret2
         exact ⟨rfl, by repeat (first | exact Drawn0.refl _ | apply Drawn0.step)⟩)
set_option maxHeartbeats 40000000 in
set_option maxRecDepth 100000 in
theorem rm_stay (a b c mode q r sc sa sb : Int) (x y z bl : Bool) (w : World) (k : Nat)
    (fa : contangoref01_Fits.f a = some true) (fb : contangoref01_Fits.f b = some true) (fc : contangoref01_Fits.f c = some true) (m1 : 1 ≤ mode) (m2 : mode ≤ 5) (hc0 : c ≠ 0)
    (s1 : contangoref01_size.f a = some sa) (s2 : contangoref01_size.f b = some sb) (s3 : contangoref01_size.f c = some sc) (hd : contangoref01_quotient.f k sa sb sc = some (q, r)) (hq0 : 0 ≤ q) (hq : q ≤ 2305843009213693952)
    (ba : decide (a < 0) = x) (bb : decide (b < 0) = y) (bc : decide (c < 0) = z) (hbl : (!(!(x == y) == z)) = bl) (hr : r > 0) (ha : contangoref01_away.f q r sc mode bl = some false) :
    Calls Try.prog 23 #[.int .i64 a, .int .i64 b, .int .i64 c, .int .i64 mode] w fun e w' => e = .returned (.tuple #[.int .i64 (rdone q bl).1, .int .i64 (rdone q bl).2]) ∧ Drawn0 w w' := by
  have FA := Aside0.mk fa
  have FB := Aside0.mk fb
  have FC := Aside0.mk fc
  have S1 := Aside0.mk s1
  have S2 := Aside0.mk s2
  have S3 := Aside0.mk s3
  have HD := Aside0.mk hd
  have cz : (c == 0) = false := by simpa using hc0
  have dr : decide (0 < r) = true := decide_eq_true hr
  have HA := Aside0.mk ha
  clear fa fb fc s1 s2 s3 hd hc0 hr ha
  unfold rdone
  by_cases hov : q > 1152921504606846976
  · rw [if_pos hov]
    have dv : decide (1152921504606846976 < q) = true := decide_eq_true hov
    clear hov
    cases x <;> cases y <;> cases z <;> cases bl <;> first
      | exact absurd hbl (by decide)
      | (clear hbl
         go_enter Try.func23, Try.ntmps23
         go_wp2_with (first | (go_at_call 41; ((first | (with_reducible refine (contangoref01_Fits.calls a true _ FA.out).mono ?_) | (with_reducible refine (contangoref01_Fits.calls b true _ FB.out).mono ?_) | (with_reducible refine (contangoref01_Fits.calls c true _ FC.out).mono ?_)); rintro e w' ⟨rfl, ⟨nd, rfl⟩⟩)) | (go_at_call 43; ((first | (with_reducible refine (contangoref01_size.calls a _ _ S1.out).mono ?_) | (with_reducible refine (contangoref01_size.calls b _ _ S2.out).mono ?_) | (with_reducible refine (contangoref01_size.calls c _ _ S3.out).mono ?_)); rintro e w' ⟨rfl, ⟨nd, rfl⟩⟩)) | (go_at_call 42; (with_reducible refine (contangoref01_quotient.calls k _ _ _ _ _ _ HD.out).mono ?_); rintro e w' ⟨rfl, ⟨nd, rfl⟩⟩) | (go_at_call 44; (with_reducible refine (contangoref01_away.calls _ _ _ _ _ _ _ HA.out).mono ?_); rintro e w' ⟨rfl, ⟨nd, rfl⟩⟩))
         go_ret2
         exact ⟨rfl, by repeat (first | exact Drawn0.refl _ | apply Drawn0.step)⟩)
  · rw [if_neg hov]
    have dv : decide (1152921504606846976 < q) = false := decide_eq_false hov
    have hov2 : q ≤ 1152921504606846976 := by omega
    clear hov
    cases x <;> cases y <;> cases z <;> cases bl <;> first
      | exact absurd hbl (by decide)
      | (clear hbl
         go_enter Try.func23, Try.ntmps23
         go_wp2_with (first | (go_at_call 41; ((first | (with_reducible refine (contangoref01_Fits.calls a true _ FA.out).mono ?_) | (with_reducible refine (contangoref01_Fits.calls b true _ FB.out).mono ?_) | (with_reducible refine (contangoref01_Fits.calls c true _ FC.out).mono ?_)); rintro e w' ⟨rfl, ⟨nd, rfl⟩⟩)) | (go_at_call 43; ((first | (with_reducible refine (contangoref01_size.calls a _ _ S1.out).mono ?_) | (with_reducible refine (contangoref01_size.calls b _ _ S2.out).mono ?_) | (with_reducible refine (contangoref01_size.calls c _ _ S3.out).mono ?_)); rintro e w' ⟨rfl, ⟨nd, rfl⟩⟩)) | (go_at_call 42; (with_reducible refine (contangoref01_quotient.calls k _ _ _ _ _ _ HD.out).mono ?_); rintro e w' ⟨rfl, ⟨nd, rfl⟩⟩) | (go_at_call 44; (with_reducible refine (contangoref01_away.calls _ _ _ _ _ _ _ HA.out).mono ?_); rintro e w' ⟨rfl, ⟨nd, rfl⟩⟩))
         go_ret2
         exact ⟨rfl, by repeat (first | exact Drawn0.refl _ | apply Drawn0.step)⟩)
set_option maxHeartbeats 40000000 in
set_option maxRecDepth 100000 in
theorem rm_more (a b c mode q r sc sa sb : Int) (x y z bl : Bool) (w : World) (k : Nat)
    (fa : contangoref01_Fits.f a = some true) (fb : contangoref01_Fits.f b = some true) (fc : contangoref01_Fits.f c = some true) (m1 : 1 ≤ mode) (m2 : mode ≤ 5) (hc0 : c ≠ 0)
    (s1 : contangoref01_size.f a = some sa) (s2 : contangoref01_size.f b = some sb) (s3 : contangoref01_size.f c = some sc) (hd : contangoref01_quotient.f k sa sb sc = some (q, r)) (hq0 : 0 ≤ q) (hq : q ≤ 2305843009213693952)
    (ba : decide (a < 0) = x) (bb : decide (b < 0) = y) (bc : decide (c < 0) = z) (hbl : (!(!(x == y) == z)) = bl) (hr : r > 0) (ha : contangoref01_away.f q r sc mode bl = some true) :
    Calls Try.prog 23 #[.int .i64 a, .int .i64 b, .int .i64 c, .int .i64 mode] w fun e w' => e = .returned (.tuple #[.int .i64 (rdone (q + 1) bl).1, .int .i64 (rdone (q + 1) bl).2]) ∧ Drawn0 w w' := by
  have FA := Aside0.mk fa
  have FB := Aside0.mk fb
  have FC := Aside0.mk fc
  have S1 := Aside0.mk s1
  have S2 := Aside0.mk s2
  have S3 := Aside0.mk s3
  have HD := Aside0.mk hd
  have cz : (c == 0) = false := by simpa using hc0
  have dr : decide (0 < r) = true := decide_eq_true hr
  have HA := Aside0.mk ha
  clear fa fb fc s1 s2 s3 hd hc0 hr ha
  unfold rdone
  by_cases hov : (q + 1) > 1152921504606846976
  · rw [if_pos hov]
    have dv : decide (1152921504606846976 < q + 1) = true := decide_eq_true hov
    clear hov
    cases x <;> cases y <;> cases z <;> cases bl <;> first
      | exact absurd hbl (by decide)
      | (clear hbl
         go_enter Try.func23, Try.ntmps23
         go_wp2_with (first | (go_at_call 41; ((first | (with_reducible refine (contangoref01_Fits.calls a true _ FA.out).mono ?_) | (with_reducible refine (contangoref01_Fits.calls b true _ FB.out).mono ?_) | (with_reducible refine (contangoref01_Fits.calls c true _ FC.out).mono ?_)); rintro e w' ⟨rfl, ⟨nd, rfl⟩⟩)) | (go_at_call 43; ((first | (with_reducible refine (contangoref01_size.calls a _ _ S1.out).mono ?_) | (with_reducible refine (contangoref01_size.calls b _ _ S2.out).mono ?_) | (with_reducible refine (contangoref01_size.calls c _ _ S3.out).mono ?_)); rintro e w' ⟨rfl, ⟨nd, rfl⟩⟩)) | (go_at_call 42; (with_reducible refine (contangoref01_quotient.calls k _ _ _ _ _ _ HD.out).mono ?_); rintro e w' ⟨rfl, ⟨nd, rfl⟩⟩) | (go_at_call 44; (with_reducible refine (contangoref01_away.calls _ _ _ _ _ _ _ HA.out).mono ?_); rintro e w' ⟨rfl, ⟨nd, rfl⟩⟩))
         go_ret2
         exact ⟨rfl, by repeat (first | exact Drawn0.refl _ | apply Drawn0.step)⟩)
  · rw [if_neg hov]
    have dv : decide (1152921504606846976 < q + 1) = false := decide_eq_false hov
    have hov2 : (q + 1) ≤ 1152921504606846976 := by omega
    clear hov
    cases x <;> cases y <;> cases z <;> cases bl <;> first
      | exact absurd hbl (by decide)
      | (clear hbl
         go_enter Try.func23, Try.ntmps23
         go_wp2_with (first | (go_at_call 41; ((first | (with_reducible refine (contangoref01_Fits.calls a true _ FA.out).mono ?_) | (with_reducible refine (contangoref01_Fits.calls b true _ FB.out).mono ?_) | (with_reducible refine (contangoref01_Fits.calls c true _ FC.out).mono ?_)); rintro e w' ⟨rfl, ⟨nd, rfl⟩⟩)) | (go_at_call 43; ((first | (with_reducible refine (contangoref01_size.calls a _ _ S1.out).mono ?_) | (with_reducible refine (contangoref01_size.calls b _ _ S2.out).mono ?_) | (with_reducible refine (contangoref01_size.calls c _ _ S3.out).mono ?_)); rintro e w' ⟨rfl, ⟨nd, rfl⟩⟩)) | (go_at_call 42; (with_reducible refine (contangoref01_quotient.calls k _ _ _ _ _ _ HD.out).mono ?_); rintro e w' ⟨rfl, ⟨nd, rfl⟩⟩) | (go_at_call 44; (with_reducible refine (contangoref01_away.calls _ _ _ _ _ _ _ HA.out).mono ?_); rintro e w' ⟨rfl, ⟨nd, rfl⟩⟩))
         go_ret2
         exact ⟨rfl, by repeat (first | exact Drawn0.refl _ | apply Drawn0.step)⟩)
theorem contangoref01_MulDiv.calls (k : Nat) (a0 : Int) (a1 : Int) (a2 : Int) (a3 : Int) (r1 : Int) (r2 : Int) (w : World) (h : contangoref01_MulDiv.f k a0 a1 a2 a3 = some (r1, r2)) :
    Calls Try.prog 23 #[.int .i64 a0, .int .i64 a1, .int .i64 a2, .int .i64 a3] w fun e w' => e = .returned (.tuple #[.int .i64 r1, .int .i64 r2]) ∧ Drawn0 w w' := by
  unfold contangoref01_MulDiv.f at h
  obtain ⟨fa, hfa, h⟩ := Option.bind_eq_some_iff.1 h
  cases fa with
  | false =>
    rw [if_neg (by decide)] at h
    simp only [Option.some.injEq, Prod.mk.injEq] at h
    obtain ⟨rfl, rfl⟩ := h
    exact rm_args a0 a1 a2 a3 false false false w hfa (fun h => Bool.noConfusion h) (fun h => Bool.noConfusion h) (fun h => Bool.noConfusion h)
  | true =>
  rw [if_pos rfl] at h
  obtain ⟨fb, hfb, h⟩ := Option.bind_eq_some_iff.1 h
  cases fb with
  | false =>
    rw [if_neg (by decide)] at h
    simp only [Option.some.injEq, Prod.mk.injEq] at h
    obtain ⟨rfl, rfl⟩ := h
    exact rm_args a0 a1 a2 a3 true false false w hfa (fun _ => hfb) (fun _ h => Bool.noConfusion h) (fun _ h => Bool.noConfusion h)
  | true =>
  rw [if_pos rfl] at h
  obtain ⟨fc, hfc, h⟩ := Option.bind_eq_some_iff.1 h
  cases fc with
  | false =>
    rw [if_neg (by decide)] at h
    simp only [Option.some.injEq, Prod.mk.injEq] at h
    obtain ⟨rfl, rfl⟩ := h
    exact rm_args a0 a1 a2 a3 true true false w hfa (fun _ => hfb) (fun _ _ => hfc) (fun _ _ h => Bool.noConfusion h)
  | true =>
  rw [if_pos rfl] at h
  by_cases hm : a3 < 1 ∨ a3 > 5
  · rw [if_pos hm] at h
    simp only [Option.some.injEq, Prod.mk.injEq] at h
    obtain ⟨rfl, rfl⟩ := h
    exact rm_args a0 a1 a2 a3 true true true w hfa (fun _ => hfb) (fun _ _ => hfc) (fun _ _ _ => hm)
  rw [if_neg hm] at h
  by_cases hz : a2 = 0
  · rw [if_pos hz] at h
    simp only [Option.some.injEq, Prod.mk.injEq] at h
    obtain ⟨rfl, rfl⟩ := h
    subst hz
    exact rm_zero a0 a1 a3 w hfa hfb hfc (by omega) (by omega)
  rw [if_neg hz] at h
  obtain ⟨sa, hsa, h⟩ := Option.bind_eq_some_iff.1 h
  obtain ⟨sb, hsb, h⟩ := Option.bind_eq_some_iff.1 h
  obtain ⟨sc, hsc, h⟩ := Option.bind_eq_some_iff.1 h
  obtain ⟨⟨q, r⟩, hquo, h⟩ := Option.bind_eq_some_iff.1 h
  simp only at h
  by_cases hrng : 0 ≤ q ∧ q ≤ 2305843009213693952
  · rw [if_pos hrng] at h
    by_cases hr : r > 0
    · rw [if_pos hr] at h
      obtain ⟨up, hup, h⟩ := Option.bind_eq_some_iff.1 h
      have h2 := Option.some.inj h
      cases up with
      | true =>
        rw [if_pos rfl] at h2
        have := rm_more a0 a1 a2 a3 q r sc sa sb _ _ _ (rbelowB a0 a1 a2) w k hfa hfb hfc (by omega) (by omega) hz hsa hsb hsc hquo hrng.1 hrng.2 rfl rfl rfl rfl hr hup
        rw [h2] at this; exact this
      | false =>
        rw [if_neg (by decide)] at h2
        have := rm_stay a0 a1 a2 a3 q r sc sa sb _ _ _ (rbelowB a0 a1 a2) w k hfa hfb hfc (by omega) (by omega) hz hsa hsb hsc hquo hrng.1 hrng.2 rfl rfl rfl rfl hr hup
        rw [h2] at this; exact this
    · rw [if_neg hr] at h
      have h2 := Option.some.inj h
      have := rm_even a0 a1 a2 a3 q r sc sa sb _ _ _ (rbelowB a0 a1 a2) w k hfa hfb hfc (by omega) (by omega) hz hsa hsb hsc hquo hrng.1 hrng.2 rfl rfl rfl rfl hr
      rw [h2] at this; exact this
  · rw [if_neg hrng] at h; cases h

/-! ### contangoref01_Add: function 24 -/
def contangoref01_Add.j0 : Nat → Int → Int → Bool → Option (Int × Int)
  | 0, _, _, _ => none
  | k + 1, x0, x1, x13 => if x13 = true then (some (0, 2)) else ((contangoref01_Fits.f (wrap64 (x0 + x1))).bind fun t117 => (if t117 = true then (some (wrap64 (x0 + x1), 0)) else (some (0, 3))))
def contangoref01_Add.f (k : Nat) (a0 : Int) (a1 : Int) : Option (Int × Int) := (contangoref01_Fits.f a0).bind fun t115 => (if t115 = true then ((contangoref01_Fits.f a1).bind fun t116 => (contangoref01_Add.j0 k a0 a1 (!t116))) else (contangoref01_Add.j0 k a0 a1 true))
theorem contangoref01_Add.mono_l : ∀ k, (∀ y0 y1 y2, LeO (contangoref01_Add.j0 k y0 y1 y2) (contangoref01_Add.j0 (k + 1) y0 y1 y2))
  | 0 => fun _ _ _ r h => by simp [contangoref01_Add.j0] at h
  | k + 1 => by
    have ih0 := contangoref01_Add.mono_l k
    · intro y0 y1 y2
      unfold contangoref01_Add.j0
      repeat' first
      | (with_reducible exact ih0 _ _ _)
      | (with_reducible exact LeO.refl _)
      | (with_reducible exact LeO.none _)
      | (with_reducible refine LeO.ite ?_ ?_)
      | (with_reducible refine LeO.bind ?_ (fun _ => ?_))
      | exact ih0 _ _ _
      | exact LeO.none _
      | refine LeO.ite ?_ ?_
      | refine LeO.bind ?_ (fun _ => ?_)
theorem contangoref01_Add.mono : ∀ a0 a1 k, LeO (contangoref01_Add.f k a0 a1) (contangoref01_Add.f (k + 1) a0 a1) := by
  intro a0 a1 k
  have ih0 := contangoref01_Add.mono_l k
  unfold contangoref01_Add.f
  repeat' first
      | (with_reducible exact ih0 _ _ _)
      | (with_reducible exact LeO.refl _)
      | (with_reducible exact LeO.none _)
      | (with_reducible refine LeO.ite ?_ ?_)
      | (with_reducible refine LeO.bind ?_ (fun _ => ?_))
      | exact ih0 _ _ _
      | exact LeO.none _
      | refine LeO.ite ?_ ?_
      | refine LeO.bind ?_ (fun _ => ?_)
set_option maxHeartbeats 8000000 in
set_option maxRecDepth 100000 in
theorem contangoref01_Add.calls (k : Nat) (a0 : Int) (a1 : Int) (r1 : Int) (r2 : Int) (w : World) (h : contangoref01_Add.f k a0 a1 = some (r1, r2)) :
    Calls Try.prog 24 #[.int .i64 a0, .int .i64 a1] w fun e w' => e = .returned (.tuple #[.int .i64 r1, .int .i64 r2]) ∧ Drawn0 w w' := by
  have H : ((contangoref01_Fits.f a0).bind fun t115 => (if t115 = true then ((contangoref01_Fits.f a1).bind fun t116 => (contangoref01_Add.j0 k a0 a1 (!t116))) else (contangoref01_Add.j0 k a0 a1 true))) = some (r1, r2) := h
  clear h
  have HC3 := Aside0.mk H
  clear H
  go_enter Try.func24, Try.ntmps24
  go_upto_region 1 with (fail)
  go_cut [13] (fun v13 wc => ∃ (kq : Nat) (x13_2 : Bool), v13 = .bool x13_2 ∧ Aside0 (contangoref01_Add.j0 kq a0 a1 x13_2 = some (r1, r2)) ∧ Aside0 (kq ≤ k) ∧ Drawn0 w wc)
  case first =>
    have H := HC3.out
    clear HC3
    replace H := Option.bind_eq_some_iff.mp H
    obtain ⟨t115, A40, H⟩ := H
    replace H : (if t115 = true then ((contangoref01_Fits.f a1).bind fun t116 => (contangoref01_Add.j0 k a0 a1 (!t116))) else (contangoref01_Add.j0 k a0 a1 true)) = some (r1, r2) := H
    have A4 := Aside0.mk A40
    clear A40
    by_cases c5 : t115 = true
    · subst c5
      have H1 : ((contangoref01_Fits.f a1).bind fun t116 => (contangoref01_Add.j0 k a0 a1 (!t116))) = some (r1, r2) := by rw [if_pos rfl] at H; exact H
      clear H
      have H := H1
      clear H1
      replace H := Option.bind_eq_some_iff.mp H
      obtain ⟨t116, A60, H⟩ := H
      replace H : (contangoref01_Add.j0 k a0 a1 (!t116)) = some (r1, r2) := H
      have A6 := Aside0.mk A60
      clear A60
      have H' := Aside0.mk H
      clear H
      go_wp2_with (first | ((with_reducible refine gate_callee (f := 41) rfl ?_); refine goesL_ (some 7) rfl rfl Try.func41 (by kernel_rfl) rfl #[.int .i64 a0] rfl (by (try simp only [List.map_toArray, List.map_cons, List.map_nil]); first | done | rfl | (simp only [List.length_drop, List.length_take]; rfl)) ?_; (with_reducible refine (contangoref01_Fits.calls a0 true _ A4.out).mono ?_); rintro e w' ⟨rfl, ⟨nd, rfl⟩⟩; refine ⟨_, rfl, ?_⟩) | (go_at_call 41; (with_reducible refine (contangoref01_Fits.calls a1 t116 _ A6.out).mono ?_); rintro e w' ⟨rfl, ⟨nd, rfl⟩⟩))
      go_meet
      case rel => exact ⟨_, (!t116), (by first | rfl | (simp; done) | (simp [*]; done)), H', ⟨by first | omega | exact Nat.le_refl _⟩, by repeat (first | exact Drawn0.refl _ | apply Drawn0.step)⟩
    · replace c5 := Bool.eq_false_iff.mpr c5
      subst c5
      have H1 : (contangoref01_Add.j0 k a0 a1 true) = some (r1, r2) := by rw [if_neg (show ¬ (false = true) by decide)] at H; exact H
      clear H
      have H := H1
      clear H1
      have H' := Aside0.mk H
      clear H
      go_wp2_with (first | ((with_reducible refine gate_callee (f := 41) rfl ?_); refine goesL_ (some 7) rfl rfl Try.func41 (by kernel_rfl) rfl #[.int .i64 a0] rfl (by (try simp only [List.map_toArray, List.map_cons, List.map_nil]); first | done | rfl | (simp only [List.length_drop, List.length_take]; rfl)) ?_; (with_reducible refine (contangoref01_Fits.calls a0 false _ A4.out).mono ?_); rintro e w' ⟨rfl, ⟨nd, rfl⟩⟩; refine ⟨_, rfl, ?_⟩))
      go_meet
      case rel => exact ⟨_, (true), (by first | rfl | (simp; done) | (simp [*]; done)), H', ⟨by first | omega | exact Nat.le_refl _⟩, by repeat (first | exact Drawn0.refl _ | apply Drawn0.step)⟩
  case rest =>
    clear HC3
    try clear c2
    try clear p2
    try clear c4
    try clear c5
    obtain ⟨kq, x13_2, rfl, HA, HJ2, ⟨mc2, rfl⟩⟩ := hcut
    cases kq with
    | zero => exact absurd HA.out (by simp [contangoref01_Add.j0])
    | succ kj2 =>
      have H := HA.out
      clear HA
      simp only [contangoref01_Add.j0] at H
      by_cases c7 : x13_2 = true
      · subst c7
        have H1 : (some (0, 2)) = some (r1, r2) := by rw [if_pos rfl] at H; exact H
        clear H
        have H := H1
        clear H1
        simp only [Option.some.injEq, Prod.mk.injEq] at H
        obtain ⟨rfl, rfl⟩ := H
        go_wp2
        go_ret2
        exact ⟨by first | rfl | (simp; done) | (simp [*]; done), by repeat (first | exact Drawn0.refl _ | apply Drawn0.step)⟩
      · replace c7 := Bool.eq_false_iff.mpr c7
        subst c7
        have H1 : ((contangoref01_Fits.f (wrap64 (a0 + a1))).bind fun t117 => (if t117 = true then (some (wrap64 (a0 + a1), 0)) else (some (0, 3)))) = some (r1, r2) := by rw [if_neg (show ¬ (false = true) by decide)] at H; exact H
        clear H
        have H := H1
        clear H1
        replace H := Option.bind_eq_some_iff.mp H
        obtain ⟨t117, A80, H⟩ := H
        replace H : (if t117 = true then (some (wrap64 (a0 + a1), 0)) else (some (0, 3))) = some (r1, r2) := H
        have A8 := Aside0.mk A80
        clear A80
        by_cases c9 : t117 = true
        · subst c9
          have H1 : (some (wrap64 (a0 + a1), 0)) = some (r1, r2) := by rw [if_pos rfl] at H; exact H
          clear H
          have H := H1
          clear H1
          simp only [Option.some.injEq, Prod.mk.injEq] at H
          obtain ⟨rfl, rfl⟩ := H
          go_wp2_with (first | ((with_reducible refine gate_callee (f := 41) rfl ?_); refine goesL_ (some 17) rfl rfl Try.func41 (by kernel_rfl) rfl #[.int .i64 (wrap64 (a0 + a1))] rfl (by (try simp only [List.map_toArray, List.map_cons, List.map_nil]); first | done | rfl | (simp only [List.length_drop, List.length_take]; rfl)) ?_; (with_reducible refine (contangoref01_Fits.calls (wrap64 (a0 + a1)) true _ A8.out).mono ?_); rintro e w' ⟨rfl, ⟨nd, rfl⟩⟩; refine ⟨_, rfl, ?_⟩))
          go_ret2
          exact ⟨by first | rfl | (simp; done) | (simp [*]; done), by repeat (first | exact Drawn0.refl _ | apply Drawn0.step)⟩
        · replace c9 := Bool.eq_false_iff.mpr c9
          subst c9
          have H1 : (some (0, 3)) = some (r1, r2) := by rw [if_neg (show ¬ (false = true) by decide)] at H; exact H
          clear H
          have H := H1
          clear H1
          simp only [Option.some.injEq, Prod.mk.injEq] at H
          obtain ⟨rfl, rfl⟩ := H
          go_wp2_with (first | ((with_reducible refine gate_callee (f := 41) rfl ?_); refine goesL_ (some 17) rfl rfl Try.func41 (by kernel_rfl) rfl #[.int .i64 (wrap64 (a0 + a1))] rfl (by (try simp only [List.map_toArray, List.map_cons, List.map_nil]); first | done | rfl | (simp only [List.length_drop, List.length_take]; rfl)) ?_; (with_reducible refine (contangoref01_Fits.calls (wrap64 (a0 + a1)) false _ A8.out).mono ?_); rintro e w' ⟨rfl, ⟨nd, rfl⟩⟩; refine ⟨_, rfl, ?_⟩))
          go_ret2
          exact ⟨by first | rfl | (simp; done) | (simp [*]; done), by repeat (first | exact Drawn0.refl _ | apply Drawn0.step)⟩

/-! ### contangoref40_Size: function 9 -/
def contangoref40_Size.j0 : Nat → Int → Int → Int → Bool → Option (Int × Int)
  | 0, _, _, _, _ => none
  | k + 1, x0, x1, x2, x27 => if x27 = true then (some (0, 2)) else ((contangoref01_MulDiv.f k x0 x1 1000 2).bind fun bt120 => ((contangoref01_Add.f k x0 bt120.1).bind fun bt122 => (if bt122.2 = 0 then (if bt122.1 < x2 then (some (x2, 0)) else (some (bt122.1, 0))) else (some (0, bt122.2)))))
def contangoref40_Size.f (k : Nat) (a0 : Int) (a1 : Int) (a2 : Int) : Option (Int × Int) := (contangoref40_money.f a0).bind fun t118 => (if t118 = true then ((contangoref40_money.f a2).bind fun t119 => (if t119 = true then (if a1 < 0 then (contangoref40_Size.j0 k a0 a1 a2 true) else (contangoref40_Size.j0 k a0 a1 a2 (decide (a1 > 1000)))) else (contangoref40_Size.j0 k a0 a1 a2 true))) else (contangoref40_Size.j0 k a0 a1 a2 true))
theorem contangoref40_Size.mono_l : ∀ k, (∀ y0 y1 y2 y3, LeO (contangoref40_Size.j0 k y0 y1 y2 y3) (contangoref40_Size.j0 (k + 1) y0 y1 y2 y3))
  | 0 => fun _ _ _ _ r h => by simp [contangoref40_Size.j0] at h
  | k + 1 => by
    have ih0 := contangoref40_Size.mono_l k
    · intro y0 y1 y2 y3
      unfold contangoref40_Size.j0
      repeat' first
      | (with_reducible exact ih0 _ _ _ _)
      | (with_reducible exact contangoref01_Add.mono _ _ _)
      | (with_reducible exact contangoref01_MulDiv.mono _ _ _ _ _)
      | (with_reducible exact LeO.refl _)
      | (with_reducible exact LeO.none _)
      | (with_reducible refine LeO.ite ?_ ?_)
      | (with_reducible refine LeO.bind ?_ (fun _ => ?_))
      | exact ih0 _ _ _ _
      | exact contangoref01_Add.mono _ _ _
      | exact contangoref01_MulDiv.mono _ _ _ _ _
      | exact LeO.none _
      | refine LeO.ite ?_ ?_
      | refine LeO.bind ?_ (fun _ => ?_)
theorem contangoref40_Size.mono : ∀ a0 a1 a2 k, LeO (contangoref40_Size.f k a0 a1 a2) (contangoref40_Size.f (k + 1) a0 a1 a2) := by
  intro a0 a1 a2 k
  have ih0 := contangoref40_Size.mono_l k
  unfold contangoref40_Size.f
  repeat' first
      | (with_reducible exact ih0 _ _ _ _)
      | (with_reducible exact contangoref01_Add.mono _ _ _)
      | (with_reducible exact contangoref01_MulDiv.mono _ _ _ _ _)
      | (with_reducible exact LeO.refl _)
      | (with_reducible exact LeO.none _)
      | (with_reducible refine LeO.ite ?_ ?_)
      | (with_reducible refine LeO.bind ?_ (fun _ => ?_))
      | exact ih0 _ _ _ _
      | exact contangoref01_Add.mono _ _ _
      | exact contangoref01_MulDiv.mono _ _ _ _ _
      | exact LeO.none _
      | refine LeO.ite ?_ ?_
      | refine LeO.bind ?_ (fun _ => ?_)
set_option maxHeartbeats 8000000 in
set_option maxRecDepth 100000 in
theorem contangoref40_Size.calls (k : Nat) (a0 : Int) (a1 : Int) (a2 : Int) (r1 : Int) (r2 : Int) (w : World) (h : contangoref40_Size.f k a0 a1 a2 = some (r1, r2)) :
    Calls Try.prog 9 #[.int .i64 a0, .int .i64 a1, .int .i64 a2] w fun e w' => e = .returned (.tuple #[.int .i64 r1, .int .i64 r2]) ∧ Drawn0 w w' := by
  have H : ((contangoref40_money.f a0).bind fun t118 => (if t118 = true then ((contangoref40_money.f a2).bind fun t119 => (if t119 = true then (if a1 < 0 then (contangoref40_Size.j0 k a0 a1 a2 true) else (contangoref40_Size.j0 k a0 a1 a2 (decide (a1 > 1000)))) else (contangoref40_Size.j0 k a0 a1 a2 true))) else (contangoref40_Size.j0 k a0 a1 a2 true))) = some (r1, r2) := h
  clear h
  have HC4 := Aside0.mk H
  clear H
  go_enter Try.func9, Try.ntmps9
  go_upto_region 1 with (fail)
  go_cut [27] (fun v27 wc => ∃ (kq : Nat) (x27_3 : Bool), v27 = .bool x27_3 ∧ Aside0 (contangoref40_Size.j0 kq a0 a1 a2 x27_3 = some (r1, r2)) ∧ Aside0 (kq ≤ k) ∧ Drawn0 w wc)
  case first =>
    have H := HC4.out
    clear HC4
    replace H := Option.bind_eq_some_iff.mp H
    obtain ⟨t118, A50, H⟩ := H
    replace H : (if t118 = true then ((contangoref40_money.f a2).bind fun t119 => (if t119 = true then (if a1 < 0 then (contangoref40_Size.j0 k a0 a1 a2 true) else (contangoref40_Size.j0 k a0 a1 a2 (decide (a1 > 1000)))) else (contangoref40_Size.j0 k a0 a1 a2 true))) else (contangoref40_Size.j0 k a0 a1 a2 true)) = some (r1, r2) := H
    have A5 := Aside0.mk A50
    clear A50
    by_cases c6 : t118 = true
    · subst c6
      have H1 : ((contangoref40_money.f a2).bind fun t119 => (if t119 = true then (if a1 < 0 then (contangoref40_Size.j0 k a0 a1 a2 true) else (contangoref40_Size.j0 k a0 a1 a2 (decide (a1 > 1000)))) else (contangoref40_Size.j0 k a0 a1 a2 true))) = some (r1, r2) := by rw [if_pos rfl] at H; exact H
      clear H
      have H := H1
      clear H1
      replace H := Option.bind_eq_some_iff.mp H
      obtain ⟨t119, A70, H⟩ := H
      replace H : (if t119 = true then (if a1 < 0 then (contangoref40_Size.j0 k a0 a1 a2 true) else (contangoref40_Size.j0 k a0 a1 a2 (decide (a1 > 1000)))) else (contangoref40_Size.j0 k a0 a1 a2 true)) = some (r1, r2) := H
      have A7 := Aside0.mk A70
      clear A70
      by_cases c8 : t119 = true
      · subst c8
        have H1 : (if a1 < 0 then (contangoref40_Size.j0 k a0 a1 a2 true) else (contangoref40_Size.j0 k a0 a1 a2 (decide (a1 > 1000)))) = some (r1, r2) := by rw [if_pos rfl] at H; exact H
        clear H
        have H := H1
        clear H1
        by_cases c9 : a1 < 0
        · rw [if_pos c9] at H
          have c9b0 : decide (a1 < 0) = true := decide_eq_true c9
          clear c9
          (first | rw [c9b0] | (simp only [i64_w, i32_w]; rw [c9b0]) | skip)
          have H' := Aside0.mk H
          clear H
          go_wp2_with (first | ((with_reducible refine gate_callee (f := 22) rfl ?_); refine goesL_ (some 13) rfl rfl Try.func22 (by kernel_rfl) rfl #[.int .i64 a0] rfl (by (try simp only [List.map_toArray, List.map_cons, List.map_nil]); first | done | rfl | (simp only [List.length_drop, List.length_take]; rfl)) ?_; (with_reducible refine (contangoref40_money.calls a0 true _ A5.out).mono ?_); rintro e w' ⟨rfl, ⟨nd, rfl⟩⟩; refine ⟨_, rfl, ?_⟩) | (go_at_call 22; (with_reducible refine (contangoref40_money.calls a2 true _ A7.out).mono ?_); rintro e w' ⟨rfl, ⟨nd, rfl⟩⟩))
          go_meet
          case rel => exact ⟨_, (true), (by first | rfl | (simp; done) | (simp [*]; done)), H', ⟨by first | omega | exact Nat.le_refl _⟩, by repeat (first | exact Drawn0.refl _ | apply Drawn0.step)⟩
        · rw [if_neg c9] at H
          have c9b0 : decide (a1 < 0) = false := decide_eq_false c9
          clear c9
          (first | rw [c9b0] | (simp only [i64_w, i32_w]; rw [c9b0]) | skip)
          have H' := Aside0.mk H
          clear H
          go_wp2_with (first | ((with_reducible refine gate_callee (f := 22) rfl ?_); refine goesL_ (some 13) rfl rfl Try.func22 (by kernel_rfl) rfl #[.int .i64 a0] rfl (by (try simp only [List.map_toArray, List.map_cons, List.map_nil]); first | done | rfl | (simp only [List.length_drop, List.length_take]; rfl)) ?_; (with_reducible refine (contangoref40_money.calls a0 true _ A5.out).mono ?_); rintro e w' ⟨rfl, ⟨nd, rfl⟩⟩; refine ⟨_, rfl, ?_⟩) | (go_at_call 22; (with_reducible refine (contangoref40_money.calls a2 true _ A7.out).mono ?_); rintro e w' ⟨rfl, ⟨nd, rfl⟩⟩))
          go_meet
          case rel => exact ⟨_, (decide (a1 > 1000)), (by first | rfl | (simp; done) | (simp [*]; done)), H', ⟨by first | omega | exact Nat.le_refl _⟩, by repeat (first | exact Drawn0.refl _ | apply Drawn0.step)⟩
      · replace c8 := Bool.eq_false_iff.mpr c8
        subst c8
        have H1 : (contangoref40_Size.j0 k a0 a1 a2 true) = some (r1, r2) := by rw [if_neg (show ¬ (false = true) by decide)] at H; exact H
        clear H
        have H := H1
        clear H1
        have H' := Aside0.mk H
        clear H
        go_wp2_with (first | ((with_reducible refine gate_callee (f := 22) rfl ?_); refine goesL_ (some 13) rfl rfl Try.func22 (by kernel_rfl) rfl #[.int .i64 a0] rfl (by (try simp only [List.map_toArray, List.map_cons, List.map_nil]); first | done | rfl | (simp only [List.length_drop, List.length_take]; rfl)) ?_; (with_reducible refine (contangoref40_money.calls a0 true _ A5.out).mono ?_); rintro e w' ⟨rfl, ⟨nd, rfl⟩⟩; refine ⟨_, rfl, ?_⟩) | (go_at_call 22; (with_reducible refine (contangoref40_money.calls a2 false _ A7.out).mono ?_); rintro e w' ⟨rfl, ⟨nd, rfl⟩⟩))
        go_meet
        case rel => exact ⟨_, (true), (by first | rfl | (simp; done) | (simp [*]; done)), H', ⟨by first | omega | exact Nat.le_refl _⟩, by repeat (first | exact Drawn0.refl _ | apply Drawn0.step)⟩
    · replace c6 := Bool.eq_false_iff.mpr c6
      subst c6
      have H1 : (contangoref40_Size.j0 k a0 a1 a2 true) = some (r1, r2) := by rw [if_neg (show ¬ (false = true) by decide)] at H; exact H
      clear H
      have H := H1
      clear H1
      have H' := Aside0.mk H
      clear H
      go_wp2_with (first | ((with_reducible refine gate_callee (f := 22) rfl ?_); refine goesL_ (some 13) rfl rfl Try.func22 (by kernel_rfl) rfl #[.int .i64 a0] rfl (by (try simp only [List.map_toArray, List.map_cons, List.map_nil]); first | done | rfl | (simp only [List.length_drop, List.length_take]; rfl)) ?_; (with_reducible refine (contangoref40_money.calls a0 false _ A5.out).mono ?_); rintro e w' ⟨rfl, ⟨nd, rfl⟩⟩; refine ⟨_, rfl, ?_⟩))
      go_meet
      case rel => exact ⟨_, (true), (by first | rfl | (simp; done) | (simp [*]; done)), H', ⟨by first | omega | exact Nat.le_refl _⟩, by repeat (first | exact Drawn0.refl _ | apply Drawn0.step)⟩
  case rest =>
    clear HC4
    try clear c2
    try clear p2
    try clear c6
    try clear c8
    try clear c9
    try clear c9b0
    obtain ⟨kq, x27_3, rfl, HA, HJ3, ⟨mc3, rfl⟩⟩ := hcut
    cases kq with
    | zero => exact absurd HA.out (by simp [contangoref40_Size.j0])
    | succ kj3 =>
      have H := HA.out
      clear HA
      simp only [contangoref40_Size.j0] at H
      by_cases c10 : x27_3 = true
      · subst c10
        have H1 : (some (0, 2)) = some (r1, r2) := by rw [if_pos rfl] at H; exact H
        clear H
        have H := H1
        clear H1
        simp only [Option.some.injEq, Prod.mk.injEq] at H
        obtain ⟨rfl, rfl⟩ := H
        go_wp2
        go_ret2
        exact ⟨by first | rfl | (simp; done) | (simp [*]; done), by repeat (first | exact Drawn0.refl _ | apply Drawn0.step)⟩
      · replace c10 := Bool.eq_false_iff.mpr c10
        subst c10
        have H1 : ((contangoref01_MulDiv.f kj3 a0 a1 1000 2).bind fun bt120 => ((contangoref01_Add.f kj3 a0 bt120.1).bind fun bt122 => (if bt122.2 = 0 then (if bt122.1 < a2 then (some (a2, 0)) else (some (bt122.1, 0))) else (some (0, bt122.2))))) = some (r1, r2) := by rw [if_neg (show ¬ (false = true) by decide)] at H; exact H
        clear H
        have H := H1
        clear H1
        replace H := Option.bind_eq_some_iff.mp H
        obtain ⟨⟨t120, t121⟩, A110, H⟩ := H
        replace H : ((contangoref01_Add.f kj3 a0 t120).bind fun bt122 => (if bt122.2 = 0 then (if bt122.1 < a2 then (some (a2, 0)) else (some (bt122.1, 0))) else (some (0, bt122.2)))) = some (r1, r2) := H
        have A11 := Aside0.mk A110
        clear A110
        replace H := Option.bind_eq_some_iff.mp H
        obtain ⟨⟨t122, t123⟩, A120, H⟩ := H
        replace H : (if t123 = 0 then (if t122 < a2 then (some (a2, 0)) else (some (t122, 0))) else (some (0, t123))) = some (r1, r2) := H
        have A12 := Aside0.mk A120
        clear A120
        by_cases c13 : t123 = 0
        · rw [if_pos c13] at H
          have c13b0 : (t123 == 0) = true := beq_iff_eq.mpr c13
          have c13b1 : (t123 != 0) = false := bne_eq_false_iff_eq.mpr c13
          clear c13
          by_cases c14 : t122 < a2
          · rw [if_pos c14] at H
            have c14b0 : decide (t122 < a2) = true := decide_eq_true c14
            clear c14
            simp only [Option.some.injEq, Prod.mk.injEq] at H
            obtain ⟨rfl, rfl⟩ := H
            go_wp2_with (first | ((with_reducible refine gate_callee (f := 23) rfl ?_); refine goesL_ (some 31) rfl rfl Try.func23 (by kernel_rfl) rfl #[.int .i64 a0, .int .i64 a1, .int .i64 1000, .int .i64 2] rfl (by (try simp only [List.map_toArray, List.map_cons, List.map_nil]); first | done | rfl | (simp only [List.length_drop, List.length_take]; rfl)) ?_; (with_reducible refine (contangoref01_MulDiv.calls kj3 a0 a1 1000 2 t120 t121 _ A11.out).mono ?_); rintro e w' ⟨rfl, ⟨nd, rfl⟩⟩; refine ⟨_, rfl, ?_⟩) | ((with_reducible refine gate_callee (f := 24) rfl ?_); refine goesL_ (some 37) rfl rfl Try.func24 (by kernel_rfl) rfl #[.int .i64 a0, .int .i64 t120] rfl (by (try simp only [List.map_toArray, List.map_cons, List.map_nil]); first | done | rfl | (simp only [List.length_drop, List.length_take]; rfl)) ?_; (with_reducible refine (contangoref01_Add.calls kj3 a0 t120 t122 t123 _ A12.out).mono ?_); rintro e w' ⟨rfl, ⟨nd, rfl⟩⟩; refine ⟨_, rfl, ?_⟩))
            go_ret2
            exact ⟨by first | rfl | (simp; done) | (simp [*]; done), by repeat (first | exact Drawn0.refl _ | apply Drawn0.step)⟩
          · rw [if_neg c14] at H
            have c14b0 : decide (t122 < a2) = false := decide_eq_false c14
            clear c14
            simp only [Option.some.injEq, Prod.mk.injEq] at H
            obtain ⟨rfl, rfl⟩ := H
            go_wp2_with (first | ((with_reducible refine gate_callee (f := 23) rfl ?_); refine goesL_ (some 31) rfl rfl Try.func23 (by kernel_rfl) rfl #[.int .i64 a0, .int .i64 a1, .int .i64 1000, .int .i64 2] rfl (by (try simp only [List.map_toArray, List.map_cons, List.map_nil]); first | done | rfl | (simp only [List.length_drop, List.length_take]; rfl)) ?_; (with_reducible refine (contangoref01_MulDiv.calls kj3 a0 a1 1000 2 t120 t121 _ A11.out).mono ?_); rintro e w' ⟨rfl, ⟨nd, rfl⟩⟩; refine ⟨_, rfl, ?_⟩) | ((with_reducible refine gate_callee (f := 24) rfl ?_); refine goesL_ (some 37) rfl rfl Try.func24 (by kernel_rfl) rfl #[.int .i64 a0, .int .i64 t120] rfl (by (try simp only [List.map_toArray, List.map_cons, List.map_nil]); first | done | rfl | (simp only [List.length_drop, List.length_take]; rfl)) ?_; (with_reducible refine (contangoref01_Add.calls kj3 a0 t120 t122 t123 _ A12.out).mono ?_); rintro e w' ⟨rfl, ⟨nd, rfl⟩⟩; refine ⟨_, rfl, ?_⟩))
            go_ret2
            exact ⟨by first | rfl | (simp; done) | (simp [*]; done), by repeat (first | exact Drawn0.refl _ | apply Drawn0.step)⟩
        · rw [if_neg c13] at H
          have c13b0 : (t123 == 0) = false := beq_eq_false_iff_ne.mpr c13
          have c13b1 : (t123 != 0) = true := bne_iff_ne.mpr c13
          simp only [Option.some.injEq, Prod.mk.injEq] at H
          obtain ⟨rfl, rfl⟩ := H
          go_wp2_with (first | ((with_reducible refine gate_callee (f := 23) rfl ?_); refine goesL_ (some 31) rfl rfl Try.func23 (by kernel_rfl) rfl #[.int .i64 a0, .int .i64 a1, .int .i64 1000, .int .i64 2] rfl (by (try simp only [List.map_toArray, List.map_cons, List.map_nil]); first | done | rfl | (simp only [List.length_drop, List.length_take]; rfl)) ?_; (with_reducible refine (contangoref01_MulDiv.calls kj3 a0 a1 1000 2 t120 t121 _ A11.out).mono ?_); rintro e w' ⟨rfl, ⟨nd, rfl⟩⟩; refine ⟨_, rfl, ?_⟩) | ((with_reducible refine gate_callee (f := 24) rfl ?_); refine goesL_ (some 37) rfl rfl Try.func24 (by kernel_rfl) rfl #[.int .i64 a0, .int .i64 t120] rfl (by (try simp only [List.map_toArray, List.map_cons, List.map_nil]); first | done | rfl | (simp only [List.length_drop, List.length_take]; rfl)) ?_; (with_reducible refine (contangoref01_Add.calls kj3 a0 t120 t122 t123 _ A12.out).mono ?_); rintro e w' ⟨rfl, ⟨nd, rfl⟩⟩; refine ⟨_, rfl, ?_⟩))
          go_ret2
          exact ⟨by first | rfl | (simp; done) | (simp [*]; done), by repeat (first | exact Drawn0.refl _ | apply Drawn0.step)⟩

end Go.Proofs.Ytfmnillnmlijkaa.PFundSizes
