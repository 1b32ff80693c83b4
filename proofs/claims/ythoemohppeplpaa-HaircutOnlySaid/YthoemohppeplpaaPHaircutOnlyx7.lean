/- Laid for this claim by a program of this session's (wip/mkprint.py, wip/ext.py); not trusted: Lean checks it. -/
import Derived.Test.YthoemohppeplpaaPHaircutOnlyx0
import Derived.Test.YthoemohppeplpaaPHaircutOnlyx2
import Derived.Test.YthoemohppeplpaaPHaircutOnlyx3
import Derived.Test.YthoemohppeplpaaPHaircutOnlyx5
import Derived.Test.YthoemohppeplpaaPHaircutOnlyx6
namespace Go.Proofs.Ythoemohppeplpaa.PHaircutOnly
open Go.RowKit Go.Proofs.YthoemohppeplpaaW.PrintWords Go.Proofs.YthoemohppeplpaaW.PrintLast Go.Proofs.YthoemohppeplpaaW.PrintMore
attribute [local go_sem] max2_int min2_int max_two min_two max_three min_three max_four min_four   -- for this text's walks alone
set_option linter.unusedVariables false
set_option linter.unusedSimpArgs false

-- NOT PRINTED: function 51 (cents_away_1)

-- NOT PRINTED: function 42 (cents_away)

/-! ### cents_signed: function 43 -/
def cents_signed.f (a0 : Int) (a1 : Bool) : Option (Int × Int) := if a0 > 1152921504606846976 then (some (0, 3)) else (if a1 = true then (some (wrap64 (-(wrap64 (a0))), 0)) else (some (wrap64 (a0), 0)))
set_option maxHeartbeats 8000000 in
set_option maxRecDepth 100000 in
theorem cents_signed.calls (a0 : Int) (a1 : Bool) (r1 : Int) (r2 : Int) (w : World) (h : cents_signed.f a0 a1 = some (r1, r2)) :
    Calls Try.prog 43 #[.int .u64 a0, .bool a1] w fun e w' => e = .returned (.tuple #[.int .i64 r1, .int .i64 r2]) ∧ Drawn0 w w' := by
  have H : (if a0 > 1152921504606846976 then (some (0, 3)) else (if a1 = true then (some (wrap64 (-(wrap64 (a0))), 0)) else (some (wrap64 (a0), 0)))) = some (r1, r2) := h
  clear h
  by_cases c3 : a0 > 1152921504606846976
  · rw [if_pos c3] at H
    have c3b0 : decide (1152921504606846976 < a0) = true := decide_eq_true c3
    clear c3
    simp only [Option.some.injEq, Prod.mk.injEq] at H
    obtain ⟨rfl, rfl⟩ := H
    go_enter Try.func43, Try.ntmps43
    go_wp2
    go_ret2
    exact ⟨by first | rfl | (simp; done) | (simp [*]; done), by repeat (first | exact Drawn0.refl _ | apply Drawn0.step)⟩
  · rw [if_neg c3] at H
    have c3b0 : decide (1152921504606846976 < a0) = false := decide_eq_false c3
    clear c3
    by_cases c4 : a1 = true
    · subst c4
      have H1 : (some (wrap64 (-(wrap64 (a0))), 0)) = some (r1, r2) := by rw [if_pos rfl] at H; exact H
      clear H
      have H := H1
      clear H1
      simp only [Option.some.injEq, Prod.mk.injEq] at H
      obtain ⟨rfl, rfl⟩ := H
      go_enter Try.func43, Try.ntmps43
      go_wp2
      go_ret2
      exact ⟨by first | rfl | (simp; done) | (simp [*]; done), by repeat (first | exact Drawn0.refl _ | apply Drawn0.step)⟩
    · replace c4 := Bool.eq_false_iff.mpr c4
      subst c4
      have H1 : (some (wrap64 (a0), 0)) = some (r1, r2) := by rw [if_neg (show ¬ (false = true) by decide)] at H; exact H
      clear H
      have H := H1
      clear H1
      simp only [Option.some.injEq, Prod.mk.injEq] at H
      obtain ⟨rfl, rfl⟩ := H
      go_enter Try.func43, Try.ntmps43
      go_wp2
      go_ret2
      exact ⟨by first | rfl | (simp; done) | (simp [*]; done), by repeat (first | exact Drawn0.refl _ | apply Drawn0.step)⟩

/-! ### cents_MulDiv: function 24 -/
def alwaysB (mode : Int) (below : Bool) : Bool := (mode == 2) || ((mode == 3) && below) || ((mode == 4) && !below)
def awayB (mode : Int) (below : Bool) (q r by_ : Int) : Bool := if mode = 5 then (decide (r > by_ - r) || (decide (r = by_ - r) && decide (q % 2 = 1))) else alwaysB mode below
set_option maxHeartbeats 4000000 in
set_option maxRecDepth 100000 in
theorem away_any (mode : Int) (below : Bool) (w : World) :
    Calls Try.prog 42 #[.int .i64 mode, .bool below] w fun e w' => e = .returned (.func (.func 51) #[] #[.pointer (some ⟨w.heap.size, 0, none⟩), .pointer (some ⟨w.heap.size + 1, 0, none⟩)]) ∧ w' = ((w.alloc (.cells #[.int .i64 mode] 3)).alloc (.cells #[.bool (alwaysB mode below)] 4)) := by
  have hmf : ∀ (fn : Fn) (first cap : Array Value) (w : World), (Instr.makeFunc fn first cap).run Try.prog w = .ok (.func fn first cap) w := fun _ _ _ _ => rfl
  by_cases h2 : mode = 2
  · subst h2
    rw [show alwaysB 2 below = true by unfold alwaysB; simp]
    go_enter Try.func42, Try.ntmps42
    go_wp2
    go_ret
    exact ⟨rfl, rfl⟩
  have m2 : (mode == 2) = false := beq_eq_false_iff_ne.2 h2
  by_cases h3 : mode = 3
  · subst h3
    cases below with
    | true =>
      rw [show alwaysB 3 true = true by decide]
      go_enter Try.func42, Try.ntmps42
      go_wp2
      go_ret
      exact ⟨rfl, rfl⟩
    | false =>
      rw [show alwaysB 3 false = false by decide]
      go_enter Try.func42, Try.ntmps42
      go_wp2
      go_ret
      exact ⟨rfl, rfl⟩
  have m3 : (mode == 3) = false := beq_eq_false_iff_ne.2 h3
  by_cases h4 : mode = 4
  · subst h4
    rw [show alwaysB 4 below = !below by unfold alwaysB; simp]
    cases below with
    | true =>
      go_enter Try.func42, Try.ntmps42
      go_wp2
      go_ret
      exact ⟨rfl, rfl⟩
    | false =>
      go_enter Try.func42, Try.ntmps42
      go_wp2
      go_ret
      exact ⟨rfl, rfl⟩
  have m4 : (mode == 4) = false := beq_eq_false_iff_ne.2 h4
  rw [show alwaysB mode below = false by unfold alwaysB; rw [m2, m3, m4]; rfl]
  clear h2 h3 h4
  go_enter Try.func42, Try.ntmps42
  go_wp2
  go_ret
  exact ⟨rfl, rfl⟩
set_option maxHeartbeats 4000000 in
set_option maxRecDepth 100000 in
theorem away1_any (mode : Int) (below : Bool) (q r by_ : Int) (gm ga : Nat) (w : World) (hq : 0 ≤ q ∧ q ≤ 1152921504606846976) (hr : 0 ≤ r ∧ r < by_) (hb : by_ ≤ 1152921504606846976) (c1 : w.cell? ⟨gm, 0, none⟩ = some (.int .i64 mode)) (c2 : w.cell? ⟨ga, 0, none⟩ = some (.bool (alwaysB mode below))) :
    Calls Try.prog 51 #[.int .u64 q, .int .u64 r, .int .u64 by_, .pointer (some ⟨gm, 0, none⟩), .pointer (some ⟨ga, 0, none⟩)] w fun e w' => e = .returned (.bool (awayB mode below q r by_)) ∧ Drawn0 w w' := by
  obtain ⟨hq0, hq1⟩ := hq
  obtain ⟨hr0, hr1⟩ := hr
  unfold awayB
  by_cases h5 : mode = 5
  · subst h5
    rw [if_pos rfl]
    have e1 : IntKind.u64.wrap (by_ - r) = by_ - r := by rw [IntKind.wrap_u64]; omega
    by_cases t1 : r > by_ - r
    · rw [decide_eq_true t1, Bool.true_or]
      have d1 : decide (by_ - r < r) = true := decide_eq_true t1
      clear t1
      go_enter Try.func51, Try.ntmps51
      go_wp2
      go_ret
      exact ⟨rfl, Drawn0.refl _⟩
    · rw [decide_eq_false t1, Bool.false_or]
      have d1 : decide (by_ - r < r) = false := decide_eq_false t1
      by_cases t2 : r = by_ - r
      · rw [decide_eq_true t2, Bool.true_and]
        have d2 : (r == by_ - r) = true := beq_iff_eq.2 t2
        by_cases t3 : q % 2 = 1
        · rw [decide_eq_true t3]
          have d3 : (q % 2 == 1) = true := beq_iff_eq.2 t3
          clear t1 t2 t3
          go_enter Try.func51, Try.ntmps51
          go_wp2
          go_ret
          exact ⟨rfl, Drawn0.refl _⟩
        · rw [decide_eq_false t3]
          have d3 : (q % 2 == 1) = false := beq_eq_false_iff_ne.2 t3
          clear t1 t2 t3
          go_enter Try.func51, Try.ntmps51
          go_wp2
          go_ret
          exact ⟨rfl, Drawn0.refl _⟩
      · rw [decide_eq_false t2, Bool.false_and]
        have d2 : (r == by_ - r) = false := beq_eq_false_iff_ne.2 t2
        clear t1 t2
        go_enter Try.func51, Try.ntmps51
        go_wp2
        go_ret
        exact ⟨rfl, Drawn0.refl _⟩
  · rw [if_neg h5]
    have d5 : (mode != 5) = true := bne_iff_ne.2 h5
    generalize alwaysB mode below = al at *
    clear h5
    go_enter Try.func51, Try.ntmps51
    go_wp2
    go_ret
    exact ⟨rfl, Drawn0.refl _⟩
theorem away_box (mode : Int) (below : Bool) (w : World) :
    Calls Try.prog 42 #[.int .i64 mode, .bool below] w fun e w' => ∃ gm ga : Nat, e = .returned (.func (.func 51) #[] #[.pointer (some ⟨gm, 0, none⟩), .pointer (some ⟨ga, 0, none⟩)]) ∧ w'.cell? ⟨gm, 0, none⟩ = some (.int .i64 mode) ∧ w'.cell? ⟨ga, 0, none⟩ = some (.bool (alwaysB mode below)) ∧ Below w.heap.size w w' := by
  refine (away_any mode below w).mono ?_
  rintro e w' ⟨rfl, rfl⟩
  have e1 : (w.alloc (.cells #[.int .i64 mode] 3)).cell? ⟨w.heap.size, 0, none⟩ = some (.int .i64 mode) := by rw [World.cell?_alloc_mark]; rfl
  have e2 : ((w.alloc (.cells #[.int .i64 mode] 3)).alloc (.cells #[.bool (alwaysB mode below)] 4)).cell? ⟨(w.alloc (.cells #[.int .i64 mode] 3)).heap.size, 0, none⟩ = some (.bool (alwaysB mode below)) := by rw [World.cell?_alloc_mark]; rfl
  have hsz : (w.alloc (.cells #[.int .i64 mode] 3)).heap.size = w.heap.size + 1 := by simp
  rw [hsz] at e2
  exact ⟨w.heap.size, w.heap.size + 1, rfl, (World.cell?_alloc_lt _ _ _ (by simp)).trans e1, e2, below_alloc (below_alloc (Below.refl _ _) _) _⟩
def belowB (a b c : Int) : Bool := !(!(decide (a < 0) == decide (b < 0)) == decide (c < 0))
def cents_MulDiv.f (k : Nat) (a0 : Int) (a1 : Int) (a2 : Int) (a3 : Int) : Option (Int × Int) :=
  (cents_Fits.f a0).bind fun fa => if fa = true then (cents_Fits.f a1).bind fun fb => if fb = true then (cents_Fits.f a2).bind fun fc => if fc = true then
    (if a3 < 1 ∨ a3 > 5 then some (0, 2) else if a2 = 0 then some (0, 4) else
      (cents_size.f a0).bind fun sa => (cents_size.f a1).bind fun sb => (bits_Mul64.f sa sb).bind fun hl => (cents_size.f a2).bind fun by_ =>
        if hl.1 ≥ by_ then some (0, 3) else (bits_Div64.f k hl.1 hl.2 by_).bind fun qr =>
          if qr.1 > 1152921504606846976 then some (0, 3) else
          if qr.2 > 0 then (if 0 ≤ qr.1 ∧ qr.2 < by_ ∧ by_ ≤ 1152921504606846976 then (if awayB a3 (belowB a0 a1 a2) qr.1 qr.2 by_ = true then cents_signed.f (qr.1 + 1) (belowB a0 a1 a2) else cents_signed.f qr.1 (belowB a0 a1 a2)) else none)
          else if qr.2 = 0 then cents_signed.f qr.1 (belowB a0 a1 a2) else none)
    else some (0, 2) else some (0, 2) else some (0, 2)
theorem leO_if {α : Type} {c : Prop} [Decidable c] {a b a' b' : Option α} (h : LeO a a') (k : LeO b b') : LeO (if c then a else b) (if c then a' else b') := by
  split
  · exact h
  · exact k
theorem cents_MulDiv.mono : ∀ a0 a1 a2 a3 k, LeO (cents_MulDiv.f k a0 a1 a2 a3) (cents_MulDiv.f (k + 1) a0 a1 a2 a3) := by
  intro a0 a1 a2 a3 k
  unfold cents_MulDiv.f
  refine LeO.bind (LeO.refl _) (fun _ => leO_if ?_ (LeO.refl _))
  refine LeO.bind (LeO.refl _) (fun _ => leO_if ?_ (LeO.refl _))
  refine LeO.bind (LeO.refl _) (fun _ => leO_if ?_ (LeO.refl _))
  refine leO_if (LeO.refl _) (leO_if (LeO.refl _) ?_)
  refine LeO.bind (LeO.refl _) (fun _ => LeO.bind (LeO.refl _) (fun _ => LeO.bind (LeO.refl _) (fun _ => LeO.bind (LeO.refl _) (fun _ => ?_))))
  refine leO_if (LeO.refl _) (LeO.bind (bits_Div64.mono _ _ _ _) (fun _ => LeO.refl _))
set_option maxHeartbeats 8000000 in
set_option maxRecDepth 100000 in
theorem md_args (a b c mode : Int) (fa fb fc : Bool) (w : World) (ha : cents_Fits.f a = some fa) (hb : fa = true → cents_Fits.f b = some fb) (hc : fa = true → fb = true → cents_Fits.f c = some fc) (hbad : fa = true → fb = true → fc = true → mode < 1 ∨ mode > 5) :
    Calls Try.prog 24 #[.int .i64 a, .int .i64 b, .int .i64 c, .int .i64 mode] w fun e w' => e = .returned (.tuple #[.int .i64 0, .int .i64 2]) ∧ Drawn0 w w' := by
  have FA := Aside0.mk ha
  clear ha
  cases fa with
  | false =>
    clear hb hc hbad
    go_enter Try.func24, Try.ntmps24
    go_wp2_with (go_at_call 38; ((with_reducible refine (cents_Fits.calls a false _ FA.out).mono ?_); rintro e w' ⟨rfl, ⟨nd, rfl⟩⟩))
    go_ret2
    exact ⟨rfl, by repeat (first | exact Drawn0.refl _ | apply Drawn0.step)⟩
  | true =>
    have FB := Aside0.mk (hb rfl)
    clear hb
    cases fb with
    | false =>
      clear hc hbad
      go_enter Try.func24, Try.ntmps24
      go_wp2_with (go_at_call 38; ((first | (with_reducible refine (cents_Fits.calls a true _ FA.out).mono ?_) | (with_reducible refine (cents_Fits.calls b false _ FB.out).mono ?_)); rintro e w' ⟨rfl, ⟨nd, rfl⟩⟩))
      go_ret2
      exact ⟨rfl, by repeat (first | exact Drawn0.refl _ | apply Drawn0.step)⟩
    | true =>
      have FC := Aside0.mk (hc rfl rfl)
      clear hc
      cases fc with
      | false =>
        clear hbad
        go_enter Try.func24, Try.ntmps24
        go_wp2_with (go_at_call 38; ((first | (with_reducible refine (cents_Fits.calls a true _ FA.out).mono ?_) | (with_reducible refine (cents_Fits.calls b true _ FB.out).mono ?_) | (with_reducible refine (cents_Fits.calls c false _ FC.out).mono ?_)); rintro e w' ⟨rfl, ⟨nd, rfl⟩⟩))
        go_ret2
        exact ⟨rfl, by repeat (first | exact Drawn0.refl _ | apply Drawn0.step)⟩
      | true =>
        have hm := hbad rfl rfl rfl
        clear hbad
        by_cases h1 : mode < 1
        · have d1 : decide (mode < 1) = true := decide_eq_true h1
          clear hm h1
          go_enter Try.func24, Try.ntmps24
          go_wp2_with (go_at_call 38; ((first | (with_reducible refine (cents_Fits.calls a true _ FA.out).mono ?_) | (with_reducible refine (cents_Fits.calls b true _ FB.out).mono ?_) | (with_reducible refine (cents_Fits.calls c true _ FC.out).mono ?_)); rintro e w' ⟨rfl, ⟨nd, rfl⟩⟩))
          go_ret2
          exact ⟨rfl, by repeat (first | exact Drawn0.refl _ | apply Drawn0.step)⟩
        · have d1 : decide (mode < 1) = false := decide_eq_false h1
          have d2 : decide (5 < mode) = true := decide_eq_true (by omega)
          clear hm h1
          go_enter Try.func24, Try.ntmps24
          go_wp2_with (go_at_call 38; ((first | (with_reducible refine (cents_Fits.calls a true _ FA.out).mono ?_) | (with_reducible refine (cents_Fits.calls b true _ FB.out).mono ?_) | (with_reducible refine (cents_Fits.calls c true _ FC.out).mono ?_)); rintro e w' ⟨rfl, ⟨nd, rfl⟩⟩))
          go_ret2
          exact ⟨rfl, by repeat (first | exact Drawn0.refl _ | apply Drawn0.step)⟩
set_option maxHeartbeats 8000000 in
set_option maxRecDepth 100000 in
theorem md_zero (a b mode : Int) (w : World) (fa : cents_Fits.f a = some true) (fb : cents_Fits.f b = some true) (fc : cents_Fits.f 0 = some true) (m1 : 1 ≤ mode) (m2 : mode ≤ 5) :
    Calls Try.prog 24 #[.int .i64 a, .int .i64 b, .int .i64 0, .int .i64 mode] w fun e w' => e = .returned (.tuple #[.int .i64 0, .int .i64 4]) ∧ Drawn0 w w' := by
  have FA := Aside0.mk fa
  have FB := Aside0.mk fb
  have FC := Aside0.mk fc
  clear fa fb fc
  go_enter Try.func24, Try.ntmps24
  go_wp2_with (go_at_call 38; ((first | (with_reducible refine (cents_Fits.calls a true _ FA.out).mono ?_) | (with_reducible refine (cents_Fits.calls b true _ FB.out).mono ?_) | (with_reducible refine (cents_Fits.calls 0 true _ FC.out).mono ?_)); rintro e w' ⟨rfl, ⟨nd, rfl⟩⟩))
  go_ret2
  exact ⟨rfl, by repeat (first | exact Drawn0.refl _ | apply Drawn0.step)⟩
set_option maxHeartbeats 8000000 in
set_option maxRecDepth 100000 in
theorem md_over (a b c mode by_ h l sa sb : Int) (w : World)
    (fa : cents_Fits.f a = some true) (fb : cents_Fits.f b = some true) (fc : cents_Fits.f c = some true) (m1 : 1 ≤ mode) (m2 : mode ≤ 5) (hc0 : c ≠ 0)
    (s1 : cents_size.f a = some sa) (s2 : cents_size.f b = some sb) (s3 : cents_size.f c = some by_) (hm : bits_Mul64.f sa sb = some (h, l)) (hlt : ¬ h < by_) :
    Calls Try.prog 24 #[.int .i64 a, .int .i64 b, .int .i64 c, .int .i64 mode] w fun e w' => e = .returned (.tuple #[.int .i64 0, .int .i64 3]) ∧ Drawn0 w w' := by
  have FA := Aside0.mk fa
  have FB := Aside0.mk fb
  have FC := Aside0.mk fc
  have S1 := Aside0.mk s1
  have S2 := Aside0.mk s2
  have S3 := Aside0.mk s3
  have HM := Aside0.mk hm
  have cz : (c == 0) = false := by simpa using hc0
  have dh : decide (by_ ≤ h) = true := decide_eq_true (by omega)
  clear fa fb fc s1 s2 s3 hm hc0 hlt
  go_enter Try.func24, Try.ntmps24
  go_wp2_with (first | (go_at_call 38; ((first | (with_reducible refine (cents_Fits.calls a true _ FA.out).mono ?_) | (with_reducible refine (cents_Fits.calls b true _ FB.out).mono ?_) | (with_reducible refine (cents_Fits.calls c true _ FC.out).mono ?_)); rintro e w' ⟨rfl, ⟨nd, rfl⟩⟩)) | (go_at_call 40; ((first | (with_reducible refine (cents_size.calls a _ _ S1.out).mono ?_) | (with_reducible refine (cents_size.calls b _ _ S2.out).mono ?_) | (with_reducible refine (cents_size.calls c _ _ S3.out).mono ?_)); rintro e w' ⟨rfl, ⟨nd, rfl⟩⟩)) | (go_at_call 39; (with_reducible refine (bits_Mul64.calls _ _ _ _ _ HM.out).mono ?_); rintro e w' ⟨rfl, ⟨nd, rfl⟩⟩))
  go_ret2
  exact ⟨rfl, by repeat (first | exact Drawn0.refl _ | apply Drawn0.step)⟩
set_option maxHeartbeats 8000000 in
set_option maxRecDepth 100000 in
theorem md_overq (a b c mode q r by_ h l sa sb : Int) (w : World) (k : Nat)
    (fa : cents_Fits.f a = some true) (fb : cents_Fits.f b = some true) (fc : cents_Fits.f c = some true) (m1 : 1 ≤ mode) (m2 : mode ≤ 5) (hc0 : c ≠ 0)
    (s1 : cents_size.f a = some sa) (s2 : cents_size.f b = some sb) (s3 : cents_size.f c = some by_) (hm : bits_Mul64.f sa sb = some (h, l)) (hlt : h < by_) (hd : bits_Div64.f k h l by_ = some (q, r)) (hq : ¬ q ≤ 1152921504606846976) :
    Calls Try.prog 24 #[.int .i64 a, .int .i64 b, .int .i64 c, .int .i64 mode] w fun e w' => e = .returned (.tuple #[.int .i64 0, .int .i64 3]) ∧ Drawn0 w w' := by
  have FA := Aside0.mk fa
  have FB := Aside0.mk fb
  have FC := Aside0.mk fc
  have S1 := Aside0.mk s1
  have S2 := Aside0.mk s2
  have S3 := Aside0.mk s3
  have HM := Aside0.mk hm
  have HD := Aside0.mk hd
  have cz : (c == 0) = false := by simpa using hc0
  have dh : decide (by_ ≤ h) = false := decide_eq_false (by omega)
  have dq : decide (1152921504606846976 < q) = true := decide_eq_true (by omega)
  clear fa fb fc s1 s2 s3 hm hc0 hlt hq hd
  go_enter Try.func24, Try.ntmps24
  go_wp2_with (first | (go_at_call 38; ((first | (with_reducible refine (cents_Fits.calls a true _ FA.out).mono ?_) | (with_reducible refine (cents_Fits.calls b true _ FB.out).mono ?_) | (with_reducible refine (cents_Fits.calls c true _ FC.out).mono ?_)); rintro e w' ⟨rfl, ⟨nd, rfl⟩⟩)) | (go_at_call 40; ((first | (with_reducible refine (cents_size.calls a _ _ S1.out).mono ?_) | (with_reducible refine (cents_size.calls b _ _ S2.out).mono ?_) | (with_reducible refine (cents_size.calls c _ _ S3.out).mono ?_)); rintro e w' ⟨rfl, ⟨nd, rfl⟩⟩)) | (go_at_call 39; (with_reducible refine (bits_Mul64.calls _ _ _ _ _ HM.out).mono ?_); rintro e w' ⟨rfl, ⟨nd, rfl⟩⟩) | (go_at_call 41; (with_reducible refine (bits_Div64.calls k _ _ _ _ _ _ HD.out).mono ?_); rintro e w' ⟨rfl, ⟨nd, rfl⟩⟩))
  go_ret2
  exact ⟨rfl, by repeat (first | exact Drawn0.refl _ | apply Drawn0.step)⟩
set_option maxHeartbeats 40000000 in
set_option maxRecDepth 100000 in
theorem md_even (a b c mode q by_ h l sa sb r1 r2 : Int) (x y z bl : Bool) (w : World) (k : Nat)
    (fa : cents_Fits.f a = some true) (fb : cents_Fits.f b = some true) (fc : cents_Fits.f c = some true) (m1 : 1 ≤ mode) (m2 : mode ≤ 5) (hc0 : c ≠ 0)
    (s1 : cents_size.f a = some sa) (s2 : cents_size.f b = some sb) (s3 : cents_size.f c = some by_) (hm : bits_Mul64.f sa sb = some (h, l)) (hlt : h < by_) (hd : bits_Div64.f k h l by_ = some (q, 0)) (hq : q ≤ 1152921504606846976)
    (ba : decide (a < 0) = x) (bb : decide (b < 0) = y) (bc : decide (c < 0) = z) (hbl : (!(!(x == y) == z)) = bl) (hs : cents_signed.f q bl = some (r1, r2)) :
    Calls Try.prog 24 #[.int .i64 a, .int .i64 b, .int .i64 c, .int .i64 mode] w fun e w' => e = .returned (.tuple #[.int .i64 r1, .int .i64 r2]) ∧ Drawn0 w w' := by
  have FA := Aside0.mk fa
  have FB := Aside0.mk fb
  have FC := Aside0.mk fc
  have S1 := Aside0.mk s1
  have S2 := Aside0.mk s2
  have S3 := Aside0.mk s3
  have HM := Aside0.mk hm
  have HD := Aside0.mk hd
  have HS := Aside0.mk hs
  have cz : (c == 0) = false := by simpa using hc0
  have dh : decide (by_ ≤ h) = false := decide_eq_false (by omega)
  have dq : decide (1152921504606846976 < q) = false := decide_eq_false (by omega)
  clear fa fb fc s1 s2 s3 hm hc0 hlt hq hd hs
  cases x <;> cases y <;> cases z <;> cases bl <;> first
    | exact absurd hbl (by decide)
    | (clear hbl
       go_enter Try.func24, Try.ntmps24
       go_wp2_with (first | (go_at_call 38; ((first | (with_reducible refine (cents_Fits.calls a true _ FA.out).mono ?_) | (with_reducible refine (cents_Fits.calls b true _ FB.out).mono ?_) | (with_reducible refine (cents_Fits.calls c true _ FC.out).mono ?_)); rintro e w' ⟨rfl, ⟨nd, rfl⟩⟩)) | (go_at_call 40; ((first | (with_reducible refine (cents_size.calls a _ _ S1.out).mono ?_) | (with_reducible refine (cents_size.calls b _ _ S2.out).mono ?_) | (with_reducible refine (cents_size.calls c _ _ S3.out).mono ?_)); rintro e w' ⟨rfl, ⟨nd, rfl⟩⟩)) | (go_at_call 39; (with_reducible refine (bits_Mul64.calls _ _ _ _ _ HM.out).mono ?_); rintro e w' ⟨rfl, ⟨nd, rfl⟩⟩) | (go_at_call 41; (with_reducible refine (bits_Div64.calls k _ _ _ _ _ _ HD.out).mono ?_); rintro e w' ⟨rfl, ⟨nd, rfl⟩⟩) | (go_at_call 43; (with_reducible refine (cents_signed.calls _ _ _ _ _ HS.out).mono ?_); rintro e w' ⟨rfl, ⟨nd, rfl⟩⟩))
       go_ret2
       exact ⟨rfl, by repeat (first | exact Drawn0.refl _ | apply Drawn0.step)⟩)
set_option maxHeartbeats 40000000 in
set_option maxRecDepth 100000 in
theorem md_odd (a b c mode q r by_ h l sa sb r1 r2 : Int) (x y z bl ab : Bool) (w : World) (k : Nat)
    (fa : cents_Fits.f a = some true) (fb : cents_Fits.f b = some true) (fc : cents_Fits.f c = some true) (m1 : 1 ≤ mode) (m2 : mode ≤ 5) (hc0 : c ≠ 0)
    (s1 : cents_size.f a = some sa) (s2 : cents_size.f b = some sb) (s3 : cents_size.f c = some by_) (hm : bits_Mul64.f sa sb = some (h, l)) (hlt : h < by_) (hd : bits_Div64.f k h l by_ = some (q, r)) (hq0 : 0 ≤ q) (hq : q ≤ 1152921504606846976) (hr : r > 0) (hr1 : r < by_) (hb1 : by_ ≤ 1152921504606846976)
    (ba : decide (a < 0) = x) (bb : decide (b < 0) = y) (bc : decide (c < 0) = z) (hbl : (!(!(x == y) == z)) = bl) (hab : awayB mode bl q r by_ = ab) (hs : cents_signed.f (if ab = true then q + 1 else q) bl = some (r1, r2)) :
    Calls Try.prog 24 #[.int .i64 a, .int .i64 b, .int .i64 c, .int .i64 mode] w fun e w' => e = .returned (.tuple #[.int .i64 r1, .int .i64 r2]) ∧ Below w.heap.size w w' := by
  have HX := fun (bl' : Bool) (gm ga : Nat) (W : World) c1 c2 => away1_any mode bl' q r by_ gm ga W ⟨hq0, hq⟩ ⟨by omega, hr1⟩ hb1 c1 c2
  have FA := Aside0.mk fa
  have FB := Aside0.mk fb
  have FC := Aside0.mk fc
  have S1 := Aside0.mk s1
  have S2 := Aside0.mk s2
  have S3 := Aside0.mk s3
  have HM := Aside0.mk hm
  have HD := Aside0.mk hd
  have HS := Aside0.mk hs
  have HA := Aside0.mk hab
  have HXX := Aside0.mk HX
  have cz : (c == 0) = false := by simpa using hc0
  have dh : decide (by_ ≤ h) = false := decide_eq_false (by omega)
  have dq : decide (1152921504606846976 < q) = false := decide_eq_false (by omega)
  have dr : decide (0 < r) = true := decide_eq_true hr
  clear fa fb fc s1 s2 s3 hm hc0 hlt hd hs hab HX hr hr1 hb1
  cases x <;> cases y <;> cases z <;> cases bl <;> first
    | exact absurd hbl (by decide)
    | (clear hbl
       go_enter Try.func24, Try.ntmps24
       go_wp2_with (first | (go_at_call 38; ((first | (with_reducible refine (cents_Fits.calls a true _ FA.out).mono ?_) | (with_reducible refine (cents_Fits.calls b true _ FB.out).mono ?_) | (with_reducible refine (cents_Fits.calls c true _ FC.out).mono ?_)); rintro e w' ⟨rfl, ⟨nd, rfl⟩⟩)) | (go_at_call 40; ((first | (with_reducible refine (cents_size.calls a _ _ S1.out).mono ?_) | (with_reducible refine (cents_size.calls b _ _ S2.out).mono ?_) | (with_reducible refine (cents_size.calls c _ _ S3.out).mono ?_)); rintro e w' ⟨rfl, ⟨nd, rfl⟩⟩)) | (go_at_call 39; (with_reducible refine (bits_Mul64.calls _ _ _ _ _ HM.out).mono ?_); rintro e w' ⟨rfl, ⟨nd, rfl⟩⟩) | (go_at_call 41; (with_reducible refine (bits_Div64.calls k _ _ _ _ _ _ HD.out).mono ?_); rintro e w' ⟨rfl, ⟨nd, rfl⟩⟩))
       refine (away_box mode _ _).mono ?_
       rintro e wb ⟨gm, ga, rfl, c1, c2, hb⟩
       go_wp2_with fail
       refine (HXX.out _ gm ga _ c1 c2).mono ?_
       rintro e wc ⟨rfl, hd⟩
       have HBB := Aside0.mk (below_step (pw_below_drewN (Below.refl w.heap.size w) _) (below_step hb hd.below))
       rw [HA.out]
       clear c1 c2 hb hd
       cases ab
       · have HS2 : Aside0 (cents_signed.f q _ = some (r1, r2)) := HS
         go_wp2_with (go_at_call 43; (with_reducible refine (cents_signed.calls _ _ _ _ _ HS2.out).mono ?_); rintro e w' ⟨rfl, ⟨nd, rfl⟩⟩)
         go_ret2
         exact ⟨rfl, pw_below_drewN HBB.out _⟩
       · have HS2 : Aside0 (cents_signed.f (q + 1) _ = some (r1, r2)) := HS
         go_wp2_with (go_at_call 43; (with_reducible refine (cents_signed.calls _ _ _ _ _ HS2.out).mono ?_); rintro e w' ⟨rfl, ⟨nd, rfl⟩⟩)
         go_ret2
         exact ⟨rfl, pw_below_drewN HBB.out _⟩)
theorem cents_MulDiv.calls (k : Nat) (a0 : Int) (a1 : Int) (a2 : Int) (a3 : Int) (r1 : Int) (r2 : Int) (w : World) (h : cents_MulDiv.f k a0 a1 a2 a3 = some (r1, r2)) :
    Calls Try.prog 24 #[.int .i64 a0, .int .i64 a1, .int .i64 a2, .int .i64 a3] w fun e w' => e = .returned (.tuple #[.int .i64 r1, .int .i64 r2]) ∧ Below w.heap.size w w' := by
  have quiet : ∀ {e0 : Ending}, (Calls Try.prog 24 #[.int .i64 a0, .int .i64 a1, .int .i64 a2, .int .i64 a3] w fun e w' => e = e0 ∧ Drawn0 w w') → Calls Try.prog 24 #[.int .i64 a0, .int .i64 a1, .int .i64 a2, .int .i64 a3] w fun e w' => e = e0 ∧ Below w.heap.size w w' := fun hq => hq.mono (fun _ _ hh => ⟨hh.1, hh.2.below⟩)
  unfold cents_MulDiv.f at h
  obtain ⟨fa, hfa, h⟩ := Option.bind_eq_some_iff.1 h
  cases fa with
  | false =>
    rw [if_neg (by decide)] at h
    simp only [Option.some.injEq, Prod.mk.injEq] at h
    obtain ⟨rfl, rfl⟩ := h
    exact quiet (md_args a0 a1 a2 a3 false false false w hfa (fun h => Bool.noConfusion h) (fun h => Bool.noConfusion h) (fun h => Bool.noConfusion h))
  | true =>
  rw [if_pos rfl] at h
  obtain ⟨fb, hfb, h⟩ := Option.bind_eq_some_iff.1 h
  cases fb with
  | false =>
    rw [if_neg (by decide)] at h
    simp only [Option.some.injEq, Prod.mk.injEq] at h
    obtain ⟨rfl, rfl⟩ := h
    exact quiet (md_args a0 a1 a2 a3 true false false w hfa (fun _ => hfb) (fun _ h => Bool.noConfusion h) (fun _ h => Bool.noConfusion h))
  | true =>
  rw [if_pos rfl] at h
  obtain ⟨fc, hfc, h⟩ := Option.bind_eq_some_iff.1 h
  cases fc with
  | false =>
    rw [if_neg (by decide)] at h
    simp only [Option.some.injEq, Prod.mk.injEq] at h
    obtain ⟨rfl, rfl⟩ := h
    exact quiet (md_args a0 a1 a2 a3 true true false w hfa (fun _ => hfb) (fun _ _ => hfc) (fun _ _ h => Bool.noConfusion h))
  | true =>
  rw [if_pos rfl] at h
  by_cases hm : a3 < 1 ∨ a3 > 5
  · rw [if_pos hm] at h
    simp only [Option.some.injEq, Prod.mk.injEq] at h
    obtain ⟨rfl, rfl⟩ := h
    exact quiet (md_args a0 a1 a2 a3 true true true w hfa (fun _ => hfb) (fun _ _ => hfc) (fun _ _ _ => hm))
  rw [if_neg hm] at h
  by_cases hz : a2 = 0
  · rw [if_pos hz] at h
    simp only [Option.some.injEq, Prod.mk.injEq] at h
    obtain ⟨rfl, rfl⟩ := h
    subst hz
    exact quiet (md_zero a0 a1 a3 w hfa hfb hfc (by omega) (by omega))
  rw [if_neg hz] at h
  obtain ⟨sa, hsa, h⟩ := Option.bind_eq_some_iff.1 h
  obtain ⟨sb, hsb, h⟩ := Option.bind_eq_some_iff.1 h
  obtain ⟨⟨hi, lo⟩, hmul, h⟩ := Option.bind_eq_some_iff.1 h
  obtain ⟨by_, hby, h⟩ := Option.bind_eq_some_iff.1 h
  simp only at h
  by_cases hge : hi ≥ by_
  · rw [if_pos hge] at h
    simp only [Option.some.injEq, Prod.mk.injEq] at h
    obtain ⟨rfl, rfl⟩ := h
    exact quiet (md_over a0 a1 a2 a3 by_ hi lo sa sb w hfa hfb hfc (by omega) (by omega) hz hsa hsb hby hmul (by omega))
  rw [if_neg hge] at h
  obtain ⟨⟨q, r⟩, hdiv, h⟩ := Option.bind_eq_some_iff.1 h
  simp only at h
  by_cases hq : q > 1152921504606846976
  · rw [if_pos hq] at h
    simp only [Option.some.injEq, Prod.mk.injEq] at h
    obtain ⟨rfl, rfl⟩ := h
    exact quiet (md_overq a0 a1 a2 a3 q r by_ hi lo sa sb w k hfa hfb hfc (by omega) (by omega) hz hsa hsb hby hmul (by omega) hdiv (by omega))
  rw [if_neg hq] at h
  by_cases hr : r > 0
  · rw [if_pos hr] at h
    by_cases hrng : 0 ≤ q ∧ r < by_ ∧ by_ ≤ 1152921504606846976
    · rw [if_pos hrng] at h
      refine md_odd a0 a1 a2 a3 q r by_ hi lo sa sb r1 r2 _ _ _ (belowB a0 a1 a2) _ w k hfa hfb hfc (by omega) (by omega) hz hsa hsb hby hmul (by omega) hdiv hrng.1 (by omega) hr hrng.2.1 hrng.2.2 rfl rfl rfl rfl rfl ?_
      by_cases ha : awayB a3 (belowB a0 a1 a2) q r by_ = true
      · rw [if_pos ha] at h ⊢; exact h
      · rw [if_neg ha] at h ⊢; exact h
    · rw [if_neg hrng] at h; cases h
  · rw [if_neg hr] at h
    by_cases hr0 : r = 0
    · rw [if_pos hr0] at h
      subst hr0
      exact quiet (md_even a0 a1 a2 a3 q by_ hi lo sa sb r1 r2 _ _ _ (belowB a0 a1 a2) w k hfa hfb hfc (by omega) (by omega) hz hsa hsb hby hmul (by omega) hdiv (by omega) rfl rfl rfl rfl h)
    · rw [if_neg hr0] at h; cases h

/-! ### haircut_Part: function 13 -/
def haircut_Part.j0 : Nat → Int → Int → Bool → Option (Int × Int)
  | 0, _, _, _ => none
  | k + 1, x0, x1, x20 => if x20 = true then (some (0, 2)) else (if x1 = 0 then (some (0, 0)) else ((cents_MulDiv.f k x0 1000000 x1 2).bind fun bt170 => (some (bt170.1, bt170.2))))
def haircut_Part.f (k : Nat) (a0 : Int) (a1 : Int) : Option (Int × Int) := if a0 < 0 then (haircut_Part.j0 k a0 a1 true) else (if a1 < 0 then (haircut_Part.j0 k a0 a1 true) else (if a1 > 1152921504606846976 then (haircut_Part.j0 k a0 a1 true) else (haircut_Part.j0 k a0 a1 (decide (a0 > a1)))))
theorem haircut_Part.mono_l : ∀ k, (∀ y0 y1 y2, LeO (haircut_Part.j0 k y0 y1 y2) (haircut_Part.j0 (k + 1) y0 y1 y2))
  | 0 => fun _ _ _ r h => by simp [haircut_Part.j0] at h
  | k + 1 => by
    have ih0 := haircut_Part.mono_l k
    · intro y0 y1 y2
      unfold haircut_Part.j0
      repeat' first
      | (with_reducible exact ih0 _ _ _)
      | (with_reducible exact cents_MulDiv.mono _ _ _ _ _)
      | (with_reducible exact LeO.refl _)
      | (with_reducible exact LeO.none _)
      | (with_reducible refine LeO.ite ?_ ?_)
      | (with_reducible refine LeO.bind ?_ (fun _ => ?_))
      | exact ih0 _ _ _
      | exact cents_MulDiv.mono _ _ _ _ _
      | exact LeO.none _
      | refine LeO.ite ?_ ?_
      | refine LeO.bind ?_ (fun _ => ?_)
theorem haircut_Part.mono : ∀ a0 a1 k, LeO (haircut_Part.f k a0 a1) (haircut_Part.f (k + 1) a0 a1) := by
  intro a0 a1 k
  have ih0 := haircut_Part.mono_l k
  unfold haircut_Part.f
  repeat' first
      | (with_reducible exact ih0 _ _ _)
      | (with_reducible exact cents_MulDiv.mono _ _ _ _ _)
      | (with_reducible exact LeO.refl _)
      | (with_reducible exact LeO.none _)
      | (with_reducible refine LeO.ite ?_ ?_)
      | (with_reducible refine LeO.bind ?_ (fun _ => ?_))
      | exact ih0 _ _ _
      | exact cents_MulDiv.mono _ _ _ _ _
      | exact LeO.none _
      | refine LeO.ite ?_ ?_
      | refine LeO.bind ?_ (fun _ => ?_)
set_option maxHeartbeats 8000000 in
set_option maxRecDepth 100000 in
theorem haircut_Part.calls (k : Nat) (a0 : Int) (a1 : Int) (r1 : Int) (r2 : Int) (w : World) (h : haircut_Part.f k a0 a1 = some (r1, r2)) :
    Calls Try.prog 13 #[.int .i64 a0, .int .i64 a1] w fun e w' => e = .returned (.tuple #[.int .i64 r1, .int .i64 r2]) ∧ Below w.heap.size w w' := by
  have HB := Aside0.mk (Below.refl w.heap.size w)
  have H : (if a0 < 0 then (haircut_Part.j0 k a0 a1 true) else (if a1 < 0 then (haircut_Part.j0 k a0 a1 true) else (if a1 > 1152921504606846976 then (haircut_Part.j0 k a0 a1 true) else (haircut_Part.j0 k a0 a1 (decide (a0 > a1)))))) = some (r1, r2) := h
  clear h
  have HC3 := Aside0.mk H
  clear H
  go_enter Try.func13, Try.ntmps13
  go_upto_region 1 with (fail)
  go_cut [20] (fun v20 wc => ∃ (kq : Nat) (x20_2 : Bool), v20 = .bool x20_2 ∧ Aside0 (haircut_Part.j0 kq a0 a1 x20_2 = some (r1, r2)) ∧ Aside0 (kq ≤ k) ∧ Aside0 (Below w.heap.size w wc))
  case first =>
    have H := HC3.out
    clear HC3
    by_cases c4 : a0 < 0
    · rw [if_pos c4] at H
      have c4b0 : decide (a0 < 0) = true := decide_eq_true c4
      clear c4
      (first | rw [c4b0] | (simp only [i64_w, i32_w]; rw [c4b0]) | skip)
      have H' := Aside0.mk H
      clear H
      go_wp2
      go_meet
      case rel => exact ⟨_, (true), (by first | rfl | (simp; done) | (simp [*]; done)), H', ⟨by first | omega | exact Nat.le_refl _⟩, ⟨by repeat (first | (with_reducible first | exact HB.out | apply below_alloc | apply pw_below_drewN | apply below_drew1) | exact HB.out)⟩⟩
    · rw [if_neg c4] at H
      have c4b0 : decide (a0 < 0) = false := decide_eq_false c4
      clear c4
      (first | rw [c4b0] | (simp only [i64_w, i32_w]; rw [c4b0]) | skip)
      by_cases c5 : a1 < 0
      · rw [if_pos c5] at H
        have c5b0 : decide (a1 < 0) = true := decide_eq_true c5
        clear c5
        have H' := Aside0.mk H
        clear H
        go_wp2
        go_meet
        case rel => exact ⟨_, (true), (by first | rfl | (simp; done) | (simp [*]; done)), H', ⟨by first | omega | exact Nat.le_refl _⟩, ⟨by repeat (first | (with_reducible first | exact HB.out | apply below_alloc | apply pw_below_drewN | apply below_drew1) | exact HB.out)⟩⟩
      · rw [if_neg c5] at H
        have c5b0 : decide (a1 < 0) = false := decide_eq_false c5
        clear c5
        by_cases c6 : a1 > 1152921504606846976
        · rw [if_pos c6] at H
          have c6b0 : decide (1152921504606846976 < a1) = true := decide_eq_true c6
          clear c6
          have H' := Aside0.mk H
          clear H
          go_wp2
          go_meet
          case rel => exact ⟨_, (true), (by first | rfl | (simp; done) | (simp [*]; done)), H', ⟨by first | omega | exact Nat.le_refl _⟩, ⟨by repeat (first | (with_reducible first | exact HB.out | apply below_alloc | apply pw_below_drewN | apply below_drew1) | exact HB.out)⟩⟩
        · rw [if_neg c6] at H
          have c6b0 : decide (1152921504606846976 < a1) = false := decide_eq_false c6
          clear c6
          have H' := Aside0.mk H
          clear H
          go_wp2
          go_meet
          case rel => exact ⟨_, (decide (a0 > a1)), (by first | rfl | (simp; done) | (simp [*]; done)), H', ⟨by first | omega | exact Nat.le_refl _⟩, ⟨by repeat (first | (with_reducible first | exact HB.out | apply below_alloc | apply pw_below_drewN | apply below_drew1) | exact HB.out)⟩⟩
  case rest =>
    clear HC3
    try clear c1
    try clear p2
    try clear c4
    try clear c4b0
    try clear c5
    try clear c5b0
    try clear c6
    try clear c6b0
    obtain ⟨kq, x20_2, rfl, HA, HJ2, HB⟩ := hcut
    cases kq with
    | zero => exact absurd HA.out (by simp [haircut_Part.j0])
    | succ kj2 =>
      have H := HA.out
      clear HA
      simp only [haircut_Part.j0] at H
      by_cases c7 : x20_2 = true
      · subst c7
        have H1 : (some (0, 2)) = some (r1, r2) := by rw [if_pos rfl] at H; exact H
        clear H
        have H := H1
        clear H1
        simp only [Option.some.injEq, Prod.mk.injEq] at H
        obtain ⟨rfl, rfl⟩ := H
        go_wp2
        go_ret2
        exact ⟨by first | rfl | (simp [errW_none, errW_some] <;> rfl) | (simp [*, errW_none, errW_some] <;> rfl), by repeat (first | (with_reducible first | exact HB.out | apply below_alloc | apply pw_below_drewN | apply below_drew1) | exact HB.out)⟩
      · replace c7 := Bool.eq_false_iff.mpr c7
        subst c7
        have H1 : (if a1 = 0 then (some (0, 0)) else ((cents_MulDiv.f kj2 a0 1000000 a1 2).bind fun bt170 => (some (bt170.1, bt170.2)))) = some (r1, r2) := by rw [if_neg (show ¬ (false = true) by decide)] at H; exact H
        clear H
        have H := H1
        clear H1
        by_cases c8 : a1 = 0
        · rw [if_pos c8] at H
          have c8b0 : (a1 == 0) = true := beq_iff_eq.mpr c8
          have c8b1 : (a1 != 0) = false := bne_eq_false_iff_eq.mpr c8
          clear c8
          simp only [Option.some.injEq, Prod.mk.injEq] at H
          obtain ⟨rfl, rfl⟩ := H
          go_wp2
          go_ret2
          exact ⟨by first | rfl | (simp [errW_none, errW_some] <;> rfl) | (simp [*, errW_none, errW_some] <;> rfl), by repeat (first | (with_reducible first | exact HB.out | apply below_alloc | apply pw_below_drewN | apply below_drew1) | exact HB.out)⟩
        · rw [if_neg c8] at H
          have c8b0 : (a1 == 0) = false := beq_eq_false_iff_ne.mpr c8
          have c8b1 : (a1 != 0) = true := bne_iff_ne.mpr c8
          replace H := Option.bind_eq_some_iff.mp H
          obtain ⟨⟨t170, t171⟩, A90, H⟩ := H
          replace H : (some (t170, t171)) = some (r1, r2) := H
          have A9 := Aside0.mk A90
          clear A90
          simp only [Option.some.injEq, Prod.mk.injEq] at H
          obtain ⟨rfl, rfl⟩ := H
          go_wp2_with (first | ((with_reducible refine gate_callee (f := 24) rfl ?_); refine goesL_ (some 25) rfl rfl Try.func24 (by kernel_rfl) rfl #[.int .i64 a0, .int .i64 1000000, .int .i64 a1, .int .i64 2] rfl (by (try simp only [List.map_toArray, List.map_cons, List.map_nil]); first | done | rfl | (simp only [List.length_drop, List.length_take]; rfl)) ?_; (with_reducible refine (cents_MulDiv.calls kj2 a0 1000000 a1 2 t170 t171 _ A9.out).mono ?_); rintro e w10 ⟨rfl, hb⟩; refine ⟨_, rfl, ?_⟩; have n0_ := Aside0.mk (below_step (by repeat (first | (with_reducible first | exact HB.out | apply below_alloc | apply pw_below_drewN | apply below_drew1) | exact HB.out)) hb); clear HB; have HB := n0_; clear n0_; (try clear hb); (try clear hb2); (try clear hk); (try clear hi)))
          go_ret2
          exact ⟨by first | rfl | (simp [errW_none, errW_some] <;> rfl) | (simp [*, errW_none, errW_some] <;> rfl), by repeat (first | (with_reducible first | exact HB.out | apply below_alloc | apply pw_below_drewN | apply below_drew1) | exact HB.out)⟩

/-! ### contangolaw49_page: function 15 -/
def contangolaw49_page.f  : Option ((List (S35))) := some (([(⟨(⟨#[97]⟩ : ByteArray), 0, 100, 1⟩ : S35), (⟨(⟨#[98]⟩ : ByteArray), 0, (-130), 1⟩ : S35), (⟨(⟨#[99]⟩ : ByteArray), 0, 50, 1⟩ : S35), (⟨(⟨#[100]⟩ : ByteArray), 0, 7, 5⟩ : S35)] : List (S35)))
set_option maxHeartbeats 8000000 in
set_option maxRecDepth 100000 in
theorem contangolaw49_page.calls  (r : List (S35)) (w : World) (h : contangolaw49_page.f  = some r) :
    Calls Try.prog 15 #[] w fun e w' => ∃ v0_ : Value, e = .returned (v0_) ∧ Kd.R k35 35 w' w.heap.size (fun _ => True) v0_ r ∧ Below w.heap.size w w' := by
  have hu35 := Try.underlying35
  have HB := Aside0.mk (Below.refl w.heap.size w)
  have H : (some (([(⟨(⟨#[97]⟩ : ByteArray), 0, 100, 1⟩ : S35), (⟨(⟨#[98]⟩ : ByteArray), 0, (-130), 1⟩ : S35), (⟨(⟨#[99]⟩ : ByteArray), 0, 50, 1⟩ : S35), (⟨(⟨#[100]⟩ : ByteArray), 0, 7, 5⟩ : S35)] : List (S35)))) = some r := h
  clear h
  obtain ⟨y172, hy172⟩ : ∃ y_ : List (S35), y_ = (([(⟨(⟨#[97]⟩ : ByteArray), 0, 100, 1⟩ : S35), (⟨(⟨#[98]⟩ : ByteArray), 0, (-130), 1⟩ : S35), (⟨(⟨#[99]⟩ : ByteArray), 0, 50, 1⟩ : S35), (⟨(⟨#[100]⟩ : ByteArray), 0, 7, 5⟩ : S35)] : List (S35))) := ⟨_, rfl⟩
  replace H : (some y172) = some r := by first | (rw [hy172]; with_reducible exact H) | (have H2_ := (Option.bind_some _ _).symm.trans H; rw [hy172]; with_reducible exact H2_) | (have H2_ := (Option.bind_some _ _).symm.trans H; with_reducible exact H2_) | with_reducible exact H | (rw [hy172]; exact H) | exact H
  have Ny172 := Aside0.mk hy172
  clear hy172
  obtain rfl := Option.some.inj H
  go_enter Try.func15, Try.ntmps15
  go_wp2_with (first | ((with_reducible refine gate_dst (N := 5) rfl ?_); refine Kd.R_lit k35 _ 35 ?hg (N := 5) ?hd (xs := ([(⟨(⟨#[97]⟩ : ByteArray), 0, 100, 1⟩ : S35), (⟨(⟨#[98]⟩ : ByteArray), 0, (-130), 1⟩ : S35), (⟨(⟨#[99]⟩ : ByteArray), 0, 50, 1⟩ : S35), (⟨(⟨#[100]⟩ : ByteArray), 0, 7, 5⟩ : S35)] : List (S35))) (inner := [.string (⟨#[97]⟩ : ByteArray), .int .i64 0, .int .i64 100, .int .i64 1, .string (⟨#[98]⟩ : ByteArray), .int .i64 0, .int .i64 (-130), .int .i64 1, .string (⟨#[99]⟩ : ByteArray), .int .i64 0, .int .i64 50, .int .i64 1, .string (⟨#[100]⟩ : ByteArray), .int .i64 0, .int .i64 7, .int .i64 5]) (ok := fun _ => True) (okp := fun _ => True) ?hr ?hp (fun _ hk => hk) trivial (Below.refl _ _) (Nat.le_refl _) (by simp) ?_; (case hd => rfl); (case hg => rfl); (case hr => first | (go_simp; done) | (go_simp; rfl)); (case hp => exact (Reps.c4 (show Kd.M k35 _ _ _ (⟨(⟨#[97]⟩ : ByteArray), 0, 100, 1⟩ : S35) [.string (⟨#[97]⟩ : ByteArray), .int .i64 0, .int .i64 100, .int .i64 1] from (k35_mkM _ _ _ (⟨(⟨#[97]⟩ : ByteArray), 0, 100, 1⟩ : S35) )) (Reps.c4 (show Kd.M k35 _ _ _ (⟨(⟨#[98]⟩ : ByteArray), 0, (-130), 1⟩ : S35) [.string (⟨#[98]⟩ : ByteArray), .int .i64 0, .int .i64 (-130), .int .i64 1] from (k35_mkM _ _ _ (⟨(⟨#[98]⟩ : ByteArray), 0, (-130), 1⟩ : S35) )) (Reps.c4 (show Kd.M k35 _ _ _ (⟨(⟨#[99]⟩ : ByteArray), 0, 50, 1⟩ : S35) [.string (⟨#[99]⟩ : ByteArray), .int .i64 0, .int .i64 50, .int .i64 1] from (k35_mkM _ _ _ (⟨(⟨#[99]⟩ : ByteArray), 0, 50, 1⟩ : S35) )) (Reps.c4 (show Kd.M k35 _ _ _ (⟨(⟨#[100]⟩ : ByteArray), 0, 7, 5⟩ : S35) [.string (⟨#[100]⟩ : ByteArray), .int .i64 0, .int .i64 7, .int .i64 5] from (k35_mkM _ _ _ (⟨(⟨#[100]⟩ : ByteArray), 0, 7, 5⟩ : S35) )) (Reps.none _ _)))))); intro v173 w1 ho2 hb hg_ hnew_; clear hg_ hnew_; (first | rw [← Ny172.out] at ho2 | (simp only [Int.reduceToNat] at ho2; rw [← Ny172.out] at ho2)); have n0_ := Aside0.mk (Kd.R_lower ho2 (below_size (by repeat (first | (with_reducible first | exact HB.out | apply below_alloc | apply pw_below_drewN | apply below_drew1) | exact HB.out)))); have n1_ := Aside0.mk (below_step (by repeat (first | (with_reducible first | exact HB.out | apply below_alloc | apply pw_below_drewN | apply below_drew1) | exact HB.out)) hb); clear HB; have HO174 := n0_; have HB := n1_; clear n0_ n1_; clear hb ho2))
  go_ret
  exact ⟨_, by first | rfl | (simp [errW_none, errW_some] <;> rfl) | (simp [*, errW_none, errW_some] <;> rfl), by (with_reducible repeat (first | apply Kd.R_alloc | apply Kd.R_drewN | apply Kd.R_drew)); exact HO174.out, by repeat (first | (with_reducible first | exact HB.out | apply below_alloc | apply pw_below_drewN | apply below_drew1) | exact HB.out)⟩

/-! ### contangolaw49_goes: function 7 -/
def contangolaw49_goes.f (k : Nat)  : Option (Bool) := (contangolaw49_page.f).bind fun t175 => (if 0 < (t175.length : Int) then ((some (t175.set (0 : Int).toNat (⟨(rd_T35 t175 0).f0, (rd_T35 t175 0).f1, 79, (rd_T35 t175 0).f3⟩ : S35) : List (S35))).bind fun y178 => (if 2 < (t175.length : Int) then ((contangolaw49_page.f).bind fun t180 => ((haircut_Gains.f k t180 0).bind fun bt183 => ((contangolaw49_page.f).bind fun t185 => ((haircut_Take.f k 31 t185 0).bind fun bt188 => ((contangolaw49_page.f).bind fun t193 => ((haircut_Take.f k 200 t193 0).bind fun bt196 => ((haircut_Part.f k 31 150).bind fun bt201 => (if bt183.1 = 150 then (if bt183.2 = 0 then ((contangoref22_Same.f k bt188.1 (y178.set (2 : Int).toNat (⟨(rd_T35 y178 2).f0, (rd_T35 y178 2).f1, 40, (rd_T35 y178 2).f3⟩ : S35))).bind fun t203 => (if t203 = true then (if bt188.2.1 = 31 then (if bt188.2.2 = 0 then (if (bt196.1.length : Int) = 2 then (if bt196.2.1 = 150 then (if bt196.2.2 = 0 then (if bt201.1 = 206667 then (some (bt201.2 == 0)) else (none)) else (none)) else (none)) else (none)) else (none)) else (none)) else (none))) else (none)) else (none))))))))) else (none))) else (none))
theorem contangolaw49_goes.mono : ∀ k, LeO (contangolaw49_goes.f k ) (contangolaw49_goes.f (k + 1) ) := by
  intro  k
  unfold contangolaw49_goes.f
  repeat' first
      | (with_reducible exact contangoref22_Same.mono _ _ _)
      | (with_reducible exact haircut_Gains.mono _ _ _)
      | (with_reducible exact haircut_Part.mono _ _ _)
      | (with_reducible exact haircut_Take.mono _ _ _ _)
      | (with_reducible exact LeO.refl _)
      | (with_reducible exact LeO.none _)
      | (with_reducible refine LeO.ite ?_ ?_)
      | (with_reducible refine LeO.bind ?_ (fun _ => ?_))
      | exact contangoref22_Same.mono _ _ _
      | exact haircut_Gains.mono _ _ _
      | exact haircut_Part.mono _ _ _
      | exact haircut_Take.mono _ _ _ _
      | exact LeO.none _
      | refine LeO.ite ?_ ?_
      | refine LeO.bind ?_ (fun _ => ?_)
set_option maxHeartbeats 8000000 in
set_option maxRecDepth 100000 in
theorem contangolaw49_goes.calls (k : Nat)  (r : Bool) (w : World) (h : contangolaw49_goes.f k  = some r) :
    Calls Try.prog 7 #[] w fun e w' => e = .returned (.bool r) ∧ Below w.heap.size w w' := by
  have HB := Aside0.mk (Below.refl w.heap.size w)
  have H : ((contangolaw49_page.f).bind fun t175 => (if 0 < (t175.length : Int) then ((some (t175.set (0 : Int).toNat (⟨(rd_T35 t175 0).f0, (rd_T35 t175 0).f1, 79, (rd_T35 t175 0).f3⟩ : S35) : List (S35))).bind fun y178 => (if 2 < (t175.length : Int) then ((contangolaw49_page.f).bind fun t180 => ((haircut_Gains.f k t180 0).bind fun bt183 => ((contangolaw49_page.f).bind fun t185 => ((haircut_Take.f k 31 t185 0).bind fun bt188 => ((contangolaw49_page.f).bind fun t193 => ((haircut_Take.f k 200 t193 0).bind fun bt196 => ((haircut_Part.f k 31 150).bind fun bt201 => (if bt183.1 = 150 then (if bt183.2 = 0 then ((contangoref22_Same.f k bt188.1 (y178.set (2 : Int).toNat (⟨(rd_T35 y178 2).f0, (rd_T35 y178 2).f1, 40, (rd_T35 y178 2).f3⟩ : S35))).bind fun t203 => (if t203 = true then (if bt188.2.1 = 31 then (if bt188.2.2 = 0 then (if (bt196.1.length : Int) = 2 then (if bt196.2.1 = 150 then (if bt196.2.2 = 0 then (if bt201.1 = 206667 then (some (bt201.2 == 0)) else (none)) else (none)) else (none)) else (none)) else (none)) else (none)) else (none))) else (none)) else (none))))))))) else (none))) else (none))) = some r := h
  clear h
  replace H := Option.bind_eq_some_iff.mp H
  obtain ⟨t175, A10, H⟩ := H
  replace H : (if 0 < (t175.length : Int) then ((some (t175.set (0 : Int).toNat (⟨(rd_T35 t175 0).f0, (rd_T35 t175 0).f1, 79, (rd_T35 t175 0).f3⟩ : S35) : List (S35))).bind fun y178 => (if 2 < (t175.length : Int) then ((contangolaw49_page.f).bind fun t180 => ((haircut_Gains.f k t180 0).bind fun bt183 => ((contangolaw49_page.f).bind fun t185 => ((haircut_Take.f k 31 t185 0).bind fun bt188 => ((contangolaw49_page.f).bind fun t193 => ((haircut_Take.f k 200 t193 0).bind fun bt196 => ((haircut_Part.f k 31 150).bind fun bt201 => (if bt183.1 = 150 then (if bt183.2 = 0 then ((contangoref22_Same.f k bt188.1 (y178.set (2 : Int).toNat (⟨(rd_T35 y178 2).f0, (rd_T35 y178 2).f1, 40, (rd_T35 y178 2).f3⟩ : S35))).bind fun t203 => (if t203 = true then (if bt188.2.1 = 31 then (if bt188.2.2 = 0 then (if (bt196.1.length : Int) = 2 then (if bt196.2.1 = 150 then (if bt196.2.2 = 0 then (if bt201.1 = 206667 then (some (bt201.2 == 0)) else (none)) else (none)) else (none)) else (none)) else (none)) else (none)) else (none))) else (none)) else (none))))))))) else (none))) else (none)) = some r := H
  have A1 := Aside0.mk A10
  clear A10
  by_cases c2 : 0 < (t175.length : Int)
  · rw [if_pos c2] at H
    have c2b0 : decide (0 < (t175.length : Int)) = true := decide_eq_true c2
    have c2b1 : decide (0 < t175.length) = true := decide_eq_true (by omega)
    clear c2
    obtain ⟨y178, hy178⟩ : ∃ y_ : List (S35), y_ = (t175.set (0 : Int).toNat (⟨(rd_T35 t175 0).f0, (rd_T35 t175 0).f1, 79, (rd_T35 t175 0).f3⟩ : S35)) := ⟨_, rfl⟩
    replace H : (if 2 < (t175.length : Int) then ((contangolaw49_page.f).bind fun t180 => ((haircut_Gains.f k t180 0).bind fun bt183 => ((contangolaw49_page.f).bind fun t185 => ((haircut_Take.f k 31 t185 0).bind fun bt188 => ((contangolaw49_page.f).bind fun t193 => ((haircut_Take.f k 200 t193 0).bind fun bt196 => ((haircut_Part.f k 31 150).bind fun bt201 => (if bt183.1 = 150 then (if bt183.2 = 0 then ((contangoref22_Same.f k bt188.1 (y178.set (2 : Int).toNat (⟨(rd_T35 y178 2).f0, (rd_T35 y178 2).f1, 40, (rd_T35 y178 2).f3⟩ : S35))).bind fun t203 => (if t203 = true then (if bt188.2.1 = 31 then (if bt188.2.2 = 0 then (if (bt196.1.length : Int) = 2 then (if bt196.2.1 = 150 then (if bt196.2.2 = 0 then (if bt201.1 = 206667 then (some (bt201.2 == 0)) else (none)) else (none)) else (none)) else (none)) else (none)) else (none)) else (none))) else (none)) else (none))))))))) else (none)) = some r := by first | (rw [hy178]; with_reducible exact H) | (have H2_ := (Option.bind_some _ _).symm.trans H; rw [hy178]; with_reducible exact H2_) | (have H2_ := (Option.bind_some _ _).symm.trans H; with_reducible exact H2_) | with_reducible exact H | (rw [hy178]; exact H) | exact H
    have Ny178 := Aside0.mk hy178
    clear hy178
    by_cases c4 : 2 < (t175.length : Int)
    · rw [if_pos c4] at H
      have c4b0 : decide (2 < (t175.length : Int)) = true := decide_eq_true c4
      have c4b1 : decide (2 < t175.length) = true := decide_eq_true (by omega)
      clear c4
      obtain ⟨y179, hy179⟩ : ∃ y_ : List (S35), y_ = (y178.set (2 : Int).toNat (⟨(rd_T35 y178 2).f0, (rd_T35 y178 2).f1, 40, (rd_T35 y178 2).f3⟩ : S35)) := ⟨_, rfl⟩
      replace H : ((contangolaw49_page.f).bind fun t180 => ((haircut_Gains.f k t180 0).bind fun bt183 => ((contangolaw49_page.f).bind fun t185 => ((haircut_Take.f k 31 t185 0).bind fun bt188 => ((contangolaw49_page.f).bind fun t193 => ((haircut_Take.f k 200 t193 0).bind fun bt196 => ((haircut_Part.f k 31 150).bind fun bt201 => (if bt183.1 = 150 then (if bt183.2 = 0 then ((contangoref22_Same.f k bt188.1 y179).bind fun t203 => (if t203 = true then (if bt188.2.1 = 31 then (if bt188.2.2 = 0 then (if (bt196.1.length : Int) = 2 then (if bt196.2.1 = 150 then (if bt196.2.2 = 0 then (if bt201.1 = 206667 then (some (bt201.2 == 0)) else (none)) else (none)) else (none)) else (none)) else (none)) else (none)) else (none))) else (none)) else (none))))))))) = some r := by first | (rw [hy179]; with_reducible exact H) | (have H2_ := (Option.bind_some _ _).symm.trans H; rw [hy179]; with_reducible exact H2_) | (have H2_ := (Option.bind_some _ _).symm.trans H; with_reducible exact H2_) | with_reducible exact H | (rw [hy179]; exact H) | exact H
      have Ny179 := Aside0.mk hy179
      clear hy179
      replace H := Option.bind_eq_some_iff.mp H
      obtain ⟨t180, A60, H⟩ := H
      replace H : ((haircut_Gains.f k t180 0).bind fun bt183 => ((contangolaw49_page.f).bind fun t185 => ((haircut_Take.f k 31 t185 0).bind fun bt188 => ((contangolaw49_page.f).bind fun t193 => ((haircut_Take.f k 200 t193 0).bind fun bt196 => ((haircut_Part.f k 31 150).bind fun bt201 => (if bt183.1 = 150 then (if bt183.2 = 0 then ((contangoref22_Same.f k bt188.1 y179).bind fun t203 => (if t203 = true then (if bt188.2.1 = 31 then (if bt188.2.2 = 0 then (if (bt196.1.length : Int) = 2 then (if bt196.2.1 = 150 then (if bt196.2.2 = 0 then (if bt201.1 = 206667 then (some (bt201.2 == 0)) else (none)) else (none)) else (none)) else (none)) else (none)) else (none)) else (none))) else (none)) else (none)))))))) = some r := H
      have A6 := Aside0.mk A60
      clear A60
      replace H := Option.bind_eq_some_iff.mp H
      obtain ⟨⟨t183, t184⟩, A70, H⟩ := H
      replace H : ((contangolaw49_page.f).bind fun t185 => ((haircut_Take.f k 31 t185 0).bind fun bt188 => ((contangolaw49_page.f).bind fun t193 => ((haircut_Take.f k 200 t193 0).bind fun bt196 => ((haircut_Part.f k 31 150).bind fun bt201 => (if t183 = 150 then (if t184 = 0 then ((contangoref22_Same.f k bt188.1 y179).bind fun t203 => (if t203 = true then (if bt188.2.1 = 31 then (if bt188.2.2 = 0 then (if (bt196.1.length : Int) = 2 then (if bt196.2.1 = 150 then (if bt196.2.2 = 0 then (if bt201.1 = 206667 then (some (bt201.2 == 0)) else (none)) else (none)) else (none)) else (none)) else (none)) else (none)) else (none))) else (none)) else (none))))))) = some r := H
      have A7 := Aside0.mk A70
      clear A70
      replace H := Option.bind_eq_some_iff.mp H
      obtain ⟨t185, A80, H⟩ := H
      replace H : ((haircut_Take.f k 31 t185 0).bind fun bt188 => ((contangolaw49_page.f).bind fun t193 => ((haircut_Take.f k 200 t193 0).bind fun bt196 => ((haircut_Part.f k 31 150).bind fun bt201 => (if t183 = 150 then (if t184 = 0 then ((contangoref22_Same.f k bt188.1 y179).bind fun t203 => (if t203 = true then (if bt188.2.1 = 31 then (if bt188.2.2 = 0 then (if (bt196.1.length : Int) = 2 then (if bt196.2.1 = 150 then (if bt196.2.2 = 0 then (if bt201.1 = 206667 then (some (bt201.2 == 0)) else (none)) else (none)) else (none)) else (none)) else (none)) else (none)) else (none))) else (none)) else (none)))))) = some r := H
      have A8 := Aside0.mk A80
      clear A80
      replace H := Option.bind_eq_some_iff.mp H
      obtain ⟨⟨t188, t189, t190⟩, A90, H⟩ := H
      replace H : ((contangolaw49_page.f).bind fun t193 => ((haircut_Take.f k 200 t193 0).bind fun bt196 => ((haircut_Part.f k 31 150).bind fun bt201 => (if t183 = 150 then (if t184 = 0 then ((contangoref22_Same.f k t188 y179).bind fun t203 => (if t203 = true then (if t189 = 31 then (if t190 = 0 then (if (bt196.1.length : Int) = 2 then (if bt196.2.1 = 150 then (if bt196.2.2 = 0 then (if bt201.1 = 206667 then (some (bt201.2 == 0)) else (none)) else (none)) else (none)) else (none)) else (none)) else (none)) else (none))) else (none)) else (none))))) = some r := H
      have A9 := Aside0.mk A90
      clear A90
      replace H := Option.bind_eq_some_iff.mp H
      obtain ⟨t193, A100, H⟩ := H
      replace H : ((haircut_Take.f k 200 t193 0).bind fun bt196 => ((haircut_Part.f k 31 150).bind fun bt201 => (if t183 = 150 then (if t184 = 0 then ((contangoref22_Same.f k t188 y179).bind fun t203 => (if t203 = true then (if t189 = 31 then (if t190 = 0 then (if (bt196.1.length : Int) = 2 then (if bt196.2.1 = 150 then (if bt196.2.2 = 0 then (if bt201.1 = 206667 then (some (bt201.2 == 0)) else (none)) else (none)) else (none)) else (none)) else (none)) else (none)) else (none))) else (none)) else (none)))) = some r := H
      have A10 := Aside0.mk A100
      clear A100
      replace H := Option.bind_eq_some_iff.mp H
      obtain ⟨⟨t196, t197, t198⟩, A110, H⟩ := H
      replace H : ((haircut_Part.f k 31 150).bind fun bt201 => (if t183 = 150 then (if t184 = 0 then ((contangoref22_Same.f k t188 y179).bind fun t203 => (if t203 = true then (if t189 = 31 then (if t190 = 0 then (if (t196.length : Int) = 2 then (if t197 = 150 then (if t198 = 0 then (if bt201.1 = 206667 then (some (bt201.2 == 0)) else (none)) else (none)) else (none)) else (none)) else (none)) else (none)) else (none))) else (none)) else (none))) = some r := H
      have A11 := Aside0.mk A110
      clear A110
      replace H := Option.bind_eq_some_iff.mp H
      obtain ⟨⟨t201, t202⟩, A120, H⟩ := H
      replace H : (if t183 = 150 then (if t184 = 0 then ((contangoref22_Same.f k t188 y179).bind fun t203 => (if t203 = true then (if t189 = 31 then (if t190 = 0 then (if (t196.length : Int) = 2 then (if t197 = 150 then (if t198 = 0 then (if t201 = 206667 then (some (t202 == 0)) else (none)) else (none)) else (none)) else (none)) else (none)) else (none)) else (none))) else (none)) else (none)) = some r := H
      have A12 := Aside0.mk A120
      clear A120
      by_cases c13 : t183 = 150
      · rw [if_pos c13] at H
        have c13b0 : (t183 == 150) = true := beq_iff_eq.mpr c13
        have c13b1 : (t183 != 150) = false := bne_eq_false_iff_eq.mpr c13
        clear c13
        by_cases c14 : t184 = 0
        · rw [if_pos c14] at H
          have c14b0 : (t184 == 0) = true := beq_iff_eq.mpr c14
          have c14b1 : (t184 != 0) = false := bne_eq_false_iff_eq.mpr c14
          clear c14
          replace H := Option.bind_eq_some_iff.mp H
          obtain ⟨t203, A150, H⟩ := H
          replace H : (if t203 = true then (if t189 = 31 then (if t190 = 0 then (if (t196.length : Int) = 2 then (if t197 = 150 then (if t198 = 0 then (if t201 = 206667 then (some (t202 == 0)) else (none)) else (none)) else (none)) else (none)) else (none)) else (none)) else (none)) = some r := H
          have A15 := Aside0.mk A150
          clear A150
          by_cases c16 : t203 = true
          · subst c16
            have H1 : (if t189 = 31 then (if t190 = 0 then (if (t196.length : Int) = 2 then (if t197 = 150 then (if t198 = 0 then (if t201 = 206667 then (some (t202 == 0)) else (none)) else (none)) else (none)) else (none)) else (none)) else (none)) = some r := by rw [if_pos rfl] at H; exact H
            clear H
            have H := H1
            clear H1
            by_cases c17 : t189 = 31
            · rw [if_pos c17] at H
              have c17b0 : (t189 == 31) = true := beq_iff_eq.mpr c17
              have c17b1 : (t189 != 31) = false := bne_eq_false_iff_eq.mpr c17
              clear c17
              by_cases c18 : t190 = 0
              · rw [if_pos c18] at H
                have c18b0 : (t190 == 0) = true := beq_iff_eq.mpr c18
                have c18b1 : (t190 != 0) = false := bne_eq_false_iff_eq.mpr c18
                clear c18
                by_cases c19 : (t196.length : Int) = 2
                · rw [if_pos c19] at H
                  have c19b0 : ((t196.length : Int) == 2) = true := beq_iff_eq.mpr c19
                  have c19b1 : ((t196.length : Int) != 2) = false := bne_eq_false_iff_eq.mpr c19
                  clear c19
                  by_cases c20 : t197 = 150
                  · rw [if_pos c20] at H
                    have c20b0 : (t197 == 150) = true := beq_iff_eq.mpr c20
                    have c20b1 : (t197 != 150) = false := bne_eq_false_iff_eq.mpr c20
                    clear c20
                    by_cases c21 : t198 = 0
                    · rw [if_pos c21] at H
                      have c21b0 : (t198 == 0) = true := beq_iff_eq.mpr c21
                      have c21b1 : (t198 != 0) = false := bne_eq_false_iff_eq.mpr c21
                      clear c21
                      by_cases c22 : t201 = 206667
                      · rw [if_pos c22] at H
                        have c22b0 : (t201 == 206667) = true := beq_iff_eq.mpr c22
                        have c22b1 : (t201 != 206667) = false := bne_eq_false_iff_eq.mpr c22
                        clear c22
                        obtain rfl := Option.some.inj H
                        go_enter Try.func7, Try.ntmps7
                        go_wp2_with (first | ((with_reducible refine gate_callee (f := 15) rfl ?_); refine goesL_ (some 12) rfl rfl Try.func15 (by kernel_rfl) rfl #[] rfl (by (try simp only [List.map_toArray, List.map_cons, List.map_nil]); first | done | rfl | (simp only [List.length_drop, List.length_take]; rfl)) ?_; (with_reducible refine (contangolaw49_page.calls  t175 _ A1.out).mono ?_); rintro e w23 ⟨v176, rfl, ho0, hb⟩; refine ⟨_, rfl, ?_⟩; have n0_ := Aside0.mk (Kd.R_lower ho0 (below_size (by repeat (first | (with_reducible first | exact HB.out | apply below_alloc | apply pw_below_drewN | apply below_drew1) | exact HB.out)))); have n1_ := Aside0.mk (below_step (by repeat (first | (with_reducible first | exact HB.out | apply below_alloc | apply pw_below_drewN | apply below_drew1) | exact HB.out)) hb); clear HB; have HO177 := n0_; have HB := n1_; clear n0_ n1_; (try clear hb); (try clear hb2); (try clear hk); (try clear hi); (try clear ho0); have p3 : 0 ≤ (0 : Int) := (by omega); have q3 : (0 : Int) < ((t175.length : Int) : Int) := of_decide_eq_true (by first | (with_reducible assumption) | assumption); have qi3 : (0 < t175.length) = True := eq_true (by omega); obtain ⟨go3, co3, eo3, gb3, gl3, cl3, HG3⟩ := Kd.R_form HO177.out (by omega); (first | cases eo3 | (injection eo3 with ea_ en_ ec_; (first | subst ea_ | (injection ea_ with ea_; subst ea_)); subst ec_; clear en_)); have GB3 := Aside0.mk gb3; have GG3 := Aside0.mk HG3; clear gb3 gl3 HG3; obtain ⟨ce3, hcl3, hM3, hcc3, hfr3⟩ := Kd.R_elem HO177.out z35 (0 : Int) p3 q3; obtain rfl := k35_openM hM3; have hx3_0 : w23.cell? ⟨go3, (0 : Int).toNat * 4, none⟩ = some (.string ((rd_T35 t175 0).f0)) := hcc3 0 _ rfl; have hx3_1 : w23.cell? ⟨go3, (0 : Int).toNat * 4 + 1, none⟩ = some (.int .i64 ((rd_T35 t175 0).f1)) := hcc3 1 _ rfl; have hx3_2 : w23.cell? ⟨go3, (0 : Int).toNat * 4 + 2, none⟩ = some (.int .i64 ((rd_T35 t175 0).f2)) := hcc3 2 _ rfl; have hx3_3 : w23.cell? ⟨go3, (0 : Int).toNat * 4 + 3, none⟩ = some (.int .i64 ((rd_T35 t175 0).f3)) := hcc3 3 _ rfl; have hf3_0 : w23.frozen? ⟨go3, (0 : Int).toNat * 4, none⟩ = false := hfr3 0; have hf3_1 : w23.frozen? ⟨go3, (0 : Int).toNat * 4 + 1, none⟩ = false := hfr3 1; have hf3_2 : w23.frozen? ⟨go3, (0 : Int).toNat * 4 + 2, none⟩ = false := hfr3 2; have hf3_3 : w23.frozen? ⟨go3, (0 : Int).toNat * 4 + 3, none⟩ = false := hfr3 3; clear hcl3 hcc3 hfr3 hM3; (try rw [show ((0 : Int)).toNat = 0 from rfl] at hx3_0); (try simp only [Nat.reduceMul, Nat.zero_mul, Nat.zero_add, Nat.reduceAdd] at hx3_0); (try rw [show ((0 : Int)).toNat = 0 from rfl] at hf3_0); (try simp only [Nat.reduceMul, Nat.zero_mul, Nat.zero_add, Nat.reduceAdd] at hf3_0); (try rw [show ((0 : Int)).toNat = 0 from rfl] at hx3_1); (try simp only [Nat.reduceMul, Nat.zero_mul, Nat.zero_add, Nat.reduceAdd] at hx3_1); (try rw [show ((0 : Int)).toNat = 0 from rfl] at hf3_1); (try simp only [Nat.reduceMul, Nat.zero_mul, Nat.zero_add, Nat.reduceAdd] at hf3_1); (try rw [show ((0 : Int)).toNat = 0 from rfl] at hx3_2); (try simp only [Nat.reduceMul, Nat.zero_mul, Nat.zero_add, Nat.reduceAdd] at hx3_2); (try rw [show ((0 : Int)).toNat = 0 from rfl] at hf3_2); (try simp only [Nat.reduceMul, Nat.zero_mul, Nat.zero_add, Nat.reduceAdd] at hf3_2); (try rw [show ((0 : Int)).toNat = 0 from rfl] at hx3_3); (try simp only [Nat.reduceMul, Nat.zero_mul, Nat.zero_add, Nat.reduceAdd] at hx3_3); (try rw [show ((0 : Int)).toNat = 0 from rfl] at hf3_3); (try simp only [Nat.reduceMul, Nat.zero_mul, Nat.zero_add, Nat.reduceAdd] at hf3_3); replace p3 := eq_true p3; replace q3 := eq_true q3; have HX24 := Aside0.mk (show Kd.R k35 35 w23 w.heap.size (fun _ => True) (.slice (some ⟨go3, 0, none⟩) t175.length co3) t175 from (by (with_reducible repeat (first | apply Kd.R_alloc | apply Kd.R_drewN | apply Kd.R_drew)); exact HO177.out)); obtain ⟨ce24, hcl24, hM24, hcc24, hfr24⟩ := Kd.R_elem HX24.out z35 (0 : Int) (by omega) (by have h_ : (0 : Int) < ((t175.length : Int) : Int) := of_decide_eq_true (by first | (with_reducible assumption) | assumption); first | exact h_ | (have e_ := (Kd.R_reads' HO177.out).1; omega) | simpa using h_); obtain rfl := k35_openM hM24; have HP24 := Kd.R_seg HX24.out (0 : Int) (by omega) (by have h_ : (0 : Int) < ((t175.length : Int) : Int) := of_decide_eq_true (by first | (with_reducible assumption) | assumption); first | exact h_ | (have e_ := (Kd.R_reads' HO177.out).1; omega) | simpa using h_) (seg := [.int .i64 79]) (j := 2) hcl24 hcc24 (show 3 ≤ 4 from by decide) (x' := (⟨(rd_T35 t175 0).f0, (rd_T35 t175 0).f1, 79, (rd_T35 t175 0).f3⟩ : S35)) (k35_mkM _ _ _ (⟨(rd_T35 t175 0).f0, (rd_T35 t175 0).f1, 79, (rd_T35 t175 0).f3⟩ : S35) ) (fun _ hk => hk); have hx24_2 := hcc24 2 _ rfl; (try simp only [show (k35).sz = 4 from rfl, Nat.mul_one, Nat.add_zero] at hx24_2); (try rw [show ((0 : Int)).toNat = 0 from rfl] at hx24_2); (try simp only [Nat.reduceMul, Nat.zero_mul, Nat.zero_add, Nat.reduceAdd] at hx24_2); have hf24_2 := hfr24 2; (try simp only [show (k35).sz = 4 from rfl, Nat.mul_one, Nat.add_zero] at hf24_2); (try rw [show ((0 : Int)).toNat = 0 from rfl] at hf24_2); (try simp only [Nat.reduceMul, Nat.zero_mul, Nat.zero_add, Nat.reduceAdd] at hf24_2); clear hcl24 hcc24 hfr24 hM24) | ((with_reducible refine gate_store (t := 3) (p := 16) rfl ?_); refine store_event (t := 3) (p := 16) (v := ?vo_w25) (w1 := (w23.setCell ⟨go3, 2, none⟩ (.int .i64 79))) ?hg ?ho ?hn ?hr ?_; (case ho => rfl); (case hg => rfl); (case hn => rfl); (case hr => first | (go_simp; done) | (go_simp; rfl)); intro w25 hw; have hg : w23.grownBy w25 (some go3) := (by rw [hw]; exact HP24.2); have hp_ : Kd.R k35 35 w25 w.heap.size (fun _ => True) (.slice (some ⟨go3, 0, none⟩) t175.length co3) y178 := (by rw [hw, Ny178.out]; exact HP24.1); clear HP24; have n0_ := Aside0.mk (hp_); have n1_ := Aside0.mk ((by rw [hw]; exact below_set (HB.out) GB3.out : Below w.heap.size w w25)); clear HO177; clear HB; have HO177 := n0_; have HB := n1_; clear n0_ n1_; clear hg hw hp_; have p5 : 0 ≤ (2 : Int) := (by omega); have q5 : (2 : Int) < ((t175.length : Int) : Int) := of_decide_eq_true (by first | (with_reducible assumption) | assumption); have qi5 : (2 < t175.length) = True := eq_true (by omega); obtain ⟨ce5, hcl5, hM5, hcc5, hfr5⟩ := Kd.R_elem HO177.out z35 (2 : Int) p5 q5; obtain rfl := k35_openM hM5; have hx5_0 : w25.cell? ⟨go3, (2 : Int).toNat * 4, none⟩ = some (.string ((rd_T35 y178 2).f0)) := hcc5 0 _ rfl; have hx5_1 : w25.cell? ⟨go3, (2 : Int).toNat * 4 + 1, none⟩ = some (.int .i64 ((rd_T35 y178 2).f1)) := hcc5 1 _ rfl; have hx5_2 : w25.cell? ⟨go3, (2 : Int).toNat * 4 + 2, none⟩ = some (.int .i64 ((rd_T35 y178 2).f2)) := hcc5 2 _ rfl; have hx5_3 : w25.cell? ⟨go3, (2 : Int).toNat * 4 + 3, none⟩ = some (.int .i64 ((rd_T35 y178 2).f3)) := hcc5 3 _ rfl; have hf5_0 : w25.frozen? ⟨go3, (2 : Int).toNat * 4, none⟩ = false := hfr5 0; have hf5_1 : w25.frozen? ⟨go3, (2 : Int).toNat * 4 + 1, none⟩ = false := hfr5 1; have hf5_2 : w25.frozen? ⟨go3, (2 : Int).toNat * 4 + 2, none⟩ = false := hfr5 2; have hf5_3 : w25.frozen? ⟨go3, (2 : Int).toNat * 4 + 3, none⟩ = false := hfr5 3; clear hcl5 hcc5 hfr5 hM5; (try rw [show ((2 : Int)).toNat = 2 from rfl] at hx5_0); (try simp only [Nat.reduceMul, Nat.zero_mul, Nat.zero_add, Nat.reduceAdd] at hx5_0); (try rw [show ((2 : Int)).toNat = 2 from rfl] at hf5_0); (try simp only [Nat.reduceMul, Nat.zero_mul, Nat.zero_add, Nat.reduceAdd] at hf5_0); (try rw [show ((2 : Int)).toNat = 2 from rfl] at hx5_1); (try simp only [Nat.reduceMul, Nat.zero_mul, Nat.zero_add, Nat.reduceAdd] at hx5_1); (try rw [show ((2 : Int)).toNat = 2 from rfl] at hf5_1); (try simp only [Nat.reduceMul, Nat.zero_mul, Nat.zero_add, Nat.reduceAdd] at hf5_1); (try rw [show ((2 : Int)).toNat = 2 from rfl] at hx5_2); (try simp only [Nat.reduceMul, Nat.zero_mul, Nat.zero_add, Nat.reduceAdd] at hx5_2); (try rw [show ((2 : Int)).toNat = 2 from rfl] at hf5_2); (try simp only [Nat.reduceMul, Nat.zero_mul, Nat.zero_add, Nat.reduceAdd] at hf5_2); (try rw [show ((2 : Int)).toNat = 2 from rfl] at hx5_3); (try simp only [Nat.reduceMul, Nat.zero_mul, Nat.zero_add, Nat.reduceAdd] at hx5_3); (try rw [show ((2 : Int)).toNat = 2 from rfl] at hf5_3); (try simp only [Nat.reduceMul, Nat.zero_mul, Nat.zero_add, Nat.reduceAdd] at hf5_3); replace p5 := eq_true p5; replace q5 := eq_true q5; have HX26 := Aside0.mk (show Kd.R k35 35 w25 w.heap.size (fun _ => True) (.slice (some ⟨go3, 0, none⟩) t175.length co3) y178 from (by (with_reducible repeat (first | apply Kd.R_alloc | apply Kd.R_drewN | apply Kd.R_drew)); exact HO177.out)); obtain ⟨ce26, hcl26, hM26, hcc26, hfr26⟩ := Kd.R_elem HX26.out z35 (2 : Int) (by omega) (by have h_ : (2 : Int) < ((t175.length : Int) : Int) := of_decide_eq_true (by first | (with_reducible assumption) | assumption); first | exact h_ | (have e_ := (Kd.R_reads' HO177.out).1; omega) | simpa using h_); obtain rfl := k35_openM hM26; have HP26 := Kd.R_seg HX26.out (2 : Int) (by omega) (by have h_ : (2 : Int) < ((t175.length : Int) : Int) := of_decide_eq_true (by first | (with_reducible assumption) | assumption); first | exact h_ | (have e_ := (Kd.R_reads' HO177.out).1; omega) | simpa using h_) (seg := [.int .i64 40]) (j := 2) hcl26 hcc26 (show 3 ≤ 4 from by decide) (x' := (⟨(rd_T35 y178 2).f0, (rd_T35 y178 2).f1, 40, (rd_T35 y178 2).f3⟩ : S35)) (k35_mkM _ _ _ (⟨(rd_T35 y178 2).f0, (rd_T35 y178 2).f1, 40, (rd_T35 y178 2).f3⟩ : S35) ) (fun _ hk => hk); have hx26_2 := hcc26 2 _ rfl; (try simp only [show (k35).sz = 4 from rfl, Nat.mul_one, Nat.add_zero] at hx26_2); (try rw [show ((2 : Int)).toNat = 2 from rfl] at hx26_2); (try simp only [Nat.reduceMul, Nat.zero_mul, Nat.zero_add, Nat.reduceAdd] at hx26_2); have hf26_2 := hfr26 2; (try simp only [show (k35).sz = 4 from rfl, Nat.mul_one, Nat.add_zero] at hf26_2); (try rw [show ((2 : Int)).toNat = 2 from rfl] at hf26_2); (try simp only [Nat.reduceMul, Nat.zero_mul, Nat.zero_add, Nat.reduceAdd] at hf26_2); clear hcl26 hcc26 hfr26 hM26) | ((with_reducible refine gate_store (t := 3) (p := 18) rfl ?_); refine store_event (t := 3) (p := 18) (v := ?vo_w27) (w1 := (w25.setCell ⟨go3, 10, none⟩ (.int .i64 40))) ?hg ?ho ?hn ?hr ?_; (case ho => rfl); (case hg => rfl); (case hn => rfl); (case hr => first | (go_simp; done) | (go_simp; rfl)); intro w27 hw; have hg : w25.grownBy w27 (some go3) := (by rw [hw]; exact HP26.2); have hp_ : Kd.R k35 35 w27 w.heap.size (fun _ => True) (.slice (some ⟨go3, 0, none⟩) t175.length co3) y179 := (by rw [hw, Ny179.out]; exact HP26.1); clear HP26; have n0_ := Aside0.mk (hp_); have n1_ := Aside0.mk ((by rw [hw]; exact below_set (HB.out) GB3.out : Below w.heap.size w w27)); clear HO177; clear HB; have HO177 := n0_; have HB := n1_; clear n0_ n1_; clear hg hw hp_) | ((with_reducible refine gate_callee (f := 15) rfl ?_); refine goesL_ (some 20) rfl rfl Try.func15 (by kernel_rfl) rfl #[] rfl (by (try simp only [List.map_toArray, List.map_cons, List.map_nil]); first | done | rfl | (simp only [List.length_drop, List.length_take]; rfl)) ?_; (with_reducible refine (contangolaw49_page.calls  t180 _ A6.out).mono ?_); rintro e w28 ⟨v181, rfl, ho0, hb⟩; refine ⟨_, rfl, ?_⟩; have n0_ := Aside0.mk (Kd.R_elder' (by (with_reducible repeat (first | apply Kd.R_alloc | apply Kd.R_drewN | apply Kd.R_drew)); exact HO177.out) (Kd.R_base ho0) hb); have n1_ := Aside0.mk (Kd.R_lower (Kd.R_new' ho0 (Kd.R_lt (by (with_reducible repeat (first | apply Kd.R_alloc | apply Kd.R_drewN | apply Kd.R_drew)); exact HO177.out))) (below_size (by repeat (first | (with_reducible first | exact HB.out | apply below_alloc | apply pw_below_drewN | apply below_drew1) | exact HB.out)))); have n2_ := Aside0.mk (below_step (by repeat (first | (with_reducible first | exact HB.out | apply below_alloc | apply pw_below_drewN | apply below_drew1) | exact HB.out)) hb); clear HO177; clear HB; have HO177 := n0_; have HO182 := n1_; have HB := n2_; clear n0_ n1_ n2_; (try clear hb); (try clear hb2); (try clear hk); (try clear hi); (try clear ho0); obtain ⟨Ao29, co29, eo29⟩ := Kd.R_slice HO182.out; subst eo29) | ((with_reducible refine gate_callee (f := 8) rfl ?_); refine goesL_ (some 21) rfl rfl Try.func8 (by kernel_rfl) rfl #[.slice Ao29 t180.length co29, .int .i64 0] rfl (by (try simp only [List.map_toArray, List.map_cons, List.map_nil]); first | done | rfl | (simp only [List.length_drop, List.length_take]; rfl)) ?_; (with_reducible refine (haircut_Gains.calls k _ _ t180 0 t183 t184 _ ?side1 ?side2 A7.out).mono ?_); (case side1 => repeat (first | exact (Kd.R_reads' HO182.out).2.2 | (with_reducible refine Kd.C_alloc ?_ _) | (with_reducible refine Kd.C_drewN ?_ _) | (with_reducible refine Kd.C_drew ?_))); (case side2 => exact (Kd.R_reads' HO182.out).2.1); rintro e w30 ⟨rfl, hb⟩; refine ⟨_, rfl, ?_⟩; have n0_ := Aside0.mk (Kd.R_below (by (with_reducible repeat (first | apply Kd.R_alloc | apply Kd.R_drewN | apply Kd.R_drew)); exact HO177.out) hb); have n1_ := Aside0.mk (Kd.R_below (by (with_reducible repeat (first | apply Kd.R_alloc | apply Kd.R_drewN | apply Kd.R_drew)); exact HO182.out) hb); have n2_ := Aside0.mk (below_step (by repeat (first | (with_reducible first | exact HB.out | apply below_alloc | apply pw_below_drewN | apply below_drew1) | exact HB.out)) hb); clear HO177; clear HO182; clear HB; have HO177 := n0_; have HO182 := n1_; have HB := n2_; clear n0_ n1_ n2_; (try clear hb); (try clear hb2); (try clear hk); (try clear hi)) | ((with_reducible refine gate_callee (f := 15) rfl ?_); refine goesL_ (some 25) rfl rfl Try.func15 (by kernel_rfl) rfl #[] rfl (by (try simp only [List.map_toArray, List.map_cons, List.map_nil]); first | done | rfl | (simp only [List.length_drop, List.length_take]; rfl)) ?_; (with_reducible refine (contangolaw49_page.calls  t185 _ A8.out).mono ?_); rintro e w31 ⟨v186, rfl, ho0, hb⟩; refine ⟨_, rfl, ?_⟩; have n0_ := Aside0.mk (Kd.R_elder' (by (with_reducible repeat (first | apply Kd.R_alloc | apply Kd.R_drewN | apply Kd.R_drew)); exact HO177.out) (Kd.R_base ho0) hb); have n1_ := Aside0.mk (Kd.R_elder' (by (with_reducible repeat (first | apply Kd.R_alloc | apply Kd.R_drewN | apply Kd.R_drew)); exact HO182.out) (Kd.R_base ho0) hb); have n2_ := Aside0.mk (Kd.R_lower (Kd.R_new' (Kd.R_new' ho0 (Kd.R_lt (by (with_reducible repeat (first | apply Kd.R_alloc | apply Kd.R_drewN | apply Kd.R_drew)); exact HO177.out))) (Kd.R_lt (by (with_reducible repeat (first | apply Kd.R_alloc | apply Kd.R_drewN | apply Kd.R_drew)); exact HO182.out))) (below_size (by repeat (first | (with_reducible first | exact HB.out | apply below_alloc | apply pw_below_drewN | apply below_drew1) | exact HB.out)))); have n3_ := Aside0.mk (below_step (by repeat (first | (with_reducible first | exact HB.out | apply below_alloc | apply pw_below_drewN | apply below_drew1) | exact HB.out)) hb); clear HO177; clear HO182; clear HB; have HO177 := n0_; have HO182 := n1_; have HO187 := n2_; have HB := n3_; clear n0_ n1_ n2_ n3_; (try clear hb); (try clear hb2); (try clear hk); (try clear hi); (try clear ho0); obtain ⟨Ao32, co32, eo32⟩ := Kd.R_slice HO187.out; subst eo32) | ((with_reducible refine gate_callee (f := 10) rfl ?_); refine goesL_ (some 26) rfl rfl Try.func10 (by kernel_rfl) rfl #[.int .i64 31, .slice Ao32 t185.length co32, .int .i64 0] rfl (by (try simp only [List.map_toArray, List.map_cons, List.map_nil]); first | done | rfl | (simp only [List.length_drop, List.length_take]; rfl)) ?_; (with_reducible refine (haircut_Take.calls k 31 _ _ t185 0 t188 t189 t190 _ ?side1 ?side2 A9.out).mono ?_); (case side1 => repeat (first | exact (Kd.R_reads' HO187.out).2.2 | (with_reducible refine Kd.C_alloc ?_ _) | (with_reducible refine Kd.C_drewN ?_ _) | (with_reducible refine Kd.C_drew ?_))); (case side2 => exact (Kd.R_reads' HO187.out).2.1); rintro e w33 ⟨v191, rfl, ho0, hb⟩; refine ⟨_, rfl, ?_⟩; have n0_ := Aside0.mk (Kd.R_elder' (by (with_reducible repeat (first | apply Kd.R_alloc | apply Kd.R_drewN | apply Kd.R_drew)); exact HO177.out) (Kd.R_base ho0) hb); have n1_ := Aside0.mk (Kd.R_elder' (by (with_reducible repeat (first | apply Kd.R_alloc | apply Kd.R_drewN | apply Kd.R_drew)); exact HO182.out) (Kd.R_base ho0) hb); have n2_ := Aside0.mk (Kd.R_elder' (by (with_reducible repeat (first | apply Kd.R_alloc | apply Kd.R_drewN | apply Kd.R_drew)); exact HO187.out) (Kd.R_base ho0) hb); have n3_ := Aside0.mk (Kd.R_lower (Kd.R_new' (Kd.R_new' (Kd.R_new' ho0 (Kd.R_lt (by (with_reducible repeat (first | apply Kd.R_alloc | apply Kd.R_drewN | apply Kd.R_drew)); exact HO177.out))) (Kd.R_lt (by (with_reducible repeat (first | apply Kd.R_alloc | apply Kd.R_drewN | apply Kd.R_drew)); exact HO182.out))) (Kd.R_lt (by (with_reducible repeat (first | apply Kd.R_alloc | apply Kd.R_drewN | apply Kd.R_drew)); exact HO187.out))) (below_size (by repeat (first | (with_reducible first | exact HB.out | apply below_alloc | apply pw_below_drewN | apply below_drew1) | exact HB.out)))); have n4_ := Aside0.mk (below_step (by repeat (first | (with_reducible first | exact HB.out | apply below_alloc | apply pw_below_drewN | apply below_drew1) | exact HB.out)) hb); clear HO177; clear HO182; clear HO187; clear HB; have HO177 := n0_; have HO182 := n1_; have HO187 := n2_; have HO192 := n3_; have HB := n4_; clear n0_ n1_ n2_ n3_ n4_; (try clear hb); (try clear hb2); (try clear hk); (try clear hi); (try clear ho0)) | ((with_reducible refine gate_callee (f := 15) rfl ?_); refine goesL_ (some 31) rfl rfl Try.func15 (by kernel_rfl) rfl #[] rfl (by (try simp only [List.map_toArray, List.map_cons, List.map_nil]); first | done | rfl | (simp only [List.length_drop, List.length_take]; rfl)) ?_; (with_reducible refine (contangolaw49_page.calls  t193 _ A10.out).mono ?_); rintro e w34 ⟨v194, rfl, ho0, hb⟩; refine ⟨_, rfl, ?_⟩; have n0_ := Aside0.mk (Kd.R_elder' (by (with_reducible repeat (first | apply Kd.R_alloc | apply Kd.R_drewN | apply Kd.R_drew)); exact HO177.out) (Kd.R_base ho0) hb); have n1_ := Aside0.mk (Kd.R_elder' (by (with_reducible repeat (first | apply Kd.R_alloc | apply Kd.R_drewN | apply Kd.R_drew)); exact HO182.out) (Kd.R_base ho0) hb); have n2_ := Aside0.mk (Kd.R_elder' (by (with_reducible repeat (first | apply Kd.R_alloc | apply Kd.R_drewN | apply Kd.R_drew)); exact HO187.out) (Kd.R_base ho0) hb); have n3_ := Aside0.mk (Kd.R_elder' (by (with_reducible repeat (first | apply Kd.R_alloc | apply Kd.R_drewN | apply Kd.R_drew)); exact HO192.out) (Kd.R_base ho0) hb); have n4_ := Aside0.mk (Kd.R_lower (Kd.R_new' (Kd.R_new' (Kd.R_new' (Kd.R_new' ho0 (Kd.R_lt (by (with_reducible repeat (first | apply Kd.R_alloc | apply Kd.R_drewN | apply Kd.R_drew)); exact HO177.out))) (Kd.R_lt (by (with_reducible repeat (first | apply Kd.R_alloc | apply Kd.R_drewN | apply Kd.R_drew)); exact HO182.out))) (Kd.R_lt (by (with_reducible repeat (first | apply Kd.R_alloc | apply Kd.R_drewN | apply Kd.R_drew)); exact HO187.out))) (Kd.R_lt (by (with_reducible repeat (first | apply Kd.R_alloc | apply Kd.R_drewN | apply Kd.R_drew)); exact HO192.out))) (below_size (by repeat (first | (with_reducible first | exact HB.out | apply below_alloc | apply pw_below_drewN | apply below_drew1) | exact HB.out)))); have n5_ := Aside0.mk (below_step (by repeat (first | (with_reducible first | exact HB.out | apply below_alloc | apply pw_below_drewN | apply below_drew1) | exact HB.out)) hb); clear HO177; clear HO182; clear HO187; clear HO192; clear HB; have HO177 := n0_; have HO182 := n1_; have HO187 := n2_; have HO192 := n3_; have HO195 := n4_; have HB := n5_; clear n0_ n1_ n2_ n3_ n4_ n5_; (try clear hb); (try clear hb2); (try clear hk); (try clear hi); (try clear ho0); obtain ⟨Ao35, co35, eo35⟩ := Kd.R_slice HO195.out; subst eo35) | ((with_reducible refine gate_callee (f := 10) rfl ?_); refine goesL_ (some 32) rfl rfl Try.func10 (by kernel_rfl) rfl #[.int .i64 200, .slice Ao35 t193.length co35, .int .i64 0] rfl (by (try simp only [List.map_toArray, List.map_cons, List.map_nil]); first | done | rfl | (simp only [List.length_drop, List.length_take]; rfl)) ?_; (with_reducible refine (haircut_Take.calls k 200 _ _ t193 0 t196 t197 t198 _ ?side1 ?side2 A11.out).mono ?_); (case side1 => repeat (first | exact (Kd.R_reads' HO195.out).2.2 | (with_reducible refine Kd.C_alloc ?_ _) | (with_reducible refine Kd.C_drewN ?_ _) | (with_reducible refine Kd.C_drew ?_))); (case side2 => exact (Kd.R_reads' HO195.out).2.1); rintro e w36 ⟨v199, rfl, ho0, hb⟩; refine ⟨_, rfl, ?_⟩; have n0_ := Aside0.mk (Kd.R_elder' (by (with_reducible repeat (first | apply Kd.R_alloc | apply Kd.R_drewN | apply Kd.R_drew)); exact HO177.out) (Kd.R_base ho0) hb); have n1_ := Aside0.mk (Kd.R_elder' (by (with_reducible repeat (first | apply Kd.R_alloc | apply Kd.R_drewN | apply Kd.R_drew)); exact HO182.out) (Kd.R_base ho0) hb); have n2_ := Aside0.mk (Kd.R_elder' (by (with_reducible repeat (first | apply Kd.R_alloc | apply Kd.R_drewN | apply Kd.R_drew)); exact HO187.out) (Kd.R_base ho0) hb); have n3_ := Aside0.mk (Kd.R_elder' (by (with_reducible repeat (first | apply Kd.R_alloc | apply Kd.R_drewN | apply Kd.R_drew)); exact HO192.out) (Kd.R_base ho0) hb); have n4_ := Aside0.mk (Kd.R_elder' (by (with_reducible repeat (first | apply Kd.R_alloc | apply Kd.R_drewN | apply Kd.R_drew)); exact HO195.out) (Kd.R_base ho0) hb); have n5_ := Aside0.mk (Kd.R_lower (Kd.R_new' (Kd.R_new' (Kd.R_new' (Kd.R_new' (Kd.R_new' ho0 (Kd.R_lt (by (with_reducible repeat (first | apply Kd.R_alloc | apply Kd.R_drewN | apply Kd.R_drew)); exact HO177.out))) (Kd.R_lt (by (with_reducible repeat (first | apply Kd.R_alloc | apply Kd.R_drewN | apply Kd.R_drew)); exact HO182.out))) (Kd.R_lt (by (with_reducible repeat (first | apply Kd.R_alloc | apply Kd.R_drewN | apply Kd.R_drew)); exact HO187.out))) (Kd.R_lt (by (with_reducible repeat (first | apply Kd.R_alloc | apply Kd.R_drewN | apply Kd.R_drew)); exact HO192.out))) (Kd.R_lt (by (with_reducible repeat (first | apply Kd.R_alloc | apply Kd.R_drewN | apply Kd.R_drew)); exact HO195.out))) (below_size (by repeat (first | (with_reducible first | exact HB.out | apply below_alloc | apply pw_below_drewN | apply below_drew1) | exact HB.out)))); have n6_ := Aside0.mk (below_step (by repeat (first | (with_reducible first | exact HB.out | apply below_alloc | apply pw_below_drewN | apply below_drew1) | exact HB.out)) hb); clear HO177; clear HO182; clear HO187; clear HO192; clear HO195; clear HB; have HO177 := n0_; have HO182 := n1_; have HO187 := n2_; have HO192 := n3_; have HO195 := n4_; have HO200 := n5_; have HB := n6_; clear n0_ n1_ n2_ n3_ n4_ n5_ n6_; (try clear hb); (try clear hb2); (try clear hk); (try clear hi); (try clear ho0)) | ((with_reducible refine gate_callee (f := 13) rfl ?_); refine goesL_ (some 37) rfl rfl Try.func13 (by kernel_rfl) rfl #[.int .i64 31, .int .i64 150] rfl (by (try simp only [List.map_toArray, List.map_cons, List.map_nil]); first | done | rfl | (simp only [List.length_drop, List.length_take]; rfl)) ?_; (with_reducible refine (haircut_Part.calls k 31 150 t201 t202 _ A12.out).mono ?_); rintro e w37 ⟨rfl, hb⟩; refine ⟨_, rfl, ?_⟩; have n0_ := Aside0.mk (Kd.R_below (by (with_reducible repeat (first | apply Kd.R_alloc | apply Kd.R_drewN | apply Kd.R_drew)); exact HO177.out) hb); have n1_ := Aside0.mk (Kd.R_below (by (with_reducible repeat (first | apply Kd.R_alloc | apply Kd.R_drewN | apply Kd.R_drew)); exact HO182.out) hb); have n2_ := Aside0.mk (Kd.R_below (by (with_reducible repeat (first | apply Kd.R_alloc | apply Kd.R_drewN | apply Kd.R_drew)); exact HO187.out) hb); have n3_ := Aside0.mk (Kd.R_below (by (with_reducible repeat (first | apply Kd.R_alloc | apply Kd.R_drewN | apply Kd.R_drew)); exact HO192.out) hb); have n4_ := Aside0.mk (Kd.R_below (by (with_reducible repeat (first | apply Kd.R_alloc | apply Kd.R_drewN | apply Kd.R_drew)); exact HO195.out) hb); have n5_ := Aside0.mk (Kd.R_below (by (with_reducible repeat (first | apply Kd.R_alloc | apply Kd.R_drewN | apply Kd.R_drew)); exact HO200.out) hb); have n6_ := Aside0.mk (below_step (by repeat (first | (with_reducible first | exact HB.out | apply below_alloc | apply pw_below_drewN | apply below_drew1) | exact HB.out)) hb); clear HO177; clear HO182; clear HO187; clear HO192; clear HO195; clear HO200; clear HB; have HO177 := n0_; have HO182 := n1_; have HO187 := n2_; have HO192 := n3_; have HO195 := n4_; have HO200 := n5_; have HB := n6_; clear n0_ n1_ n2_ n3_ n4_ n5_ n6_; (try clear hb); (try clear hb2); (try clear hk); (try clear hi); obtain ⟨Ao38, co38, eo38⟩ := Kd.R_slice HO192.out; subst eo38) | (go_at_call 12; refine calls_of_args (args' := #[.slice Ao38 t188.length co38, .slice (some ⟨go3, 0, none⟩) y179.length co3]) (by first | (rw [show y179.length = t175.length from (Kd.R_reads' HO177.out).1.symm] <;> rfl) | rfl) ?_; (with_reducible refine (contangoref22_Same.calls k _ _ t188 _ _ y179 true _ ?side1 ?side2 ?side3 ?side4 A15.out).mono ?_); (case side1 => repeat (first | exact (Kd.R_reads' HO192.out).2.2 | (with_reducible refine Kd.C_alloc ?_ _) | (with_reducible refine Kd.C_drewN ?_ _) | (with_reducible refine Kd.C_drew ?_))); (case side2 => exact (Kd.R_reads' HO192.out).2.1); (case side3 => repeat (first | exact (Kd.R_reads' HO177.out).2.2 | (with_reducible refine Kd.C_alloc ?_ _) | (with_reducible refine Kd.C_drewN ?_ _) | (with_reducible refine Kd.C_drew ?_))); (case side4 => rw [show y179.length = t175.length from (Kd.R_reads' HO177.out).1.symm]; exact (Kd.R_reads' HO177.out).2.1); rintro e w' ⟨rfl, ⟨nd, rfl⟩⟩; obtain ⟨Ao39, co39, eo39⟩ := Kd.R_slice HO200.out; subst eo39))
                        go_ret
                        exact ⟨by first | rfl | (simp [errW_none, errW_some] <;> rfl) | (simp [*, errW_none, errW_some] <;> rfl), by repeat (first | (with_reducible first | exact HB.out | apply below_alloc | apply pw_below_drewN | apply below_drew1) | exact HB.out)⟩
                      · rw [if_neg c22] at H
                        exact absurd H (by simp)
                    · rw [if_neg c21] at H
                      exact absurd H (by simp)
                  · rw [if_neg c20] at H
                    exact absurd H (by simp)
                · rw [if_neg c19] at H
                  exact absurd H (by simp)
              · rw [if_neg c18] at H
                exact absurd H (by simp)
            · rw [if_neg c17] at H
              exact absurd H (by simp)
          · replace c16 := Bool.eq_false_iff.mpr c16
            subst c16
            have H1 : (none) = some r := by rw [if_neg (show ¬ (false = true) by decide)] at H; exact H
            clear H
            have H := H1
            clear H1
            exact absurd H (by simp)
        · rw [if_neg c14] at H
          exact absurd H (by simp)
      · rw [if_neg c13] at H
        exact absurd H (by simp)
    · rw [if_neg c4] at H
      exact absurd H (by simp)
  · rw [if_neg c2] at H
    exact absurd H (by simp)

end Go.Proofs.Ythoemohppeplpaa.PHaircutOnly
