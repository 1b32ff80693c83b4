/- Laid for this claim by a program of this session's (wip/mkprint.py, wip/ext.py); not trusted: Lean checks it. -/
import Derived.Test.YtlkdilfheplmhaaPTopLossesx0
import Derived.Test.YtlkdilfheplmhaaPTopLossesx3
import Derived.Test.YtlkdilfheplmhaaPTopLossesx5
import Derived.Test.YtlkdilfheplmhaaPTopLossesx7
import Derived.Test.YtlkdilfheplmhaaPTopLossesx8
namespace Go.Proofs.Ytlkdilfheplmhaa.PTopLosses
open Go.RowKit Go.Proofs.YtlkdilfheplmhaaW.PrintWords Go.Proofs.YtlkdilfheplmhaaW.PrintLast Go.Proofs.YtlkdilfheplmhaaW.PrintMore
attribute [local go_sem] max2_int min2_int max_two min_two max_three min_three max_four min_four   -- for this text's walks alone
set_option linter.unusedVariables false
set_option linter.unusedSimpArgs false

/-! ### cents_MulDiv: function 39 -/
def alwaysB (mode : Int) (below : Bool) : Bool:=(mode == 2) || ((mode == 3) && below) || ((mode == 4) && !below)
def awayB (mode : Int) (below : Bool) (q r by_ : Int) : Bool:=if mode = 5 then (decide (r > by_ - r) || (decide (r = by_ - r) && decide (q % 2 = 1))) else alwaysB mode below
set_option maxHeartbeats 4000000 in
set_option maxRecDepth 100000 in
theorem away_any (mode : Int) (below : Bool) (w : World) :
    Calls Try.prog 43 #[.int .i64 mode, .bool below] w fun e w'=>e = .returned (.func (.func 46) #[] #[.pointer (some ⟨w.heap.size, 0, none⟩), .pointer (some ⟨w.heap.size + 1, 0, none⟩)]) ∧ w' = ((w.alloc (.cells #[.int .i64 mode] 3)).alloc (.cells #[.bool (alwaysB mode below)] 4)):=by
  have hmf : ∀ (fn : Fn) (first cap : Array Value) (w : World), (Instr.makeFunc fn first cap).run Try.prog w = .ok (.func fn first cap) w:=fun _ _ _ _=>rfl
  by_cases h2 : mode = 2
  · subst h2
    rw [show alwaysB 2 below = true by unfold alwaysB;simp]
    go_enter Try.func43, Try.ntmps43
    go_wp2
    go_ret
    exact ⟨rfl, rfl⟩
  have m2 : (mode == 2) = false:=beq_eq_false_iff_ne.2 h2
  by_cases h3 : mode = 3
  · subst h3
    cases below with
    | true =>
      rw [show alwaysB 3 true = true by decide]
      go_enter Try.func43, Try.ntmps43
      go_wp2
      go_ret
      exact ⟨rfl, rfl⟩
    | false =>
      rw [show alwaysB 3 false = false by decide]
      go_enter Try.func43, Try.ntmps43
      go_wp2
      go_ret
      exact ⟨rfl, rfl⟩
  have m3 : (mode == 3) = false:=beq_eq_false_iff_ne.2 h3
  by_cases h4 : mode = 4
  · subst h4
    rw [show alwaysB 4 below = !below by unfold alwaysB;simp]
    cases below with
    | true =>
      go_enter Try.func43, Try.ntmps43
      go_wp2
      go_ret
      exact ⟨rfl, rfl⟩
    | false =>
      go_enter Try.func43, Try.ntmps43
      go_wp2
      go_ret
      exact ⟨rfl, rfl⟩
  have m4 : (mode == 4) = false:=beq_eq_false_iff_ne.2 h4
  rw [show alwaysB mode below = false by unfold alwaysB;rw [m2, m3, m4];rfl]
  clear h2 h3 h4
  go_enter Try.func43, Try.ntmps43
  go_wp2
  go_ret
  exact ⟨rfl, rfl⟩
set_option maxHeartbeats 4000000 in
set_option maxRecDepth 100000 in
theorem away1_any (mode : Int) (below : Bool) (q r by_ : Int) (gm ga : Nat) (w : World) (hq : 0 ≤ q ∧ q ≤ 1152921504606846976) (hr : 0 ≤ r ∧ r < by_) (hb : by_ ≤ 1152921504606846976) (c1 : w.cell? ⟨gm, 0, none⟩ = some (.int .i64 mode)) (c2 : w.cell? ⟨ga, 0, none⟩ = some (.bool (alwaysB mode below))) :
    Calls Try.prog 46 #[.int .u64 q, .int .u64 r, .int .u64 by_, .pointer (some ⟨gm, 0, none⟩), .pointer (some ⟨ga, 0, none⟩)] w fun e w'=>e = .returned (.bool (awayB mode below q r by_)) ∧ Drawn0 w w':=by
  obtain ⟨hq0, hq1⟩:=hq
  obtain ⟨hr0, hr1⟩:=hr
  unfold awayB
  by_cases h5 : mode = 5
  · subst h5
    rw [if_pos rfl]
    have e1 : IntKind.u64.wrap (by_ - r) = by_ - r:=by rw [IntKind.wrap_u64];omega
    by_cases t1 : r > by_ - r
    · rw [decide_eq_true t1, Bool.true_or]
      have d1 : decide (by_ - r < r) = true:=decide_eq_true t1
      clear t1
      go_enter Try.func46, Try.ntmps46
      go_wp2
      go_ret
      exact ⟨rfl, Drawn0.refl _⟩
    · rw [decide_eq_false t1, Bool.false_or]
      have d1 : decide (by_ - r < r) = false:=decide_eq_false t1
      by_cases t2 : r = by_ - r
      · rw [decide_eq_true t2, Bool.true_and]
        have d2 : (r == by_ - r) = true:=beq_iff_eq.2 t2
        by_cases t3 : q % 2 = 1
        · rw [decide_eq_true t3]
          have d3 : (q % 2 == 1) = true:=beq_iff_eq.2 t3
          clear t1 t2 t3
          go_enter Try.func46, Try.ntmps46
          go_wp2
          go_ret
          exact ⟨rfl, Drawn0.refl _⟩
        · rw [decide_eq_false t3]
          have d3 : (q % 2 == 1) = false:=beq_eq_false_iff_ne.2 t3
          clear t1 t2 t3
          go_enter Try.func46, Try.ntmps46
          go_wp2
          go_ret
          exact ⟨rfl, Drawn0.refl _⟩
      · rw [decide_eq_false t2, Bool.false_and]
        have d2 : (r == by_ - r) = false:=beq_eq_false_iff_ne.2 t2
        clear t1 t2
        go_enter Try.func46, Try.ntmps46
        go_wp2
        go_ret
        exact ⟨rfl, Drawn0.refl _⟩
  · rw [if_neg h5]
    have d5 : (mode != 5) = true:=bne_iff_ne.2 h5
    generalize alwaysB mode below = al at *
    clear h5
    go_enter Try.func46, Try.ntmps46
    go_wp2
    go_ret
    exact ⟨rfl, Drawn0.refl _⟩
theorem away_box (mode : Int) (below : Bool) (w : World) :
    Calls Try.prog 43 #[.int .i64 mode, .bool below] w fun e w'=>∃ gm ga : Nat, e = .returned (.func (.func 46) #[] #[.pointer (some ⟨gm, 0, none⟩), .pointer (some ⟨ga, 0, none⟩)]) ∧ w'.cell? ⟨gm, 0, none⟩ = some (.int .i64 mode) ∧ w'.cell? ⟨ga, 0, none⟩ = some (.bool (alwaysB mode below)) ∧ Below w.heap.size w w':=by
  refine (away_any mode below w).mono ?_
  rintro e w' ⟨rfl, rfl⟩
  have e1 : (w.alloc (.cells #[.int .i64 mode] 3)).cell? ⟨w.heap.size, 0, none⟩ = some (.int .i64 mode):=by rw [World.cell?_alloc_mark];rfl
  have e2 : ((w.alloc (.cells #[.int .i64 mode] 3)).alloc (.cells #[.bool (alwaysB mode below)] 4)).cell? ⟨(w.alloc (.cells #[.int .i64 mode] 3)).heap.size, 0, none⟩ = some (.bool (alwaysB mode below)):=by rw [World.cell?_alloc_mark];rfl
  have hsz : (w.alloc (.cells #[.int .i64 mode] 3)).heap.size = w.heap.size + 1:=by simp
  rw [hsz] at e2
  exact ⟨w.heap.size, w.heap.size + 1, rfl, (World.cell?_alloc_lt _ _ _ (by simp)).trans e1, e2, below_alloc (below_alloc (Below.refl _ _) _) _⟩
def belowB (a b c : Int) : Bool:=!(!(decide (a < 0) == decide (b < 0)) == decide (c < 0))
def cents_MulDiv.f (k : Nat) (a0 : Int) (a1 : Int) (a2 : Int) (a3 : Int) : Option (Int × Int) :=
  (cents_Fits.f a0).bind fun fa=>if fa = true then (cents_Fits.f a1).bind fun fb=>if fb = true then (cents_Fits.f a2).bind fun fc=>if fc = true then
    (if a3 < 1 ∨ a3 > 5 then some (0, 2) else if a2 = 0 then some (0, 4) else
      (cents_size.f a0).bind fun sa=>(cents_size.f a1).bind fun sb=>(bits_Mul64.f sa sb).bind fun hl=>(cents_size.f a2).bind fun by_ =>
        if hl.1 ≥ by_ then some (0, 3) else (bits_Div64.f k hl.1 hl.2 by_).bind fun qr =>
          if qr.1 > 1152921504606846976 then some (0, 3) else
          if qr.2 > 0 then (if 0 ≤ qr.1 ∧ qr.2 < by_ ∧ by_ ≤ 1152921504606846976 then (if awayB a3 (belowB a0 a1 a2) qr.1 qr.2 by_ = true then cents_signed.f (qr.1 + 1) (belowB a0 a1 a2) else cents_signed.f qr.1 (belowB a0 a1 a2)) else none)
          else if qr.2 = 0 then cents_signed.f qr.1 (belowB a0 a1 a2) else none)
    else some (0, 2) else some (0, 2) else some (0, 2)
theorem leO_if {α : Type} {c : Prop} [Decidable c] {a b a' b' : Option α} (h : LeO a a') (k : LeO b b') : LeO (if c then a else b) (if c then a' else b'):=by
  split
  · exact h
  · exact k
theorem cents_MulDiv.mono : ∀ a0 a1 a2 a3 k, LeO (cents_MulDiv.f k a0 a1 a2 a3) (cents_MulDiv.f (k + 1) a0 a1 a2 a3):=by
  intro a0 a1 a2 a3 k
  unfold cents_MulDiv.f
  refine LeO.bind (LeO.refl _) (fun _=>leO_if ?_ (LeO.refl _))
  refine LeO.bind (LeO.refl _) (fun _=>leO_if ?_ (LeO.refl _))
  refine LeO.bind (LeO.refl _) (fun _=>leO_if ?_ (LeO.refl _))
  refine leO_if (LeO.refl _) (leO_if (LeO.refl _) ?_)
  refine LeO.bind (LeO.refl _) (fun _=>LeO.bind (LeO.refl _) (fun _=>LeO.bind (LeO.refl _) (fun _=>LeO.bind (LeO.refl _) (fun _=>?_))))
  refine leO_if (LeO.refl _) (LeO.bind (bits_Div64.mono _ _ _ _) (fun _=>LeO.refl _))
set_option maxHeartbeats 8000000 in
set_option maxRecDepth 100000 in
theorem md_args (a b c mode : Int) (fa fb fc : Bool) (w : World) (ha : cents_Fits.f a = some fa) (hb : fa = true → cents_Fits.f b = some fb) (hc : fa = true → fb = true → cents_Fits.f c = some fc) (hbad : fa = true → fb = true → fc = true → mode < 1 ∨ mode > 5) :
    Calls Try.prog 39 #[.int .i64 a, .int .i64 b, .int .i64 c, .int .i64 mode] w fun e w'=>e = .returned (.tuple #[.int .i64 0, .int .i64 2]) ∧ Drawn0 w w':=by
  have FA:=Aside0.mk ha
  clear ha
  cases fa with
  | false =>
    clear hb hc hbad
    go_enter Try.func39, Try.ntmps39
    go_wp2_with (go_at_call 34;((with_reducible refine (cents_Fits.calls a false _ FA.out).mono ?_);rintro e w' ⟨rfl, ⟨nd, rfl⟩⟩))
    go_ret2
    exact ⟨rfl, by repeat (first | exact Drawn0.refl _ | apply Drawn0.step)⟩
  | true =>
    have FB:=Aside0.mk (hb rfl)
    clear hb
    cases fb with
    | false =>
      clear hc hbad
      go_enter Try.func39, Try.ntmps39
      go_wp2_with (go_at_call 34;((first | (with_reducible refine (cents_Fits.calls a true _ FA.out).mono ?_) | (with_reducible refine (cents_Fits.calls b false _ FB.out).mono ?_));rintro e w' ⟨rfl, ⟨nd, rfl⟩⟩))
      go_ret2
      exact ⟨rfl, by repeat (first | exact Drawn0.refl _ | apply Drawn0.step)⟩
    | true =>
      have FC:=Aside0.mk (hc rfl rfl)
      clear hc
      cases fc with
      | false =>
        clear hbad
        go_enter Try.func39, Try.ntmps39
        go_wp2_with (go_at_call 34;((first | (with_reducible refine (cents_Fits.calls a true _ FA.out).mono ?_) | (with_reducible refine (cents_Fits.calls b true _ FB.out).mono ?_) | (with_reducible refine (cents_Fits.calls c false _ FC.out).mono ?_));rintro e w' ⟨rfl, ⟨nd, rfl⟩⟩))
        go_ret2
        exact ⟨rfl, by repeat (first | exact Drawn0.refl _ | apply Drawn0.step)⟩
      | true =>
        have hm:=hbad rfl rfl rfl
        clear hbad
        by_cases h1 : mode < 1
        · have d1 : decide (mode < 1) = true:=decide_eq_true h1
          clear hm h1
          go_enter Try.func39, Try.ntmps39
          go_wp2_with (go_at_call 34;((first | (with_reducible refine (cents_Fits.calls a true _ FA.out).mono ?_) | (with_reducible refine (cents_Fits.calls b true _ FB.out).mono ?_) | (with_reducible refine (cents_Fits.calls c true _ FC.out).mono ?_));rintro e w' ⟨rfl, ⟨nd, rfl⟩⟩))
          go_ret2
          exact ⟨rfl, by repeat (first | exact Drawn0.refl _ | apply Drawn0.step)⟩
        · have d1 : decide (mode < 1) = false:=decide_eq_false h1
          have d2 : decide (5 < mode) = true:=decide_eq_true (by omega)
          clear hm h1
          go_enter Try.func39, Try.ntmps39
          go_wp2_with (go_at_call 34;((first | (with_reducible refine (cents_Fits.calls a true _ FA.out).mono ?_) | (with_reducible refine (cents_Fits.calls b true _ FB.out).mono ?_) | (with_reducible refine (cents_Fits.calls c true _ FC.out).mono ?_));rintro e w' ⟨rfl, ⟨nd, rfl⟩⟩))
          go_ret2
          exact ⟨rfl, by repeat (first | exact Drawn0.refl _ | apply Drawn0.step)⟩
set_option maxHeartbeats 8000000 in
set_option maxRecDepth 100000 in
theorem md_zero (a b mode : Int) (w : World) (fa : cents_Fits.f a = some true) (fb : cents_Fits.f b = some true) (fc : cents_Fits.f 0 = some true) (m1 : 1 ≤ mode) (m2 : mode ≤ 5) :
    Calls Try.prog 39 #[.int .i64 a, .int .i64 b, .int .i64 0, .int .i64 mode] w fun e w'=>e = .returned (.tuple #[.int .i64 0, .int .i64 4]) ∧ Drawn0 w w':=by
  have FA:=Aside0.mk fa
  have FB:=Aside0.mk fb
  have FC:=Aside0.mk fc
  clear fa fb fc
  go_enter Try.func39, Try.ntmps39
  go_wp2_with (go_at_call 34;((first | (with_reducible refine (cents_Fits.calls a true _ FA.out).mono ?_) | (with_reducible refine (cents_Fits.calls b true _ FB.out).mono ?_) | (with_reducible refine (cents_Fits.calls 0 true _ FC.out).mono ?_));rintro e w' ⟨rfl, ⟨nd, rfl⟩⟩))
  go_ret2
  exact ⟨rfl, by repeat (first | exact Drawn0.refl _ | apply Drawn0.step)⟩
set_option maxHeartbeats 8000000 in
set_option maxRecDepth 100000 in
theorem md_over (a b c mode by_ h l sa sb : Int) (w : World)
    (fa : cents_Fits.f a = some true) (fb : cents_Fits.f b = some true) (fc : cents_Fits.f c = some true) (m1 : 1 ≤ mode) (m2 : mode ≤ 5) (hc0 : c ≠ 0)
    (s1 : cents_size.f a = some sa) (s2 : cents_size.f b = some sb) (s3 : cents_size.f c = some by_) (hm : bits_Mul64.f sa sb = some (h, l)) (hlt : ¬ h < by_) :
    Calls Try.prog 39 #[.int .i64 a, .int .i64 b, .int .i64 c, .int .i64 mode] w fun e w'=>e = .returned (.tuple #[.int .i64 0, .int .i64 3]) ∧ Drawn0 w w':=by
  have FA:=Aside0.mk fa
  have FB:=Aside0.mk fb
  have FC:=Aside0.mk fc
  have S1:=Aside0.mk s1
  have S2:=Aside0.mk s2
  have S3:=Aside0.mk s3
  have HM:=Aside0.mk hm
  have cz : (c == 0) = false:=by simpa using hc0
  have dh : decide (by_ ≤ h) = true:=decide_eq_true (by omega)
  clear fa fb fc s1 s2 s3 hm hc0 hlt
  go_enter Try.func39, Try.ntmps39
  go_wp2_with (first | (go_at_call 34;((first | (with_reducible refine (cents_Fits.calls a true _ FA.out).mono ?_) | (with_reducible refine (cents_Fits.calls b true _ FB.out).mono ?_) | (with_reducible refine (cents_Fits.calls c true _ FC.out).mono ?_));rintro e w' ⟨rfl, ⟨nd, rfl⟩⟩)) | (go_at_call 41;((first | (with_reducible refine (cents_size.calls a _ _ S1.out).mono ?_) | (with_reducible refine (cents_size.calls b _ _ S2.out).mono ?_) | (with_reducible refine (cents_size.calls c _ _ S3.out).mono ?_));rintro e w' ⟨rfl, ⟨nd, rfl⟩⟩)) | (go_at_call 40;(with_reducible refine (bits_Mul64.calls _ _ _ _ _ HM.out).mono ?_);rintro e w' ⟨rfl, ⟨nd, rfl⟩⟩))
  go_ret2
  exact ⟨rfl, by repeat (first | exact Drawn0.refl _ | apply Drawn0.step)⟩
set_option maxHeartbeats 8000000 in
set_option maxRecDepth 100000 in
theorem md_overq (a b c mode q r by_ h l sa sb : Int) (w : World) (k : Nat)
    (fa : cents_Fits.f a = some true) (fb : cents_Fits.f b = some true) (fc : cents_Fits.f c = some true) (m1 : 1 ≤ mode) (m2 : mode ≤ 5) (hc0 : c ≠ 0)
    (s1 : cents_size.f a = some sa) (s2 : cents_size.f b = some sb) (s3 : cents_size.f c = some by_) (hm : bits_Mul64.f sa sb = some (h, l)) (hlt : h < by_) (hd : bits_Div64.f k h l by_ = some (q, r)) (hq : ¬ q ≤ 1152921504606846976) :
    Calls Try.prog 39 #[.int .i64 a, .int .i64 b, .int .i64 c, .int .i64 mode] w fun e w'=>e = .returned (.tuple #[.int .i64 0, .int .i64 3]) ∧ Drawn0 w w':=by
  have FA:=Aside0.mk fa
  have FB:=Aside0.mk fb
  have FC:=Aside0.mk fc
  have S1:=Aside0.mk s1
  have S2:=Aside0.mk s2
  have S3:=Aside0.mk s3
  have HM:=Aside0.mk hm
  have HD:=Aside0.mk hd
  have cz : (c == 0) = false:=by simpa using hc0
  have dh : decide (by_ ≤ h) = false:=decide_eq_false (by omega)
  have dq : decide (1152921504606846976 < q) = true:=decide_eq_true (by omega)
  clear fa fb fc s1 s2 s3 hm hc0 hlt hq hd
  go_enter Try.func39, Try.ntmps39
  go_wp2_with (first | (go_at_call 34;((first | (with_reducible refine (cents_Fits.calls a true _ FA.out).mono ?_) | (with_reducible refine (cents_Fits.calls b true _ FB.out).mono ?_) | (with_reducible refine (cents_Fits.calls c true _ FC.out).mono ?_));rintro e w' ⟨rfl, ⟨nd, rfl⟩⟩)) | (go_at_call 41;((first | (with_reducible refine (cents_size.calls a _ _ S1.out).mono ?_) | (with_reducible refine (cents_size.calls b _ _ S2.out).mono ?_) | (with_reducible refine (cents_size.calls c _ _ S3.out).mono ?_));rintro e w' ⟨rfl, ⟨nd, rfl⟩⟩)) | (go_at_call 40;(with_reducible refine (bits_Mul64.calls _ _ _ _ _ HM.out).mono ?_);rintro e w' ⟨rfl, ⟨nd, rfl⟩⟩) | (go_at_call 42;(with_reducible refine (bits_Div64.calls k _ _ _ _ _ _ HD.out).mono ?_);rintro e w' ⟨rfl, ⟨nd, rfl⟩⟩))
  go_ret2
  exact ⟨rfl, by repeat (first | exact Drawn0.refl _ | apply Drawn0.step)⟩
set_option maxHeartbeats 40000000 in
set_option maxRecDepth 100000 in
theorem md_even (a b c mode q by_ h l sa sb r1 r2 : Int) (x y z bl : Bool) (w : World) (k : Nat)
    (fa : cents_Fits.f a = some true) (fb : cents_Fits.f b = some true) (fc : cents_Fits.f c = some true) (m1 : 1 ≤ mode) (m2 : mode ≤ 5) (hc0 : c ≠ 0)
    (s1 : cents_size.f a = some sa) (s2 : cents_size.f b = some sb) (s3 : cents_size.f c = some by_) (hm : bits_Mul64.f sa sb = some (h, l)) (hlt : h < by_) (hd : bits_Div64.f k h l by_ = some (q, 0)) (hq : q ≤ 1152921504606846976)
    (ba : decide (a < 0) = x) (bb : decide (b < 0) = y) (bc : decide (c < 0) = z) (hbl : (!(!(x == y) == z)) = bl) (hs : cents_signed.f q bl = some (r1, r2)) :
    Calls Try.prog 39 #[.int .i64 a, .int .i64 b, .int .i64 c, .int .i64 mode] w fun e w'=>e = .returned (.tuple #[.int .i64 r1, .int .i64 r2]) ∧ Drawn0 w w':=by
  have FA:=Aside0.mk fa
  have FB:=Aside0.mk fb
  have FC:=Aside0.mk fc
  have S1:=Aside0.mk s1
  have S2:=Aside0.mk s2
  have S3:=Aside0.mk s3
  have HM:=Aside0.mk hm
  have HD:=Aside0.mk hd
  have HS:=Aside0.mk hs
  have cz : (c == 0) = false:=by simpa using hc0
  have dh : decide (by_ ≤ h) = false:=decide_eq_false (by omega)
  have dq : decide (1152921504606846976 < q) = false:=decide_eq_false (by omega)
  clear fa fb fc s1 s2 s3 hm hc0 hlt hq hd hs
  cases x <;> cases y <;> cases z <;> cases bl <;> first
    | exact absurd hbl (by decide)
    | (clear hbl
       go_enter Try.func39, Try.ntmps39
       go_wp2_with (first | (go_at_call 34;((first | (with_reducible refine (cents_Fits.calls a true _ FA.out).mono ?_) | (with_reducible refine (cents_Fits.calls b true _ FB.out).mono ?_) | (with_reducible refine (cents_Fits.calls c true _ FC.out).mono ?_));rintro e w' ⟨rfl, ⟨nd, rfl⟩⟩)) | (go_at_call 41;((first | (with_reducible refine (cents_size.calls a _ _ S1.out).mono ?_) | (with_reducible refine (cents_size.calls b _ _ S2.out).mono ?_) | (with_reducible refine (cents_size.calls c _ _ S3.out).mono ?_));rintro e w' ⟨rfl, ⟨nd, rfl⟩⟩)) | (go_at_call 40;(with_reducible refine (bits_Mul64.calls _ _ _ _ _ HM.out).mono ?_);rintro e w' ⟨rfl, ⟨nd, rfl⟩⟩) | (go_at_call 42;(with_reducible refine (bits_Div64.calls k _ _ _ _ _ _ HD.out).mono ?_);rintro e w' ⟨rfl, ⟨nd, rfl⟩⟩) | (go_at_call 44;(with_reducible refine (cents_signed.calls _ _ _ _ _ HS.out).mono ?_);rintro e w' ⟨rfl, ⟨nd, rfl⟩⟩))
       go_ret2
       exact ⟨rfl, by repeat (first | exact Drawn0.refl _ | apply Drawn0.step)⟩)
set_option maxHeartbeats 40000000 in
set_option maxRecDepth 100000 in
theorem md_odd (a b c mode q r by_ h l sa sb r1 r2 : Int) (x y z bl ab : Bool) (w : World) (k : Nat)
    (fa : cents_Fits.f a = some true) (fb : cents_Fits.f b = some true) (fc : cents_Fits.f c = some true) (m1 : 1 ≤ mode) (m2 : mode ≤ 5) (hc0 : c ≠ 0)
    (s1 : cents_size.f a = some sa) (s2 : cents_size.f b = some sb) (s3 : cents_size.f c = some by_) (hm : bits_Mul64.f sa sb = some (h, l)) (hlt : h < by_) (hd : bits_Div64.f k h l by_ = some (q, r)) (hq0 : 0 ≤ q) (hq : q ≤ 1152921504606846976) (hr : r > 0) (hr1 : r < by_) (hb1 : by_ ≤ 1152921504606846976)
    (ba : decide (a < 0) = x) (bb : decide (b < 0) = y) (bc : decide (c < 0) = z) (hbl : (!(!(x == y) == z)) = bl) (hab : awayB mode bl q r by_ = ab) (hs : cents_signed.f (if ab = true then q + 1 else q) bl = some (r1, r2)) :
    Calls Try.prog 39 #[.int .i64 a, .int .i64 b, .int .i64 c, .int .i64 mode] w fun e w'=>e = .returned (.tuple #[.int .i64 r1, .int .i64 r2]) ∧ Below w.heap.size w w':=by
  have HX:=fun (bl' : Bool) (gm ga : Nat) (W : World) c1 c2=>away1_any mode bl' q r by_ gm ga W ⟨hq0, hq⟩ ⟨by omega, hr1⟩ hb1 c1 c2
  have FA:=Aside0.mk fa
  have FB:=Aside0.mk fb
  have FC:=Aside0.mk fc
  have S1:=Aside0.mk s1
  have S2:=Aside0.mk s2
  have S3:=Aside0.mk s3
  have HM:=Aside0.mk hm
  have HD:=Aside0.mk hd
  have HS:=Aside0.mk hs
  have HA:=Aside0.mk hab
  have HXX:=Aside0.mk HX
  have cz : (c == 0) = false:=by simpa using hc0
  have dh : decide (by_ ≤ h) = false:=decide_eq_false (by omega)
  have dq : decide (1152921504606846976 < q) = false:=decide_eq_false (by omega)
  have dr : decide (0 < r) = true:=decide_eq_true hr
  clear fa fb fc s1 s2 s3 hm hc0 hlt hd hs hab HX hr hr1 hb1
  cases x <;> cases y <;> cases z <;> cases bl <;> first
    | exact absurd hbl (by decide)
    | (clear hbl
       go_enter Try.func39, Try.ntmps39
       go_wp2_with (first | (go_at_call 34;((first | (with_reducible refine (cents_Fits.calls a true _ FA.out).mono ?_) | (with_reducible refine (cents_Fits.calls b true _ FB.out).mono ?_) | (with_reducible refine (cents_Fits.calls c true _ FC.out).mono ?_));rintro e w' ⟨rfl, ⟨nd, rfl⟩⟩)) | (go_at_call 41;((first | (with_reducible refine (cents_size.calls a _ _ S1.out).mono ?_) | (with_reducible refine (cents_size.calls b _ _ S2.out).mono ?_) | (with_reducible refine (cents_size.calls c _ _ S3.out).mono ?_));rintro e w' ⟨rfl, ⟨nd, rfl⟩⟩)) | (go_at_call 40;(with_reducible refine (bits_Mul64.calls _ _ _ _ _ HM.out).mono ?_);rintro e w' ⟨rfl, ⟨nd, rfl⟩⟩) | (go_at_call 42;(with_reducible refine (bits_Div64.calls k _ _ _ _ _ _ HD.out).mono ?_);rintro e w' ⟨rfl, ⟨nd, rfl⟩⟩))
       refine (away_box mode _ _).mono ?_
       rintro e wb ⟨gm, ga, rfl, c1, c2, hb⟩
       go_wp2_with fail
       refine (HXX.out _ gm ga _ c1 c2).mono ?_
       rintro e wc ⟨rfl, hd⟩
       have HBB:=Aside0.mk (below_step (pw_below_drewN (Below.refl w.heap.size w) _) (below_step hb hd.below))
       rw [HA.out]
       clear c1 c2 hb hd
       cases ab
       · have HS2 : Aside0 (cents_signed.f q _ = some (r1, r2)):=HS
         go_wp2_with (go_at_call 44;(with_reducible refine (cents_signed.calls _ _ _ _ _ HS2.out).mono ?_);rintro e w' ⟨rfl, ⟨nd, rfl⟩⟩)
         go_ret2
         exact ⟨rfl, pw_below_drewN HBB.out _⟩
       · have HS2 : Aside0 (cents_signed.f (q + 1) _ = some (r1, r2)):=HS
         go_wp2_with (go_at_call 44;(with_reducible refine (cents_signed.calls _ _ _ _ _ HS2.out).mono ?_);rintro e w' ⟨rfl, ⟨nd, rfl⟩⟩)
         go_ret2
         exact ⟨rfl, pw_below_drewN HBB.out _⟩)
theorem cents_MulDiv.calls (k : Nat) (a0 : Int) (a1 : Int) (a2 : Int) (a3 : Int) (r1 : Int) (r2 : Int) (w : World) (h : cents_MulDiv.f k a0 a1 a2 a3 = some (r1, r2)) :
    Calls Try.prog 39 #[.int .i64 a0, .int .i64 a1, .int .i64 a2, .int .i64 a3] w fun e w'=>e = .returned (.tuple #[.int .i64 r1, .int .i64 r2]) ∧ Below w.heap.size w w':=by
  have quiet : ∀ {e0 : Ending}, (Calls Try.prog 39 #[.int .i64 a0, .int .i64 a1, .int .i64 a2, .int .i64 a3] w fun e w'=>e = e0 ∧ Drawn0 w w') → Calls Try.prog 39 #[.int .i64 a0, .int .i64 a1, .int .i64 a2, .int .i64 a3] w fun e w'=>e = e0 ∧ Below w.heap.size w w':=fun hq=>hq.mono (fun _ _ hh=>⟨hh.1, hh.2.below⟩)
  unfold cents_MulDiv.f at h
  obtain ⟨fa, hfa, h⟩:=Option.bind_eq_some_iff.1 h
  cases fa with
  | false =>
    rw [if_neg (by decide)] at h
    simp only [Option.some.injEq, Prod.mk.injEq] at h
    obtain ⟨rfl, rfl⟩:=h
    exact quiet (md_args a0 a1 a2 a3 false false false w hfa (fun h=>Bool.noConfusion h) (fun h=>Bool.noConfusion h) (fun h=>Bool.noConfusion h))
  | true =>
  rw [if_pos rfl] at h
  obtain ⟨fb, hfb, h⟩:=Option.bind_eq_some_iff.1 h
  cases fb with
  | false =>
    rw [if_neg (by decide)] at h
    simp only [Option.some.injEq, Prod.mk.injEq] at h
    obtain ⟨rfl, rfl⟩:=h
    exact quiet (md_args a0 a1 a2 a3 true false false w hfa (fun _=>hfb) (fun _ h=>Bool.noConfusion h) (fun _ h=>Bool.noConfusion h))
  | true =>
  rw [if_pos rfl] at h
  obtain ⟨fc, hfc, h⟩:=Option.bind_eq_some_iff.1 h
  cases fc with
  | false =>
    rw [if_neg (by decide)] at h
    simp only [Option.some.injEq, Prod.mk.injEq] at h
    obtain ⟨rfl, rfl⟩:=h
    exact quiet (md_args a0 a1 a2 a3 true true false w hfa (fun _=>hfb) (fun _ _=>hfc) (fun _ _ h=>Bool.noConfusion h))
  | true =>
  rw [if_pos rfl] at h
  by_cases hm : a3 < 1 ∨ a3 > 5
  · rw [if_pos hm] at h
    simp only [Option.some.injEq, Prod.mk.injEq] at h
    obtain ⟨rfl, rfl⟩:=h
    exact quiet (md_args a0 a1 a2 a3 true true true w hfa (fun _=>hfb) (fun _ _=>hfc) (fun _ _ _=>hm))
  rw [if_neg hm] at h
  by_cases hz : a2 = 0
  · rw [if_pos hz] at h
    simp only [Option.some.injEq, Prod.mk.injEq] at h
    obtain ⟨rfl, rfl⟩:=h
    subst hz
    exact quiet (md_zero a0 a1 a3 w hfa hfb hfc (by omega) (by omega))
  rw [if_neg hz] at h
  obtain ⟨sa, hsa, h⟩:=Option.bind_eq_some_iff.1 h
  obtain ⟨sb, hsb, h⟩:=Option.bind_eq_some_iff.1 h
  obtain ⟨⟨hi, lo⟩, hmul, h⟩:=Option.bind_eq_some_iff.1 h
  obtain ⟨by_, hby, h⟩:=Option.bind_eq_some_iff.1 h
  simp only at h
  by_cases hge : hi ≥ by_
  · rw [if_pos hge] at h
    simp only [Option.some.injEq, Prod.mk.injEq] at h
    obtain ⟨rfl, rfl⟩:=h
    exact quiet (md_over a0 a1 a2 a3 by_ hi lo sa sb w hfa hfb hfc (by omega) (by omega) hz hsa hsb hby hmul (by omega))
  rw [if_neg hge] at h
  obtain ⟨⟨q, r⟩, hdiv, h⟩:=Option.bind_eq_some_iff.1 h
  simp only at h
  by_cases hq : q > 1152921504606846976
  · rw [if_pos hq] at h
    simp only [Option.some.injEq, Prod.mk.injEq] at h
    obtain ⟨rfl, rfl⟩:=h
    exact quiet (md_overq a0 a1 a2 a3 q r by_ hi lo sa sb w k hfa hfb hfc (by omega) (by omega) hz hsa hsb hby hmul (by omega) hdiv (by omega))
  rw [if_neg hq] at h
  by_cases hr : r > 0
  · rw [if_pos hr] at h
    by_cases hrng : 0 ≤ q ∧ r < by_ ∧ by_ ≤ 1152921504606846976
    · rw [if_pos hrng] at h
      refine md_odd a0 a1 a2 a3 q r by_ hi lo sa sb r1 r2 _ _ _ (belowB a0 a1 a2) _ w k hfa hfb hfc (by omega) (by omega) hz hsa hsb hby hmul (by omega) hdiv hrng.1 (by omega) hr hrng.2.1 hrng.2.2 rfl rfl rfl rfl rfl ?_
      by_cases ha : awayB a3 (belowB a0 a1 a2) q r by_ = true
      · rw [if_pos ha] at h ⊢;exact h
      · rw [if_neg ha] at h ⊢;exact h
    · rw [if_neg hrng] at h;cases h
  · rw [if_neg hr] at h
    by_cases hr0 : r = 0
    · rw [if_pos hr0] at h
      subst hr0
      exact quiet (md_even a0 a1 a2 a3 q by_ hi lo sa sb r1 r2 _ _ _ (belowB a0 a1 a2) w k hfa hfb hfc (by omega) (by omega) hz hsa hsb hby hmul (by omega) hdiv (by omega) rfl rfl rfl rfl h)
    · rw [if_neg hr0] at h;cases h

-- NOT PRINTED: function 38 (assess_capper_1)

-- NOT PRINTED: function 28 (assess_capper)

/-! ### assess_Caps: function 19 -/
/-- what one member may still be called for -/
def capF (k : Nat) (times part used : Int) : Option (Int × Int) :=
  (assess_money.f part).bind fun p=>if p = true then (assess_money.f used).bind fun u=>if u = true then (cents_MulDiv.f k part times 1000 3).bind fun ne=>some (mx (wrap64 (ne.1 - used)) 0, ne.2) else some (0, 2) else some (0, 2)
def capsGo (k : Nat) (times : Int) : List Int → List Int → List Int → Option (List Int × Int)
  | [], _, acc=>some (acc, 0)
  | _ :: _, [], _=>none
  | p :: ps, u :: us, acc=>(capF k times p u).bind fun ne=>if ne.2 = 0 then capsGo k times ps us (acc ++ [ne.1]) else some ([], ne.2)
def assess_Caps.f (k : Nat) (l0 : List Int) (a1 : Int) (l2 : List Int) : Option (List Int × Int) :=
  if l0.length > 32 ∨ l2.length ≠ l0.length then some ([], 8) else if a1 < 0 ∨ a1 > 10000 then some ([], 2) else capsGo k a1 l0 l2 []
theorem capF_mono (k : Nat) (t p u : Int) : LeO (capF k t p u) (capF (k + 1) t p u):=by
  unfold capF
  refine LeO.bind (LeO.refl _) (fun _=>leO_if ?_ (LeO.refl _))
  refine LeO.bind (LeO.refl _) (fun _=>leO_if ?_ (LeO.refl _))
  exact LeO.bind (cents_MulDiv.mono _ _ _ _ _) (fun _=>LeO.refl _)
theorem capsGo_mono (k : Nat) (t : Int) : ∀ (ps us acc : List Int), LeO (capsGo k t ps us acc) (capsGo (k + 1) t ps us acc):=by
  intro ps
  induction ps with
  | nil=>intro us acc;unfold capsGo;exact LeO.refl _
  | cons p ps ih =>
    intro us acc
    cases us with
    | nil=>unfold capsGo;exact LeO.refl _
    | cons u us=>unfold capsGo;exact LeO.bind (capF_mono k t p u) (fun _=>leO_if (ih _ _) (LeO.refl _))
theorem assess_Caps.mono : ∀ a0 a1 a2 k, LeO (assess_Caps.f k a0 a1 a2) (assess_Caps.f (k + 1) a0 a1 a2):=by
  intro a0 a1 a2 k
  unfold assess_Caps.f
  exact leO_if (LeO.refl _) (leO_if (LeO.refl _) (capsGo_mono _ _ _ _ _))
set_option maxHeartbeats 4000000 in
set_option maxRecDepth 100000 in
theorem capper_any (times : Int) (w : World) :
    Calls Try.prog 28 #[.int .i64 times] w fun e w'=>∃ gt : Nat, e = .returned (.func (.func 38) #[] #[.pointer (some ⟨gt, 0, none⟩)]) ∧ w.heap.size ≤ gt ∧ w'.heap[gt]? = some (.cells #[.int .i64 times] 3 (0, 0)) ∧ Below w.heap.size w w':=by
  have hmf : ∀ (fn : Fn) (first cap : Array Value) (w : World), (Instr.makeFunc fn first cap).run Try.prog w = .ok (.func fn first cap) w:=fun _ _ _ _=>rfl
  go_enter Try.func28, Try.ntmps28
  go_wp2
  go_ret
  exact ⟨_, rfl, Nat.le_refl _, blk_new _ _, below_alloc (Below.refl _ _) _⟩
set_option maxHeartbeats 8000000 in
set_option maxRecDepth 100000 in
theorem cap1_any (k : Nat) (times part used r1 r2 : Int) (gt : Nat) (w : World) (hg : w.heap[gt]? = some (.cells #[.int .i64 times] 3 (0, 0))) (h : capF k times part used = some (r1, r2)) :
    Calls Try.prog 38 #[.int .i64 part, .int .i64 used, .pointer (some ⟨gt, 0, none⟩)] w fun e w'=>e = .returned (.tuple #[.int .i64 r1, .int .i64 r2]) ∧ Below w.heap.size w w':=by
  unfold capF at h
  obtain ⟨p, hp, h⟩:=Option.bind_eq_some_iff.1 h
  have HG:=Aside0.mk hg
  have HP:=Aside0.mk hp
  clear hg hp
  cases p with
  | false =>
    rw [if_neg (by decide)] at h
    simp only [Option.some.injEq, Prod.mk.injEq] at h
    obtain ⟨rfl, rfl⟩:=h
    go_enter Try.func38, Try.ntmps38
    go_wp2_with (go_at_call 20;(with_reducible refine (assess_money.calls part false _ HP.out).mono ?_);rintro e w' ⟨rfl, ⟨nd, rfl⟩⟩)
    go_ret2
    exact ⟨rfl, by repeat (first | exact Below.refl _ _ | apply pw_below_drewN)⟩
  | true =>
    rw [if_pos rfl] at h
    obtain ⟨u, hu, h⟩:=Option.bind_eq_some_iff.1 h
    have HU:=Aside0.mk hu
    clear hu
    cases u with
    | false =>
      rw [if_neg (by decide)] at h
      simp only [Option.some.injEq, Prod.mk.injEq] at h
      obtain ⟨rfl, rfl⟩:=h
      go_enter Try.func38, Try.ntmps38
      go_wp2_with (go_at_call 20;((first | (with_reducible refine (assess_money.calls part true _ HP.out).mono ?_) | (with_reducible refine (assess_money.calls used false _ HU.out).mono ?_));rintro e w' ⟨rfl, ⟨nd, rfl⟩⟩))
      go_ret2
      exact ⟨rfl, by repeat (first | exact Below.refl _ _ | apply pw_below_drewN)⟩
    | true =>
      rw [if_pos rfl] at h
      obtain ⟨⟨n, e2⟩, hm, h⟩:=Option.bind_eq_some_iff.1 h
      simp only [Option.some.injEq, Prod.mk.injEq] at h
      have HM:=Aside0.mk hm
      have HE:=Aside0.mk h
      clear h hm
      have hc:=blk_cell HG.out 0
      have hcx : w.cell? ⟨gt, 0, none⟩ = some (.int .i64 times):=hc.trans rfl
      clear hc
      have hE:=HE.out
      obtain ⟨e1, e2'⟩:=hE
      subst e2'
      unfold mx at e1
      clear HE
      by_cases hs : wrap64 (n - used) < 0
      · rw [if_pos hs] at e1
        subst e1
        have ds : decide (wrap64 (n - used) < 0) = true:=decide_eq_true hs
        go_enter Try.func38, Try.ntmps38
        go_wp2_with (first | (go_at_call 20;((first | (with_reducible refine (assess_money.calls part true _ HP.out).mono ?_) | (with_reducible refine (assess_money.calls used true _ HU.out).mono ?_));rintro e w' ⟨rfl, ⟨nd, rfl⟩⟩)) | (go_at_call 39;(with_reducible refine (cents_MulDiv.calls k part times 1000 3 n e2 _ HM.out).mono ?_);rintro e w' ⟨rfl, hb⟩;have HB:=Aside0.mk (below_step (pw_below_drewN (Below.refl w.heap.size w) _) hb);clear hb))
        repeat (go_quiet (fail);try go_wp2)
        go_ret2
        exact ⟨rfl, by first | exact HB.out | exact pw_below_drewN HB.out _⟩
      · rw [if_neg hs] at e1
        subst e1
        have ds : decide (wrap64 (n - used) < 0) = false:=decide_eq_false hs
        go_enter Try.func38, Try.ntmps38
        go_wp2_with (first | (go_at_call 20;((first | (with_reducible refine (assess_money.calls part true _ HP.out).mono ?_) | (with_reducible refine (assess_money.calls used true _ HU.out).mono ?_));rintro e w' ⟨rfl, ⟨nd, rfl⟩⟩)) | (go_at_call 39;(with_reducible refine (cents_MulDiv.calls k part times 1000 3 n e2 _ HM.out).mono ?_);rintro e w' ⟨rfl, hb⟩;have HB:=Aside0.mk (below_step (pw_below_drewN (Below.refl w.heap.size w) _) hb);clear hb))
        repeat (go_quiet (fail);try go_wp2)
        go_ret2
        exact ⟨rfl, by first | exact HB.out | exact pw_below_drewN HB.out _⟩
theorem info_caps : (Try.prog.info? 3).map (fun i=>(i.zero, i.size, i.bytes)) = some (some (.int .i64 0), 1, 8):=by kernel_rfl
set_option maxHeartbeats 4000000 in
set_option maxRecDepth 100000 in
theorem caps_long (A0 A2 : Option Addr) (c0 c2 : Nat) (l0 l2 : List Int) (a1 : Int) (w : World) (h : l0.length > 32 ∨ l2.length ≠ l0.length) :
    Calls Try.prog 19 #[.slice A0 l0.length c0, .int .i64 a1, .slice A2 l2.length c2] w fun e w'=>e = .returned (.tuple #[.slice none 0 0, .int .i64 8]) ∧ Below w.heap.size w w':=by
  by_cases h1 : l0.length > 32
  · have d1 : decide (32 < (l0.length : Int)) = true:=decide_eq_true (by omega)
    have d1' : decide (32 < l0.length) = true:=decide_eq_true h1
    clear h h1
    go_enter Try.func19, Try.ntmps19
    go_wp2_with fail
    go_step3
    go_wp2
    rw [Exit.noGoto_ret]
    go_ret2
    exact ⟨rfl, Below.refl _ _⟩
  · have hne : l2.length ≠ l0.length:=by omega
    have d1 : decide (32 < (l0.length : Int)) = false:=decide_eq_false (by omega)
    have d1' : decide (32 < l0.length) = false:=decide_eq_false h1
    have he2 : (l2.length != l0.length) = true:=by simpa using hne
    have he3 : ((l2.length : Int) != (l0.length : Int)) = true:=by simp;omega
    have he4 : (l2.length == l0.length) = false:=by simpa using hne
    have he5 : ((l2.length : Int) == (l0.length : Int)) = false:=by simp;omega
    clear h h1 hne
    go_enter Try.func19, Try.ntmps19
    go_wp2_with fail
    go_step3
    go_wp2
    rw [Exit.noGoto_ret]
    go_ret2
    exact ⟨rfl, Below.refl _ _⟩
set_option maxHeartbeats 4000000 in
set_option maxRecDepth 100000 in
theorem caps_times (A0 A2 : Option Addr) (c0 c2 : Nat) (l0 l2 : List Int) (a1 : Int) (w : World) (h0 : l0.length ≤ 32) (h2 : l2.length = l0.length) (h : a1 < 0 ∨ a1 > 10000) :
    Calls Try.prog 19 #[.slice A0 l0.length c0, .int .i64 a1, .slice A2 l2.length c2] w fun e w'=>e = .returned (.tuple #[.slice none 0 0, .int .i64 2]) ∧ Below w.heap.size w w':=by
  have d1 : decide (32 < (l0.length : Int)) = false:=decide_eq_false (by omega)
  have d1' : decide (32 < l0.length) = false:=decide_eq_false (by omega)
  have he2 : (l2.length != l0.length) = false:=by simpa using h2
  have he3 : ((l2.length : Int) != (l0.length : Int)) = false:=by simp;omega
  have he4 : (l2.length == l0.length) = true:=by simpa using h2
  have he5 : ((l2.length : Int) == (l0.length : Int)) = true:=by simp;omega
  by_cases h1 : a1 < 0
  · have d2 : decide (a1 < 0) = true:=decide_eq_true h1
    clear h h1 h0 h2
    go_enter Try.func19, Try.ntmps19
    go_wp2_with fail
    go_step3
    go_wp2
    rw [Exit.noGoto_ret]
    go_ret2
    exact ⟨rfl, Below.refl _ _⟩
  · have d2 : decide (a1 < 0) = false:=decide_eq_false h1
    have d3 : decide (10000 < a1) = true:=decide_eq_true (by omega)
    clear h h1 h0 h2
    go_enter Try.func19, Try.ntmps19
    go_wp2_with fail
    go_step3
    go_wp2
    rw [Exit.noGoto_ret]
    go_ret2
    exact ⟨rfl, Below.refl _ _⟩
theorem cap_drop (l : List Int) (i : Nat) (h : i < l.length) : l.drop i = rd l (i : Int) :: l.drop (i + 1):=by
  rw [List.drop_eq_getElem_cons h]
  unfold rd
  rw [Int.toNat_natCast, List.getD_eq_getElem?_getD, List.getElem?_eq_getElem h];rfl
set_option maxHeartbeats 8000000 in
set_option maxRecDepth 100000 in
theorem caps_main (k : Nat) (A0 A2 : Option Addr) (c0 c2 : Nat) (l0 l2 : List Int) (a1 r2 : Int) (r1 : List Int) (w : World) (hr0 : Kd.C (Kd.int .i64) w A0 l0.length l0) (_hc0 : l0.length ≤ c0) (hr2 : Kd.C (Kd.int .i64) w A2 l2.length l2) (_hc2 : l2.length ≤ c2) (h0 : l0.length ≤ 32) (h2 : l2.length = l0.length) (ht : ¬ (a1 < 0 ∨ a1 > 10000)) (h : capsGo k a1 l0 l2 [] = some (r1, r2)) :
    Calls Try.prog 19 #[.slice A0 l0.length c0, .int .i64 a1, .slice A2 l2.length c2] w fun e w'=>∃ v0_ : Value, e = .returned (.tuple #[v0_, .int .i64 r2]) ∧ Kd.R (Kd.int .i64) 3 w' w.heap.size (fun _=>True) v0_ r1 ∧ Below w.heap.size w w':=by
  have d1 : decide (32 < (l0.length : Int)) = false:=decide_eq_false (by omega)
  have d1' : decide (32 < l0.length) = false:=decide_eq_false (by omega)
  have he2 : (l2.length != l0.length) = false:=by simpa using h2
  have he3 : ((l2.length : Int) != (l0.length : Int)) = false:=by simp;omega
  have he4 : (l2.length == l0.length) = true:=by simpa using h2
  have he5 : ((l2.length : Int) == (l0.length : Int)) = true:=by simp;omega
  have d2 : decide (a1 < 0) = false:=decide_eq_false (by omega)
  have d3 : decide (10000 < a1) = false:=decide_eq_false (by omega)
  have HR0:=Aside0.mk hr0
  have HR2:=Aside0.mk hr2
  have HH:=Aside0.mk h
  have HE:=Aside0.mk h2
  clear hr0 hr2 h ht h2
  go_enter Try.func19, Try.ntmps19
  go_wp2_with fail
  go_step3
  go_wp2_with fail
  refine (capper_any a1 _).mono ?_
  rintro e wA ⟨gt, rfl, hg0, hgt, hb⟩
  have HG:=Aside0.mk hgt
  have HB:=Aside0.mk hb
  have HG0:=Aside0.mk hg0
  clear hgt hb hg0
  go_wp2_with fail
  go_step3
  go_wp2_with fail
  go_loopw [9, 10, 34] (fun v9 v10 v34 wr=>∃ (i : Nat) (acc : List Int), i ≤ l0.length ∧ acc.length = i ∧ v34 = .int .i64 (i : Int) ∧ v10 = .int .i64 0 ∧ Aside0 (capsGo k a1 (l0.drop i) (l2.drop i) acc = some (r1, r2)) ∧ Aside0 (Kd.R (Kd.int .i64) 3 wr w.heap.size (fun b=>b ≠ gt) v9 acc) ∧ Aside0 (wr.heap[gt]? = some (.cells #[.int .i64 a1] 3 (0, 0))) ∧ Aside0 (Below w.heap.size w wr)) (fun _ _ v34 _=>l0.length - (intOf v34).toNat)
  case atStart=>exact ⟨0, [], by omega, rfl, rfl, rfl, HH, ⟨Kd.R_nil _ _ _ _ _⟩, HG, HB⟩
  case round =>
    clear HG HB HH
    obtain ⟨i, acc, hi, ha, rfl, rfl, HI, HO, HG, HB⟩:=hrel
    by_cases hlt : i < l0.length
    · have hd0:=cap_drop l0 i hlt
      have hd2:=cap_drop l2 i (by rw [HE.out];exact hlt)
      have hgo:=HI.out
      rw [hd0, hd2, capsGo] at hgo
      obtain ⟨⟨n, e2⟩, hcf, hgo⟩:=Option.bind_eq_some_iff.1 hgo
      simp only at hgo
      obtain ⟨ad, e1, hc1⟩:=Kd.at_int (Kd.C_below HR0.out HB.out) (i : Int) (by omega) (by omega)
      cases e1
      obtain ⟨ad2, e3, hc3⟩:=Kd.at_int (Kd.C_below HR2.out HB.out) (i : Int) (by omega) (by rw [HE.out];omega)
      cases e3
      have HCF:=Aside0.mk hcf
      have HGO:=Aside0.mk hgo
      have HA:=Aside0.mk ha
      clear hd0 hd2 hgo hcf HI ha
      simp only [Int.toNat_natCast] at hc1 hc3
      generalize rd l0 (i : Int) = x at *
      generalize rd l2 (i : Int) = u at *
      have hi2 : (i : Int) < (l2.length : Int):=by rw [HE.out];omega
      by_cases hz : e2 = 0
      · subst hz
        have hgo:=HGO.out
        rw [if_pos rfl] at hgo
        have HGO2:=Aside0.mk hgo
        clear hgo HGO
        go_wp2_with fail
        refine (cap1_any k a1 x u n 0 gt _ (by first | exact HG.out | exact blk_drewN HG.out _) HCF.out).mono ?_
        rintro e w3 ⟨rfl, hb3⟩
        have n9:=Aside0.mk (Kd.R_below HO.out hb3)
        have ng:=Aside0.mk (blk_below HG.out hb3)
        have nb:=Aside0.mk (below_step HB.out hb3)
        clear HO HG HB hb3 hc1 hc3
        have hal : acc.length ≤ 32:=by rw [HA.out];omega
        have LM:=Aside0.mk hal
        clear hal
        go_wp2_with (first | ((with_reducible refine gate_builtin (b:=.append) (xs:=#[.tmp 51, .tmp 53]) rfl ?_);at_builtin;refine Kd.R_append (Kd.int .i64) (w0:=w) w.heap.size rfl (.tmp 51) (.tmp 53) 26 3 (.int .i64 0) 8 rfl Try.underlying26 info_caps rfl (by decide) (by omega) _ _ n [.int .i64 n] (fun b=>b ≠ gt) (fun _=>False) rfl rfl ?aP (fun _ hk=>hk.elim) ?aF n9.out nb.out ?aS ?aL ?_;(case aP=>exact rfl);(case aF=>intro k_ hk;have:=blk_lt ng.out;omega);(case aS=>exact below_size nb.out);(case aL=>have:=LM.out;omega);intro v6 w6 ho hb hg hat;have m9:=Aside0.mk ho;have mg:=Aside0.mk (blk_grown ng.out hg (fun he=>(n9.out.1 _ he.symm) rfl));have mb:=Aside0.mk hb;clear n9 ng nb ho hb hg hat))
        go_roundw
        case measure=>show _ < _;simp [intOf];omega
        case rel =>
          exact ⟨i + 1, acc ++ [n], by omega, by rw [List.length_append, HA.out];rfl, by go_num, rfl, HGO2, m9, mg, mb⟩
      · have hgo:=HGO.out
        rw [if_neg hz] at hgo
        simp only [Option.some.injEq, Prod.mk.injEq] at hgo
        obtain ⟨rfl, rfl⟩:=hgo
        have dz : (e2 != 0) = true:=bne_iff_ne.2 hz
        clear HGO hz
        go_wp2_with fail
        refine (cap1_any k a1 x u n e2 gt _ (by first | exact HG.out | exact blk_drewN HG.out _) HCF.out).mono ?_
        rintro e w3 ⟨rfl, hb3⟩
        have nb:=Aside0.mk (below_step HB.out hb3)
        clear HO HG HB hb3 hc1 hc3
        go_wp2
        rw [Exit.noGoto_ret]
        go_ret2
        exact ⟨_, rfl, Kd.R_nil _ _ _ _ _, by first | exact nb.out | exact pw_below_drewN nb.out _⟩
    · have hil : i = l0.length:=by omega
      subst hil
      have hgo:=HI.out
      rw [List.drop_length] at hgo
      have hgo2 : some (acc, (0 : Int)) = some (r1, r2):=by
        rw [← hgo];simp [capsGo]
      simp only [Option.some.injEq, Prod.mk.injEq] at hgo2
      obtain ⟨rfl, rfl⟩:=hgo2
      clear HI hgo
      go_wp2
      rw [Exit.noGoto_ret]
      go_ret2
      exact ⟨_, rfl, Kd.R_mono HO.out (fun _ _=>trivial), HB.out⟩
theorem assess_Caps.calls (k : Nat) (A0 : Option Addr) (c0 : Nat) (l0 : List Int) (a1 : Int) (A2 : Option Addr) (c2 : Nat) (l2 : List Int) (r1 : List Int) (r2 : Int) (w : World) (hr0 : Kd.C (Kd.int .i64) w A0 l0.length l0) (hc0 : l0.length ≤ c0) (hr2 : Kd.C (Kd.int .i64) w A2 l2.length l2) (hc2 : l2.length ≤ c2) (h : assess_Caps.f k l0 a1 l2 = some (r1, r2)) :
    Calls Try.prog 19 #[.slice A0 l0.length c0, .int .i64 a1, .slice A2 l2.length c2] w fun e w'=>∃ v0_ : Value, e = .returned (.tuple #[v0_, .int .i64 r2]) ∧ Kd.R (Kd.int .i64) 3 w' w.heap.size (fun _=>True) v0_ r1 ∧ Below w.heap.size w w':=by
  unfold assess_Caps.f at h
  by_cases h1 : l0.length > 32 ∨ l2.length ≠ l0.length
  · rw [if_pos h1] at h
    simp only [Option.some.injEq, Prod.mk.injEq] at h
    obtain ⟨rfl, rfl⟩:=h
    refine (caps_long A0 A2 c0 c2 l0 l2 a1 w h1).mono ?_
    rintro e w1 ⟨rfl, hb⟩
    exact ⟨_, rfl, Kd.R_nil _ _ _ _ _, hb⟩
  · rw [if_neg h1] at h
    have hlen : l0.length ≤ 32 ∧ l2.length = l0.length:=by
      constructor
      · omega
      · apply Classical.byContradiction;intro hn;exact h1 (.inr hn)
    by_cases ht : a1 < 0 ∨ a1 > 10000
    · rw [if_pos ht] at h
      simp only [Option.some.injEq, Prod.mk.injEq] at h
      obtain ⟨rfl, rfl⟩:=h
      refine (caps_times A0 A2 c0 c2 l0 l2 a1 w hlen.1 hlen.2 ht).mono ?_
      rintro e w1 ⟨rfl, hb⟩
      exact ⟨_, rfl, Kd.R_nil _ _ _ _ _, hb⟩
    · rw [if_neg ht] at h
      exact caps_main k A0 A2 c0 c2 l0 l2 a1 r2 r1 w hr0 hc0 hr2 hc2 hlen.1 hlen.2 ht h

/-! ### share_capped: function 31 -/
def share_capped.l0 : Nat → List Int → Int → Int → Option (Bool)
  | 0, _, _, _=>none
  | k + 1, x5, x6, x7=>if x7 < x6 then (if 0 ≤ x7 then (if x7 < (x5.length : Int) then ((share_money.f (rd x5 x7)).bind fun t165=>(if t165 = true then (share_capped.l0 k x5 x6 (wrap64 (x7 + 1))) else (some false))) else (none)) else (none)) else (some true)
def share_capped.f (k : Nat) (l0 : List Int) : Option (Bool):=share_capped.l0 k l0 (l0.length : Int) 0
theorem share_capped.mono_l : ∀ k, (∀ y0 y1 y2, LeO (share_capped.l0 k y0 y1 y2) (share_capped.l0 (k + 1) y0 y1 y2))
  | 0=>fun _ _ _ r h=>by simp [share_capped.l0] at h
  | k + 1=>by
    have ih0:=share_capped.mono_l k
    · intro y0 y1 y2
      unfold share_capped.l0
      repeat' first
      | (with_reducible exact ih0 _ _ _)
      | (with_reducible exact LeO.refl _)
      | (with_reducible exact LeO.none _)
      | (with_reducible refine LeO.ite ?_ ?_)
      | (with_reducible refine LeO.bind ?_ (fun _=>?_))
      | exact ih0 _ _ _
      | exact LeO.none _
      | refine LeO.ite ?_ ?_
      | refine LeO.bind ?_ (fun _=>?_)
theorem share_capped.mono : ∀ a0 k, LeO (share_capped.f k a0) (share_capped.f (k + 1) a0):=by
  intro a0 k
  have ih0:=share_capped.mono_l k
  unfold share_capped.f
  repeat' first
      | (with_reducible exact ih0 _ _ _)
      | (with_reducible exact LeO.refl _)
      | (with_reducible exact LeO.none _)
      | (with_reducible refine LeO.ite ?_ ?_)
      | (with_reducible refine LeO.bind ?_ (fun _=>?_))
      | exact ih0 _ _ _
      | exact LeO.none _
      | refine LeO.ite ?_ ?_
      | refine LeO.bind ?_ (fun _=>?_)
set_option maxHeartbeats 8000000 in
set_option maxRecDepth 100000 in
theorem share_capped.calls (k : Nat) (A0 : Option Addr) (c0 : Nat) (l0 : List Int) (r : Bool) (w : World) (hr0 : Kd.C (Kd.int .i64) w A0 l0.length l0) (hc0 : l0.length ≤ c0) (h : share_capped.f k l0 = some r) :
    Calls Try.prog 31 #[.slice A0 l0.length c0] w fun e w'=>e = .returned (.bool r) ∧ Drawn0 w w':=by
  have HR0:=Aside0.mk hr0
  have HC0:=Aside0.mk hc0
  clear hr0 hc0
  have H : (share_capped.l0 k l0 (l0.length : Int) 0) = some r:=h
  clear h
  have H':=Aside0.mk H
  clear H
  go_enter Try.func31, Try.ntmps31
  go_wp2
  go_loopg [7] k (fun kq v7 w'=>∃ (x7_1 : Int), v7 = .int .i64 x7_1 ∧ Aside0 (share_capped.l0 kq l0 (l0.length : Int) x7_1 = some r) ∧ Aside0 (kq ≤ k) ∧ Drawn0 w w')
  case atStart=>exact ⟨(0), (by first | rfl | (simp;done) | (simp [*];done)), H', ⟨Nat.le_refl _⟩, by repeat (first | exact Drawn0.refl _ | apply Drawn0.step)⟩
  case round =>
    clear H'
    obtain ⟨x7_1, rfl, HA, HK1, ⟨m1, rfl⟩⟩:=hrel
    cases gk with
    | zero=>exact absurd HA.out (by simp [share_capped.l0])
    | succ k1 =>
      have H:=HA.out
      clear HA
      simp only [share_capped.l0] at H
      by_cases c2 : x7_1 < (l0.length : Int)
      · rw [if_pos c2] at H
        have c2b0 : decide (x7_1 < (l0.length : Int)) = true:=decide_eq_true c2
        clear c2
        by_cases c3 : 0 ≤ x7_1
        · rw [if_pos c3] at H
          have c3b0 : decide (0 ≤ x7_1) = true:=decide_eq_true c3
          clear c3
          by_cases c4 : x7_1 < (l0.length : Int)
          · rw [if_pos c4] at H
            have c4b0 : decide (x7_1 < (l0.length : Int)) = true:=decide_eq_true c4
            clear c4
            replace H:=Option.bind_eq_some_iff.mp H
            obtain ⟨t165, A50, H⟩:=H
            replace H : (if t165 = true then (share_capped.l0 k1 l0 (l0.length : Int) (wrap64 (x7_1 + 1))) else (some false)) = some r:=H
            have A5:=Aside0.mk A50
            clear A50
            by_cases c6 : t165 = true
            · subst c6
              have H1 : (share_capped.l0 k1 l0 (l0.length : Int) (wrap64 (x7_1 + 1))) = some r:=by rw [if_pos rfl] at H;exact H
              clear H
              have H:=H1
              clear H1
              have H':=Aside0.mk H
              clear H
              have p164 : 0 ≤ (x7_1 : Int):=of_decide_eq_true (by first | (with_reducible assumption) | assumption)
              have q164 : x7_1 < (l0.length : Int):=of_decide_eq_true (by first | (with_reducible assumption) | assumption)
              obtain ⟨ad164, e164, hx164_0⟩:=Kd.at_int HR0.out x7_1 p164 q164
              cases e164
              replace p164:=eq_true p164
              replace q164:=eq_true q164
              go_wp2_with (first | ((with_reducible refine gate_callee (f:=29) rfl ?_);refine goesL_ (some 12) rfl rfl Try.func29 (by kernel_rfl) rfl #[.int .i64 (rd l0 x7_1)] rfl (by (try simp only [List.map_toArray, List.map_cons, List.map_nil]);first | done | rfl | (simp only [List.length_drop, List.length_take];rfl)) ?_;(with_reducible refine (share_money.calls (rd l0 x7_1) true _ A5.out).mono ?_);rintro e w' ⟨rfl, ⟨nd, rfl⟩⟩;refine ⟨_, rfl, ?_⟩))
              go_roundg k1
              case measure=>have:=HK1.out;omega
              case rel=>exact ⟨(wrap64 (x7_1 + 1)), (by first | rfl | (simp;done) | (simp [*];done)), H', ⟨by have:=HK1.out;omega⟩, by repeat (first | exact Drawn0.refl _ | apply Drawn0.step)⟩
            · replace c6:=Bool.eq_false_iff.mpr c6
              subst c6
              have H1 : (some false) = some r:=by rw [if_neg (show ¬ (false = true) by decide)] at H;exact H
              clear H
              have H:=H1
              clear H1
              obtain rfl:=Option.some.inj H
              have p164 : 0 ≤ (x7_1 : Int):=of_decide_eq_true (by first | (with_reducible assumption) | assumption)
              have q164 : x7_1 < (l0.length : Int):=of_decide_eq_true (by first | (with_reducible assumption) | assumption)
              obtain ⟨ad164, e164, hx164_0⟩:=Kd.at_int HR0.out x7_1 p164 q164
              cases e164
              replace p164:=eq_true p164
              replace q164:=eq_true q164
              go_wp2_with (first | ((with_reducible refine gate_callee (f:=29) rfl ?_);refine goesL_ (some 12) rfl rfl Try.func29 (by kernel_rfl) rfl #[.int .i64 (rd l0 x7_1)] rfl (by (try simp only [List.map_toArray, List.map_cons, List.map_nil]);first | done | rfl | (simp only [List.length_drop, List.length_take];rfl)) ?_;(with_reducible refine (share_money.calls (rd l0 x7_1) false _ A5.out).mono ?_);rintro e w' ⟨rfl, ⟨nd, rfl⟩⟩;refine ⟨_, rfl, ?_⟩))
              go_ret
              exact ⟨by first | rfl | (simp;done) | (simp [*];done), by repeat (first | exact Drawn0.refl _ | apply Drawn0.step)⟩
          · rw [if_neg c4] at H
            exact absurd H (by simp)
        · rw [if_neg c3] at H
          exact absurd H (by simp)
      · rw [if_neg c2] at H
        have c2b0 : decide (x7_1 < (l0.length : Int)) = false:=decide_eq_false c2
        clear c2
        obtain rfl:=Option.some.inj H
        go_wp2
        go_ret
        exact ⟨by first | rfl | (simp;done) | (simp [*];done), by repeat (first | exact Drawn0.refl _ | apply Drawn0.step)⟩

end Go.Proofs.Ytlkdilfheplmhaa.PTopLosses
