/- Laid for this claim by a program of this session's (wip/mkprint.py, wip/ext.py); not trusted: Lean checks it. -/
import Derived.Test.YtfogpifjpnonnaaPWaterfallTurnsx0
import Derived.Test.YtfogpifjpnonnaaPWaterfallTurnsx1
import Derived.Test.YtfogpifjpnonnaaPWaterfallTurnsx3
import Derived.Test.YtfogpifjpnonnaaPWaterfallTurnsx5
import Derived.Test.YtfogpifjpnonnaaPWaterfallTurnsx6
namespace Go.Proofs.Ytfogpifjpnonnaa.PWaterfallTurns
open Go.RowKit Go.Proofs.YtfogpifjpnonnaaW.PrintWords Go.Proofs.YtfogpifjpnonnaaW.PrintLast Go.Proofs.YtfogpifjpnonnaaW.PrintMore
attribute [local go_sem] max2_int min2_int max_two min_two max_three min_three max_four min_four   -- for this text's walks alone
set_option linter.unusedVariables false
set_option linter.unusedSimpArgs false

/-! ### cents_MulDiv: function 56 -/
def alwaysB (mode : Int) (below : Bool) : Bool:=(mode == 2) || ((mode == 3) && below) || ((mode == 4) && !below)
def awayB (mode : Int) (below : Bool) (q r by_ : Int) : Bool:=if mode = 5 then (decide (r > by_ - r) || (decide (r = by_ - r) && decide (q % 2 = 1))) else alwaysB mode below
set_option maxHeartbeats 4000000 in
set_option maxRecDepth 100000 in
theorem away_any (mode : Int) (below : Bool) (w : World) :
    Calls Try.prog 65 #[.int .i64 mode, .bool below] w fun e w'=>e = .returned (.func (.func 68) #[] #[.pointer (some ⟨w.heap.size, 0, none⟩), .pointer (some ⟨w.heap.size + 1, 0, none⟩)]) ∧ w' = ((w.alloc (.cells #[.int .i64 mode] 3)).alloc (.cells #[.bool (alwaysB mode below)] 4)):=by
  have hmf : ∀ (fn : Fn) (first cap : Array Value) (w : World), (Instr.makeFunc fn first cap).run Try.prog w = .ok (.func fn first cap) w:=fun _ _ _ _=>rfl
  by_cases h2 : mode = 2
  · subst h2
    rw [show alwaysB 2 below = true by unfold alwaysB;simp]
    go_enter Try.func65, Try.ntmps65
    go_wp2
    go_ret
    exact ⟨rfl, rfl⟩
  have m2 : (mode == 2) = false:=beq_eq_false_iff_ne.2 h2
  by_cases h3 : mode = 3
  · subst h3
    cases below with
    | true =>
      rw [show alwaysB 3 true = true by decide]
      go_enter Try.func65, Try.ntmps65
      go_wp2
      go_ret
      exact ⟨rfl, rfl⟩
    | false =>
      rw [show alwaysB 3 false = false by decide]
      go_enter Try.func65, Try.ntmps65
      go_wp2
      go_ret
      exact ⟨rfl, rfl⟩
  have m3 : (mode == 3) = false:=beq_eq_false_iff_ne.2 h3
  by_cases h4 : mode = 4
  · subst h4
    rw [show alwaysB 4 below = !below by unfold alwaysB;simp]
    cases below with
    | true =>
      go_enter Try.func65, Try.ntmps65
      go_wp2
      go_ret
      exact ⟨rfl, rfl⟩
    | false =>
      go_enter Try.func65, Try.ntmps65
      go_wp2
      go_ret
      exact ⟨rfl, rfl⟩
  have m4 : (mode == 4) = false:=beq_eq_false_iff_ne.2 h4
  rw [show alwaysB mode below = false by unfold alwaysB;rw [m2, m3, m4];rfl]
  clear h2 h3 h4
  go_enter Try.func65, Try.ntmps65
  go_wp2
  go_ret
  exact ⟨rfl, rfl⟩
set_option maxHeartbeats 4000000 in
set_option maxRecDepth 100000 in
theorem away1_any (mode : Int) (below : Bool) (q r by_ : Int) (gm ga : Nat) (w : World) (hq : 0 ≤ q ∧ q ≤ 1152921504606846976) (hr : 0 ≤ r ∧ r < by_) (hb : by_ ≤ 1152921504606846976) (c1 : w.cell? ⟨gm, 0, none⟩ = some (.int .i64 mode)) (c2 : w.cell? ⟨ga, 0, none⟩ = some (.bool (alwaysB mode below))) :
    Calls Try.prog 68 #[.int .u64 q, .int .u64 r, .int .u64 by_, .pointer (some ⟨gm, 0, none⟩), .pointer (some ⟨ga, 0, none⟩)] w fun e w'=>e = .returned (.bool (awayB mode below q r by_)) ∧ Drawn0 w w':=by
  obtain ⟨hq0, hq1⟩:=hq
  obtain ⟨hr0, hr1⟩:=hr
  unfold awayB
  by_cases h5 : mode = 5
  · subst h5
    rw [if_pos rfl]
    have e1 : IntKind.u64.wrap (by_ - r) = by_ - r:=by rw [IntKind.wrap_u64];omega
    by_cases t1 : r > by_ - r
    · rw [decide_eq_true t1, Bool.true_or]
      have d1 : decide (by_ - r < r) = true:=decide_eq_true t1
      clear t1
      go_enter Try.func68, Try.ntmps68
      go_wp2
      go_ret
      exact ⟨rfl, Drawn0.refl _⟩
    · rw [decide_eq_false t1, Bool.false_or]
      have d1 : decide (by_ - r < r) = false:=decide_eq_false t1
      by_cases t2 : r = by_ - r
      · rw [decide_eq_true t2, Bool.true_and]
        have d2 : (r == by_ - r) = true:=beq_iff_eq.2 t2
        by_cases t3 : q % 2 = 1
        · rw [decide_eq_true t3]
          have d3 : (q % 2 == 1) = true:=beq_iff_eq.2 t3
          clear t1 t2 t3
          go_enter Try.func68, Try.ntmps68
          go_wp2
          go_ret
          exact ⟨rfl, Drawn0.refl _⟩
        · rw [decide_eq_false t3]
          have d3 : (q % 2 == 1) = false:=beq_eq_false_iff_ne.2 t3
          clear t1 t2 t3
          go_enter Try.func68, Try.ntmps68
          go_wp2
          go_ret
          exact ⟨rfl, Drawn0.refl _⟩
      · rw [decide_eq_false t2, Bool.false_and]
        have d2 : (r == by_ - r) = false:=beq_eq_false_iff_ne.2 t2
        clear t1 t2
        go_enter Try.func68, Try.ntmps68
        go_wp2
        go_ret
        exact ⟨rfl, Drawn0.refl _⟩
  · rw [if_neg h5]
    have d5 : (mode != 5) = true:=bne_iff_ne.2 h5
    generalize alwaysB mode below = al at *
    clear h5
    go_enter Try.func68, Try.ntmps68
    go_wp2
    go_ret
    exact ⟨rfl, Drawn0.refl _⟩
theorem away_box (mode : Int) (below : Bool) (w : World) :
    Calls Try.prog 65 #[.int .i64 mode, .bool below] w fun e w'=>∃ gm ga : Nat, e = .returned (.func (.func 68) #[] #[.pointer (some ⟨gm, 0, none⟩), .pointer (some ⟨ga, 0, none⟩)]) ∧ w'.cell? ⟨gm, 0, none⟩ = some (.int .i64 mode) ∧ w'.cell? ⟨ga, 0, none⟩ = some (.bool (alwaysB mode below)) ∧ Below w.heap.size w w':=by
  refine (away_any mode below w).mono ?_
  rintro e w' ⟨rfl, rfl⟩
  have e1 : (w.alloc (.cells #[.int .i64 mode] 3)).cell? ⟨w.heap.size, 0, none⟩ = some (.int .i64 mode):=by rw [World.cell?_alloc_mark];rfl
  have e2 : ((w.alloc (.cells #[.int .i64 mode] 3)).alloc (.cells #[.bool (alwaysB mode below)] 4)).cell? ⟨(w.alloc (.cells #[.int .i64 mode] 3)).heap.size, 0, none⟩ = some (.bool (alwaysB mode below)):=by rw [World.cell?_alloc_mark];rfl
  have hsz : (w.alloc (.cells #[.int .i64 mode] 3)).heap.size = w.heap.size + 1:=by simp
  rw [hsz] at e2
  exact ⟨w.heap.size, w.heap.size + 1, rfl, (World.cell?_alloc_lt _ _ _ (by simp)).trans e1, e2, below_alloc (below_alloc (Below.refl _ _) _) _⟩
def belowB (a b c : Int) : Bool:=!(!(decide (a < 0) == decide (b < 0)) == decide (c < 0))
def cents_MulDiv.f (k : Nat) (a0 : Int) (a1 : Int) (a2 : Int) (a3 : Int) : Option (Int × Int) :=
  (cents_Fits.f a0).bind fun fa=>if fa = true then (cents_Fits.f a1).bind fun fb=>if fb = true then (cents_Fits.f a2).bind fun fc=>if fc = true then
    (if a3 < 1 ∨ a3 > 5 then some (0, 2) else if a2 = 0 then some (0, 4) else
      (cents_size.f a0).bind fun sa=>(cents_size.f a1).bind fun sb=>(bits_Mul64.f sa sb).bind fun hl=>(cents_size.f a2).bind fun by_ =>
        if hl.1 ≥ by_ then some (0, 3) else (bits_Div64.f k hl.1 hl.2 by_).bind fun qr =>
          if qr.1 > 1152921504606846976 then some (0, 3) else
          if qr.2 > 0 then (if 0 ≤ qr.1 ∧ qr.2 < by_ ∧ by_ ≤ 1152921504606846976 then (if awayB a3 (belowB a0 a1 a2) qr.1 qr.2 by_ = true then cents_signed.f (qr.1 + 1) (belowB a0 a1 a2) else cents_signed.f qr.1 (belowB a0 a1 a2)) else none)
          else if qr.2 = 0 then cents_signed.f qr.1 (belowB a0 a1 a2) else none)
    else some (0, 2) else some (0, 2) else some (0, 2)
theorem leO_if {α : Type} {c : Prop} [Decidable c] {a b a' b' : Option α} (h : LeO a a') (k : LeO b b') : LeO (if c then a else b) (if c then a' else b'):=by
  split
  · exact h
  · exact k
theorem cents_MulDiv.mono : ∀ a0 a1 a2 a3 k, LeO (cents_MulDiv.f k a0 a1 a2 a3) (cents_MulDiv.f (k + 1) a0 a1 a2 a3):=by
  intro a0 a1 a2 a3 k
  unfold cents_MulDiv.f
  refine LeO.bind (LeO.refl _) (fun _=>leO_if ?_ (LeO.refl _))
  refine LeO.bind (LeO.refl _) (fun _=>leO_if ?_ (LeO.refl _))
  refine LeO.bind (LeO.refl _) (fun _=>leO_if ?_ (LeO.refl _))
  refine leO_if (LeO.refl _) (leO_if (LeO.refl _) ?_)
  refine LeO.bind (LeO.refl _) (fun _=>LeO.bind (LeO.refl _) (fun _=>LeO.bind (LeO.refl _) (fun _=>LeO.bind (LeO.refl _) (fun _=>?_))))
  refine leO_if (LeO.refl _) (LeO.bind (bits_Div64.mono _ _ _ _) (fun _=>LeO.refl _))
set_option maxHeartbeats 8000000 in
set_option maxRecDepth 100000 in
theorem md_args (a b c mode : Int) (fa fb fc : Bool) (w : World) (ha : cents_Fits.f a = some fa) (hb : fa = true → cents_Fits.f b = some fb) (hc : fa = true → fb = true → cents_Fits.f c = some fc) (hbad : fa = true → fb = true → fc = true → mode < 1 ∨ mode > 5) :
    Calls Try.prog 56 #[.int .i64 a, .int .i64 b, .int .i64 c, .int .i64 mode] w fun e w'=>e = .returned (.tuple #[.int .i64 0, .int .i64 2]) ∧ Drawn0 w w':=by
  have FA:=Aside0.mk ha
  clear ha
  cases fa with
  | false =>
    clear hb hc hbad
    go_enter Try.func56, Try.ntmps56
    go_wp2_with (go_at_call 54;((with_reducible refine (cents_Fits.calls a false _ FA.out).mono ?_);rintro e w' ⟨rfl, ⟨nd, rfl⟩⟩))
    go_ret2
    exact ⟨rfl, by repeat (first | exact Drawn0.refl _ | apply Drawn0.step)⟩
  | true =>
    have FB:=Aside0.mk (hb rfl)
    clear hb
    cases fb with
    | false =>
      clear hc hbad
      go_enter Try.func56, Try.ntmps56
      go_wp2_with (go_at_call 54;((first | (with_reducible refine (cents_Fits.calls a true _ FA.out).mono ?_) | (with_reducible refine (cents_Fits.calls b false _ FB.out).mono ?_));rintro e w' ⟨rfl, ⟨nd, rfl⟩⟩))
      go_ret2
      exact ⟨rfl, by repeat (first | exact Drawn0.refl _ | apply Drawn0.step)⟩
    | true =>
      have FC:=Aside0.mk (hc rfl rfl)
      clear hc
      cases fc with
      | false =>
        clear hbad
        go_enter Try.func56, Try.ntmps56
        go_wp2_with (go_at_call 54;((first | (with_reducible refine (cents_Fits.calls a true _ FA.out).mono ?_) | (with_reducible refine (cents_Fits.calls b true _ FB.out).mono ?_) | (with_reducible refine (cents_Fits.calls c false _ FC.out).mono ?_));rintro e w' ⟨rfl, ⟨nd, rfl⟩⟩))
        go_ret2
        exact ⟨rfl, by repeat (first | exact Drawn0.refl _ | apply Drawn0.step)⟩
      | true =>
        have hm:=hbad rfl rfl rfl
        clear hbad
        by_cases h1 : mode < 1
        · have d1 : decide (mode < 1) = true:=decide_eq_true h1
          clear hm h1
          go_enter Try.func56, Try.ntmps56
          go_wp2_with (go_at_call 54;((first | (with_reducible refine (cents_Fits.calls a true _ FA.out).mono ?_) | (with_reducible refine (cents_Fits.calls b true _ FB.out).mono ?_) | (with_reducible refine (cents_Fits.calls c true _ FC.out).mono ?_));rintro e w' ⟨rfl, ⟨nd, rfl⟩⟩))
          go_ret2
          exact ⟨rfl, by repeat (first | exact Drawn0.refl _ | apply Drawn0.step)⟩
        · have d1 : decide (mode < 1) = false:=decide_eq_false h1
          have d2 : decide (5 < mode) = true:=decide_eq_true (by omega)
          clear hm h1
          go_enter Try.func56, Try.ntmps56
          go_wp2_with (go_at_call 54;((first | (with_reducible refine (cents_Fits.calls a true _ FA.out).mono ?_) | (with_reducible refine (cents_Fits.calls b true _ FB.out).mono ?_) | (with_reducible refine (cents_Fits.calls c true _ FC.out).mono ?_));rintro e w' ⟨rfl, ⟨nd, rfl⟩⟩))
          go_ret2
          exact ⟨rfl, by repeat (first | exact Drawn0.refl _ | apply Drawn0.step)⟩
set_option maxHeartbeats 8000000 in
set_option maxRecDepth 100000 in
theorem md_zero (a b mode : Int) (w : World) (fa : cents_Fits.f a = some true) (fb : cents_Fits.f b = some true) (fc : cents_Fits.f 0 = some true) (m1 : 1 ≤ mode) (m2 : mode ≤ 5) :
    Calls Try.prog 56 #[.int .i64 a, .int .i64 b, .int .i64 0, .int .i64 mode] w fun e w'=>e = .returned (.tuple #[.int .i64 0, .int .i64 4]) ∧ Drawn0 w w':=by
  have FA:=Aside0.mk fa
  have FB:=Aside0.mk fb
  have FC:=Aside0.mk fc
  clear fa fb fc
  go_enter Try.func56, Try.ntmps56
  go_wp2_with (go_at_call 54;((first | (with_reducible refine (cents_Fits.calls a true _ FA.out).mono ?_) | (with_reducible refine (cents_Fits.calls b true _ FB.out).mono ?_) | (with_reducible refine (cents_Fits.calls 0 true _ FC.out).mono ?_));rintro e w' ⟨rfl, ⟨nd, rfl⟩⟩))
  go_ret2
  exact ⟨rfl, by repeat (first | exact Drawn0.refl _ | apply Drawn0.step)⟩
set_option maxHeartbeats 8000000 in
set_option maxRecDepth 100000 in
theorem md_over (a b c mode by_ h l sa sb : Int) (w : World)
    (fa : cents_Fits.f a = some true) (fb : cents_Fits.f b = some true) (fc : cents_Fits.f c = some true) (m1 : 1 ≤ mode) (m2 : mode ≤ 5) (hc0 : c ≠ 0)
    (s1 : cents_size.f a = some sa) (s2 : cents_size.f b = some sb) (s3 : cents_size.f c = some by_) (hm : bits_Mul64.f sa sb = some (h, l)) (hlt : ¬ h < by_) :
    Calls Try.prog 56 #[.int .i64 a, .int .i64 b, .int .i64 c, .int .i64 mode] w fun e w'=>e = .returned (.tuple #[.int .i64 0, .int .i64 3]) ∧ Drawn0 w w':=by
  have FA:=Aside0.mk fa
  have FB:=Aside0.mk fb
  have FC:=Aside0.mk fc
  have S1:=Aside0.mk s1
  have S2:=Aside0.mk s2
  have S3:=Aside0.mk s3
  have HM:=Aside0.mk hm
  have cz : (c == 0) = false:=by simpa using hc0
  have dh : decide (by_ ≤ h) = true:=decide_eq_true (by omega)
  clear fa fb fc s1 s2 s3 hm hc0 hlt
  go_enter Try.func56, Try.ntmps56
  go_wp2_with (first | (go_at_call 54;((first | (with_reducible refine (cents_Fits.calls a true _ FA.out).mono ?_) | (with_reducible refine (cents_Fits.calls b true _ FB.out).mono ?_) | (with_reducible refine (cents_Fits.calls c true _ FC.out).mono ?_));rintro e w' ⟨rfl, ⟨nd, rfl⟩⟩)) | (go_at_call 63;((first | (with_reducible refine (cents_size.calls a _ _ S1.out).mono ?_) | (with_reducible refine (cents_size.calls b _ _ S2.out).mono ?_) | (with_reducible refine (cents_size.calls c _ _ S3.out).mono ?_));rintro e w' ⟨rfl, ⟨nd, rfl⟩⟩)) | (go_at_call 62;(with_reducible refine (bits_Mul64.calls _ _ _ _ _ HM.out).mono ?_);rintro e w' ⟨rfl, ⟨nd, rfl⟩⟩))
  go_ret2
  exact ⟨rfl, by repeat (first | exact Drawn0.refl _ | apply Drawn0.step)⟩
set_option maxHeartbeats 8000000 in
set_option maxRecDepth 100000 in
theorem md_overq (a b c mode q r by_ h l sa sb : Int) (w : World) (k : Nat)
    (fa : cents_Fits.f a = some true) (fb : cents_Fits.f b = some true) (fc : cents_Fits.f c = some true) (m1 : 1 ≤ mode) (m2 : mode ≤ 5) (hc0 : c ≠ 0)
    (s1 : cents_size.f a = some sa) (s2 : cents_size.f b = some sb) (s3 : cents_size.f c = some by_) (hm : bits_Mul64.f sa sb = some (h, l)) (hlt : h < by_) (hd : bits_Div64.f k h l by_ = some (q, r)) (hq : ¬ q ≤ 1152921504606846976) :
    Calls Try.prog 56 #[.int .i64 a, .int .i64 b, .int .i64 c, .int .i64 mode] w fun e w'=>e = .returned (.tuple #[.int .i64 0, .int .i64 3]) ∧ Drawn0 w w':=by
  have FA:=Aside0.mk fa
  have FB:=Aside0.mk fb
  have FC:=Aside0.mk fc
  have S1:=Aside0.mk s1
  have S2:=Aside0.mk s2
  have S3:=Aside0.mk s3
  have HM:=Aside0.mk hm
  have HD:=Aside0.mk hd
  have cz : (c == 0) = false:=by simpa using hc0
  have dh : decide (by_ ≤ h) = false:=decide_eq_false (by omega)
  have dq : decide (1152921504606846976 < q) = true:=decide_eq_true (by omega)
  clear fa fb fc s1 s2 s3 hm hc0 hlt hq hd
  go_enter Try.func56, Try.ntmps56
  go_wp2_with (first | (go_at_call 54;((first | (with_reducible refine (cents_Fits.calls a true _ FA.out).mono ?_) | (with_reducible refine (cents_Fits.calls b true _ FB.out).mono ?_) | (with_reducible refine (cents_Fits.calls c true _ FC.out).mono ?_));rintro e w' ⟨rfl, ⟨nd, rfl⟩⟩)) | (go_at_call 63;((first | (with_reducible refine (cents_size.calls a _ _ S1.out).mono ?_) | (with_reducible refine (cents_size.calls b _ _ S2.out).mono ?_) | (with_reducible refine (cents_size.calls c _ _ S3.out).mono ?_));rintro e w' ⟨rfl, ⟨nd, rfl⟩⟩)) | (go_at_call 62;(with_reducible refine (bits_Mul64.calls _ _ _ _ _ HM.out).mono ?_);rintro e w' ⟨rfl, ⟨nd, rfl⟩⟩) | (go_at_call 64;(with_reducible refine (bits_Div64.calls k _ _ _ _ _ _ HD.out).mono ?_);rintro e w' ⟨rfl, ⟨nd, rfl⟩⟩))
  go_ret2
  exact ⟨rfl, by repeat (first | exact Drawn0.refl _ | apply Drawn0.step)⟩
set_option maxHeartbeats 40000000 in
set_option maxRecDepth 100000 in
theorem md_even (a b c mode q by_ h l sa sb r1 r2 : Int) (x y z bl : Bool) (w : World) (k : Nat)
    (fa : cents_Fits.f a = some true) (fb : cents_Fits.f b = some true) (fc : cents_Fits.f c = some true) (m1 : 1 ≤ mode) (m2 : mode ≤ 5) (hc0 : c ≠ 0)
    (s1 : cents_size.f a = some sa) (s2 : cents_size.f b = some sb) (s3 : cents_size.f c = some by_) (hm : bits_Mul64.f sa sb = some (h, l)) (hlt : h < by_) (hd : bits_Div64.f k h l by_ = some (q, 0)) (hq : q ≤ 1152921504606846976)
    (ba : decide (a < 0) = x) (bb : decide (b < 0) = y) (bc : decide (c < 0) = z) (hbl : (!(!(x == y) == z)) = bl) (hs : cents_signed.f q bl = some (r1, r2)) :
    Calls Try.prog 56 #[.int .i64 a, .int .i64 b, .int .i64 c, .int .i64 mode] w fun e w'=>e = .returned (.tuple #[.int .i64 r1, .int .i64 r2]) ∧ Drawn0 w w':=by
  have FA:=Aside0.mk fa
  have FB:=Aside0.mk fb
  have FC:=Aside0.mk fc
  have S1:=Aside0.mk s1
  have S2:=Aside0.mk s2
  have S3:=Aside0.mk s3
  have HM:=Aside0.mk hm
  have HD:=Aside0.mk hd
  have HS:=Aside0.mk hs
  have cz : (c == 0) = false:=by simpa using hc0
  have dh : decide (by_ ≤ h) = false:=decide_eq_false (by omega)
  have dq : decide (1152921504606846976 < q) = false:=decide_eq_false (by omega)
  clear fa fb fc s1 s2 s3 hm hc0 hlt hq hd hs
  cases x <;> cases y <;> cases z <;> cases bl <;> first
    | exact absurd hbl (by decide)
    | (clear hbl
       go_enter Try.func56, Try.ntmps56
       go_wp2_with (first | (go_at_call 54;((first | (with_reducible refine (cents_Fits.calls a true _ FA.out).mono ?_) | (with_reducible refine (cents_Fits.calls b true _ FB.out).mono ?_) | (with_reducible refine (cents_Fits.calls c true _ FC.out).mono ?_));rintro e w' ⟨rfl, ⟨nd, rfl⟩⟩)) | (go_at_call 63;((first | (with_reducible refine (cents_size.calls a _ _ S1.out).mono ?_) | (with_reducible refine (cents_size.calls b _ _ S2.out).mono ?_) | (with_reducible refine (cents_size.calls c _ _ S3.out).mono ?_));rintro e w' ⟨rfl, ⟨nd, rfl⟩⟩)) | (go_at_call 62;(with_reducible refine (bits_Mul64.calls _ _ _ _ _ HM.out).mono ?_);rintro e w' ⟨rfl, ⟨nd, rfl⟩⟩) | (go_at_call 64;(with_reducible refine (bits_Div64.calls k _ _ _ _ _ _ HD.out).mono ?_);rintro e w' ⟨rfl, ⟨nd, rfl⟩⟩) | (go_at_call 66;(with_reducible refine (cents_signed.calls _ _ _ _ _ HS.out).mono ?_);rintro e w' ⟨rfl, ⟨nd, rfl⟩⟩))
       go_ret2
       exact ⟨rfl, by repeat (first | exact Drawn0.refl _ | apply Drawn0.step)⟩)
set_option maxHeartbeats 40000000 in
set_option maxRecDepth 100000 in
theorem md_odd (a b c mode q r by_ h l sa sb r1 r2 : Int) (x y z bl ab : Bool) (w : World) (k : Nat)
    (fa : cents_Fits.f a = some true) (fb : cents_Fits.f b = some true) (fc : cents_Fits.f c = some true) (m1 : 1 ≤ mode) (m2 : mode ≤ 5) (hc0 : c ≠ 0)
    (s1 : cents_size.f a = some sa) (s2 : cents_size.f b = some sb) (s3 : cents_size.f c = some by_) (hm : bits_Mul64.f sa sb = some (h, l)) (hlt : h < by_) (hd : bits_Div64.f k h l by_ = some (q, r)) (hq0 : 0 ≤ q) (hq : q ≤ 1152921504606846976) (hr : r > 0) (hr1 : r < by_) (hb1 : by_ ≤ 1152921504606846976)
    (ba : decide (a < 0) = x) (bb : decide (b < 0) = y) (bc : decide (c < 0) = z) (hbl : (!(!(x == y) == z)) = bl) (hab : awayB mode bl q r by_ = ab) (hs : cents_signed.f (if ab = true then q + 1 else q) bl = some (r1, r2)) :
    Calls Try.prog 56 #[.int .i64 a, .int .i64 b, .int .i64 c, .int .i64 mode] w fun e w'=>e = .returned (.tuple #[.int .i64 r1, .int .i64 r2]) ∧ Below w.heap.size w w':=by
  have HX:=fun (bl' : Bool) (gm ga : Nat) (W : World) c1 c2=>away1_any mode bl' q r by_ gm ga W ⟨hq0, hq⟩ ⟨by omega, hr1⟩ hb1 c1 c2
  have FA:=Aside0.mk fa
  have FB:=Aside0.mk fb
  have FC:=Aside0.mk fc
  have S1:=Aside0.mk s1
  have S2:=Aside0.mk s2
  have S3:=Aside0.mk s3
  have HM:=Aside0.mk hm
  have HD:=Aside0.mk hd
  have HS:=Aside0.mk hs
  have HA:=Aside0.mk hab
  have HXX:=Aside0.mk HX
  have cz : (c == 0) = false:=by simpa using hc0
  have dh : decide (by_ ≤ h) = false:=decide_eq_false (by omega)
  have dq : decide (1152921504606846976 < q) = false:=decide_eq_false (by omega)
  have dr : decide (0 < r) = true:=decide_eq_true hr
  clear fa fb fc s1 s2 s3 hm hc0 hlt hd hs hab HX hr hr1 hb1
  cases x <;> cases y <;> cases z <;> cases bl <;> first
    | exact absurd hbl (by decide)
    | (clear hbl
       go_enter Try.func56, Try.ntmps56
       go_wp2_with (first | (go_at_call 54;((first | (with_reducible refine (cents_Fits.calls a true _ FA.out).mono ?_) | (with_reducible refine (cents_Fits.calls b true _ FB.out).mono ?_) | (with_reducible refine (cents_Fits.calls c true _ FC.out).mono ?_));rintro e w' ⟨rfl, ⟨nd, rfl⟩⟩)) | (go_at_call 63;((first | (with_reducible refine (cents_size.calls a _ _ S1.out).mono ?_) | (with_reducible refine (cents_size.calls b _ _ S2.out).mono ?_) | (with_reducible refine (cents_size.calls c _ _ S3.out).mono ?_));rintro e w' ⟨rfl, ⟨nd, rfl⟩⟩)) | (go_at_call 62;(with_reducible refine (bits_Mul64.calls _ _ _ _ _ HM.out).mono ?_);rintro e w' ⟨rfl, ⟨nd, rfl⟩⟩) | (go_at_call 64;(with_reducible refine (bits_Div64.calls k _ _ _ _ _ _ HD.out).mono ?_);rintro e w' ⟨rfl, ⟨nd, rfl⟩⟩))
       refine (away_box mode _ _).mono ?_
       rintro e wb ⟨gm, ga, rfl, c1, c2, hb⟩
       go_wp2_with fail
       refine (HXX.out _ gm ga _ c1 c2).mono ?_
       rintro e wc ⟨rfl, hd⟩
       have HBB:=Aside0.mk (below_step (pw_below_drewN (Below.refl w.heap.size w) _) (below_step hb hd.below))
       rw [HA.out]
       clear c1 c2 hb hd
       cases ab
       · have HS2 : Aside0 (cents_signed.f q _ = some (r1, r2)):=HS
         go_wp2_with (go_at_call 66;(with_reducible refine (cents_signed.calls _ _ _ _ _ HS2.out).mono ?_);rintro e w' ⟨rfl, ⟨nd, rfl⟩⟩)
         go_ret2
         exact ⟨rfl, pw_below_drewN HBB.out _⟩
       · have HS2 : Aside0 (cents_signed.f (q + 1) _ = some (r1, r2)):=HS
         go_wp2_with (go_at_call 66;(with_reducible refine (cents_signed.calls _ _ _ _ _ HS2.out).mono ?_);rintro e w' ⟨rfl, ⟨nd, rfl⟩⟩)
         go_ret2
         exact ⟨rfl, pw_below_drewN HBB.out _⟩)
theorem cents_MulDiv.calls (k : Nat) (a0 : Int) (a1 : Int) (a2 : Int) (a3 : Int) (r1 : Int) (r2 : Int) (w : World) (h : cents_MulDiv.f k a0 a1 a2 a3 = some (r1, r2)) :
    Calls Try.prog 56 #[.int .i64 a0, .int .i64 a1, .int .i64 a2, .int .i64 a3] w fun e w'=>e = .returned (.tuple #[.int .i64 r1, .int .i64 r2]) ∧ Below w.heap.size w w':=by
  have quiet : ∀ {e0 : Ending}, (Calls Try.prog 56 #[.int .i64 a0, .int .i64 a1, .int .i64 a2, .int .i64 a3] w fun e w'=>e = e0 ∧ Drawn0 w w') → Calls Try.prog 56 #[.int .i64 a0, .int .i64 a1, .int .i64 a2, .int .i64 a3] w fun e w'=>e = e0 ∧ Below w.heap.size w w':=fun hq=>hq.mono (fun _ _ hh=>⟨hh.1, hh.2.below⟩)
  unfold cents_MulDiv.f at h
  obtain ⟨fa, hfa, h⟩:=Option.bind_eq_some_iff.1 h
  cases fa with
  | false =>
    rw [if_neg (by decide)] at h
    simp only [Option.some.injEq, Prod.mk.injEq] at h
    obtain ⟨rfl, rfl⟩:=h
    exact quiet (md_args a0 a1 a2 a3 false false false w hfa (fun h=>Bool.noConfusion h) (fun h=>Bool.noConfusion h) (fun h=>Bool.noConfusion h))
  | true =>
  rw [if_pos rfl] at h
  obtain ⟨fb, hfb, h⟩:=Option.bind_eq_some_iff.1 h
  cases fb with
  | false =>
    rw [if_neg (by decide)] at h
    simp only [Option.some.injEq, Prod.mk.injEq] at h
    obtain ⟨rfl, rfl⟩:=h
    exact quiet (md_args a0 a1 a2 a3 true false false w hfa (fun _=>hfb) (fun _ h=>Bool.noConfusion h) (fun _ h=>Bool.noConfusion h))
  | true =>
  rw [if_pos rfl] at h
  obtain ⟨fc, hfc, h⟩:=Option.bind_eq_some_iff.1 h
  cases fc with
  | false =>
    rw [if_neg (by decide)] at h
    simp only [Option.some.injEq, Prod.mk.injEq] at h
    obtain ⟨rfl, rfl⟩:=h
    exact quiet (md_args a0 a1 a2 a3 true true false w hfa (fun _=>hfb) (fun _ _=>hfc) (fun _ _ h=>Bool.noConfusion h))
  | true =>
  rw [if_pos rfl] at h
  by_cases hm : a3 < 1 ∨ a3 > 5
  · rw [if_pos hm] at h
    simp only [Option.some.injEq, Prod.mk.injEq] at h
    obtain ⟨rfl, rfl⟩:=h
    exact quiet (md_args a0 a1 a2 a3 true true true w hfa (fun _=>hfb) (fun _ _=>hfc) (fun _ _ _=>hm))
  rw [if_neg hm] at h
  by_cases hz : a2 = 0
  · rw [if_pos hz] at h
    simp only [Option.some.injEq, Prod.mk.injEq] at h
    obtain ⟨rfl, rfl⟩:=h
    subst hz
    exact quiet (md_zero a0 a1 a3 w hfa hfb hfc (by omega) (by omega))
  rw [if_neg hz] at h
  obtain ⟨sa, hsa, h⟩:=Option.bind_eq_some_iff.1 h
  obtain ⟨sb, hsb, h⟩:=Option.bind_eq_some_iff.1 h
  obtain ⟨⟨hi, lo⟩, hmul, h⟩:=Option.bind_eq_some_iff.1 h
  obtain ⟨by_, hby, h⟩:=Option.bind_eq_some_iff.1 h
  simp only at h
  by_cases hge : hi ≥ by_
  · rw [if_pos hge] at h
    simp only [Option.some.injEq, Prod.mk.injEq] at h
    obtain ⟨rfl, rfl⟩:=h
    exact quiet (md_over a0 a1 a2 a3 by_ hi lo sa sb w hfa hfb hfc (by omega) (by omega) hz hsa hsb hby hmul (by omega))
  rw [if_neg hge] at h
  obtain ⟨⟨q, r⟩, hdiv, h⟩:=Option.bind_eq_some_iff.1 h
  simp only at h
  by_cases hq : q > 1152921504606846976
  · rw [if_pos hq] at h
    simp only [Option.some.injEq, Prod.mk.injEq] at h
    obtain ⟨rfl, rfl⟩:=h
    exact quiet (md_overq a0 a1 a2 a3 q r by_ hi lo sa sb w k hfa hfb hfc (by omega) (by omega) hz hsa hsb hby hmul (by omega) hdiv (by omega))
  rw [if_neg hq] at h
  by_cases hr : r > 0
  · rw [if_pos hr] at h
    by_cases hrng : 0 ≤ q ∧ r < by_ ∧ by_ ≤ 1152921504606846976
    · rw [if_pos hrng] at h
      refine md_odd a0 a1 a2 a3 q r by_ hi lo sa sb r1 r2 _ _ _ (belowB a0 a1 a2) _ w k hfa hfb hfc (by omega) (by omega) hz hsa hsb hby hmul (by omega) hdiv hrng.1 (by omega) hr hrng.2.1 hrng.2.2 rfl rfl rfl rfl rfl ?_
      by_cases ha : awayB a3 (belowB a0 a1 a2) q r by_ = true
      · rw [if_pos ha] at h ⊢;exact h
      · rw [if_neg ha] at h ⊢;exact h
    · rw [if_neg hrng] at h;cases h
  · rw [if_neg hr] at h
    by_cases hr0 : r = 0
    · rw [if_pos hr0] at h
      subst hr0
      exact quiet (md_even a0 a1 a2 a3 q by_ hi lo sa sb r1 r2 _ _ _ (belowB a0 a1 a2) w k hfa hfb hfc (by omega) (by omega) hz hsa hsb hby hmul (by omega) hdiv (by omega) rfl rfl rfl rfl h)
    · rw [if_neg hr0] at h;cases h

/-! ### waterfall_alike: function 45 -/
def waterfall_alike.l0 : Nat → List Int → Int → Int → List Int → Int → Int → Option (Bool)
  | 0, _, _, _, _, _, _=>none
  | k + 1, x1, x5, x6, x17, x18, x19=>if x19 < x18 then (if 0 ≤ x19 then (if x19 < (x17.length : Int) then (if x5 = 0 then (some true) else ((cents_MulDiv.f k x6 (rd x17 x19) x5 1).bind fun bt163=>((cents_MulDiv.f k x6 (rd x17 x19) x5 2).bind fun bt165=>(if x19 < (x1.length : Int) then (if (rd x1 x19) = bt163.1 then (waterfall_alike.l0 k x1 x5 x6 x17 x18 (wrap64 (x19 + 1))) else (if (rd x1 x19) = bt165.1 then (waterfall_alike.l0 k x1 x5 x6 x17 x18 (wrap64 (x19 + 1))) else (some false))) else (none))))) else (none)) else (none)) else (some true)
def waterfall_alike.f (k : Nat) (l0 : List Int) (l1 : List Int) : Option (Bool):=(waterfall_total.f k l0).bind fun t160=>((waterfall_total.f k l1).bind fun t161=>(waterfall_alike.l0 k l1 t160 t161 l0 (l0.length : Int) 0))
theorem waterfall_alike.mono_l : ∀ k, (∀ y0 y1 y2 y3 y4 y5, LeO (waterfall_alike.l0 k y0 y1 y2 y3 y4 y5) (waterfall_alike.l0 (k + 1) y0 y1 y2 y3 y4 y5))
  | 0=>fun _ _ _ _ _ _ r h=>by simp [waterfall_alike.l0] at h
  | k + 1=>by
    have ih0:=waterfall_alike.mono_l k
    · intro y0 y1 y2 y3 y4 y5
      unfold waterfall_alike.l0
      repeat' first
      | (with_reducible exact ih0 _ _ _ _ _ _)
      | (with_reducible exact cents_MulDiv.mono _ _ _ _ _)
      | (with_reducible exact waterfall_total.mono _ _)
      | (with_reducible exact LeO.refl _)
      | (with_reducible exact LeO.none _)
      | (with_reducible refine LeO.ite ?_ ?_)
      | (with_reducible refine LeO.bind ?_ (fun _=>?_))
      | exact ih0 _ _ _ _ _ _
      | exact cents_MulDiv.mono _ _ _ _ _
      | exact waterfall_total.mono _ _
      | exact LeO.none _
      | refine LeO.ite ?_ ?_
      | refine LeO.bind ?_ (fun _=>?_)
theorem waterfall_alike.mono : ∀ a0 a1 k, LeO (waterfall_alike.f k a0 a1) (waterfall_alike.f (k + 1) a0 a1):=by
  intro a0 a1 k
  have ih0:=waterfall_alike.mono_l k
  unfold waterfall_alike.f
  repeat' first
      | (with_reducible exact ih0 _ _ _ _ _ _)
      | (with_reducible exact cents_MulDiv.mono _ _ _ _ _)
      | (with_reducible exact waterfall_total.mono _ _)
      | (with_reducible exact LeO.refl _)
      | (with_reducible exact LeO.none _)
      | (with_reducible refine LeO.ite ?_ ?_)
      | (with_reducible refine LeO.bind ?_ (fun _=>?_))
      | exact ih0 _ _ _ _ _ _
      | exact cents_MulDiv.mono _ _ _ _ _
      | exact waterfall_total.mono _ _
      | exact LeO.none _
      | refine LeO.ite ?_ ?_
      | refine LeO.bind ?_ (fun _=>?_)
set_option maxHeartbeats 8000000 in
set_option maxRecDepth 100000 in
theorem waterfall_alike.calls (k : Nat) (A0 : Option Addr) (c0 : Nat) (l0 : List Int) (A1 : Option Addr) (c1 : Nat) (l1 : List Int) (r : Bool) (w : World) (hr0 : Kd.C (Kd.int .i64) w A0 l0.length l0) (hc0 : l0.length ≤ c0) (hr1 : Kd.C (Kd.int .i64) w A1 l1.length l1) (hc1 : l1.length ≤ c1) (h : waterfall_alike.f k l0 l1 = some r) :
    Calls Try.prog 45 #[.slice A0 l0.length c0, .slice A1 l1.length c1] w fun e w'=>e = .returned (.bool r) ∧ Below w.heap.size w w':=by
  have HR0:=Aside0.mk hr0
  have HC0:=Aside0.mk hc0
  clear hr0 hc0
  have HR1:=Aside0.mk hr1
  have HC1:=Aside0.mk hc1
  clear hr1 hc1
  have HB:=Aside0.mk (Below.refl w.heap.size w)
  have H : ((waterfall_total.f k l0).bind fun t160=>((waterfall_total.f k l1).bind fun t161=>(waterfall_alike.l0 k l1 t160 t161 l0 (l0.length : Int) 0))) = some r:=h
  clear h
  replace H:=Option.bind_eq_some_iff.mp H
  obtain ⟨t160, A30, H⟩:=H
  replace H : ((waterfall_total.f k l1).bind fun t161=>(waterfall_alike.l0 k l1 t160 t161 l0 (l0.length : Int) 0)) = some r:=H
  have A3:=Aside0.mk A30
  clear A30
  replace H:=Option.bind_eq_some_iff.mp H
  obtain ⟨t161, A40, H⟩:=H
  replace H : (waterfall_alike.l0 k l1 t160 t161 l0 (l0.length : Int) 0) = some r:=H
  have A4:=Aside0.mk A40
  clear A40
  have H':=Aside0.mk H
  clear H
  go_enter Try.func45, Try.ntmps45
  go_wp2_with (first | ((with_reducible refine gate_callee (f:=44) rfl ?_);refine goesL_ (some 14) rfl rfl Try.func44 (by kernel_rfl) rfl #[.slice A0 l0.length c0] rfl (by (try simp only [List.map_toArray, List.map_cons, List.map_nil]);first | done | rfl | (simp only [List.length_drop, List.length_take];rfl)) ?_;(with_reducible refine (waterfall_total.calls k _ _ l0 t160 _ ?side1 ?side2 A3.out).mono ?_);(case side1=>repeat (first | exact HR0.out | (with_reducible refine Kd.C_alloc ?_ _) | (with_reducible refine Kd.C_drewN ?_ _) | (with_reducible refine Kd.C_drew ?_)));(case side2=>exact HC0.out);rintro e w' ⟨rfl, ⟨nd, rfl⟩⟩;refine ⟨_, rfl, ?_⟩) | ((with_reducible refine gate_callee (f:=44) rfl ?_);refine goesL_ (some 16) rfl rfl Try.func44 (by kernel_rfl) rfl #[.slice A1 l1.length c1] rfl (by (try simp only [List.map_toArray, List.map_cons, List.map_nil]);first | done | rfl | (simp only [List.length_drop, List.length_take];rfl)) ?_;(with_reducible refine (waterfall_total.calls k _ _ l1 t161 _ ?side1 ?side2 A4.out).mono ?_);(case side1=>repeat (first | exact HR1.out | (with_reducible refine Kd.C_alloc ?_ _) | (with_reducible refine Kd.C_drewN ?_ _) | (with_reducible refine Kd.C_drew ?_)));(case side2=>exact HC1.out);rintro e w' ⟨rfl, ⟨nd, rfl⟩⟩;refine ⟨_, rfl, ?_⟩))
  go_loopg [19] k (fun kq v19 w'=>∃ (x19_1 : Int), v19 = .int .i64 x19_1 ∧ Aside0 (waterfall_alike.l0 kq l1 t160 t161 l0 (l0.length : Int) x19_1 = some r) ∧ Aside0 (kq ≤ k) ∧ Aside0 (Below w.heap.size w w'))
  case atStart=>exact ⟨(0), (by first | rfl | (simp;done) | (simp [*];done)), H', ⟨Nat.le_refl _⟩, ⟨by repeat (first | (with_reducible first | exact HB.out | apply below_alloc | apply pw_below_drewN | apply below_drew1) | exact HB.out)⟩⟩
  case round =>
    clear H'
    try clear c1
    try clear p2
    try clear c4
    obtain ⟨x19_1, rfl, HA, HK1, HB⟩:=hrel
    cases gk with
    | zero=>exact absurd HA.out (by simp [waterfall_alike.l0])
    | succ k1 =>
      have H:=HA.out
      clear HA
      simp only [waterfall_alike.l0] at H
      by_cases c5 : x19_1 < (l0.length : Int)
      · rw [if_pos c5] at H
        have c5b0 : decide (x19_1 < (l0.length : Int)) = true:=decide_eq_true c5
        clear c5
        by_cases c6 : 0 ≤ x19_1
        · rw [if_pos c6] at H
          have c6b0 : decide (0 ≤ x19_1) = true:=decide_eq_true c6
          clear c6
          by_cases c7 : x19_1 < (l0.length : Int)
          · rw [if_pos c7] at H
            have c7b0 : decide (x19_1 < (l0.length : Int)) = true:=decide_eq_true c7
            clear c7
            by_cases c8 : t160 = 0
            · rw [if_pos c8] at H
              have c8b0 : (t160 == 0) = true:=beq_iff_eq.mpr c8
              have c8b1 : (t160 != 0) = false:=bne_eq_false_iff_eq.mpr c8
              clear c8
              obtain rfl:=Option.some.inj H
              have p162 : 0 ≤ (x19_1 : Int):=of_decide_eq_true (by first | (with_reducible assumption) | assumption)
              have q162 : x19_1 < (l0.length : Int):=of_decide_eq_true (by first | (with_reducible assumption) | assumption)
              obtain ⟨ad162, e162, hx162_0⟩:=Kd.at_int HR0.out x19_1 p162 q162
              cases e162
              replace hx162_0:=(HB.out.cell (World.block_lt_of_cell? w _ hx162_0)).trans hx162_0
              replace p162:=eq_true p162
              replace q162:=eq_true q162
              go_wp2
              go_ret
              exact ⟨by first | rfl | (simp [errW_none, errW_some] <;> rfl) | (simp [*, errW_none, errW_some] <;> rfl), by repeat (first | (with_reducible first | exact HB.out | apply below_alloc | apply pw_below_drewN | apply below_drew1) | exact HB.out)⟩
            · rw [if_neg c8] at H
              have c8b0 : (t160 == 0) = false:=beq_eq_false_iff_ne.mpr c8
              have c8b1 : (t160 != 0) = true:=bne_iff_ne.mpr c8
              replace H:=Option.bind_eq_some_iff.mp H
              obtain ⟨⟨t163, t164⟩, A90, H⟩:=H
              replace H : ((cents_MulDiv.f k1 t161 (rd l0 x19_1) t160 2).bind fun bt165=>(if x19_1 < (l1.length : Int) then (if (rd l1 x19_1) = t163 then (waterfall_alike.l0 k1 l1 t160 t161 l0 (l0.length : Int) (wrap64 (x19_1 + 1))) else (if (rd l1 x19_1) = bt165.1 then (waterfall_alike.l0 k1 l1 t160 t161 l0 (l0.length : Int) (wrap64 (x19_1 + 1))) else (some false))) else (none))) = some r:=H
              have A9:=Aside0.mk A90
              clear A90
              replace H:=Option.bind_eq_some_iff.mp H
              obtain ⟨⟨t165, t166⟩, A100, H⟩:=H
              replace H : (if x19_1 < (l1.length : Int) then (if (rd l1 x19_1) = t163 then (waterfall_alike.l0 k1 l1 t160 t161 l0 (l0.length : Int) (wrap64 (x19_1 + 1))) else (if (rd l1 x19_1) = t165 then (waterfall_alike.l0 k1 l1 t160 t161 l0 (l0.length : Int) (wrap64 (x19_1 + 1))) else (some false))) else (none)) = some r:=H
              have A10:=Aside0.mk A100
              clear A100
              by_cases c11 : x19_1 < (l1.length : Int)
              · rw [if_pos c11] at H
                have c11b0 : decide (x19_1 < (l1.length : Int)) = true:=decide_eq_true c11
                clear c11
                by_cases c12 : (rd l1 x19_1) = t163
                · rw [if_pos c12] at H
                  have c12b0 : ((rd l1 x19_1) == t163) = true:=beq_iff_eq.mpr c12
                  have c12b1 : ((rd l1 x19_1) != t163) = false:=bne_eq_false_iff_eq.mpr c12
                  clear c12
                  have H':=Aside0.mk H
                  clear H
                  have p162 : 0 ≤ (x19_1 : Int):=of_decide_eq_true (by first | (with_reducible assumption) | assumption)
                  have q162 : x19_1 < (l0.length : Int):=of_decide_eq_true (by first | (with_reducible assumption) | assumption)
                  obtain ⟨ad162, e162, hx162_0⟩:=Kd.at_int HR0.out x19_1 p162 q162
                  cases e162
                  replace hx162_0:=(HB.out.cell (World.block_lt_of_cell? w _ hx162_0)).trans hx162_0
                  replace p162:=eq_true p162
                  replace q162:=eq_true q162
                  go_wp2_with (first | ((with_reducible refine gate_callee (f:=56) rfl ?_);refine goesL_ (some 30) rfl rfl Try.func56 (by kernel_rfl) rfl #[.int .i64 t161, .int .i64 (rd l0 x19_1), .int .i64 t160, .int .i64 1] rfl (by (try simp only [List.map_toArray, List.map_cons, List.map_nil]);first | done | rfl | (simp only [List.length_drop, List.length_take];rfl)) ?_;(with_reducible refine (cents_MulDiv.calls k1 t161 (rd l0 x19_1) t160 1 t163 t164 _ A9.out).mono ?_);rintro e w13 ⟨rfl, hb⟩;refine ⟨_, rfl, ?_⟩;have n0_:=Aside0.mk (below_step (by repeat (first | (with_reducible first | exact HB.out | apply below_alloc | apply pw_below_drewN | apply below_drew1) | exact HB.out)) hb);clear HB;have HB:=n0_;clear n0_;(try clear hb);(try clear hb2);(try clear hk);(try clear hi)) | ((with_reducible refine gate_callee (f:=56) rfl ?_);refine goesL_ (some 37) rfl rfl Try.func56 (by kernel_rfl) rfl #[.int .i64 t161, .int .i64 (rd l0 x19_1), .int .i64 t160, .int .i64 2] rfl (by (try simp only [List.map_toArray, List.map_cons, List.map_nil]);first | done | rfl | (simp only [List.length_drop, List.length_take];rfl)) ?_;(with_reducible refine (cents_MulDiv.calls k1 t161 (rd l0 x19_1) t160 2 t165 t166 _ A10.out).mono ?_);rintro e w14 ⟨rfl, hb⟩;refine ⟨_, rfl, ?_⟩;have n0_:=Aside0.mk (below_step (by repeat (first | (with_reducible first | exact HB.out | apply below_alloc | apply pw_below_drewN | apply below_drew1) | exact HB.out)) hb);clear HB;have HB:=n0_;clear n0_;(try clear hb);(try clear hb2);(try clear hk);(try clear hi);have p167 : 0 ≤ (x19_1 : Int):=of_decide_eq_true (by first | (with_reducible assumption) | assumption);have q167 : x19_1 < (l1.length : Int):=of_decide_eq_true (by first | (with_reducible assumption) | assumption);obtain ⟨ad167, e167, hx167_0⟩:=Kd.at_int HR1.out x19_1 p167 q167;cases e167;replace hx167_0:=(HB.out.cell (World.block_lt_of_cell? w _ hx167_0)).trans hx167_0;replace p167:=eq_true p167;replace q167:=eq_true q167))
                  go_roundg k1
                  case measure=>have:=HK1.out;omega
                  case rel=>exact ⟨(wrap64 (x19_1 + 1)), (by first | rfl | (simp;done) | (simp [*];done)), H', ⟨by have:=HK1.out;omega⟩, ⟨by repeat (first | (with_reducible first | exact HB.out | apply below_alloc | apply pw_below_drewN | apply below_drew1) | exact HB.out)⟩⟩
                · rw [if_neg c12] at H
                  have c12b0 : ((rd l1 x19_1) == t163) = false:=beq_eq_false_iff_ne.mpr c12
                  have c12b1 : ((rd l1 x19_1) != t163) = true:=bne_iff_ne.mpr c12
                  by_cases c15 : (rd l1 x19_1) = t165
                  · rw [if_pos c15] at H
                    have c15b0 : ((rd l1 x19_1) == t165) = true:=beq_iff_eq.mpr c15
                    have c15b1 : ((rd l1 x19_1) != t165) = false:=bne_eq_false_iff_eq.mpr c15
                    clear c15
                    have H':=Aside0.mk H
                    clear H
                    have p162 : 0 ≤ (x19_1 : Int):=of_decide_eq_true (by first | (with_reducible assumption) | assumption)
                    have q162 : x19_1 < (l0.length : Int):=of_decide_eq_true (by first | (with_reducible assumption) | assumption)
                    obtain ⟨ad162, e162, hx162_0⟩:=Kd.at_int HR0.out x19_1 p162 q162
                    cases e162
                    replace hx162_0:=(HB.out.cell (World.block_lt_of_cell? w _ hx162_0)).trans hx162_0
                    replace p162:=eq_true p162
                    replace q162:=eq_true q162
                    go_wp2_with (first | ((with_reducible refine gate_callee (f:=56) rfl ?_);refine goesL_ (some 30) rfl rfl Try.func56 (by kernel_rfl) rfl #[.int .i64 t161, .int .i64 (rd l0 x19_1), .int .i64 t160, .int .i64 1] rfl (by (try simp only [List.map_toArray, List.map_cons, List.map_nil]);first | done | rfl | (simp only [List.length_drop, List.length_take];rfl)) ?_;(with_reducible refine (cents_MulDiv.calls k1 t161 (rd l0 x19_1) t160 1 t163 t164 _ A9.out).mono ?_);rintro e w16 ⟨rfl, hb⟩;refine ⟨_, rfl, ?_⟩;have n0_:=Aside0.mk (below_step (by repeat (first | (with_reducible first | exact HB.out | apply below_alloc | apply pw_below_drewN | apply below_drew1) | exact HB.out)) hb);clear HB;have HB:=n0_;clear n0_;(try clear hb);(try clear hb2);(try clear hk);(try clear hi)) | ((with_reducible refine gate_callee (f:=56) rfl ?_);refine goesL_ (some 37) rfl rfl Try.func56 (by kernel_rfl) rfl #[.int .i64 t161, .int .i64 (rd l0 x19_1), .int .i64 t160, .int .i64 2] rfl (by (try simp only [List.map_toArray, List.map_cons, List.map_nil]);first | done | rfl | (simp only [List.length_drop, List.length_take];rfl)) ?_;(with_reducible refine (cents_MulDiv.calls k1 t161 (rd l0 x19_1) t160 2 t165 t166 _ A10.out).mono ?_);rintro e w17 ⟨rfl, hb⟩;refine ⟨_, rfl, ?_⟩;have n0_:=Aside0.mk (below_step (by repeat (first | (with_reducible first | exact HB.out | apply below_alloc | apply pw_below_drewN | apply below_drew1) | exact HB.out)) hb);clear HB;have HB:=n0_;clear n0_;(try clear hb);(try clear hb2);(try clear hk);(try clear hi);have p167 : 0 ≤ (x19_1 : Int):=of_decide_eq_true (by first | (with_reducible assumption) | assumption);have q167 : x19_1 < (l1.length : Int):=of_decide_eq_true (by first | (with_reducible assumption) | assumption);obtain ⟨ad167, e167, hx167_0⟩:=Kd.at_int HR1.out x19_1 p167 q167;cases e167;replace hx167_0:=(HB.out.cell (World.block_lt_of_cell? w _ hx167_0)).trans hx167_0;replace p167:=eq_true p167;replace q167:=eq_true q167;have p168 : 0 ≤ (x19_1 : Int):=of_decide_eq_true (by first | (with_reducible assumption) | assumption);have q168 : x19_1 < (l1.length : Int):=of_decide_eq_true (by first | (with_reducible assumption) | assumption);obtain ⟨ad168, e168, hx168_0⟩:=Kd.at_int HR1.out x19_1 p168 q168;obtain rfl : ad167 = ad168:=(by injection e168);replace hx168_0:=(HB.out.cell (World.block_lt_of_cell? w _ hx168_0)).trans hx168_0;replace p168:=eq_true p168;replace q168:=eq_true q168))
                    go_roundg k1
                    case measure=>have:=HK1.out;omega
                    case rel=>exact ⟨(wrap64 (x19_1 + 1)), (by first | rfl | (simp;done) | (simp [*];done)), H', ⟨by have:=HK1.out;omega⟩, ⟨by repeat (first | (with_reducible first | exact HB.out | apply below_alloc | apply pw_below_drewN | apply below_drew1) | exact HB.out)⟩⟩
                  · rw [if_neg c15] at H
                    have c15b0 : ((rd l1 x19_1) == t165) = false:=beq_eq_false_iff_ne.mpr c15
                    have c15b1 : ((rd l1 x19_1) != t165) = true:=bne_iff_ne.mpr c15
                    obtain rfl:=Option.some.inj H
                    have p162 : 0 ≤ (x19_1 : Int):=of_decide_eq_true (by first | (with_reducible assumption) | assumption)
                    have q162 : x19_1 < (l0.length : Int):=of_decide_eq_true (by first | (with_reducible assumption) | assumption)
                    obtain ⟨ad162, e162, hx162_0⟩:=Kd.at_int HR0.out x19_1 p162 q162
                    cases e162
                    replace hx162_0:=(HB.out.cell (World.block_lt_of_cell? w _ hx162_0)).trans hx162_0
                    replace p162:=eq_true p162
                    replace q162:=eq_true q162
                    go_wp2_with (first | ((with_reducible refine gate_callee (f:=56) rfl ?_);refine goesL_ (some 30) rfl rfl Try.func56 (by kernel_rfl) rfl #[.int .i64 t161, .int .i64 (rd l0 x19_1), .int .i64 t160, .int .i64 1] rfl (by (try simp only [List.map_toArray, List.map_cons, List.map_nil]);first | done | rfl | (simp only [List.length_drop, List.length_take];rfl)) ?_;(with_reducible refine (cents_MulDiv.calls k1 t161 (rd l0 x19_1) t160 1 t163 t164 _ A9.out).mono ?_);rintro e w18 ⟨rfl, hb⟩;refine ⟨_, rfl, ?_⟩;have n0_:=Aside0.mk (below_step (by repeat (first | (with_reducible first | exact HB.out | apply below_alloc | apply pw_below_drewN | apply below_drew1) | exact HB.out)) hb);clear HB;have HB:=n0_;clear n0_;(try clear hb);(try clear hb2);(try clear hk);(try clear hi)) | ((with_reducible refine gate_callee (f:=56) rfl ?_);refine goesL_ (some 37) rfl rfl Try.func56 (by kernel_rfl) rfl #[.int .i64 t161, .int .i64 (rd l0 x19_1), .int .i64 t160, .int .i64 2] rfl (by (try simp only [List.map_toArray, List.map_cons, List.map_nil]);first | done | rfl | (simp only [List.length_drop, List.length_take];rfl)) ?_;(with_reducible refine (cents_MulDiv.calls k1 t161 (rd l0 x19_1) t160 2 t165 t166 _ A10.out).mono ?_);rintro e w19 ⟨rfl, hb⟩;refine ⟨_, rfl, ?_⟩;have n0_:=Aside0.mk (below_step (by repeat (first | (with_reducible first | exact HB.out | apply below_alloc | apply pw_below_drewN | apply below_drew1) | exact HB.out)) hb);clear HB;have HB:=n0_;clear n0_;(try clear hb);(try clear hb2);(try clear hk);(try clear hi);have p167 : 0 ≤ (x19_1 : Int):=of_decide_eq_true (by first | (with_reducible assumption) | assumption);have q167 : x19_1 < (l1.length : Int):=of_decide_eq_true (by first | (with_reducible assumption) | assumption);obtain ⟨ad167, e167, hx167_0⟩:=Kd.at_int HR1.out x19_1 p167 q167;cases e167;replace hx167_0:=(HB.out.cell (World.block_lt_of_cell? w _ hx167_0)).trans hx167_0;replace p167:=eq_true p167;replace q167:=eq_true q167;have p168 : 0 ≤ (x19_1 : Int):=of_decide_eq_true (by first | (with_reducible assumption) | assumption);have q168 : x19_1 < (l1.length : Int):=of_decide_eq_true (by first | (with_reducible assumption) | assumption);obtain ⟨ad168, e168, hx168_0⟩:=Kd.at_int HR1.out x19_1 p168 q168;obtain rfl : ad167 = ad168:=(by injection e168);replace hx168_0:=(HB.out.cell (World.block_lt_of_cell? w _ hx168_0)).trans hx168_0;replace p168:=eq_true p168;replace q168:=eq_true q168))
                    go_ret
                    exact ⟨by first | rfl | (simp [errW_none, errW_some] <;> rfl) | (simp [*, errW_none, errW_some] <;> rfl), by repeat (first | (with_reducible first | exact HB.out | apply below_alloc | apply pw_below_drewN | apply below_drew1) | exact HB.out)⟩
              · rw [if_neg c11] at H
                exact absurd H (by simp)
          · rw [if_neg c7] at H
            exact absurd H (by simp)
        · rw [if_neg c6] at H
          exact absurd H (by simp)
      · rw [if_neg c5] at H
        have c5b0 : decide (x19_1 < (l0.length : Int)) = false:=decide_eq_false c5
        clear c5
        obtain rfl:=Option.some.inj H
        go_wp2
        go_ret
        exact ⟨by first | rfl | (simp [errW_none, errW_some] <;> rfl) | (simp [*, errW_none, errW_some] <;> rfl), by repeat (first | (with_reducible first | exact HB.out | apply below_alloc | apply pw_below_drewN | apply below_drew1) | exact HB.out)⟩

/-! ### slices_Equal_int_int: function 46 -/
def slices_Equal_int_int.l0 : Nat → List Int → List Int → Int → Int → Option (Bool)
  | 0, _, _, _, _=>none
  | k + 1, x0, x1, x12, x13=>if x13 < x12 then (if 0 ≤ x13 then (if x13 < (x0.length : Int) then (if x13 < (x1.length : Int) then (if (rd x0 x13) = (rd x1 x13) then (slices_Equal_int_int.l0 k x0 x1 x12 (wrap64 (x13 + 1))) else (some false)) else (none)) else (none)) else (none)) else (some true)
def slices_Equal_int_int.f (k : Nat) (l0 : List Int) (l1 : List Int) : Option (Bool):=if (l0.length : Int) = (l1.length : Int) then (slices_Equal_int_int.l0 k l0 l1 (l0.length : Int) 0) else (some false)
theorem slices_Equal_int_int.mono_l : ∀ k, (∀ y0 y1 y2 y3, LeO (slices_Equal_int_int.l0 k y0 y1 y2 y3) (slices_Equal_int_int.l0 (k + 1) y0 y1 y2 y3))
  | 0=>fun _ _ _ _ r h=>by simp [slices_Equal_int_int.l0] at h
  | k + 1=>by
    have ih0:=slices_Equal_int_int.mono_l k
    · intro y0 y1 y2 y3
      unfold slices_Equal_int_int.l0
      repeat' first
      | (with_reducible exact ih0 _ _ _ _)
      | (with_reducible exact LeO.refl _)
      | (with_reducible exact LeO.none _)
      | (with_reducible refine LeO.ite ?_ ?_)
      | (with_reducible refine LeO.bind ?_ (fun _=>?_))
      | exact ih0 _ _ _ _
      | exact LeO.none _
      | refine LeO.ite ?_ ?_
      | refine LeO.bind ?_ (fun _=>?_)
theorem slices_Equal_int_int.mono : ∀ a0 a1 k, LeO (slices_Equal_int_int.f k a0 a1) (slices_Equal_int_int.f (k + 1) a0 a1):=by
  intro a0 a1 k
  have ih0:=slices_Equal_int_int.mono_l k
  unfold slices_Equal_int_int.f
  repeat' first
      | (with_reducible exact ih0 _ _ _ _)
      | (with_reducible exact LeO.refl _)
      | (with_reducible exact LeO.none _)
      | (with_reducible refine LeO.ite ?_ ?_)
      | (with_reducible refine LeO.bind ?_ (fun _=>?_))
      | exact ih0 _ _ _ _
      | exact LeO.none _
      | refine LeO.ite ?_ ?_
      | refine LeO.bind ?_ (fun _=>?_)
set_option maxHeartbeats 8000000 in
set_option maxRecDepth 100000 in
theorem slices_Equal_int_int.calls (k : Nat) (A0 : Option Addr) (c0 : Nat) (l0 : List Int) (A1 : Option Addr) (c1 : Nat) (l1 : List Int) (r : Bool) (w : World) (hr0 : Kd.C (Kd.int .i64) w A0 l0.length l0) (hc0 : l0.length ≤ c0) (hr1 : Kd.C (Kd.int .i64) w A1 l1.length l1) (hc1 : l1.length ≤ c1) (h : slices_Equal_int_int.f k l0 l1 = some r) :
    Calls Try.prog 46 #[.slice A0 l0.length c0, .slice A1 l1.length c1] w fun e w'=>e = .returned (.bool r) ∧ Drawn0 w w':=by
  have HR0:=Aside0.mk hr0
  have HC0:=Aside0.mk hc0
  clear hr0 hc0
  have HR1:=Aside0.mk hr1
  have HC1:=Aside0.mk hc1
  clear hr1 hc1
  have H : (if (l0.length : Int) = (l1.length : Int) then (slices_Equal_int_int.l0 k l0 l1 (l0.length : Int) 0) else (some false)) = some r:=h
  clear h
  by_cases c3 : (l0.length : Int) = (l1.length : Int)
  · rw [if_pos c3] at H
    have c3b0 : ((l0.length : Int) == (l1.length : Int)) = true:=beq_iff_eq.mpr c3
    have c3b1 : ((l0.length : Int) != (l1.length : Int)) = false:=bne_eq_false_iff_eq.mpr c3
    have c3b2 : (l0.length == l1.length) = true:=by first | simpa using c3 | (simp at c3 ⊢;omega)
    clear c3
    have H':=Aside0.mk H
    clear H
    go_enter Try.func46, Try.ntmps46
    go_wp2
    repeat (go_quiet (fail);try go_wp2)
    go_loopg [13] k (fun kq v13 w'=>∃ (x13_1 : Int), v13 = .int .i64 x13_1 ∧ Aside0 (slices_Equal_int_int.l0 kq l0 l1 (l0.length : Int) x13_1 = some r) ∧ Aside0 (kq ≤ k) ∧ Drawn0 w w')
    case atStart=>exact ⟨(0), (by first | rfl | (simp;done) | (simp [*];done)), H', ⟨Nat.le_refl _⟩, by repeat (first | exact Drawn0.refl _ | apply Drawn0.step)⟩
    case round =>
      clear H'
      try clear c1
      try clear p2
      try clear c3
      try clear c3b0
      try clear c3b1
      try clear c3b2
      obtain ⟨x13_1, rfl, HA, HK1, ⟨m1, rfl⟩⟩:=hrel
      cases gk with
      | zero=>exact absurd HA.out (by simp [slices_Equal_int_int.l0])
      | succ k1 =>
        have H:=HA.out
        clear HA
        simp only [slices_Equal_int_int.l0] at H
        by_cases c4 : x13_1 < (l0.length : Int)
        · rw [if_pos c4] at H
          have c4b0 : decide (x13_1 < (l0.length : Int)) = true:=decide_eq_true c4
          clear c4
          by_cases c5 : 0 ≤ x13_1
          · rw [if_pos c5] at H
            have c5b0 : decide (0 ≤ x13_1) = true:=decide_eq_true c5
            clear c5
            by_cases c6 : x13_1 < (l0.length : Int)
            · rw [if_pos c6] at H
              have c6b0 : decide (x13_1 < (l0.length : Int)) = true:=decide_eq_true c6
              clear c6
              by_cases c7 : x13_1 < (l1.length : Int)
              · rw [if_pos c7] at H
                have c7b0 : decide (x13_1 < (l1.length : Int)) = true:=decide_eq_true c7
                clear c7
                by_cases c8 : (rd l0 x13_1) = (rd l1 x13_1)
                · rw [if_pos c8] at H
                  have c8b0 : ((rd l0 x13_1) == (rd l1 x13_1)) = true:=beq_iff_eq.mpr c8
                  have c8b1 : ((rd l0 x13_1) != (rd l1 x13_1)) = false:=bne_eq_false_iff_eq.mpr c8
                  clear c8
                  have H':=Aside0.mk H
                  clear H
                  have p169 : 0 ≤ (x13_1 : Int):=of_decide_eq_true (by first | (with_reducible assumption) | assumption)
                  have q169 : x13_1 < (l0.length : Int):=of_decide_eq_true (by first | (with_reducible assumption) | assumption)
                  obtain ⟨ad169, e169, hx169_0⟩:=Kd.at_int HR0.out x13_1 p169 q169
                  cases e169
                  replace p169:=eq_true p169
                  replace q169:=eq_true q169
                  have p170 : 0 ≤ (x13_1 : Int):=of_decide_eq_true (by first | (with_reducible assumption) | assumption)
                  have q170 : x13_1 < (l1.length : Int):=of_decide_eq_true (by first | (with_reducible assumption) | assumption)
                  obtain ⟨ad170, e170, hx170_0⟩:=Kd.at_int HR1.out x13_1 p170 q170
                  cases e170
                  replace p170:=eq_true p170
                  replace q170:=eq_true q170
                  go_wp2
                  repeat (go_quiet (fail);try go_wp2)
                  go_roundg k1
                  case measure=>have:=HK1.out;omega
                  case rel=>exact ⟨(wrap64 (x13_1 + 1)), (by first | rfl | (simp;done) | (simp [*];done)), H', ⟨by have:=HK1.out;omega⟩, by repeat (first | exact Drawn0.refl _ | apply Drawn0.step)⟩
                · rw [if_neg c8] at H
                  have c8b0 : ((rd l0 x13_1) == (rd l1 x13_1)) = false:=beq_eq_false_iff_ne.mpr c8
                  have c8b1 : ((rd l0 x13_1) != (rd l1 x13_1)) = true:=bne_iff_ne.mpr c8
                  obtain rfl:=Option.some.inj H
                  have p169 : 0 ≤ (x13_1 : Int):=of_decide_eq_true (by first | (with_reducible assumption) | assumption)
                  have q169 : x13_1 < (l0.length : Int):=of_decide_eq_true (by first | (with_reducible assumption) | assumption)
                  obtain ⟨ad169, e169, hx169_0⟩:=Kd.at_int HR0.out x13_1 p169 q169
                  cases e169
                  replace p169:=eq_true p169
                  replace q169:=eq_true q169
                  have p170 : 0 ≤ (x13_1 : Int):=of_decide_eq_true (by first | (with_reducible assumption) | assumption)
                  have q170 : x13_1 < (l1.length : Int):=of_decide_eq_true (by first | (with_reducible assumption) | assumption)
                  obtain ⟨ad170, e170, hx170_0⟩:=Kd.at_int HR1.out x13_1 p170 q170
                  cases e170
                  replace p170:=eq_true p170
                  replace q170:=eq_true q170
                  go_wp2
                  repeat (go_quiet (fail);try go_wp2)
                  go_ret
                  exact ⟨by first | rfl | (simp;done) | (simp [*];done), by repeat (first | exact Drawn0.refl _ | apply Drawn0.step)⟩
              · rw [if_neg c7] at H
                exact absurd H (by simp)
            · rw [if_neg c6] at H
              exact absurd H (by simp)
          · rw [if_neg c5] at H
            exact absurd H (by simp)
        · rw [if_neg c4] at H
          have c4b0 : decide (x13_1 < (l0.length : Int)) = false:=decide_eq_false c4
          clear c4
          obtain rfl:=Option.some.inj H
          go_wp2
          repeat (go_quiet (fail);try go_wp2)
          go_ret
          exact ⟨by first | rfl | (simp;done) | (simp [*];done), by repeat (first | exact Drawn0.refl _ | apply Drawn0.step)⟩
  · rw [if_neg c3] at H
    have c3b0 : ((l0.length : Int) == (l1.length : Int)) = false:=beq_eq_false_iff_ne.mpr c3
    have c3b1 : ((l0.length : Int) != (l1.length : Int)) = true:=bne_iff_ne.mpr c3
    have c3b2 : (l0.length == l1.length) = false:=by first | simpa using c3 | (simp at c3 ⊢;omega)
    obtain rfl:=Option.some.inj H
    go_enter Try.func46, Try.ntmps46
    go_wp2
    repeat (go_quiet (fail);try go_wp2)
    go_ret
    exact ⟨by first | rfl | (simp;done) | (simp [*];done), by repeat (first | exact Drawn0.refl _ | apply Drawn0.step)⟩

end Go.Proofs.Ytfogpifjpnonnaa.PWaterfallTurns
