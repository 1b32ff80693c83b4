/- Laid for this claim by a program of this session's (wip/mkprint.py, wip/ext.py); not trusted: Lean checks it. -/
import Derived.Test.YtgcefakbbmgbbaaDoorPWorkdayExpiresx0
import Derived.Test.YtgcefakbbmgbbaaDoorPWorkdayExpiresx1
import Derived.Test.YtgcefakbbmgbbaaDoorPWorkdayExpiresx2
namespace Go.Proofs.YtgcefakbbmgbbaaDoor.PWorkdayExpires
open Go.RowKit Go.Proofs.YtgcefakbbmgbbaaDoorW.PrintWords Go.Proofs.YtgcefakbbmgbbaaDoorW.PrintLast Go.Proofs.YtgcefakbbmgbbaaDoorW.PrintMore
attribute [local go_sem] max2_int min2_int max_two min_two max_three min_three max_four min_four   -- for this text's walks alone
set_option linter.unusedVariables false
set_option linter.unusedSimpArgs false

/-! ### workday_Add: function 21 -/
def addGo : Nat → List Int → Int → Int → Int → Int × Int
  | 0, _, _, _, _ => (0, 15)
  | f + 1, l, d, by_, n => if isV d = true then (if workV l d = true then (if wrap64 (n - by_) = 0 then (d, 0) else addGo f l (d + by_) by_ (wrap64 (n - by_))) else (if n = 0 then (d, 0) else addGo f l (d + by_) by_ n)) else (0, 15)
def addBy (n : Int) : Int := if n < 0 then -1 else 1
def workday_Add.f (l0 : List Int) (a1 a2 : Int) : Option (Int × Int) := if a2 = 0 then workday_On.f l0 a1 else some (if chk2 l0 [a1] = 0 then addGo 73050 l0 (a1 + addBy a2) (addBy a2) a2 else (0, chk2 l0 [a1]))
set_option maxHeartbeats 8000000 in
set_option maxRecDepth 100000 in
theorem add_up (A0 : Option Addr) (c0 : Nat) (l0 : List Int) (a1 a2 : Int) (w : World) (hr0 : Kd.C (Kd.int .i64) w A0 l0.length l0) (hc0 : l0.length ≤ c0) (ha2 : 0 < a2) (hz : chk2 l0 [a1] = 0) :
    Calls Tryd.prog 21 #[.slice A0 l0.length c0, .int .i64 a1, .int .i64 a2] w fun e w' => e = .returned (.tuple #[.int .i64 (addGo 73050 l0 (a1 + 1) 1 a2).1, .int .i64 (addGo 73050 l0 (a1 + 1) 1 a2).2]) ∧ Below w.heap.size w w' := by
  obtain ⟨k, hk⟩ := chk2_val l0 [a1] (by simp)
  have hcall : ∀ W : World, Below w.heap.size w W → Calls Tryd.prog 29 #[.slice A0 l0.length c0, .slice (some ⟨W.heap.size, 0, none⟩) 1 1] (W.alloc (.cells #[.int .i64 a1] 3)) fun e w' => e = .returned (.int .i64 (chk2 l0 [a1])) ∧ Drawn0 (W.alloc (.cells #[.int .i64 a1] 3)) w' := fun W hB =>
    workday_check.calls k A0 c0 l0 (some ⟨W.heap.size, 0, none⟩) 1 [a1] _ _ (Kd.C_below hr0 (below_alloc hB _)) hc0 (rowC [a1] W.heap.size _ (by simp) (blk_new W _)) (Nat.le_refl _) hk
  have HCALL := Aside0.mk hcall
  obtain ⟨hd0, hd1⟩ := chk2_in l0 [a1] a1 hz (by simp)
  have hs := chk2_srt _ _ hz
  rw [hz] at HCALL
  have hwk : ∀ (W : World) (d : Int) (g1 g2 : Nat), Below w.heap.size w W → W.heap[g1]? = some (.cells #[.slice A0 l0.length c0] 22 (0, 0)) → W.heap[g2]? = some (.cells weekL.toArray 51 (0, 0)) → Calls Tryd.prog 38 #[.int .i64 d, .pointer (some ⟨g1, 0, none⟩), .pointer (some ⟨g2, 0, none⟩)] W fun e w' => e = .returned (.bool (workV l0 d)) ∧ Below W.heap.size W w' := fun W d g1 g2 hB h1 h2 => working1_any A0 c0 l0 d g1 g2 W (Kd.C_below hr0 hB) hc0 hs h1 h2
  have HW := Aside0.mk hwk
  have dz : (a2 == 0) = false := beq_eq_false_iff_ne.2 (by omega)
  have dn : decide (a2 < 0) = false := decide_eq_false (by omega)
  obtain ⟨res, hres⟩ : ∃ res, res = addGo 73050 l0 (a1 + 1) 1 a2 := ⟨_, rfl⟩
  rw [← hres]
  have HRES := Aside0.mk hres.symm
  clear hres hwk hr0 hs hz hcall hk ha2
  go_enter Tryd.func21, Tryd.ntmps21
  go_wp2_with (go_at_call 29; (with_reducible refine (HCALL.out _ (Below.refl _ _)).mono ?_); rintro e w2 ⟨rfl, hd⟩; have HB := Aside0.mk (below_step (below_alloc (Below.refl _ _) _) hd.below); clear hd)
  refine (working_any A0 l0.length c0 _).mono ?_
  rintro e w3 ⟨g1, g2, rfl, _, _, h1, h2, hb⟩
  have HB3 := Aside0.mk (below_step HB.out hb)
  have H1 := Aside0.mk h1
  have H2 := Aside0.mk h2
  clear hb h1 h2 HB dz dn
  go_wp2_with fail
  go_loopw [2, 11] (fun v2 v11 wr => ∃ (f : Nat) (d n : Int), -1 ≤ d ∧ d ≤ 73049 ∧ f ≤ 73050 ∧ v11 = .int .i64 d ∧ v2 = .int .i64 n ∧ Aside0 (0 < f ∧ 73049 - d < f) ∧ Aside0 (addGo f l0 d 1 n = res) ∧ Aside0 (wr.heap[g1]? = some (.cells #[.slice A0 l0.length c0] 22 (0, 0))) ∧ Aside0 (wr.heap[g2]? = some (.cells weekL.toArray 51 (0, 0))) ∧ Aside0 (Below w.heap.size w wr)) (fun _ v11 _ => (73050 - intOf v11).toNat)
  case atStart => exact ⟨73050, a1 + 1, a2, by omega, by omega, by omega, by first | rfl | (congr 1), rfl, ⟨by omega⟩, HRES, H1, H2, HB3⟩
  case round =>
    clear HRES H1 H2 HB3
    obtain ⟨f, d, n, hd0, hd1, hf, rfl, rfl, HF, HRES, H1, H2, HB⟩ := hrel
    obtain ⟨f, rfl⟩ : ∃ j, f = j + 1 := ⟨f - 1, by have := HF.out.1; omega⟩
    have hsc := HRES.out
    rw [addGo] at hsc
    cases hv : isV d with
    | false =>
      rw [hv, if_neg (by decide)] at hsc
      have HV := Aside0.mk ((is_val d).trans (congrArg some hv))
      obtain ⟨rfl⟩ : res = (0, 15) := hsc.symm
      clear hv HRES hsc
      go_wp2_with (go_at_call 34; (with_reducible refine (workday_is.calls d false _ HV.out).mono ?_); rintro e w4 ⟨rfl, hd⟩; have HB4 := Aside0.mk (below_step HB.out hd.below); have H14 := Aside0.mk (blk_below H1.out hd.below); have H24 := Aside0.mk (blk_below H2.out hd.below); clear hd)
      go_ret2
      exact ⟨rfl, HB4.out⟩
    | true =>
      rw [hv, if_pos rfl] at hsc
      have HV := Aside0.mk ((is_val d).trans (congrArg some hv))
      have hd2 : 0 ≤ d ∧ d ≤ 73048 := by unfold isV at hv; simpa using hv
      obtain ⟨hd2, hd3⟩ := hd2
      have HWD := Aside0.mk (fun (W : World) => HW.out W d g1 g2)
      clear hv HRES
      cases hb : workV l0 d with
      | true =>
        rw [hb] at HWD
        rw [hb, if_pos rfl] at hsc
        clear hb
        by_cases hz : wrap64 (n - 1) = 0
        · rw [if_pos hz] at hsc
          subst hsc
          have dq : (wrap64 (n - 1) == 0) = true := beq_iff_eq.2 hz
          clear hz
          go_wp2_with (go_at_call 34; (with_reducible refine (workday_is.calls d true _ HV.out).mono ?_); rintro e w4 ⟨rfl, hd⟩; have HB4 := Aside0.mk (below_step HB.out hd.below); have H14 := Aside0.mk (blk_below H1.out hd.below); have H24 := Aside0.mk (blk_below H2.out hd.below); clear hd)
          refine (HWD.out _ HB4.out H14.out H24.out).mono ?_
          rintro e w5 ⟨rfl, hb⟩
          have HB5 := Aside0.mk (below_step HB4.out hb)
          clear hb
          go_wp2
          go_ret2
          exact ⟨rfl, HB5.out⟩
        · rw [if_neg hz] at hsc
          have HSC := Aside0.mk hsc
          have dq : (wrap64 (n - 1) == 0) = false := beq_eq_false_iff_ne.2 hz
          clear hz hsc
          go_wp2_with (go_at_call 34; (with_reducible refine (workday_is.calls d true _ HV.out).mono ?_); rintro e w4 ⟨rfl, hd⟩; have HB4 := Aside0.mk (below_step HB.out hd.below); have H14 := Aside0.mk (blk_below H1.out hd.below); have H24 := Aside0.mk (blk_below H2.out hd.below); clear hd)
          refine (HWD.out _ HB4.out H14.out H24.out).mono ?_
          rintro e w5 ⟨rfl, hb⟩
          have HB5 := Aside0.mk (below_step HB4.out hb)
          have H15 := Aside0.mk (blk_below H14.out hb)
          have H25 := Aside0.mk (blk_below H24.out hb)
          clear hb HB H1 H2 HB4 H14 H24
          go_wp2
          go_roundw
          case measure => show _ < _; simp [intOf]; omega
          case rel => exact ⟨f, d + 1, _, by omega, by omega, by omega, by first | rfl | (congr 1), rfl, ⟨by have := HF.out; omega⟩, HSC, H15, H25, HB5⟩
      | false =>
        rw [hb] at HWD
        rw [hb, if_neg (by decide)] at hsc
        clear hb
        by_cases hz : n = 0
        · rw [if_pos hz] at hsc
          subst hsc
          have dq : (n == 0) = true := beq_iff_eq.2 hz
          clear hz
          go_wp2_with (go_at_call 34; (with_reducible refine (workday_is.calls d true _ HV.out).mono ?_); rintro e w4 ⟨rfl, hd⟩; have HB4 := Aside0.mk (below_step HB.out hd.below); have H14 := Aside0.mk (blk_below H1.out hd.below); have H24 := Aside0.mk (blk_below H2.out hd.below); clear hd)
          refine (HWD.out _ HB4.out H14.out H24.out).mono ?_
          rintro e w5 ⟨rfl, hb⟩
          have HB5 := Aside0.mk (below_step HB4.out hb)
          clear hb
          go_wp2
          go_ret2
          exact ⟨rfl, HB5.out⟩
        · rw [if_neg hz] at hsc
          have HSC := Aside0.mk hsc
          have dq : (n == 0) = false := beq_eq_false_iff_ne.2 hz
          clear hz hsc
          go_wp2_with (go_at_call 34; (with_reducible refine (workday_is.calls d true _ HV.out).mono ?_); rintro e w4 ⟨rfl, hd⟩; have HB4 := Aside0.mk (below_step HB.out hd.below); have H14 := Aside0.mk (blk_below H1.out hd.below); have H24 := Aside0.mk (blk_below H2.out hd.below); clear hd)
          refine (HWD.out _ HB4.out H14.out H24.out).mono ?_
          rintro e w5 ⟨rfl, hb⟩
          have HB5 := Aside0.mk (below_step HB4.out hb)
          have H15 := Aside0.mk (blk_below H14.out hb)
          have H25 := Aside0.mk (blk_below H24.out hb)
          clear hb HB H1 H2 HB4 H14 H24
          go_wp2
          go_roundw
          case measure => show _ < _; simp [intOf]; omega
          case rel => exact ⟨f, d + 1, n, by omega, by omega, by omega, by first | rfl | (congr 1), rfl, ⟨by have := HF.out; omega⟩, HSC, H15, H25, HB5⟩
set_option maxHeartbeats 8000000 in
set_option maxRecDepth 100000 in
theorem add_down (A0 : Option Addr) (c0 : Nat) (l0 : List Int) (a1 a2 : Int) (w : World) (hr0 : Kd.C (Kd.int .i64) w A0 l0.length l0) (hc0 : l0.length ≤ c0) (ha2 : a2 < 0) (hz : chk2 l0 [a1] = 0) :
    Calls Tryd.prog 21 #[.slice A0 l0.length c0, .int .i64 a1, .int .i64 a2] w fun e w' => e = .returned (.tuple #[.int .i64 (addGo 73050 l0 (a1 + (-1)) (-1) a2).1, .int .i64 (addGo 73050 l0 (a1 + (-1)) (-1) a2).2]) ∧ Below w.heap.size w w' := by
  obtain ⟨k, hk⟩ := chk2_val l0 [a1] (by simp)
  have hcall : ∀ W : World, Below w.heap.size w W → Calls Tryd.prog 29 #[.slice A0 l0.length c0, .slice (some ⟨W.heap.size, 0, none⟩) 1 1] (W.alloc (.cells #[.int .i64 a1] 3)) fun e w' => e = .returned (.int .i64 (chk2 l0 [a1])) ∧ Drawn0 (W.alloc (.cells #[.int .i64 a1] 3)) w' := fun W hB =>
    workday_check.calls k A0 c0 l0 (some ⟨W.heap.size, 0, none⟩) 1 [a1] _ _ (Kd.C_below hr0 (below_alloc hB _)) hc0 (rowC [a1] W.heap.size _ (by simp) (blk_new W _)) (Nat.le_refl _) hk
  have HCALL := Aside0.mk hcall
  obtain ⟨hd0, hd1⟩ := chk2_in l0 [a1] a1 hz (by simp)
  have hs := chk2_srt _ _ hz
  rw [hz] at HCALL
  have hwk : ∀ (W : World) (d : Int) (g1 g2 : Nat), Below w.heap.size w W → W.heap[g1]? = some (.cells #[.slice A0 l0.length c0] 22 (0, 0)) → W.heap[g2]? = some (.cells weekL.toArray 51 (0, 0)) → Calls Tryd.prog 38 #[.int .i64 d, .pointer (some ⟨g1, 0, none⟩), .pointer (some ⟨g2, 0, none⟩)] W fun e w' => e = .returned (.bool (workV l0 d)) ∧ Below W.heap.size W w' := fun W d g1 g2 hB h1 h2 => working1_any A0 c0 l0 d g1 g2 W (Kd.C_below hr0 hB) hc0 hs h1 h2
  have HW := Aside0.mk hwk
  have dz : (a2 == 0) = false := beq_eq_false_iff_ne.2 (by omega)
  have dn : decide (a2 < 0) = true := decide_eq_true ha2
  obtain ⟨res, hres⟩ : ∃ res, res = addGo 73050 l0 (a1 + (-1)) (-1) a2 := ⟨_, rfl⟩
  rw [← hres]
  have HRES := Aside0.mk hres.symm
  clear hres hwk hr0 hs hz hcall hk ha2
  go_enter Tryd.func21, Tryd.ntmps21
  go_wp2_with (go_at_call 29; (with_reducible refine (HCALL.out _ (Below.refl _ _)).mono ?_); rintro e w2 ⟨rfl, hd⟩; have HB := Aside0.mk (below_step (below_alloc (Below.refl _ _) _) hd.below); clear hd)
  refine (working_any A0 l0.length c0 _).mono ?_
  rintro e w3 ⟨g1, g2, rfl, _, _, h1, h2, hb⟩
  have HB3 := Aside0.mk (below_step HB.out hb)
  have H1 := Aside0.mk h1
  have H2 := Aside0.mk h2
  clear hb h1 h2 HB dz dn
  go_wp2_with fail
  go_loopw [2, 11] (fun v2 v11 wr => ∃ (f : Nat) (d n : Int), -1 ≤ d ∧ d ≤ 73049 ∧ f ≤ 73050 ∧ v11 = .int .i64 d ∧ v2 = .int .i64 n ∧ Aside0 (0 < f ∧ d + 1 < f) ∧ Aside0 (addGo f l0 d (-1) n = res) ∧ Aside0 (wr.heap[g1]? = some (.cells #[.slice A0 l0.length c0] 22 (0, 0))) ∧ Aside0 (wr.heap[g2]? = some (.cells weekL.toArray 51 (0, 0))) ∧ Aside0 (Below w.heap.size w wr)) (fun _ v11 _ => (intOf v11 + 1).toNat)
  case atStart => exact ⟨73050, a1 + (-1), a2, by omega, by omega, by omega, by first | rfl | (congr 1), rfl, ⟨by omega⟩, HRES, H1, H2, HB3⟩
  case round =>
    clear HRES H1 H2 HB3
    obtain ⟨f, d, n, hd0, hd1, hf, rfl, rfl, HF, HRES, H1, H2, HB⟩ := hrel
    obtain ⟨f, rfl⟩ : ∃ j, f = j + 1 := ⟨f - 1, by have := HF.out.1; omega⟩
    have hsc := HRES.out
    rw [addGo] at hsc
    rw [show n - -1 = n + 1 by omega] at hsc
    cases hv : isV d with
    | false =>
      rw [hv, if_neg (by decide)] at hsc
      have HV := Aside0.mk ((is_val d).trans (congrArg some hv))
      obtain ⟨rfl⟩ : res = (0, 15) := hsc.symm
      clear hv HRES hsc
      go_wp2_with (go_at_call 34; (with_reducible refine (workday_is.calls d false _ HV.out).mono ?_); rintro e w4 ⟨rfl, hd⟩; have HB4 := Aside0.mk (below_step HB.out hd.below); have H14 := Aside0.mk (blk_below H1.out hd.below); have H24 := Aside0.mk (blk_below H2.out hd.below); clear hd)
      go_ret2
      exact ⟨rfl, HB4.out⟩
    | true =>
      rw [hv, if_pos rfl] at hsc
      have HV := Aside0.mk ((is_val d).trans (congrArg some hv))
      have hd2 : 0 ≤ d ∧ d ≤ 73048 := by unfold isV at hv; simpa using hv
      obtain ⟨hd2, hd3⟩ := hd2
      have HWD := Aside0.mk (fun (W : World) => HW.out W d g1 g2)
      clear hv HRES
      cases hb : workV l0 d with
      | true =>
        rw [hb] at HWD
        rw [hb, if_pos rfl] at hsc
        clear hb
        by_cases hz : wrap64 (n + 1) = 0
        · rw [if_pos hz] at hsc
          subst hsc
          have dq : (wrap64 (n + 1) == 0) = true := beq_iff_eq.2 hz
          clear hz
          go_wp2_with (go_at_call 34; (with_reducible refine (workday_is.calls d true _ HV.out).mono ?_); rintro e w4 ⟨rfl, hd⟩; have HB4 := Aside0.mk (below_step HB.out hd.below); have H14 := Aside0.mk (blk_below H1.out hd.below); have H24 := Aside0.mk (blk_below H2.out hd.below); clear hd)
          refine (HWD.out _ HB4.out H14.out H24.out).mono ?_
          rintro e w5 ⟨rfl, hb⟩
          have HB5 := Aside0.mk (below_step HB4.out hb)
          clear hb
          go_wp2
          go_ret2
          exact ⟨rfl, HB5.out⟩
        · rw [if_neg hz] at hsc
          have HSC := Aside0.mk hsc
          have dq : (wrap64 (n + 1) == 0) = false := beq_eq_false_iff_ne.2 hz
          clear hz hsc
          go_wp2_with (go_at_call 34; (with_reducible refine (workday_is.calls d true _ HV.out).mono ?_); rintro e w4 ⟨rfl, hd⟩; have HB4 := Aside0.mk (below_step HB.out hd.below); have H14 := Aside0.mk (blk_below H1.out hd.below); have H24 := Aside0.mk (blk_below H2.out hd.below); clear hd)
          refine (HWD.out _ HB4.out H14.out H24.out).mono ?_
          rintro e w5 ⟨rfl, hb⟩
          have HB5 := Aside0.mk (below_step HB4.out hb)
          have H15 := Aside0.mk (blk_below H14.out hb)
          have H25 := Aside0.mk (blk_below H24.out hb)
          clear hb HB H1 H2 HB4 H14 H24
          go_wp2
          go_roundw
          case measure => show _ < _; simp [intOf]; omega
          case rel => exact ⟨f, d + (-1), _, by omega, by omega, by omega, by first | rfl | (congr 1), rfl, ⟨by have := HF.out; omega⟩, HSC, H15, H25, HB5⟩
      | false =>
        rw [hb] at HWD
        rw [hb, if_neg (by decide)] at hsc
        clear hb
        by_cases hz : n = 0
        · rw [if_pos hz] at hsc
          subst hsc
          have dq : (n == 0) = true := beq_iff_eq.2 hz
          clear hz
          go_wp2_with (go_at_call 34; (with_reducible refine (workday_is.calls d true _ HV.out).mono ?_); rintro e w4 ⟨rfl, hd⟩; have HB4 := Aside0.mk (below_step HB.out hd.below); have H14 := Aside0.mk (blk_below H1.out hd.below); have H24 := Aside0.mk (blk_below H2.out hd.below); clear hd)
          refine (HWD.out _ HB4.out H14.out H24.out).mono ?_
          rintro e w5 ⟨rfl, hb⟩
          have HB5 := Aside0.mk (below_step HB4.out hb)
          clear hb
          go_wp2
          go_ret2
          exact ⟨rfl, HB5.out⟩
        · rw [if_neg hz] at hsc
          have HSC := Aside0.mk hsc
          have dq : (n == 0) = false := beq_eq_false_iff_ne.2 hz
          clear hz hsc
          go_wp2_with (go_at_call 34; (with_reducible refine (workday_is.calls d true _ HV.out).mono ?_); rintro e w4 ⟨rfl, hd⟩; have HB4 := Aside0.mk (below_step HB.out hd.below); have H14 := Aside0.mk (blk_below H1.out hd.below); have H24 := Aside0.mk (blk_below H2.out hd.below); clear hd)
          refine (HWD.out _ HB4.out H14.out H24.out).mono ?_
          rintro e w5 ⟨rfl, hb⟩
          have HB5 := Aside0.mk (below_step HB4.out hb)
          have H15 := Aside0.mk (blk_below H14.out hb)
          have H25 := Aside0.mk (blk_below H24.out hb)
          clear hb HB H1 H2 HB4 H14 H24
          go_wp2
          go_roundw
          case measure => show _ < _; simp [intOf]; omega
          case rel => exact ⟨f, d + (-1), n, by omega, by omega, by omega, by first | rfl | (congr 1), rfl, ⟨by have := HF.out; omega⟩, HSC, H15, H25, HB5⟩
set_option maxHeartbeats 8000000 in
set_option maxRecDepth 100000 in
theorem add_bad (A0 : Option Addr) (c0 : Nat) (l0 : List Int) (a1 a2 : Int) (w : World) (hr0 : Kd.C (Kd.int .i64) w A0 l0.length l0) (hc0 : l0.length ≤ c0) (ha2 : a2 ≠ 0) (hz : ¬ chk2 l0 [a1] = 0) :
    Calls Tryd.prog 21 #[.slice A0 l0.length c0, .int .i64 a1, .int .i64 a2] w fun e w' => e = .returned (.tuple #[.int .i64 0, .int .i64 (chk2 l0 [a1])]) ∧ Below w.heap.size w w' := by
  obtain ⟨k, hk⟩ := chk2_val l0 [a1] (by simp)
  have hcall : ∀ W : World, Below w.heap.size w W → Calls Tryd.prog 29 #[.slice A0 l0.length c0, .slice (some ⟨W.heap.size, 0, none⟩) 1 1] (W.alloc (.cells #[.int .i64 a1] 3)) fun e w' => e = .returned (.int .i64 (chk2 l0 [a1])) ∧ Drawn0 (W.alloc (.cells #[.int .i64 a1] 3)) w' := fun W hB =>
    workday_check.calls k A0 c0 l0 (some ⟨W.heap.size, 0, none⟩) 1 [a1] _ _ (Kd.C_below hr0 (below_alloc hB _)) hc0 (rowC [a1] W.heap.size _ (by simp) (blk_new W _)) (Nat.le_refl _) hk
  have HCALL := Aside0.mk hcall
  have dz : (chk2 l0 [a1] != 0) = true := bne_iff_ne.2 hz
  have d2 : (a2 == 0) = false := beq_eq_false_iff_ne.2 ha2
  generalize chk2 l0 [a1] = e0 at *
  clear hr0 hz hcall hk ha2
  go_enter Tryd.func21, Tryd.ntmps21
  go_wp2_with (go_at_call 29; (with_reducible refine (HCALL.out _ (Below.refl _ _)).mono ?_); rintro e w2 ⟨rfl, hd⟩; have HB := Aside0.mk (below_step (below_alloc (Below.refl _ _) _) hd.below); clear hd)
  go_ret2
  exact ⟨rfl, HB.out⟩
set_option maxHeartbeats 8000000 in
set_option maxRecDepth 100000 in
theorem add_on (A0 : Option Addr) (c0 : Nat) (l0 : List Int) (a1 r1 r2 : Int) (w : World) (hr0 : Kd.C (Kd.int .i64) w A0 l0.length l0) (hc0 : l0.length ≤ c0) (h : workday_On.f l0 a1 = some (r1, r2)) :
    Calls Tryd.prog 21 #[.slice A0 l0.length c0, .int .i64 a1, .int .i64 0] w fun e w' => e = .returned (.tuple #[.int .i64 r1, .int .i64 r2]) ∧ Below w.heap.size w w' := by
  have HO := Aside0.mk (workday_On.calls A0 c0 l0 a1 r1 r2 w hr0 hc0 h)
  clear hr0 h
  go_enter Tryd.func21, Tryd.ntmps21
  go_wp2_with (go_at_call 17; (with_reducible refine HO.out.mono ?_); rintro e w2 ⟨rfl, hd⟩; have HB := Aside0.mk hd; clear hd)
  go_ret2
  exact ⟨rfl, HB.out⟩
theorem workday_Add.calls (A0 : Option Addr) (c0 : Nat) (l0 : List Int) (a1 a2 r1 r2 : Int) (w : World) (hr0 : Kd.C (Kd.int .i64) w A0 l0.length l0) (hc0 : l0.length ≤ c0) (h : workday_Add.f l0 a1 a2 = some (r1, r2)) :
    Calls Tryd.prog 21 #[.slice A0 l0.length c0, .int .i64 a1, .int .i64 a2] w fun e w' => e = .returned (.tuple #[.int .i64 r1, .int .i64 r2]) ∧ Below w.heap.size w w' := by
  unfold workday_Add.f at h
  by_cases h0 : a2 = 0
  · rw [if_pos h0] at h
    subst h0
    exact add_on A0 c0 l0 a1 r1 r2 w hr0 hc0 h
  · rw [if_neg h0] at h
    have h := Option.some.inj h
    by_cases hz : chk2 l0 [a1] = 0
    · rw [if_pos hz] at h
      unfold addBy at h
      by_cases hn : a2 < 0
      · rw [if_pos hn] at h
        have := add_down A0 c0 l0 a1 a2 w hr0 hc0 hn hz
        rw [h] at this
        exact this
      · rw [if_neg hn] at h
        have := add_up A0 c0 l0 a1 a2 w hr0 hc0 (by omega) hz
        rw [h] at this
        exact this
    · rw [if_neg hz] at h
      simp only [Prod.mk.injEq] at h
      obtain ⟨rfl, rfl⟩ := h
      exact add_bad A0 c0 l0 a1 a2 w hr0 hc0 h0 hz

/-! ### workday_Count: function 23 -/
def cntGo : Nat → List Int → Int → Int → Int
  | 0, _, _, n => n
  | f + 1, l, d, n => cntGo f l (d + 1) (if workV l d = true then n + 1 else n)
def workday_Count.f (l0 : List Int) (a1 a2 : Int) : Option (Int × Int) := some (if chk2 l0 [a1, a2] = 0 then (cntGo (a2 - a1 + 1).toNat l0 a1 0, 0) else (0, chk2 l0 [a1, a2]))
set_option maxHeartbeats 8000000 in
set_option maxRecDepth 100000 in
theorem workday_Count.calls (A0 : Option Addr) (c0 : Nat) (l0 : List Int) (a1 a2 r1 r2 : Int) (w : World) (hr0 : Kd.C (Kd.int .i64) w A0 l0.length l0) (hc0 : l0.length ≤ c0) (h : workday_Count.f l0 a1 a2 = some (r1, r2)) :
    Calls Tryd.prog 23 #[.slice A0 l0.length c0, .int .i64 a1, .int .i64 a2] w fun e w' => e = .returned (.tuple #[.int .i64 r1, .int .i64 r2]) ∧ Below w.heap.size w w' := by
  unfold workday_Count.f at h
  have h := Option.some.inj h
  obtain ⟨k, hk⟩ := chk2_val l0 [a1, a2] (by simp)
  have hcall : ∀ W : World, Below w.heap.size w W → Calls Tryd.prog 29 #[.slice A0 l0.length c0, .slice (some ⟨W.heap.size, 0, none⟩) 2 2] (W.alloc (.cells #[.int .i64 a1, .int .i64 a2] 3)) fun e w' => e = .returned (.int .i64 (chk2 l0 [a1, a2])) ∧ Drawn0 (W.alloc (.cells #[.int .i64 a1, .int .i64 a2] 3)) w' := fun W hB =>
    workday_check.calls k A0 c0 l0 (some ⟨W.heap.size, 0, none⟩) 2 [a1, a2] _ _ (Kd.C_below hr0 (below_alloc hB _)) hc0 (rowC [a1, a2] W.heap.size _ (by simp) (blk_new W _)) (Nat.le_refl _) hk
  have HCALL := Aside0.mk hcall
  clear hcall hk
  by_cases hz : chk2 l0 [a1, a2] = 0
  · rw [if_pos hz] at h
    simp only [Prod.mk.injEq] at h
    obtain ⟨hres, rfl⟩ := h
    obtain ⟨hd0, hd1⟩ := chk2_in l0 [a1, a2] a1 hz (by simp)
    obtain ⟨he0, he1⟩ := chk2_in l0 [a1, a2] a2 hz (by simp)
    have hs := chk2_srt _ _ hz
    rw [hz] at HCALL
    have hwk : ∀ (W : World) (d : Int) (g1 g2 : Nat), Below w.heap.size w W → W.heap[g1]? = some (.cells #[.slice A0 l0.length c0] 22 (0, 0)) → W.heap[g2]? = some (.cells weekL.toArray 51 (0, 0)) → Calls Tryd.prog 38 #[.int .i64 d, .pointer (some ⟨g1, 0, none⟩), .pointer (some ⟨g2, 0, none⟩)] W fun e w' => e = .returned (.bool (workV l0 d)) ∧ Below W.heap.size W w' := fun W d g1 g2 hB h1 h2 => working1_any A0 c0 l0 d g1 g2 W (Kd.C_below hr0 hB) hc0 hs h1 h2
    have HW := Aside0.mk hwk
    have HRES := Aside0.mk hres
    clear hwk hr0 hs hz hres
    go_enter Tryd.func23, Tryd.ntmps23
    go_wp2_with (go_at_call 29; (with_reducible refine (HCALL.out _ (Below.refl _ _)).mono ?_); rintro e w2 ⟨rfl, hd⟩; have HB := Aside0.mk (below_step (below_alloc (Below.refl _ _) _) hd.below); clear hd)
    refine (working_any A0 l0.length c0 _).mono ?_
    rintro e w3 ⟨g1, g2, rfl, _, _, h1, h2, hb⟩
    have HB3 := Aside0.mk (below_step HB.out hb)
    have H1 := Aside0.mk h1
    have H2 := Aside0.mk h2
    clear hb h1 h2 HB
    go_wp2_with fail
    go_loopw [10, 11] (fun v10 v11 wr => ∃ (n d : Int), a1 ≤ d ∧ d ≤ 73049 ∧ 0 ≤ n ∧ n + a1 ≤ d ∧ v10 = .int .i64 n ∧ v11 = .int .i64 d ∧ Aside0 (cntGo (a2 - d + 1).toNat l0 d n = r1) ∧ Aside0 (wr.heap[g1]? = some (.cells #[.slice A0 l0.length c0] 22 (0, 0))) ∧ Aside0 (wr.heap[g2]? = some (.cells weekL.toArray 51 (0, 0))) ∧ Aside0 (Below w.heap.size w wr)) (fun _ v11 _ => (73050 - intOf v11).toNat)
    case atStart => exact ⟨0, a1, by omega, by omega, by omega, by omega, rfl, rfl, HRES, H1, H2, HB3⟩
    case round =>
      clear HRES H1 H2 HB3
      obtain ⟨n, d, hda, hdb, hn0, hnd, rfl, rfl, HRES, H1, H2, HB⟩ := hrel
      by_cases hle : d ≤ a2
      · have hdl : decide (d ≤ a2) = true := decide_eq_true hle
        have hr := HRES.out
        rw [show (a2 - d + 1).toNat = (a2 - (d + 1) + 1).toNat + 1 by omega, cntGo] at hr
        have HWD := Aside0.mk (HW.out wr d g1 g2 HB.out H1.out H2.out)
        cases hb : workV l0 d with
        | true =>
          rw [hb] at HWD
          rw [hb, if_pos rfl] at hr
          have HR := Aside0.mk hr
          clear hb hr HRES
          go_wp2_with fail
          refine HWD.out.mono ?_
          rintro e w5 ⟨rfl, hb⟩
          have HB5 := Aside0.mk (below_step HB.out hb)
          have H15 := Aside0.mk (blk_below H1.out hb)
          have H25 := Aside0.mk (blk_below H2.out hb)
          clear hb HB H1 H2 HWD
          go_wp2
          go_roundw
          case measure => show _ < _; simp [intOf]; omega
          case rel => exact ⟨n + 1, d + 1, by omega, by omega, by omega, by omega, rfl, rfl, HR, H15, H25, HB5⟩
        | false =>
          rw [hb] at HWD
          rw [hb, if_neg (by decide)] at hr
          have HR := Aside0.mk hr
          clear hb hr HRES
          go_wp2_with fail
          refine HWD.out.mono ?_
          rintro e w5 ⟨rfl, hb⟩
          have HB5 := Aside0.mk (below_step HB.out hb)
          have H15 := Aside0.mk (blk_below H1.out hb)
          have H25 := Aside0.mk (blk_below H2.out hb)
          clear hb HB H1 H2 HWD
          go_wp2
          go_roundw
          case measure => show _ < _; simp [intOf]; omega
          case rel => exact ⟨n, d + 1, by omega, by omega, by omega, by omega, rfl, rfl, HR, H15, H25, HB5⟩
      · have hdl : decide (d ≤ a2) = false := decide_eq_false hle
        have hr := HRES.out
        rw [show (a2 - d + 1).toNat = 0 by omega, cntGo] at hr
        subst hr
        go_wp2_with fail
        go_ret2
        exact ⟨rfl, HB.out⟩
  · rw [if_neg hz] at h
    simp only [Prod.mk.injEq] at h
    obtain ⟨rfl, rfl⟩ := h
    have dz : (chk2 l0 [a1, a2] != 0) = true := bne_iff_ne.2 hz
    generalize chk2 l0 [a1, a2] = e0 at *
    clear hr0 hz
    go_enter Tryd.func23, Tryd.ntmps23
    go_wp2_with (go_at_call 29; (with_reducible refine (HCALL.out _ (Below.refl _ _)).mono ?_); rintro e w2 ⟨rfl, hd⟩; have HB := Aside0.mk (below_step (below_alloc (Below.refl _ _) _) hd.below); clear hd)
    go_ret2
    exact ⟨rfl, HB.out⟩

/-! ### date_Leap: function 51 -/
def date_Leap.f (a0 : Int) : Option (Bool) := if (Int.tmod a0 4) = 0 then (if (Int.tmod a0 100) = 0 then (some ((Int.tmod a0 400) == 0)) else (some true)) else (some ((Int.tmod a0 400) == 0))
set_option maxHeartbeats 8000000 in
set_option maxRecDepth 100000 in
theorem date_Leap.calls (a0 : Int) (r : Bool) (w : World) (h : date_Leap.f a0 = some r) :
    Calls Tryd.prog 51 #[.int .i64 a0] w fun e w' => e = .returned (.bool r) ∧ Drawn0 w w' := by
  have H : (if (Int.tmod a0 4) = 0 then (if (Int.tmod a0 100) = 0 then (some ((Int.tmod a0 400) == 0)) else (some true)) else (some ((Int.tmod a0 400) == 0))) = some r := h
  clear h
  by_cases c2 : (Int.tmod a0 4) = 0
  · rw [if_pos c2] at H
    have c2b0 : ((Int.tmod a0 4) == 0) = true := beq_iff_eq.mpr c2
    have c2b1 : ((Int.tmod a0 4) != 0) = false := bne_eq_false_iff_eq.mpr c2
    clear c2
    by_cases c3 : (Int.tmod a0 100) = 0
    · rw [if_pos c3] at H
      have c3b0 : ((Int.tmod a0 100) == 0) = true := beq_iff_eq.mpr c3
      have c3b1 : ((Int.tmod a0 100) != 0) = false := bne_eq_false_iff_eq.mpr c3
      clear c3
      obtain rfl := Option.some.inj H
      go_enter Tryd.func51, Tryd.ntmps51
      go_wp2
      go_ret
      exact ⟨by first | rfl | (simp; done) | (simp [*]; done), by repeat (first | exact Drawn0.refl _ | apply Drawn0.step)⟩
    · rw [if_neg c3] at H
      have c3b0 : ((Int.tmod a0 100) == 0) = false := beq_eq_false_iff_ne.mpr c3
      have c3b1 : ((Int.tmod a0 100) != 0) = true := bne_iff_ne.mpr c3
      obtain rfl := Option.some.inj H
      go_enter Tryd.func51, Tryd.ntmps51
      go_wp2
      go_ret
      exact ⟨by first | rfl | (simp; done) | (simp [*]; done), by repeat (first | exact Drawn0.refl _ | apply Drawn0.step)⟩
  · rw [if_neg c2] at H
    have c2b0 : ((Int.tmod a0 4) == 0) = false := beq_eq_false_iff_ne.mpr c2
    have c2b1 : ((Int.tmod a0 4) != 0) = true := bne_iff_ne.mpr c2
    obtain rfl := Option.some.inj H
    go_enter Tryd.func51, Tryd.ntmps51
    go_wp2
    go_ret
    exact ⟨by first | rfl | (simp; done) | (simp [*]; done), by repeat (first | exact Drawn0.refl _ | apply Drawn0.step)⟩

-- NOT PRINTED: function 52 (date_month_1)

-- NOT PRINTED: function 46 (date_month)

/-! ### date_Days: function 44 -/
def longL : List Int := [0, 31, 28, 31, 30, 31, 30, 31, 31, 30, 31, 30, 31]
def LongAt (w : World) : Prop := ∀ j : Nat, j < 13 → w.cell? ⟨0, j, none⟩ = some (.int .i64 (longL.getD j 0))
theorem LongAt.below {w w' : World} (h : LongAt w) (hb : Below w.heap.size w w') : LongAt w' := fun j hj => (hb.cell (World.block_lt_of_cell? _ _ (h j hj))).trans (h j hj)
theorem LongAt.drewN {w : World} (h : LongAt w) (n : Nat) : LongAt (w.drewN n) := h.below (pw_below_drewN (Below.refl _ _) n)
theorem LongAt.drew {w : World} (h : LongAt w) : LongAt w.drew := h.below (below_drew (Below.refl _ _))
theorem LongAt.alloc {w : World} (h : LongAt w) (o : Obj) : LongAt (w.alloc o) := h.below (below_alloc (Below.refl _ _) o)
theorem LongAt.aside {w : World} (h : Aside0 (LongAt w)) : LongAt w := h.out
theorem LongAt.after {w w' : World} (h : LongAt w) (hb : Aside0 (Below w.heap.size w w')) : LongAt w' := h.below hb.out
def leapV (y : Int) : Bool := (date_Leap.f y).getD false
theorem leap_val (y : Int) : date_Leap.f y = some (leapV y) := by
  unfold leapV date_Leap.f
  split
  · split <;> rfl
  · rfl
def dl (b : Bool) (m : Int) : Int := if m = 2 ∧ b = true then 29 else longL.getD m.toNat 0
def dlen (y m : Int) : Int := if m < 1 ∨ m > 12 then 0 else dl (leapV y) m
def date_Days.f (a0 a1 : Int) : Option Int := some (dlen a0 a1)
set_option maxHeartbeats 4000000 in
set_option maxRecDepth 100000 in
theorem month_any (y : Int) (w : World) :
    Calls Tryd.prog 46 #[.int .i64 y] w fun e w' => ∃ gt : Nat, e = .returned (.func (.func 52) #[] #[.pointer (some ⟨gt, 0, none⟩)]) ∧ w.heap.size ≤ gt ∧ w'.heap[gt]? = some (.cells #[.bool (leapV y)] 4 (0, 0)) ∧ Below w.heap.size w w' := by
  have hmf : ∀ (fn : Fn) (first cap : Array Value) (w : World), (Instr.makeFunc fn first cap).run Tryd.prog w = .ok (.func fn first cap) w := fun _ _ _ _ => rfl
  have HL := Aside0.mk (leap_val y)
  generalize leapV y = b at *
  go_enter Tryd.func46, Tryd.ntmps46
  go_wp2_with (go_at_call 51; (with_reducible refine (date_Leap.calls y b _ HL.out).mono ?_); rintro e w' ⟨rfl, hd⟩; have HD := Aside0.mk hd; clear hd)
  go_ret
  exact ⟨_, rfl, HD.out.below.size, blk_new _ _, below_alloc HD.out.below _⟩
set_option maxHeartbeats 4000000 in
set_option maxRecDepth 100000 in
theorem month1_any (m : Int) (b : Bool) (gt : Nat) (w : World) (hm : 1 ≤ m) (hm2 : m ≤ 12) (hL : LongAt w) (hg : w.heap[gt]? = some (.cells #[.bool b] 4 (0, 0))) :
    Calls Tryd.prog 52 #[.int .i64 m, .pointer (some ⟨gt, 0, none⟩)] w fun e w' => e = .returned (.int .i64 (dl b m)) ∧ Below w.heap.size w w' := by
  have hc := blk_cell hg 0
  have hcx : w.cell? ⟨gt, 0, none⟩ = some (.bool b) := hc.trans rfl
  have hl := hL m.toNat (by omega)
  clear hc hg hL
  by_cases h2 : m = 2 ∧ b = true
  · obtain ⟨rfl, rfl⟩ := h2
    rw [show dl true 2 = 29 from rfl]
    clear hl
    go_enter Tryd.func52, Tryd.ntmps52
    go_wp2
    go_ret
    exact ⟨rfl, by first | exact Below.refl _ _ | exact pw_below_drewN (Below.refl _ _) _⟩
  · rw [show dl b m = longL.getD m.toNat 0 from if_neg h2]
    generalize longL.getD m.toNat 0 = v at *
    by_cases h3 : m = 2
    · subst h3
      have hb : b = false := by cases b <;> simp_all
      subst hb
      have hl2 : w.cell? ⟨0, 2, none⟩ = some (.int .i64 v) := hl
      clear h2 hl
      go_enter Tryd.func52, Tryd.ntmps52
      go_wp2
      go_ret
      exact ⟨rfl, by first | exact Below.refl _ _ | exact pw_below_drewN (Below.refl _ _) _⟩
    · have h4 : (m == 2) = false := beq_eq_false_iff_ne.2 h3
      clear h2 h3
      go_enter Tryd.func52, Tryd.ntmps52
      go_wp2
      go_ret
      exact ⟨rfl, by first | exact Below.refl _ _ | exact pw_below_drewN (Below.refl _ _) _⟩

set_option maxHeartbeats 4000000 in
set_option maxRecDepth 100000 in
theorem days_in (y m : Int) (w : World) (hm : 1 ≤ m) (hm2 : m ≤ 12) (hL : LongAt w) :
    Calls Tryd.prog 44 #[.int .i64 y, .int .i64 m] w fun e w' => e = .returned (.int .i64 (dl (leapV y) m)) ∧ Below w.heap.size w w' := by
  have d1 : decide (m < 1) = false := decide_eq_false (by omega)
  have d2 : decide (12 < m) = false := decide_eq_false (by omega)
  have HL := Aside0.mk hL
  have H1 := Aside0.mk hm
  have H2 := Aside0.mk hm2
  clear hL hm hm2
  go_enter Tryd.func44, Tryd.ntmps44
  go_wp2_with fail
  refine (month_any y _).mono ?_
  rintro e w1 ⟨gt, rfl, hg0, hgt, hb⟩
  have HB := Aside0.mk hb
  have HG := Aside0.mk hgt
  clear hb hgt hg0
  go_wp2_with fail
  refine (month1_any m (leapV y) gt _ H1.out H2.out (HL.out.below HB.out) HG.out).mono ?_
  rintro e w2 ⟨rfl, hb⟩
  have HB2 := Aside0.mk (below_step HB.out hb)
  clear hb
  go_wp2
  go_ret
  exact ⟨rfl, HB2.out⟩
set_option maxHeartbeats 4000000 in
set_option maxRecDepth 100000 in
theorem days_out (y m : Int) (w : World) (h : m < 1 ∨ m > 12) :
    Calls Tryd.prog 44 #[.int .i64 y, .int .i64 m] w fun e w' => e = .returned (.int .i64 0) ∧ Below w.heap.size w w' := by
  by_cases h1 : m < 1
  · have d1 : decide (m < 1) = true := decide_eq_true h1
    clear h h1
    go_enter Tryd.func44, Tryd.ntmps44
    go_wp2_with fail
    go_ret
    exact ⟨rfl, Below.refl _ _⟩
  · have d1 : decide (m < 1) = false := decide_eq_false h1
    have d2 : decide (12 < m) = true := decide_eq_true (by omega)
    clear h h1
    go_enter Tryd.func44, Tryd.ntmps44
    go_wp2_with fail
    go_ret
    exact ⟨rfl, Below.refl _ _⟩
theorem date_Days.calls (a0 a1 r : Int) (w : World) (hL : LongAt w) (h : date_Days.f a0 a1 = some r) :
    Calls Tryd.prog 44 #[.int .i64 a0, .int .i64 a1] w fun e w' => e = .returned (.int .i64 r) ∧ Below w.heap.size w w' := by
  unfold date_Days.f dlen at h
  obtain rfl := Option.some.inj h
  by_cases hm : a1 < 1 ∨ a1 > 12
  · rw [if_pos hm]; exact days_out a0 a1 w hm
  · rw [if_neg hm]; exact days_in a0 a1 w (by omega) (by omega) hL

-- NOT PRINTED: function 50 (date_start_1)

-- NOT PRINTED: function 45 (date_start)

/-! ### date_Of: function 37 -/
def startD (y : Int) : Int := 365 * (y - 2000) + ((y - 1) / 4 - (y - 1) / 100 + (y - 1) / 400) - 484
def msum (b : Bool) : Nat → Int
  | 0 => 0
  | n + 1 => msum b n + dl b ((n : Int) + 1)
def date_Of.f (a0 a1 a2 : Int) : Option (Int × Int) := some (if a0 < 2000 ∨ a0 > 2199 ∨ a2 < 1 ∨ a2 > dlen a0 a1 then (0, 15) else (startD a0 + a2 - 1 + msum (leapV a0) (a1.toNat - 1), 0))
theorem drawn0_tr {a b c : World} (h : Drawn0 a b) (k : Drawn0 b c) : Drawn0 a c := by
  obtain ⟨n, rfl⟩ := h
  obtain ⟨m, rfl⟩ := k
  exact ⟨n + m, by rw [World.drewN_drewN]⟩
theorem dl_range (b : Bool) (m : Int) (h : 1 ≤ m) (h2 : m ≤ 12) : 28 ≤ dl b m ∧ dl b m ≤ 31 := by
  have : m = 1 ∨ m = 2 ∨ m = 3 ∨ m = 4 ∨ m = 5 ∨ m = 6 ∨ m = 7 ∨ m = 8 ∨ m = 9 ∨ m = 10 ∨ m = 11 ∨ m = 12 := by omega
  rcases this with rfl | rfl | rfl | rfl | rfl | rfl | rfl | rfl | rfl | rfl | rfl | rfl <;> cases b <;> decide
theorem msum_range (b : Bool) (n : Nat) (h : n ≤ 12) : 0 ≤ msum b n ∧ msum b n ≤ 31 * n := by
  induction n with
  | zero => simp [msum]
  | succ n ih =>
    have h1 := ih (by omega)
    have h2 := dl_range b ((n : Int) + 1) (by omega) (by omega)
    simp only [msum]; omega
set_option maxHeartbeats 4000000 in
set_option maxRecDepth 100000 in
theorem start1_any (y : Int) (w : World) (h : 0 ≤ y) (h2 : y ≤ 3000) :
    Calls Tryd.prog 50 #[.int .i64 y] w fun e w' => e = .returned (.int .i64 (y / 4 - y / 100 + y / 400)) ∧ Drawn0 w w' := by
  go_enter Tryd.func50, Tryd.ntmps50
  go_wp2
  go_ret
  exact ⟨by first | rfl | (congr 2; unfold wrap64; omega), by repeat (first | exact Drawn0.refl _ | apply Drawn0.step)⟩
set_option maxHeartbeats 4000000 in
set_option maxRecDepth 100000 in
theorem start_any (y : Int) (w : World) (h : 2000 ≤ y) (h2 : y ≤ 2200) :
    Calls Tryd.prog 45 #[.int .i64 y] w fun e w' => e = .returned (.int .i64 (startD y)) ∧ Drawn0 w w' := by
  unfold startD
  go_enter Tryd.func45, Tryd.ntmps45
  go_wp2_with fail
  refine (start1_any (y - 1) _ (by omega) (by omega)).mono ?_
  rintro e w1 ⟨rfl, hd⟩
  have HD := Aside0.mk hd
  clear hd
  go_wp2_with fail
  refine (start1_any 1999 _ (by omega) (by omega)).mono ?_
  rintro e w2 ⟨rfl, hd⟩
  have HD2 := Aside0.mk (drawn0_tr HD.out hd)
  clear hd
  go_wp2
  go_ret
  exact ⟨congrArg (fun x => Ending.returned (Value.int .i64 x)) (by omega), HD2.out⟩
set_option maxHeartbeats 4000000 in
set_option maxRecDepth 100000 in
theorem of_bad (y m d : Int) (w : World) (hL : LongAt w) (h : y < 2000 ∨ y > 2199 ∨ d < 1 ∨ d > dlen y m) :
    Calls Tryd.prog 37 #[.int .i64 y, .int .i64 m, .int .i64 d] w fun e w' => e = .returned (.tuple #[.int .i64 0, .int .i64 15]) ∧ Below w.heap.size w w' := by
  by_cases h1 : y < 2000
  · have d1 : decide (y < 2000) = true := decide_eq_true h1
    clear h h1 hL
    go_enter Tryd.func37, Tryd.ntmps37
    go_wp2_with fail
    go_ret2
    exact ⟨rfl, Below.refl _ _⟩
  have d1 : decide (y < 2000) = false := decide_eq_false h1
  by_cases h2 : y > 2199
  · have d2 : decide (2199 < y) = true := decide_eq_true h2
    clear h h1 h2 hL
    go_enter Tryd.func37, Tryd.ntmps37
    go_wp2_with fail
    go_ret2
    exact ⟨rfl, Below.refl _ _⟩
  have d2 : decide (2199 < y) = false := decide_eq_false h2
  by_cases h3 : d < 1
  · have d3 : decide (d < 1) = true := decide_eq_true h3
    clear h h1 h2 h3 hL
    go_enter Tryd.func37, Tryd.ntmps37
    go_wp2_with fail
    go_ret2
    exact ⟨rfl, Below.refl _ _⟩
  have d3 : decide (d < 1) = false := decide_eq_false h3
  have h4 : d > dlen y m := by omega
  have HV := Aside0.mk (show date_Days.f y m = some (dlen y m) from rfl)
  generalize dlen y m = n at *
  have d4 : decide (n < d) = true := decide_eq_true h4
  have HL := Aside0.mk hL
  clear h h1 h2 h3 h4 hL
  go_enter Tryd.func37, Tryd.ntmps37
  go_wp2_with (go_at_call 44; (with_reducible refine (date_Days.calls y m n _ HL.out HV.out).mono ?_); rintro e w' ⟨rfl, hb⟩; have HB := Aside0.mk hb; clear hb)
  go_ret2
  exact ⟨rfl, HB.out⟩
set_option maxHeartbeats 4000000 in
set_option maxRecDepth 100000 in
theorem of_good (y m d : Int) (w : World) (hL : LongAt w) (h1 : 2000 ≤ y) (h2 : y ≤ 2199) (h3 : 1 ≤ d) (h4 : d ≤ dl (leapV y) m) (h5 : 1 ≤ m) (h6 : m ≤ 12) :
    Calls Tryd.prog 37 #[.int .i64 y, .int .i64 m, .int .i64 d] w fun e w' => e = .returned (.tuple #[.int .i64 (startD y + d - 1 + msum (leapV y) (m.toNat - 1)), .int .i64 0]) ∧ Below w.heap.size w w' := by
  have d1 : decide (y < 2000) = false := decide_eq_false (by omega)
  have d2 : decide (2199 < y) = false := decide_eq_false (by omega)
  have d3 : decide (d < 1) = false := decide_eq_false (by omega)
  have hdl := (dl_range (leapV y) m h5 h6).2
  have hs1 : -1000 ≤ startD y := by unfold startD; omega
  have hs2 : startD y ≤ 100000 := by unfold startD; omega
  have hv : date_Days.f y m = some (dl (leapV y) m) := by
    unfold date_Days.f dlen
    rw [if_neg (by omega)]
  have hd1 : d ≤ 31 := by omega
  have d4 : decide (dl (leapV y) m < d) = false := decide_eq_false (by omega)
  have hmo : ∀ W : World, Calls Tryd.prog 46 #[.int .i64 y] W fun e w' => ∃ gt : Nat, e = .returned (.func (.func 52) #[] #[.pointer (some ⟨gt, 0, none⟩)]) ∧ W.heap.size ≤ gt ∧ w'.heap[gt]? = some (.cells #[.bool (leapV y)] 4 (0, 0)) ∧ Below W.heap.size W w' := fun W => month_any y W
  have hst : ∀ W : World, Calls Tryd.prog 45 #[.int .i64 y] W fun e w' => e = .returned (.int .i64 (startD y)) ∧ Drawn0 W w' := fun W => start_any y W h1 (by omega)
  generalize dl (leapV y) m = n at *
  generalize leapV y = b at *
  generalize startD y = s at *
  have HV := Aside0.mk hv
  have HL := Aside0.mk hL
  have HM := Aside0.mk hmo
  have HS := Aside0.mk hst
  have H5 := Aside0.mk h5
  have H6 := Aside0.mk h6
  clear hL h1 h2 h4 hv hdl hmo hst
  go_enter Tryd.func37, Tryd.ntmps37
  go_wp2_with (first | (go_at_call 44; (with_reducible refine (date_Days.calls y m n _ HL.out HV.out).mono ?_); rintro e w' ⟨rfl, hb⟩; have HB := Aside0.mk hb; clear hb) | (go_at_call 45; (with_reducible refine (HS.out _).mono ?_); rintro e w2 ⟨rfl, hd⟩; have HB2 := Aside0.mk (HB.out.trans (hd.below.mono HB.out.size)); clear hd))
  refine (HM.out _).mono ?_
  rintro e w3 ⟨gt, rfl, hg0, hgt, hb⟩
  have HB3 := Aside0.mk (below_step HB2.out hb)
  have HG := Aside0.mk hgt
  clear hb hgt hg0
  go_wp2_with fail
  go_loopw [6, 9] (fun v6 v9 wr => ∃ (k : Nat), 1 ≤ k ∧ (k : Int) ≤ m ∧ v9 = .int .i64 (k : Int) ∧ v6 = .int .i64 (s + d - 1 + msum b (k - 1)) ∧ Aside0 (wr.heap[gt]? = some (.cells #[.bool b] 4 (0, 0))) ∧ Aside0 (Below w.heap.size w wr)) (fun _ v9 _ => m.toNat - (intOf v9).toNat)
  case atStart => exact ⟨1, by omega, by have := H5.out; omega, rfl, by simp [msum], HG, HB3⟩
  case round =>
    clear HB3 HG HB2 HB
    obtain ⟨k, hk1, hk2, rfl, rfl, HG, HB⟩ := hrel
    by_cases hlt : (k : Int) < m
    · have hr := msum_range b (k - 1) (by have := H6.out; omega)
      have hr2 := dl_range b (k : Int) (by omega) (by have := H6.out; omega)
      have hms : msum b (k + 1 - 1) = msum b (k - 1) + dl b (k : Int) := by
        obtain ⟨j, rfl⟩ : ∃ j, k = j + 1 := ⟨k - 1, by omega⟩
        simp [msum]
      have HMS := Aside0.mk hms
      clear hms
      generalize msum b (k - 1) = q at *
      have hq : q ≤ 400 := by have := H6.out; omega
      go_wp2_with fail
      refine (month1_any (k : Int) b gt _ (by omega) (by have := H6.out; omega) (HL.out.below HB.out) HG.out).mono ?_
      rintro e w4 ⟨rfl, hb⟩
      have HB4 := Aside0.mk (below_step HB.out hb)
      have HG4 := Aside0.mk (blk_below HG.out hb)
      clear hb HG HB
      have HQ := Aside0.mk hr2
      generalize dl b (k : Int) = z at *
      obtain ⟨hz1, hz2⟩ := hr2
      go_wp2
      go_roundw
      case measure => show _ < _; simp [intOf]; omega
      case rel => exact ⟨k + 1, by omega, by omega, by go_num, by rw [HMS.out]; congr 1; omega, HG4, HB4⟩
    · have hkm : (k : Int) = m := by omega
      have hkn : k - 1 = m.toNat - 1 := by omega
      rw [hkn] at *
      go_wp2
      go_ret2
      exact ⟨rfl, HB.out⟩
theorem date_Of.calls (a0 a1 a2 r1 r2 : Int) (w : World) (hL : LongAt w) (h : date_Of.f a0 a1 a2 = some (r1, r2)) :
    Calls Tryd.prog 37 #[.int .i64 a0, .int .i64 a1, .int .i64 a2] w fun e w' => e = .returned (.tuple #[.int .i64 r1, .int .i64 r2]) ∧ Below w.heap.size w w' := by
  unfold date_Of.f at h
  have h := Option.some.inj h
  by_cases hc : a0 < 2000 ∨ a0 > 2199 ∨ a2 < 1 ∨ a2 > dlen a0 a1
  · rw [if_pos hc] at h
    simp only [Prod.mk.injEq] at h
    obtain ⟨rfl, rfl⟩ := h
    exact of_bad a0 a1 a2 w hL hc
  · rw [if_neg hc] at h
    simp only [Prod.mk.injEq] at h
    obtain ⟨rfl, rfl⟩ := h
    have hm : ¬ (a1 < 1 ∨ a1 > 12) := by
      intro hm
      have : dlen a0 a1 = 0 := by unfold dlen; rw [if_pos hm]
      omega
    have hd : dlen a0 a1 = dl (leapV a0) a1 := by unfold dlen; rw [if_neg hm]
    rw [hd] at hc
    exact of_good a0 a1 a2 w hL (by omega) (by omega) (by omega) (by omega) (by omega) (by omega)

/-! ### date_Nth: function 28 -/
def date_Nth.j0 : Nat → Int → Int → Int → Int → Bool → Option (Int × Int)
  | 0, _, _, _, _, _ => none
  | k + 1, x0, x1, x2, x3, x24 => if x24 = true then (some (0, 2)) else ((date_Of.f x0 x1 1).bind fun bt124 => (if bt124.2 = 0 then ((date_Weekday.f bt124.1).bind fun t126 => ((date_Of.f x0 x1 (wrap64 ((wrap64 (1 + (Int.tmod (wrap64 ((wrap64 (x2 - t126)) + 7)) 7))) + (wrap64 (7 * (wrap64 (x3 - 1))))))).bind fun bt127 => (some (bt127.1, bt127.2)))) else (some (0, bt124.2))))
def date_Nth.f (k : Nat) (a0 : Int) (a1 : Int) (a2 : Int) (a3 : Int) : Option (Int × Int) := if a2 < 1 then (date_Nth.j0 k a0 a1 a2 a3 true) else (if a2 > 7 then (date_Nth.j0 k a0 a1 a2 a3 true) else (if a3 < 1 then (date_Nth.j0 k a0 a1 a2 a3 true) else (date_Nth.j0 k a0 a1 a2 a3 (decide (a3 > 5)))))
theorem date_Nth.mono_l : ∀ k, (∀ y0 y1 y2 y3 y4, LeO (date_Nth.j0 k y0 y1 y2 y3 y4) (date_Nth.j0 (k + 1) y0 y1 y2 y3 y4))
  | 0 => fun _ _ _ _ _ r h => by simp [date_Nth.j0] at h
  | k + 1 => by
    have ih0 := date_Nth.mono_l k
    · intro y0 y1 y2 y3 y4
      unfold date_Nth.j0
      repeat' first
      | (with_reducible exact ih0 _ _ _ _ _)
      | (with_reducible exact LeO.refl _)
      | (with_reducible exact LeO.none _)
      | (with_reducible refine LeO.ite ?_ ?_)
      | (with_reducible refine LeO.bind ?_ (fun _ => ?_))
      | exact ih0 _ _ _ _ _
      | exact LeO.none _
      | refine LeO.ite ?_ ?_
      | refine LeO.bind ?_ (fun _ => ?_)
theorem date_Nth.mono : ∀ a0 a1 a2 a3 k, LeO (date_Nth.f k a0 a1 a2 a3) (date_Nth.f (k + 1) a0 a1 a2 a3) := by
  intro a0 a1 a2 a3 k
  have ih0 := date_Nth.mono_l k
  unfold date_Nth.f
  repeat' first
      | (with_reducible exact ih0 _ _ _ _ _)
      | (with_reducible exact LeO.refl _)
      | (with_reducible exact LeO.none _)
      | (with_reducible refine LeO.ite ?_ ?_)
      | (with_reducible refine LeO.bind ?_ (fun _ => ?_))
      | exact ih0 _ _ _ _ _
      | exact LeO.none _
      | refine LeO.ite ?_ ?_
      | refine LeO.bind ?_ (fun _ => ?_)
set_option maxHeartbeats 8000000 in
set_option maxRecDepth 100000 in
theorem date_Nth.calls (k : Nat) (a0 : Int) (a1 : Int) (a2 : Int) (a3 : Int) (r1 : Int) (r2 : Int) (w : World) (hL : LongAt w) (h : date_Nth.f k a0 a1 a2 a3 = some (r1, r2)) :
    Calls Tryd.prog 28 #[.int .i64 a0, .int .i64 a1, .int .i64 a2, .int .i64 a3] w fun e w' => e = .returned (.tuple #[.int .i64 r1, .int .i64 r2]) ∧ Below w.heap.size w w' := by
  have HLONG := Aside0.mk hL
  clear hL
  have HB := Aside0.mk (Below.refl w.heap.size w)
  have H : (if a2 < 1 then (date_Nth.j0 k a0 a1 a2 a3 true) else (if a2 > 7 then (date_Nth.j0 k a0 a1 a2 a3 true) else (if a3 < 1 then (date_Nth.j0 k a0 a1 a2 a3 true) else (date_Nth.j0 k a0 a1 a2 a3 (decide (a3 > 5)))))) = some (r1, r2) := h
  clear h
  have HC5 := Aside0.mk H
  clear H
  go_enter Tryd.func28, Tryd.ntmps28
  go_upto_region 1 with (fail)
  go_cut [24] (fun v24 wc => ∃ (kq : Nat) (x24_4 : Bool), v24 = .bool x24_4 ∧ Aside0 (date_Nth.j0 kq a0 a1 a2 a3 x24_4 = some (r1, r2)) ∧ Aside0 (kq ≤ k) ∧ Aside0 (Below w.heap.size w wc))
  case first =>
    have H := HC5.out
    clear HC5
    by_cases c6 : a2 < 1
    · rw [if_pos c6] at H
      have c6b0 : decide (a2 < 1) = true := decide_eq_true c6
      clear c6
      (first | rw [c6b0] | (simp only [i64_w, i32_w]; rw [c6b0]) | skip)
      have H' := Aside0.mk H
      clear H
      go_wp2
      go_meet
      case rel => exact ⟨_, (true), (by first | rfl | (simp; done) | (simp [*]; done)), H', ⟨by first | omega | exact Nat.le_refl _⟩, ⟨by repeat (first | (with_reducible first | exact HB.out | apply below_alloc | apply pw_below_drewN | apply below_drew1) | exact HB.out)⟩⟩
    · rw [if_neg c6] at H
      have c6b0 : decide (a2 < 1) = false := decide_eq_false c6
      clear c6
      (first | rw [c6b0] | (simp only [i64_w, i32_w]; rw [c6b0]) | skip)
      by_cases c7 : a2 > 7
      · rw [if_pos c7] at H
        have c7b0 : decide (7 < a2) = true := decide_eq_true c7
        clear c7
        have H' := Aside0.mk H
        clear H
        go_wp2
        go_meet
        case rel => exact ⟨_, (true), (by first | rfl | (simp; done) | (simp [*]; done)), H', ⟨by first | omega | exact Nat.le_refl _⟩, ⟨by repeat (first | (with_reducible first | exact HB.out | apply below_alloc | apply pw_below_drewN | apply below_drew1) | exact HB.out)⟩⟩
      · rw [if_neg c7] at H
        have c7b0 : decide (7 < a2) = false := decide_eq_false c7
        clear c7
        by_cases c8 : a3 < 1
        · rw [if_pos c8] at H
          have c8b0 : decide (a3 < 1) = true := decide_eq_true c8
          clear c8
          have H' := Aside0.mk H
          clear H
          go_wp2
          go_meet
          case rel => exact ⟨_, (true), (by first | rfl | (simp; done) | (simp [*]; done)), H', ⟨by first | omega | exact Nat.le_refl _⟩, ⟨by repeat (first | (with_reducible first | exact HB.out | apply below_alloc | apply pw_below_drewN | apply below_drew1) | exact HB.out)⟩⟩
        · rw [if_neg c8] at H
          have c8b0 : decide (a3 < 1) = false := decide_eq_false c8
          clear c8
          have H' := Aside0.mk H
          clear H
          go_wp2
          go_meet
          case rel => exact ⟨_, (decide (a3 > 5)), (by first | rfl | (simp; done) | (simp [*]; done)), H', ⟨by first | omega | exact Nat.le_refl _⟩, ⟨by repeat (first | (with_reducible first | exact HB.out | apply below_alloc | apply pw_below_drewN | apply below_drew1) | exact HB.out)⟩⟩
  case rest =>
    clear HC5
    try clear c2
    try clear p2
    try clear c6
    try clear c6b0
    try clear c7
    try clear c7b0
    try clear c8
    try clear c8b0
    obtain ⟨kq, x24_4, rfl, HA, HJ4, HB⟩ := hcut
    cases kq with
    | zero => exact absurd HA.out (by simp [date_Nth.j0])
    | succ kj4 =>
      have H := HA.out
      clear HA
      simp only [date_Nth.j0] at H
      by_cases c9 : x24_4 = true
      · subst c9
        have H1 : (some (0, 2)) = some (r1, r2) := by rw [if_pos rfl] at H; exact H
        clear H
        have H := H1
        clear H1
        simp only [Option.some.injEq, Prod.mk.injEq] at H
        obtain ⟨rfl, rfl⟩ := H
        go_wp2
        go_ret2
        exact ⟨by first | rfl | (simp [errW_none, errW_some] <;> rfl) | (simp [*, errW_none, errW_some] <;> rfl), by repeat (first | (with_reducible first | exact HB.out | apply below_alloc | apply pw_below_drewN | apply below_drew1) | exact HB.out)⟩
      · replace c9 := Bool.eq_false_iff.mpr c9
        subst c9
        have H1 : ((date_Of.f a0 a1 1).bind fun bt124 => (if bt124.2 = 0 then ((date_Weekday.f bt124.1).bind fun t126 => ((date_Of.f a0 a1 (wrap64 ((wrap64 (1 + (Int.tmod (wrap64 ((wrap64 (a2 - t126)) + 7)) 7))) + (wrap64 (7 * (wrap64 (a3 - 1))))))).bind fun bt127 => (some (bt127.1, bt127.2)))) else (some (0, bt124.2)))) = some (r1, r2) := by rw [if_neg (show ¬ (false = true) by decide)] at H; exact H
        clear H
        have H := H1
        clear H1
        replace H := Option.bind_eq_some_iff.mp H
        obtain ⟨⟨t124, t125⟩, A100, H⟩ := H
        replace H : (if t125 = 0 then ((date_Weekday.f t124).bind fun t126 => ((date_Of.f a0 a1 (wrap64 ((wrap64 (1 + (Int.tmod (wrap64 ((wrap64 (a2 - t126)) + 7)) 7))) + (wrap64 (7 * (wrap64 (a3 - 1))))))).bind fun bt127 => (some (bt127.1, bt127.2)))) else (some (0, t125))) = some (r1, r2) := H
        have A10 := Aside0.mk A100
        clear A100
        by_cases c11 : t125 = 0
        · rw [if_pos c11] at H
          have c11b0 : (t125 == 0) = true := beq_iff_eq.mpr c11
          have c11b1 : (t125 != 0) = false := bne_eq_false_iff_eq.mpr c11
          clear c11
          replace H := Option.bind_eq_some_iff.mp H
          obtain ⟨t126, A120, H⟩ := H
          replace H : ((date_Of.f a0 a1 (wrap64 ((wrap64 (1 + (Int.tmod (wrap64 ((wrap64 (a2 - t126)) + 7)) 7))) + (wrap64 (7 * (wrap64 (a3 - 1))))))).bind fun bt127 => (some (bt127.1, bt127.2))) = some (r1, r2) := H
          have A12 := Aside0.mk A120
          clear A120
          replace H := Option.bind_eq_some_iff.mp H
          obtain ⟨⟨t127, t128⟩, A130, H⟩ := H
          replace H : (some (t127, t128)) = some (r1, r2) := H
          have A13 := Aside0.mk A130
          clear A130
          simp only [Option.some.injEq, Prod.mk.injEq] at H
          obtain ⟨rfl, rfl⟩ := H
          go_wp2_with (first | ((with_reducible refine gate_callee (f := 37) rfl ?_); refine goesL_ (some 28) rfl rfl Tryd.func37 (by kernel_rfl) rfl #[.int .i64 a0, .int .i64 a1, .int .i64 1] rfl (by (try simp only [List.map_toArray, List.map_cons, List.map_nil]); first | done | rfl | (simp only [List.length_drop, List.length_take]; rfl)) ?_; (with_reducible refine (date_Of.calls a0 a1 1 t124 t125 _ (by repeat (first | exact HLONG.out | exact LongAt.after HLONG.out (by assumption) | exact LongAt.below HLONG.out (by assumption) | apply LongAt.drewN | apply LongAt.drew | apply LongAt.alloc)) A10.out).mono ?_); rintro e w14 ⟨rfl, hb⟩; refine ⟨_, rfl, ?_⟩; have n0_ := Aside0.mk (below_step (by repeat (first | (with_reducible first | exact HB.out | apply below_alloc | apply pw_below_drewN | apply below_drew1) | exact HB.out)) hb); clear HB; have HB := n0_; clear n0_; (try clear hb); (try clear hb2); (try clear hk); (try clear hi)) | ((with_reducible refine gate_callee (f := 36) rfl ?_); refine goesL_ (some 36) rfl rfl Tryd.func36 (by kernel_rfl) rfl #[.int .i64 t124] rfl (by (try simp only [List.map_toArray, List.map_cons, List.map_nil]); first | done | rfl | (simp only [List.length_drop, List.length_take]; rfl)) ?_; (with_reducible refine (date_Weekday.calls t124 t126 _ A12.out).mono ?_); rintro e w' ⟨rfl, ⟨nd, rfl⟩⟩; refine ⟨_, rfl, ?_⟩) | ((with_reducible refine gate_callee (f := 37) rfl ?_); refine goesL_ (some 48) rfl rfl Tryd.func37 (by kernel_rfl) rfl #[.int .i64 a0, .int .i64 a1, .int .i64 (wrap64 ((wrap64 (1 + (Int.tmod (wrap64 ((wrap64 (a2 - t126)) + 7)) 7))) + (wrap64 (7 * (wrap64 (a3 - 1))))))] rfl (by (try simp only [List.map_toArray, List.map_cons, List.map_nil]); first | done | rfl | (simp only [List.length_drop, List.length_take]; rfl)) ?_; (with_reducible refine (date_Of.calls a0 a1 (wrap64 ((wrap64 (1 + (Int.tmod (wrap64 ((wrap64 (a2 - t126)) + 7)) 7))) + (wrap64 (7 * (wrap64 (a3 - 1)))))) t127 t128 _ (by repeat (first | exact HLONG.out | exact LongAt.after HLONG.out (by assumption) | exact LongAt.below HLONG.out (by assumption) | apply LongAt.drewN | apply LongAt.drew | apply LongAt.alloc)) A13.out).mono ?_); rintro e w15 ⟨rfl, hb⟩; refine ⟨_, rfl, ?_⟩; have n0_ := Aside0.mk (below_step (by repeat (first | (with_reducible first | exact HB.out | apply below_alloc | apply pw_below_drewN | apply below_drew1) | exact HB.out)) hb); clear HB; have HB := n0_; clear n0_; (try clear hb); (try clear hb2); (try clear hk); (try clear hi)))
          go_ret2
          exact ⟨by first | rfl | (simp [errW_none, errW_some] <;> rfl) | (simp [*, errW_none, errW_some] <;> rfl), by repeat (first | (with_reducible first | exact HB.out | apply below_alloc | apply pw_below_drewN | apply below_drew1) | exact HB.out)⟩
        · rw [if_neg c11] at H
          have c11b0 : (t125 == 0) = false := beq_eq_false_iff_ne.mpr c11
          have c11b1 : (t125 != 0) = true := bne_iff_ne.mpr c11
          simp only [Option.some.injEq, Prod.mk.injEq] at H
          obtain ⟨rfl, rfl⟩ := H
          go_wp2_with (first | ((with_reducible refine gate_callee (f := 37) rfl ?_); refine goesL_ (some 28) rfl rfl Tryd.func37 (by kernel_rfl) rfl #[.int .i64 a0, .int .i64 a1, .int .i64 1] rfl (by (try simp only [List.map_toArray, List.map_cons, List.map_nil]); first | done | rfl | (simp only [List.length_drop, List.length_take]; rfl)) ?_; (with_reducible refine (date_Of.calls a0 a1 1 t124 t125 _ (by repeat (first | exact HLONG.out | exact LongAt.after HLONG.out (by assumption) | exact LongAt.below HLONG.out (by assumption) | apply LongAt.drewN | apply LongAt.drew | apply LongAt.alloc)) A10.out).mono ?_); rintro e w16 ⟨rfl, hb⟩; refine ⟨_, rfl, ?_⟩; have n0_ := Aside0.mk (below_step (by repeat (first | (with_reducible first | exact HB.out | apply below_alloc | apply pw_below_drewN | apply below_drew1) | exact HB.out)) hb); clear HB; have HB := n0_; clear n0_; (try clear hb); (try clear hb2); (try clear hk); (try clear hi)))
          go_ret2
          exact ⟨by first | rfl | (simp [errW_none, errW_some] <;> rfl) | (simp [*, errW_none, errW_some] <;> rfl), by repeat (first | (with_reducible first | exact HB.out | apply below_alloc | apply pw_below_drewN | apply below_drew1) | exact HB.out)⟩

end Go.Proofs.YtgcefakbbmgbbaaDoor.PWorkdayExpires
