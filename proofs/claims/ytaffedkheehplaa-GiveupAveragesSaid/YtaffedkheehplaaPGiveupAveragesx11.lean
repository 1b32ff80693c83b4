/- Laid for this claim by a program of this session's (wip/mkprint.py, wip/ext.py); not trusted: Lean checks it. -/
import Derived.Test.YtaffedkheehplaaPGiveupAveragesx0
import Derived.Test.YtaffedkheehplaaPGiveupAveragesx3
import Derived.Test.YtaffedkheehplaaPGiveupAveragesx6
import Derived.Test.YtaffedkheehplaaPGiveupAveragesx8
import Derived.Test.YtaffedkheehplaaPGiveupAveragesx10
namespace Go.Proofs.Ytaffedkheehplaa.PGiveupAverages
open Go.RowKit Go.Proofs.YtaffedkheehplaaW.PrintWords Go.Proofs.YtaffedkheehplaaW.PrintLast Go.Proofs.YtaffedkheehplaaW.PrintMore
attribute [local go_sem] max2_int min2_int max_two min_two max_three min_three max_four min_four   -- for this text's walks alone
set_option linter.unusedVariables false
set_option linter.unusedSimpArgs false

/-! ### contangolaw14_GiveupAverages: function 3 -/
def contangolaw14_GiveupAverages.j0 : Nat → List (S42) → Int → List (S44) → Bool → Option (Bool)
  | 0, _, _, _, _ => none
  | k + 1, x0, x1, x2, x26 => if x26 = true then ((contangolaw14_goes.f k).bind fun t199 => (some t199)) else ((giveup_Average.f x0 x1).bind fun bt200 => ((contangoref14_Average.f k x0 x1).bind fun bt203 => ((giveup_Even.f k x0 x1 x2).bind fun bt206 => ((contangoref14_Even.f k x0 x1 x2).bind fun bt211 => (if bt200.1 = bt203.1 then (if bt200.2.1 = bt203.2.1 then (if bt200.2.2 = bt203.2.2 then (if bt206.1 = bt211.1 then ((contangoref14_Ints.f k bt206.2.1 bt211.2.1).bind fun t216 => (if t216 = true then (if bt206.2.2 = bt211.2.2 then ((contangolaw14_goes.f k).bind fun t217 => (some t217)) else (none)) else (none))) else (none)) else (none)) else (none)) else (none))))))
def contangolaw14_GiveupAverages.f (k : Nat) (l0 : List (S42)) (a1 : Int) (l2 : List (S44)) : Option (Bool) := if (l0.length : Int) > 1100 then (contangolaw14_GiveupAverages.j0 k l0 a1 l2 true) else (contangolaw14_GiveupAverages.j0 k l0 a1 l2 (decide ((l2.length : Int) > 1100)))
theorem contangolaw14_GiveupAverages.mono_l : ∀ k, (∀ y0 y1 y2 y3, LeO (contangolaw14_GiveupAverages.j0 k y0 y1 y2 y3) (contangolaw14_GiveupAverages.j0 (k + 1) y0 y1 y2 y3))
  | 0 => fun _ _ _ _ r h => by simp [contangolaw14_GiveupAverages.j0] at h
  | k + 1 => by
    have ih0 := contangolaw14_GiveupAverages.mono_l k
    · intro y0 y1 y2 y3
      unfold contangolaw14_GiveupAverages.j0
      repeat' first
      | (with_reducible exact ih0 _ _ _ _)
      | (with_reducible exact contangolaw14_goes.mono _)
      | (with_reducible exact contangoref14_Average.mono _ _ _)
      | (with_reducible exact contangoref14_Even.mono _ _ _ _)
      | (with_reducible exact contangoref14_Ints.mono _ _ _)
      | (with_reducible exact giveup_Even.mono _ _ _ _)
      | (with_reducible exact LeO.refl _)
      | (with_reducible exact LeO.none _)
      | (with_reducible refine LeO.ite ?_ ?_)
      | (with_reducible refine LeO.bind ?_ (fun _ => ?_))
      | exact ih0 _ _ _ _
      | exact contangolaw14_goes.mono _
      | exact contangoref14_Average.mono _ _ _
      | exact contangoref14_Even.mono _ _ _ _
      | exact contangoref14_Ints.mono _ _ _
      | exact giveup_Even.mono _ _ _ _
      | exact LeO.none _
      | refine LeO.ite ?_ ?_
      | refine LeO.bind ?_ (fun _ => ?_)
theorem contangolaw14_GiveupAverages.mono : ∀ a0 a1 a2 k, LeO (contangolaw14_GiveupAverages.f k a0 a1 a2) (contangolaw14_GiveupAverages.f (k + 1) a0 a1 a2) := by
  intro a0 a1 a2 k
  have ih0 := contangolaw14_GiveupAverages.mono_l k
  unfold contangolaw14_GiveupAverages.f
  repeat' first
      | (with_reducible exact ih0 _ _ _ _)
      | (with_reducible exact contangolaw14_goes.mono _)
      | (with_reducible exact contangoref14_Average.mono _ _ _)
      | (with_reducible exact contangoref14_Even.mono _ _ _ _)
      | (with_reducible exact contangoref14_Ints.mono _ _ _)
      | (with_reducible exact giveup_Even.mono _ _ _ _)
      | (with_reducible exact LeO.refl _)
      | (with_reducible exact LeO.none _)
      | (with_reducible refine LeO.ite ?_ ?_)
      | (with_reducible refine LeO.bind ?_ (fun _ => ?_))
      | exact ih0 _ _ _ _
      | exact contangolaw14_goes.mono _
      | exact contangoref14_Average.mono _ _ _
      | exact contangoref14_Even.mono _ _ _ _
      | exact contangoref14_Ints.mono _ _ _
      | exact giveup_Even.mono _ _ _ _
      | exact LeO.none _
      | refine LeO.ite ?_ ?_
      | refine LeO.bind ?_ (fun _ => ?_)
set_option maxHeartbeats 8000000 in
set_option maxRecDepth 100000 in
theorem contangolaw14_GiveupAverages.calls (k : Nat) (A0 : Option Addr) (c0 : Nat) (l0 : List (S42)) (a1 : Int) (A2 : Option Addr) (c2 : Nat) (l2 : List (S44)) (r : Bool) (w : World) (hr0 : Kd.C k42 w A0 l0.length l0) (hc0 : l0.length ≤ c0) (hr2 : Kd.C k44 w A2 l2.length l2) (hc2 : l2.length ≤ c2) (h : contangolaw14_GiveupAverages.f k l0 a1 l2 = some r) :
    Calls Try.prog 3 #[.slice A0 l0.length c0, .int .i64 a1, .slice A2 l2.length c2] w fun e w' => e = .returned (.bool r) ∧ Below w.heap.size w w' := by
  have HR0 := Aside0.mk hr0
  have HC0 := Aside0.mk hc0
  clear hr0 hc0
  have HR2 := Aside0.mk hr2
  have HC2 := Aside0.mk hc2
  clear hr2 hc2
  have HB := Aside0.mk (Below.refl w.heap.size w)
  have H : (if (l0.length : Int) > 1100 then (contangolaw14_GiveupAverages.j0 k l0 a1 l2 true) else (contangolaw14_GiveupAverages.j0 k l0 a1 l2 (decide ((l2.length : Int) > 1100)))) = some r := h
  clear h
  have HC4 := Aside0.mk H
  clear H
  go_enter Try.func3, Try.ntmps3
  go_upto_region 1 with (fail)
  go_cut [26] (fun v26 wc => ∃ (kq : Nat) (x26_3 : Bool), v26 = .bool x26_3 ∧ Aside0 (contangolaw14_GiveupAverages.j0 kq l0 a1 l2 x26_3 = some r) ∧ Aside0 (kq ≤ k) ∧ Aside0 (Below w.heap.size w wc))
  case first =>
    have H := HC4.out
    clear HC4
    by_cases c5 : (l0.length : Int) > 1100
    · rw [if_pos c5] at H
      have c5b0 : decide (1100 < (l0.length : Int)) = true := decide_eq_true c5
      have c5b1 : decide (1100 < l0.length) = true := decide_eq_true (by omega)
      clear c5
      (first | rw [c5b0] | (simp only [i64_w, i32_w]; rw [c5b0]) | rw [c5b1] | skip)
      have H' := Aside0.mk H
      clear H
      go_wp2
      go_meet
      case rel => exact ⟨_, (true), (by first | rfl | (simp; done) | (simp [*]; done)), H', ⟨by first | omega | exact Nat.le_refl _⟩, ⟨by repeat (first | (with_reducible first | exact HB.out | apply below_alloc | apply pw_below_drewN | apply below_drew1) | exact HB.out)⟩⟩
    · rw [if_neg c5] at H
      have c5b0 : decide (1100 < (l0.length : Int)) = false := decide_eq_false c5
      have c5b1 : decide (1100 < l0.length) = false := decide_eq_false (by omega)
      clear c5
      (first | rw [c5b0] | (simp only [i64_w, i32_w]; rw [c5b0]) | rw [c5b1] | skip)
      have H' := Aside0.mk H
      clear H
      go_wp2
      go_meet
      case rel => exact ⟨_, (decide ((l2.length : Int) > 1100)), (by first | rfl | (simp; done) | (simp [*]; done)), H', ⟨by first | omega | exact Nat.le_refl _⟩, ⟨by repeat (first | (with_reducible first | exact HB.out | apply below_alloc | apply pw_below_drewN | apply below_drew1) | exact HB.out)⟩⟩
  case rest =>
    clear HC4
    try clear c2
    try clear p2
    try clear c3
    try clear c5
    try clear c5b0
    try clear c5b1
    obtain ⟨kq, x26_3, rfl, HA, HJ3, HB⟩ := hcut
    cases kq with
    | zero => exact absurd HA.out (by simp [contangolaw14_GiveupAverages.j0])
    | succ kj3 =>
      have H := HA.out
      clear HA
      simp only [contangolaw14_GiveupAverages.j0] at H
      by_cases c6 : x26_3 = true
      · subst c6
        have H1 : ((contangolaw14_goes.f kj3).bind fun t199 => (some t199)) = some r := by rw [if_pos rfl] at H; exact H
        clear H
        have H := H1
        clear H1
        replace H := Option.bind_eq_some_iff.mp H
        obtain ⟨t199, A70, H⟩ := H
        replace H : (some t199) = some r := H
        have A7 := Aside0.mk A70
        clear A70
        obtain rfl := Option.some.inj H
        go_wp2_with (first | ((with_reducible refine gate_callee (f := 8) rfl ?_); refine goesL_ (some 27) rfl rfl Try.func8 (by kernel_rfl) rfl #[] rfl (by (try simp only [List.map_toArray, List.map_cons, List.map_nil]); first | done | rfl | (simp only [List.length_drop, List.length_take]; rfl)) ?_; (with_reducible refine (contangolaw14_goes.calls kj3  t199 _ A7.out).mono ?_); rintro e w8 ⟨rfl, hb⟩; refine ⟨_, rfl, ?_⟩; have n0_ := Aside0.mk (below_step (by repeat (first | (with_reducible first | exact HB.out | apply below_alloc | apply pw_below_drewN | apply below_drew1) | exact HB.out)) hb); clear HB; have HB := n0_; clear n0_; (try clear hb); (try clear hb2); (try clear hk); (try clear hi)))
        go_ret
        exact ⟨by first | rfl | (simp [errW_none, errW_some] <;> rfl) | (simp [*, errW_none, errW_some] <;> rfl), by repeat (first | (with_reducible first | exact HB.out | apply below_alloc | apply pw_below_drewN | apply below_drew1) | exact HB.out)⟩
      · replace c6 := Bool.eq_false_iff.mpr c6
        subst c6
        have H1 : ((giveup_Average.f l0 a1).bind fun bt200 => ((contangoref14_Average.f kj3 l0 a1).bind fun bt203 => ((giveup_Even.f kj3 l0 a1 l2).bind fun bt206 => ((contangoref14_Even.f kj3 l0 a1 l2).bind fun bt211 => (if bt200.1 = bt203.1 then (if bt200.2.1 = bt203.2.1 then (if bt200.2.2 = bt203.2.2 then (if bt206.1 = bt211.1 then ((contangoref14_Ints.f kj3 bt206.2.1 bt211.2.1).bind fun t216 => (if t216 = true then (if bt206.2.2 = bt211.2.2 then ((contangolaw14_goes.f kj3).bind fun t217 => (some t217)) else (none)) else (none))) else (none)) else (none)) else (none)) else (none)))))) = some r := by rw [if_neg (show ¬ (false = true) by decide)] at H; exact H
        clear H
        have H := H1
        clear H1
        replace H := Option.bind_eq_some_iff.mp H
        obtain ⟨⟨t200, t201, t202⟩, A90, H⟩ := H
        replace H : ((contangoref14_Average.f kj3 l0 a1).bind fun bt203 => ((giveup_Even.f kj3 l0 a1 l2).bind fun bt206 => ((contangoref14_Even.f kj3 l0 a1 l2).bind fun bt211 => (if t200 = bt203.1 then (if t201 = bt203.2.1 then (if t202 = bt203.2.2 then (if bt206.1 = bt211.1 then ((contangoref14_Ints.f kj3 bt206.2.1 bt211.2.1).bind fun t216 => (if t216 = true then (if bt206.2.2 = bt211.2.2 then ((contangolaw14_goes.f kj3).bind fun t217 => (some t217)) else (none)) else (none))) else (none)) else (none)) else (none)) else (none))))) = some r := H
        have A9 := Aside0.mk A90
        clear A90
        replace H := Option.bind_eq_some_iff.mp H
        obtain ⟨⟨t203, t204, t205⟩, A100, H⟩ := H
        replace H : ((giveup_Even.f kj3 l0 a1 l2).bind fun bt206 => ((contangoref14_Even.f kj3 l0 a1 l2).bind fun bt211 => (if t200 = t203 then (if t201 = t204 then (if t202 = t205 then (if bt206.1 = bt211.1 then ((contangoref14_Ints.f kj3 bt206.2.1 bt211.2.1).bind fun t216 => (if t216 = true then (if bt206.2.2 = bt211.2.2 then ((contangolaw14_goes.f kj3).bind fun t217 => (some t217)) else (none)) else (none))) else (none)) else (none)) else (none)) else (none)))) = some r := H
        have A10 := Aside0.mk A100
        clear A100
        replace H := Option.bind_eq_some_iff.mp H
        obtain ⟨⟨t206, t207, t208⟩, A110, H⟩ := H
        replace H : ((contangoref14_Even.f kj3 l0 a1 l2).bind fun bt211 => (if t200 = t203 then (if t201 = t204 then (if t202 = t205 then (if t206 = bt211.1 then ((contangoref14_Ints.f kj3 t207 bt211.2.1).bind fun t216 => (if t216 = true then (if t208 = bt211.2.2 then ((contangolaw14_goes.f kj3).bind fun t217 => (some t217)) else (none)) else (none))) else (none)) else (none)) else (none)) else (none))) = some r := H
        have A11 := Aside0.mk A110
        clear A110
        replace H := Option.bind_eq_some_iff.mp H
        obtain ⟨⟨t211, t212, t213⟩, A120, H⟩ := H
        replace H : (if t200 = t203 then (if t201 = t204 then (if t202 = t205 then (if t206 = t211 then ((contangoref14_Ints.f kj3 t207 t212).bind fun t216 => (if t216 = true then (if t208 = t213 then ((contangolaw14_goes.f kj3).bind fun t217 => (some t217)) else (none)) else (none))) else (none)) else (none)) else (none)) else (none)) = some r := H
        have A12 := Aside0.mk A120
        clear A120
        by_cases c13 : t200 = t203
        · rw [if_pos c13] at H
          have c13b0 : (t200 == t203) = true := beq_iff_eq.mpr c13
          have c13b1 : (t200 != t203) = false := bne_eq_false_iff_eq.mpr c13
          clear c13
          by_cases c14 : t201 = t204
          · rw [if_pos c14] at H
            have c14b0 : (t201 == t204) = true := beq_iff_eq.mpr c14
            have c14b1 : (t201 != t204) = false := bne_eq_false_iff_eq.mpr c14
            clear c14
            by_cases c15 : t202 = t205
            · rw [if_pos c15] at H
              have c15b0 : (t202 == t205) = true := beq_iff_eq.mpr c15
              have c15b1 : (t202 != t205) = false := bne_eq_false_iff_eq.mpr c15
              clear c15
              by_cases c16 : t206 = t211
              · rw [if_pos c16] at H
                have c16b0 : (t206 == t211) = true := beq_iff_eq.mpr c16
                have c16b1 : (t206 != t211) = false := bne_eq_false_iff_eq.mpr c16
                clear c16
                replace H := Option.bind_eq_some_iff.mp H
                obtain ⟨t216, A170, H⟩ := H
                replace H : (if t216 = true then (if t208 = t213 then ((contangolaw14_goes.f kj3).bind fun t217 => (some t217)) else (none)) else (none)) = some r := H
                have A17 := Aside0.mk A170
                clear A170
                by_cases c18 : t216 = true
                · subst c18
                  have H1 : (if t208 = t213 then ((contangolaw14_goes.f kj3).bind fun t217 => (some t217)) else (none)) = some r := by rw [if_pos rfl] at H; exact H
                  clear H
                  have H := H1
                  clear H1
                  by_cases c19 : t208 = t213
                  · rw [if_pos c19] at H
                    have c19b0 : (t208 == t213) = true := beq_iff_eq.mpr c19
                    have c19b1 : (t208 != t213) = false := bne_eq_false_iff_eq.mpr c19
                    clear c19
                    replace H := Option.bind_eq_some_iff.mp H
                    obtain ⟨t217, A200, H⟩ := H
                    replace H : (some t217) = some r := H
                    have A20 := Aside0.mk A200
                    clear A200
                    obtain rfl := Option.some.inj H
                    go_wp2_with (first | ((with_reducible refine gate_callee (f := 9) rfl ?_); refine goesL_ (some 31) rfl rfl Try.func9 (by kernel_rfl) rfl #[.slice A0 l0.length c0, .int .i64 a1] rfl (by (try simp only [List.map_toArray, List.map_cons, List.map_nil]); first | done | rfl | (simp only [List.length_drop, List.length_take]; rfl)) ?_; (with_reducible refine (giveup_Average.calls _ _ l0 a1 t200 t201 t202 _ ?side1 ?side2 A9.out).mono ?_); (case side1 => repeat (first | exact (Kd.C_below HR0.out HB.out) | (with_reducible refine Kd.C_alloc ?_ _) | (with_reducible refine Kd.C_drewN ?_ _) | (with_reducible refine Kd.C_drew ?_))); (case side2 => exact HC0.out); rintro e w21 ⟨rfl, hb⟩; refine ⟨_, rfl, ?_⟩; have n0_ := Aside0.mk (below_step (by repeat (first | (with_reducible first | exact HB.out | apply below_alloc | apply pw_below_drewN | apply below_drew1) | exact HB.out)) hb); clear HB; have HB := n0_; clear n0_; (try clear hb); (try clear hb2); (try clear hk); (try clear hi)) | ((with_reducible refine gate_callee (f := 10) rfl ?_); refine goesL_ (some 38) rfl rfl Try.func10 (by kernel_rfl) rfl #[.slice A0 l0.length c0, .int .i64 a1] rfl (by (try simp only [List.map_toArray, List.map_cons, List.map_nil]); first | done | rfl | (simp only [List.length_drop, List.length_take]; rfl)) ?_; (with_reducible refine (contangoref14_Average.calls kj3 _ _ l0 a1 t203 t204 t205 _ ?side1 ?side2 A10.out).mono ?_); (case side1 => repeat (first | exact (Kd.C_below HR0.out HB.out) | (with_reducible refine Kd.C_alloc ?_ _) | (with_reducible refine Kd.C_drewN ?_ _) | (with_reducible refine Kd.C_drew ?_))); (case side2 => exact HC0.out); rintro e w' ⟨rfl, ⟨nd, rfl⟩⟩; refine ⟨_, rfl, ?_⟩) | ((with_reducible refine gate_callee (f := 11) rfl ?_); refine goesL_ (some 46) rfl rfl Try.func11 (by kernel_rfl) rfl #[.slice A0 l0.length c0, .int .i64 a1, .slice A2 l2.length c2] rfl (by (try simp only [List.map_toArray, List.map_cons, List.map_nil]); first | done | rfl | (simp only [List.length_drop, List.length_take]; rfl)) ?_; (with_reducible refine (giveup_Even.calls kj3 _ _ l0 a1 _ _ l2 t206 t207 t208 _ ?side1 ?side2 ?side3 ?side4 A11.out).mono ?_); (case side1 => repeat (first | exact (Kd.C_below HR0.out (by repeat (first | (with_reducible first | exact HB.out | apply below_alloc | apply pw_below_drewN | apply below_drew1) | exact HB.out))) | (with_reducible refine Kd.C_alloc ?_ _) | (with_reducible refine Kd.C_drewN ?_ _) | (with_reducible refine Kd.C_drew ?_))); (case side2 => exact HC0.out); (case side3 => repeat (first | exact (Kd.C_below HR2.out (by repeat (first | (with_reducible first | exact HB.out | apply below_alloc | apply pw_below_drewN | apply below_drew1) | exact HB.out))) | (with_reducible refine Kd.C_alloc ?_ _) | (with_reducible refine Kd.C_drewN ?_ _) | (with_reducible refine Kd.C_drew ?_))); (case side4 => exact HC2.out); rintro e w22 ⟨v209, rfl, ho0, hb⟩; refine ⟨_, rfl, ?_⟩; have n0_ := Aside0.mk (Kd.R_lower ho0 (below_size (by repeat (first | (with_reducible first | exact HB.out | apply below_alloc | apply pw_below_drewN | apply below_drew1) | exact HB.out)))); have n1_ := Aside0.mk (below_step (by repeat (first | (with_reducible first | exact HB.out | apply below_alloc | apply pw_below_drewN | apply below_drew1) | exact HB.out)) hb); clear HB; have HO210 := n0_; have HB := n1_; clear n0_ n1_; (try clear hb); (try clear hb2); (try clear hk); (try clear hi); (try clear ho0)) | ((with_reducible refine gate_callee (f := 12) rfl ?_); refine goesL_ (some 54) rfl rfl Try.func12 (by kernel_rfl) rfl #[.slice A0 l0.length c0, .int .i64 a1, .slice A2 l2.length c2] rfl (by (try simp only [List.map_toArray, List.map_cons, List.map_nil]); first | done | rfl | (simp only [List.length_drop, List.length_take]; rfl)) ?_; (with_reducible refine (contangoref14_Even.calls kj3 _ _ l0 a1 _ _ l2 t211 t212 t213 _ ?side1 ?side2 ?side3 ?side4 A12.out).mono ?_); (case side1 => repeat (first | exact (Kd.C_below HR0.out HB.out) | (with_reducible refine Kd.C_alloc ?_ _) | (with_reducible refine Kd.C_drewN ?_ _) | (with_reducible refine Kd.C_drew ?_))); (case side2 => exact HC0.out); (case side3 => repeat (first | exact (Kd.C_below HR2.out HB.out) | (with_reducible refine Kd.C_alloc ?_ _) | (with_reducible refine Kd.C_drewN ?_ _) | (with_reducible refine Kd.C_drew ?_))); (case side4 => exact HC2.out); rintro e w23 ⟨v214, rfl, ho0, hb⟩; refine ⟨_, rfl, ?_⟩; have n0_ := Aside0.mk (Kd.R_elder' (by (with_reducible repeat (first | apply Kd.R_alloc | apply Kd.R_drewN | apply Kd.R_drew)); exact HO210.out) (Kd.R_base ho0) hb); have n1_ := Aside0.mk (Kd.R_lower (Kd.R_new' ho0 (Kd.R_lt (by (with_reducible repeat (first | apply Kd.R_alloc | apply Kd.R_drewN | apply Kd.R_drew)); exact HO210.out))) (below_size (by repeat (first | (with_reducible first | exact HB.out | apply below_alloc | apply pw_below_drewN | apply below_drew1) | exact HB.out)))); have n2_ := Aside0.mk (below_step (by repeat (first | (with_reducible first | exact HB.out | apply below_alloc | apply pw_below_drewN | apply below_drew1) | exact HB.out)) hb); clear HO210; clear HB; have HO210 := n0_; have HO215 := n1_; have HB := n2_; clear n0_ n1_ n2_; (try clear hb); (try clear hb2); (try clear hk); (try clear hi); (try clear ho0); obtain ⟨Ao24, co24, eo24⟩ := Kd.R_slice HO210.out; subst eo24; obtain ⟨Ao25, co25, eo25⟩ := Kd.R_slice HO215.out; subst eo25) | (go_at_call 13; (with_reducible refine (contangoref14_Ints.calls kj3 _ _ t207 _ _ t212 true _ ?side1 ?side2 ?side3 ?side4 A17.out).mono ?_); (case side1 => repeat (first | exact (Kd.R_reads' HO210.out).2.2 | (with_reducible refine Kd.C_alloc ?_ _) | (with_reducible refine Kd.C_drewN ?_ _) | (with_reducible refine Kd.C_drew ?_))); (case side2 => exact (Kd.R_reads' HO210.out).2.1); (case side3 => repeat (first | exact (Kd.R_reads' HO215.out).2.2 | (with_reducible refine Kd.C_alloc ?_ _) | (with_reducible refine Kd.C_drewN ?_ _) | (with_reducible refine Kd.C_drew ?_))); (case side4 => exact (Kd.R_reads' HO215.out).2.1); rintro e w' ⟨rfl, ⟨nd, rfl⟩⟩) | (go_at_call 8; (with_reducible refine (contangolaw14_goes.calls kj3  t217 _ A20.out).mono ?_); rintro e w26 ⟨rfl, hb⟩; have n0_ := Aside0.mk (Kd.R_below (by (with_reducible repeat (first | apply Kd.R_alloc | apply Kd.R_drewN | apply Kd.R_drew)); exact HO210.out) hb); have n1_ := Aside0.mk (Kd.R_below (by (with_reducible repeat (first | apply Kd.R_alloc | apply Kd.R_drewN | apply Kd.R_drew)); exact HO215.out) hb); have n2_ := Aside0.mk (below_step (by repeat (first | (with_reducible first | exact HB.out | apply below_alloc | apply pw_below_drewN | apply below_drew1) | exact HB.out)) hb); clear HO210; clear HO215; clear HB; have HO210 := n0_; have HO215 := n1_; have HB := n2_; clear n0_ n1_ n2_; (try clear hb); (try clear hb2); (try clear hk); (try clear hi)))
                    go_ret
                    exact ⟨by first | rfl | (simp [errW_none, errW_some] <;> rfl) | (simp [*, errW_none, errW_some] <;> rfl), by repeat (first | (with_reducible first | exact HB.out | apply below_alloc | apply pw_below_drewN | apply below_drew1) | exact HB.out)⟩
                  · rw [if_neg c19] at H
                    exact absurd H (by simp)
                · replace c18 := Bool.eq_false_iff.mpr c18
                  subst c18
                  have H1 : (none) = some r := by rw [if_neg (show ¬ (false = true) by decide)] at H; exact H
                  clear H
                  have H := H1
                  clear H1
                  exact absurd H (by simp)
              · rw [if_neg c16] at H
                exact absurd H (by simp)
            · rw [if_neg c15] at H
              exact absurd H (by simp)
          · rw [if_neg c14] at H
            exact absurd H (by simp)
        · rw [if_neg c13] at H
          exact absurd H (by simp)

end Go.Proofs.Ytaffedkheehplaa.PGiveupAverages
