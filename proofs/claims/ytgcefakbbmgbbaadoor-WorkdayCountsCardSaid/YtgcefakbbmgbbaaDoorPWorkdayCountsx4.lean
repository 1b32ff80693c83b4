/- Laid for this claim by a program of this session's (wip/mkprint.py, wip/ext.py); not trusted: Lean checks it. -/
import Derived.Test.YtgcefakbbmgbbaaDoorPWorkdayCountsx0
import Derived.Test.YtgcefakbbmgbbaaDoorPWorkdayCountsx1
import Derived.Test.YtgcefakbbmgbbaaDoorPWorkdayCountsx2
import Derived.Test.YtgcefakbbmgbbaaDoorPWorkdayCountsx3
namespace Go.Proofs.YtgcefakbbmgbbaaDoor.PWorkdayCounts
open Go.RowKit Go.Proofs.YtgcefakbbmgbbaaDoorW.PrintWords Go.Proofs.YtgcefakbbmgbbaaDoorW.PrintLast Go.Proofs.YtgcefakbbmgbbaaDoorW.PrintMore
attribute [local go_sem] max2_int min2_int max_two min_two max_three min_three max_four min_four   -- for this text's walks alone
set_option linter.unusedVariables false
set_option linter.unusedSimpArgs false

/-! ### workday_Expiry: function 25 -/
def workday_Expiry.f (k : Nat) (l0 : List Int) (a1 a2 : Int) : Option (Int × Int) := if chkV l0 = 0 then ((date_Nth.f k a1 a2 5 3).bind fun t => if t.2 = 0 then (if workV l0 t.1 = true then some (t.1, 0) else workday_Before.f l0 t.1) else some (0, t.2)) else some (0, chkV l0)
theorem workday_Expiry.mono : ∀ a0 a1 a2 k, LeO (workday_Expiry.f k a0 a1 a2) (workday_Expiry.f (k + 1) a0 a1 a2) := by
  intro a0 a1 a2 k
  unfold workday_Expiry.f
  exact LeO.ite (LeO.bind (date_Nth.mono _ _ _ _ _) (fun _ => LeO.refl _)) (LeO.refl _)
set_option maxHeartbeats 8000000 in
set_option maxRecDepth 100000 in
theorem workday_Expiry.calls (k : Nat) (A0 : Option Addr) (c0 : Nat) (l0 : List Int) (a1 a2 r1 r2 : Int) (w : World) (hL : LongAt w) (hr0 : Kd.C (Kd.int .i64) w A0 l0.length l0) (hc0 : l0.length ≤ c0) (h : workday_Expiry.f k l0 a1 a2 = some (r1, r2)) :
    Calls Tryd.prog 25 #[.slice A0 l0.length c0, .int .i64 a1, .int .i64 a2] w fun e w' => e = .returned (.tuple #[.int .i64 r1, .int .i64 r2]) ∧ Below w.heap.size w w' := by
  unfold workday_Expiry.f at h
  obtain ⟨kc, hkc⟩ := xv_get (check_val l0)
  have HCK := Aside0.mk (workday_Check.calls kc A0 c0 l0 (chkV l0) w hr0 hc0 hkc)
  clear hkc
  by_cases hz : chkV l0 = 0
  · rw [if_pos hz] at h
    obtain ⟨⟨day, e1⟩, hn, h⟩ := Option.bind_eq_some_iff.1 h
    dsimp only at h
    have HN := Aside0.mk (fun (W : World) (hB : Below w.heap.size w W) => date_Nth.calls k a1 a2 5 3 day e1 W (hL.below hB) hn)
    rw [hz] at HCK
    have hs := chkV_srt _ hz
    clear hn hz hL
    by_cases he : e1 = 0
    · rw [if_pos he] at h
      subst he
      have hwk : ∀ (W : World) (g1 g2 : Nat), Below w.heap.size w W → W.heap[g1]? = some (.cells #[.slice A0 l0.length c0] 22 (0, 0)) → W.heap[g2]? = some (.cells weekL.toArray 51 (0, 0)) → Calls Tryd.prog 38 #[.int .i64 day, .pointer (some ⟨g1, 0, none⟩), .pointer (some ⟨g2, 0, none⟩)] W fun e w' => e = .returned (.bool (workV l0 day)) ∧ Below W.heap.size W w' := fun W g1 g2 hB h1 h2 => working1_any A0 c0 l0 day g1 g2 W (Kd.C_below hr0 hB) hc0 hs h1 h2
      have HW := Aside0.mk hwk
      clear hwk hs
      cases hb : workV l0 day with
      | true =>
        rw [hb] at HW
        rw [hb, if_pos rfl] at h
        simp only [Option.some.injEq, Prod.mk.injEq] at h
        obtain ⟨rfl, rfl⟩ := h
        clear hb hr0
        go_enter Tryd.func25, Tryd.ntmps25
        go_wp2_with (first | (go_at_call 19; (with_reducible refine HCK.out.mono ?_); rintro e w2 ⟨rfl, hd⟩; have HB := Aside0.mk hd.below; clear hd) | (go_at_call 28; (with_reducible refine (HN.out _ HB.out).mono ?_); rintro e w3 ⟨rfl, hd⟩; have HB2 := Aside0.mk (below_step HB.out hd); clear hd))
        refine (working_any A0 l0.length c0 _).mono ?_
        rintro e w4 ⟨g1, g2, rfl, _, _, h1, h2, hb⟩
        have HB3 := Aside0.mk (below_step HB2.out hb)
        have H1 := Aside0.mk h1
        have H2 := Aside0.mk h2
        clear hb h1 h2
        go_wp2_with fail
        refine (HW.out _ g1 g2 HB3.out H1.out H2.out).mono ?_
        rintro e w5 ⟨rfl, hb⟩
        have HB5 := Aside0.mk (below_step HB3.out hb)
        clear hb
        go_wp2
        go_ret2
        exact ⟨rfl, HB5.out⟩
      | false =>
        rw [hb] at HW
        rw [hb, if_neg (by decide)] at h
        have HBF := Aside0.mk (fun (W : World) (hB : Below w.heap.size w W) => workday_Before.calls A0 c0 l0 day r1 r2 W (Kd.C_below hr0 hB) hc0 h)
        clear hb hr0 h
        go_enter Tryd.func25, Tryd.ntmps25
        go_wp2_with (first | (go_at_call 19; (with_reducible refine HCK.out.mono ?_); rintro e w2 ⟨rfl, hd⟩; have HB := Aside0.mk hd.below; clear hd) | (go_at_call 28; (with_reducible refine (HN.out _ HB.out).mono ?_); rintro e w3 ⟨rfl, hd⟩; have HB2 := Aside0.mk (below_step HB.out hd); clear hd))
        refine (working_any A0 l0.length c0 _).mono ?_
        rintro e w4 ⟨g1, g2, rfl, _, _, h1, h2, hb⟩
        have HB3 := Aside0.mk (below_step HB2.out hb)
        have H1 := Aside0.mk h1
        have H2 := Aside0.mk h2
        clear hb h1 h2
        go_wp2_with fail
        refine (HW.out _ g1 g2 HB3.out H1.out H2.out).mono ?_
        rintro e w5 ⟨rfl, hb⟩
        have HB5 := Aside0.mk (below_step HB3.out hb)
        clear hb
        go_wp2_with (go_at_call 15; (with_reducible refine (HBF.out _ HB5.out).mono ?_); rintro e w6 ⟨rfl, hd⟩; have HB6 := Aside0.mk (below_step HB5.out hd); clear hd)
        go_ret2
        exact ⟨rfl, HB6.out⟩
    · rw [if_neg he] at h
      simp only [Option.some.injEq, Prod.mk.injEq] at h
      obtain ⟨rfl, rfl⟩ := h
      have de : (e1 != 0) = true := bne_iff_ne.2 he
      clear he hr0
      go_enter Tryd.func25, Tryd.ntmps25
      go_wp2_with (first | (go_at_call 19; (with_reducible refine HCK.out.mono ?_); rintro e w2 ⟨rfl, hd⟩; have HB := Aside0.mk hd.below; clear hd) | (go_at_call 28; (with_reducible refine (HN.out _ HB.out).mono ?_); rintro e w3 ⟨rfl, hd⟩; have HB2 := Aside0.mk (below_step HB.out hd); clear hd))
      go_ret2
      exact ⟨rfl, HB2.out⟩
  · rw [if_neg hz] at h
    simp only [Option.some.injEq, Prod.mk.injEq] at h
    obtain ⟨rfl, rfl⟩ := h
    have dz : (chkV l0 != 0) = true := bne_iff_ne.2 hz
    generalize chkV l0 = e0 at *
    clear hz hr0
    go_enter Tryd.func25, Tryd.ntmps25
    go_wp2_with (go_at_call 19; (with_reducible refine HCK.out.mono ?_); rintro e w2 ⟨rfl, hd⟩; have HB := Aside0.mk hd.below; clear hd)
    go_ret2
    exact ⟨rfl, HB.out⟩

/-! ### contangolaw06_goes: function 10 -/
def contangolaw06_goes.f (k : Nat)  : Option (Bool) := (workday_Next.f ([] : List Int) 0).bind fun bt129 => ((workday_Next.f (([2] : List Int)) 0).bind fun bt134 => ((workday_Before.f ([] : List Int) 2).bind fun bt136 => ((workday_Add.f ([] : List Int) 2 5).bind fun bt138 => ((workday_Count.f ([] : List Int) 0 9).bind fun bt140 => ((workday_Expiry.f k (([20] : List Int)) 2000 1).bind fun bt145 => (if bt129.1 = 2 then (if bt129.2 = 0 then (if bt134.1 = 3 then (if bt134.2 = 0 then (if bt136.2 = 15 then (if bt138.1 = 9 then (if bt138.2 = 0 then (if bt140.1 = 6 then (if bt140.2 = 0 then (if bt145.1 = 19 then (some (bt145.2 == 0)) else (none)) else (none)) else (none)) else (none)) else (none)) else (none)) else (none)) else (none)) else (none)) else (none)))))))
theorem contangolaw06_goes.mono : ∀ k, LeO (contangolaw06_goes.f k ) (contangolaw06_goes.f (k + 1) ) := by
  intro  k
  unfold contangolaw06_goes.f
  repeat' first
      | (with_reducible exact workday_Expiry.mono _ _ _ _)
      | (with_reducible exact LeO.refl _)
      | (with_reducible exact LeO.none _)
      | (with_reducible refine LeO.ite ?_ ?_)
      | (with_reducible refine LeO.bind ?_ (fun _ => ?_))
      | exact workday_Expiry.mono _ _ _ _
      | exact LeO.none _
      | refine LeO.ite ?_ ?_
      | refine LeO.bind ?_ (fun _ => ?_)
set_option maxHeartbeats 8000000 in
set_option maxRecDepth 100000 in
theorem contangolaw06_goes.calls (k : Nat)  (r : Bool) (w : World) (hL : LongAt w) (h : contangolaw06_goes.f k  = some r) :
    Calls Tryd.prog 10 #[] w fun e w' => e = .returned (.bool r) ∧ Below w.heap.size w w' := by
  have HLONG := Aside0.mk hL
  clear hL
  have HB := Aside0.mk (Below.refl w.heap.size w)
  have H : ((workday_Next.f ([] : List Int) 0).bind fun bt129 => ((workday_Next.f (([2] : List Int)) 0).bind fun bt134 => ((workday_Before.f ([] : List Int) 2).bind fun bt136 => ((workday_Add.f ([] : List Int) 2 5).bind fun bt138 => ((workday_Count.f ([] : List Int) 0 9).bind fun bt140 => ((workday_Expiry.f k (([20] : List Int)) 2000 1).bind fun bt145 => (if bt129.1 = 2 then (if bt129.2 = 0 then (if bt134.1 = 3 then (if bt134.2 = 0 then (if bt136.2 = 15 then (if bt138.1 = 9 then (if bt138.2 = 0 then (if bt140.1 = 6 then (if bt140.2 = 0 then (if bt145.1 = 19 then (some (bt145.2 == 0)) else (none)) else (none)) else (none)) else (none)) else (none)) else (none)) else (none)) else (none)) else (none)) else (none)))))))) = some r := h
  clear h
  replace H := Option.bind_eq_some_iff.mp H
  obtain ⟨⟨t129, t130⟩, A10, H⟩ := H
  replace H : ((workday_Next.f (([2] : List Int)) 0).bind fun bt134 => ((workday_Before.f ([] : List Int) 2).bind fun bt136 => ((workday_Add.f ([] : List Int) 2 5).bind fun bt138 => ((workday_Count.f ([] : List Int) 0 9).bind fun bt140 => ((workday_Expiry.f k (([20] : List Int)) 2000 1).bind fun bt145 => (if t129 = 2 then (if t130 = 0 then (if bt134.1 = 3 then (if bt134.2 = 0 then (if bt136.2 = 15 then (if bt138.1 = 9 then (if bt138.2 = 0 then (if bt140.1 = 6 then (if bt140.2 = 0 then (if bt145.1 = 19 then (some (bt145.2 == 0)) else (none)) else (none)) else (none)) else (none)) else (none)) else (none)) else (none)) else (none)) else (none)) else (none))))))) = some r := H
  have A1 := Aside0.mk A10
  clear A10
  obtain ⟨y131, hy131⟩ : ∃ y_ : List Int, y_ = (([2] : List Int)) := ⟨_, rfl⟩
  replace H : ((workday_Next.f y131 0).bind fun bt134 => ((workday_Before.f ([] : List Int) 2).bind fun bt136 => ((workday_Add.f ([] : List Int) 2 5).bind fun bt138 => ((workday_Count.f ([] : List Int) 0 9).bind fun bt140 => ((workday_Expiry.f k (([20] : List Int)) 2000 1).bind fun bt145 => (if t129 = 2 then (if t130 = 0 then (if bt134.1 = 3 then (if bt134.2 = 0 then (if bt136.2 = 15 then (if bt138.1 = 9 then (if bt138.2 = 0 then (if bt140.1 = 6 then (if bt140.2 = 0 then (if bt145.1 = 19 then (some (bt145.2 == 0)) else (none)) else (none)) else (none)) else (none)) else (none)) else (none)) else (none)) else (none)) else (none)) else (none))))))) = some r := by first | (rw [hy131]; with_reducible exact H) | (have H2_ := (Option.bind_some _ _).symm.trans H; rw [hy131]; with_reducible exact H2_) | (have H2_ := (Option.bind_some _ _).symm.trans H; with_reducible exact H2_) | with_reducible exact H | (rw [hy131]; exact H) | exact H
  have Ny131 := Aside0.mk hy131
  clear hy131
  replace H := Option.bind_eq_some_iff.mp H
  obtain ⟨⟨t134, t135⟩, A20, H⟩ := H
  replace H : ((workday_Before.f ([] : List Int) 2).bind fun bt136 => ((workday_Add.f ([] : List Int) 2 5).bind fun bt138 => ((workday_Count.f ([] : List Int) 0 9).bind fun bt140 => ((workday_Expiry.f k (([20] : List Int)) 2000 1).bind fun bt145 => (if t129 = 2 then (if t130 = 0 then (if t134 = 3 then (if t135 = 0 then (if bt136.2 = 15 then (if bt138.1 = 9 then (if bt138.2 = 0 then (if bt140.1 = 6 then (if bt140.2 = 0 then (if bt145.1 = 19 then (some (bt145.2 == 0)) else (none)) else (none)) else (none)) else (none)) else (none)) else (none)) else (none)) else (none)) else (none)) else (none)))))) = some r := H
  have A2 := Aside0.mk A20
  clear A20
  replace H := Option.bind_eq_some_iff.mp H
  obtain ⟨⟨t136, t137⟩, A30, H⟩ := H
  replace H : ((workday_Add.f ([] : List Int) 2 5).bind fun bt138 => ((workday_Count.f ([] : List Int) 0 9).bind fun bt140 => ((workday_Expiry.f k (([20] : List Int)) 2000 1).bind fun bt145 => (if t129 = 2 then (if t130 = 0 then (if t134 = 3 then (if t135 = 0 then (if t137 = 15 then (if bt138.1 = 9 then (if bt138.2 = 0 then (if bt140.1 = 6 then (if bt140.2 = 0 then (if bt145.1 = 19 then (some (bt145.2 == 0)) else (none)) else (none)) else (none)) else (none)) else (none)) else (none)) else (none)) else (none)) else (none)) else (none))))) = some r := H
  have A3 := Aside0.mk A30
  clear A30
  replace H := Option.bind_eq_some_iff.mp H
  obtain ⟨⟨t138, t139⟩, A40, H⟩ := H
  replace H : ((workday_Count.f ([] : List Int) 0 9).bind fun bt140 => ((workday_Expiry.f k (([20] : List Int)) 2000 1).bind fun bt145 => (if t129 = 2 then (if t130 = 0 then (if t134 = 3 then (if t135 = 0 then (if t137 = 15 then (if t138 = 9 then (if t139 = 0 then (if bt140.1 = 6 then (if bt140.2 = 0 then (if bt145.1 = 19 then (some (bt145.2 == 0)) else (none)) else (none)) else (none)) else (none)) else (none)) else (none)) else (none)) else (none)) else (none)) else (none)))) = some r := H
  have A4 := Aside0.mk A40
  clear A40
  replace H := Option.bind_eq_some_iff.mp H
  obtain ⟨⟨t140, t141⟩, A50, H⟩ := H
  replace H : ((workday_Expiry.f k (([20] : List Int)) 2000 1).bind fun bt145 => (if t129 = 2 then (if t130 = 0 then (if t134 = 3 then (if t135 = 0 then (if t137 = 15 then (if t138 = 9 then (if t139 = 0 then (if t140 = 6 then (if t141 = 0 then (if bt145.1 = 19 then (some (bt145.2 == 0)) else (none)) else (none)) else (none)) else (none)) else (none)) else (none)) else (none)) else (none)) else (none)) else (none))) = some r := H
  have A5 := Aside0.mk A50
  clear A50
  obtain ⟨y142, hy142⟩ : ∃ y_ : List Int, y_ = (([20] : List Int)) := ⟨_, rfl⟩
  replace H : ((workday_Expiry.f k y142 2000 1).bind fun bt145 => (if t129 = 2 then (if t130 = 0 then (if t134 = 3 then (if t135 = 0 then (if t137 = 15 then (if t138 = 9 then (if t139 = 0 then (if t140 = 6 then (if t141 = 0 then (if bt145.1 = 19 then (some (bt145.2 == 0)) else (none)) else (none)) else (none)) else (none)) else (none)) else (none)) else (none)) else (none)) else (none)) else (none))) = some r := by first | (rw [hy142]; with_reducible exact H) | (have H2_ := (Option.bind_some _ _).symm.trans H; rw [hy142]; with_reducible exact H2_) | (have H2_ := (Option.bind_some _ _).symm.trans H; with_reducible exact H2_) | with_reducible exact H | (rw [hy142]; exact H) | exact H
  have Ny142 := Aside0.mk hy142
  clear hy142
  replace H := Option.bind_eq_some_iff.mp H
  obtain ⟨⟨t145, t146⟩, A60, H⟩ := H
  replace H : (if t129 = 2 then (if t130 = 0 then (if t134 = 3 then (if t135 = 0 then (if t137 = 15 then (if t138 = 9 then (if t139 = 0 then (if t140 = 6 then (if t141 = 0 then (if t145 = 19 then (some (t146 == 0)) else (none)) else (none)) else (none)) else (none)) else (none)) else (none)) else (none)) else (none)) else (none)) else (none)) = some r := H
  have A6 := Aside0.mk A60
  clear A60
  by_cases c7 : t129 = 2
  · rw [if_pos c7] at H
    have c7b0 : (t129 == 2) = true := beq_iff_eq.mpr c7
    have c7b1 : (t129 != 2) = false := bne_eq_false_iff_eq.mpr c7
    clear c7
    by_cases c8 : t130 = 0
    · rw [if_pos c8] at H
      have c8b0 : (t130 == 0) = true := beq_iff_eq.mpr c8
      have c8b1 : (t130 != 0) = false := bne_eq_false_iff_eq.mpr c8
      clear c8
      by_cases c9 : t134 = 3
      · rw [if_pos c9] at H
        have c9b0 : (t134 == 3) = true := beq_iff_eq.mpr c9
        have c9b1 : (t134 != 3) = false := bne_eq_false_iff_eq.mpr c9
        clear c9
        by_cases c10 : t135 = 0
        · rw [if_pos c10] at H
          have c10b0 : (t135 == 0) = true := beq_iff_eq.mpr c10
          have c10b1 : (t135 != 0) = false := bne_eq_false_iff_eq.mpr c10
          clear c10
          by_cases c11 : t137 = 15
          · rw [if_pos c11] at H
            have c11b0 : (t137 == 15) = true := beq_iff_eq.mpr c11
            have c11b1 : (t137 != 15) = false := bne_eq_false_iff_eq.mpr c11
            clear c11
            by_cases c12 : t138 = 9
            · rw [if_pos c12] at H
              have c12b0 : (t138 == 9) = true := beq_iff_eq.mpr c12
              have c12b1 : (t138 != 9) = false := bne_eq_false_iff_eq.mpr c12
              clear c12
              by_cases c13 : t139 = 0
              · rw [if_pos c13] at H
                have c13b0 : (t139 == 0) = true := beq_iff_eq.mpr c13
                have c13b1 : (t139 != 0) = false := bne_eq_false_iff_eq.mpr c13
                clear c13
                by_cases c14 : t140 = 6
                · rw [if_pos c14] at H
                  have c14b0 : (t140 == 6) = true := beq_iff_eq.mpr c14
                  have c14b1 : (t140 != 6) = false := bne_eq_false_iff_eq.mpr c14
                  clear c14
                  by_cases c15 : t141 = 0
                  · rw [if_pos c15] at H
                    have c15b0 : (t141 == 0) = true := beq_iff_eq.mpr c15
                    have c15b1 : (t141 != 0) = false := bne_eq_false_iff_eq.mpr c15
                    clear c15
                    by_cases c16 : t145 = 19
                    · rw [if_pos c16] at H
                      have c16b0 : (t145 == 19) = true := beq_iff_eq.mpr c16
                      have c16b1 : (t145 != 19) = false := bne_eq_false_iff_eq.mpr c16
                      clear c16
                      obtain rfl := Option.some.inj H
                      go_enter Tryd.func10, Tryd.ntmps10
                      go_wp2_with (first | ((with_reducible refine gate_callee (f := 13) rfl ?_); refine goesL_ (some 14) rfl rfl Tryd.func13 (by kernel_rfl) rfl #[.slice none 0 0, .int .i64 0] rfl (by (try simp only [List.map_toArray, List.map_cons, List.map_nil]); first | done | rfl | (simp only [List.length_drop, List.length_take]; rfl)) ?_; (refine (workday_Next.calls _ _ ([] : List Int) 0 t129 t130 _ ?side1 ?side2 A1.out).mono ?_); (case side1 => exact Kd.C_nil _ _); (case side2 => exact Nat.le_refl _); rintro e w17 ⟨rfl, hb⟩; refine ⟨_, rfl, ?_⟩; have n0_ := Aside0.mk (below_step (by repeat (first | (with_reducible first | exact HB.out | apply below_alloc | apply pw_below_drewN | apply below_drew1) | exact HB.out)) hb); clear HB; have HB := n0_; clear n0_; (try clear hb); (try clear hb2); (try clear hk); (try clear hi)) | ((with_reducible refine gate_dst (N := 18) rfl ?_); refine Kd.R_lit (Kd.int .i64) _ 3 ?hg (N := 18) ?hd (xs := ([2] : List Int)) (inner := [.int .i64 2]) (ok := fun _ => True) (okp := fun _ => True) ?hr ?hp (fun _ hk => hk) trivial (Below.refl _ _) (Nat.le_refl _) (by simp) ?_; (case hd => rfl); (case hg => rfl); (case hr => first | (go_simp; done) | (go_simp; rfl)); (case hp => exact (Reps.one (show Kd.M (Kd.int .i64) _ _ _ 2 [.int .i64 2] from rfl) (Reps.none _ _))); intro v132 w18 ho19 hb hg_ hnew_; clear hg_ hnew_; (first | rw [← Ny131.out] at ho19 | (simp only [Int.reduceToNat] at ho19; rw [← Ny131.out] at ho19)); have n0_ := Aside0.mk (Kd.R_lower ho19 (below_size (by repeat (first | (with_reducible first | exact HB.out | apply below_alloc | apply pw_below_drewN | apply below_drew1) | exact HB.out)))); have n1_ := Aside0.mk (below_step (by repeat (first | (with_reducible first | exact HB.out | apply below_alloc | apply pw_below_drewN | apply below_drew1) | exact HB.out)) hb); clear HB; have HO133 := n0_; have HB := n1_; clear n0_ n1_; clear hb ho19; obtain ⟨Ao20, co20, eo20⟩ := Kd.R_slice HO133.out; subst eo20) | ((with_reducible refine gate_callee (f := 13) rfl ?_); refine goesL_ (some 19) rfl rfl Tryd.func13 (by kernel_rfl) rfl #[.slice Ao20 y131.length co20, .int .i64 0] rfl (by (try simp only [List.map_toArray, List.map_cons, List.map_nil]); first | done | rfl | (simp only [List.length_drop, List.length_take]; rfl)) ?_; (with_reducible refine (workday_Next.calls _ _ y131 0 t134 t135 _ ?side1 ?side2 A2.out).mono ?_); (case side1 => repeat (first | exact (Kd.R_reads' HO133.out).2.2 | (with_reducible refine Kd.C_alloc ?_ _) | (with_reducible refine Kd.C_drewN ?_ _) | (with_reducible refine Kd.C_drew ?_))); (case side2 => exact (Kd.R_reads' HO133.out).2.1); rintro e w21 ⟨rfl, hb⟩; refine ⟨_, rfl, ?_⟩; have n0_ := Aside0.mk (Kd.R_below (by (with_reducible repeat (first | apply Kd.R_alloc | apply Kd.R_drewN | apply Kd.R_drew)); exact HO133.out) hb); have n1_ := Aside0.mk (below_step (by repeat (first | (with_reducible first | exact HB.out | apply below_alloc | apply pw_below_drewN | apply below_drew1) | exact HB.out)) hb); clear HO133; clear HB; have HO133 := n0_; have HB := n1_; clear n0_ n1_; (try clear hb); (try clear hb2); (try clear hk); (try clear hi)) | ((with_reducible refine gate_callee (f := 15) rfl ?_); refine goesL_ (some 23) rfl rfl Tryd.func15 (by kernel_rfl) rfl #[.slice none 0 0, .int .i64 2] rfl (by (try simp only [List.map_toArray, List.map_cons, List.map_nil]); first | done | rfl | (simp only [List.length_drop, List.length_take]; rfl)) ?_; (refine (workday_Before.calls _ _ ([] : List Int) 2 t136 t137 _ ?side1 ?side2 A3.out).mono ?_); (case side1 => exact Kd.C_nil _ _); (case side2 => exact Nat.le_refl _); rintro e w22 ⟨rfl, hb⟩; refine ⟨_, rfl, ?_⟩; have n0_ := Aside0.mk (Kd.R_below (by (with_reducible repeat (first | apply Kd.R_alloc | apply Kd.R_drewN | apply Kd.R_drew)); exact HO133.out) hb); have n1_ := Aside0.mk (below_step (by repeat (first | (with_reducible first | exact HB.out | apply below_alloc | apply pw_below_drewN | apply below_drew1) | exact HB.out)) hb); clear HO133; clear HB; have HO133 := n0_; have HB := n1_; clear n0_ n1_; (try clear hb); (try clear hb2); (try clear hk); (try clear hi)) | ((with_reducible refine gate_callee (f := 21) rfl ?_); refine goesL_ (some 27) rfl rfl Tryd.func21 (by kernel_rfl) rfl #[.slice none 0 0, .int .i64 2, .int .i64 5] rfl (by (try simp only [List.map_toArray, List.map_cons, List.map_nil]); first | done | rfl | (simp only [List.length_drop, List.length_take]; rfl)) ?_; (refine (workday_Add.calls _ _ ([] : List Int) 2 5 t138 t139 _ ?side1 ?side2 A4.out).mono ?_); (case side1 => exact Kd.C_nil _ _); (case side2 => exact Nat.le_refl _); rintro e w23 ⟨rfl, hb⟩; refine ⟨_, rfl, ?_⟩; have n0_ := Aside0.mk (Kd.R_below (by (with_reducible repeat (first | apply Kd.R_alloc | apply Kd.R_drewN | apply Kd.R_drew)); exact HO133.out) hb); have n1_ := Aside0.mk (below_step (by repeat (first | (with_reducible first | exact HB.out | apply below_alloc | apply pw_below_drewN | apply below_drew1) | exact HB.out)) hb); clear HO133; clear HB; have HO133 := n0_; have HB := n1_; clear n0_ n1_; (try clear hb); (try clear hb2); (try clear hk); (try clear hi)) | ((with_reducible refine gate_callee (f := 23) rfl ?_); refine goesL_ (some 31) rfl rfl Tryd.func23 (by kernel_rfl) rfl #[.slice none 0 0, .int .i64 0, .int .i64 9] rfl (by (try simp only [List.map_toArray, List.map_cons, List.map_nil]); first | done | rfl | (simp only [List.length_drop, List.length_take]; rfl)) ?_; (refine (workday_Count.calls _ _ ([] : List Int) 0 9 t140 t141 _ ?side1 ?side2 A5.out).mono ?_); (case side1 => exact Kd.C_nil _ _); (case side2 => exact Nat.le_refl _); rintro e w24 ⟨rfl, hb⟩; refine ⟨_, rfl, ?_⟩; have n0_ := Aside0.mk (Kd.R_below (by (with_reducible repeat (first | apply Kd.R_alloc | apply Kd.R_drewN | apply Kd.R_drew)); exact HO133.out) hb); have n1_ := Aside0.mk (below_step (by repeat (first | (with_reducible first | exact HB.out | apply below_alloc | apply pw_below_drewN | apply below_drew1) | exact HB.out)) hb); clear HO133; clear HB; have HO133 := n0_; have HB := n1_; clear n0_ n1_; (try clear hb); (try clear hb2); (try clear hk); (try clear hi)) | ((with_reducible refine gate_dst (N := 35) rfl ?_); refine Kd.R_lit (Kd.int .i64) _ 3 ?hg (N := 35) ?hd (xs := ([20] : List Int)) (inner := [.int .i64 20]) (ok := fun _ => True) (okp := fun _ => True) ?hr ?hp (fun _ hk => hk) trivial (Below.refl _ _) (Nat.le_refl _) (by simp) ?_; (case hd => rfl); (case hg => rfl); (case hr => first | (go_simp; done) | (go_simp; rfl)); (case hp => exact (Reps.one (show Kd.M (Kd.int .i64) _ _ _ 20 [.int .i64 20] from rfl) (Reps.none _ _))); intro v143 w25 ho26 hb hg_ hnew_; clear hg_ hnew_; (first | rw [← Ny142.out] at ho26 | (simp only [Int.reduceToNat] at ho26; rw [← Ny142.out] at ho26)); have n0_ := Aside0.mk (Kd.R_elder' (by (with_reducible repeat (first | apply Kd.R_alloc | apply Kd.R_drewN | apply Kd.R_drew)); exact HO133.out) (Kd.R_base ho26) hb); have n1_ := Aside0.mk (Kd.R_lower (Kd.R_new' ho26 (Kd.R_lt (by (with_reducible repeat (first | apply Kd.R_alloc | apply Kd.R_drewN | apply Kd.R_drew)); exact HO133.out))) (below_size (by repeat (first | (with_reducible first | exact HB.out | apply below_alloc | apply pw_below_drewN | apply below_drew1) | exact HB.out)))); have n2_ := Aside0.mk (below_step (by repeat (first | (with_reducible first | exact HB.out | apply below_alloc | apply pw_below_drewN | apply below_drew1) | exact HB.out)) hb); clear HO133; clear HB; have HO133 := n0_; have HO144 := n1_; have HB := n2_; clear n0_ n1_ n2_; clear hb ho26; obtain ⟨Ao27, co27, eo27⟩ := Kd.R_slice HO144.out; subst eo27) | ((with_reducible refine gate_callee (f := 25) rfl ?_); refine goesL_ (some 36) rfl rfl Tryd.func25 (by kernel_rfl) rfl #[.slice Ao27 y142.length co27, .int .i64 2000, .int .i64 1] rfl (by (try simp only [List.map_toArray, List.map_cons, List.map_nil]); first | done | rfl | (simp only [List.length_drop, List.length_take]; rfl)) ?_; (with_reducible refine (workday_Expiry.calls k _ _ y142 2000 1 t145 t146 _ (by repeat (first | exact HLONG.out | exact LongAt.after HLONG.out (by assumption) | exact LongAt.below HLONG.out (by assumption) | apply LongAt.drewN | apply LongAt.drew | apply LongAt.alloc)) ?side1 ?side2 A6.out).mono ?_); (case side1 => repeat (first | exact (Kd.R_reads' HO144.out).2.2 | (with_reducible refine Kd.C_alloc ?_ _) | (with_reducible refine Kd.C_drewN ?_ _) | (with_reducible refine Kd.C_drew ?_))); (case side2 => exact (Kd.R_reads' HO144.out).2.1); rintro e w28 ⟨rfl, hb⟩; refine ⟨_, rfl, ?_⟩; have n0_ := Aside0.mk (Kd.R_below (by (with_reducible repeat (first | apply Kd.R_alloc | apply Kd.R_drewN | apply Kd.R_drew)); exact HO133.out) hb); have n1_ := Aside0.mk (Kd.R_below (by (with_reducible repeat (first | apply Kd.R_alloc | apply Kd.R_drewN | apply Kd.R_drew)); exact HO144.out) hb); have n2_ := Aside0.mk (below_step (by repeat (first | (with_reducible first | exact HB.out | apply below_alloc | apply pw_below_drewN | apply below_drew1) | exact HB.out)) hb); clear HO133; clear HO144; clear HB; have HO133 := n0_; have HO144 := n1_; have HB := n2_; clear n0_ n1_ n2_; (try clear hb); (try clear hb2); (try clear hk); (try clear hi)))
                      go_ret
                      exact ⟨by first | rfl | (simp [errW_none, errW_some] <;> rfl) | (simp [*, errW_none, errW_some] <;> rfl), by repeat (first | (with_reducible first | exact HB.out | apply below_alloc | apply pw_below_drewN | apply below_drew1) | exact HB.out)⟩
                    · rw [if_neg c16] at H
                      exact absurd H (by simp)
                  · rw [if_neg c15] at H
                    exact absurd H (by simp)
                · rw [if_neg c14] at H
                  exact absurd H (by simp)
              · rw [if_neg c13] at H
                exact absurd H (by simp)
            · rw [if_neg c12] at H
              exact absurd H (by simp)
          · rw [if_neg c11] at H
            exact absurd H (by simp)
        · rw [if_neg c10] at H
          exact absurd H (by simp)
      · rw [if_neg c9] at H
        exact absurd H (by simp)
    · rw [if_neg c8] at H
      exact absurd H (by simp)
  · rw [if_neg c7] at H
    exact absurd H (by simp)

/-! ### contangolaw06_WorkdayCounts: function 7 -/
mutual
def contangolaw06_WorkdayCounts.j0 : Nat → List Int → Int → Bool → Int → Int → Int → Option (Bool)
  | 0, _, _, _, _, _, _ => none
  | k + 1, x0, x2, x75, x148000, x148001, x148002 => if x75 = true then (none) else ((workday_Add.f x0 x148000 (wrap64 (x2))).bind fun bt154 => (if bt154.2 = 0 then (contangolaw06_WorkdayCounts.j1 k x0 x2 bt154.1 (x2 == 0) x148000 x148001 x148002) else (contangolaw06_WorkdayCounts.j1 k x0 x2 bt154.1 true x148000 x148001 x148002)))
def contangolaw06_WorkdayCounts.j1 : Nat → List Int → Int → Int → Bool → Int → Int → Int → Option (Bool)
  | 0, _, _, _, _, _, _, _ => none
  | k + 1, x0, x2, x13, x90, x148000, x148001, x148002 => if x90 = true then ((contangolaw06_goes.f k).bind fun t156 => (some t156)) else ((workday_Count.f x0 (wrap64 (x148000 + 1)) x13).bind fun bt157 => (if bt157.1 = (wrap64 (x2)) then (if bt157.2 = 0 then ((contangolaw06_goes.f k).bind fun t159 => (some t159)) else (none)) else (none)))
end
def contangolaw06_WorkdayCounts.f (k : Nat) (l0 : List Int) (a1_0 : Int) (a1_1 : Int) (a1_2 : Int) (a2 : Int) : Option (Bool) := (workday_Count.f l0 a1_0 a1_1).bind fun bt148 => ((workday_Count.f l0 (wrap64 (a1_1 + 1)) a1_2).bind fun bt150 => ((workday_Count.f l0 a1_0 a1_2).bind fun bt152 => (if bt148.2 = 0 then (if bt150.2 = 0 then (if bt152.2 = 0 then (if a1_0 ≤ a1_1 then (if a1_1 < a1_2 then (contangolaw06_WorkdayCounts.j0 k l0 a2 ((wrap64 (bt148.1 + bt150.1)) != bt152.1) a1_0 a1_1 a1_2) else (contangolaw06_WorkdayCounts.j0 k l0 a2 false a1_0 a1_1 a1_2)) else (contangolaw06_WorkdayCounts.j0 k l0 a2 false a1_0 a1_1 a1_2)) else (contangolaw06_WorkdayCounts.j0 k l0 a2 false a1_0 a1_1 a1_2)) else (contangolaw06_WorkdayCounts.j0 k l0 a2 false a1_0 a1_1 a1_2)) else (contangolaw06_WorkdayCounts.j0 k l0 a2 false a1_0 a1_1 a1_2))))
theorem contangolaw06_WorkdayCounts.mono_l : ∀ k, (∀ y0 y1 y2 y3 y4 y5, LeO (contangolaw06_WorkdayCounts.j0 k y0 y1 y2 y3 y4 y5) (contangolaw06_WorkdayCounts.j0 (k + 1) y0 y1 y2 y3 y4 y5)) ∧ (∀ y0 y1 y2 y3 y4 y5 y6, LeO (contangolaw06_WorkdayCounts.j1 k y0 y1 y2 y3 y4 y5 y6) (contangolaw06_WorkdayCounts.j1 (k + 1) y0 y1 y2 y3 y4 y5 y6))
  | 0 => ⟨fun _ _ _ _ _ _ r h => by simp [contangolaw06_WorkdayCounts.j0] at h, fun _ _ _ _ _ _ _ r h => by simp [contangolaw06_WorkdayCounts.j1] at h⟩
  | k + 1 => by
    obtain ⟨ih0, ih1⟩ := contangolaw06_WorkdayCounts.mono_l k
    refine ⟨?_, ?_⟩
    · intro y0 y1 y2 y3 y4 y5
      unfold contangolaw06_WorkdayCounts.j0
      repeat' first
      | (with_reducible exact ih0 _ _ _ _ _ _)
      | (with_reducible exact ih1 _ _ _ _ _ _ _)
      | (with_reducible exact contangolaw06_goes.mono _)
      | (with_reducible exact LeO.refl _)
      | (with_reducible exact LeO.none _)
      | (with_reducible refine LeO.ite ?_ ?_)
      | (with_reducible refine LeO.bind ?_ (fun _ => ?_))
      | exact ih0 _ _ _ _ _ _
      | exact ih1 _ _ _ _ _ _ _
      | exact contangolaw06_goes.mono _
      | exact LeO.none _
      | refine LeO.ite ?_ ?_
      | refine LeO.bind ?_ (fun _ => ?_)
    · intro y0 y1 y2 y3 y4 y5 y6
      unfold contangolaw06_WorkdayCounts.j1
      repeat' first
      | (with_reducible exact ih0 _ _ _ _ _ _)
      | (with_reducible exact ih1 _ _ _ _ _ _ _)
      | (with_reducible exact contangolaw06_goes.mono _)
      | (with_reducible exact LeO.refl _)
      | (with_reducible exact LeO.none _)
      | (with_reducible refine LeO.ite ?_ ?_)
      | (with_reducible refine LeO.bind ?_ (fun _ => ?_))
      | exact ih0 _ _ _ _ _ _
      | exact ih1 _ _ _ _ _ _ _
      | exact contangolaw06_goes.mono _
      | exact LeO.none _
      | refine LeO.ite ?_ ?_
      | refine LeO.bind ?_ (fun _ => ?_)
theorem contangolaw06_WorkdayCounts.mono : ∀ a0 a1 a2 a3 a4 k, LeO (contangolaw06_WorkdayCounts.f k a0 a1 a2 a3 a4) (contangolaw06_WorkdayCounts.f (k + 1) a0 a1 a2 a3 a4) := by
  intro a0 a1 a2 a3 a4 k
  obtain ⟨ih0, ih1⟩ := contangolaw06_WorkdayCounts.mono_l k
  unfold contangolaw06_WorkdayCounts.f
  repeat' first
      | (with_reducible exact ih0 _ _ _ _ _ _)
      | (with_reducible exact ih1 _ _ _ _ _ _ _)
      | (with_reducible exact contangolaw06_goes.mono _)
      | (with_reducible exact LeO.refl _)
      | (with_reducible exact LeO.none _)
      | (with_reducible refine LeO.ite ?_ ?_)
      | (with_reducible refine LeO.bind ?_ (fun _ => ?_))
      | exact ih0 _ _ _ _ _ _
      | exact ih1 _ _ _ _ _ _ _
      | exact contangolaw06_goes.mono _
      | exact LeO.none _
      | refine LeO.ite ?_ ?_
      | refine LeO.bind ?_ (fun _ => ?_)
set_option maxHeartbeats 8000000 in
set_option maxRecDepth 100000 in
theorem contangolaw06_WorkdayCounts.calls (k : Nat) (A0 : Option Addr) (c0 : Nat) (l0 : List Int) (a1_0 : Int) (a1_1 : Int) (a1_2 : Int) (a2 : Int) (r : Bool) (w : World) (hL : LongAt w) (hr0 : Kd.C (Kd.int .i64) w A0 l0.length l0) (hc0 : l0.length ≤ c0) (h : contangolaw06_WorkdayCounts.f k l0 a1_0 a1_1 a1_2 a2 = some r) :
    Calls Tryd.prog 7 #[.slice A0 l0.length c0, .agg #[.int .i64 a1_0, .int .i64 a1_1, .int .i64 a1_2], .int .u8 a2] w fun e w' => e = .returned (.bool r) ∧ Below w.heap.size w w' := by
  have HLONG := Aside0.mk hL
  clear hL
  have hu41 := Tryd.underlying41
  have HR0 := Aside0.mk hr0
  have HC0 := Aside0.mk hc0
  clear hr0 hc0
  have HB := Aside0.mk (Below.refl w.heap.size w)
  have H : ((workday_Count.f l0 a1_0 a1_1).bind fun bt148 => ((workday_Count.f l0 (wrap64 (a1_1 + 1)) a1_2).bind fun bt150 => ((workday_Count.f l0 a1_0 a1_2).bind fun bt152 => (if bt148.2 = 0 then (if bt150.2 = 0 then (if bt152.2 = 0 then (if a1_0 ≤ a1_1 then (if a1_1 < a1_2 then (contangolaw06_WorkdayCounts.j0 k l0 a2 ((wrap64 (bt148.1 + bt150.1)) != bt152.1) a1_0 a1_1 a1_2) else (contangolaw06_WorkdayCounts.j0 k l0 a2 false a1_0 a1_1 a1_2)) else (contangolaw06_WorkdayCounts.j0 k l0 a2 false a1_0 a1_1 a1_2)) else (contangolaw06_WorkdayCounts.j0 k l0 a2 false a1_0 a1_1 a1_2)) else (contangolaw06_WorkdayCounts.j0 k l0 a2 false a1_0 a1_1 a1_2)) else (contangolaw06_WorkdayCounts.j0 k l0 a2 false a1_0 a1_1 a1_2))))) = some r := h
  clear h
  replace H := Option.bind_eq_some_iff.mp H
  obtain ⟨⟨t148, t149⟩, A40, H⟩ := H
  replace H : ((workday_Count.f l0 (wrap64 (a1_1 + 1)) a1_2).bind fun bt150 => ((workday_Count.f l0 a1_0 a1_2).bind fun bt152 => (if t149 = 0 then (if bt150.2 = 0 then (if bt152.2 = 0 then (if a1_0 ≤ a1_1 then (if a1_1 < a1_2 then (contangolaw06_WorkdayCounts.j0 k l0 a2 ((wrap64 (t148 + bt150.1)) != bt152.1) a1_0 a1_1 a1_2) else (contangolaw06_WorkdayCounts.j0 k l0 a2 false a1_0 a1_1 a1_2)) else (contangolaw06_WorkdayCounts.j0 k l0 a2 false a1_0 a1_1 a1_2)) else (contangolaw06_WorkdayCounts.j0 k l0 a2 false a1_0 a1_1 a1_2)) else (contangolaw06_WorkdayCounts.j0 k l0 a2 false a1_0 a1_1 a1_2)) else (contangolaw06_WorkdayCounts.j0 k l0 a2 false a1_0 a1_1 a1_2)))) = some r := H
  have A4 := Aside0.mk A40
  clear A40
  replace H := Option.bind_eq_some_iff.mp H
  obtain ⟨⟨t150, t151⟩, A50, H⟩ := H
  replace H : ((workday_Count.f l0 a1_0 a1_2).bind fun bt152 => (if t149 = 0 then (if t151 = 0 then (if bt152.2 = 0 then (if a1_0 ≤ a1_1 then (if a1_1 < a1_2 then (contangolaw06_WorkdayCounts.j0 k l0 a2 ((wrap64 (t148 + t150)) != bt152.1) a1_0 a1_1 a1_2) else (contangolaw06_WorkdayCounts.j0 k l0 a2 false a1_0 a1_1 a1_2)) else (contangolaw06_WorkdayCounts.j0 k l0 a2 false a1_0 a1_1 a1_2)) else (contangolaw06_WorkdayCounts.j0 k l0 a2 false a1_0 a1_1 a1_2)) else (contangolaw06_WorkdayCounts.j0 k l0 a2 false a1_0 a1_1 a1_2)) else (contangolaw06_WorkdayCounts.j0 k l0 a2 false a1_0 a1_1 a1_2))) = some r := H
  have A5 := Aside0.mk A50
  clear A50
  replace H := Option.bind_eq_some_iff.mp H
  obtain ⟨⟨t152, t153⟩, A60, H⟩ := H
  replace H : (if t149 = 0 then (if t151 = 0 then (if t153 = 0 then (if a1_0 ≤ a1_1 then (if a1_1 < a1_2 then (contangolaw06_WorkdayCounts.j0 k l0 a2 ((wrap64 (t148 + t150)) != t152) a1_0 a1_1 a1_2) else (contangolaw06_WorkdayCounts.j0 k l0 a2 false a1_0 a1_1 a1_2)) else (contangolaw06_WorkdayCounts.j0 k l0 a2 false a1_0 a1_1 a1_2)) else (contangolaw06_WorkdayCounts.j0 k l0 a2 false a1_0 a1_1 a1_2)) else (contangolaw06_WorkdayCounts.j0 k l0 a2 false a1_0 a1_1 a1_2)) else (contangolaw06_WorkdayCounts.j0 k l0 a2 false a1_0 a1_1 a1_2)) = some r := H
  have A6 := Aside0.mk A60
  clear A60
  have HC7 := Aside0.mk H
  clear H
  go_enter Tryd.func7, Tryd.ntmps7
  go_upto_region 4 with (first | ((with_reducible refine gate_dst (N := 4) rfl ?_); refine box_event ?hg (N := 4) ?hd (cs := #[.int .i64 a1_0, .int .i64 a1_1, .int .i64 a1_2]) (t := 41) ?hr ?_; (case hd => rfl); (case hg => rfl); (case hr => first | (go_simp; done) | (go_simp; rfl)); intro gb147 hg w8 hbox hb; have n0_ := Aside0.mk (below_step (by repeat (first | (with_reducible first | exact HB.out | apply below_alloc | apply pw_below_drewN | apply below_drew1) | exact HB.out)) hb); have n1_ := Aside0.mk (hbox); have n2_ := Aside0.mk ((by rw [hg]; exact (below_size (by repeat (first | (with_reducible first | exact HB.out | apply below_alloc | apply pw_below_drewN | apply below_drew1) | exact HB.out))) : w.heap.size ≤ gb147)); have n3_ := Aside0.mk ((by rw [hg]; exact (below_size (by repeat (first | (with_reducible first | exact HB.out | apply below_alloc | apply pw_below_drewN | apply below_drew1) | exact HB.out))) : w.heap.size ≤ gb147)); clear HB; have HB := n0_; have BK147 := n1_; have GW147 := n2_; have GE147 := n3_; clear n0_ n1_ n2_ n3_; clear hb hbox hg; have hcz9_0 : w8.cell? ⟨gb147, 0, none⟩ = some (.int .i64 a1_0) := (blk_cell BK147.out 0).trans rfl; have hcz9_1 : w8.cell? ⟨gb147, 1, none⟩ = some (.int .i64 a1_1) := (blk_cell BK147.out 1).trans rfl; have hcz9_2 : w8.cell? ⟨gb147, 2, none⟩ = some (.int .i64 a1_2) := (blk_cell BK147.out 2).trans rfl; have hfz9_0 := blk_frozen BK147.out 0; have hfz9_1 := blk_frozen BK147.out 1; have hfz9_2 := blk_frozen BK147.out 2) | ((with_reducible refine gate_callee (f := 23) rfl ?_); refine goesL_ (some 23) rfl rfl Tryd.func23 (by kernel_rfl) rfl #[.slice A0 l0.length c0, .int .i64 a1_0, .int .i64 a1_1] rfl (by (try simp only [List.map_toArray, List.map_cons, List.map_nil]); first | done | rfl | (simp only [List.length_drop, List.length_take]; rfl)) ?_; (with_reducible refine (workday_Count.calls _ _ l0 a1_0 a1_1 t148 t149 _ ?side1 ?side2 A4.out).mono ?_); (case side1 => repeat (first | exact (Kd.C_below HR0.out HB.out) | (with_reducible refine Kd.C_alloc ?_ _) | (with_reducible refine Kd.C_drewN ?_ _) | (with_reducible refine Kd.C_drew ?_))); (case side2 => exact HC0.out); rintro e w10 ⟨rfl, hb⟩; refine ⟨_, rfl, ?_⟩; have n0_ := Aside0.mk (blk_below (g := gb147) (o := .cells #[.int .i64 a1_0, .int .i64 a1_1, .int .i64 a1_2] 41 (0, 0)) (by (with_reducible repeat (first | refine blk_drewN ?_ _ | refine blk_drew ?_ | refine blk_alloc ?_ _)); exact BK147.out) hb); have n1_ := Aside0.mk (below_step (by repeat (first | (with_reducible first | exact HB.out | apply below_alloc | apply pw_below_drewN | apply below_drew1 | refine below_set ?_ GE147.out) | exact HB.out)) hb); clear BK147; clear HB; have BK147 := n0_; have HB := n1_; clear n0_ n1_; (try clear hb); (try clear hb2); (try clear hk); (try clear hi); have hcz11_0 : w10.cell? ⟨gb147, 0, none⟩ = some (.int .i64 a1_0) := (blk_cell BK147.out 0).trans rfl; have hcz11_1 : w10.cell? ⟨gb147, 1, none⟩ = some (.int .i64 a1_1) := (blk_cell BK147.out 1).trans rfl; have hcz11_2 : w10.cell? ⟨gb147, 2, none⟩ = some (.int .i64 a1_2) := (blk_cell BK147.out 2).trans rfl; have hfz11_0 := blk_frozen BK147.out 0; have hfz11_1 := blk_frozen BK147.out 1; have hfz11_2 := blk_frozen BK147.out 2) | ((with_reducible refine gate_callee (f := 23) rfl ?_); refine goesL_ (some 33) rfl rfl Tryd.func23 (by kernel_rfl) rfl #[.slice A0 l0.length c0, .int .i64 (wrap64 (a1_1 + 1)), .int .i64 a1_2] rfl (by (try simp only [List.map_toArray, List.map_cons, List.map_nil]); first | done | rfl | (simp only [List.length_drop, List.length_take]; rfl)) ?_; (with_reducible refine (workday_Count.calls _ _ l0 (wrap64 (a1_1 + 1)) a1_2 t150 t151 _ ?side1 ?side2 A5.out).mono ?_); (case side1 => repeat (first | exact (Kd.C_below HR0.out HB.out) | (with_reducible refine Kd.C_alloc ?_ _) | (with_reducible refine Kd.C_drewN ?_ _) | (with_reducible refine Kd.C_drew ?_))); (case side2 => exact HC0.out); rintro e w12 ⟨rfl, hb⟩; refine ⟨_, rfl, ?_⟩; have n0_ := Aside0.mk (blk_below (g := gb147) (o := .cells #[.int .i64 a1_0, .int .i64 a1_1, .int .i64 a1_2] 41 (0, 0)) (by (with_reducible repeat (first | refine blk_drewN ?_ _ | refine blk_drew ?_ | refine blk_alloc ?_ _)); exact BK147.out) hb); have n1_ := Aside0.mk (below_step (by repeat (first | (with_reducible first | exact HB.out | apply below_alloc | apply pw_below_drewN | apply below_drew1 | refine below_set ?_ GE147.out) | exact HB.out)) hb); clear BK147; clear HB; have BK147 := n0_; have HB := n1_; clear n0_ n1_; (try clear hb); (try clear hb2); (try clear hk); (try clear hi); have hcz13_0 : w12.cell? ⟨gb147, 0, none⟩ = some (.int .i64 a1_0) := (blk_cell BK147.out 0).trans rfl; have hcz13_1 : w12.cell? ⟨gb147, 1, none⟩ = some (.int .i64 a1_1) := (blk_cell BK147.out 1).trans rfl; have hcz13_2 : w12.cell? ⟨gb147, 2, none⟩ = some (.int .i64 a1_2) := (blk_cell BK147.out 2).trans rfl; have hfz13_0 := blk_frozen BK147.out 0; have hfz13_1 := blk_frozen BK147.out 1; have hfz13_2 := blk_frozen BK147.out 2) | ((with_reducible refine gate_callee (f := 23) rfl ?_); refine goesL_ (some 42) rfl rfl Tryd.func23 (by kernel_rfl) rfl #[.slice A0 l0.length c0, .int .i64 a1_0, .int .i64 a1_2] rfl (by (try simp only [List.map_toArray, List.map_cons, List.map_nil]); first | done | rfl | (simp only [List.length_drop, List.length_take]; rfl)) ?_; (with_reducible refine (workday_Count.calls _ _ l0 a1_0 a1_2 t152 t153 _ ?side1 ?side2 A6.out).mono ?_); (case side1 => repeat (first | exact (Kd.C_below HR0.out HB.out) | (with_reducible refine Kd.C_alloc ?_ _) | (with_reducible refine Kd.C_drewN ?_ _) | (with_reducible refine Kd.C_drew ?_))); (case side2 => exact HC0.out); rintro e w14 ⟨rfl, hb⟩; refine ⟨_, rfl, ?_⟩; have n0_ := Aside0.mk (blk_below (g := gb147) (o := .cells #[.int .i64 a1_0, .int .i64 a1_1, .int .i64 a1_2] 41 (0, 0)) (by (with_reducible repeat (first | refine blk_drewN ?_ _ | refine blk_drew ?_ | refine blk_alloc ?_ _)); exact BK147.out) hb); have n1_ := Aside0.mk (below_step (by repeat (first | (with_reducible first | exact HB.out | apply below_alloc | apply pw_below_drewN | apply below_drew1 | refine below_set ?_ GE147.out) | exact HB.out)) hb); clear BK147; clear HB; have BK147 := n0_; have HB := n1_; clear n0_ n1_; (try clear hb); (try clear hb2); (try clear hk); (try clear hi)))
  (try simp only [Act.put, List.setIfInBounds_toArray, List.set_cons_zero, List.set_cons_succ])
  go_cut [75] (fun v75 wc => ∃ (kq : Nat) (x75_6 : Bool), v75 = .bool x75_6 ∧ Aside0 (contangolaw06_WorkdayCounts.j0 kq l0 a2 x75_6 a1_0 a1_1 a1_2 = some r) ∧ Aside0 (kq ≤ k) ∧ Aside0 (wc.heap[gb147]? = some (.cells #[.int .i64 a1_0, .int .i64 a1_1, .int .i64 a1_2] 41 (0, 0))) ∧ Aside0 (Below w.heap.size w wc))
  case first =>
    have H := HC7.out
    clear HC7
    by_cases c15 : t149 = 0
    · rw [if_pos c15] at H
      have c15b0 : (t149 == 0) = true := beq_iff_eq.mpr c15
      have c15b1 : (t149 != 0) = false := bne_eq_false_iff_eq.mpr c15
      clear c15
      (first | rw [c15b0] | (simp only [i64_w, i32_w]; rw [c15b0]) | rw [c15b1] | skip)
      by_cases c16 : t151 = 0
      · rw [if_pos c16] at H
        have c16b0 : (t151 == 0) = true := beq_iff_eq.mpr c16
        have c16b1 : (t151 != 0) = false := bne_eq_false_iff_eq.mpr c16
        clear c16
        by_cases c17 : t153 = 0
        · rw [if_pos c17] at H
          have c17b0 : (t153 == 0) = true := beq_iff_eq.mpr c17
          have c17b1 : (t153 != 0) = false := bne_eq_false_iff_eq.mpr c17
          clear c17
          by_cases c18 : a1_0 ≤ a1_1
          · rw [if_pos c18] at H
            have c18b0 : decide (a1_0 ≤ a1_1) = true := decide_eq_true c18
            clear c18
            by_cases c19 : a1_1 < a1_2
            · rw [if_pos c19] at H
              have c19b0 : decide (a1_1 < a1_2) = true := decide_eq_true c19
              clear c19
              have H' := Aside0.mk H
              clear H
              have hcz20_0 : w14.cell? ⟨gb147, 0, none⟩ = some (.int .i64 a1_0) := (blk_cell BK147.out 0).trans rfl
              have hcz20_1 : w14.cell? ⟨gb147, 1, none⟩ = some (.int .i64 a1_1) := (blk_cell BK147.out 1).trans rfl
              have hcz20_2 : w14.cell? ⟨gb147, 2, none⟩ = some (.int .i64 a1_2) := (blk_cell BK147.out 2).trans rfl
              have hfz20_0 := blk_frozen BK147.out 0
              have hfz20_1 := blk_frozen BK147.out 1
              have hfz20_2 := blk_frozen BK147.out 2
              go_wp2
              go_meet
              case rel => exact ⟨_, (((wrap64 (t148 + t150)) != t152)), (by first | rfl | (simp; done) | (simp [*]; done)), H', ⟨by first | omega | exact Nat.le_refl _⟩, ⟨by (with_reducible repeat (first | refine blk_drewN ?_ _ | refine blk_drew ?_ | refine blk_alloc ?_ _)); exact BK147.out⟩, ⟨by repeat (first | (with_reducible first | exact HB.out | apply below_alloc | apply pw_below_drewN | apply below_drew1 | refine below_set ?_ GE147.out) | exact HB.out)⟩⟩
            · rw [if_neg c19] at H
              have c19b0 : decide (a1_1 < a1_2) = false := decide_eq_false c19
              clear c19
              have H' := Aside0.mk H
              clear H
              have hcz21_0 : w14.cell? ⟨gb147, 0, none⟩ = some (.int .i64 a1_0) := (blk_cell BK147.out 0).trans rfl
              have hcz21_1 : w14.cell? ⟨gb147, 1, none⟩ = some (.int .i64 a1_1) := (blk_cell BK147.out 1).trans rfl
              have hcz21_2 : w14.cell? ⟨gb147, 2, none⟩ = some (.int .i64 a1_2) := (blk_cell BK147.out 2).trans rfl
              have hfz21_0 := blk_frozen BK147.out 0
              have hfz21_1 := blk_frozen BK147.out 1
              have hfz21_2 := blk_frozen BK147.out 2
              go_wp2
              go_meet
              case rel => exact ⟨_, (false), (by first | rfl | (simp; done) | (simp [*]; done)), H', ⟨by first | omega | exact Nat.le_refl _⟩, ⟨by (with_reducible repeat (first | refine blk_drewN ?_ _ | refine blk_drew ?_ | refine blk_alloc ?_ _)); exact BK147.out⟩, ⟨by repeat (first | (with_reducible first | exact HB.out | apply below_alloc | apply pw_below_drewN | apply below_drew1 | refine below_set ?_ GE147.out) | exact HB.out)⟩⟩
          · rw [if_neg c18] at H
            have c18b0 : decide (a1_0 ≤ a1_1) = false := decide_eq_false c18
            clear c18
            have H' := Aside0.mk H
            clear H
            have hcz22_0 : w14.cell? ⟨gb147, 0, none⟩ = some (.int .i64 a1_0) := (blk_cell BK147.out 0).trans rfl
            have hcz22_1 : w14.cell? ⟨gb147, 1, none⟩ = some (.int .i64 a1_1) := (blk_cell BK147.out 1).trans rfl
            have hcz22_2 : w14.cell? ⟨gb147, 2, none⟩ = some (.int .i64 a1_2) := (blk_cell BK147.out 2).trans rfl
            have hfz22_0 := blk_frozen BK147.out 0
            have hfz22_1 := blk_frozen BK147.out 1
            have hfz22_2 := blk_frozen BK147.out 2
            go_wp2
            go_meet
            case rel => exact ⟨_, (false), (by first | rfl | (simp; done) | (simp [*]; done)), H', ⟨by first | omega | exact Nat.le_refl _⟩, ⟨by (with_reducible repeat (first | refine blk_drewN ?_ _ | refine blk_drew ?_ | refine blk_alloc ?_ _)); exact BK147.out⟩, ⟨by repeat (first | (with_reducible first | exact HB.out | apply below_alloc | apply pw_below_drewN | apply below_drew1 | refine below_set ?_ GE147.out) | exact HB.out)⟩⟩
        · rw [if_neg c17] at H
          have c17b0 : (t153 == 0) = false := beq_eq_false_iff_ne.mpr c17
          have c17b1 : (t153 != 0) = true := bne_iff_ne.mpr c17
          have H' := Aside0.mk H
          clear H
          go_wp2
          go_meet
          case rel => exact ⟨_, (false), (by first | rfl | (simp; done) | (simp [*]; done)), H', ⟨by first | omega | exact Nat.le_refl _⟩, ⟨by (with_reducible repeat (first | refine blk_drewN ?_ _ | refine blk_drew ?_ | refine blk_alloc ?_ _)); exact BK147.out⟩, ⟨by repeat (first | (with_reducible first | exact HB.out | apply below_alloc | apply pw_below_drewN | apply below_drew1 | refine below_set ?_ GE147.out) | exact HB.out)⟩⟩
      · rw [if_neg c16] at H
        have c16b0 : (t151 == 0) = false := beq_eq_false_iff_ne.mpr c16
        have c16b1 : (t151 != 0) = true := bne_iff_ne.mpr c16
        have H' := Aside0.mk H
        clear H
        go_wp2
        go_meet
        case rel => exact ⟨_, (false), (by first | rfl | (simp; done) | (simp [*]; done)), H', ⟨by first | omega | exact Nat.le_refl _⟩, ⟨by (with_reducible repeat (first | refine blk_drewN ?_ _ | refine blk_drew ?_ | refine blk_alloc ?_ _)); exact BK147.out⟩, ⟨by repeat (first | (with_reducible first | exact HB.out | apply below_alloc | apply pw_below_drewN | apply below_drew1 | refine below_set ?_ GE147.out) | exact HB.out)⟩⟩
    · rw [if_neg c15] at H
      have c15b0 : (t149 == 0) = false := beq_eq_false_iff_ne.mpr c15
      have c15b1 : (t149 != 0) = true := bne_iff_ne.mpr c15
      (first | rw [c15b0] | (simp only [i64_w, i32_w]; rw [c15b0]) | rw [c15b1] | skip)
      have H' := Aside0.mk H
      clear H
      go_wp2
      go_meet
      case rel => exact ⟨_, (false), (by first | rfl | (simp; done) | (simp [*]; done)), H', ⟨by first | omega | exact Nat.le_refl _⟩, ⟨by (with_reducible repeat (first | refine blk_drewN ?_ _ | refine blk_drew ?_ | refine blk_alloc ?_ _)); exact BK147.out⟩, ⟨by repeat (first | (with_reducible first | exact HB.out | apply below_alloc | apply pw_below_drewN | apply below_drew1 | refine below_set ?_ GE147.out) | exact HB.out)⟩⟩
  case rest =>
    clear HC7
    try clear c1
    try clear c2
    try clear p2
    try clear p6
    try clear c7
    try clear c15
    try clear c15b0
    try clear c15b1
    try clear c16
    try clear c16b0
    try clear c16b1
    try clear c17
    try clear c17b0
    try clear c17b1
    try clear c18
    try clear c18b0
    try clear c19
    try clear c19b0
    try clear hcz11_0
    try clear hcz11_1
    try clear hcz11_2
    try clear hcz13_0
    try clear hcz13_1
    try clear hcz13_2
    try clear hcz20_0
    try clear hcz20_1
    try clear hcz20_2
    try clear hcz21_0
    try clear hcz21_1
    try clear hcz21_2
    try clear hcz22_0
    try clear hcz22_1
    try clear hcz22_2
    try clear hcz9_0
    try clear hcz9_1
    try clear hcz9_2
    try clear hfz11_0
    try clear hfz11_1
    try clear hfz11_2
    try clear hfz13_0
    try clear hfz13_1
    try clear hfz13_2
    try clear hfz20_0
    try clear hfz20_1
    try clear hfz20_2
    try clear hfz21_0
    try clear hfz21_1
    try clear hfz21_2
    try clear hfz22_0
    try clear hfz22_1
    try clear hfz22_2
    try clear hfz9_0
    try clear hfz9_1
    try clear hfz9_2
    obtain ⟨kq, x75_6, rfl, HA, HJ6, BK147, HB⟩ := hcut
    cases kq with
    | zero => exact absurd HA.out (by simp [contangolaw06_WorkdayCounts.j0])
    | succ kj6 =>
      have H := HA.out
      clear HA
      simp only [contangolaw06_WorkdayCounts.j0] at H
      by_cases c23 : x75_6 = true
      · subst c23
        have H1 : (none) = some r := by rw [if_pos rfl] at H; exact H
        clear H
        have H := H1
        clear H1
        exact absurd H (by simp)
      · replace c23 := Bool.eq_false_iff.mpr c23
        subst c23
        have H1 : ((workday_Add.f l0 a1_0 (wrap64 (a2))).bind fun bt154 => (if bt154.2 = 0 then (contangolaw06_WorkdayCounts.j1 kj6 l0 a2 bt154.1 (a2 == 0) a1_0 a1_1 a1_2) else (contangolaw06_WorkdayCounts.j1 kj6 l0 a2 bt154.1 true a1_0 a1_1 a1_2))) = some r := by rw [if_neg (show ¬ (false = true) by decide)] at H; exact H
        clear H
        have H := H1
        clear H1
        replace H := Option.bind_eq_some_iff.mp H
        obtain ⟨⟨t154, t155⟩, A240, H⟩ := H
        replace H : (if t155 = 0 then (contangolaw06_WorkdayCounts.j1 kj6 l0 a2 t154 (a2 == 0) a1_0 a1_1 a1_2) else (contangolaw06_WorkdayCounts.j1 kj6 l0 a2 t154 true a1_0 a1_1 a1_2)) = some r := H
        have A24 := Aside0.mk A240
        clear A240
        have HC25 := Aside0.mk H
        clear H
        have hcz26_0 : wc.cell? ⟨gb147, 0, none⟩ = some (.int .i64 a1_0) := (blk_cell BK147.out 0).trans rfl
        have hcz26_1 : wc.cell? ⟨gb147, 1, none⟩ = some (.int .i64 a1_1) := (blk_cell BK147.out 1).trans rfl
        have hcz26_2 : wc.cell? ⟨gb147, 2, none⟩ = some (.int .i64 a1_2) := (blk_cell BK147.out 2).trans rfl
        have hfz26_0 := blk_frozen BK147.out 0
        have hfz26_1 := blk_frozen BK147.out 1
        have hfz26_2 := blk_frozen BK147.out 2
        go_upto_region 7 with (first | ((with_reducible refine gate_callee (f := 21) rfl ?_); refine goesL_ (some 82) rfl rfl Tryd.func21 (by kernel_rfl) rfl #[.slice A0 l0.length c0, .int .i64 a1_0, .int .i64 (wrap64 (a2))] rfl (by (try simp only [List.map_toArray, List.map_cons, List.map_nil]); first | done | rfl | (simp only [List.length_drop, List.length_take]; rfl)) ?_; (with_reducible refine (workday_Add.calls _ _ l0 a1_0 (wrap64 (a2)) t154 t155 _ ?side1 ?side2 A24.out).mono ?_); (case side1 => repeat (first | exact (Kd.C_below HR0.out HB.out) | (with_reducible refine Kd.C_alloc ?_ _) | (with_reducible refine Kd.C_drewN ?_ _) | (with_reducible refine Kd.C_drew ?_))); (case side2 => exact HC0.out); rintro e w27 ⟨rfl, hb⟩; refine ⟨_, rfl, ?_⟩; have n0_ := Aside0.mk (blk_below (g := gb147) (o := .cells #[.int .i64 a1_0, .int .i64 a1_1, .int .i64 a1_2] 41 (0, 0)) (by (with_reducible repeat (first | refine blk_drewN ?_ _ | refine blk_drew ?_ | refine blk_alloc ?_ _)); exact BK147.out) hb); have n1_ := Aside0.mk (below_step (by repeat (first | (with_reducible first | exact HB.out | apply below_alloc | apply pw_below_drewN | apply below_drew1 | refine below_set ?_ GE147.out) | exact HB.out)) hb); clear BK147; clear HB; have BK147 := n0_; have HB := n1_; clear n0_ n1_; (try clear hb); (try clear hb2); (try clear hk); (try clear hi)))
        (try simp only [Act.put, List.setIfInBounds_toArray, List.set_cons_zero, List.set_cons_succ])
        go_cut [90] (fun v90 wc => ∃ (kq : Nat) (x90_24 : Bool), v90 = .bool x90_24 ∧ Aside0 (contangolaw06_WorkdayCounts.j1 kq l0 a2 t154 x90_24 a1_0 a1_1 a1_2 = some r) ∧ Aside0 (kq ≤ kj6) ∧ Aside0 (wc.heap[gb147]? = some (.cells #[.int .i64 a1_0, .int .i64 a1_1, .int .i64 a1_2] 41 (0, 0))) ∧ Aside0 (Below w.heap.size w wc))
        case first =>
          have H := HC25.out
          clear HC25
          by_cases c28 : t155 = 0
          · rw [if_pos c28] at H
            have c28b0 : (t155 == 0) = true := beq_iff_eq.mpr c28
            have c28b1 : (t155 != 0) = false := bne_eq_false_iff_eq.mpr c28
            clear c28
            (first | rw [c28b0] | (simp only [i64_w, i32_w]; rw [c28b0]) | rw [c28b1] | skip)
            have H' := Aside0.mk H
            clear H
            go_wp2
            go_meet
            case rel => exact ⟨_, ((a2 == 0)), (by first | rfl | (simp; done) | (simp [*]; done)), H', ⟨by have := HJ6.out; first | omega | exact Nat.le_refl _⟩, ⟨by (with_reducible repeat (first | refine blk_drewN ?_ _ | refine blk_drew ?_ | refine blk_alloc ?_ _)); exact BK147.out⟩, ⟨by repeat (first | (with_reducible first | exact HB.out | apply below_alloc | apply pw_below_drewN | apply below_drew1 | refine below_set ?_ GE147.out) | exact HB.out)⟩⟩
          · rw [if_neg c28] at H
            have c28b0 : (t155 == 0) = false := beq_eq_false_iff_ne.mpr c28
            have c28b1 : (t155 != 0) = true := bne_iff_ne.mpr c28
            (first | rw [c28b0] | (simp only [i64_w, i32_w]; rw [c28b0]) | rw [c28b1] | skip)
            have H' := Aside0.mk H
            clear H
            go_wp2
            go_meet
            case rel => exact ⟨_, (true), (by first | rfl | (simp; done) | (simp [*]; done)), H', ⟨by have := HJ6.out; first | omega | exact Nat.le_refl _⟩, ⟨by (with_reducible repeat (first | refine blk_drewN ?_ _ | refine blk_drew ?_ | refine blk_alloc ?_ _)); exact BK147.out⟩, ⟨by repeat (first | (with_reducible first | exact HB.out | apply below_alloc | apply pw_below_drewN | apply below_drew1 | refine below_set ?_ GE147.out) | exact HB.out)⟩⟩
        case rest =>
          clear HC25
          try clear c1
          try clear c2
          try clear p2
          try clear p6
          try clear c7
          try clear c15
          try clear c15b0
          try clear c15b1
          try clear c16
          try clear c16b0
          try clear c16b1
          try clear c17
          try clear c17b0
          try clear c17b1
          try clear c18
          try clear c18b0
          try clear c19
          try clear c19b0
          try clear c21
          try clear c23
          try clear c28
          try clear c28b0
          try clear c28b1
          try clear hcz11_0
          try clear hcz11_1
          try clear hcz11_2
          try clear hcz13_0
          try clear hcz13_1
          try clear hcz13_2
          try clear hcz20_0
          try clear hcz20_1
          try clear hcz20_2
          try clear hcz21_0
          try clear hcz21_1
          try clear hcz21_2
          try clear hcz22_0
          try clear hcz22_1
          try clear hcz22_2
          try clear hcz26_0
          try clear hcz26_1
          try clear hcz26_2
          try clear hcz9_0
          try clear hcz9_1
          try clear hcz9_2
          try clear hfz11_0
          try clear hfz11_1
          try clear hfz11_2
          try clear hfz13_0
          try clear hfz13_1
          try clear hfz13_2
          try clear hfz20_0
          try clear hfz20_1
          try clear hfz20_2
          try clear hfz21_0
          try clear hfz21_1
          try clear hfz21_2
          try clear hfz22_0
          try clear hfz22_1
          try clear hfz22_2
          try clear hfz26_0
          try clear hfz26_1
          try clear hfz26_2
          try clear hfz9_0
          try clear hfz9_1
          try clear hfz9_2
          try clear p2
          try clear p6
          obtain ⟨kq, x90_24, rfl, HA, HJ24, BK147, HB⟩ := hcut
          cases kq with
          | zero => exact absurd HA.out (by simp [contangolaw06_WorkdayCounts.j1])
          | succ kj24 =>
            have H := HA.out
            clear HA
            simp only [contangolaw06_WorkdayCounts.j1] at H
            by_cases c29 : x90_24 = true
            · subst c29
              have H1 : ((contangolaw06_goes.f kj24).bind fun t156 => (some t156)) = some r := by rw [if_pos rfl] at H; exact H
              clear H
              have H := H1
              clear H1
              replace H := Option.bind_eq_some_iff.mp H
              obtain ⟨t156, A300, H⟩ := H
              replace H : (some t156) = some r := H
              have A30 := Aside0.mk A300
              clear A300
              obtain rfl := Option.some.inj H
              go_wp2_with (first | ((with_reducible refine gate_callee (f := 10) rfl ?_); refine goesL_ (some 91) rfl rfl Tryd.func10 (by kernel_rfl) rfl #[] rfl (by (try simp only [List.map_toArray, List.map_cons, List.map_nil]); first | done | rfl | (simp only [List.length_drop, List.length_take]; rfl)) ?_; (with_reducible refine (contangolaw06_goes.calls kj24  t156 _ (by repeat (first | exact HLONG.out | exact LongAt.after HLONG.out (by assumption) | exact LongAt.below HLONG.out (by assumption) | apply LongAt.drewN | apply LongAt.drew | apply LongAt.alloc)) A30.out).mono ?_); rintro e w31 ⟨rfl, hb⟩; refine ⟨_, rfl, ?_⟩; have n0_ := Aside0.mk (blk_below (g := gb147) (o := .cells #[.int .i64 a1_0, .int .i64 a1_1, .int .i64 a1_2] 41 (0, 0)) (by (with_reducible repeat (first | refine blk_drewN ?_ _ | refine blk_drew ?_ | refine blk_alloc ?_ _)); exact BK147.out) hb); have n1_ := Aside0.mk (below_step (by repeat (first | (with_reducible first | exact HB.out | apply below_alloc | apply pw_below_drewN | apply below_drew1 | refine below_set ?_ GE147.out) | exact HB.out)) hb); clear BK147; clear HB; have BK147 := n0_; have HB := n1_; clear n0_ n1_; (try clear hb); (try clear hb2); (try clear hk); (try clear hi)))
              go_ret
              exact ⟨by first | rfl | (simp [errW_none, errW_some] <;> rfl) | (simp [*, errW_none, errW_some] <;> rfl), by repeat (first | (with_reducible first | exact HB.out | apply below_alloc | apply pw_below_drewN | apply below_drew1 | refine below_set ?_ GE147.out) | exact HB.out)⟩
            · replace c29 := Bool.eq_false_iff.mpr c29
              subst c29
              have H1 : ((workday_Count.f l0 (wrap64 (a1_0 + 1)) t154).bind fun bt157 => (if bt157.1 = (wrap64 (a2)) then (if bt157.2 = 0 then ((contangolaw06_goes.f kj24).bind fun t159 => (some t159)) else (none)) else (none))) = some r := by rw [if_neg (show ¬ (false = true) by decide)] at H; exact H
              clear H
              have H := H1
              clear H1
              replace H := Option.bind_eq_some_iff.mp H
              obtain ⟨⟨t157, t158⟩, A320, H⟩ := H
              replace H : (if t157 = (wrap64 (a2)) then (if t158 = 0 then ((contangolaw06_goes.f kj24).bind fun t159 => (some t159)) else (none)) else (none)) = some r := H
              have A32 := Aside0.mk A320
              clear A320
              by_cases c33 : t157 = (wrap64 (a2))
              · rw [if_pos c33] at H
                have c33b0 : (t157 == (wrap64 (a2))) = true := beq_iff_eq.mpr c33
                have c33b1 : (t157 != (wrap64 (a2))) = false := bne_eq_false_iff_eq.mpr c33
                clear c33
                by_cases c34 : t158 = 0
                · rw [if_pos c34] at H
                  have c34b0 : (t158 == 0) = true := beq_iff_eq.mpr c34
                  have c34b1 : (t158 != 0) = false := bne_eq_false_iff_eq.mpr c34
                  clear c34
                  replace H := Option.bind_eq_some_iff.mp H
                  obtain ⟨t159, A350, H⟩ := H
                  replace H : (some t159) = some r := H
                  have A35 := Aside0.mk A350
                  clear A350
                  obtain rfl := Option.some.inj H
                  have hcz36_0 : wc.cell? ⟨gb147, 0, none⟩ = some (.int .i64 a1_0) := (blk_cell BK147.out 0).trans rfl
                  have hcz36_1 : wc.cell? ⟨gb147, 1, none⟩ = some (.int .i64 a1_1) := (blk_cell BK147.out 1).trans rfl
                  have hcz36_2 : wc.cell? ⟨gb147, 2, none⟩ = some (.int .i64 a1_2) := (blk_cell BK147.out 2).trans rfl
                  have hfz36_0 := blk_frozen BK147.out 0
                  have hfz36_1 := blk_frozen BK147.out 1
                  have hfz36_2 := blk_frozen BK147.out 2
                  go_wp2_with (first | ((with_reducible refine gate_callee (f := 23) rfl ?_); refine goesL_ (some 98) rfl rfl Tryd.func23 (by kernel_rfl) rfl #[.slice A0 l0.length c0, .int .i64 (wrap64 (a1_0 + 1)), .int .i64 t154] rfl (by (try simp only [List.map_toArray, List.map_cons, List.map_nil]); first | done | rfl | (simp only [List.length_drop, List.length_take]; rfl)) ?_; (with_reducible refine (workday_Count.calls _ _ l0 (wrap64 (a1_0 + 1)) t154 t157 t158 _ ?side1 ?side2 A32.out).mono ?_); (case side1 => repeat (first | exact (Kd.C_below HR0.out HB.out) | (with_reducible refine Kd.C_alloc ?_ _) | (with_reducible refine Kd.C_drewN ?_ _) | (with_reducible refine Kd.C_drew ?_))); (case side2 => exact HC0.out); rintro e w37 ⟨rfl, hb⟩; refine ⟨_, rfl, ?_⟩; have n0_ := Aside0.mk (blk_below (g := gb147) (o := .cells #[.int .i64 a1_0, .int .i64 a1_1, .int .i64 a1_2] 41 (0, 0)) (by (with_reducible repeat (first | refine blk_drewN ?_ _ | refine blk_drew ?_ | refine blk_alloc ?_ _)); exact BK147.out) hb); have n1_ := Aside0.mk (below_step (by repeat (first | (with_reducible first | exact HB.out | apply below_alloc | apply pw_below_drewN | apply below_drew1 | refine below_set ?_ GE147.out) | exact HB.out)) hb); clear BK147; clear HB; have BK147 := n0_; have HB := n1_; clear n0_ n1_; (try clear hb); (try clear hb2); (try clear hk); (try clear hi)) | (go_at_call 10; (with_reducible refine (contangolaw06_goes.calls kj24  t159 _ (by repeat (first | exact HLONG.out | exact LongAt.after HLONG.out (by assumption) | exact LongAt.below HLONG.out (by assumption) | apply LongAt.drewN | apply LongAt.drew | apply LongAt.alloc)) A35.out).mono ?_); rintro e w38 ⟨rfl, hb⟩; have n0_ := Aside0.mk (blk_below (g := gb147) (o := .cells #[.int .i64 a1_0, .int .i64 a1_1, .int .i64 a1_2] 41 (0, 0)) (by (with_reducible repeat (first | refine blk_drewN ?_ _ | refine blk_drew ?_ | refine blk_alloc ?_ _)); exact BK147.out) hb); have n1_ := Aside0.mk (below_step (by repeat (first | (with_reducible first | exact HB.out | apply below_alloc | apply pw_below_drewN | apply below_drew1 | refine below_set ?_ GE147.out) | exact HB.out)) hb); clear BK147; clear HB; have BK147 := n0_; have HB := n1_; clear n0_ n1_; (try clear hb); (try clear hb2); (try clear hk); (try clear hi)))
                  go_ret
                  exact ⟨by first | rfl | (simp [errW_none, errW_some] <;> rfl) | (simp [*, errW_none, errW_some] <;> rfl), by repeat (first | (with_reducible first | exact HB.out | apply below_alloc | apply pw_below_drewN | apply below_drew1 | refine below_set ?_ GE147.out) | exact HB.out)⟩
                · rw [if_neg c34] at H
                  exact absurd H (by simp)
              · rw [if_neg c33] at H
                exact absurd H (by simp)

end Go.Proofs.YtgcefakbbmgbbaaDoor.PWorkdayCounts
