/- Laid for this claim by a program of this session's (wip/mkprint.py, wip/ext.py); not trusted: Lean checks it. -/
import Derived.Test.YtgcefakbbmgbbaaDoorPWorkdayBackx0
import Derived.Test.YtgcefakbbmgbbaaDoorPWorkdayBackx1
import Derived.Test.YtgcefakbbmgbbaaDoorPWorkdayBackx2
import Derived.Test.YtgcefakbbmgbbaaDoorPWorkdayBackx3
namespace Go.Proofs.YtgcefakbbmgbbaaDoor.PWorkdayBack
open Go.RowKit Go.Proofs.YtgcefakbbmgbbaaDoorW.PrintWords Go.Proofs.YtgcefakbbmgbbaaDoorW.PrintLast Go.Proofs.YtgcefakbbmgbbaaDoorW.PrintMore
attribute [local go_sem] max2_int min2_int max_two min_two max_three min_three max_four min_four   -- for this text's walks alone
set_option linter.unusedVariables false
set_option linter.unusedSimpArgs false

/-! ### workday_Expiry: function 25 -/
def workday_Expiry.f (k : Nat) (l0 : List Int) (a1 a2 : Int) : Option (Int × Int) := if chkV l0 = 0 then ((date_Nth.f k a1 a2 5 3).bind fun t => if t.2 = 0 then (if workV l0 t.1 = true then some (t.1, 0) else workday_Before.f l0 t.1) else some (0, t.2)) else some (0, chkV l0)
theorem workday_Expiry.mono : ∀ a0 a1 a2 k, LeO (workday_Expiry.f k a0 a1 a2) (workday_Expiry.f (k + 1) a0 a1 a2) := by
  intro a0 a1 a2 k
  unfold workday_Expiry.f
  exact LeO.ite (LeO.bind (date_Nth.mono _ _ _ _ _) (fun _ => LeO.refl _)) (LeO.refl _)
set_option maxHeartbeats 8000000 in
set_option maxRecDepth 100000 in
theorem workday_Expiry.calls (k : Nat) (A0 : Option Addr) (c0 : Nat) (l0 : List Int) (a1 a2 r1 r2 : Int) (w : World) (hL : LongAt w) (hr0 : Kd.C (Kd.int .i64) w A0 l0.length l0) (hc0 : l0.length ≤ c0) (h : workday_Expiry.f k l0 a1 a2 = some (r1, r2)) :
    Calls Tryd.prog 25 #[.slice A0 l0.length c0, .int .i64 a1, .int .i64 a2] w fun e w' => e = .returned (.tuple #[.int .i64 r1, .int .i64 r2]) ∧ Below w.heap.size w w' := by
  unfold workday_Expiry.f at h
  obtain ⟨kc, hkc⟩ := xv_get (check_val l0)
  have HCK := Aside0.mk (workday_Check.calls kc A0 c0 l0 (chkV l0) w hr0 hc0 hkc)
  clear hkc
  by_cases hz : chkV l0 = 0
  · rw [if_pos hz] at h
    obtain ⟨⟨day, e1⟩, hn, h⟩ := Option.bind_eq_some_iff.1 h
    dsimp only at h
    have HN := Aside0.mk (fun (W : World) (hB : Below w.heap.size w W) => date_Nth.calls k a1 a2 5 3 day e1 W (hL.below hB) hn)
    rw [hz] at HCK
    have hs := chkV_srt _ hz
    clear hn hz hL
    by_cases he : e1 = 0
    · rw [if_pos he] at h
      subst he
      have hwk : ∀ (W : World) (g1 g2 : Nat), Below w.heap.size w W → W.heap[g1]? = some (.cells #[.slice A0 l0.length c0] 22 (0, 0)) → W.heap[g2]? = some (.cells weekL.toArray 51 (0, 0)) → Calls Tryd.prog 38 #[.int .i64 day, .pointer (some ⟨g1, 0, none⟩), .pointer (some ⟨g2, 0, none⟩)] W fun e w' => e = .returned (.bool (workV l0 day)) ∧ Below W.heap.size W w' := fun W g1 g2 hB h1 h2 => working1_any A0 c0 l0 day g1 g2 W (Kd.C_below hr0 hB) hc0 hs h1 h2
      have HW := Aside0.mk hwk
      clear hwk hs
      cases hb : workV l0 day with
      | true =>
        rw [hb] at HW
        rw [hb, if_pos rfl] at h
        simp only [Option.some.injEq, Prod.mk.injEq] at h
        obtain ⟨rfl, rfl⟩ := h
        clear hb hr0
        go_enter Tryd.func25, Tryd.ntmps25
        go_wp2_with (first | (go_at_call 19; (with_reducible refine HCK.out.mono ?_); rintro e w2 ⟨rfl, hd⟩; have HB := Aside0.mk hd.below; clear hd) | (go_at_call 28; (with_reducible refine (HN.out _ HB.out).mono ?_); rintro e w3 ⟨rfl, hd⟩; have HB2 := Aside0.mk (below_step HB.out hd); clear hd))
        refine (working_any A0 l0.length c0 _).mono ?_
        rintro e w4 ⟨g1, g2, rfl, _, _, h1, h2, hb⟩
        have HB3 := Aside0.mk (below_step HB2.out hb)
        have H1 := Aside0.mk h1
        have H2 := Aside0.mk h2
        clear hb h1 h2
        go_wp2_with fail
        refine (HW.out _ g1 g2 HB3.out H1.out H2.out).mono ?_
        rintro e w5 ⟨rfl, hb⟩
        have HB5 := Aside0.mk (below_step HB3.out hb)
        clear hb
        go_wp2
        go_ret2
        exact ⟨rfl, HB5.out⟩
      | false =>
        rw [hb] at HW
        rw [hb, if_neg (by decide)] at h
        have HBF := Aside0.mk (fun (W : World) (hB : Below w.heap.size w W) => workday_Before.calls A0 c0 l0 day r1 r2 W (Kd.C_below hr0 hB) hc0 h)
        clear hb hr0 h
        go_enter Tryd.func25, Tryd.ntmps25
        go_wp2_with (first | (go_at_call 19; (with_reducible refine HCK.out.mono ?_); rintro e w2 ⟨rfl, hd⟩; have HB := Aside0.mk hd.below; clear hd) | (go_at_call 28; (with_reducible refine (HN.out _ HB.out).mono ?_); rintro e w3 ⟨rfl, hd⟩; have HB2 := Aside0.mk (below_step HB.out hd); clear hd))
        refine (working_any A0 l0.length c0 _).mono ?_
        rintro e w4 ⟨g1, g2, rfl, _, _, h1, h2, hb⟩
        have HB3 := Aside0.mk (below_step HB2.out hb)
        have H1 := Aside0.mk h1
        have H2 := Aside0.mk h2
        clear hb h1 h2
        go_wp2_with fail
        refine (HW.out _ g1 g2 HB3.out H1.out H2.out).mono ?_
        rintro e w5 ⟨rfl, hb⟩
        have HB5 := Aside0.mk (below_step HB3.out hb)
        clear hb
        go_wp2_with (go_at_call 15; (with_reducible refine (HBF.out _ HB5.out).mono ?_); rintro e w6 ⟨rfl, hd⟩; have HB6 := Aside0.mk (below_step HB5.out hd); clear hd)
        go_ret2
        exact ⟨rfl, HB6.out⟩
    · rw [if_neg he] at h
      simp only [Option.some.injEq, Prod.mk.injEq] at h
      obtain ⟨rfl, rfl⟩ := h
      have de : (e1 != 0) = true := bne_iff_ne.2 he
      clear he hr0
      go_enter Tryd.func25, Tryd.ntmps25
      go_wp2_with (first | (go_at_call 19; (with_reducible refine HCK.out.mono ?_); rintro e w2 ⟨rfl, hd⟩; have HB := Aside0.mk hd.below; clear hd) | (go_at_call 28; (with_reducible refine (HN.out _ HB.out).mono ?_); rintro e w3 ⟨rfl, hd⟩; have HB2 := Aside0.mk (below_step HB.out hd); clear hd))
      go_ret2
      exact ⟨rfl, HB2.out⟩
  · rw [if_neg hz] at h
    simp only [Option.some.injEq, Prod.mk.injEq] at h
    obtain ⟨rfl, rfl⟩ := h
    have dz : (chkV l0 != 0) = true := bne_iff_ne.2 hz
    generalize chkV l0 = e0 at *
    clear hz hr0
    go_enter Tryd.func25, Tryd.ntmps25
    go_wp2_with (go_at_call 19; (with_reducible refine HCK.out.mono ?_); rintro e w2 ⟨rfl, hd⟩; have HB := Aside0.mk hd.below; clear hd)
    go_ret2
    exact ⟨rfl, HB.out⟩

/-! ### contangolaw06_goes: function 10 -/
def contangolaw06_goes.f (k : Nat)  : Option (Bool) := (workday_Next.f ([] : List Int) 0).bind fun bt129 => ((workday_Next.f (([2] : List Int)) 0).bind fun bt134 => ((workday_Before.f ([] : List Int) 2).bind fun bt136 => ((workday_Add.f ([] : List Int) 2 5).bind fun bt138 => ((workday_Count.f ([] : List Int) 0 9).bind fun bt140 => ((workday_Expiry.f k (([20] : List Int)) 2000 1).bind fun bt145 => (if bt129.1 = 2 then (if bt129.2 = 0 then (if bt134.1 = 3 then (if bt134.2 = 0 then (if bt136.2 = 15 then (if bt138.1 = 9 then (if bt138.2 = 0 then (if bt140.1 = 6 then (if bt140.2 = 0 then (if bt145.1 = 19 then (some (bt145.2 == 0)) else (none)) else (none)) else (none)) else (none)) else (none)) else (none)) else (none)) else (none)) else (none)) else (none)))))))
theorem contangolaw06_goes.mono : ∀ k, LeO (contangolaw06_goes.f k ) (contangolaw06_goes.f (k + 1) ) := by
  intro  k
  unfold contangolaw06_goes.f
  repeat' first
      | (with_reducible exact workday_Expiry.mono _ _ _ _)
      | (with_reducible exact LeO.refl _)
      | (with_reducible exact LeO.none _)
      | (with_reducible refine LeO.ite ?_ ?_)
      | (with_reducible refine LeO.bind ?_ (fun _ => ?_))
      | exact workday_Expiry.mono _ _ _ _
      | exact LeO.none _
      | refine LeO.ite ?_ ?_
      | refine LeO.bind ?_ (fun _ => ?_)
set_option maxHeartbeats 8000000 in
set_option maxRecDepth 100000 in
theorem contangolaw06_goes.calls (k : Nat)  (r : Bool) (w : World) (hL : LongAt w) (h : contangolaw06_goes.f k  = some r) :
    Calls Tryd.prog 10 #[] w fun e w' => e = .returned (.bool r) ∧ Below w.heap.size w w' := by
  have HLONG := Aside0.mk hL
  clear hL
  have HB := Aside0.mk (Below.refl w.heap.size w)
  have H : ((workday_Next.f ([] : List Int) 0).bind fun bt129 => ((workday_Next.f (([2] : List Int)) 0).bind fun bt134 => ((workday_Before.f ([] : List Int) 2).bind fun bt136 => ((workday_Add.f ([] : List Int) 2 5).bind fun bt138 => ((workday_Count.f ([] : List Int) 0 9).bind fun bt140 => ((workday_Expiry.f k (([20] : List Int)) 2000 1).bind fun bt145 => (if bt129.1 = 2 then (if bt129.2 = 0 then (if bt134.1 = 3 then (if bt134.2 = 0 then (if bt136.2 = 15 then (if bt138.1 = 9 then (if bt138.2 = 0 then (if bt140.1 = 6 then (if bt140.2 = 0 then (if bt145.1 = 19 then (some (bt145.2 == 0)) else (none)) else (none)) else (none)) else (none)) else (none)) else (none)) else (none)) else (none)) else (none)) else (none)))))))) = some r := h
  clear h
  replace H := Option.bind_eq_some_iff.mp H
  obtain ⟨⟨t129, t130⟩, A10, H⟩ := H
  replace H : ((workday_Next.f (([2] : List Int)) 0).bind fun bt134 => ((workday_Before.f ([] : List Int) 2).bind fun bt136 => ((workday_Add.f ([] : List Int) 2 5).bind fun bt138 => ((workday_Count.f ([] : List Int) 0 9).bind fun bt140 => ((workday_Expiry.f k (([20] : List Int)) 2000 1).bind fun bt145 => (if t129 = 2 then (if t130 = 0 then (if bt134.1 = 3 then (if bt134.2 = 0 then (if bt136.2 = 15 then (if bt138.1 = 9 then (if bt138.2 = 0 then (if bt140.1 = 6 then (if bt140.2 = 0 then (if bt145.1 = 19 then (some (bt145.2 == 0)) else (none)) else (none)) else (none)) else (none)) else (none)) else (none)) else (none)) else (none)) else (none)) else (none))))))) = some r := H
  have A1 := Aside0.mk A10
  clear A10
  obtain ⟨y131, hy131⟩ : ∃ y_ : List Int, y_ = (([2] : List Int)) := ⟨_, rfl⟩
  replace H : ((workday_Next.f y131 0).bind fun bt134 => ((workday_Before.f ([] : List Int) 2).bind fun bt136 => ((workday_Add.f ([] : List Int) 2 5).bind fun bt138 => ((workday_Count.f ([] : List Int) 0 9).bind fun bt140 => ((workday_Expiry.f k (([20] : List Int)) 2000 1).bind fun bt145 => (if t129 = 2 then (if t130 = 0 then (if bt134.1 = 3 then (if bt134.2 = 0 then (if bt136.2 = 15 then (if bt138.1 = 9 then (if bt138.2 = 0 then (if bt140.1 = 6 then (if bt140.2 = 0 then (if bt145.1 = 19 then (some (bt145.2 == 0)) else (none)) else (none)) else (none)) else (none)) else (none)) else (none)) else (none)) else (none)) else (none)) else (none))))))) = some r := by first | (rw [hy131]; with_reducible exact H) | (have H2_ := (Option.bind_some _ _).symm.trans H; rw [hy131]; with_reducible exact H2_) | (have H2_ := (Option.bind_some _ _).symm.trans H; with_reducible exact H2_) | with_reducible exact H | (rw [hy131]; exact H) | exact H
  have Ny131 := Aside0.mk hy131
  clear hy131
  replace H := Option.bind_eq_some_iff.mp H
  obtain ⟨⟨t134, t135⟩, A20, H⟩ := H
  replace H : ((workday_Before.f ([] : List Int) 2).bind fun bt136 => ((workday_Add.f ([] : List Int) 2 5).bind fun bt138 => ((workday_Count.f ([] : List Int) 0 9).bind fun bt140 => ((workday_Expiry.f k (([20] : List Int)) 2000 1).bind fun bt145 => (if t129 = 2 then (if t130 = 0 then (if t134 = 3 then (if t135 = 0 then (if bt136.2 = 15 then (if bt138.1 = 9 then (if bt138.2 = 0 then (if bt140.1 = 6 then (if bt140.2 = 0 then (if bt145.1 = 19 then (some (bt145.2 == 0)) else (none)) else (none)) else (none)) else (none)) else (none)) else (none)) else (none)) else (none)) else (none)) else (none)))))) = some r := H
  have A2 := Aside0.mk A20
  clear A20
  replace H := Option.bind_eq_some_iff.mp H
  obtain ⟨⟨t136, t137⟩, A30, H⟩ := H
  replace H : ((workday_Add.f ([] : List Int) 2 5).bind fun bt138 => ((workday_Count.f ([] : List Int) 0 9).bind fun bt140 => ((workday_Expiry.f k (([20] : List Int)) 2000 1).bind fun bt145 => (if t129 = 2 then (if t130 = 0 then (if t134 = 3 then (if t135 = 0 then (if t137 = 15 then (if bt138.1 = 9 then (if bt138.2 = 0 then (if bt140.1 = 6 then (if bt140.2 = 0 then (if bt145.1 = 19 then (some (bt145.2 == 0)) else (none)) else (none)) else (none)) else (none)) else (none)) else (none)) else (none)) else (none)) else (none)) else (none))))) = some r := H
  have A3 := Aside0.mk A30
  clear A30
  replace H := Option.bind_eq_some_iff.mp H
  obtain ⟨⟨t138, t139⟩, A40, H⟩ := H
  replace H : ((workday_Count.f ([] : List Int) 0 9).bind fun bt140 => ((workday_Expiry.f k (([20] : List Int)) 2000 1).bind fun bt145 => (if t129 = 2 then (if t130 = 0 then (if t134 = 3 then (if t135 = 0 then (if t137 = 15 then (if t138 = 9 then (if t139 = 0 then (if bt140.1 = 6 then (if bt140.2 = 0 then (if bt145.1 = 19 then (some (bt145.2 == 0)) else (none)) else (none)) else (none)) else (none)) else (none)) else (none)) else (none)) else (none)) else (none)) else (none)))) = some r := H
  have A4 := Aside0.mk A40
  clear A40
  replace H := Option.bind_eq_some_iff.mp H
  obtain ⟨⟨t140, t141⟩, A50, H⟩ := H
  replace H : ((workday_Expiry.f k (([20] : List Int)) 2000 1).bind fun bt145 => (if t129 = 2 then (if t130 = 0 then (if t134 = 3 then (if t135 = 0 then (if t137 = 15 then (if t138 = 9 then (if t139 = 0 then (if t140 = 6 then (if t141 = 0 then (if bt145.1 = 19 then (some (bt145.2 == 0)) else (none)) else (none)) else (none)) else (none)) else (none)) else (none)) else (none)) else (none)) else (none)) else (none))) = some r := H
  have A5 := Aside0.mk A50
  clear A50
  obtain ⟨y142, hy142⟩ : ∃ y_ : List Int, y_ = (([20] : List Int)) := ⟨_, rfl⟩
  replace H : ((workday_Expiry.f k y142 2000 1).bind fun bt145 => (if t129 = 2 then (if t130 = 0 then (if t134 = 3 then (if t135 = 0 then (if t137 = 15 then (if t138 = 9 then (if t139 = 0 then (if t140 = 6 then (if t141 = 0 then (if bt145.1 = 19 then (some (bt145.2 == 0)) else (none)) else (none)) else (none)) else (none)) else (none)) else (none)) else (none)) else (none)) else (none)) else (none))) = some r := by first | (rw [hy142]; with_reducible exact H) | (have H2_ := (Option.bind_some _ _).symm.trans H; rw [hy142]; with_reducible exact H2_) | (have H2_ := (Option.bind_some _ _).symm.trans H; with_reducible exact H2_) | with_reducible exact H | (rw [hy142]; exact H) | exact H
  have Ny142 := Aside0.mk hy142
  clear hy142
  replace H := Option.bind_eq_some_iff.mp H
  obtain ⟨⟨t145, t146⟩, A60, H⟩ := H
  replace H : (if t129 = 2 then (if t130 = 0 then (if t134 = 3 then (if t135 = 0 then (if t137 = 15 then (if t138 = 9 then (if t139 = 0 then (if t140 = 6 then (if t141 = 0 then (if t145 = 19 then (some (t146 == 0)) else (none)) else (none)) else (none)) else (none)) else (none)) else (none)) else (none)) else (none)) else (none)) else (none)) = some r := H
  have A6 := Aside0.mk A60
  clear A60
  by_cases c7 : t129 = 2
  · rw [if_pos c7] at H
    have c7b0 : (t129 == 2) = true := beq_iff_eq.mpr c7
    have c7b1 : (t129 != 2) = false := bne_eq_false_iff_eq.mpr c7
    clear c7
    by_cases c8 : t130 = 0
    · rw [if_pos c8] at H
      have c8b0 : (t130 == 0) = true := beq_iff_eq.mpr c8
      have c8b1 : (t130 != 0) = false := bne_eq_false_iff_eq.mpr c8
      clear c8
      by_cases c9 : t134 = 3
      · rw [if_pos c9] at H
        have c9b0 : (t134 == 3) = true := beq_iff_eq.mpr c9
        have c9b1 : (t134 != 3) = false := bne_eq_false_iff_eq.mpr c9
        clear c9
        by_cases c10 : t135 = 0
        · rw [if_pos c10] at H
          have c10b0 : (t135 == 0) = true := beq_iff_eq.mpr c10
          have c10b1 : (t135 != 0) = false := bne_eq_false_iff_eq.mpr c10
          clear c10
          by_cases c11 : t137 = 15
          · rw [if_pos c11] at H
            have c11b0 : (t137 == 15) = true := beq_iff_eq.mpr c11
            have c11b1 : (t137 != 15) = false := bne_eq_false_iff_eq.mpr c11
            clear c11
            by_cases c12 : t138 = 9
            · rw [if_pos c12] at H
              have c12b0 : (t138 == 9) = true := beq_iff_eq.mpr c12
              have c12b1 : (t138 != 9) = false := bne_eq_false_iff_eq.mpr c12
              clear c12
              by_cases c13 : t139 = 0
              · rw [if_pos c13] at H
                have c13b0 : (t139 == 0) = true := beq_iff_eq.mpr c13
                have c13b1 : (t139 != 0) = false := bne_eq_false_iff_eq.mpr c13
                clear c13
                by_cases c14 : t140 = 6
                · rw [if_pos c14] at H
                  have c14b0 : (t140 == 6) = true := beq_iff_eq.mpr c14
                  have c14b1 : (t140 != 6) = false := bne_eq_false_iff_eq.mpr c14
                  clear c14
                  by_cases c15 : t141 = 0
                  · rw [if_pos c15] at H
                    have c15b0 : (t141 == 0) = true := beq_iff_eq.mpr c15
                    have c15b1 : (t141 != 0) = false := bne_eq_false_iff_eq.mpr c15
                    clear c15
                    by_cases c16 : t145 = 19
                    · rw [if_pos c16] at H
                      have c16b0 : (t145 == 19) = true := beq_iff_eq.mpr c16
                      have c16b1 : (t145 != 19) = false := bne_eq_false_iff_eq.mpr c16
                      clear c16
                      obtain rfl := Option.some.inj H
                      go_enter Tryd.func10, Tryd.ntmps10
                      go_wp2_with (first | ((with_reducible refine gate_callee (f := 13) rfl ?_); refine goesL_ (some 14) rfl rfl Tryd.func13 (by kernel_rfl) rfl #[.slice none 0 0, .int .i64 0] rfl (by (try simp only [List.map_toArray, List.map_cons, List.map_nil]); first | done | rfl | (simp only [List.length_drop, List.length_take]; rfl)) ?_; (refine (workday_Next.calls _ _ ([] : List Int) 0 t129 t130 _ ?side1 ?side2 A1.out).mono ?_); (case side1 => exact Kd.C_nil _ _); (case side2 => exact Nat.le_refl _); rintro e w17 ⟨rfl, hb⟩; refine ⟨_, rfl, ?_⟩; have n0_ := Aside0.mk (below_step (by repeat (first | (with_reducible first | exact HB.out | apply below_alloc | apply pw_below_drewN | apply below_drew1) | exact HB.out)) hb); clear HB; have HB := n0_; clear n0_; (try clear hb); (try clear hb2); (try clear hk); (try clear hi)) | ((with_reducible refine gate_dst (N := 18) rfl ?_); refine Kd.R_lit (Kd.int .i64) _ 3 ?hg (N := 18) ?hd (xs := ([2] : List Int)) (inner := [.int .i64 2]) (ok := fun _ => True) (okp := fun _ => True) ?hr ?hp (fun _ hk => hk) trivial (Below.refl _ _) (Nat.le_refl _) (by simp) ?_; (case hd => rfl); (case hg => rfl); (case hr => first | (go_simp; done) | (go_simp; rfl)); (case hp => exact (Reps.one (show Kd.M (Kd.int .i64) _ _ _ 2 [.int .i64 2] from rfl) (Reps.none _ _))); intro v132 w18 ho19 hb hg_ hnew_; clear hg_ hnew_; (first | rw [← Ny131.out] at ho19 | (simp only [Int.reduceToNat] at ho19; rw [← Ny131.out] at ho19)); have n0_ := Aside0.mk (Kd.R_lower ho19 (below_size (by repeat (first | (with_reducible first | exact HB.out | apply below_alloc | apply pw_below_drewN | apply below_drew1) | exact HB.out)))); have n1_ := Aside0.mk (below_step (by repeat (first | (with_reducible first | exact HB.out | apply below_alloc | apply pw_below_drewN | apply below_drew1) | exact HB.out)) hb); clear HB; have HO133 := n0_; have HB := n1_; clear n0_ n1_; clear hb ho19; obtain ⟨Ao20, co20, eo20⟩ := Kd.R_slice HO133.out; subst eo20) | ((with_reducible refine gate_callee (f := 13) rfl ?_); refine goesL_ (some 19) rfl rfl Tryd.func13 (by kernel_rfl) rfl #[.slice Ao20 y131.length co20, .int .i64 0] rfl (by (try simp only [List.map_toArray, List.map_cons, List.map_nil]); first | done | rfl | (simp only [List.length_drop, List.length_take]; rfl)) ?_; (with_reducible refine (workday_Next.calls _ _ y131 0 t134 t135 _ ?side1 ?side2 A2.out).mono ?_); (case side1 => repeat (first | exact (Kd.R_reads' HO133.out).2.2 | (with_reducible refine Kd.C_alloc ?_ _) | (with_reducible refine Kd.C_drewN ?_ _) | (with_reducible refine Kd.C_drew ?_))); (case side2 => exact (Kd.R_reads' HO133.out).2.1); rintro e w21 ⟨rfl, hb⟩; refine ⟨_, rfl, ?_⟩; have n0_ := Aside0.mk (Kd.R_below (by (with_reducible repeat (first | apply Kd.R_alloc | apply Kd.R_drewN | apply Kd.R_drew)); exact HO133.out) hb); have n1_ := Aside0.mk (below_step (by repeat (first | (with_reducible first | exact HB.out | apply below_alloc | apply pw_below_drewN | apply below_drew1) | exact HB.out)) hb); clear HO133; clear HB; have HO133 := n0_; have HB := n1_; clear n0_ n1_; (try clear hb); (try clear hb2); (try clear hk); (try clear hi)) | ((with_reducible refine gate_callee (f := 15) rfl ?_); refine goesL_ (some 23) rfl rfl Tryd.func15 (by kernel_rfl) rfl #[.slice none 0 0, .int .i64 2] rfl (by (try simp only [List.map_toArray, List.map_cons, List.map_nil]); first | done | rfl | (simp only [List.length_drop, List.length_take]; rfl)) ?_; (refine (workday_Before.calls _ _ ([] : List Int) 2 t136 t137 _ ?side1 ?side2 A3.out).mono ?_); (case side1 => exact Kd.C_nil _ _); (case side2 => exact Nat.le_refl _); rintro e w22 ⟨rfl, hb⟩; refine ⟨_, rfl, ?_⟩; have n0_ := Aside0.mk (Kd.R_below (by (with_reducible repeat (first | apply Kd.R_alloc | apply Kd.R_drewN | apply Kd.R_drew)); exact HO133.out) hb); have n1_ := Aside0.mk (below_step (by repeat (first | (with_reducible first | exact HB.out | apply below_alloc | apply pw_below_drewN | apply below_drew1) | exact HB.out)) hb); clear HO133; clear HB; have HO133 := n0_; have HB := n1_; clear n0_ n1_; (try clear hb); (try clear hb2); (try clear hk); (try clear hi)) | ((with_reducible refine gate_callee (f := 21) rfl ?_); refine goesL_ (some 27) rfl rfl Tryd.func21 (by kernel_rfl) rfl #[.slice none 0 0, .int .i64 2, .int .i64 5] rfl (by (try simp only [List.map_toArray, List.map_cons, List.map_nil]); first | done | rfl | (simp only [List.length_drop, List.length_take]; rfl)) ?_; (refine (workday_Add.calls _ _ ([] : List Int) 2 5 t138 t139 _ ?side1 ?side2 A4.out).mono ?_); (case side1 => exact Kd.C_nil _ _); (case side2 => exact Nat.le_refl _); rintro e w23 ⟨rfl, hb⟩; refine ⟨_, rfl, ?_⟩; have n0_ := Aside0.mk (Kd.R_below (by (with_reducible repeat (first | apply Kd.R_alloc | apply Kd.R_drewN | apply Kd.R_drew)); exact HO133.out) hb); have n1_ := Aside0.mk (below_step (by repeat (first | (with_reducible first | exact HB.out | apply below_alloc | apply pw_below_drewN | apply below_drew1) | exact HB.out)) hb); clear HO133; clear HB; have HO133 := n0_; have HB := n1_; clear n0_ n1_; (try clear hb); (try clear hb2); (try clear hk); (try clear hi)) | ((with_reducible refine gate_callee (f := 23) rfl ?_); refine goesL_ (some 31) rfl rfl Tryd.func23 (by kernel_rfl) rfl #[.slice none 0 0, .int .i64 0, .int .i64 9] rfl (by (try simp only [List.map_toArray, List.map_cons, List.map_nil]); first | done | rfl | (simp only [List.length_drop, List.length_take]; rfl)) ?_; (refine (workday_Count.calls _ _ ([] : List Int) 0 9 t140 t141 _ ?side1 ?side2 A5.out).mono ?_); (case side1 => exact Kd.C_nil _ _); (case side2 => exact Nat.le_refl _); rintro e w24 ⟨rfl, hb⟩; refine ⟨_, rfl, ?_⟩; have n0_ := Aside0.mk (Kd.R_below (by (with_reducible repeat (first | apply Kd.R_alloc | apply Kd.R_drewN | apply Kd.R_drew)); exact HO133.out) hb); have n1_ := Aside0.mk (below_step (by repeat (first | (with_reducible first | exact HB.out | apply below_alloc | apply pw_below_drewN | apply below_drew1) | exact HB.out)) hb); clear HO133; clear HB; have HO133 := n0_; have HB := n1_; clear n0_ n1_; (try clear hb); (try clear hb2); (try clear hk); (try clear hi)) | ((with_reducible refine gate_dst (N := 35) rfl ?_); refine Kd.R_lit (Kd.int .i64) _ 3 ?hg (N := 35) ?hd (xs := ([20] : List Int)) (inner := [.int .i64 20]) (ok := fun _ => True) (okp := fun _ => True) ?hr ?hp (fun _ hk => hk) trivial (Below.refl _ _) (Nat.le_refl _) (by simp) ?_; (case hd => rfl); (case hg => rfl); (case hr => first | (go_simp; done) | (go_simp; rfl)); (case hp => exact (Reps.one (show Kd.M (Kd.int .i64) _ _ _ 20 [.int .i64 20] from rfl) (Reps.none _ _))); intro v143 w25 ho26 hb hg_ hnew_; clear hg_ hnew_; (first | rw [← Ny142.out] at ho26 | (simp only [Int.reduceToNat] at ho26; rw [← Ny142.out] at ho26)); have n0_ := Aside0.mk (Kd.R_elder' (by (with_reducible repeat (first | apply Kd.R_alloc | apply Kd.R_drewN | apply Kd.R_drew)); exact HO133.out) (Kd.R_base ho26) hb); have n1_ := Aside0.mk (Kd.R_lower (Kd.R_new' ho26 (Kd.R_lt (by (with_reducible repeat (first | apply Kd.R_alloc | apply Kd.R_drewN | apply Kd.R_drew)); exact HO133.out))) (below_size (by repeat (first | (with_reducible first | exact HB.out | apply below_alloc | apply pw_below_drewN | apply below_drew1) | exact HB.out)))); have n2_ := Aside0.mk (below_step (by repeat (first | (with_reducible first | exact HB.out | apply below_alloc | apply pw_below_drewN | apply below_drew1) | exact HB.out)) hb); clear HO133; clear HB; have HO133 := n0_; have HO144 := n1_; have HB := n2_; clear n0_ n1_ n2_; clear hb ho26; obtain ⟨Ao27, co27, eo27⟩ := Kd.R_slice HO144.out; subst eo27) | ((with_reducible refine gate_callee (f := 25) rfl ?_); refine goesL_ (some 36) rfl rfl Tryd.func25 (by kernel_rfl) rfl #[.slice Ao27 y142.length co27, .int .i64 2000, .int .i64 1] rfl (by (try simp only [List.map_toArray, List.map_cons, List.map_nil]); first | done | rfl | (simp only [List.length_drop, List.length_take]; rfl)) ?_; (with_reducible refine (workday_Expiry.calls k _ _ y142 2000 1 t145 t146 _ (by repeat (first | exact HLONG.out | exact LongAt.after HLONG.out (by assumption) | exact LongAt.below HLONG.out (by assumption) | apply LongAt.drewN | apply LongAt.drew | apply LongAt.alloc)) ?side1 ?side2 A6.out).mono ?_); (case side1 => repeat (first | exact (Kd.R_reads' HO144.out).2.2 | (with_reducible refine Kd.C_alloc ?_ _) | (with_reducible refine Kd.C_drewN ?_ _) | (with_reducible refine Kd.C_drew ?_))); (case side2 => exact (Kd.R_reads' HO144.out).2.1); rintro e w28 ⟨rfl, hb⟩; refine ⟨_, rfl, ?_⟩; have n0_ := Aside0.mk (Kd.R_below (by (with_reducible repeat (first | apply Kd.R_alloc | apply Kd.R_drewN | apply Kd.R_drew)); exact HO133.out) hb); have n1_ := Aside0.mk (Kd.R_below (by (with_reducible repeat (first | apply Kd.R_alloc | apply Kd.R_drewN | apply Kd.R_drew)); exact HO144.out) hb); have n2_ := Aside0.mk (below_step (by repeat (first | (with_reducible first | exact HB.out | apply below_alloc | apply pw_below_drewN | apply below_drew1) | exact HB.out)) hb); clear HO133; clear HO144; clear HB; have HO133 := n0_; have HO144 := n1_; have HB := n2_; clear n0_ n1_ n2_; (try clear hb); (try clear hb2); (try clear hk); (try clear hi)))
                      go_ret
                      exact ⟨by first | rfl | (simp [errW_none, errW_some] <;> rfl) | (simp [*, errW_none, errW_some] <;> rfl), by repeat (first | (with_reducible first | exact HB.out | apply below_alloc | apply pw_below_drewN | apply below_drew1) | exact HB.out)⟩
                    · rw [if_neg c16] at H
                      exact absurd H (by simp)
                  · rw [if_neg c15] at H
                    exact absurd H (by simp)
                · rw [if_neg c14] at H
                  exact absurd H (by simp)
              · rw [if_neg c13] at H
                exact absurd H (by simp)
            · rw [if_neg c12] at H
              exact absurd H (by simp)
          · rw [if_neg c11] at H
            exact absurd H (by simp)
        · rw [if_neg c10] at H
          exact absurd H (by simp)
      · rw [if_neg c9] at H
        exact absurd H (by simp)
    · rw [if_neg c8] at H
      exact absurd H (by simp)
  · rw [if_neg c7] at H
    exact absurd H (by simp)

/-! ### contangolaw06_WorkdayBack: function 6 -/
def contangolaw06_WorkdayBack.j0 : Nat → List Int → Int → Int → Bool → Int → Bool → Option (Bool)
  | 0, _, _, _, _, _, _ => none
  | k + 1, x0, x1, x2, x7, x8, x28 => if x28 = true then (if x8 = 0 then ((contangolaw06_goes.f k).bind fun t149 => (some t149)) else (if x7 = true then (none) else ((contangolaw06_goes.f k).bind fun t150 => (some t150)))) else ((workday_Next.f x0 x1).bind fun bt151 => ((workday_Before.f x0 bt151.1).bind fun bt153 => ((workday_Add.f x0 x1 (wrap64 (x2))).bind fun bt155 => ((workday_Add.f x0 bt155.1 (wrap64 (-(wrap64 (x2))))).bind fun bt157 => (if bt151.2 = 0 then (if bt153.1 = x1 then (if bt153.2 = 0 then (if bt155.2 = 0 then (if bt157.1 = x1 then (if bt157.2 = 0 then ((contangolaw06_goes.f k).bind fun t159 => (some t159)) else (none)) else (none)) else ((contangolaw06_goes.f k).bind fun t160 => (some t160))) else (none)) else (none)) else (if bt155.2 = 0 then (if bt157.1 = x1 then (if bt157.2 = 0 then ((contangolaw06_goes.f k).bind fun t161 => (some t161)) else (none)) else (none)) else ((contangolaw06_goes.f k).bind fun t162 => (some t162))))))))
def contangolaw06_WorkdayBack.f (k : Nat) (l0 : List Int) (a1 : Int) (a2 : Int) : Option (Bool) := (workday_Works.f l0 a1).bind fun bt147 => (if bt147.2 = 0 then (contangolaw06_WorkdayBack.j0 k l0 a1 a2 bt147.1 bt147.2 (!bt147.1)) else (contangolaw06_WorkdayBack.j0 k l0 a1 a2 bt147.1 bt147.2 true))
theorem contangolaw06_WorkdayBack.mono_l : ∀ k, (∀ y0 y1 y2 y3 y4 y5, LeO (contangolaw06_WorkdayBack.j0 k y0 y1 y2 y3 y4 y5) (contangolaw06_WorkdayBack.j0 (k + 1) y0 y1 y2 y3 y4 y5))
  | 0 => fun _ _ _ _ _ _ r h => by simp [contangolaw06_WorkdayBack.j0] at h
  | k + 1 => by
    have ih0 := contangolaw06_WorkdayBack.mono_l k
    · intro y0 y1 y2 y3 y4 y5
      unfold contangolaw06_WorkdayBack.j0
      repeat' first
      | (with_reducible exact ih0 _ _ _ _ _ _)
      | (with_reducible exact contangolaw06_goes.mono _)
      | (with_reducible exact LeO.refl _)
      | (with_reducible exact LeO.none _)
      | (with_reducible refine LeO.ite ?_ ?_)
      | (with_reducible refine LeO.bind ?_ (fun _ => ?_))
      | exact ih0 _ _ _ _ _ _
      | exact contangolaw06_goes.mono _
      | exact LeO.none _
      | refine LeO.ite ?_ ?_
      | refine LeO.bind ?_ (fun _ => ?_)
theorem contangolaw06_WorkdayBack.mono : ∀ a0 a1 a2 k, LeO (contangolaw06_WorkdayBack.f k a0 a1 a2) (contangolaw06_WorkdayBack.f (k + 1) a0 a1 a2) := by
  intro a0 a1 a2 k
  have ih0 := contangolaw06_WorkdayBack.mono_l k
  unfold contangolaw06_WorkdayBack.f
  repeat' first
      | (with_reducible exact ih0 _ _ _ _ _ _)
      | (with_reducible exact contangolaw06_goes.mono _)
      | (with_reducible exact LeO.refl _)
      | (with_reducible exact LeO.none _)
      | (with_reducible refine LeO.ite ?_ ?_)
      | (with_reducible refine LeO.bind ?_ (fun _ => ?_))
      | exact ih0 _ _ _ _ _ _
      | exact contangolaw06_goes.mono _
      | exact LeO.none _
      | refine LeO.ite ?_ ?_
      | refine LeO.bind ?_ (fun _ => ?_)
set_option maxHeartbeats 8000000 in
set_option maxRecDepth 100000 in
theorem contangolaw06_WorkdayBack.calls (k : Nat) (A0 : Option Addr) (c0 : Nat) (l0 : List Int) (a1 : Int) (a2 : Int) (r : Bool) (w : World) (hL : LongAt w) (hr0 : Kd.C (Kd.int .i64) w A0 l0.length l0) (hc0 : l0.length ≤ c0) (h : contangolaw06_WorkdayBack.f k l0 a1 a2 = some r) :
    Calls Tryd.prog 6 #[.slice A0 l0.length c0, .int .i64 a1, .int .u8 a2] w fun e w' => e = .returned (.bool r) ∧ Below w.heap.size w w' := by
  have HLONG := Aside0.mk hL
  clear hL
  have HR0 := Aside0.mk hr0
  have HC0 := Aside0.mk hc0
  clear hr0 hc0
  have HB := Aside0.mk (Below.refl w.heap.size w)
  have H : ((workday_Works.f l0 a1).bind fun bt147 => (if bt147.2 = 0 then (contangolaw06_WorkdayBack.j0 k l0 a1 a2 bt147.1 bt147.2 (!bt147.1)) else (contangolaw06_WorkdayBack.j0 k l0 a1 a2 bt147.1 bt147.2 true))) = some r := h
  clear h
  replace H := Option.bind_eq_some_iff.mp H
  obtain ⟨⟨t147, t148⟩, A40, H⟩ := H
  replace H : (if t148 = 0 then (contangolaw06_WorkdayBack.j0 k l0 a1 a2 t147 t148 (!t147)) else (contangolaw06_WorkdayBack.j0 k l0 a1 a2 t147 t148 true)) = some r := H
  have A4 := Aside0.mk A40
  clear A40
  have HC5 := Aside0.mk H
  clear H
  go_enter Tryd.func6, Tryd.ntmps6
  go_upto_region 2 with (first | ((with_reducible refine gate_callee (f := 11) rfl ?_); refine goesL_ (some 20) rfl rfl Tryd.func11 (by kernel_rfl) rfl #[.slice A0 l0.length c0, .int .i64 a1] rfl (by (try simp only [List.map_toArray, List.map_cons, List.map_nil]); first | done | rfl | (simp only [List.length_drop, List.length_take]; rfl)) ?_; (with_reducible refine (workday_Works.calls _ _ l0 a1 t147 t148 _ ?side1 ?side2 A4.out).mono ?_); (case side1 => repeat (first | exact HR0.out | (with_reducible refine Kd.C_alloc ?_ _) | (with_reducible refine Kd.C_drewN ?_ _) | (with_reducible refine Kd.C_drew ?_))); (case side2 => exact HC0.out); rintro e w6 ⟨rfl, hb⟩; refine ⟨_, rfl, ?_⟩; have n0_ := Aside0.mk (below_step (by repeat (first | (with_reducible first | exact HB.out | apply below_alloc | apply pw_below_drewN | apply below_drew1) | exact HB.out)) hb); clear HB; have HB := n0_; clear n0_; (try clear hb); (try clear hb2); (try clear hk); (try clear hi)))
  (try simp only [Act.put, List.setIfInBounds_toArray, List.set_cons_zero, List.set_cons_succ])
  go_cut [28] (fun v28 wc => ∃ (kq : Nat) (x28_4 : Bool), v28 = .bool x28_4 ∧ Aside0 (contangolaw06_WorkdayBack.j0 kq l0 a1 a2 t147 t148 x28_4 = some r) ∧ Aside0 (kq ≤ k) ∧ Aside0 (Below w.heap.size w wc))
  case first =>
    have H := HC5.out
    clear HC5
    by_cases c7 : t148 = 0
    · rw [if_pos c7] at H
      have c7b0 : (t148 == 0) = true := beq_iff_eq.mpr c7
      have c7b1 : (t148 != 0) = false := bne_eq_false_iff_eq.mpr c7
      clear c7
      (first | rw [c7b0] | (simp only [i64_w, i32_w]; rw [c7b0]) | rw [c7b1] | skip)
      have H' := Aside0.mk H
      clear H
      go_wp2
      go_meet
      case rel => exact ⟨_, (!t147), (by first | rfl | (simp; done) | (simp [*]; done)), H', ⟨by first | omega | exact Nat.le_refl _⟩, ⟨by repeat (first | (with_reducible first | exact HB.out | apply below_alloc | apply pw_below_drewN | apply below_drew1) | exact HB.out)⟩⟩
    · rw [if_neg c7] at H
      have c7b0 : (t148 == 0) = false := beq_eq_false_iff_ne.mpr c7
      have c7b1 : (t148 != 0) = true := bne_iff_ne.mpr c7
      (first | rw [c7b0] | (simp only [i64_w, i32_w]; rw [c7b0]) | rw [c7b1] | skip)
      have H' := Aside0.mk H
      clear H
      go_wp2
      go_meet
      case rel => exact ⟨_, (true), (by first | rfl | (simp; done) | (simp [*]; done)), H', ⟨by first | omega | exact Nat.le_refl _⟩, ⟨by repeat (first | (with_reducible first | exact HB.out | apply below_alloc | apply pw_below_drewN | apply below_drew1) | exact HB.out)⟩⟩
  case rest =>
    clear HC5
    try clear c1
    try clear p2
    try clear c6
    try clear c7
    try clear c7b0
    try clear c7b1
    obtain ⟨kq, x28_4, rfl, HA, HJ4, HB⟩ := hcut
    cases kq with
    | zero => exact absurd HA.out (by simp [contangolaw06_WorkdayBack.j0])
    | succ kj4 =>
      have H := HA.out
      clear HA
      simp only [contangolaw06_WorkdayBack.j0] at H
      by_cases c8 : x28_4 = true
      · subst c8
        have H1 : (if t148 = 0 then ((contangolaw06_goes.f kj4).bind fun t149 => (some t149)) else (if t147 = true then (none) else ((contangolaw06_goes.f kj4).bind fun t150 => (some t150)))) = some r := by rw [if_pos rfl] at H; exact H
        clear H
        have H := H1
        clear H1
        by_cases c9 : t148 = 0
        · rw [if_pos c9] at H
          have c9b0 : (t148 == 0) = true := beq_iff_eq.mpr c9
          have c9b1 : (t148 != 0) = false := bne_eq_false_iff_eq.mpr c9
          clear c9
          replace H := Option.bind_eq_some_iff.mp H
          obtain ⟨t149, A100, H⟩ := H
          replace H : (some t149) = some r := H
          have A10 := Aside0.mk A100
          clear A100
          obtain rfl := Option.some.inj H
          go_wp2_with (first | (go_at_call 10; (with_reducible refine (contangolaw06_goes.calls kj4  t149 _ (by repeat (first | exact HLONG.out | exact LongAt.after HLONG.out (by assumption) | exact LongAt.below HLONG.out (by assumption) | apply LongAt.drewN | apply LongAt.drew | apply LongAt.alloc)) A10.out).mono ?_); rintro e w11 ⟨rfl, hb⟩; have n0_ := Aside0.mk (below_step (by repeat (first | (with_reducible first | exact HB.out | apply below_alloc | apply pw_below_drewN | apply below_drew1) | exact HB.out)) hb); clear HB; have HB := n0_; clear n0_; (try clear hb); (try clear hb2); (try clear hk); (try clear hi)))
          go_ret
          exact ⟨by first | rfl | (simp [errW_none, errW_some] <;> rfl) | (simp [*, errW_none, errW_some] <;> rfl), by repeat (first | (with_reducible first | exact HB.out | apply below_alloc | apply pw_below_drewN | apply below_drew1) | exact HB.out)⟩
        · rw [if_neg c9] at H
          have c9b0 : (t148 == 0) = false := beq_eq_false_iff_ne.mpr c9
          have c9b1 : (t148 != 0) = true := bne_iff_ne.mpr c9
          by_cases c12 : t147 = true
          · subst c12
            have H1 : (none) = some r := by rw [if_pos rfl] at H; exact H
            clear H
            have H := H1
            clear H1
            exact absurd H (by simp)
          · replace c12 := Bool.eq_false_iff.mpr c12
            subst c12
            have H1 : ((contangolaw06_goes.f kj4).bind fun t150 => (some t150)) = some r := by rw [if_neg (show ¬ (false = true) by decide)] at H; exact H
            clear H
            have H := H1
            clear H1
            replace H := Option.bind_eq_some_iff.mp H
            obtain ⟨t150, A130, H⟩ := H
            replace H : (some t150) = some r := H
            have A13 := Aside0.mk A130
            clear A130
            obtain rfl := Option.some.inj H
            go_wp2_with (first | (go_at_call 10; (with_reducible refine (contangolaw06_goes.calls kj4  t150 _ (by repeat (first | exact HLONG.out | exact LongAt.after HLONG.out (by assumption) | exact LongAt.below HLONG.out (by assumption) | apply LongAt.drewN | apply LongAt.drew | apply LongAt.alloc)) A13.out).mono ?_); rintro e w14 ⟨rfl, hb⟩; have n0_ := Aside0.mk (below_step (by repeat (first | (with_reducible first | exact HB.out | apply below_alloc | apply pw_below_drewN | apply below_drew1) | exact HB.out)) hb); clear HB; have HB := n0_; clear n0_; (try clear hb); (try clear hb2); (try clear hk); (try clear hi)))
            go_ret
            exact ⟨by first | rfl | (simp [errW_none, errW_some] <;> rfl) | (simp [*, errW_none, errW_some] <;> rfl), by repeat (first | (with_reducible first | exact HB.out | apply below_alloc | apply pw_below_drewN | apply below_drew1) | exact HB.out)⟩
      · replace c8 := Bool.eq_false_iff.mpr c8
        subst c8
        have H1 : ((workday_Next.f l0 a1).bind fun bt151 => ((workday_Before.f l0 bt151.1).bind fun bt153 => ((workday_Add.f l0 a1 (wrap64 (a2))).bind fun bt155 => ((workday_Add.f l0 bt155.1 (wrap64 (-(wrap64 (a2))))).bind fun bt157 => (if bt151.2 = 0 then (if bt153.1 = a1 then (if bt153.2 = 0 then (if bt155.2 = 0 then (if bt157.1 = a1 then (if bt157.2 = 0 then ((contangolaw06_goes.f kj4).bind fun t159 => (some t159)) else (none)) else (none)) else ((contangolaw06_goes.f kj4).bind fun t160 => (some t160))) else (none)) else (none)) else (if bt155.2 = 0 then (if bt157.1 = a1 then (if bt157.2 = 0 then ((contangolaw06_goes.f kj4).bind fun t161 => (some t161)) else (none)) else (none)) else ((contangolaw06_goes.f kj4).bind fun t162 => (some t162)))))))) = some r := by rw [if_neg (show ¬ (false = true) by decide)] at H; exact H
        clear H
        have H := H1
        clear H1
        replace H := Option.bind_eq_some_iff.mp H
        obtain ⟨⟨t151, t152⟩, A150, H⟩ := H
        replace H : ((workday_Before.f l0 t151).bind fun bt153 => ((workday_Add.f l0 a1 (wrap64 (a2))).bind fun bt155 => ((workday_Add.f l0 bt155.1 (wrap64 (-(wrap64 (a2))))).bind fun bt157 => (if t152 = 0 then (if bt153.1 = a1 then (if bt153.2 = 0 then (if bt155.2 = 0 then (if bt157.1 = a1 then (if bt157.2 = 0 then ((contangolaw06_goes.f kj4).bind fun t159 => (some t159)) else (none)) else (none)) else ((contangolaw06_goes.f kj4).bind fun t160 => (some t160))) else (none)) else (none)) else (if bt155.2 = 0 then (if bt157.1 = a1 then (if bt157.2 = 0 then ((contangolaw06_goes.f kj4).bind fun t161 => (some t161)) else (none)) else (none)) else ((contangolaw06_goes.f kj4).bind fun t162 => (some t162))))))) = some r := H
        have A15 := Aside0.mk A150
        clear A150
        replace H := Option.bind_eq_some_iff.mp H
        obtain ⟨⟨t153, t154⟩, A160, H⟩ := H
        replace H : ((workday_Add.f l0 a1 (wrap64 (a2))).bind fun bt155 => ((workday_Add.f l0 bt155.1 (wrap64 (-(wrap64 (a2))))).bind fun bt157 => (if t152 = 0 then (if t153 = a1 then (if t154 = 0 then (if bt155.2 = 0 then (if bt157.1 = a1 then (if bt157.2 = 0 then ((contangolaw06_goes.f kj4).bind fun t159 => (some t159)) else (none)) else (none)) else ((contangolaw06_goes.f kj4).bind fun t160 => (some t160))) else (none)) else (none)) else (if bt155.2 = 0 then (if bt157.1 = a1 then (if bt157.2 = 0 then ((contangolaw06_goes.f kj4).bind fun t161 => (some t161)) else (none)) else (none)) else ((contangolaw06_goes.f kj4).bind fun t162 => (some t162)))))) = some r := H
        have A16 := Aside0.mk A160
        clear A160
        replace H := Option.bind_eq_some_iff.mp H
        obtain ⟨⟨t155, t156⟩, A170, H⟩ := H
        replace H : ((workday_Add.f l0 t155 (wrap64 (-(wrap64 (a2))))).bind fun bt157 => (if t152 = 0 then (if t153 = a1 then (if t154 = 0 then (if t156 = 0 then (if bt157.1 = a1 then (if bt157.2 = 0 then ((contangolaw06_goes.f kj4).bind fun t159 => (some t159)) else (none)) else (none)) else ((contangolaw06_goes.f kj4).bind fun t160 => (some t160))) else (none)) else (none)) else (if t156 = 0 then (if bt157.1 = a1 then (if bt157.2 = 0 then ((contangolaw06_goes.f kj4).bind fun t161 => (some t161)) else (none)) else (none)) else ((contangolaw06_goes.f kj4).bind fun t162 => (some t162))))) = some r := H
        have A17 := Aside0.mk A170
        clear A170
        replace H := Option.bind_eq_some_iff.mp H
        obtain ⟨⟨t157, t158⟩, A180, H⟩ := H
        replace H : (if t152 = 0 then (if t153 = a1 then (if t154 = 0 then (if t156 = 0 then (if t157 = a1 then (if t158 = 0 then ((contangolaw06_goes.f kj4).bind fun t159 => (some t159)) else (none)) else (none)) else ((contangolaw06_goes.f kj4).bind fun t160 => (some t160))) else (none)) else (none)) else (if t156 = 0 then (if t157 = a1 then (if t158 = 0 then ((contangolaw06_goes.f kj4).bind fun t161 => (some t161)) else (none)) else (none)) else ((contangolaw06_goes.f kj4).bind fun t162 => (some t162)))) = some r := H
        have A18 := Aside0.mk A180
        clear A180
        by_cases c19 : t152 = 0
        · rw [if_pos c19] at H
          have c19b0 : (t152 == 0) = true := beq_iff_eq.mpr c19
          have c19b1 : (t152 != 0) = false := bne_eq_false_iff_eq.mpr c19
          clear c19
          by_cases c20 : t153 = a1
          · rw [if_pos c20] at H
            have c20b0 : (t153 == a1) = true := beq_iff_eq.mpr c20
            have c20b1 : (t153 != a1) = false := bne_eq_false_iff_eq.mpr c20
            clear c20
            by_cases c21 : t154 = 0
            · rw [if_pos c21] at H
              have c21b0 : (t154 == 0) = true := beq_iff_eq.mpr c21
              have c21b1 : (t154 != 0) = false := bne_eq_false_iff_eq.mpr c21
              clear c21
              by_cases c22 : t156 = 0
              · rw [if_pos c22] at H
                have c22b0 : (t156 == 0) = true := beq_iff_eq.mpr c22
                have c22b1 : (t156 != 0) = false := bne_eq_false_iff_eq.mpr c22
                clear c22
                by_cases c23 : t157 = a1
                · rw [if_pos c23] at H
                  have c23b0 : (t157 == a1) = true := beq_iff_eq.mpr c23
                  have c23b1 : (t157 != a1) = false := bne_eq_false_iff_eq.mpr c23
                  clear c23
                  by_cases c24 : t158 = 0
                  · rw [if_pos c24] at H
                    have c24b0 : (t158 == 0) = true := beq_iff_eq.mpr c24
                    have c24b1 : (t158 != 0) = false := bne_eq_false_iff_eq.mpr c24
                    clear c24
                    replace H := Option.bind_eq_some_iff.mp H
                    obtain ⟨t159, A250, H⟩ := H
                    replace H : (some t159) = some r := H
                    have A25 := Aside0.mk A250
                    clear A250
                    obtain rfl := Option.some.inj H
                    go_wp2_with (first | ((with_reducible refine gate_callee (f := 13) rfl ?_); refine goesL_ (some 41) rfl rfl Tryd.func13 (by kernel_rfl) rfl #[.slice A0 l0.length c0, .int .i64 a1] rfl (by (try simp only [List.map_toArray, List.map_cons, List.map_nil]); first | done | rfl | (simp only [List.length_drop, List.length_take]; rfl)) ?_; (with_reducible refine (workday_Next.calls _ _ l0 a1 t151 t152 _ ?side1 ?side2 A15.out).mono ?_); (case side1 => repeat (first | exact (Kd.C_below HR0.out HB.out) | (with_reducible refine Kd.C_alloc ?_ _) | (with_reducible refine Kd.C_drewN ?_ _) | (with_reducible refine Kd.C_drew ?_))); (case side2 => exact HC0.out); rintro e w26 ⟨rfl, hb⟩; refine ⟨_, rfl, ?_⟩; have n0_ := Aside0.mk (below_step (by repeat (first | (with_reducible first | exact HB.out | apply below_alloc | apply pw_below_drewN | apply below_drew1) | exact HB.out)) hb); clear HB; have HB := n0_; clear n0_; (try clear hb); (try clear hb2); (try clear hk); (try clear hi)) | ((with_reducible refine gate_callee (f := 15) rfl ?_); refine goesL_ (some 47) rfl rfl Tryd.func15 (by kernel_rfl) rfl #[.slice A0 l0.length c0, .int .i64 t151] rfl (by (try simp only [List.map_toArray, List.map_cons, List.map_nil]); first | done | rfl | (simp only [List.length_drop, List.length_take]; rfl)) ?_; (with_reducible refine (workday_Before.calls _ _ l0 t151 t153 t154 _ ?side1 ?side2 A16.out).mono ?_); (case side1 => repeat (first | exact (Kd.C_below HR0.out HB.out) | (with_reducible refine Kd.C_alloc ?_ _) | (with_reducible refine Kd.C_drewN ?_ _) | (with_reducible refine Kd.C_drew ?_))); (case side2 => exact HC0.out); rintro e w27 ⟨rfl, hb⟩; refine ⟨_, rfl, ?_⟩; have n0_ := Aside0.mk (below_step (by repeat (first | (with_reducible first | exact HB.out | apply below_alloc | apply pw_below_drewN | apply below_drew1) | exact HB.out)) hb); clear HB; have HB := n0_; clear n0_; (try clear hb); (try clear hb2); (try clear hk); (try clear hi)) | ((with_reducible refine gate_callee (f := 21) rfl ?_); refine goesL_ (some 55) rfl rfl Tryd.func21 (by kernel_rfl) rfl #[.slice A0 l0.length c0, .int .i64 a1, .int .i64 (wrap64 (a2))] rfl (by (try simp only [List.map_toArray, List.map_cons, List.map_nil]); first | done | rfl | (simp only [List.length_drop, List.length_take]; rfl)) ?_; (with_reducible refine (workday_Add.calls _ _ l0 a1 (wrap64 (a2)) t155 t156 _ ?side1 ?side2 A17.out).mono ?_); (case side1 => repeat (first | exact (Kd.C_below HR0.out HB.out) | (with_reducible refine Kd.C_alloc ?_ _) | (with_reducible refine Kd.C_drewN ?_ _) | (with_reducible refine Kd.C_drew ?_))); (case side2 => exact HC0.out); rintro e w28 ⟨rfl, hb⟩; refine ⟨_, rfl, ?_⟩; have n0_ := Aside0.mk (below_step (by repeat (first | (with_reducible first | exact HB.out | apply below_alloc | apply pw_below_drewN | apply below_drew1) | exact HB.out)) hb); clear HB; have HB := n0_; clear n0_; (try clear hb); (try clear hb2); (try clear hk); (try clear hi)) | ((with_reducible refine gate_callee (f := 21) rfl ?_); refine goesL_ (some 64) rfl rfl Tryd.func21 (by kernel_rfl) rfl #[.slice A0 l0.length c0, .int .i64 t155, .int .i64 (wrap64 (-(wrap64 (a2))))] rfl (by (try simp only [List.map_toArray, List.map_cons, List.map_nil]); first | done | rfl | (simp only [List.length_drop, List.length_take]; rfl)) ?_; (with_reducible refine (workday_Add.calls _ _ l0 t155 (wrap64 (-(wrap64 (a2)))) t157 t158 _ ?side1 ?side2 A18.out).mono ?_); (case side1 => repeat (first | exact (Kd.C_below HR0.out HB.out) | (with_reducible refine Kd.C_alloc ?_ _) | (with_reducible refine Kd.C_drewN ?_ _) | (with_reducible refine Kd.C_drew ?_))); (case side2 => exact HC0.out); rintro e w29 ⟨rfl, hb⟩; refine ⟨_, rfl, ?_⟩; have n0_ := Aside0.mk (below_step (by repeat (first | (with_reducible first | exact HB.out | apply below_alloc | apply pw_below_drewN | apply below_drew1) | exact HB.out)) hb); clear HB; have HB := n0_; clear n0_; (try clear hb); (try clear hb2); (try clear hk); (try clear hi)) | (go_at_call 10; (with_reducible refine (contangolaw06_goes.calls kj4  t159 _ (by repeat (first | exact HLONG.out | exact LongAt.after HLONG.out (by assumption) | exact LongAt.below HLONG.out (by assumption) | apply LongAt.drewN | apply LongAt.drew | apply LongAt.alloc)) A25.out).mono ?_); rintro e w30 ⟨rfl, hb⟩; have n0_ := Aside0.mk (below_step (by repeat (first | (with_reducible first | exact HB.out | apply below_alloc | apply pw_below_drewN | apply below_drew1) | exact HB.out)) hb); clear HB; have HB := n0_; clear n0_; (try clear hb); (try clear hb2); (try clear hk); (try clear hi)))
                    go_ret
                    exact ⟨by first | rfl | (simp [errW_none, errW_some] <;> rfl) | (simp [*, errW_none, errW_some] <;> rfl), by repeat (first | (with_reducible first | exact HB.out | apply below_alloc | apply pw_below_drewN | apply below_drew1) | exact HB.out)⟩
                  · rw [if_neg c24] at H
                    exact absurd H (by simp)
                · rw [if_neg c23] at H
                  exact absurd H (by simp)
              · rw [if_neg c22] at H
                have c22b0 : (t156 == 0) = false := beq_eq_false_iff_ne.mpr c22
                have c22b1 : (t156 != 0) = true := bne_iff_ne.mpr c22
                replace H := Option.bind_eq_some_iff.mp H
                obtain ⟨t160, A310, H⟩ := H
                replace H : (some t160) = some r := H
                have A31 := Aside0.mk A310
                clear A310
                obtain rfl := Option.some.inj H
                go_wp2_with (first | ((with_reducible refine gate_callee (f := 13) rfl ?_); refine goesL_ (some 41) rfl rfl Tryd.func13 (by kernel_rfl) rfl #[.slice A0 l0.length c0, .int .i64 a1] rfl (by (try simp only [List.map_toArray, List.map_cons, List.map_nil]); first | done | rfl | (simp only [List.length_drop, List.length_take]; rfl)) ?_; (with_reducible refine (workday_Next.calls _ _ l0 a1 t151 t152 _ ?side1 ?side2 A15.out).mono ?_); (case side1 => repeat (first | exact (Kd.C_below HR0.out HB.out) | (with_reducible refine Kd.C_alloc ?_ _) | (with_reducible refine Kd.C_drewN ?_ _) | (with_reducible refine Kd.C_drew ?_))); (case side2 => exact HC0.out); rintro e w32 ⟨rfl, hb⟩; refine ⟨_, rfl, ?_⟩; have n0_ := Aside0.mk (below_step (by repeat (first | (with_reducible first | exact HB.out | apply below_alloc | apply pw_below_drewN | apply below_drew1) | exact HB.out)) hb); clear HB; have HB := n0_; clear n0_; (try clear hb); (try clear hb2); (try clear hk); (try clear hi)) | ((with_reducible refine gate_callee (f := 15) rfl ?_); refine goesL_ (some 47) rfl rfl Tryd.func15 (by kernel_rfl) rfl #[.slice A0 l0.length c0, .int .i64 t151] rfl (by (try simp only [List.map_toArray, List.map_cons, List.map_nil]); first | done | rfl | (simp only [List.length_drop, List.length_take]; rfl)) ?_; (with_reducible refine (workday_Before.calls _ _ l0 t151 t153 t154 _ ?side1 ?side2 A16.out).mono ?_); (case side1 => repeat (first | exact (Kd.C_below HR0.out HB.out) | (with_reducible refine Kd.C_alloc ?_ _) | (with_reducible refine Kd.C_drewN ?_ _) | (with_reducible refine Kd.C_drew ?_))); (case side2 => exact HC0.out); rintro e w33 ⟨rfl, hb⟩; refine ⟨_, rfl, ?_⟩; have n0_ := Aside0.mk (below_step (by repeat (first | (with_reducible first | exact HB.out | apply below_alloc | apply pw_below_drewN | apply below_drew1) | exact HB.out)) hb); clear HB; have HB := n0_; clear n0_; (try clear hb); (try clear hb2); (try clear hk); (try clear hi)) | ((with_reducible refine gate_callee (f := 21) rfl ?_); refine goesL_ (some 55) rfl rfl Tryd.func21 (by kernel_rfl) rfl #[.slice A0 l0.length c0, .int .i64 a1, .int .i64 (wrap64 (a2))] rfl (by (try simp only [List.map_toArray, List.map_cons, List.map_nil]); first | done | rfl | (simp only [List.length_drop, List.length_take]; rfl)) ?_; (with_reducible refine (workday_Add.calls _ _ l0 a1 (wrap64 (a2)) t155 t156 _ ?side1 ?side2 A17.out).mono ?_); (case side1 => repeat (first | exact (Kd.C_below HR0.out HB.out) | (with_reducible refine Kd.C_alloc ?_ _) | (with_reducible refine Kd.C_drewN ?_ _) | (with_reducible refine Kd.C_drew ?_))); (case side2 => exact HC0.out); rintro e w34 ⟨rfl, hb⟩; refine ⟨_, rfl, ?_⟩; have n0_ := Aside0.mk (below_step (by repeat (first | (with_reducible first | exact HB.out | apply below_alloc | apply pw_below_drewN | apply below_drew1) | exact HB.out)) hb); clear HB; have HB := n0_; clear n0_; (try clear hb); (try clear hb2); (try clear hk); (try clear hi)) | ((with_reducible refine gate_callee (f := 21) rfl ?_); refine goesL_ (some 64) rfl rfl Tryd.func21 (by kernel_rfl) rfl #[.slice A0 l0.length c0, .int .i64 t155, .int .i64 (wrap64 (-(wrap64 (a2))))] rfl (by (try simp only [List.map_toArray, List.map_cons, List.map_nil]); first | done | rfl | (simp only [List.length_drop, List.length_take]; rfl)) ?_; (with_reducible refine (workday_Add.calls _ _ l0 t155 (wrap64 (-(wrap64 (a2)))) t157 t158 _ ?side1 ?side2 A18.out).mono ?_); (case side1 => repeat (first | exact (Kd.C_below HR0.out HB.out) | (with_reducible refine Kd.C_alloc ?_ _) | (with_reducible refine Kd.C_drewN ?_ _) | (with_reducible refine Kd.C_drew ?_))); (case side2 => exact HC0.out); rintro e w35 ⟨rfl, hb⟩; refine ⟨_, rfl, ?_⟩; have n0_ := Aside0.mk (below_step (by repeat (first | (with_reducible first | exact HB.out | apply below_alloc | apply pw_below_drewN | apply below_drew1) | exact HB.out)) hb); clear HB; have HB := n0_; clear n0_; (try clear hb); (try clear hb2); (try clear hk); (try clear hi)) | (go_at_call 10; (with_reducible refine (contangolaw06_goes.calls kj4  t160 _ (by repeat (first | exact HLONG.out | exact LongAt.after HLONG.out (by assumption) | exact LongAt.below HLONG.out (by assumption) | apply LongAt.drewN | apply LongAt.drew | apply LongAt.alloc)) A31.out).mono ?_); rintro e w36 ⟨rfl, hb⟩; have n0_ := Aside0.mk (below_step (by repeat (first | (with_reducible first | exact HB.out | apply below_alloc | apply pw_below_drewN | apply below_drew1) | exact HB.out)) hb); clear HB; have HB := n0_; clear n0_; (try clear hb); (try clear hb2); (try clear hk); (try clear hi)))
                go_ret
                exact ⟨by first | rfl | (simp [errW_none, errW_some] <;> rfl) | (simp [*, errW_none, errW_some] <;> rfl), by repeat (first | (with_reducible first | exact HB.out | apply below_alloc | apply pw_below_drewN | apply below_drew1) | exact HB.out)⟩
            · rw [if_neg c21] at H
              exact absurd H (by simp)
          · rw [if_neg c20] at H
            exact absurd H (by simp)
        · rw [if_neg c19] at H
          have c19b0 : (t152 == 0) = false := beq_eq_false_iff_ne.mpr c19
          have c19b1 : (t152 != 0) = true := bne_iff_ne.mpr c19
          by_cases c37 : t156 = 0
          · rw [if_pos c37] at H
            have c37b0 : (t156 == 0) = true := beq_iff_eq.mpr c37
            have c37b1 : (t156 != 0) = false := bne_eq_false_iff_eq.mpr c37
            clear c37
            by_cases c38 : t157 = a1
            · rw [if_pos c38] at H
              have c38b0 : (t157 == a1) = true := beq_iff_eq.mpr c38
              have c38b1 : (t157 != a1) = false := bne_eq_false_iff_eq.mpr c38
              clear c38
              by_cases c39 : t158 = 0
              · rw [if_pos c39] at H
                have c39b0 : (t158 == 0) = true := beq_iff_eq.mpr c39
                have c39b1 : (t158 != 0) = false := bne_eq_false_iff_eq.mpr c39
                clear c39
                replace H := Option.bind_eq_some_iff.mp H
                obtain ⟨t161, A400, H⟩ := H
                replace H : (some t161) = some r := H
                have A40 := Aside0.mk A400
                clear A400
                obtain rfl := Option.some.inj H
                go_wp2_with (first | ((with_reducible refine gate_callee (f := 13) rfl ?_); refine goesL_ (some 41) rfl rfl Tryd.func13 (by kernel_rfl) rfl #[.slice A0 l0.length c0, .int .i64 a1] rfl (by (try simp only [List.map_toArray, List.map_cons, List.map_nil]); first | done | rfl | (simp only [List.length_drop, List.length_take]; rfl)) ?_; (with_reducible refine (workday_Next.calls _ _ l0 a1 t151 t152 _ ?side1 ?side2 A15.out).mono ?_); (case side1 => repeat (first | exact (Kd.C_below HR0.out HB.out) | (with_reducible refine Kd.C_alloc ?_ _) | (with_reducible refine Kd.C_drewN ?_ _) | (with_reducible refine Kd.C_drew ?_))); (case side2 => exact HC0.out); rintro e w41 ⟨rfl, hb⟩; refine ⟨_, rfl, ?_⟩; have n0_ := Aside0.mk (below_step (by repeat (first | (with_reducible first | exact HB.out | apply below_alloc | apply pw_below_drewN | apply below_drew1) | exact HB.out)) hb); clear HB; have HB := n0_; clear n0_; (try clear hb); (try clear hb2); (try clear hk); (try clear hi)) | ((with_reducible refine gate_callee (f := 15) rfl ?_); refine goesL_ (some 47) rfl rfl Tryd.func15 (by kernel_rfl) rfl #[.slice A0 l0.length c0, .int .i64 t151] rfl (by (try simp only [List.map_toArray, List.map_cons, List.map_nil]); first | done | rfl | (simp only [List.length_drop, List.length_take]; rfl)) ?_; (with_reducible refine (workday_Before.calls _ _ l0 t151 t153 t154 _ ?side1 ?side2 A16.out).mono ?_); (case side1 => repeat (first | exact (Kd.C_below HR0.out HB.out) | (with_reducible refine Kd.C_alloc ?_ _) | (with_reducible refine Kd.C_drewN ?_ _) | (with_reducible refine Kd.C_drew ?_))); (case side2 => exact HC0.out); rintro e w42 ⟨rfl, hb⟩; refine ⟨_, rfl, ?_⟩; have n0_ := Aside0.mk (below_step (by repeat (first | (with_reducible first | exact HB.out | apply below_alloc | apply pw_below_drewN | apply below_drew1) | exact HB.out)) hb); clear HB; have HB := n0_; clear n0_; (try clear hb); (try clear hb2); (try clear hk); (try clear hi)) | ((with_reducible refine gate_callee (f := 21) rfl ?_); refine goesL_ (some 55) rfl rfl Tryd.func21 (by kernel_rfl) rfl #[.slice A0 l0.length c0, .int .i64 a1, .int .i64 (wrap64 (a2))] rfl (by (try simp only [List.map_toArray, List.map_cons, List.map_nil]); first | done | rfl | (simp only [List.length_drop, List.length_take]; rfl)) ?_; (with_reducible refine (workday_Add.calls _ _ l0 a1 (wrap64 (a2)) t155 t156 _ ?side1 ?side2 A17.out).mono ?_); (case side1 => repeat (first | exact (Kd.C_below HR0.out HB.out) | (with_reducible refine Kd.C_alloc ?_ _) | (with_reducible refine Kd.C_drewN ?_ _) | (with_reducible refine Kd.C_drew ?_))); (case side2 => exact HC0.out); rintro e w43 ⟨rfl, hb⟩; refine ⟨_, rfl, ?_⟩; have n0_ := Aside0.mk (below_step (by repeat (first | (with_reducible first | exact HB.out | apply below_alloc | apply pw_below_drewN | apply below_drew1) | exact HB.out)) hb); clear HB; have HB := n0_; clear n0_; (try clear hb); (try clear hb2); (try clear hk); (try clear hi)) | ((with_reducible refine gate_callee (f := 21) rfl ?_); refine goesL_ (some 64) rfl rfl Tryd.func21 (by kernel_rfl) rfl #[.slice A0 l0.length c0, .int .i64 t155, .int .i64 (wrap64 (-(wrap64 (a2))))] rfl (by (try simp only [List.map_toArray, List.map_cons, List.map_nil]); first | done | rfl | (simp only [List.length_drop, List.length_take]; rfl)) ?_; (with_reducible refine (workday_Add.calls _ _ l0 t155 (wrap64 (-(wrap64 (a2)))) t157 t158 _ ?side1 ?side2 A18.out).mono ?_); (case side1 => repeat (first | exact (Kd.C_below HR0.out HB.out) | (with_reducible refine Kd.C_alloc ?_ _) | (with_reducible refine Kd.C_drewN ?_ _) | (with_reducible refine Kd.C_drew ?_))); (case side2 => exact HC0.out); rintro e w44 ⟨rfl, hb⟩; refine ⟨_, rfl, ?_⟩; have n0_ := Aside0.mk (below_step (by repeat (first | (with_reducible first | exact HB.out | apply below_alloc | apply pw_below_drewN | apply below_drew1) | exact HB.out)) hb); clear HB; have HB := n0_; clear n0_; (try clear hb); (try clear hb2); (try clear hk); (try clear hi)) | (go_at_call 10; (with_reducible refine (contangolaw06_goes.calls kj4  t161 _ (by repeat (first | exact HLONG.out | exact LongAt.after HLONG.out (by assumption) | exact LongAt.below HLONG.out (by assumption) | apply LongAt.drewN | apply LongAt.drew | apply LongAt.alloc)) A40.out).mono ?_); rintro e w45 ⟨rfl, hb⟩; have n0_ := Aside0.mk (below_step (by repeat (first | (with_reducible first | exact HB.out | apply below_alloc | apply pw_below_drewN | apply below_drew1) | exact HB.out)) hb); clear HB; have HB := n0_; clear n0_; (try clear hb); (try clear hb2); (try clear hk); (try clear hi)))
                go_ret
                exact ⟨by first | rfl | (simp [errW_none, errW_some] <;> rfl) | (simp [*, errW_none, errW_some] <;> rfl), by repeat (first | (with_reducible first | exact HB.out | apply below_alloc | apply pw_below_drewN | apply below_drew1) | exact HB.out)⟩
              · rw [if_neg c39] at H
                exact absurd H (by simp)
            · rw [if_neg c38] at H
              exact absurd H (by simp)
          · rw [if_neg c37] at H
            have c37b0 : (t156 == 0) = false := beq_eq_false_iff_ne.mpr c37
            have c37b1 : (t156 != 0) = true := bne_iff_ne.mpr c37
            replace H := Option.bind_eq_some_iff.mp H
            obtain ⟨t162, A460, H⟩ := H
            replace H : (some t162) = some r := H
            have A46 := Aside0.mk A460
            clear A460
            obtain rfl := Option.some.inj H
            go_wp2_with (first | ((with_reducible refine gate_callee (f := 13) rfl ?_); refine goesL_ (some 41) rfl rfl Tryd.func13 (by kernel_rfl) rfl #[.slice A0 l0.length c0, .int .i64 a1] rfl (by (try simp only [List.map_toArray, List.map_cons, List.map_nil]); first | done | rfl | (simp only [List.length_drop, List.length_take]; rfl)) ?_; (with_reducible refine (workday_Next.calls _ _ l0 a1 t151 t152 _ ?side1 ?side2 A15.out).mono ?_); (case side1 => repeat (first | exact (Kd.C_below HR0.out HB.out) | (with_reducible refine Kd.C_alloc ?_ _) | (with_reducible refine Kd.C_drewN ?_ _) | (with_reducible refine Kd.C_drew ?_))); (case side2 => exact HC0.out); rintro e w47 ⟨rfl, hb⟩; refine ⟨_, rfl, ?_⟩; have n0_ := Aside0.mk (below_step (by repeat (first | (with_reducible first | exact HB.out | apply below_alloc | apply pw_below_drewN | apply below_drew1) | exact HB.out)) hb); clear HB; have HB := n0_; clear n0_; (try clear hb); (try clear hb2); (try clear hk); (try clear hi)) | ((with_reducible refine gate_callee (f := 15) rfl ?_); refine goesL_ (some 47) rfl rfl Tryd.func15 (by kernel_rfl) rfl #[.slice A0 l0.length c0, .int .i64 t151] rfl (by (try simp only [List.map_toArray, List.map_cons, List.map_nil]); first | done | rfl | (simp only [List.length_drop, List.length_take]; rfl)) ?_; (with_reducible refine (workday_Before.calls _ _ l0 t151 t153 t154 _ ?side1 ?side2 A16.out).mono ?_); (case side1 => repeat (first | exact (Kd.C_below HR0.out HB.out) | (with_reducible refine Kd.C_alloc ?_ _) | (with_reducible refine Kd.C_drewN ?_ _) | (with_reducible refine Kd.C_drew ?_))); (case side2 => exact HC0.out); rintro e w48 ⟨rfl, hb⟩; refine ⟨_, rfl, ?_⟩; have n0_ := Aside0.mk (below_step (by repeat (first | (with_reducible first | exact HB.out | apply below_alloc | apply pw_below_drewN | apply below_drew1) | exact HB.out)) hb); clear HB; have HB := n0_; clear n0_; (try clear hb); (try clear hb2); (try clear hk); (try clear hi)) | ((with_reducible refine gate_callee (f := 21) rfl ?_); refine goesL_ (some 55) rfl rfl Tryd.func21 (by kernel_rfl) rfl #[.slice A0 l0.length c0, .int .i64 a1, .int .i64 (wrap64 (a2))] rfl (by (try simp only [List.map_toArray, List.map_cons, List.map_nil]); first | done | rfl | (simp only [List.length_drop, List.length_take]; rfl)) ?_; (with_reducible refine (workday_Add.calls _ _ l0 a1 (wrap64 (a2)) t155 t156 _ ?side1 ?side2 A17.out).mono ?_); (case side1 => repeat (first | exact (Kd.C_below HR0.out HB.out) | (with_reducible refine Kd.C_alloc ?_ _) | (with_reducible refine Kd.C_drewN ?_ _) | (with_reducible refine Kd.C_drew ?_))); (case side2 => exact HC0.out); rintro e w49 ⟨rfl, hb⟩; refine ⟨_, rfl, ?_⟩; have n0_ := Aside0.mk (below_step (by repeat (first | (with_reducible first | exact HB.out | apply below_alloc | apply pw_below_drewN | apply below_drew1) | exact HB.out)) hb); clear HB; have HB := n0_; clear n0_; (try clear hb); (try clear hb2); (try clear hk); (try clear hi)) | ((with_reducible refine gate_callee (f := 21) rfl ?_); refine goesL_ (some 64) rfl rfl Tryd.func21 (by kernel_rfl) rfl #[.slice A0 l0.length c0, .int .i64 t155, .int .i64 (wrap64 (-(wrap64 (a2))))] rfl (by (try simp only [List.map_toArray, List.map_cons, List.map_nil]); first | done | rfl | (simp only [List.length_drop, List.length_take]; rfl)) ?_; (with_reducible refine (workday_Add.calls _ _ l0 t155 (wrap64 (-(wrap64 (a2)))) t157 t158 _ ?side1 ?side2 A18.out).mono ?_); (case side1 => repeat (first | exact (Kd.C_below HR0.out HB.out) | (with_reducible refine Kd.C_alloc ?_ _) | (with_reducible refine Kd.C_drewN ?_ _) | (with_reducible refine Kd.C_drew ?_))); (case side2 => exact HC0.out); rintro e w50 ⟨rfl, hb⟩; refine ⟨_, rfl, ?_⟩; have n0_ := Aside0.mk (below_step (by repeat (first | (with_reducible first | exact HB.out | apply below_alloc | apply pw_below_drewN | apply below_drew1) | exact HB.out)) hb); clear HB; have HB := n0_; clear n0_; (try clear hb); (try clear hb2); (try clear hk); (try clear hi)) | (go_at_call 10; (with_reducible refine (contangolaw06_goes.calls kj4  t162 _ (by repeat (first | exact HLONG.out | exact LongAt.after HLONG.out (by assumption) | exact LongAt.below HLONG.out (by assumption) | apply LongAt.drewN | apply LongAt.drew | apply LongAt.alloc)) A46.out).mono ?_); rintro e w51 ⟨rfl, hb⟩; have n0_ := Aside0.mk (below_step (by repeat (first | (with_reducible first | exact HB.out | apply below_alloc | apply pw_below_drewN | apply below_drew1) | exact HB.out)) hb); clear HB; have HB := n0_; clear n0_; (try clear hb); (try clear hb2); (try clear hk); (try clear hi)))
            go_ret
            exact ⟨by first | rfl | (simp [errW_none, errW_some] <;> rfl) | (simp [*, errW_none, errW_some] <;> rfl), by repeat (first | (with_reducible first | exact HB.out | apply below_alloc | apply pw_below_drewN | apply below_drew1) | exact HB.out)⟩

/-- THE ONE PURE STATEMENT of contangolaw06_WorkdayBack: yours. -/
def contangolaw06_WorkdayBack.Pure : Prop := ∀ (l0 : List Int) (a1 : Int) (a2 : Int), l0.length ≤ maxLen → l0.length * 8 ≤ 140737488351232 → (∀ x ∈ l0, (Lit.int .i64 x).wf = true) → (Lit.int .i64 a1).wf = true → (Lit.int .u8 a2).wf = true → ∃ k, contangolaw06_WorkdayBack.f k l0 a1 a2 = some true
theorem contangolaw06_WorkdayBack.walk (P : contangolaw06_WorkdayBack.Pure) (a0 : Option Addr) (len0 cap0 : Nat) (z0 : List Int) (a1 : Int) (a2 : Int) (w : World) (hL : LongAt w) (w0 : (a0 = none ∧ len0 = 0 ∧ cap0 = 0 ∧ z0 = []) ∨ ∃ x, a0 = some x ∧ len0 ≤ cap0 ∧ cap0 ≤ maxLen ∧ z0.length = cap0 ∧ (∀ i, i < z0.length → w.cell? (x.add i) = some (.int .i64 (z0.getD i 0))) ∧ ∀ n ∈ z0, (Lit.int .i64 n).wf = true) (y0 : len0 * 8 ≤ 140737488351232) (w1 : (Lit.int .i64 a1).wf = true) (w2 : (Lit.int .u8 a2).wf = true) :
    Calls Tryd.prog 6 #[.slice a0 len0 cap0, .int .i64 a1, .int .u8 a2] w fun e w' => e = .returned (.bool true) ∧ Below w.heap.size w w' := by
  obtain ⟨l0, rfl, hr0, hm0, hw0, hc0⟩ := ReadsInt.ofRowC w0
  obtain ⟨k, h⟩ := P l0 a1 a2 hm0 y0 hw0 w1 w2
  refine (contangolaw06_WorkdayBack.calls k _ _ l0 a1 a2 true w hL (Kd.C_of_reads (d := (0 : Int)) (h1 := fun _ => rfl) hr0) hc0 h).mono ?_
  rintro e w' ⟨rfl, hd⟩
  exact ⟨rfl, hd⟩

end Go.Proofs.YtgcefakbbmgbbaaDoor.PWorkdayBack
