/- Laid for this claim by a program of this session's (wip/mkprint.py, wip/ext.py); not trusted: Lean checks it. -/
import Derived.Test.YtaffedkheehplaaPGiveupSidesx0
import Derived.Test.YtaffedkheehplaaPGiveupSidesx1
import Derived.Test.YtaffedkheehplaaPGiveupSidesx2
import Derived.Test.YtaffedkheehplaaPGiveupSidesx3
namespace Go.Proofs.Ytaffedkheehplaa.PGiveupSides
open Go.RowKit Go.Proofs.YtaffedkheehplaaW.PrintWords Go.Proofs.YtaffedkheehplaaW.PrintLast Go.Proofs.YtaffedkheehplaaW.PrintMore
attribute [local go_sem] max2_int min2_int max_two min_two max_three min_three max_four min_four   -- for this text's walks alone
set_option linter.unusedVariables false
set_option linter.unusedSimpArgs false

attribute [local go_sem high] eqA38 eqA40
/-! ### giveup_Sides: function 14 -/
mutual
def giveup_Sides.l0 : Nat → Int → Int → List (S42) → Int → Int → ByteArray → ByteArray → ByteArray → Int → Int → Int → Option (Int × Int)
  | 0, _, _, _, _, _, _, _, _, _, _, _ => none
  | k + 1, x6, x7, x14, x15, x16, x144000, x144001, x145000, x145001, x145002, x145003 => if x16 < x15 then (if 0 ≤ x16 then (if x16 < (x14.length : Int) then (if (!((((rd_T42 x14 x16).f3.f0).toList) == x145000.toList) || (!(((rd_T42 x14 x16).f3.f1) == x145001) || (!(((rd_T42 x14 x16).f3.f2) == x145002) || (!(((rd_T42 x14 x16).f3.f3) == x145003))))) = true then (giveup_Sides.j1 k x6 x7 x14 x15 x16 true x144000 x144001 x145000 x145001 x145002 x145003 ((rd_T42 x14 x16).f0) ((rd_T42 x14 x16).f1) ((rd_T42 x14 x16).f2) ((rd_T42 x14 x16).f3.f0) ((rd_T42 x14 x16).f3.f1) ((rd_T42 x14 x16).f3.f2) ((rd_T42 x14 x16).f3.f3) ((rd_T42 x14 x16).f4) ((rd_T42 x14 x16).f5) ((rd_T42 x14 x16).f6.f0) ((rd_T42 x14 x16).f6.f1) ((rd_T42 x14 x16).f7.f0) ((rd_T42 x14 x16).f7.f1)) else ((giveup_lots.f ((rd_T42 x14 x16).f4)).bind fun t151 => (giveup_Sides.j1 k x6 x7 x14 x15 x16 (!t151) x144000 x144001 x145000 x145001 x145002 x145003 ((rd_T42 x14 x16).f0) ((rd_T42 x14 x16).f1) ((rd_T42 x14 x16).f2) ((rd_T42 x14 x16).f3.f0) ((rd_T42 x14 x16).f3.f1) ((rd_T42 x14 x16).f3.f2) ((rd_T42 x14 x16).f3.f3) ((rd_T42 x14 x16).f4) ((rd_T42 x14 x16).f5) ((rd_T42 x14 x16).f6.f0) ((rd_T42 x14 x16).f6.f1) ((rd_T42 x14 x16).f7.f0) ((rd_T42 x14 x16).f7.f1)))) else (none)) else (none)) else (some (x6, x7))
def giveup_Sides.j1 : Nat → Int → Int → List (S42) → Int → Int → Bool → ByteArray → ByteArray → ByteArray → Int → Int → Int → Int → Int → Int → ByteArray → Int → Int → Int → Int → Int → ByteArray → ByteArray → ByteArray → ByteArray → Option (Int × Int)
  | 0, _, _, _, _, _, _, _, _, _, _, _, _, _, _, _, _, _, _, _, _, _, _, _, _, _ => none
  | k + 1, x6, x7, x14, x15, x16, x29, x144000, x144001, x145000, x145001, x145002, x145003, x151000, x151001, x151002, x151003, x151004, x151005, x151006, x151007, x151008, x151009, x151010, x151011, x151012 => if x29 = true then (giveup_Sides.l0 k x6 x7 x14 x15 (wrap64 (x16 + 1)) x144000 x144001 x145000 x145001 x145002 x145003) else (if (x151009.toList == x144000.toList && (x151010.toList == x144001.toList)) = true then (if (x151011.toList == x144000.toList && (x151012.toList == x144001.toList)) = true then (giveup_Sides.l0 k (wrap64 (x6 + x151007)) (wrap64 (x7 + x151007)) x14 x15 (wrap64 (x16 + 1)) x144000 x144001 x145000 x145001 x145002 x145003) else (giveup_Sides.l0 k (wrap64 (x6 + x151007)) x7 x14 x15 (wrap64 (x16 + 1)) x144000 x144001 x145000 x145001 x145002 x145003)) else (if (x151011.toList == x144000.toList && (x151012.toList == x144001.toList)) = true then (giveup_Sides.l0 k x6 (wrap64 (x7 + x151007)) x14 x15 (wrap64 (x16 + 1)) x144000 x144001 x145000 x145001 x145002 x145003) else (giveup_Sides.l0 k x6 x7 x14 x15 (wrap64 (x16 + 1)) x144000 x144001 x145000 x145001 x145002 x145003)))
end
def giveup_Sides.f (k : Nat) (l0 : List (S42)) (a1_0 : ByteArray) (a1_1 : ByteArray) (a2_0 : ByteArray) (a2_1 : Int) (a2_2 : Int) (a2_3 : Int) : Option (Int × Int) := if 0 ≤ (mn (l0.length : Int) 1024) then (if (mn (l0.length : Int) 1024) ≤ (l0.length : Int) then ((some (l0.take ((mn (l0.length : Int) 1024) : Int).toNat : List (S42))).bind fun y145 => (giveup_Sides.l0 k 0 0 y145 (y145.length : Int) 0 a1_0 a1_1 a2_0 a2_1 a2_2 a2_3)) else (none)) else (none)
theorem giveup_Sides.mono_l : ∀ k, (∀ y0 y1 y2 y3 y4 y5 y6 y7 y8 y9 y10, LeO (giveup_Sides.l0 k y0 y1 y2 y3 y4 y5 y6 y7 y8 y9 y10) (giveup_Sides.l0 (k + 1) y0 y1 y2 y3 y4 y5 y6 y7 y8 y9 y10)) ∧ (∀ y0 y1 y2 y3 y4 y5 y6 y7 y8 y9 y10 y11 y12 y13 y14 y15 y16 y17 y18 y19 y20 y21 y22 y23 y24, LeO (giveup_Sides.j1 k y0 y1 y2 y3 y4 y5 y6 y7 y8 y9 y10 y11 y12 y13 y14 y15 y16 y17 y18 y19 y20 y21 y22 y23 y24) (giveup_Sides.j1 (k + 1) y0 y1 y2 y3 y4 y5 y6 y7 y8 y9 y10 y11 y12 y13 y14 y15 y16 y17 y18 y19 y20 y21 y22 y23 y24))
  | 0 => ⟨fun _ _ _ _ _ _ _ _ _ _ _ r h => by simp [giveup_Sides.l0] at h, fun _ _ _ _ _ _ _ _ _ _ _ _ _ _ _ _ _ _ _ _ _ _ _ _ _ r h => by simp [giveup_Sides.j1] at h⟩
  | k + 1 => by
    obtain ⟨ih0, ih1⟩ := giveup_Sides.mono_l k
    refine ⟨?_, ?_⟩
    · intro y0 y1 y2 y3 y4 y5 y6 y7 y8 y9 y10
      unfold giveup_Sides.l0
      repeat' first
      | (with_reducible exact ih0 _ _ _ _ _ _ _ _ _ _ _)
      | (with_reducible exact ih1 _ _ _ _ _ _ _ _ _ _ _ _ _ _ _ _ _ _ _ _ _ _ _ _ _)
      | (with_reducible exact LeO.refl _)
      | (with_reducible exact LeO.none _)
      | (with_reducible refine LeO.ite ?_ ?_)
      | (with_reducible refine LeO.bind ?_ (fun _ => ?_))
      | exact ih0 _ _ _ _ _ _ _ _ _ _ _
      | exact ih1 _ _ _ _ _ _ _ _ _ _ _ _ _ _ _ _ _ _ _ _ _ _ _ _ _
      | exact LeO.none _
      | refine LeO.ite ?_ ?_
      | refine LeO.bind ?_ (fun _ => ?_)
    · intro y0 y1 y2 y3 y4 y5 y6 y7 y8 y9 y10 y11 y12 y13 y14 y15 y16 y17 y18 y19 y20 y21 y22 y23 y24
      unfold giveup_Sides.j1
      repeat' first
      | (with_reducible exact ih0 _ _ _ _ _ _ _ _ _ _ _)
      | (with_reducible exact ih1 _ _ _ _ _ _ _ _ _ _ _ _ _ _ _ _ _ _ _ _ _ _ _ _ _)
      | (with_reducible exact LeO.refl _)
      | (with_reducible exact LeO.none _)
      | (with_reducible refine LeO.ite ?_ ?_)
      | (with_reducible refine LeO.bind ?_ (fun _ => ?_))
      | exact ih0 _ _ _ _ _ _ _ _ _ _ _
      | exact ih1 _ _ _ _ _ _ _ _ _ _ _ _ _ _ _ _ _ _ _ _ _ _ _ _ _
      | exact LeO.none _
      | refine LeO.ite ?_ ?_
      | refine LeO.bind ?_ (fun _ => ?_)
theorem giveup_Sides.mono : ∀ a0 a1 a2 a3 a4 a5 a6 k, LeO (giveup_Sides.f k a0 a1 a2 a3 a4 a5 a6) (giveup_Sides.f (k + 1) a0 a1 a2 a3 a4 a5 a6) := by
  intro a0 a1 a2 a3 a4 a5 a6 k
  obtain ⟨ih0, ih1⟩ := giveup_Sides.mono_l k
  unfold giveup_Sides.f
  repeat' first
      | (with_reducible exact ih0 _ _ _ _ _ _ _ _ _ _ _)
      | (with_reducible exact ih1 _ _ _ _ _ _ _ _ _ _ _ _ _ _ _ _ _ _ _ _ _ _ _ _ _)
      | (with_reducible exact LeO.refl _)
      | (with_reducible exact LeO.none _)
      | (with_reducible refine LeO.ite ?_ ?_)
      | (with_reducible refine LeO.bind ?_ (fun _ => ?_))
      | exact ih0 _ _ _ _ _ _ _ _ _ _ _
      | exact ih1 _ _ _ _ _ _ _ _ _ _ _ _ _ _ _ _ _ _ _ _ _ _ _ _ _
      | exact LeO.none _
      | refine LeO.ite ?_ ?_
      | refine LeO.bind ?_ (fun _ => ?_)
set_option maxHeartbeats 8000000 in
set_option maxRecDepth 100000 in
theorem giveup_Sides.calls (k : Nat) (A0 : Option Addr) (c0 : Nat) (l0 : List (S42)) (a1_0 : ByteArray) (a1_1 : ByteArray) (a2_0 : ByteArray) (a2_1 : Int) (a2_2 : Int) (a2_3 : Int) (r1 : Int) (r2 : Int) (w : World) (hr0 : Kd.C k42 w A0 l0.length l0) (hc0 : l0.length ≤ c0) (h : giveup_Sides.f k l0 a1_0 a1_1 a2_0 a2_1 a2_2 a2_3 = some (r1, r2)) :
    Calls Try.prog 14 #[.slice A0 l0.length c0, .agg #[.string a1_0, .string a1_1], .agg #[.string a2_0, .int .i64 a2_1, .int .i64 a2_2, .int .i64 a2_3]] w fun e w' => e = .returned (.tuple #[.int .i64 r1, .int .i64 r2]) ∧ Below w.heap.size w w' := by
  have hu40 := Try.underlying40
  have hu38 := Try.underlying38
  have hu42 := Try.underlying42
  have HR0 := Aside0.mk hr0
  have HC0 := Aside0.mk hc0
  clear hr0 hc0
  have HB := Aside0.mk (Below.refl w.heap.size w)
  have H : (if 0 ≤ (mn (l0.length : Int) 1024) then (if (mn (l0.length : Int) 1024) ≤ (l0.length : Int) then ((some (l0.take ((mn (l0.length : Int) 1024) : Int).toNat : List (S42))).bind fun y145 => (giveup_Sides.l0 k 0 0 y145 (y145.length : Int) 0 a1_0 a1_1 a2_0 a2_1 a2_2 a2_3)) else (none)) else (none)) = some (r1, r2) := h
  clear h
  obtain ⟨ji4, hji4⟩ : ∃ j_ : Int, (mn (l0.length : Int) 1024) = j_ := ⟨_, rfl⟩
  replace H : (if 0 ≤ (ji4) then (if (ji4) ≤ (l0.length : Int) then ((some (l0.take ((ji4) : Int).toNat : List (S42))).bind fun y145 => (giveup_Sides.l0 k 0 0 y145 (y145.length : Int) 0 a1_0 a1_1 a2_0 a2_1 a2_2 a2_3)) else (none)) else (none)) = some (r1, r2) := by first | (rw [hji4] at H; exact H) | (simp only [hji4] at H ⊢; exact H)
  (try (have hji4h : ji4 ≤ 1024 := by (rw [← hji4]; unfold mn; (repeat' split) <;> omega)))
  (try (have hji4g : ji4 ≤ 64 := by omega))
  (try (have hji4l : 0 ≤ ji4 := by (rw [← hji4]; unfold mn; (repeat' split) <;> omega)))
  (try (have hji4m : 0 ≤ ji4 := by omega))
  have hji4_ : (if 1024 < (l0.length : Int) then 1024 else (l0.length : Int)) = ji4 := hji4
  by_cases c5 : 0 ≤ (ji4)
  · rw [if_pos c5] at H
    have c5b0 := eq_true c5
    have c5b1 : decide (0 ≤ (ji4)) = true := decide_eq_true c5
    clear c5
    by_cases c6 : (ji4) ≤ (l0.length : Int)
    · rw [if_pos c6] at H
      have c6b0 := eq_true c6
      have c6b1 : decide ((ji4) ≤ (l0.length : Int)) = true := decide_eq_true c6
      clear c6
      obtain ⟨y145, hy145⟩ : ∃ y_ : List (S42), y_ = (l0.take ((ji4) : Int).toNat) := ⟨_, rfl⟩
      replace H : (giveup_Sides.l0 k 0 0 y145 (y145.length : Int) 0 a1_0 a1_1 a2_0 a2_1 a2_2 a2_3) = some (r1, r2) := by first | (rw [hy145]; with_reducible exact H) | (have H2_ := (Option.bind_some _ _).symm.trans H; rw [hy145]; with_reducible exact H2_) | (have H2_ := (Option.bind_some _ _).symm.trans H; with_reducible exact H2_) | with_reducible exact H | (rw [hy145]; exact H) | exact H
      have Ny145 := Aside0.mk hy145
      clear hy145
      have H' := Aside0.mk H
      clear H
      go_enter Try.func14, Try.ntmps14
      go_wp2_with (first | ((with_reducible refine gate_dst (N := 4) rfl ?_); refine box_event ?hg (N := 4) ?hd (cs := #[.string a1_0, .string a1_1]) (t := 40) ?hr ?_; (case hd => rfl); (case hg => rfl); (case hr => first | (go_simp; done) | (go_simp; rfl)); intro gb143 hg w7 hbox hb; have n0_ := Aside0.mk (below_step (by repeat (first | (with_reducible first | exact HB.out | apply below_alloc | apply pw_below_drewN | apply below_drew1) | exact HB.out)) hb); have n1_ := Aside0.mk (hbox); have n2_ := Aside0.mk ((by rw [hg]; exact (below_size (by repeat (first | (with_reducible first | exact HB.out | apply below_alloc | apply pw_below_drewN | apply below_drew1) | exact HB.out))) : w.heap.size ≤ gb143)); have n3_ := Aside0.mk ((by rw [hg]; exact (below_size (by repeat (first | (with_reducible first | exact HB.out | apply below_alloc | apply pw_below_drewN | apply below_drew1) | exact HB.out))) : w.heap.size ≤ gb143)); clear HB; have HB := n0_; have BK143 := n1_; have GW143 := n2_; have GE143 := n3_; clear n0_ n1_ n2_ n3_; clear hb hbox hg) | ((with_reducible refine gate_dst (N := 5) rfl ?_); refine box_event ?hg (N := 5) ?hd (cs := #[.string a2_0, .int .i64 a2_1, .int .i64 a2_2, .int .i64 a2_3]) (t := 38) ?hr ?_; (case hd => rfl); (case hg => rfl); (case hr => first | (go_simp; done) | (go_simp; rfl)); intro gb144 hg w8 hbox hb; have n0_ := Aside0.mk (blk_below (g := gb143) (o := .cells #[.string a1_0, .string a1_1] 40 (0, 0)) (by (with_reducible repeat (first | refine blk_drewN ?_ _ | refine blk_drew ?_ | refine blk_alloc ?_ _)); exact BK143.out) hb); have n1_ := Aside0.mk (below_step (by repeat (first | (with_reducible first | exact HB.out | apply below_alloc | apply pw_below_drewN | apply below_drew1 | refine below_set ?_ GE143.out) | exact HB.out)) hb); have n2_ := Aside0.mk (hbox); have n3_ := Aside0.mk ((by rw [hg]; exact (below_size (by repeat (first | (with_reducible first | exact HB.out | apply below_alloc | apply pw_below_drewN | apply below_drew1 | refine below_set ?_ GE143.out) | exact HB.out))) : w.heap.size ≤ gb144)); have n4_ := Aside0.mk ((by rw [hg]; exact (below_size (by repeat (first | (with_reducible first | exact HB.out | apply below_alloc | apply pw_below_drewN | apply below_drew1 | refine below_set ?_ GE143.out) | exact HB.out))) : w.heap.size ≤ gb144)); have n5_ := Aside0.mk ((by rw [hg]; exact Nat.ne_of_lt (blk_lt (g := gb143) (o := .cells #[.string a1_0, .string a1_1] 40 (0, 0)) (by (with_reducible repeat (first | refine blk_drewN ?_ _ | refine blk_drew ?_ | refine blk_alloc ?_ _)); exact BK143.out)) : gb143 ≠ gb144)); have n6_ := Aside0.mk ((by rw [hg]; exact Nat.ne_of_gt (blk_lt (g := gb143) (o := .cells #[.string a1_0, .string a1_1] 40 (0, 0)) (by (with_reducible repeat (first | refine blk_drewN ?_ _ | refine blk_drew ?_ | refine blk_alloc ?_ _)); exact BK143.out)) : gb144 ≠ gb143)); clear BK143; clear HB; have BK143 := n0_; have HB := n1_; have BK144 := n2_; have GW144 := n3_; have GE144 := n4_; have NB143_144 := n5_; have NB144_143 := n6_; clear n0_ n1_ n2_ n3_ n4_ n5_ n6_; clear hb hbox hg; have q9 : ((ji4) : Int) ≤ ((l0.length : Int) : Int) := of_decide_eq_true (by first | (with_reducible assumption) | assumption); obtain ⟨i09, hi09, _, hsz9, _⟩ := info_parts info42; have hroom9 : l0.length ≤ c0 := HC0.out; have hC9 : Kd.C k42 _ A0 l0.length l0 := HR0.out; have hcut9 := cut_to (P := Try.prog) 22 42 .i64 Try.underlying22 hi09 A0 l0.length c0 (ji4) (of_decide_eq_true (by first | (with_reducible assumption) | assumption)) q9 hroom9; have hr9 := Kd.C_take (m := ((ji4) : Int).toNat) hC9 (by omega); have hy9 : y145.length = ((ji4) : Int).toNat := (by rw [Ny145.out, List.length_take]; omega); rw [← Ny145.out] at hr9; rw [← hy9] at hcut9; have HR148 := Aside0.mk hr9; have HC148 := Aside0.mk (show y145.length ≤ c0 from by omega); clear hr9 hC9 hroom9 hi09 hsz9; have KY9 := Aside0.mk hy9; clear hy9; replace q9 := eq_true q9))
      go_loopg [6, 7, 16] k (fun kq v6 v7 v16 w' => ∃ (x6_1 : Int) (x7_1 : Int) (x16_1 : Int), v6 = .int .i64 x6_1 ∧ v7 = .int .i64 x7_1 ∧ v16 = .int .i64 x16_1 ∧ Aside0 (giveup_Sides.l0 kq x6_1 x7_1 y145 (y145.length : Int) x16_1 a1_0 a1_1 a2_0 a2_1 a2_2 a2_3 = some (r1, r2)) ∧ Aside0 (kq ≤ k) ∧ Aside0 (w'.heap[gb143]? = some (.cells #[.string a1_0, .string a1_1] 40 (0, 0))) ∧ Aside0 (w'.heap[gb144]? = some (.cells #[.string a2_0, .int .i64 a2_1, .int .i64 a2_2, .int .i64 a2_3] 38 (0, 0))) ∧ Aside0 (Below w.heap.size w w'))
      case atStart => exact ⟨(0), (0), (0), (by first | rfl | (simp; done) | (simp [*]; done)), (by first | rfl | (simp; done) | (simp [*]; done)), (by first | rfl | (simp; done) | (simp [*]; done)), H', ⟨Nat.le_refl _⟩, ⟨by (with_reducible repeat (first | refine blk_drewN ?_ _ | refine blk_drew ?_ | refine blk_alloc ?_ _)); exact BK143.out⟩, ⟨by (with_reducible repeat (first | refine blk_drewN ?_ _ | refine blk_drew ?_ | refine blk_alloc ?_ _)); exact BK144.out⟩, ⟨by repeat (first | (with_reducible first | exact HB.out | apply below_alloc | apply pw_below_drewN | apply below_drew1 | refine below_set ?_ GE143.out | refine below_set ?_ GE144.out) | exact HB.out)⟩⟩
      case round =>
        clear H'
        try clear c1
        try clear p2
        try clear c5
        try clear c5b0
        try clear c5b1
        try clear c6
        try clear c6b0
        try clear c6b1
        try clear q9
        try clear q9
        obtain ⟨x6_1, x7_1, x16_1, rfl, rfl, rfl, HA, HK1, BK143, BK144, HB⟩ := hrel
        cases gk with
        | zero => exact absurd HA.out (by simp [giveup_Sides.l0])
        | succ k1 =>
          have H := HA.out
          clear HA
          simp only [giveup_Sides.l0] at H
          by_cases c10 : x16_1 < (y145.length : Int)
          · rw [if_pos c10] at H
            have c10b0 : decide (x16_1 < (y145.length : Int)) = true := decide_eq_true c10
            clear c10
            by_cases c11 : 0 ≤ x16_1
            · rw [if_pos c11] at H
              have c11b0 : decide (0 ≤ x16_1) = true := decide_eq_true c11
              clear c11
              by_cases c12 : x16_1 < (y145.length : Int)
              · rw [if_pos c12] at H
                have c12b0 : decide (x16_1 < (y145.length : Int)) = true := decide_eq_true c12
                clear c12
                have HC13 := Aside0.mk H
                clear H
                have p149 : 0 ≤ (x16_1 : Int) := of_decide_eq_true (by first | (with_reducible assumption) | assumption)
                have q149 : x16_1 < (y145.length : Int) := of_decide_eq_true (by first | (with_reducible assumption) | assumption)
                obtain ⟨ad149, e149, hx149_0, hx149_1, hx149_2, hx149_3, hx149_4, hx149_5, hx149_6, hx149_7, hx149_8, hx149_9, hx149_10, hx149_11, hx149_12⟩ := at_T42 HR148.out x16_1 p149 q149
                cases e149
                replace hx149_0 := (HB.out.cell (World.block_lt_of_cell? w _ hx149_0)).trans hx149_0
                replace hx149_1 := (HB.out.cell (World.block_lt_of_cell? w _ hx149_1)).trans hx149_1
                replace hx149_2 := (HB.out.cell (World.block_lt_of_cell? w _ hx149_2)).trans hx149_2
                replace hx149_3 := (HB.out.cell (World.block_lt_of_cell? w _ hx149_3)).trans hx149_3
                replace hx149_4 := (HB.out.cell (World.block_lt_of_cell? w _ hx149_4)).trans hx149_4
                replace hx149_5 := (HB.out.cell (World.block_lt_of_cell? w _ hx149_5)).trans hx149_5
                replace hx149_6 := (HB.out.cell (World.block_lt_of_cell? w _ hx149_6)).trans hx149_6
                replace hx149_7 := (HB.out.cell (World.block_lt_of_cell? w _ hx149_7)).trans hx149_7
                replace hx149_8 := (HB.out.cell (World.block_lt_of_cell? w _ hx149_8)).trans hx149_8
                replace hx149_9 := (HB.out.cell (World.block_lt_of_cell? w _ hx149_9)).trans hx149_9
                replace hx149_10 := (HB.out.cell (World.block_lt_of_cell? w _ hx149_10)).trans hx149_10
                replace hx149_11 := (HB.out.cell (World.block_lt_of_cell? w _ hx149_11)).trans hx149_11
                replace hx149_12 := (HB.out.cell (World.block_lt_of_cell? w _ hx149_12)).trans hx149_12
                replace p149 := eq_true p149
                replace q149 := eq_true q149
                go_upto_region 4 with (first | ((with_reducible refine gate_dst (N := 9) rfl ?_); refine box_event ?hg (N := 9) ?hd (cs := #[.int .i64 0, .int .i64 0, .int .i64 0, .string (⟨#[]⟩ : ByteArray), .int .i64 0, .int .i64 0, .int .i64 0, .int .i64 0, .int .i64 0, .string (⟨#[]⟩ : ByteArray), .string (⟨#[]⟩ : ByteArray), .string (⟨#[]⟩ : ByteArray), .string (⟨#[]⟩ : ByteArray)]) (t := 42) ?hr ?_; (case hd => rfl); (case hg => rfl); (case hr => first | (go_simp; done) | (go_simp; rfl)); intro gb150 hg w14 hbox hb; have n0_ := Aside0.mk (blk_below (g := gb143) (o := .cells #[.string a1_0, .string a1_1] 40 (0, 0)) (by (with_reducible repeat (first | refine blk_drewN ?_ _ | refine blk_drew ?_ | refine blk_alloc ?_ _)); exact BK143.out) hb); have n1_ := Aside0.mk (blk_below (g := gb144) (o := .cells #[.string a2_0, .int .i64 a2_1, .int .i64 a2_2, .int .i64 a2_3] 38 (0, 0)) (by (with_reducible repeat (first | refine blk_drewN ?_ _ | refine blk_drew ?_ | refine blk_alloc ?_ _)); exact BK144.out) hb); have n2_ := Aside0.mk (below_step (by repeat (first | (with_reducible first | exact HB.out | apply below_alloc | apply pw_below_drewN | apply below_drew1 | refine below_set ?_ GE143.out | refine below_set ?_ GE144.out) | exact HB.out)) hb); have n3_ := Aside0.mk (hbox); have n4_ := Aside0.mk ((by rw [hg]; exact (below_size (by repeat (first | (with_reducible first | exact HB.out | apply below_alloc | apply pw_below_drewN | apply below_drew1 | refine below_set ?_ GE143.out | refine below_set ?_ GE144.out) | exact HB.out))) : w.heap.size ≤ gb150)); have n5_ := Aside0.mk ((by rw [hg]; exact (below_size (by repeat (first | (with_reducible first | exact HB.out | apply below_alloc | apply pw_below_drewN | apply below_drew1 | refine below_set ?_ GE143.out | refine below_set ?_ GE144.out) | exact HB.out))) : w.heap.size ≤ gb150)); have n6_ := Aside0.mk ((by rw [hg]; exact Nat.ne_of_lt (blk_lt (g := gb143) (o := .cells #[.string a1_0, .string a1_1] 40 (0, 0)) (by (with_reducible repeat (first | refine blk_drewN ?_ _ | refine blk_drew ?_ | refine blk_alloc ?_ _)); exact BK143.out)) : gb143 ≠ gb150)); have n7_ := Aside0.mk ((by rw [hg]; exact Nat.ne_of_gt (blk_lt (g := gb143) (o := .cells #[.string a1_0, .string a1_1] 40 (0, 0)) (by (with_reducible repeat (first | refine blk_drewN ?_ _ | refine blk_drew ?_ | refine blk_alloc ?_ _)); exact BK143.out)) : gb150 ≠ gb143)); have n8_ := Aside0.mk ((by rw [hg]; exact Nat.ne_of_lt (blk_lt (g := gb144) (o := .cells #[.string a2_0, .int .i64 a2_1, .int .i64 a2_2, .int .i64 a2_3] 38 (0, 0)) (by (with_reducible repeat (first | refine blk_drewN ?_ _ | refine blk_drew ?_ | refine blk_alloc ?_ _)); exact BK144.out)) : gb144 ≠ gb150)); have n9_ := Aside0.mk ((by rw [hg]; exact Nat.ne_of_gt (blk_lt (g := gb144) (o := .cells #[.string a2_0, .int .i64 a2_1, .int .i64 a2_2, .int .i64 a2_3] 38 (0, 0)) (by (with_reducible repeat (first | refine blk_drewN ?_ _ | refine blk_drew ?_ | refine blk_alloc ?_ _)); exact BK144.out)) : gb150 ≠ gb144)); clear BK143; clear BK144; clear HB; have BK143 := n0_; have BK144 := n1_; have HB := n2_; have BK150 := n3_; have GW150 := n4_; have GE150 := n5_; have NB143_150 := n6_; have NB150_143 := n7_; have NB144_150 := n8_; have NB150_144 := n9_; clear n0_ n1_ n2_ n3_ n4_ n5_ n6_ n7_ n8_ n9_; clear hb hbox hg; have hnb15 := NB150_143.out; have hnc15 := NB143_150.out; have hnb16 := NB150_144.out; have hnc16 := NB144_150.out; have hcz17_0 : w14.cell? ⟨gb150, 0, none⟩ = some (.int .i64 0) := (blk_cell BK150.out 0).trans rfl; have hcz17_1 : w14.cell? ⟨gb150, 1, none⟩ = some (.int .i64 0) := (blk_cell BK150.out 1).trans rfl; have hcz17_2 : w14.cell? ⟨gb150, 2, none⟩ = some (.int .i64 0) := (blk_cell BK150.out 2).trans rfl; have hcz17_3 : w14.cell? ⟨gb150, 3, none⟩ = some (.string (⟨#[]⟩ : ByteArray)) := (blk_cell BK150.out 3).trans rfl; have hcz17_4 : w14.cell? ⟨gb150, 4, none⟩ = some (.int .i64 0) := (blk_cell BK150.out 4).trans rfl; have hcz17_5 : w14.cell? ⟨gb150, 5, none⟩ = some (.int .i64 0) := (blk_cell BK150.out 5).trans rfl; have hcz17_6 : w14.cell? ⟨gb150, 6, none⟩ = some (.int .i64 0) := (blk_cell BK150.out 6).trans rfl; have hcz17_7 : w14.cell? ⟨gb150, 7, none⟩ = some (.int .i64 0) := (blk_cell BK150.out 7).trans rfl; have hcz17_8 : w14.cell? ⟨gb150, 8, none⟩ = some (.int .i64 0) := (blk_cell BK150.out 8).trans rfl; have hcz17_9 : w14.cell? ⟨gb150, 9, none⟩ = some (.string (⟨#[]⟩ : ByteArray)) := (blk_cell BK150.out 9).trans rfl; have hcz17_10 : w14.cell? ⟨gb150, 10, none⟩ = some (.string (⟨#[]⟩ : ByteArray)) := (blk_cell BK150.out 10).trans rfl; have hcz17_11 : w14.cell? ⟨gb150, 11, none⟩ = some (.string (⟨#[]⟩ : ByteArray)) := (blk_cell BK150.out 11).trans rfl; have hcz17_12 : w14.cell? ⟨gb150, 12, none⟩ = some (.string (⟨#[]⟩ : ByteArray)) := (blk_cell BK150.out 12).trans rfl; have hfz17_0 := blk_frozen BK150.out 0; have hfz17_1 := blk_frozen BK150.out 1; have hfz17_2 := blk_frozen BK150.out 2; have hfz17_3 := blk_frozen BK150.out 3; have hfz17_4 := blk_frozen BK150.out 4; have hfz17_5 := blk_frozen BK150.out 5; have hfz17_6 := blk_frozen BK150.out 6; have hfz17_7 := blk_frozen BK150.out 7; have hfz17_8 := blk_frozen BK150.out 8; have hfz17_9 := blk_frozen BK150.out 9; have hfz17_10 := blk_frozen BK150.out 10; have hfz17_11 := blk_frozen BK150.out 11; have hfz17_12 := blk_frozen BK150.out 12))
                (try simp only [Act.put, List.setIfInBounds_toArray, List.set_cons_zero, List.set_cons_succ])
                go_cut [29] (fun v29 wc => ∃ (kq : Nat) (x29_12 : Bool), v29 = .bool x29_12 ∧ Aside0 (giveup_Sides.j1 kq x6_1 x7_1 y145 (y145.length : Int) x16_1 x29_12 a1_0 a1_1 a2_0 a2_1 a2_2 a2_3 ((rd_T42 y145 x16_1).f0) ((rd_T42 y145 x16_1).f1) ((rd_T42 y145 x16_1).f2) ((rd_T42 y145 x16_1).f3.f0) ((rd_T42 y145 x16_1).f3.f1) ((rd_T42 y145 x16_1).f3.f2) ((rd_T42 y145 x16_1).f3.f3) ((rd_T42 y145 x16_1).f4) ((rd_T42 y145 x16_1).f5) ((rd_T42 y145 x16_1).f6.f0) ((rd_T42 y145 x16_1).f6.f1) ((rd_T42 y145 x16_1).f7.f0) ((rd_T42 y145 x16_1).f7.f1) = some (r1, r2)) ∧ Aside0 (kq ≤ k1) ∧ Aside0 (wc.heap[gb143]? = some (.cells #[.string a1_0, .string a1_1] 40 (0, 0))) ∧ Aside0 (wc.heap[gb144]? = some (.cells #[.string a2_0, .int .i64 a2_1, .int .i64 a2_2, .int .i64 a2_3] 38 (0, 0))) ∧ Aside0 (wc.heap[gb150]? = some (.cells #[.int .i64 ((rd_T42 y145 x16_1).f0), .int .i64 ((rd_T42 y145 x16_1).f1), .int .i64 ((rd_T42 y145 x16_1).f2), .string ((rd_T42 y145 x16_1).f3.f0), .int .i64 ((rd_T42 y145 x16_1).f3.f1), .int .i64 ((rd_T42 y145 x16_1).f3.f2), .int .i64 ((rd_T42 y145 x16_1).f3.f3), .int .i64 ((rd_T42 y145 x16_1).f4), .int .i64 ((rd_T42 y145 x16_1).f5), .string ((rd_T42 y145 x16_1).f6.f0), .string ((rd_T42 y145 x16_1).f6.f1), .string ((rd_T42 y145 x16_1).f7.f0), .string ((rd_T42 y145 x16_1).f7.f1)] 42 (0, 0))) ∧ Aside0 (Below w.heap.size w wc))
                case first =>
                  have H := HC13.out
                  clear HC13
                  by_cases c18 : (!((((rd_T42 y145 x16_1).f3.f0).toList) == a2_0.toList) || (!(((rd_T42 y145 x16_1).f3.f1) == a2_1) || (!(((rd_T42 y145 x16_1).f3.f2) == a2_2) || (!(((rd_T42 y145 x16_1).f3.f3) == a2_3))))) = true
                  · rw [if_pos c18] at H
                    have c18b0 : (!((((rd_T42 y145 x16_1).f3.f0).toList) == a2_0.toList) || (!(((rd_T42 y145 x16_1).f3.f1) == a2_1) || (!(((rd_T42 y145 x16_1).f3.f2) == a2_2) || (!(((rd_T42 y145 x16_1).f3.f3) == a2_3))))) = true := c18
                    clear c18
                    (first | rw [c18b0] | (simp only [i64_w, i32_w]; rw [c18b0]) | skip)
                    have H' := Aside0.mk H
                    clear H
                    have hnb19 := NB150_143.out
                    have hnc19 := NB143_150.out
                    have hnb20 := NB150_144.out
                    have hnc20 := NB144_150.out
                    have hcz21_0 : w14.cell? ⟨gb150, 0, none⟩ = some (.int .i64 0) := (blk_cell BK150.out 0).trans rfl
                    have hcz21_1 : w14.cell? ⟨gb150, 1, none⟩ = some (.int .i64 0) := (blk_cell BK150.out 1).trans rfl
                    have hcz21_2 : w14.cell? ⟨gb150, 2, none⟩ = some (.int .i64 0) := (blk_cell BK150.out 2).trans rfl
                    have hcz21_3 : w14.cell? ⟨gb150, 3, none⟩ = some (.string (⟨#[]⟩ : ByteArray)) := (blk_cell BK150.out 3).trans rfl
                    have hcz21_4 : w14.cell? ⟨gb150, 4, none⟩ = some (.int .i64 0) := (blk_cell BK150.out 4).trans rfl
                    have hcz21_5 : w14.cell? ⟨gb150, 5, none⟩ = some (.int .i64 0) := (blk_cell BK150.out 5).trans rfl
                    have hcz21_6 : w14.cell? ⟨gb150, 6, none⟩ = some (.int .i64 0) := (blk_cell BK150.out 6).trans rfl
                    have hcz21_7 : w14.cell? ⟨gb150, 7, none⟩ = some (.int .i64 0) := (blk_cell BK150.out 7).trans rfl
                    have hcz21_8 : w14.cell? ⟨gb150, 8, none⟩ = some (.int .i64 0) := (blk_cell BK150.out 8).trans rfl
                    have hcz21_9 : w14.cell? ⟨gb150, 9, none⟩ = some (.string (⟨#[]⟩ : ByteArray)) := (blk_cell BK150.out 9).trans rfl
                    have hcz21_10 : w14.cell? ⟨gb150, 10, none⟩ = some (.string (⟨#[]⟩ : ByteArray)) := (blk_cell BK150.out 10).trans rfl
                    have hcz21_11 : w14.cell? ⟨gb150, 11, none⟩ = some (.string (⟨#[]⟩ : ByteArray)) := (blk_cell BK150.out 11).trans rfl
                    have hcz21_12 : w14.cell? ⟨gb150, 12, none⟩ = some (.string (⟨#[]⟩ : ByteArray)) := (blk_cell BK150.out 12).trans rfl
                    have hfz21_0 := blk_frozen BK150.out 0
                    have hfz21_1 := blk_frozen BK150.out 1
                    have hfz21_2 := blk_frozen BK150.out 2
                    have hfz21_3 := blk_frozen BK150.out 3
                    have hfz21_4 := blk_frozen BK150.out 4
                    have hfz21_5 := blk_frozen BK150.out 5
                    have hfz21_6 := blk_frozen BK150.out 6
                    have hfz21_7 := blk_frozen BK150.out 7
                    have hfz21_8 := blk_frozen BK150.out 8
                    have hfz21_9 := blk_frozen BK150.out 9
                    have hfz21_10 := blk_frozen BK150.out 10
                    have hfz21_11 := blk_frozen BK150.out 11
                    have hfz21_12 := blk_frozen BK150.out 12
                    have hnb22 := NB144_143.out
                    have hnc22 := NB143_144.out
                    have hcz23_0 : w14.cell? ⟨gb144, 0, none⟩ = some (.string a2_0) := (blk_cell BK144.out 0).trans rfl
                    have hcz23_1 : w14.cell? ⟨gb144, 1, none⟩ = some (.int .i64 a2_1) := (blk_cell BK144.out 1).trans rfl
                    have hcz23_2 : w14.cell? ⟨gb144, 2, none⟩ = some (.int .i64 a2_2) := (blk_cell BK144.out 2).trans rfl
                    have hcz23_3 : w14.cell? ⟨gb144, 3, none⟩ = some (.int .i64 a2_3) := (blk_cell BK144.out 3).trans rfl
                    have hfz23_0 := blk_frozen BK144.out 0
                    have hfz23_1 := blk_frozen BK144.out 1
                    have hfz23_2 := blk_frozen BK144.out 2
                    have hfz23_3 := blk_frozen BK144.out 3
                    go_wp2
                    go_meet
                    case rel => exact ⟨_, (true), (by first | rfl | (simp; done) | (simp [*]; done)), H', ⟨by have := HK1.out; first | omega | exact Nat.le_refl _⟩, ⟨by (with_reducible repeat (first | refine blk_drewN ?_ _ | refine blk_drew ?_ | refine blk_alloc ?_ _)); refine blk_far ?_ NB143_150.out _; (with_reducible repeat (first | refine blk_drewN ?_ _ | refine blk_drew ?_ | refine blk_alloc ?_ _)); refine blk_far ?_ NB143_150.out _; (with_reducible repeat (first | refine blk_drewN ?_ _ | refine blk_drew ?_ | refine blk_alloc ?_ _)); refine blk_far ?_ NB143_150.out _; (with_reducible repeat (first | refine blk_drewN ?_ _ | refine blk_drew ?_ | refine blk_alloc ?_ _)); refine blk_far ?_ NB143_150.out _; (with_reducible repeat (first | refine blk_drewN ?_ _ | refine blk_drew ?_ | refine blk_alloc ?_ _)); refine blk_far ?_ NB143_150.out _; (with_reducible repeat (first | refine blk_drewN ?_ _ | refine blk_drew ?_ | refine blk_alloc ?_ _)); refine blk_far ?_ NB143_150.out _; (with_reducible repeat (first | refine blk_drewN ?_ _ | refine blk_drew ?_ | refine blk_alloc ?_ _)); refine blk_far ?_ NB143_150.out _; (with_reducible repeat (first | refine blk_drewN ?_ _ | refine blk_drew ?_ | refine blk_alloc ?_ _)); refine blk_far ?_ NB143_150.out _; (with_reducible repeat (first | refine blk_drewN ?_ _ | refine blk_drew ?_ | refine blk_alloc ?_ _)); refine blk_far ?_ NB143_150.out _; (with_reducible repeat (first | refine blk_drewN ?_ _ | refine blk_drew ?_ | refine blk_alloc ?_ _)); refine blk_far ?_ NB143_150.out _; (with_reducible repeat (first | refine blk_drewN ?_ _ | refine blk_drew ?_ | refine blk_alloc ?_ _)); refine blk_far ?_ NB143_150.out _; (with_reducible repeat (first | refine blk_drewN ?_ _ | refine blk_drew ?_ | refine blk_alloc ?_ _)); refine blk_far ?_ NB143_150.out _; (with_reducible repeat (first | refine blk_drewN ?_ _ | refine blk_drew ?_ | refine blk_alloc ?_ _)); refine blk_far ?_ NB143_150.out _; (with_reducible repeat (first | refine blk_drewN ?_ _ | refine blk_drew ?_ | refine blk_alloc ?_ _)); exact BK143.out⟩, ⟨by (with_reducible repeat (first | refine blk_drewN ?_ _ | refine blk_drew ?_ | refine blk_alloc ?_ _)); refine blk_far ?_ NB144_150.out _; (with_reducible repeat (first | refine blk_drewN ?_ _ | refine blk_drew ?_ | refine blk_alloc ?_ _)); refine blk_far ?_ NB144_150.out _; (with_reducible repeat (first | refine blk_drewN ?_ _ | refine blk_drew ?_ | refine blk_alloc ?_ _)); refine blk_far ?_ NB144_150.out _; (with_reducible repeat (first | refine blk_drewN ?_ _ | refine blk_drew ?_ | refine blk_alloc ?_ _)); refine blk_far ?_ NB144_150.out _; (with_reducible repeat (first | refine blk_drewN ?_ _ | refine blk_drew ?_ | refine blk_alloc ?_ _)); refine blk_far ?_ NB144_150.out _; (with_reducible repeat (first | refine blk_drewN ?_ _ | refine blk_drew ?_ | refine blk_alloc ?_ _)); refine blk_far ?_ NB144_150.out _; (with_reducible repeat (first | refine blk_drewN ?_ _ | refine blk_drew ?_ | refine blk_alloc ?_ _)); refine blk_far ?_ NB144_150.out _; (with_reducible repeat (first | refine blk_drewN ?_ _ | refine blk_drew ?_ | refine blk_alloc ?_ _)); refine blk_far ?_ NB144_150.out _; (with_reducible repeat (first | refine blk_drewN ?_ _ | refine blk_drew ?_ | refine blk_alloc ?_ _)); refine blk_far ?_ NB144_150.out _; (with_reducible repeat (first | refine blk_drewN ?_ _ | refine blk_drew ?_ | refine blk_alloc ?_ _)); refine blk_far ?_ NB144_150.out _; (with_reducible repeat (first | refine blk_drewN ?_ _ | refine blk_drew ?_ | refine blk_alloc ?_ _)); refine blk_far ?_ NB144_150.out _; (with_reducible repeat (first | refine blk_drewN ?_ _ | refine blk_drew ?_ | refine blk_alloc ?_ _)); refine blk_far ?_ NB144_150.out _; (with_reducible repeat (first | refine blk_drewN ?_ _ | refine blk_drew ?_ | refine blk_alloc ?_ _)); refine blk_far ?_ NB144_150.out _; (with_reducible repeat (first | refine blk_drewN ?_ _ | refine blk_drew ?_ | refine blk_alloc ?_ _)); exact BK144.out⟩, ⟨by (with_reducible repeat (first | refine blk_drewN ?_ _ | refine blk_drew ?_ | refine blk_alloc ?_ _)); refine blk_put (cs := #[.int .i64 ((rd_T42 y145 x16_1).f0), .int .i64 ((rd_T42 y145 x16_1).f1), .int .i64 ((rd_T42 y145 x16_1).f2), .string ((rd_T42 y145 x16_1).f3.f0), .int .i64 ((rd_T42 y145 x16_1).f3.f1), .int .i64 ((rd_T42 y145 x16_1).f3.f2), .int .i64 ((rd_T42 y145 x16_1).f3.f3), .int .i64 ((rd_T42 y145 x16_1).f4), .int .i64 ((rd_T42 y145 x16_1).f5), .string ((rd_T42 y145 x16_1).f6.f0), .string ((rd_T42 y145 x16_1).f6.f1), .string ((rd_T42 y145 x16_1).f7.f0), .string (⟨#[]⟩ : ByteArray)]) ?_ 12 _ rfl; (with_reducible repeat (first | refine blk_drewN ?_ _ | refine blk_drew ?_ | refine blk_alloc ?_ _)); refine blk_put (cs := #[.int .i64 ((rd_T42 y145 x16_1).f0), .int .i64 ((rd_T42 y145 x16_1).f1), .int .i64 ((rd_T42 y145 x16_1).f2), .string ((rd_T42 y145 x16_1).f3.f0), .int .i64 ((rd_T42 y145 x16_1).f3.f1), .int .i64 ((rd_T42 y145 x16_1).f3.f2), .int .i64 ((rd_T42 y145 x16_1).f3.f3), .int .i64 ((rd_T42 y145 x16_1).f4), .int .i64 ((rd_T42 y145 x16_1).f5), .string ((rd_T42 y145 x16_1).f6.f0), .string ((rd_T42 y145 x16_1).f6.f1), .string (⟨#[]⟩ : ByteArray), .string (⟨#[]⟩ : ByteArray)]) ?_ 11 _ rfl; (with_reducible repeat (first | refine blk_drewN ?_ _ | refine blk_drew ?_ | refine blk_alloc ?_ _)); refine blk_put (cs := #[.int .i64 ((rd_T42 y145 x16_1).f0), .int .i64 ((rd_T42 y145 x16_1).f1), .int .i64 ((rd_T42 y145 x16_1).f2), .string ((rd_T42 y145 x16_1).f3.f0), .int .i64 ((rd_T42 y145 x16_1).f3.f1), .int .i64 ((rd_T42 y145 x16_1).f3.f2), .int .i64 ((rd_T42 y145 x16_1).f3.f3), .int .i64 ((rd_T42 y145 x16_1).f4), .int .i64 ((rd_T42 y145 x16_1).f5), .string ((rd_T42 y145 x16_1).f6.f0), .string (⟨#[]⟩ : ByteArray), .string (⟨#[]⟩ : ByteArray), .string (⟨#[]⟩ : ByteArray)]) ?_ 10 _ rfl; (with_reducible repeat (first | refine blk_drewN ?_ _ | refine blk_drew ?_ | refine blk_alloc ?_ _)); refine blk_put (cs := #[.int .i64 ((rd_T42 y145 x16_1).f0), .int .i64 ((rd_T42 y145 x16_1).f1), .int .i64 ((rd_T42 y145 x16_1).f2), .string ((rd_T42 y145 x16_1).f3.f0), .int .i64 ((rd_T42 y145 x16_1).f3.f1), .int .i64 ((rd_T42 y145 x16_1).f3.f2), .int .i64 ((rd_T42 y145 x16_1).f3.f3), .int .i64 ((rd_T42 y145 x16_1).f4), .int .i64 ((rd_T42 y145 x16_1).f5), .string (⟨#[]⟩ : ByteArray), .string (⟨#[]⟩ : ByteArray), .string (⟨#[]⟩ : ByteArray), .string (⟨#[]⟩ : ByteArray)]) ?_ 9 _ rfl; (with_reducible repeat (first | refine blk_drewN ?_ _ | refine blk_drew ?_ | refine blk_alloc ?_ _)); refine blk_put (cs := #[.int .i64 ((rd_T42 y145 x16_1).f0), .int .i64 ((rd_T42 y145 x16_1).f1), .int .i64 ((rd_T42 y145 x16_1).f2), .string ((rd_T42 y145 x16_1).f3.f0), .int .i64 ((rd_T42 y145 x16_1).f3.f1), .int .i64 ((rd_T42 y145 x16_1).f3.f2), .int .i64 ((rd_T42 y145 x16_1).f3.f3), .int .i64 ((rd_T42 y145 x16_1).f4), .int .i64 0, .string (⟨#[]⟩ : ByteArray), .string (⟨#[]⟩ : ByteArray), .string (⟨#[]⟩ : ByteArray), .string (⟨#[]⟩ : ByteArray)]) ?_ 8 _ rfl; (with_reducible repeat (first | refine blk_drewN ?_ _ | refine blk_drew ?_ | refine blk_alloc ?_ _)); refine blk_put (cs := #[.int .i64 ((rd_T42 y145 x16_1).f0), .int .i64 ((rd_T42 y145 x16_1).f1), .int .i64 ((rd_T42 y145 x16_1).f2), .string ((rd_T42 y145 x16_1).f3.f0), .int .i64 ((rd_T42 y145 x16_1).f3.f1), .int .i64 ((rd_T42 y145 x16_1).f3.f2), .int .i64 ((rd_T42 y145 x16_1).f3.f3), .int .i64 0, .int .i64 0, .string (⟨#[]⟩ : ByteArray), .string (⟨#[]⟩ : ByteArray), .string (⟨#[]⟩ : ByteArray), .string (⟨#[]⟩ : ByteArray)]) ?_ 7 _ rfl; (with_reducible repeat (first | refine blk_drewN ?_ _ | refine blk_drew ?_ | refine blk_alloc ?_ _)); refine blk_put (cs := #[.int .i64 ((rd_T42 y145 x16_1).f0), .int .i64 ((rd_T42 y145 x16_1).f1), .int .i64 ((rd_T42 y145 x16_1).f2), .string ((rd_T42 y145 x16_1).f3.f0), .int .i64 ((rd_T42 y145 x16_1).f3.f1), .int .i64 ((rd_T42 y145 x16_1).f3.f2), .int .i64 0, .int .i64 0, .int .i64 0, .string (⟨#[]⟩ : ByteArray), .string (⟨#[]⟩ : ByteArray), .string (⟨#[]⟩ : ByteArray), .string (⟨#[]⟩ : ByteArray)]) ?_ 6 _ rfl; (with_reducible repeat (first | refine blk_drewN ?_ _ | refine blk_drew ?_ | refine blk_alloc ?_ _)); refine blk_put (cs := #[.int .i64 ((rd_T42 y145 x16_1).f0), .int .i64 ((rd_T42 y145 x16_1).f1), .int .i64 ((rd_T42 y145 x16_1).f2), .string ((rd_T42 y145 x16_1).f3.f0), .int .i64 ((rd_T42 y145 x16_1).f3.f1), .int .i64 0, .int .i64 0, .int .i64 0, .int .i64 0, .string (⟨#[]⟩ : ByteArray), .string (⟨#[]⟩ : ByteArray), .string (⟨#[]⟩ : ByteArray), .string (⟨#[]⟩ : ByteArray)]) ?_ 5 _ rfl; (with_reducible repeat (first | refine blk_drewN ?_ _ | refine blk_drew ?_ | refine blk_alloc ?_ _)); refine blk_put (cs := #[.int .i64 ((rd_T42 y145 x16_1).f0), .int .i64 ((rd_T42 y145 x16_1).f1), .int .i64 ((rd_T42 y145 x16_1).f2), .string ((rd_T42 y145 x16_1).f3.f0), .int .i64 0, .int .i64 0, .int .i64 0, .int .i64 0, .int .i64 0, .string (⟨#[]⟩ : ByteArray), .string (⟨#[]⟩ : ByteArray), .string (⟨#[]⟩ : ByteArray), .string (⟨#[]⟩ : ByteArray)]) ?_ 4 _ rfl; (with_reducible repeat (first | refine blk_drewN ?_ _ | refine blk_drew ?_ | refine blk_alloc ?_ _)); refine blk_put (cs := #[.int .i64 ((rd_T42 y145 x16_1).f0), .int .i64 ((rd_T42 y145 x16_1).f1), .int .i64 ((rd_T42 y145 x16_1).f2), .string (⟨#[]⟩ : ByteArray), .int .i64 0, .int .i64 0, .int .i64 0, .int .i64 0, .int .i64 0, .string (⟨#[]⟩ : ByteArray), .string (⟨#[]⟩ : ByteArray), .string (⟨#[]⟩ : ByteArray), .string (⟨#[]⟩ : ByteArray)]) ?_ 3 _ rfl; (with_reducible repeat (first | refine blk_drewN ?_ _ | refine blk_drew ?_ | refine blk_alloc ?_ _)); refine blk_put (cs := #[.int .i64 ((rd_T42 y145 x16_1).f0), .int .i64 ((rd_T42 y145 x16_1).f1), .int .i64 0, .string (⟨#[]⟩ : ByteArray), .int .i64 0, .int .i64 0, .int .i64 0, .int .i64 0, .int .i64 0, .string (⟨#[]⟩ : ByteArray), .string (⟨#[]⟩ : ByteArray), .string (⟨#[]⟩ : ByteArray), .string (⟨#[]⟩ : ByteArray)]) ?_ 2 _ rfl; (with_reducible repeat (first | refine blk_drewN ?_ _ | refine blk_drew ?_ | refine blk_alloc ?_ _)); refine blk_put (cs := #[.int .i64 ((rd_T42 y145 x16_1).f0), .int .i64 0, .int .i64 0, .string (⟨#[]⟩ : ByteArray), .int .i64 0, .int .i64 0, .int .i64 0, .int .i64 0, .int .i64 0, .string (⟨#[]⟩ : ByteArray), .string (⟨#[]⟩ : ByteArray), .string (⟨#[]⟩ : ByteArray), .string (⟨#[]⟩ : ByteArray)]) ?_ 1 _ rfl; (with_reducible repeat (first | refine blk_drewN ?_ _ | refine blk_drew ?_ | refine blk_alloc ?_ _)); refine blk_put (cs := #[.int .i64 0, .int .i64 0, .int .i64 0, .string (⟨#[]⟩ : ByteArray), .int .i64 0, .int .i64 0, .int .i64 0, .int .i64 0, .int .i64 0, .string (⟨#[]⟩ : ByteArray), .string (⟨#[]⟩ : ByteArray), .string (⟨#[]⟩ : ByteArray), .string (⟨#[]⟩ : ByteArray)]) ?_ 0 _ rfl; (with_reducible repeat (first | refine blk_drewN ?_ _ | refine blk_drew ?_ | refine blk_alloc ?_ _)); exact BK150.out⟩, ⟨by repeat (first | (with_reducible first | exact HB.out | apply below_alloc | apply pw_below_drewN | apply below_drew1 | refine below_set ?_ GE143.out | refine below_set ?_ GE144.out | refine below_set ?_ GE150.out) | exact HB.out)⟩⟩
                  · rw [if_neg c18] at H
                    have c18b0 : (!((((rd_T42 y145 x16_1).f3.f0).toList) == a2_0.toList) || (!(((rd_T42 y145 x16_1).f3.f1) == a2_1) || (!(((rd_T42 y145 x16_1).f3.f2) == a2_2) || (!(((rd_T42 y145 x16_1).f3.f3) == a2_3))))) = false := by simpa using c18
                    clear c18
                    (first | rw [c18b0] | (simp only [i64_w, i32_w]; rw [c18b0]) | skip)
                    replace H := Option.bind_eq_some_iff.mp H
                    obtain ⟨t151, A240, H⟩ := H
                    replace H : (giveup_Sides.j1 k1 x6_1 x7_1 y145 (y145.length : Int) x16_1 (!t151) a1_0 a1_1 a2_0 a2_1 a2_2 a2_3 ((rd_T42 y145 x16_1).f0) ((rd_T42 y145 x16_1).f1) ((rd_T42 y145 x16_1).f2) ((rd_T42 y145 x16_1).f3.f0) ((rd_T42 y145 x16_1).f3.f1) ((rd_T42 y145 x16_1).f3.f2) ((rd_T42 y145 x16_1).f3.f3) ((rd_T42 y145 x16_1).f4) ((rd_T42 y145 x16_1).f5) ((rd_T42 y145 x16_1).f6.f0) ((rd_T42 y145 x16_1).f6.f1) ((rd_T42 y145 x16_1).f7.f0) ((rd_T42 y145 x16_1).f7.f1)) = some (r1, r2) := H
                    have A24 := Aside0.mk A240
                    clear A240
                    have H' := Aside0.mk H
                    clear H
                    have hnb25 := NB150_143.out
                    have hnc25 := NB143_150.out
                    have hnb26 := NB150_144.out
                    have hnc26 := NB144_150.out
                    have hcz27_0 : w14.cell? ⟨gb150, 0, none⟩ = some (.int .i64 0) := (blk_cell BK150.out 0).trans rfl
                    have hcz27_1 : w14.cell? ⟨gb150, 1, none⟩ = some (.int .i64 0) := (blk_cell BK150.out 1).trans rfl
                    have hcz27_2 : w14.cell? ⟨gb150, 2, none⟩ = some (.int .i64 0) := (blk_cell BK150.out 2).trans rfl
                    have hcz27_3 : w14.cell? ⟨gb150, 3, none⟩ = some (.string (⟨#[]⟩ : ByteArray)) := (blk_cell BK150.out 3).trans rfl
                    have hcz27_4 : w14.cell? ⟨gb150, 4, none⟩ = some (.int .i64 0) := (blk_cell BK150.out 4).trans rfl
                    have hcz27_5 : w14.cell? ⟨gb150, 5, none⟩ = some (.int .i64 0) := (blk_cell BK150.out 5).trans rfl
                    have hcz27_6 : w14.cell? ⟨gb150, 6, none⟩ = some (.int .i64 0) := (blk_cell BK150.out 6).trans rfl
                    have hcz27_7 : w14.cell? ⟨gb150, 7, none⟩ = some (.int .i64 0) := (blk_cell BK150.out 7).trans rfl
                    have hcz27_8 : w14.cell? ⟨gb150, 8, none⟩ = some (.int .i64 0) := (blk_cell BK150.out 8).trans rfl
                    have hcz27_9 : w14.cell? ⟨gb150, 9, none⟩ = some (.string (⟨#[]⟩ : ByteArray)) := (blk_cell BK150.out 9).trans rfl
                    have hcz27_10 : w14.cell? ⟨gb150, 10, none⟩ = some (.string (⟨#[]⟩ : ByteArray)) := (blk_cell BK150.out 10).trans rfl
                    have hcz27_11 : w14.cell? ⟨gb150, 11, none⟩ = some (.string (⟨#[]⟩ : ByteArray)) := (blk_cell BK150.out 11).trans rfl
                    have hcz27_12 : w14.cell? ⟨gb150, 12, none⟩ = some (.string (⟨#[]⟩ : ByteArray)) := (blk_cell BK150.out 12).trans rfl
                    have hfz27_0 := blk_frozen BK150.out 0
                    have hfz27_1 := blk_frozen BK150.out 1
                    have hfz27_2 := blk_frozen BK150.out 2
                    have hfz27_3 := blk_frozen BK150.out 3
                    have hfz27_4 := blk_frozen BK150.out 4
                    have hfz27_5 := blk_frozen BK150.out 5
                    have hfz27_6 := blk_frozen BK150.out 6
                    have hfz27_7 := blk_frozen BK150.out 7
                    have hfz27_8 := blk_frozen BK150.out 8
                    have hfz27_9 := blk_frozen BK150.out 9
                    have hfz27_10 := blk_frozen BK150.out 10
                    have hfz27_11 := blk_frozen BK150.out 11
                    have hfz27_12 := blk_frozen BK150.out 12
                    have hnb28 := NB144_143.out
                    have hnc28 := NB143_144.out
                    have hcz29_0 : w14.cell? ⟨gb144, 0, none⟩ = some (.string a2_0) := (blk_cell BK144.out 0).trans rfl
                    have hcz29_1 : w14.cell? ⟨gb144, 1, none⟩ = some (.int .i64 a2_1) := (blk_cell BK144.out 1).trans rfl
                    have hcz29_2 : w14.cell? ⟨gb144, 2, none⟩ = some (.int .i64 a2_2) := (blk_cell BK144.out 2).trans rfl
                    have hcz29_3 : w14.cell? ⟨gb144, 3, none⟩ = some (.int .i64 a2_3) := (blk_cell BK144.out 3).trans rfl
                    have hfz29_0 := blk_frozen BK144.out 0
                    have hfz29_1 := blk_frozen BK144.out 1
                    have hfz29_2 := blk_frozen BK144.out 2
                    have hfz29_3 := blk_frozen BK144.out 3
                    go_wp2_with (first | (go_at_call 21; (with_reducible refine (giveup_lots.calls ((rd_T42 y145 x16_1).f4) t151 _ A24.out).mono ?_); rintro e w' ⟨rfl, ⟨nd, rfl⟩⟩))
                    go_meet
                    case rel => exact ⟨_, (!t151), (by first | rfl | (simp; done) | (simp [*]; done)), H', ⟨by have := HK1.out; first | omega | exact Nat.le_refl _⟩, ⟨by (with_reducible repeat (first | refine blk_drewN ?_ _ | refine blk_drew ?_ | refine blk_alloc ?_ _)); refine blk_far ?_ NB143_150.out _; (with_reducible repeat (first | refine blk_drewN ?_ _ | refine blk_drew ?_ | refine blk_alloc ?_ _)); refine blk_far ?_ NB143_150.out _; (with_reducible repeat (first | refine blk_drewN ?_ _ | refine blk_drew ?_ | refine blk_alloc ?_ _)); refine blk_far ?_ NB143_150.out _; (with_reducible repeat (first | refine blk_drewN ?_ _ | refine blk_drew ?_ | refine blk_alloc ?_ _)); refine blk_far ?_ NB143_150.out _; (with_reducible repeat (first | refine blk_drewN ?_ _ | refine blk_drew ?_ | refine blk_alloc ?_ _)); refine blk_far ?_ NB143_150.out _; (with_reducible repeat (first | refine blk_drewN ?_ _ | refine blk_drew ?_ | refine blk_alloc ?_ _)); refine blk_far ?_ NB143_150.out _; (with_reducible repeat (first | refine blk_drewN ?_ _ | refine blk_drew ?_ | refine blk_alloc ?_ _)); refine blk_far ?_ NB143_150.out _; (with_reducible repeat (first | refine blk_drewN ?_ _ | refine blk_drew ?_ | refine blk_alloc ?_ _)); refine blk_far ?_ NB143_150.out _; (with_reducible repeat (first | refine blk_drewN ?_ _ | refine blk_drew ?_ | refine blk_alloc ?_ _)); refine blk_far ?_ NB143_150.out _; (with_reducible repeat (first | refine blk_drewN ?_ _ | refine blk_drew ?_ | refine blk_alloc ?_ _)); refine blk_far ?_ NB143_150.out _; (with_reducible repeat (first | refine blk_drewN ?_ _ | refine blk_drew ?_ | refine blk_alloc ?_ _)); refine blk_far ?_ NB143_150.out _; (with_reducible repeat (first | refine blk_drewN ?_ _ | refine blk_drew ?_ | refine blk_alloc ?_ _)); refine blk_far ?_ NB143_150.out _; (with_reducible repeat (first | refine blk_drewN ?_ _ | refine blk_drew ?_ | refine blk_alloc ?_ _)); refine blk_far ?_ NB143_150.out _; (with_reducible repeat (first | refine blk_drewN ?_ _ | refine blk_drew ?_ | refine blk_alloc ?_ _)); exact BK143.out⟩, ⟨by (with_reducible repeat (first | refine blk_drewN ?_ _ | refine blk_drew ?_ | refine blk_alloc ?_ _)); refine blk_far ?_ NB144_150.out _; (with_reducible repeat (first | refine blk_drewN ?_ _ | refine blk_drew ?_ | refine blk_alloc ?_ _)); refine blk_far ?_ NB144_150.out _; (with_reducible repeat (first | refine blk_drewN ?_ _ | refine blk_drew ?_ | refine blk_alloc ?_ _)); refine blk_far ?_ NB144_150.out _; (with_reducible repeat (first | refine blk_drewN ?_ _ | refine blk_drew ?_ | refine blk_alloc ?_ _)); refine blk_far ?_ NB144_150.out _; (with_reducible repeat (first | refine blk_drewN ?_ _ | refine blk_drew ?_ | refine blk_alloc ?_ _)); refine blk_far ?_ NB144_150.out _; (with_reducible repeat (first | refine blk_drewN ?_ _ | refine blk_drew ?_ | refine blk_alloc ?_ _)); refine blk_far ?_ NB144_150.out _; (with_reducible repeat (first | refine blk_drewN ?_ _ | refine blk_drew ?_ | refine blk_alloc ?_ _)); refine blk_far ?_ NB144_150.out _; (with_reducible repeat (first | refine blk_drewN ?_ _ | refine blk_drew ?_ | refine blk_alloc ?_ _)); refine blk_far ?_ NB144_150.out _; (with_reducible repeat (first | refine blk_drewN ?_ _ | refine blk_drew ?_ | refine blk_alloc ?_ _)); refine blk_far ?_ NB144_150.out _; (with_reducible repeat (first | refine blk_drewN ?_ _ | refine blk_drew ?_ | refine blk_alloc ?_ _)); refine blk_far ?_ NB144_150.out _; (with_reducible repeat (first | refine blk_drewN ?_ _ | refine blk_drew ?_ | refine blk_alloc ?_ _)); refine blk_far ?_ NB144_150.out _; (with_reducible repeat (first | refine blk_drewN ?_ _ | refine blk_drew ?_ | refine blk_alloc ?_ _)); refine blk_far ?_ NB144_150.out _; (with_reducible repeat (first | refine blk_drewN ?_ _ | refine blk_drew ?_ | refine blk_alloc ?_ _)); refine blk_far ?_ NB144_150.out _; (with_reducible repeat (first | refine blk_drewN ?_ _ | refine blk_drew ?_ | refine blk_alloc ?_ _)); exact BK144.out⟩, ⟨by (with_reducible repeat (first | refine blk_drewN ?_ _ | refine blk_drew ?_ | refine blk_alloc ?_ _)); refine blk_put (cs := #[.int .i64 ((rd_T42 y145 x16_1).f0), .int .i64 ((rd_T42 y145 x16_1).f1), .int .i64 ((rd_T42 y145 x16_1).f2), .string ((rd_T42 y145 x16_1).f3.f0), .int .i64 ((rd_T42 y145 x16_1).f3.f1), .int .i64 ((rd_T42 y145 x16_1).f3.f2), .int .i64 ((rd_T42 y145 x16_1).f3.f3), .int .i64 ((rd_T42 y145 x16_1).f4), .int .i64 ((rd_T42 y145 x16_1).f5), .string ((rd_T42 y145 x16_1).f6.f0), .string ((rd_T42 y145 x16_1).f6.f1), .string ((rd_T42 y145 x16_1).f7.f0), .string (⟨#[]⟩ : ByteArray)]) ?_ 12 _ rfl; (with_reducible repeat (first | refine blk_drewN ?_ _ | refine blk_drew ?_ | refine blk_alloc ?_ _)); refine blk_put (cs := #[.int .i64 ((rd_T42 y145 x16_1).f0), .int .i64 ((rd_T42 y145 x16_1).f1), .int .i64 ((rd_T42 y145 x16_1).f2), .string ((rd_T42 y145 x16_1).f3.f0), .int .i64 ((rd_T42 y145 x16_1).f3.f1), .int .i64 ((rd_T42 y145 x16_1).f3.f2), .int .i64 ((rd_T42 y145 x16_1).f3.f3), .int .i64 ((rd_T42 y145 x16_1).f4), .int .i64 ((rd_T42 y145 x16_1).f5), .string ((rd_T42 y145 x16_1).f6.f0), .string ((rd_T42 y145 x16_1).f6.f1), .string (⟨#[]⟩ : ByteArray), .string (⟨#[]⟩ : ByteArray)]) ?_ 11 _ rfl; (with_reducible repeat (first | refine blk_drewN ?_ _ | refine blk_drew ?_ | refine blk_alloc ?_ _)); refine blk_put (cs := #[.int .i64 ((rd_T42 y145 x16_1).f0), .int .i64 ((rd_T42 y145 x16_1).f1), .int .i64 ((rd_T42 y145 x16_1).f2), .string ((rd_T42 y145 x16_1).f3.f0), .int .i64 ((rd_T42 y145 x16_1).f3.f1), .int .i64 ((rd_T42 y145 x16_1).f3.f2), .int .i64 ((rd_T42 y145 x16_1).f3.f3), .int .i64 ((rd_T42 y145 x16_1).f4), .int .i64 ((rd_T42 y145 x16_1).f5), .string ((rd_T42 y145 x16_1).f6.f0), .string (⟨#[]⟩ : ByteArray), .string (⟨#[]⟩ : ByteArray), .string (⟨#[]⟩ : ByteArray)]) ?_ 10 _ rfl; (with_reducible repeat (first | refine blk_drewN ?_ _ | refine blk_drew ?_ | refine blk_alloc ?_ _)); refine blk_put (cs := #[.int .i64 ((rd_T42 y145 x16_1).f0), .int .i64 ((rd_T42 y145 x16_1).f1), .int .i64 ((rd_T42 y145 x16_1).f2), .string ((rd_T42 y145 x16_1).f3.f0), .int .i64 ((rd_T42 y145 x16_1).f3.f1), .int .i64 ((rd_T42 y145 x16_1).f3.f2), .int .i64 ((rd_T42 y145 x16_1).f3.f3), .int .i64 ((rd_T42 y145 x16_1).f4), .int .i64 ((rd_T42 y145 x16_1).f5), .string (⟨#[]⟩ : ByteArray), .string (⟨#[]⟩ : ByteArray), .string (⟨#[]⟩ : ByteArray), .string (⟨#[]⟩ : ByteArray)]) ?_ 9 _ rfl; (with_reducible repeat (first | refine blk_drewN ?_ _ | refine blk_drew ?_ | refine blk_alloc ?_ _)); refine blk_put (cs := #[.int .i64 ((rd_T42 y145 x16_1).f0), .int .i64 ((rd_T42 y145 x16_1).f1), .int .i64 ((rd_T42 y145 x16_1).f2), .string ((rd_T42 y145 x16_1).f3.f0), .int .i64 ((rd_T42 y145 x16_1).f3.f1), .int .i64 ((rd_T42 y145 x16_1).f3.f2), .int .i64 ((rd_T42 y145 x16_1).f3.f3), .int .i64 ((rd_T42 y145 x16_1).f4), .int .i64 0, .string (⟨#[]⟩ : ByteArray), .string (⟨#[]⟩ : ByteArray), .string (⟨#[]⟩ : ByteArray), .string (⟨#[]⟩ : ByteArray)]) ?_ 8 _ rfl; (with_reducible repeat (first | refine blk_drewN ?_ _ | refine blk_drew ?_ | refine blk_alloc ?_ _)); refine blk_put (cs := #[.int .i64 ((rd_T42 y145 x16_1).f0), .int .i64 ((rd_T42 y145 x16_1).f1), .int .i64 ((rd_T42 y145 x16_1).f2), .string ((rd_T42 y145 x16_1).f3.f0), .int .i64 ((rd_T42 y145 x16_1).f3.f1), .int .i64 ((rd_T42 y145 x16_1).f3.f2), .int .i64 ((rd_T42 y145 x16_1).f3.f3), .int .i64 0, .int .i64 0, .string (⟨#[]⟩ : ByteArray), .string (⟨#[]⟩ : ByteArray), .string (⟨#[]⟩ : ByteArray), .string (⟨#[]⟩ : ByteArray)]) ?_ 7 _ rfl; (with_reducible repeat (first | refine blk_drewN ?_ _ | refine blk_drew ?_ | refine blk_alloc ?_ _)); refine blk_put (cs := #[.int .i64 ((rd_T42 y145 x16_1).f0), .int .i64 ((rd_T42 y145 x16_1).f1), .int .i64 ((rd_T42 y145 x16_1).f2), .string ((rd_T42 y145 x16_1).f3.f0), .int .i64 ((rd_T42 y145 x16_1).f3.f1), .int .i64 ((rd_T42 y145 x16_1).f3.f2), .int .i64 0, .int .i64 0, .int .i64 0, .string (⟨#[]⟩ : ByteArray), .string (⟨#[]⟩ : ByteArray), .string (⟨#[]⟩ : ByteArray), .string (⟨#[]⟩ : ByteArray)]) ?_ 6 _ rfl; (with_reducible repeat (first | refine blk_drewN ?_ _ | refine blk_drew ?_ | refine blk_alloc ?_ _)); refine blk_put (cs := #[.int .i64 ((rd_T42 y145 x16_1).f0), .int .i64 ((rd_T42 y145 x16_1).f1), .int .i64 ((rd_T42 y145 x16_1).f2), .string ((rd_T42 y145 x16_1).f3.f0), .int .i64 ((rd_T42 y145 x16_1).f3.f1), .int .i64 0, .int .i64 0, .int .i64 0, .int .i64 0, .string (⟨#[]⟩ : ByteArray), .string (⟨#[]⟩ : ByteArray), .string (⟨#[]⟩ : ByteArray), .string (⟨#[]⟩ : ByteArray)]) ?_ 5 _ rfl; (with_reducible repeat (first | refine blk_drewN ?_ _ | refine blk_drew ?_ | refine blk_alloc ?_ _)); refine blk_put (cs := #[.int .i64 ((rd_T42 y145 x16_1).f0), .int .i64 ((rd_T42 y145 x16_1).f1), .int .i64 ((rd_T42 y145 x16_1).f2), .string ((rd_T42 y145 x16_1).f3.f0), .int .i64 0, .int .i64 0, .int .i64 0, .int .i64 0, .int .i64 0, .string (⟨#[]⟩ : ByteArray), .string (⟨#[]⟩ : ByteArray), .string (⟨#[]⟩ : ByteArray), .string (⟨#[]⟩ : ByteArray)]) ?_ 4 _ rfl; (with_reducible repeat (first | refine blk_drewN ?_ _ | refine blk_drew ?_ | refine blk_alloc ?_ _)); refine blk_put (cs := #[.int .i64 ((rd_T42 y145 x16_1).f0), .int .i64 ((rd_T42 y145 x16_1).f1), .int .i64 ((rd_T42 y145 x16_1).f2), .string (⟨#[]⟩ : ByteArray), .int .i64 0, .int .i64 0, .int .i64 0, .int .i64 0, .int .i64 0, .string (⟨#[]⟩ : ByteArray), .string (⟨#[]⟩ : ByteArray), .string (⟨#[]⟩ : ByteArray), .string (⟨#[]⟩ : ByteArray)]) ?_ 3 _ rfl; (with_reducible repeat (first | refine blk_drewN ?_ _ | refine blk_drew ?_ | refine blk_alloc ?_ _)); refine blk_put (cs := #[.int .i64 ((rd_T42 y145 x16_1).f0), .int .i64 ((rd_T42 y145 x16_1).f1), .int .i64 0, .string (⟨#[]⟩ : ByteArray), .int .i64 0, .int .i64 0, .int .i64 0, .int .i64 0, .int .i64 0, .string (⟨#[]⟩ : ByteArray), .string (⟨#[]⟩ : ByteArray), .string (⟨#[]⟩ : ByteArray), .string (⟨#[]⟩ : ByteArray)]) ?_ 2 _ rfl; (with_reducible repeat (first | refine blk_drewN ?_ _ | refine blk_drew ?_ | refine blk_alloc ?_ _)); refine blk_put (cs := #[.int .i64 ((rd_T42 y145 x16_1).f0), .int .i64 0, .int .i64 0, .string (⟨#[]⟩ : ByteArray), .int .i64 0, .int .i64 0, .int .i64 0, .int .i64 0, .int .i64 0, .string (⟨#[]⟩ : ByteArray), .string (⟨#[]⟩ : ByteArray), .string (⟨#[]⟩ : ByteArray), .string (⟨#[]⟩ : ByteArray)]) ?_ 1 _ rfl; (with_reducible repeat (first | refine blk_drewN ?_ _ | refine blk_drew ?_ | refine blk_alloc ?_ _)); refine blk_put (cs := #[.int .i64 0, .int .i64 0, .int .i64 0, .string (⟨#[]⟩ : ByteArray), .int .i64 0, .int .i64 0, .int .i64 0, .int .i64 0, .int .i64 0, .string (⟨#[]⟩ : ByteArray), .string (⟨#[]⟩ : ByteArray), .string (⟨#[]⟩ : ByteArray), .string (⟨#[]⟩ : ByteArray)]) ?_ 0 _ rfl; (with_reducible repeat (first | refine blk_drewN ?_ _ | refine blk_drew ?_ | refine blk_alloc ?_ _)); exact BK150.out⟩, ⟨by repeat (first | (with_reducible first | exact HB.out | apply below_alloc | apply pw_below_drewN | apply below_drew1 | refine below_set ?_ GE143.out | refine below_set ?_ GE144.out | refine below_set ?_ GE150.out) | exact HB.out)⟩⟩
                case rest =>
                  clear HC13
                  try clear c1
                  try clear p1
                  try clear q1
                  try clear hx1
                  try clear c2
                  try clear p2
                  try clear c5
                  try clear c5b0
                  try clear c5b1
                  try clear c6
                  try clear c6b0
                  try clear c6b1
                  try clear q9
                  try clear c10
                  try clear c10b0
                  try clear c11
                  try clear c11b0
                  try clear c12
                  try clear c12b0
                  try clear c14
                  try clear p14
                  try clear q14
                  try clear hx14
                  try clear c15
                  try clear c16
                  try clear c18
                  try clear c18b0
                  try clear c19
                  try clear c20
                  try clear c22
                  try clear c25
                  try clear c26
                  try clear c28
                  try clear hcz17_0
                  try clear hcz17_1
                  try clear hcz17_10
                  try clear hcz17_11
                  try clear hcz17_12
                  try clear hcz17_2
                  try clear hcz17_3
                  try clear hcz17_4
                  try clear hcz17_5
                  try clear hcz17_6
                  try clear hcz17_7
                  try clear hcz17_8
                  try clear hcz17_9
                  try clear hcz21_0
                  try clear hcz21_1
                  try clear hcz21_10
                  try clear hcz21_11
                  try clear hcz21_12
                  try clear hcz21_2
                  try clear hcz21_3
                  try clear hcz21_4
                  try clear hcz21_5
                  try clear hcz21_6
                  try clear hcz21_7
                  try clear hcz21_8
                  try clear hcz21_9
                  try clear hcz23_0
                  try clear hcz23_1
                  try clear hcz23_2
                  try clear hcz23_3
                  try clear hcz27_0
                  try clear hcz27_1
                  try clear hcz27_10
                  try clear hcz27_11
                  try clear hcz27_12
                  try clear hcz27_2
                  try clear hcz27_3
                  try clear hcz27_4
                  try clear hcz27_5
                  try clear hcz27_6
                  try clear hcz27_7
                  try clear hcz27_8
                  try clear hcz27_9
                  try clear hcz29_0
                  try clear hcz29_1
                  try clear hcz29_2
                  try clear hcz29_3
                  try clear hfz17_0
                  try clear hfz17_1
                  try clear hfz17_10
                  try clear hfz17_11
                  try clear hfz17_12
                  try clear hfz17_2
                  try clear hfz17_3
                  try clear hfz17_4
                  try clear hfz17_5
                  try clear hfz17_6
                  try clear hfz17_7
                  try clear hfz17_8
                  try clear hfz17_9
                  try clear hfz21_0
                  try clear hfz21_1
                  try clear hfz21_10
                  try clear hfz21_11
                  try clear hfz21_12
                  try clear hfz21_2
                  try clear hfz21_3
                  try clear hfz21_4
                  try clear hfz21_5
                  try clear hfz21_6
                  try clear hfz21_7
                  try clear hfz21_8
                  try clear hfz21_9
                  try clear hfz23_0
                  try clear hfz23_1
                  try clear hfz23_2
                  try clear hfz23_3
                  try clear hfz27_0
                  try clear hfz27_1
                  try clear hfz27_10
                  try clear hfz27_11
                  try clear hfz27_12
                  try clear hfz27_2
                  try clear hfz27_3
                  try clear hfz27_4
                  try clear hfz27_5
                  try clear hfz27_6
                  try clear hfz27_7
                  try clear hfz27_8
                  try clear hfz27_9
                  try clear hfz29_0
                  try clear hfz29_1
                  try clear hfz29_2
                  try clear hfz29_3
                  try clear hx149_0
                  try clear hx149_1
                  try clear hx149_10
                  try clear hx149_11
                  try clear hx149_12
                  try clear hx149_2
                  try clear hx149_3
                  try clear hx149_4
                  try clear hx149_5
                  try clear hx149_6
                  try clear hx149_7
                  try clear hx149_8
                  try clear hx149_9
                  try clear p149
                  try clear p2
                  try clear q149
                  try clear q9
                  obtain ⟨kq, x29_12, rfl, HA, HJ12, BK143, BK144, BK150, HB⟩ := hcut
                  cases kq with
                  | zero => exact absurd HA.out (by simp [giveup_Sides.j1])
                  | succ kj12 =>
                    have H := HA.out
                    clear HA
                    simp only [giveup_Sides.j1] at H
                    by_cases c30 : x29_12 = true
                    · subst c30
                      have H1 : (giveup_Sides.l0 kj12 x6_1 x7_1 y145 (y145.length : Int) (wrap64 (x16_1 + 1)) a1_0 a1_1 a2_0 a2_1 a2_2 a2_3) = some (r1, r2) := by rw [if_pos rfl] at H; exact H
                      clear H
                      have H := H1
                      clear H1
                      have H' := Aside0.mk H
                      clear H
                      go_wp2
                      go_roundg kj12
                      case measure => have := HK1.out; have := HJ12.out; omega
                      case rel => exact ⟨(x6_1), (x7_1), (wrap64 (x16_1 + 1)), (by first | rfl | (simp; done) | (simp [*]; done)), (by first | rfl | (simp; done) | (simp [*]; done)), (by first | rfl | (simp; done) | (simp [*]; done)), H', ⟨by have := HK1.out; have := HJ12.out; omega⟩, ⟨by (with_reducible repeat (first | refine blk_drewN ?_ _ | refine blk_drew ?_ | refine blk_alloc ?_ _)); exact BK143.out⟩, ⟨by (with_reducible repeat (first | refine blk_drewN ?_ _ | refine blk_drew ?_ | refine blk_alloc ?_ _)); exact BK144.out⟩, ⟨by repeat (first | (with_reducible first | exact HB.out | apply below_alloc | apply pw_below_drewN | apply below_drew1 | refine below_set ?_ GE143.out | refine below_set ?_ GE144.out | refine below_set ?_ GE150.out) | exact HB.out)⟩⟩
                    · replace c30 := Bool.eq_false_iff.mpr c30
                      subst c30
                      have H1 : (if (((rd_T42 y145 x16_1).f6.f0).toList == a1_0.toList && (((rd_T42 y145 x16_1).f6.f1).toList == a1_1.toList)) = true then (if (((rd_T42 y145 x16_1).f7.f0).toList == a1_0.toList && (((rd_T42 y145 x16_1).f7.f1).toList == a1_1.toList)) = true then (giveup_Sides.l0 kj12 (wrap64 (x6_1 + ((rd_T42 y145 x16_1).f4))) (wrap64 (x7_1 + ((rd_T42 y145 x16_1).f4))) y145 (y145.length : Int) (wrap64 (x16_1 + 1)) a1_0 a1_1 a2_0 a2_1 a2_2 a2_3) else (giveup_Sides.l0 kj12 (wrap64 (x6_1 + ((rd_T42 y145 x16_1).f4))) x7_1 y145 (y145.length : Int) (wrap64 (x16_1 + 1)) a1_0 a1_1 a2_0 a2_1 a2_2 a2_3)) else (if (((rd_T42 y145 x16_1).f7.f0).toList == a1_0.toList && (((rd_T42 y145 x16_1).f7.f1).toList == a1_1.toList)) = true then (giveup_Sides.l0 kj12 x6_1 (wrap64 (x7_1 + ((rd_T42 y145 x16_1).f4))) y145 (y145.length : Int) (wrap64 (x16_1 + 1)) a1_0 a1_1 a2_0 a2_1 a2_2 a2_3) else (giveup_Sides.l0 kj12 x6_1 x7_1 y145 (y145.length : Int) (wrap64 (x16_1 + 1)) a1_0 a1_1 a2_0 a2_1 a2_2 a2_3))) = some (r1, r2) := by rw [if_neg (show ¬ (false = true) by decide)] at H; exact H
                      clear H
                      have H := H1
                      clear H1
                      by_cases c31 : (((rd_T42 y145 x16_1).f6.f0).toList == a1_0.toList && (((rd_T42 y145 x16_1).f6.f1).toList == a1_1.toList)) = true
                      · rw [if_pos c31] at H
                        have c31b0 : (((rd_T42 y145 x16_1).f6.f0).toList == a1_0.toList && (((rd_T42 y145 x16_1).f6.f1).toList == a1_1.toList)) = true := c31
                        (try (have c31b1 : decide (((rd_T42 y145 x16_1).f6.f0).toList = a1_0.toList && (((rd_T42 y145 x16_1).f6.f1).toList == a1_1.toList)) = true := by simpa using c31))
                        (try (have c31b2 : (((rd_T42 y145 x16_1).f6.f0).toList == a1_0.toList && (((rd_T42 y145 x16_1).f6.f1).toList == a1_1.toList)) = true := by simpa using c31))
                        clear c31
                        by_cases c32 : (((rd_T42 y145 x16_1).f7.f0).toList == a1_0.toList && (((rd_T42 y145 x16_1).f7.f1).toList == a1_1.toList)) = true
                        · rw [if_pos c32] at H
                          have c32b0 : (((rd_T42 y145 x16_1).f7.f0).toList == a1_0.toList && (((rd_T42 y145 x16_1).f7.f1).toList == a1_1.toList)) = true := c32
                          (try (have c32b1 : decide (((rd_T42 y145 x16_1).f7.f0).toList = a1_0.toList && (((rd_T42 y145 x16_1).f7.f1).toList == a1_1.toList)) = true := by simpa using c32))
                          (try (have c32b2 : (((rd_T42 y145 x16_1).f7.f0).toList == a1_0.toList && (((rd_T42 y145 x16_1).f7.f1).toList == a1_1.toList)) = true := by simpa using c32))
                          clear c32
                          have H' := Aside0.mk H
                          clear H
                          have hnb33 := NB150_143.out
                          have hnc33 := NB143_150.out
                          have hnb34 := NB150_144.out
                          have hnc34 := NB144_150.out
                          have hcz35_0 : wc.cell? ⟨gb150, 0, none⟩ = some (.int .i64 ((rd_T42 y145 x16_1).f0)) := (blk_cell BK150.out 0).trans rfl
                          have hcz35_1 : wc.cell? ⟨gb150, 1, none⟩ = some (.int .i64 ((rd_T42 y145 x16_1).f1)) := (blk_cell BK150.out 1).trans rfl
                          have hcz35_2 : wc.cell? ⟨gb150, 2, none⟩ = some (.int .i64 ((rd_T42 y145 x16_1).f2)) := (blk_cell BK150.out 2).trans rfl
                          have hcz35_3 : wc.cell? ⟨gb150, 3, none⟩ = some (.string ((rd_T42 y145 x16_1).f3.f0)) := (blk_cell BK150.out 3).trans rfl
                          have hcz35_4 : wc.cell? ⟨gb150, 4, none⟩ = some (.int .i64 ((rd_T42 y145 x16_1).f3.f1)) := (blk_cell BK150.out 4).trans rfl
                          have hcz35_5 : wc.cell? ⟨gb150, 5, none⟩ = some (.int .i64 ((rd_T42 y145 x16_1).f3.f2)) := (blk_cell BK150.out 5).trans rfl
                          have hcz35_6 : wc.cell? ⟨gb150, 6, none⟩ = some (.int .i64 ((rd_T42 y145 x16_1).f3.f3)) := (blk_cell BK150.out 6).trans rfl
                          have hcz35_7 : wc.cell? ⟨gb150, 7, none⟩ = some (.int .i64 ((rd_T42 y145 x16_1).f4)) := (blk_cell BK150.out 7).trans rfl
                          have hcz35_8 : wc.cell? ⟨gb150, 8, none⟩ = some (.int .i64 ((rd_T42 y145 x16_1).f5)) := (blk_cell BK150.out 8).trans rfl
                          have hcz35_9 : wc.cell? ⟨gb150, 9, none⟩ = some (.string ((rd_T42 y145 x16_1).f6.f0)) := (blk_cell BK150.out 9).trans rfl
                          have hcz35_10 : wc.cell? ⟨gb150, 10, none⟩ = some (.string ((rd_T42 y145 x16_1).f6.f1)) := (blk_cell BK150.out 10).trans rfl
                          have hcz35_11 : wc.cell? ⟨gb150, 11, none⟩ = some (.string ((rd_T42 y145 x16_1).f7.f0)) := (blk_cell BK150.out 11).trans rfl
                          have hcz35_12 : wc.cell? ⟨gb150, 12, none⟩ = some (.string ((rd_T42 y145 x16_1).f7.f1)) := (blk_cell BK150.out 12).trans rfl
                          have hfz35_0 := blk_frozen BK150.out 0
                          have hfz35_1 := blk_frozen BK150.out 1
                          have hfz35_2 := blk_frozen BK150.out 2
                          have hfz35_3 := blk_frozen BK150.out 3
                          have hfz35_4 := blk_frozen BK150.out 4
                          have hfz35_5 := blk_frozen BK150.out 5
                          have hfz35_6 := blk_frozen BK150.out 6
                          have hfz35_7 := blk_frozen BK150.out 7
                          have hfz35_8 := blk_frozen BK150.out 8
                          have hfz35_9 := blk_frozen BK150.out 9
                          have hfz35_10 := blk_frozen BK150.out 10
                          have hfz35_11 := blk_frozen BK150.out 11
                          have hfz35_12 := blk_frozen BK150.out 12
                          have hnb36 := NB143_144.out
                          have hnc36 := NB144_143.out
                          have hcz37_0 : wc.cell? ⟨gb143, 0, none⟩ = some (.string a1_0) := (blk_cell BK143.out 0).trans rfl
                          have hcz37_1 : wc.cell? ⟨gb143, 1, none⟩ = some (.string a1_1) := (blk_cell BK143.out 1).trans rfl
                          have hfz37_0 := blk_frozen BK143.out 0
                          have hfz37_1 := blk_frozen BK143.out 1
                          go_wp2
                          go_roundg kj12
                          case measure => have := HK1.out; have := HJ12.out; omega
                          case rel => exact ⟨(wrap64 (x6_1 + ((rd_T42 y145 x16_1).f4))), (wrap64 (x7_1 + ((rd_T42 y145 x16_1).f4))), (wrap64 (x16_1 + 1)), (by first | rfl | (simp; done) | (simp [*]; done)), (by first | rfl | (simp; done) | (simp [*]; done)), (by first | rfl | (simp; done) | (simp [*]; done)), H', ⟨by have := HK1.out; have := HJ12.out; omega⟩, ⟨by (with_reducible repeat (first | refine blk_drewN ?_ _ | refine blk_drew ?_ | refine blk_alloc ?_ _)); exact BK143.out⟩, ⟨by (with_reducible repeat (first | refine blk_drewN ?_ _ | refine blk_drew ?_ | refine blk_alloc ?_ _)); exact BK144.out⟩, ⟨by repeat (first | (with_reducible first | exact HB.out | apply below_alloc | apply pw_below_drewN | apply below_drew1 | refine below_set ?_ GE143.out | refine below_set ?_ GE144.out | refine below_set ?_ GE150.out) | exact HB.out)⟩⟩
                        · rw [if_neg c32] at H
                          have c32b0 : (((rd_T42 y145 x16_1).f7.f0).toList == a1_0.toList && (((rd_T42 y145 x16_1).f7.f1).toList == a1_1.toList)) = false := by simpa using c32
                          (try (have c32b1 : decide (((rd_T42 y145 x16_1).f7.f0).toList = a1_0.toList && (((rd_T42 y145 x16_1).f7.f1).toList == a1_1.toList)) = false := by simpa using c32))
                          (try (have c32b2 : (((rd_T42 y145 x16_1).f7.f0).toList == a1_0.toList && (((rd_T42 y145 x16_1).f7.f1).toList == a1_1.toList)) = false := by simpa using c32))
                          (try (have c32b3 : ¬ (((rd_T42 y145 x16_1).f7.f0).toList = a1_0.toList && (((rd_T42 y145 x16_1).f7.f1).toList == a1_1.toList)) := by simpa using c32))
                          clear c32
                          have H' := Aside0.mk H
                          clear H
                          have hnb38 := NB150_143.out
                          have hnc38 := NB143_150.out
                          have hnb39 := NB150_144.out
                          have hnc39 := NB144_150.out
                          have hcz40_0 : wc.cell? ⟨gb150, 0, none⟩ = some (.int .i64 ((rd_T42 y145 x16_1).f0)) := (blk_cell BK150.out 0).trans rfl
                          have hcz40_1 : wc.cell? ⟨gb150, 1, none⟩ = some (.int .i64 ((rd_T42 y145 x16_1).f1)) := (blk_cell BK150.out 1).trans rfl
                          have hcz40_2 : wc.cell? ⟨gb150, 2, none⟩ = some (.int .i64 ((rd_T42 y145 x16_1).f2)) := (blk_cell BK150.out 2).trans rfl
                          have hcz40_3 : wc.cell? ⟨gb150, 3, none⟩ = some (.string ((rd_T42 y145 x16_1).f3.f0)) := (blk_cell BK150.out 3).trans rfl
                          have hcz40_4 : wc.cell? ⟨gb150, 4, none⟩ = some (.int .i64 ((rd_T42 y145 x16_1).f3.f1)) := (blk_cell BK150.out 4).trans rfl
                          have hcz40_5 : wc.cell? ⟨gb150, 5, none⟩ = some (.int .i64 ((rd_T42 y145 x16_1).f3.f2)) := (blk_cell BK150.out 5).trans rfl
                          have hcz40_6 : wc.cell? ⟨gb150, 6, none⟩ = some (.int .i64 ((rd_T42 y145 x16_1).f3.f3)) := (blk_cell BK150.out 6).trans rfl
                          have hcz40_7 : wc.cell? ⟨gb150, 7, none⟩ = some (.int .i64 ((rd_T42 y145 x16_1).f4)) := (blk_cell BK150.out 7).trans rfl
                          have hcz40_8 : wc.cell? ⟨gb150, 8, none⟩ = some (.int .i64 ((rd_T42 y145 x16_1).f5)) := (blk_cell BK150.out 8).trans rfl
                          have hcz40_9 : wc.cell? ⟨gb150, 9, none⟩ = some (.string ((rd_T42 y145 x16_1).f6.f0)) := (blk_cell BK150.out 9).trans rfl
                          have hcz40_10 : wc.cell? ⟨gb150, 10, none⟩ = some (.string ((rd_T42 y145 x16_1).f6.f1)) := (blk_cell BK150.out 10).trans rfl
                          have hcz40_11 : wc.cell? ⟨gb150, 11, none⟩ = some (.string ((rd_T42 y145 x16_1).f7.f0)) := (blk_cell BK150.out 11).trans rfl
                          have hcz40_12 : wc.cell? ⟨gb150, 12, none⟩ = some (.string ((rd_T42 y145 x16_1).f7.f1)) := (blk_cell BK150.out 12).trans rfl
                          have hfz40_0 := blk_frozen BK150.out 0
                          have hfz40_1 := blk_frozen BK150.out 1
                          have hfz40_2 := blk_frozen BK150.out 2
                          have hfz40_3 := blk_frozen BK150.out 3
                          have hfz40_4 := blk_frozen BK150.out 4
                          have hfz40_5 := blk_frozen BK150.out 5
                          have hfz40_6 := blk_frozen BK150.out 6
                          have hfz40_7 := blk_frozen BK150.out 7
                          have hfz40_8 := blk_frozen BK150.out 8
                          have hfz40_9 := blk_frozen BK150.out 9
                          have hfz40_10 := blk_frozen BK150.out 10
                          have hfz40_11 := blk_frozen BK150.out 11
                          have hfz40_12 := blk_frozen BK150.out 12
                          have hnb41 := NB143_144.out
                          have hnc41 := NB144_143.out
                          have hcz42_0 : wc.cell? ⟨gb143, 0, none⟩ = some (.string a1_0) := (blk_cell BK143.out 0).trans rfl
                          have hcz42_1 : wc.cell? ⟨gb143, 1, none⟩ = some (.string a1_1) := (blk_cell BK143.out 1).trans rfl
                          have hfz42_0 := blk_frozen BK143.out 0
                          have hfz42_1 := blk_frozen BK143.out 1
                          go_wp2
                          go_roundg kj12
                          case measure => have := HK1.out; have := HJ12.out; omega
                          case rel => exact ⟨(wrap64 (x6_1 + ((rd_T42 y145 x16_1).f4))), (x7_1), (wrap64 (x16_1 + 1)), (by first | rfl | (simp; done) | (simp [*]; done)), (by first | rfl | (simp; done) | (simp [*]; done)), (by first | rfl | (simp; done) | (simp [*]; done)), H', ⟨by have := HK1.out; have := HJ12.out; omega⟩, ⟨by (with_reducible repeat (first | refine blk_drewN ?_ _ | refine blk_drew ?_ | refine blk_alloc ?_ _)); exact BK143.out⟩, ⟨by (with_reducible repeat (first | refine blk_drewN ?_ _ | refine blk_drew ?_ | refine blk_alloc ?_ _)); exact BK144.out⟩, ⟨by repeat (first | (with_reducible first | exact HB.out | apply below_alloc | apply pw_below_drewN | apply below_drew1 | refine below_set ?_ GE143.out | refine below_set ?_ GE144.out | refine below_set ?_ GE150.out) | exact HB.out)⟩⟩
                      · rw [if_neg c31] at H
                        have c31b0 : (((rd_T42 y145 x16_1).f6.f0).toList == a1_0.toList && (((rd_T42 y145 x16_1).f6.f1).toList == a1_1.toList)) = false := by simpa using c31
                        (try (have c31b1 : decide (((rd_T42 y145 x16_1).f6.f0).toList = a1_0.toList && (((rd_T42 y145 x16_1).f6.f1).toList == a1_1.toList)) = false := by simpa using c31))
                        (try (have c31b2 : (((rd_T42 y145 x16_1).f6.f0).toList == a1_0.toList && (((rd_T42 y145 x16_1).f6.f1).toList == a1_1.toList)) = false := by simpa using c31))
                        (try (have c31b3 : ¬ (((rd_T42 y145 x16_1).f6.f0).toList = a1_0.toList && (((rd_T42 y145 x16_1).f6.f1).toList == a1_1.toList)) := by simpa using c31))
                        clear c31
                        by_cases c43 : (((rd_T42 y145 x16_1).f7.f0).toList == a1_0.toList && (((rd_T42 y145 x16_1).f7.f1).toList == a1_1.toList)) = true
                        · rw [if_pos c43] at H
                          have c43b0 : (((rd_T42 y145 x16_1).f7.f0).toList == a1_0.toList && (((rd_T42 y145 x16_1).f7.f1).toList == a1_1.toList)) = true := c43
                          (try (have c43b1 : decide (((rd_T42 y145 x16_1).f7.f0).toList = a1_0.toList && (((rd_T42 y145 x16_1).f7.f1).toList == a1_1.toList)) = true := by simpa using c43))
                          (try (have c43b2 : (((rd_T42 y145 x16_1).f7.f0).toList == a1_0.toList && (((rd_T42 y145 x16_1).f7.f1).toList == a1_1.toList)) = true := by simpa using c43))
                          clear c43
                          have H' := Aside0.mk H
                          clear H
                          have hnb44 := NB150_143.out
                          have hnc44 := NB143_150.out
                          have hnb45 := NB150_144.out
                          have hnc45 := NB144_150.out
                          have hcz46_0 : wc.cell? ⟨gb150, 0, none⟩ = some (.int .i64 ((rd_T42 y145 x16_1).f0)) := (blk_cell BK150.out 0).trans rfl
                          have hcz46_1 : wc.cell? ⟨gb150, 1, none⟩ = some (.int .i64 ((rd_T42 y145 x16_1).f1)) := (blk_cell BK150.out 1).trans rfl
                          have hcz46_2 : wc.cell? ⟨gb150, 2, none⟩ = some (.int .i64 ((rd_T42 y145 x16_1).f2)) := (blk_cell BK150.out 2).trans rfl
                          have hcz46_3 : wc.cell? ⟨gb150, 3, none⟩ = some (.string ((rd_T42 y145 x16_1).f3.f0)) := (blk_cell BK150.out 3).trans rfl
                          have hcz46_4 : wc.cell? ⟨gb150, 4, none⟩ = some (.int .i64 ((rd_T42 y145 x16_1).f3.f1)) := (blk_cell BK150.out 4).trans rfl
                          have hcz46_5 : wc.cell? ⟨gb150, 5, none⟩ = some (.int .i64 ((rd_T42 y145 x16_1).f3.f2)) := (blk_cell BK150.out 5).trans rfl
                          have hcz46_6 : wc.cell? ⟨gb150, 6, none⟩ = some (.int .i64 ((rd_T42 y145 x16_1).f3.f3)) := (blk_cell BK150.out 6).trans rfl
                          have hcz46_7 : wc.cell? ⟨gb150, 7, none⟩ = some (.int .i64 ((rd_T42 y145 x16_1).f4)) := (blk_cell BK150.out 7).trans rfl
                          have hcz46_8 : wc.cell? ⟨gb150, 8, none⟩ = some (.int .i64 ((rd_T42 y145 x16_1).f5)) := (blk_cell BK150.out 8).trans rfl
                          have hcz46_9 : wc.cell? ⟨gb150, 9, none⟩ = some (.string ((rd_T42 y145 x16_1).f6.f0)) := (blk_cell BK150.out 9).trans rfl
                          have hcz46_10 : wc.cell? ⟨gb150, 10, none⟩ = some (.string ((rd_T42 y145 x16_1).f6.f1)) := (blk_cell BK150.out 10).trans rfl
                          have hcz46_11 : wc.cell? ⟨gb150, 11, none⟩ = some (.string ((rd_T42 y145 x16_1).f7.f0)) := (blk_cell BK150.out 11).trans rfl
                          have hcz46_12 : wc.cell? ⟨gb150, 12, none⟩ = some (.string ((rd_T42 y145 x16_1).f7.f1)) := (blk_cell BK150.out 12).trans rfl
                          have hfz46_0 := blk_frozen BK150.out 0
                          have hfz46_1 := blk_frozen BK150.out 1
                          have hfz46_2 := blk_frozen BK150.out 2
                          have hfz46_3 := blk_frozen BK150.out 3
                          have hfz46_4 := blk_frozen BK150.out 4
                          have hfz46_5 := blk_frozen BK150.out 5
                          have hfz46_6 := blk_frozen BK150.out 6
                          have hfz46_7 := blk_frozen BK150.out 7
                          have hfz46_8 := blk_frozen BK150.out 8
                          have hfz46_9 := blk_frozen BK150.out 9
                          have hfz46_10 := blk_frozen BK150.out 10
                          have hfz46_11 := blk_frozen BK150.out 11
                          have hfz46_12 := blk_frozen BK150.out 12
                          have hnb47 := NB143_144.out
                          have hnc47 := NB144_143.out
                          have hcz48_0 : wc.cell? ⟨gb143, 0, none⟩ = some (.string a1_0) := (blk_cell BK143.out 0).trans rfl
                          have hcz48_1 : wc.cell? ⟨gb143, 1, none⟩ = some (.string a1_1) := (blk_cell BK143.out 1).trans rfl
                          have hfz48_0 := blk_frozen BK143.out 0
                          have hfz48_1 := blk_frozen BK143.out 1
                          go_wp2
                          go_roundg kj12
                          case measure => have := HK1.out; have := HJ12.out; omega
                          case rel => exact ⟨(x6_1), (wrap64 (x7_1 + ((rd_T42 y145 x16_1).f4))), (wrap64 (x16_1 + 1)), (by first | rfl | (simp; done) | (simp [*]; done)), (by first | rfl | (simp; done) | (simp [*]; done)), (by first | rfl | (simp; done) | (simp [*]; done)), H', ⟨by have := HK1.out; have := HJ12.out; omega⟩, ⟨by (with_reducible repeat (first | refine blk_drewN ?_ _ | refine blk_drew ?_ | refine blk_alloc ?_ _)); exact BK143.out⟩, ⟨by (with_reducible repeat (first | refine blk_drewN ?_ _ | refine blk_drew ?_ | refine blk_alloc ?_ _)); exact BK144.out⟩, ⟨by repeat (first | (with_reducible first | exact HB.out | apply below_alloc | apply pw_below_drewN | apply below_drew1 | refine below_set ?_ GE143.out | refine below_set ?_ GE144.out | refine below_set ?_ GE150.out) | exact HB.out)⟩⟩
                        · rw [if_neg c43] at H
                          have c43b0 : (((rd_T42 y145 x16_1).f7.f0).toList == a1_0.toList && (((rd_T42 y145 x16_1).f7.f1).toList == a1_1.toList)) = false := by simpa using c43
                          (try (have c43b1 : decide (((rd_T42 y145 x16_1).f7.f0).toList = a1_0.toList && (((rd_T42 y145 x16_1).f7.f1).toList == a1_1.toList)) = false := by simpa using c43))
                          (try (have c43b2 : (((rd_T42 y145 x16_1).f7.f0).toList == a1_0.toList && (((rd_T42 y145 x16_1).f7.f1).toList == a1_1.toList)) = false := by simpa using c43))
                          (try (have c43b3 : ¬ (((rd_T42 y145 x16_1).f7.f0).toList = a1_0.toList && (((rd_T42 y145 x16_1).f7.f1).toList == a1_1.toList)) := by simpa using c43))
                          clear c43
                          have H' := Aside0.mk H
                          clear H
                          have hnb49 := NB150_143.out
                          have hnc49 := NB143_150.out
                          have hnb50 := NB150_144.out
                          have hnc50 := NB144_150.out
                          have hcz51_0 : wc.cell? ⟨gb150, 0, none⟩ = some (.int .i64 ((rd_T42 y145 x16_1).f0)) := (blk_cell BK150.out 0).trans rfl
                          have hcz51_1 : wc.cell? ⟨gb150, 1, none⟩ = some (.int .i64 ((rd_T42 y145 x16_1).f1)) := (blk_cell BK150.out 1).trans rfl
                          have hcz51_2 : wc.cell? ⟨gb150, 2, none⟩ = some (.int .i64 ((rd_T42 y145 x16_1).f2)) := (blk_cell BK150.out 2).trans rfl
                          have hcz51_3 : wc.cell? ⟨gb150, 3, none⟩ = some (.string ((rd_T42 y145 x16_1).f3.f0)) := (blk_cell BK150.out 3).trans rfl
                          have hcz51_4 : wc.cell? ⟨gb150, 4, none⟩ = some (.int .i64 ((rd_T42 y145 x16_1).f3.f1)) := (blk_cell BK150.out 4).trans rfl
                          have hcz51_5 : wc.cell? ⟨gb150, 5, none⟩ = some (.int .i64 ((rd_T42 y145 x16_1).f3.f2)) := (blk_cell BK150.out 5).trans rfl
                          have hcz51_6 : wc.cell? ⟨gb150, 6, none⟩ = some (.int .i64 ((rd_T42 y145 x16_1).f3.f3)) := (blk_cell BK150.out 6).trans rfl
                          have hcz51_7 : wc.cell? ⟨gb150, 7, none⟩ = some (.int .i64 ((rd_T42 y145 x16_1).f4)) := (blk_cell BK150.out 7).trans rfl
                          have hcz51_8 : wc.cell? ⟨gb150, 8, none⟩ = some (.int .i64 ((rd_T42 y145 x16_1).f5)) := (blk_cell BK150.out 8).trans rfl
                          have hcz51_9 : wc.cell? ⟨gb150, 9, none⟩ = some (.string ((rd_T42 y145 x16_1).f6.f0)) := (blk_cell BK150.out 9).trans rfl
                          have hcz51_10 : wc.cell? ⟨gb150, 10, none⟩ = some (.string ((rd_T42 y145 x16_1).f6.f1)) := (blk_cell BK150.out 10).trans rfl
                          have hcz51_11 : wc.cell? ⟨gb150, 11, none⟩ = some (.string ((rd_T42 y145 x16_1).f7.f0)) := (blk_cell BK150.out 11).trans rfl
                          have hcz51_12 : wc.cell? ⟨gb150, 12, none⟩ = some (.string ((rd_T42 y145 x16_1).f7.f1)) := (blk_cell BK150.out 12).trans rfl
                          have hfz51_0 := blk_frozen BK150.out 0
                          have hfz51_1 := blk_frozen BK150.out 1
                          have hfz51_2 := blk_frozen BK150.out 2
                          have hfz51_3 := blk_frozen BK150.out 3
                          have hfz51_4 := blk_frozen BK150.out 4
                          have hfz51_5 := blk_frozen BK150.out 5
                          have hfz51_6 := blk_frozen BK150.out 6
                          have hfz51_7 := blk_frozen BK150.out 7
                          have hfz51_8 := blk_frozen BK150.out 8
                          have hfz51_9 := blk_frozen BK150.out 9
                          have hfz51_10 := blk_frozen BK150.out 10
                          have hfz51_11 := blk_frozen BK150.out 11
                          have hfz51_12 := blk_frozen BK150.out 12
                          have hnb52 := NB143_144.out
                          have hnc52 := NB144_143.out
                          have hcz53_0 : wc.cell? ⟨gb143, 0, none⟩ = some (.string a1_0) := (blk_cell BK143.out 0).trans rfl
                          have hcz53_1 : wc.cell? ⟨gb143, 1, none⟩ = some (.string a1_1) := (blk_cell BK143.out 1).trans rfl
                          have hfz53_0 := blk_frozen BK143.out 0
                          have hfz53_1 := blk_frozen BK143.out 1
                          go_wp2
                          go_roundg kj12
                          case measure => have := HK1.out; have := HJ12.out; omega
                          case rel => exact ⟨(x6_1), (x7_1), (wrap64 (x16_1 + 1)), (by first | rfl | (simp; done) | (simp [*]; done)), (by first | rfl | (simp; done) | (simp [*]; done)), (by first | rfl | (simp; done) | (simp [*]; done)), H', ⟨by have := HK1.out; have := HJ12.out; omega⟩, ⟨by (with_reducible repeat (first | refine blk_drewN ?_ _ | refine blk_drew ?_ | refine blk_alloc ?_ _)); exact BK143.out⟩, ⟨by (with_reducible repeat (first | refine blk_drewN ?_ _ | refine blk_drew ?_ | refine blk_alloc ?_ _)); exact BK144.out⟩, ⟨by repeat (first | (with_reducible first | exact HB.out | apply below_alloc | apply pw_below_drewN | apply below_drew1 | refine below_set ?_ GE143.out | refine below_set ?_ GE144.out | refine below_set ?_ GE150.out) | exact HB.out)⟩⟩
              · rw [if_neg c12] at H
                exact absurd H (by simp)
            · rw [if_neg c11] at H
              exact absurd H (by simp)
          · rw [if_neg c10] at H
            have c10b0 : decide (x16_1 < (y145.length : Int)) = false := decide_eq_false c10
            clear c10
            simp only [Option.some.injEq, Prod.mk.injEq] at H
            obtain ⟨rfl, rfl⟩ := H
            go_wp2
            go_ret2
            exact ⟨by first | rfl | (simp [errW_none, errW_some] <;> rfl) | (simp only [← hji4]; first | rfl | (simp [errW_none, errW_some] <;> rfl)) | (simp [*, errW_none, errW_some] <;> rfl), by repeat (first | (with_reducible first | exact HB.out | apply below_alloc | apply pw_below_drewN | apply below_drew1 | refine below_set ?_ GE143.out | refine below_set ?_ GE144.out) | exact HB.out)⟩
    · rw [if_neg c6] at H
      exact absurd H (by simp)
  · rw [if_neg c5] at H
    exact absurd H (by simp)

end Go.Proofs.Ytaffedkheehplaa.PGiveupSides
