/- Laid for this claim by a program of this session's (wip/mkprint.py, wip/ext.py); not trusted: Lean checks it. -/
import Derived.Test.YthlnecmpakfdmaaPTopTogetherx0
import Derived.Test.YthlnecmpakfdmaaPTopTogetherx2
namespace Go.Proofs.Ythlnecmpakfdmaa.PTopTogether
open Go.RowKit Go.Proofs.YthlnecmpakfdmaaW.PrintWords Go.Proofs.YthlnecmpakfdmaaW.PrintLast Go.Proofs.YthlnecmpakfdmaaW.PrintMore
attribute [local go_sem] max2_int min2_int max_two min_two max_three min_three max_four min_four   -- for this text's walks alone
set_option linter.unusedVariables false
set_option linter.unusedSimpArgs false

/-! ### position_Check: function 4 -/
mutual
def position_Check.l0 : Nat → List (S37) → List (S37) → Int → Int → Option (Int)
  | 0, _, _, _, _ => none
  | k + 1, x0, x8, x9, x10 => if x10 < x9 then (if 0 ≤ x10 then (if x10 < (x8.length : Int) then (if x10 > 0 then (if 0 ≤ (wrap64 (x10 - 1)) then (if (wrap64 (x10 - 1)) < (x0.length : Int) then ((series_Compare.f ((rd_T37 x0 (wrap64 (x10 - 1))).f0.f0) ((rd_T37 x0 (wrap64 (x10 - 1))).f0.f1) ((rd_T37 x0 (wrap64 (x10 - 1))).f0.f2) ((rd_T37 x0 (wrap64 (x10 - 1))).f0.f3) ((rd_T37 x8 x10).f0.f0) ((rd_T37 x8 x10).f0.f1) ((rd_T37 x8 x10).f0.f2) ((rd_T37 x8 x10).f0.f3)).bind fun t114 => (position_Check.j1 k x0 x8 x9 x10 (decide (t114 ≥ 0)) ((rd_T37 x8 x10).f0.f0) ((rd_T37 x8 x10).f0.f1) ((rd_T37 x8 x10).f0.f2) ((rd_T37 x8 x10).f0.f3) ((rd_T37 x8 x10).f1) ((rd_T37 x8 x10).f2))) else (none)) else (none)) else (position_Check.j1 k x0 x8 x9 x10 false ((rd_T37 x8 x10).f0.f0) ((rd_T37 x8 x10).f0.f1) ((rd_T37 x8 x10).f0.f2) ((rd_T37 x8 x10).f0.f3) ((rd_T37 x8 x10).f1) ((rd_T37 x8 x10).f2))) else (none)) else (none)) else (some 0)
def position_Check.j1 : Nat → List (S37) → List (S37) → Int → Int → Bool → ByteArray → Int → Int → Int → Int → Int → Option (Int)
  | 0, _, _, _, _, _, _, _, _, _, _, _ => none
  | k + 1, x0, x8, x9, x10, x28, x113000, x113001, x113002, x113003, x113004, x113005 => if x28 = true then (some 19) else ((position_lots.f x113004).bind fun t115 => (if t115 = true then ((position_lots.f x113005).bind fun t116 => (if t116 = true then (if x113004 = 0 then (if x113005 = 0 then (some 18) else (position_Check.l0 k x0 x8 x9 (wrap64 (x10 + 1)))) else (position_Check.l0 k x0 x8 x9 (wrap64 (x10 + 1)))) else (some 18))) else (some 18)))
end
def position_Check.f (k : Nat) (l0 : List (S37)) : Option (Int) := if (l0.length : Int) > 128 then (some 8) else (position_Check.l0 k l0 l0 (l0.length : Int) 0)
theorem position_Check.mono_l : ∀ k, (∀ y0 y1 y2 y3, LeO (position_Check.l0 k y0 y1 y2 y3) (position_Check.l0 (k + 1) y0 y1 y2 y3)) ∧ (∀ y0 y1 y2 y3 y4 y5 y6 y7 y8 y9 y10, LeO (position_Check.j1 k y0 y1 y2 y3 y4 y5 y6 y7 y8 y9 y10) (position_Check.j1 (k + 1) y0 y1 y2 y3 y4 y5 y6 y7 y8 y9 y10))
  | 0 => ⟨fun _ _ _ _ r h => by simp [position_Check.l0] at h, fun _ _ _ _ _ _ _ _ _ _ _ r h => by simp [position_Check.j1] at h⟩
  | k + 1 => by
    obtain ⟨ih0, ih1⟩ := position_Check.mono_l k
    refine ⟨?_, ?_⟩
    · intro y0 y1 y2 y3
      unfold position_Check.l0
      repeat' first
      | (with_reducible exact ih0 _ _ _ _)
      | (with_reducible exact ih1 _ _ _ _ _ _ _ _ _ _ _)
      | (with_reducible exact LeO.refl _)
      | (with_reducible exact LeO.none _)
      | (with_reducible refine LeO.ite ?_ ?_)
      | (with_reducible refine LeO.bind ?_ (fun _ => ?_))
      | exact ih0 _ _ _ _
      | exact ih1 _ _ _ _ _ _ _ _ _ _ _
      | exact LeO.none _
      | refine LeO.ite ?_ ?_
      | refine LeO.bind ?_ (fun _ => ?_)
    · intro y0 y1 y2 y3 y4 y5 y6 y7 y8 y9 y10
      unfold position_Check.j1
      repeat' first
      | (with_reducible exact ih0 _ _ _ _)
      | (with_reducible exact ih1 _ _ _ _ _ _ _ _ _ _ _)
      | (with_reducible exact LeO.refl _)
      | (with_reducible exact LeO.none _)
      | (with_reducible refine LeO.ite ?_ ?_)
      | (with_reducible refine LeO.bind ?_ (fun _ => ?_))
      | exact ih0 _ _ _ _
      | exact ih1 _ _ _ _ _ _ _ _ _ _ _
      | exact LeO.none _
      | refine LeO.ite ?_ ?_
      | refine LeO.bind ?_ (fun _ => ?_)
theorem position_Check.mono : ∀ a0 k, LeO (position_Check.f k a0) (position_Check.f (k + 1) a0) := by
  intro a0 k
  obtain ⟨ih0, ih1⟩ := position_Check.mono_l k
  unfold position_Check.f
  repeat' first
      | (with_reducible exact ih0 _ _ _ _)
      | (with_reducible exact ih1 _ _ _ _ _ _ _ _ _ _ _)
      | (with_reducible exact LeO.refl _)
      | (with_reducible exact LeO.none _)
      | (with_reducible refine LeO.ite ?_ ?_)
      | (with_reducible refine LeO.bind ?_ (fun _ => ?_))
      | exact ih0 _ _ _ _
      | exact ih1 _ _ _ _ _ _ _ _ _ _ _
      | exact LeO.none _
      | refine LeO.ite ?_ ?_
      | refine LeO.bind ?_ (fun _ => ?_)
def position_Check.T6 : Bool × List (List Nat × List Nat) := (true, [([], []), ([0], [0]), ([1], [1]), ([2], [2]), ([2], [2]), ([4, 2], [2, 4]), ([3, 5, 2], [2, 3, 5]), ([6, 2], [2, 6]), ([7, 2], [2, 7]), ([2], [2]), ([9, 2], [2, 9]), ([8, 10, 2, 2], [2, 8, 10]), ([11, 2], [2, 11]), ([2, 12], [2, 12])])
def position_Check.B6 : List Nat := [0, 1, 3, 7, 7, 23, 63, 127, 255, 7, 519, 2047, 4095, 8191]
theorem position_Check.tab6 : rtab .any (opsOf Try.f4 6) = position_Check.T6 := by kernel_rfl
theorem position_Check.bits6 : waitsOk position_Check.T6.2 position_Check.B6 = true := by kernel_rfl
set_option maxHeartbeats 8000000 in
set_option maxRecDepth 100000 in
theorem position_Check.calls (k : Nat) (A0 : Option Addr) (c0 : Nat) (l0 : List (S37)) (r : Int) (w : World) (hr0 : Kd.C k37 w A0 l0.length l0) (hc0 : l0.length ≤ c0) (h : position_Check.f k l0 = some r) :
    Calls Try.prog 4 #[.slice A0 l0.length c0] w fun e w' => e = .returned (.int .i64 r) ∧ Below w.heap.size w w' := by
  have hu37 := Try.underlying37
  have hu35 := Try.underlying35
  have HR0 := Aside0.mk hr0
  have HC0 := Aside0.mk hc0
  clear hr0 hc0
  have HB := Aside0.mk (Below.refl w.heap.size w)
  have H : (if (l0.length : Int) > 128 then (some 8) else (position_Check.l0 k l0 l0 (l0.length : Int) 0)) = some r := h
  clear h
  by_cases c2 : (l0.length : Int) > 128
  · rw [if_pos c2] at H
    have c2b0 : decide (128 < (l0.length : Int)) = true := decide_eq_true c2
    have c2b1 : decide (128 < l0.length) = true := decide_eq_true (by omega)
    clear c2
    obtain rfl := Option.some.inj H
    go_enter Try.func4, Try.ntmps4
    go_wp2
    go_ret
    exact ⟨by first | rfl | (simp [errW_none, errW_some] <;> rfl) | (simp [*, errW_none, errW_some] <;> rfl), by repeat (first | (with_reducible first | exact HB.out | apply below_alloc | apply pw_below_drewN | apply below_drew1) | exact HB.out)⟩
  · rw [if_neg c2] at H
    have c2b0 : decide (128 < (l0.length : Int)) = false := decide_eq_false c2
    have c2b1 : decide (128 < l0.length) = false := decide_eq_false (by omega)
    clear c2
    have H' := Aside0.mk H
    clear H
    go_enter Try.func4, Try.ntmps4
    go_wp2
    go_loopg [10] k (fun kq v10 w' => ∃ (x10_1 : Int), v10 = .int .i64 x10_1 ∧ Aside0 (position_Check.l0 kq l0 l0 (l0.length : Int) x10_1 = some r) ∧ Aside0 (kq ≤ k) ∧ Aside0 (Below w.heap.size w w'))
    case atStart => exact ⟨(0), (by first | rfl | (simp; done) | (simp [*]; done)), H', ⟨Nat.le_refl _⟩, ⟨by repeat (first | (with_reducible first | exact HB.out | apply below_alloc | apply pw_below_drewN | apply below_drew1) | exact HB.out)⟩⟩
    case round =>
      clear H'
      try clear c2
      try clear c2b0
      try clear c2b1
      try clear p2
      obtain ⟨x10_1, rfl, HA, HK1, HB⟩ := hrel
      cases gk with
      | zero => exact absurd HA.out (by simp [position_Check.l0])
      | succ k1 =>
        have H := HA.out
        clear HA
        simp only [position_Check.l0] at H
        by_cases c3 : x10_1 < (l0.length : Int)
        · rw [if_pos c3] at H
          have c3b0 : decide (x10_1 < (l0.length : Int)) = true := decide_eq_true c3
          clear c3
          by_cases c4 : 0 ≤ x10_1
          · rw [if_pos c4] at H
            have c4b0 : decide (0 ≤ x10_1) = true := decide_eq_true c4
            clear c4
            by_cases c5 : x10_1 < (l0.length : Int)
            · rw [if_pos c5] at H
              have c5b0 : decide (x10_1 < (l0.length : Int)) = true := decide_eq_true c5
              clear c5
              have HC6 := Aside0.mk H
              clear H
              have p111 : 0 ≤ (x10_1 : Int) := of_decide_eq_true (by first | (with_reducible assumption) | assumption)
              have q111 : x10_1 < (l0.length : Int) := of_decide_eq_true (by first | (with_reducible assumption) | assumption)
              obtain ⟨ad111, e111, hx111_0, hx111_1, hx111_2, hx111_3, hx111_4, hx111_5⟩ := at_T37 HR0.out x10_1 p111 q111
              cases e111
              replace hx111_0 := (HB.out.cell (World.block_lt_of_cell? w _ hx111_0)).trans hx111_0
              replace hx111_1 := (HB.out.cell (World.block_lt_of_cell? w _ hx111_1)).trans hx111_1
              replace hx111_2 := (HB.out.cell (World.block_lt_of_cell? w _ hx111_2)).trans hx111_2
              replace hx111_3 := (HB.out.cell (World.block_lt_of_cell? w _ hx111_3)).trans hx111_3
              replace hx111_4 := (HB.out.cell (World.block_lt_of_cell? w _ hx111_4)).trans hx111_4
              replace hx111_5 := (HB.out.cell (World.block_lt_of_cell? w _ hx111_5)).trans hx111_5
              replace p111 := eq_true p111
              replace q111 := eq_true q111
              go_upto_region 6 with (first | ((with_reducible refine gate_dst (N := 4) rfl ?_); refine box_event ?hg (N := 4) ?hd (cs := #[.string (⟨#[]⟩ : ByteArray), .int .i64 0, .int .i64 0, .int .i64 0, .int .i64 0, .int .i64 0]) (t := 37) ?hr ?_; (case hd => rfl); (case hg => rfl); (case hr => first | (go_simp; done) | (go_simp; rfl)); intro gb112 hg w7 hbox hb; have n0_ := Aside0.mk (below_step (by repeat (first | (with_reducible first | exact HB.out | apply below_alloc | apply pw_below_drewN | apply below_drew1) | exact HB.out)) hb); have n1_ := Aside0.mk (hbox); have n2_ := Aside0.mk ((by rw [hg]; exact (below_size (by repeat (first | (with_reducible first | exact HB.out | apply below_alloc | apply pw_below_drewN | apply below_drew1) | exact HB.out))) : w.heap.size ≤ gb112)); have n3_ := Aside0.mk ((by rw [hg]; exact (below_size (by repeat (first | (with_reducible first | exact HB.out | apply below_alloc | apply pw_below_drewN | apply below_drew1) | exact HB.out))) : w.heap.size ≤ gb112)); clear HB; have HB := n0_; have BK112 := n1_; have GW112 := n2_; have GE112 := n3_; clear n0_ n1_ n2_ n3_; clear hb hbox hg; have hcz8_0 : w7.cell? ⟨gb112, 0, none⟩ = some (.string (⟨#[]⟩ : ByteArray)) := (blk_cell BK112.out 0).trans rfl; have hcz8_1 : w7.cell? ⟨gb112, 1, none⟩ = some (.int .i64 0) := (blk_cell BK112.out 1).trans rfl; have hcz8_2 : w7.cell? ⟨gb112, 2, none⟩ = some (.int .i64 0) := (blk_cell BK112.out 2).trans rfl; have hcz8_3 : w7.cell? ⟨gb112, 3, none⟩ = some (.int .i64 0) := (blk_cell BK112.out 3).trans rfl; have hcz8_4 : w7.cell? ⟨gb112, 4, none⟩ = some (.int .i64 0) := (blk_cell BK112.out 4).trans rfl; have hcz8_5 : w7.cell? ⟨gb112, 5, none⟩ = some (.int .i64 0) := (blk_cell BK112.out 5).trans rfl; have hfz8_0 := blk_frozen BK112.out 0; have hfz8_1 := blk_frozen BK112.out 1; have hfz8_2 := blk_frozen BK112.out 2; have hfz8_3 := blk_frozen BK112.out 3; have hfz8_4 := blk_frozen BK112.out 4; have hfz8_5 := blk_frozen BK112.out 5))
              (try simp only [Act.put, List.setIfInBounds_toArray, List.set_cons_zero, List.set_cons_succ])
              go_cut [28] (fun v28 wc => ∃ (kq : Nat) (x28_5 : Bool), v28 = .bool x28_5 ∧ Aside0 (position_Check.j1 kq l0 l0 (l0.length : Int) x10_1 x28_5 ((rd_T37 l0 x10_1).f0.f0) ((rd_T37 l0 x10_1).f0.f1) ((rd_T37 l0 x10_1).f0.f2) ((rd_T37 l0 x10_1).f0.f3) ((rd_T37 l0 x10_1).f1) ((rd_T37 l0 x10_1).f2) = some r) ∧ Aside0 (kq ≤ k1) ∧ Aside0 (wc.heap[gb112]? = some (.cells #[.string ((rd_T37 l0 x10_1).f0.f0), .int .i64 ((rd_T37 l0 x10_1).f0.f1), .int .i64 ((rd_T37 l0 x10_1).f0.f2), .int .i64 ((rd_T37 l0 x10_1).f0.f3), .int .i64 ((rd_T37 l0 x10_1).f1), .int .i64 ((rd_T37 l0 x10_1).f2)] 37 (0, 0))) ∧ Aside0 (Below w.heap.size w wc))
              case first =>
                have H := HC6.out
                clear HC6
                by_cases c9 : x10_1 > 0
                · rw [if_pos c9] at H
                  have c9b0 : decide (0 < x10_1) = true := decide_eq_true c9
                  clear c9
                  (first | rw [c9b0] | (simp only [i64_w, i32_w]; rw [c9b0]) | skip)
                  obtain ⟨ji10, hji10⟩ : ∃ j_ : Int, (wrap64 (x10_1 - 1)) = j_ := ⟨_, rfl⟩
                  replace H : (if 0 ≤ (ji10) then (if (ji10) < (l0.length : Int) then ((series_Compare.f ((rd_T37 l0 (ji10)).f0.f0) ((rd_T37 l0 (ji10)).f0.f1) ((rd_T37 l0 (ji10)).f0.f2) ((rd_T37 l0 (ji10)).f0.f3) ((rd_T37 l0 x10_1).f0.f0) ((rd_T37 l0 x10_1).f0.f1) ((rd_T37 l0 x10_1).f0.f2) ((rd_T37 l0 x10_1).f0.f3)).bind fun t114 => (position_Check.j1 k1 l0 l0 (l0.length : Int) x10_1 (decide (t114 ≥ 0)) ((rd_T37 l0 x10_1).f0.f0) ((rd_T37 l0 x10_1).f0.f1) ((rd_T37 l0 x10_1).f0.f2) ((rd_T37 l0 x10_1).f0.f3) ((rd_T37 l0 x10_1).f1) ((rd_T37 l0 x10_1).f2))) else (none)) else (none)) = some r := by first | (rw [hji10] at H; exact H) | (simp only [hji10] at H ⊢; exact H)
                  have hji10w : (IntKind.i64.wrap (x10_1 - 1)) = ji10 := (i64_w _).trans hji10
                  by_cases c11 : 0 ≤ (ji10)
                  · rw [if_pos c11] at H
                    have c11b0 : decide (0 ≤ (ji10)) = true := decide_eq_true c11
                    clear c11
                    by_cases c12 : (ji10) < (l0.length : Int)
                    · rw [if_pos c12] at H
                      have c12b0 : decide ((ji10) < (l0.length : Int)) = true := decide_eq_true c12
                      clear c12
                      replace H := Option.bind_eq_some_iff.mp H
                      obtain ⟨t114, A130, H⟩ := H
                      replace H : (position_Check.j1 k1 l0 l0 (l0.length : Int) x10_1 (decide (t114 ≥ 0)) ((rd_T37 l0 x10_1).f0.f0) ((rd_T37 l0 x10_1).f0.f1) ((rd_T37 l0 x10_1).f0.f2) ((rd_T37 l0 x10_1).f0.f3) ((rd_T37 l0 x10_1).f1) ((rd_T37 l0 x10_1).f2)) = some r := H
                      have A13 := Aside0.mk A130
                      clear A130
                      have H' := Aside0.mk H
                      clear H
                      try go_wp2
                      have n0_ : Aside0 (((((((w7.setCell ⟨gb112, 0, none⟩ (.string ((rd_T37 l0 x10_1).f0.f0))).setCell ⟨gb112, 1, none⟩ (.int .i64 ((rd_T37 l0 x10_1).f0.f1))).setCell ⟨gb112, 2, none⟩ (.int .i64 ((rd_T37 l0 x10_1).f0.f2))).setCell ⟨gb112, 3, none⟩ (.int .i64 ((rd_T37 l0 x10_1).f0.f3))).setCell ⟨gb112, 4, none⟩ (.int .i64 ((rd_T37 l0 x10_1).f1))).setCell ⟨gb112, 5, none⟩ (.int .i64 ((rd_T37 l0 x10_1).f2))).heap[gb112]? = some (.cells #[.string ((rd_T37 l0 x10_1).f0.f0), .int .i64 ((rd_T37 l0 x10_1).f0.f1), .int .i64 ((rd_T37 l0 x10_1).f0.f2), .int .i64 ((rd_T37 l0 x10_1).f0.f3), .int .i64 ((rd_T37 l0 x10_1).f1), .int .i64 ((rd_T37 l0 x10_1).f2)] 37 (0, 0))) := ⟨by (with_reducible repeat (first | refine blk_drewN ?_ _ | refine blk_drew ?_ | refine blk_alloc ?_ _)); refine blk_put (cs := #[.string ((rd_T37 l0 x10_1).f0.f0), .int .i64 ((rd_T37 l0 x10_1).f0.f1), .int .i64 ((rd_T37 l0 x10_1).f0.f2), .int .i64 ((rd_T37 l0 x10_1).f0.f3), .int .i64 ((rd_T37 l0 x10_1).f1), .int .i64 0]) ?_ 5 _ rfl; (with_reducible repeat (first | refine blk_drewN ?_ _ | refine blk_drew ?_ | refine blk_alloc ?_ _)); refine blk_put (cs := #[.string ((rd_T37 l0 x10_1).f0.f0), .int .i64 ((rd_T37 l0 x10_1).f0.f1), .int .i64 ((rd_T37 l0 x10_1).f0.f2), .int .i64 ((rd_T37 l0 x10_1).f0.f3), .int .i64 0, .int .i64 0]) ?_ 4 _ rfl; (with_reducible repeat (first | refine blk_drewN ?_ _ | refine blk_drew ?_ | refine blk_alloc ?_ _)); refine blk_put (cs := #[.string ((rd_T37 l0 x10_1).f0.f0), .int .i64 ((rd_T37 l0 x10_1).f0.f1), .int .i64 ((rd_T37 l0 x10_1).f0.f2), .int .i64 0, .int .i64 0, .int .i64 0]) ?_ 3 _ rfl; (with_reducible repeat (first | refine blk_drewN ?_ _ | refine blk_drew ?_ | refine blk_alloc ?_ _)); refine blk_put (cs := #[.string ((rd_T37 l0 x10_1).f0.f0), .int .i64 ((rd_T37 l0 x10_1).f0.f1), .int .i64 0, .int .i64 0, .int .i64 0, .int .i64 0]) ?_ 2 _ rfl; (with_reducible repeat (first | refine blk_drewN ?_ _ | refine blk_drew ?_ | refine blk_alloc ?_ _)); refine blk_put (cs := #[.string ((rd_T37 l0 x10_1).f0.f0), .int .i64 0, .int .i64 0, .int .i64 0, .int .i64 0, .int .i64 0]) ?_ 1 _ rfl; (with_reducible repeat (first | refine blk_drewN ?_ _ | refine blk_drew ?_ | refine blk_alloc ?_ _)); refine blk_put (cs := #[.string (⟨#[]⟩ : ByteArray), .int .i64 0, .int .i64 0, .int .i64 0, .int .i64 0, .int .i64 0]) ?_ 0 _ rfl; (with_reducible repeat (first | refine blk_drewN ?_ _ | refine blk_drew ?_ | refine blk_alloc ?_ _)); exact BK112.out⟩
                      have n1_ : Aside0 (Below w.heap.size w ((((((w7.setCell ⟨gb112, 0, none⟩ (.string ((rd_T37 l0 x10_1).f0.f0))).setCell ⟨gb112, 1, none⟩ (.int .i64 ((rd_T37 l0 x10_1).f0.f1))).setCell ⟨gb112, 2, none⟩ (.int .i64 ((rd_T37 l0 x10_1).f0.f2))).setCell ⟨gb112, 3, none⟩ (.int .i64 ((rd_T37 l0 x10_1).f0.f3))).setCell ⟨gb112, 4, none⟩ (.int .i64 ((rd_T37 l0 x10_1).f1))).setCell ⟨gb112, 5, none⟩ (.int .i64 ((rd_T37 l0 x10_1).f2)))) := ⟨by repeat (first | (with_reducible first | exact HB.out | apply below_alloc | apply pw_below_drewN | apply below_drew1 | refine below_set ?_ GE112.out) | exact HB.out)⟩
                      (try clear BK112)
                      (try clear HB)
                      generalize ((((((w7.setCell ⟨gb112, 0, none⟩ (.string ((rd_T37 l0 x10_1).f0.f0))).setCell ⟨gb112, 1, none⟩ (.int .i64 ((rd_T37 l0 x10_1).f0.f1))).setCell ⟨gb112, 2, none⟩ (.int .i64 ((rd_T37 l0 x10_1).f0.f2))).setCell ⟨gb112, 3, none⟩ (.int .i64 ((rd_T37 l0 x10_1).f0.f3))).setCell ⟨gb112, 4, none⟩ (.int .i64 ((rd_T37 l0 x10_1).f1))).setCell ⟨gb112, 5, none⟩ (.int .i64 ((rd_T37 l0 x10_1).f2))) = w14 at n0_ n1_ ⊢
                      have BK112 := n0_
                      have HB := n1_
                      clear n0_ n1_
                      have n0_ := Aside0.mk (blk_drew BK112.out)
                      have n1_ := Aside0.mk (below_drew1 HB.out)
                      clear BK112
                      clear HB
                      have BK112 := n0_
                      have HB := n1_
                      clear n0_ n1_
                      have p113 : 0 ≤ ((ji10) : Int) := of_decide_eq_true (by first | (with_reducible assumption) | assumption)
                      have q113 : (ji10) < (l0.length : Int) := of_decide_eq_true (by first | (with_reducible assumption) | assumption)
                      obtain ⟨ad113, e113, hx113_0, hx113_1, hx113_2, hx113_3, hx113_4, hx113_5⟩ := at_T37 HR0.out (ji10) p113 q113
                      have hw113_5 := hx113_5
                      have hw113_4 := hx113_4
                      have hw113_3 := hx113_3
                      have hw113_2 := hx113_2
                      have hw113_1 := hx113_1
                      have hw113_0 := hx113_0
                      obtain rfl : ad111 = ad113 := (by injection e113)
                      replace hx113_0 := (HB.out.cell (World.block_lt_of_cell? w _ hx113_0)).trans hx113_0
                      replace hx113_1 := (HB.out.cell (World.block_lt_of_cell? w _ hx113_1)).trans hx113_1
                      replace hx113_2 := (HB.out.cell (World.block_lt_of_cell? w _ hx113_2)).trans hx113_2
                      replace hx113_3 := (HB.out.cell (World.block_lt_of_cell? w _ hx113_3)).trans hx113_3
                      replace hx113_4 := (HB.out.cell (World.block_lt_of_cell? w _ hx113_4)).trans hx113_4
                      replace hx113_5 := (HB.out.cell (World.block_lt_of_cell? w _ hx113_5)).trans hx113_5
                      replace p113 := eq_true p113
                      replace q113 := eq_true q113
                      refine start_ (n := 14) (S := fun w' => w'.cell? ⟨gb112, 0, none⟩ = some (.string ((rd_T37 l0 x10_1).f0.f0)) ∧ w'.cell? ⟨gb112, 1, none⟩ = some (.int .i64 ((rd_T37 l0 x10_1).f0.f1)) ∧ w'.cell? ⟨gb112, 2, none⟩ = some (.int .i64 ((rd_T37 l0 x10_1).f0.f2)) ∧ w'.cell? ⟨gb112, 3, none⟩ = some (.int .i64 ((rd_T37 l0 x10_1).f0.f3)) ∧ w'.cell? ⟨gb112, 4, none⟩ = some (.int .i64 ((rd_T37 l0 x10_1).f1)) ∧ w'.cell? ⟨gb112, 5, none⟩ = some (.int .i64 ((rd_T37 l0 x10_1).f2)) ∧ w'.cell? (ad111.add (((ji10)).toNat * 6)) = some (.string ((rd_T37 l0 (ji10)).f0.f0)) ∧ w'.cell? ⟨(ad111.add (((ji10)).toNat * 6)).block, (ad111.add (((ji10)).toNat * 6)).off + 1, none⟩ = some (.int .i64 ((rd_T37 l0 (ji10)).f0.f1)) ∧ w'.cell? ⟨(ad111.add (((ji10)).toNat * 6)).block, (ad111.add (((ji10)).toNat * 6)).off + 2, none⟩ = some (.int .i64 ((rd_T37 l0 (ji10)).f0.f2)) ∧ w'.cell? ⟨(ad111.add (((ji10)).toNat * 6)).block, (ad111.add (((ji10)).toNat * 6)).off + 3, none⟩ = some (.int .i64 ((rd_T37 l0 (ji10)).f0.f3)) ∧ w'.cell? ⟨(ad111.add (((ji10)).toNat * 6)).block, (ad111.add (((ji10)).toNat * 6)).off + 4, none⟩ = some (.int .i64 ((rd_T37 l0 (ji10)).f1)) ∧ w'.cell? ⟨(ad111.add (((ji10)).toNat * 6)).block, (ad111.add (((ji10)).toNat * 6)).off + 5, none⟩ = some (.int .i64 ((rd_T37 l0 (ji10)).f2))) (ds := []) #[false, false, false, false, false, false, false, false, false, false, false, false, false, false] (by kernel_rfl) rfl rfl ⟨(blk_cell BK112.out 0).trans rfl, (blk_cell BK112.out 1).trans rfl, (blk_cell BK112.out 2).trans rfl, (blk_cell BK112.out 3).trans rfl, (blk_cell BK112.out 4).trans rfl, (blk_cell BK112.out 5).trans rfl, ((HB.out.cell (World.block_lt_of_cell? w _ hw113_0)).trans hw113_0), ((HB.out.cell (World.block_lt_of_cell? w _ hw113_1)).trans hw113_1), ((HB.out.cell (World.block_lt_of_cell? w _ hw113_2)).trans hw113_2), ((HB.out.cell (World.block_lt_of_cell? w _ hw113_3)).trans hw113_3), ((HB.out.cell (World.block_lt_of_cell? w _ hw113_4)).trans hw113_4), ((HB.out.cell (World.block_lt_of_cell? w _ hw113_5)).trans hw113_5)⟩ (fun hHeld => ?_); refine with_tabW position_Check.tab6 position_Check.bits6 (fun HT_ HW_ => ?_)
                      generalize w14.drew = w15 at BK112 HB hx113_0 hx113_1 hx113_2 hx113_3 hx113_4 hx113_5 hHeld ⊢
                      refine pure_ (i := 0) (N := some 15) (v := ?_) (a' := ?_) #[true, false, false, false, false, false, false, false, false, false, false, false, false, false] rfl rfl (any_of HT_.out (by kernel_rfl)) (fun _ _ _ h => h) (Or.inl ⟨by rfl, ?_⟩) ?_ ?_
                      rotate_left
                      · intro w'
                        go_simp
                        with_reducible rfl
                      rotate_left
                      · simp only [Act.put, List.setIfInBounds_toArray, List.set_cons_zero, List.set_cons_succ, i64_w, i32_w]
                        rfl
                      refine pure_ (i := 1) (N := some 16) (v := ?_) (a' := ?_) #[true, true, false, false, false, false, false, false, false, false, false, false, false, false] rfl rfl (any_of HT_.out (by kernel_rfl)) (fun _ _ _ h => h) (Or.inl ⟨by rfl, ?_⟩) ?_ ?_
                      rotate_left
                      · intro w'
                        go_simp
                        with_reducible rfl
                      rotate_left
                      · simp only [Act.put, List.setIfInBounds_toArray, List.set_cons_zero, List.set_cons_succ, i64_w, i32_w]
                        rfl
                      refine pure_ (i := 2) (N := some 17) (v := ?_) (a' := ?_) #[true, true, true, false, false, false, false, false, false, false, false, false, false, false] rfl rfl (any_of HT_.out (by kernel_rfl)) (fun _ _ _ h => h) (Or.inl ⟨by rfl, ?_⟩) ?_ ?_
                      rotate_left
                      · intro w'
                        go_simp
                        with_reducible rfl
                      rotate_left
                      · simp only [Act.put, List.setIfInBounds_toArray, List.set_cons_zero, List.set_cons_succ, i64_w, i32_w]
                        rfl
                      refine pure_ (i := 3) (N := some 18) (v := ?_) (a' := ?_) #[true, true, true, true, false, false, false, false, false, false, false, false, false, false] rfl rfl (any_of HT_.out (by kernel_rfl)) (fun _ _ _ h => h) (Or.inl ⟨by rfl, ?_⟩) ?_ ?_
                      rotate_left
                      · intro w'
                        go_simp
                        with_reducible rfl
                      rotate_left
                      · simp only [Act.put, List.setIfInBounds_toArray, List.set_cons_zero, List.set_cons_succ, i64_w, i32_w]
                        rfl
                      refine pure_ (i := 4) (N := some 19) (v := ?_) (a' := ?_) #[true, true, true, true, true, false, false, false, false, false, false, false, false, false] rfl rfl (any_of HT_.out (by kernel_rfl)) (fun _ _ _ h => h) (Or.inl ⟨by rfl, ?_⟩) ?_ ?_
                      rotate_left
                      · intro w'
                        go_simp
                        with_reducible rfl
                      rotate_left
                      · simp only [Act.put, List.setIfInBounds_toArray, List.set_cons_zero, List.set_cons_succ, i64_w, i32_w]
                        rfl
                      refine pure_ (i := 5) (N := some 20) (v := ?_) (a' := ?_) #[true, true, true, true, true, true, false, false, false, false, false, false, false, false] rfl rfl (any_of HT_.out (by kernel_rfl)) (fun _ _ _ h => h) (Or.inl ⟨by rfl, ?_⟩) ?_ ?_
                      rotate_left
                      · intro w'
                        go_simp
                        with_reducible rfl
                      rotate_left
                      · simp only [Act.put, List.setIfInBounds_toArray, List.set_cons_zero, List.set_cons_succ, i64_w, i32_w]
                        rfl
                      refine pure_ (i := 6) (N := some 21) (v := ?_) (a' := ?_) #[true, true, true, true, true, true, true, false, false, false, false, false, false, false] rfl rfl (any_of HT_.out (by kernel_rfl)) (fun _ _ _ h => h) (Or.inl ⟨by rfl, ?_⟩) ?_ ?_
                      rotate_left
                      · intro w'
                        go_simp
                        with_reducible rfl
                      rotate_left
                      · simp only [Act.put, List.setIfInBounds_toArray, List.set_cons_zero, List.set_cons_succ, i64_w, i32_w]
                        rfl
                      refine pure_ (i := 7) (N := some 22) (v := ?_) (a' := ?_) #[true, true, true, true, true, true, true, true, false, false, false, false, false, false] rfl rfl (any_of HT_.out (by kernel_rfl)) (fun _ _ _ h => h) (Or.inl ⟨by rfl, ?_⟩) ?_ ?_
                      rotate_left
                      · intro w'
                        go_simp
                        with_reducible rfl
                      rotate_left
                      · simp only [Act.put, List.setIfInBounds_toArray, List.set_cons_zero, List.set_cons_succ, i64_w, i32_w]
                        rfl
                      refine pure_ (i := 9) (N := some 24) (v := ?_) (a' := ?_) #[true, true, true, true, true, true, true, true, false, true, false, false, false, false] rfl rfl (any_of HT_.out (by kernel_rfl)) (fun _ _ _ h => h) (Or.inl ⟨by rfl, ?_⟩) ?_ ?_
                      rotate_left
                      · intro w'
                        go_simp
                        with_reducible rfl
                      rotate_left
                      · simp only [Act.put, List.setIfInBounds_toArray, List.set_cons_zero, List.set_cons_succ, i64_w, i32_w]
                        rfl
                      refine take_ (i := 8) (N := some 23) (v := ?_) (a' := ?_) #[true, true, true, true, true, true, true, true, true, true, false, false, false, false] rfl rfl (take_ofW HT_.out HW_.out (by kernel_rfl)) (fun _ _ _ h => h) (Or.inl ⟨by rfl, ?_⟩) hHeld ?_ ?_
                      rotate_left
                      · rintro w' ⟨s0, s1, s2, s3, s4, s5, s6, s7, s8, s9, s10, s11⟩
                        go_simp
                        with_reducible rfl
                      rotate_left
                      · simp only [Act.put, List.setIfInBounds_toArray, List.set_cons_zero, List.set_cons_succ, i64_w, i32_w]
                        rfl
                      refine take_ (i := 10) (N := some 25) (v := ?_) (a' := ?_) #[true, true, true, true, true, true, true, true, true, true, true, false, false, false] rfl rfl (take_ofW HT_.out HW_.out (by kernel_rfl)) (fun _ _ _ h => h) (Or.inl ⟨by rfl, ?_⟩) hHeld ?_ ?_
                      rotate_left
                      · rintro w' ⟨s0, s1, s2, s3, s4, s5, s6, s7, s8, s9, s10, s11⟩
                        go_simp
                        with_reducible rfl
                      rotate_left
                      · simp only [Act.put, List.setIfInBounds_toArray, List.set_cons_zero, List.set_cons_succ, i64_w, i32_w]
                        rfl
                      refine one_ (i := 11) (N := some 26) #[true, true, true, true, true, true, true, true, true, true, true, true, false, false] rfl rfl (one_of HT_.out (by kernel_rfl)) (by decide) (fun K hK => ?_)
                      refine goes_ Try.func9 (by kernel_rfl) rfl #[.agg #[.string ((rd_T37 l0 (ji10)).f0.f0), .int .i64 ((rd_T37 l0 (ji10)).f0.f1), .int .i64 ((rd_T37 l0 (ji10)).f0.f2), .int .i64 ((rd_T37 l0 (ji10)).f0.f3)], .agg #[.string ((rd_T37 l0 x10_1).f0.f0), .int .i64 ((rd_T37 l0 x10_1).f0.f1), .int .i64 ((rd_T37 l0 x10_1).f0.f2), .int .i64 ((rd_T37 l0 x10_1).f0.f3)]] (by rfl) rfl rfl (by (try simp only [List.map_toArray, List.map_cons, List.map_nil]); first | done | (simp only [hji10]; rfl) | rfl | (simp only [List.length_drop, List.length_take]; rfl)) ?_
                      with_reducible refine (series_Compare.calls ((rd_T37 l0 (ji10)).f0.f0) ((rd_T37 l0 (ji10)).f0.f1) ((rd_T37 l0 (ji10)).f0.f2) ((rd_T37 l0 (ji10)).f0.f3) ((rd_T37 l0 x10_1).f0.f0) ((rd_T37 l0 x10_1).f0.f1) ((rd_T37 l0 x10_1).f0.f2) ((rd_T37 l0 x10_1).f0.f3) t114 _ A13.out).mono ?_
                      rintro e w16 ⟨rfl, hb⟩
                      refine ⟨_, rfl, ?_⟩
                      have n0_ := Aside0.mk (blk_below (g := gb112) (o := .cells #[.string ((rd_T37 l0 x10_1).f0.f0), .int .i64 ((rd_T37 l0 x10_1).f0.f1), .int .i64 ((rd_T37 l0 x10_1).f0.f2), .int .i64 ((rd_T37 l0 x10_1).f0.f3), .int .i64 ((rd_T37 l0 x10_1).f1), .int .i64 ((rd_T37 l0 x10_1).f2)] 37 (0, 0)) (by (with_reducible repeat (first | refine blk_drewN ?_ _ | refine blk_drew ?_ | refine blk_alloc ?_ _)); exact BK112.out) hb)
                      have n1_ := Aside0.mk (below_step (by repeat (first | (with_reducible first | exact HB.out | apply below_alloc | apply pw_below_drewN | apply below_drew1 | refine below_set ?_ GE112.out) | exact HB.out)) hb)
                      clear BK112
                      clear HB
                      have BK112 := n0_
                      have HB := n1_
                      clear n0_ n1_
                      (try clear hb)
                      (try clear hb2)
                      (try clear hk)
                      (try clear hi)
                      refine hK.out _ _ ⟨(blk_cell BK112.out 0).trans rfl, (blk_cell BK112.out 1).trans rfl, (blk_cell BK112.out 2).trans rfl, (blk_cell BK112.out 3).trans rfl, (blk_cell BK112.out 4).trans rfl, (blk_cell BK112.out 5).trans rfl, ((HB.out.cell (World.block_lt_of_cell? w _ hw113_0)).trans hw113_0), ((HB.out.cell (World.block_lt_of_cell? w _ hw113_1)).trans hw113_1), ((HB.out.cell (World.block_lt_of_cell? w _ hw113_2)).trans hw113_2), ((HB.out.cell (World.block_lt_of_cell? w _ hw113_3)).trans hw113_3), ((HB.out.cell (World.block_lt_of_cell? w _ hw113_4)).trans hw113_4), ((HB.out.cell (World.block_lt_of_cell? w _ hw113_5)).trans hw113_5)⟩ (fun hHeld => ?_)
                      clear hK K
                      refine norm_ (a' := ?_) ?_ ?_
                      rotate_left
                      · show Act.put _ (some 26) _ = _
                        simp only [Act.put, List.setIfInBounds_toArray, List.set_cons_zero, List.set_cons_succ, i64_w, i32_w]
                        rfl
                      refine pure_ (i := 12) (N := some 27) (v := ?_) (a' := ?_) #[true, true, true, true, true, true, true, true, true, true, true, true, true, false] rfl rfl (any_of HT_.out (by kernel_rfl)) (fun _ _ _ h => h) (Or.inl ⟨by rfl, ?_⟩) ?_ ?_
                      rotate_left
                      · intro w'
                        go_simp
                        with_reducible rfl
                      rotate_left
                      · simp only [Act.put, List.setIfInBounds_toArray, List.set_cons_zero, List.set_cons_succ, i64_w, i32_w]
                        rfl
                      refine pure_ (i := 13) (N := some 28) (v := ?_) (a' := ?_) #[true, true, true, true, true, true, true, true, true, true, true, true, true, true] rfl rfl (any_of HT_.out (by kernel_rfl)) (fun _ _ _ h => h) (Or.inl ⟨by rfl, ?_⟩) ?_ ?_
                      rotate_left
                      · intro w'
                        go_simp
                        with_reducible rfl
                      rotate_left
                      · simp only [Act.put, List.setIfInBounds_toArray, List.set_cons_zero, List.set_cons_succ, i64_w, i32_w]
                        rfl
                      refine done_ (done_of HT_.out (by kernel_rfl)) ?_
                      try go_wp2
                      go_meet
                      case rel => exact ⟨_, (decide (t114 ≥ 0)), (by first | rfl | (simp; done) | (simp [*]; done)), H', ⟨by have := HK1.out; first | omega | exact Nat.le_refl _⟩, ⟨by (with_reducible repeat (first | refine blk_drewN ?_ _ | refine blk_drew ?_ | refine blk_alloc ?_ _)); exact BK112.out⟩, ⟨by repeat (first | (with_reducible first | exact HB.out | apply below_alloc | apply pw_below_drewN | apply below_drew1 | refine below_set ?_ GE112.out) | exact HB.out)⟩⟩
                    · rw [if_neg c12] at H
                      exact absurd H (by simp)
                  · rw [if_neg c11] at H
                    exact absurd H (by simp)
                · rw [if_neg c9] at H
                  have c9b0 : decide (0 < x10_1) = false := decide_eq_false c9
                  clear c9
                  (first | rw [c9b0] | (simp only [i64_w, i32_w]; rw [c9b0]) | skip)
                  have H' := Aside0.mk H
                  clear H
                  try go_wp2
                  have n0_ : Aside0 (((((((w7.setCell ⟨gb112, 0, none⟩ (.string ((rd_T37 l0 x10_1).f0.f0))).setCell ⟨gb112, 1, none⟩ (.int .i64 ((rd_T37 l0 x10_1).f0.f1))).setCell ⟨gb112, 2, none⟩ (.int .i64 ((rd_T37 l0 x10_1).f0.f2))).setCell ⟨gb112, 3, none⟩ (.int .i64 ((rd_T37 l0 x10_1).f0.f3))).setCell ⟨gb112, 4, none⟩ (.int .i64 ((rd_T37 l0 x10_1).f1))).setCell ⟨gb112, 5, none⟩ (.int .i64 ((rd_T37 l0 x10_1).f2))).heap[gb112]? = some (.cells #[.string ((rd_T37 l0 x10_1).f0.f0), .int .i64 ((rd_T37 l0 x10_1).f0.f1), .int .i64 ((rd_T37 l0 x10_1).f0.f2), .int .i64 ((rd_T37 l0 x10_1).f0.f3), .int .i64 ((rd_T37 l0 x10_1).f1), .int .i64 ((rd_T37 l0 x10_1).f2)] 37 (0, 0))) := ⟨by (with_reducible repeat (first | refine blk_drewN ?_ _ | refine blk_drew ?_ | refine blk_alloc ?_ _)); refine blk_put (cs := #[.string ((rd_T37 l0 x10_1).f0.f0), .int .i64 ((rd_T37 l0 x10_1).f0.f1), .int .i64 ((rd_T37 l0 x10_1).f0.f2), .int .i64 ((rd_T37 l0 x10_1).f0.f3), .int .i64 ((rd_T37 l0 x10_1).f1), .int .i64 0]) ?_ 5 _ rfl; (with_reducible repeat (first | refine blk_drewN ?_ _ | refine blk_drew ?_ | refine blk_alloc ?_ _)); refine blk_put (cs := #[.string ((rd_T37 l0 x10_1).f0.f0), .int .i64 ((rd_T37 l0 x10_1).f0.f1), .int .i64 ((rd_T37 l0 x10_1).f0.f2), .int .i64 ((rd_T37 l0 x10_1).f0.f3), .int .i64 0, .int .i64 0]) ?_ 4 _ rfl; (with_reducible repeat (first | refine blk_drewN ?_ _ | refine blk_drew ?_ | refine blk_alloc ?_ _)); refine blk_put (cs := #[.string ((rd_T37 l0 x10_1).f0.f0), .int .i64 ((rd_T37 l0 x10_1).f0.f1), .int .i64 ((rd_T37 l0 x10_1).f0.f2), .int .i64 0, .int .i64 0, .int .i64 0]) ?_ 3 _ rfl; (with_reducible repeat (first | refine blk_drewN ?_ _ | refine blk_drew ?_ | refine blk_alloc ?_ _)); refine blk_put (cs := #[.string ((rd_T37 l0 x10_1).f0.f0), .int .i64 ((rd_T37 l0 x10_1).f0.f1), .int .i64 0, .int .i64 0, .int .i64 0, .int .i64 0]) ?_ 2 _ rfl; (with_reducible repeat (first | refine blk_drewN ?_ _ | refine blk_drew ?_ | refine blk_alloc ?_ _)); refine blk_put (cs := #[.string ((rd_T37 l0 x10_1).f0.f0), .int .i64 0, .int .i64 0, .int .i64 0, .int .i64 0, .int .i64 0]) ?_ 1 _ rfl; (with_reducible repeat (first | refine blk_drewN ?_ _ | refine blk_drew ?_ | refine blk_alloc ?_ _)); refine blk_put (cs := #[.string (⟨#[]⟩ : ByteArray), .int .i64 0, .int .i64 0, .int .i64 0, .int .i64 0, .int .i64 0]) ?_ 0 _ rfl; (with_reducible repeat (first | refine blk_drewN ?_ _ | refine blk_drew ?_ | refine blk_alloc ?_ _)); exact BK112.out⟩
                  have n1_ : Aside0 (Below w.heap.size w ((((((w7.setCell ⟨gb112, 0, none⟩ (.string ((rd_T37 l0 x10_1).f0.f0))).setCell ⟨gb112, 1, none⟩ (.int .i64 ((rd_T37 l0 x10_1).f0.f1))).setCell ⟨gb112, 2, none⟩ (.int .i64 ((rd_T37 l0 x10_1).f0.f2))).setCell ⟨gb112, 3, none⟩ (.int .i64 ((rd_T37 l0 x10_1).f0.f3))).setCell ⟨gb112, 4, none⟩ (.int .i64 ((rd_T37 l0 x10_1).f1))).setCell ⟨gb112, 5, none⟩ (.int .i64 ((rd_T37 l0 x10_1).f2)))) := ⟨by repeat (first | (with_reducible first | exact HB.out | apply below_alloc | apply pw_below_drewN | apply below_drew1 | refine below_set ?_ GE112.out) | exact HB.out)⟩
                  (try clear BK112)
                  (try clear HB)
                  generalize ((((((w7.setCell ⟨gb112, 0, none⟩ (.string ((rd_T37 l0 x10_1).f0.f0))).setCell ⟨gb112, 1, none⟩ (.int .i64 ((rd_T37 l0 x10_1).f0.f1))).setCell ⟨gb112, 2, none⟩ (.int .i64 ((rd_T37 l0 x10_1).f0.f2))).setCell ⟨gb112, 3, none⟩ (.int .i64 ((rd_T37 l0 x10_1).f0.f3))).setCell ⟨gb112, 4, none⟩ (.int .i64 ((rd_T37 l0 x10_1).f1))).setCell ⟨gb112, 5, none⟩ (.int .i64 ((rd_T37 l0 x10_1).f2))) = w17 at n0_ n1_ ⊢
                  have BK112 := n0_
                  have HB := n1_
                  clear n0_ n1_
                  have n0_ := Aside0.mk (blk_drew BK112.out)
                  have n1_ := Aside0.mk (below_drew1 HB.out)
                  clear BK112
                  clear HB
                  have BK112 := n0_
                  have HB := n1_
                  clear n0_ n1_
                  refine start_ (n := 14) (S := fun w' => True) (ds := []) #[false, false, false, false, false, false, false, false, false, false, false, false, false, false] (by kernel_rfl) rfl rfl trivial (fun hHeld => ?_); refine with_tabW position_Check.tab6 position_Check.bits6 (fun HT_ HW_ => ?_)
                  generalize w17.drew = w18 at BK112 HB hHeld ⊢
                  refine pure_ (i := 0) (N := some 15) (v := ?_) (a' := ?_) #[true, false, false, false, false, false, false, false, false, false, false, false, false, false] rfl rfl (any_of HT_.out (by kernel_rfl)) (fun _ _ _ h => h) (Or.inl ⟨by rfl, ?_⟩) ?_ ?_
                  rotate_left
                  · intro w'
                    go_simp
                    with_reducible rfl
                  rotate_left
                  · simp only [Act.put, List.setIfInBounds_toArray, List.set_cons_zero, List.set_cons_succ, i64_w, i32_w]
                    rfl
                  refine pure_ (i := 1) (N := some 16) (v := ?_) (a' := ?_) #[true, true, false, false, false, false, false, false, false, false, false, false, false, false] rfl rfl (any_of HT_.out (by kernel_rfl)) (fun _ _ _ h => h) (Or.inl ⟨by rfl, ?_⟩) ?_ ?_
                  rotate_left
                  · intro w'
                    go_simp
                    with_reducible rfl
                  rotate_left
                  · simp only [Act.put, List.setIfInBounds_toArray, List.set_cons_zero, List.set_cons_succ, i64_w, i32_w]
                    rfl
                  refine pure_ (i := 2) (N := some 17) (v := ?_) (a' := ?_) #[true, true, true, false, false, false, false, false, false, false, false, false, false, false] rfl rfl (any_of HT_.out (by kernel_rfl)) (fun _ _ _ h => h) (Or.inl ⟨by rfl, ?_⟩) ?_ ?_
                  rotate_left
                  · intro w'
                    go_simp
                    with_reducible rfl
                  rotate_left
                  · simp only [Act.put, List.setIfInBounds_toArray, List.set_cons_zero, List.set_cons_succ, i64_w, i32_w]
                    rfl
                  refine pure_ (i := 3) (N := some 18) (v := undef) (a' := ?_) #[true, true, true, true, false, false, false, false, false, false, false, false, false, false] rfl rfl (any_of HT_.out (by kernel_rfl)) (fun _ _ _ h => h) (Or.inr ⟨by rfl, rfl⟩) ?_ ?_
                  rotate_left
                  · simp only [Act.put, List.setIfInBounds_toArray, List.set_cons_zero, List.set_cons_succ, i64_w, i32_w]
                    rfl
                  refine pure_ (i := 4) (N := some 19) (v := undef) (a' := ?_) #[true, true, true, true, true, false, false, false, false, false, false, false, false, false] rfl rfl (any_of HT_.out (by kernel_rfl)) (fun _ _ _ h => h) (Or.inr ⟨by rfl, rfl⟩) ?_ ?_
                  rotate_left
                  · simp only [Act.put, List.setIfInBounds_toArray, List.set_cons_zero, List.set_cons_succ, i64_w, i32_w]
                    rfl
                  refine pure_ (i := 5) (N := some 20) (v := undef) (a' := ?_) #[true, true, true, true, true, true, false, false, false, false, false, false, false, false] rfl rfl (any_of HT_.out (by kernel_rfl)) (fun _ _ _ h => h) (Or.inr ⟨by rfl, rfl⟩) ?_ ?_
                  rotate_left
                  · simp only [Act.put, List.setIfInBounds_toArray, List.set_cons_zero, List.set_cons_succ, i64_w, i32_w]
                    rfl
                  refine pure_ (i := 6) (N := some 21) (v := undef) (a' := ?_) #[true, true, true, true, true, true, true, false, false, false, false, false, false, false] rfl rfl (any_of HT_.out (by kernel_rfl)) (fun _ _ _ h => h) (Or.inr ⟨by rfl, rfl⟩) ?_ ?_
                  rotate_left
                  · simp only [Act.put, List.setIfInBounds_toArray, List.set_cons_zero, List.set_cons_succ, i64_w, i32_w]
                    rfl
                  refine pure_ (i := 7) (N := some 22) (v := undef) (a' := ?_) #[true, true, true, true, true, true, true, true, false, false, false, false, false, false] rfl rfl (any_of HT_.out (by kernel_rfl)) (fun _ _ _ h => h) (Or.inr ⟨by rfl, rfl⟩) ?_ ?_
                  rotate_left
                  · simp only [Act.put, List.setIfInBounds_toArray, List.set_cons_zero, List.set_cons_succ, i64_w, i32_w]
                    rfl
                  refine pure_ (i := 8) (N := some 23) (v := undef) (a' := ?_) #[true, true, true, true, true, true, true, true, true, false, false, false, false, false] rfl rfl (any_of HT_.out (by kernel_rfl)) (fun _ _ _ h => h) (Or.inr ⟨by rfl, rfl⟩) ?_ ?_
                  rotate_left
                  · simp only [Act.put, List.setIfInBounds_toArray, List.set_cons_zero, List.set_cons_succ, i64_w, i32_w]
                    rfl
                  refine pure_ (i := 9) (N := some 24) (v := undef) (a' := ?_) #[true, true, true, true, true, true, true, true, true, true, false, false, false, false] rfl rfl (any_of HT_.out (by kernel_rfl)) (fun _ _ _ h => h) (Or.inr ⟨by rfl, rfl⟩) ?_ ?_
                  rotate_left
                  · simp only [Act.put, List.setIfInBounds_toArray, List.set_cons_zero, List.set_cons_succ, i64_w, i32_w]
                    rfl
                  refine pure_ (i := 10) (N := some 25) (v := undef) (a' := ?_) #[true, true, true, true, true, true, true, true, true, true, true, false, false, false] rfl rfl (any_of HT_.out (by kernel_rfl)) (fun _ _ _ h => h) (Or.inr ⟨by rfl, rfl⟩) ?_ ?_
                  rotate_left
                  · simp only [Act.put, List.setIfInBounds_toArray, List.set_cons_zero, List.set_cons_succ, i64_w, i32_w]
                    rfl
                  refine pure_ (i := 11) (N := some 26) (v := undef) (a' := ?_) #[true, true, true, true, true, true, true, true, true, true, true, true, false, false] rfl rfl (any_of HT_.out (by kernel_rfl)) (fun _ _ _ h => h) (Or.inr ⟨by rfl, rfl⟩) ?_ ?_
                  rotate_left
                  · simp only [Act.put, List.setIfInBounds_toArray, List.set_cons_zero, List.set_cons_succ, i64_w, i32_w]
                    rfl
                  refine pure_ (i := 12) (N := some 27) (v := undef) (a' := ?_) #[true, true, true, true, true, true, true, true, true, true, true, true, true, false] rfl rfl (any_of HT_.out (by kernel_rfl)) (fun _ _ _ h => h) (Or.inr ⟨by rfl, rfl⟩) ?_ ?_
                  rotate_left
                  · simp only [Act.put, List.setIfInBounds_toArray, List.set_cons_zero, List.set_cons_succ, i64_w, i32_w]
                    rfl
                  refine pure_ (i := 13) (N := some 28) (v := ?_) (a' := ?_) #[true, true, true, true, true, true, true, true, true, true, true, true, true, true] rfl rfl (any_of HT_.out (by kernel_rfl)) (fun _ _ _ h => h) (Or.inl ⟨by rfl, ?_⟩) ?_ ?_
                  rotate_left
                  · intro w'
                    go_simp
                    with_reducible rfl
                  rotate_left
                  · simp only [Act.put, List.setIfInBounds_toArray, List.set_cons_zero, List.set_cons_succ, i64_w, i32_w]
                    rfl
                  refine done_ (done_of HT_.out (by kernel_rfl)) ?_
                  try go_wp2
                  go_meet
                  case rel => exact ⟨_, (false), (by first | rfl | (simp; done) | (simp [*]; done)), H', ⟨by have := HK1.out; first | omega | exact Nat.le_refl _⟩, ⟨by (with_reducible repeat (first | refine blk_drewN ?_ _ | refine blk_drew ?_ | refine blk_alloc ?_ _)); exact BK112.out⟩, ⟨by repeat (first | (with_reducible first | exact HB.out | apply below_alloc | apply pw_below_drewN | apply below_drew1 | refine below_set ?_ GE112.out) | exact HB.out)⟩⟩
              case rest =>
                clear HC6
                try clear c1
                try clear p1
                try clear q1
                try clear hx1
                try clear c2
                try clear c2b0
                try clear c2b1
                try clear p2
                try clear c3
                try clear c3b0
                try clear c4
                try clear c4b0
                try clear c5
                try clear c5b0
                try clear p6
                try clear c9
                try clear c9b0
                try clear c11
                try clear c11b0
                try clear p11
                try clear q11
                try clear hx11
                try clear c12
                try clear c12b0
                try clear hcz8_0
                try clear hcz8_1
                try clear hcz8_2
                try clear hcz8_3
                try clear hcz8_4
                try clear hcz8_5
                try clear hfz8_0
                try clear hfz8_1
                try clear hfz8_2
                try clear hfz8_3
                try clear hfz8_4
                try clear hfz8_5
                try clear hx111_0
                try clear hx111_1
                try clear hx111_2
                try clear hx111_3
                try clear hx111_4
                try clear hx111_5
                try clear hx113_0
                try clear hx113_1
                try clear hx113_2
                try clear hx113_3
                try clear hx113_4
                try clear hx113_5
                try clear p111
                try clear p113
                try clear p2
                try clear q111
                try clear q113
                obtain ⟨kq, x28_5, rfl, HA, HJ5, BK112, HB⟩ := hcut
                cases kq with
                | zero => exact absurd HA.out (by simp [position_Check.j1])
                | succ kj5 =>
                  have H := HA.out
                  clear HA
                  simp only [position_Check.j1] at H
                  by_cases c19 : x28_5 = true
                  · subst c19
                    have H1 : (some 19) = some r := by rw [if_pos rfl] at H; exact H
                    clear H
                    have H := H1
                    clear H1
                    obtain rfl := Option.some.inj H
                    go_wp2
                    go_ret
                    exact ⟨by first | rfl | (simp [errW_none, errW_some] <;> rfl) | (simp [*, errW_none, errW_some] <;> rfl), by repeat (first | (with_reducible first | exact HB.out | apply below_alloc | apply pw_below_drewN | apply below_drew1 | refine below_set ?_ GE112.out) | exact HB.out)⟩
                  · replace c19 := Bool.eq_false_iff.mpr c19
                    subst c19
                    have H1 : ((position_lots.f ((rd_T37 l0 x10_1).f1)).bind fun t115 => (if t115 = true then ((position_lots.f ((rd_T37 l0 x10_1).f2)).bind fun t116 => (if t116 = true then (if ((rd_T37 l0 x10_1).f1) = 0 then (if ((rd_T37 l0 x10_1).f2) = 0 then (some 18) else (position_Check.l0 kj5 l0 l0 (l0.length : Int) (wrap64 (x10_1 + 1)))) else (position_Check.l0 kj5 l0 l0 (l0.length : Int) (wrap64 (x10_1 + 1)))) else (some 18))) else (some 18))) = some r := by rw [if_neg (show ¬ (false = true) by decide)] at H; exact H
                    clear H
                    have H := H1
                    clear H1
                    replace H := Option.bind_eq_some_iff.mp H
                    obtain ⟨t115, A200, H⟩ := H
                    replace H : (if t115 = true then ((position_lots.f ((rd_T37 l0 x10_1).f2)).bind fun t116 => (if t116 = true then (if ((rd_T37 l0 x10_1).f1) = 0 then (if ((rd_T37 l0 x10_1).f2) = 0 then (some 18) else (position_Check.l0 kj5 l0 l0 (l0.length : Int) (wrap64 (x10_1 + 1)))) else (position_Check.l0 kj5 l0 l0 (l0.length : Int) (wrap64 (x10_1 + 1)))) else (some 18))) else (some 18)) = some r := H
                    have A20 := Aside0.mk A200
                    clear A200
                    by_cases c21 : t115 = true
                    · subst c21
                      have H1 : ((position_lots.f ((rd_T37 l0 x10_1).f2)).bind fun t116 => (if t116 = true then (if ((rd_T37 l0 x10_1).f1) = 0 then (if ((rd_T37 l0 x10_1).f2) = 0 then (some 18) else (position_Check.l0 kj5 l0 l0 (l0.length : Int) (wrap64 (x10_1 + 1)))) else (position_Check.l0 kj5 l0 l0 (l0.length : Int) (wrap64 (x10_1 + 1)))) else (some 18))) = some r := by rw [if_pos rfl] at H; exact H
                      clear H
                      have H := H1
                      clear H1
                      replace H := Option.bind_eq_some_iff.mp H
                      obtain ⟨t116, A220, H⟩ := H
                      replace H : (if t116 = true then (if ((rd_T37 l0 x10_1).f1) = 0 then (if ((rd_T37 l0 x10_1).f2) = 0 then (some 18) else (position_Check.l0 kj5 l0 l0 (l0.length : Int) (wrap64 (x10_1 + 1)))) else (position_Check.l0 kj5 l0 l0 (l0.length : Int) (wrap64 (x10_1 + 1)))) else (some 18)) = some r := H
                      have A22 := Aside0.mk A220
                      clear A220
                      by_cases c23 : t116 = true
                      · subst c23
                        have H1 : (if ((rd_T37 l0 x10_1).f1) = 0 then (if ((rd_T37 l0 x10_1).f2) = 0 then (some 18) else (position_Check.l0 kj5 l0 l0 (l0.length : Int) (wrap64 (x10_1 + 1)))) else (position_Check.l0 kj5 l0 l0 (l0.length : Int) (wrap64 (x10_1 + 1)))) = some r := by rw [if_pos rfl] at H; exact H
                        clear H
                        have H := H1
                        clear H1
                        by_cases c24 : ((rd_T37 l0 x10_1).f1) = 0
                        · rw [if_pos c24] at H
                          have c24b0 : (((rd_T37 l0 x10_1).f1) == 0) = true := beq_iff_eq.mpr c24
                          have c24b1 : (((rd_T37 l0 x10_1).f1) != 0) = false := bne_eq_false_iff_eq.mpr c24
                          clear c24
                          by_cases c25 : ((rd_T37 l0 x10_1).f2) = 0
                          · rw [if_pos c25] at H
                            have c25b0 : (((rd_T37 l0 x10_1).f2) == 0) = true := beq_iff_eq.mpr c25
                            have c25b1 : (((rd_T37 l0 x10_1).f2) != 0) = false := bne_eq_false_iff_eq.mpr c25
                            clear c25
                            obtain rfl := Option.some.inj H
                            have hcz26_0 : wc.cell? ⟨gb112, 0, none⟩ = some (.string ((rd_T37 l0 x10_1).f0.f0)) := (blk_cell BK112.out 0).trans rfl
                            have hcz26_1 : wc.cell? ⟨gb112, 1, none⟩ = some (.int .i64 ((rd_T37 l0 x10_1).f0.f1)) := (blk_cell BK112.out 1).trans rfl
                            have hcz26_2 : wc.cell? ⟨gb112, 2, none⟩ = some (.int .i64 ((rd_T37 l0 x10_1).f0.f2)) := (blk_cell BK112.out 2).trans rfl
                            have hcz26_3 : wc.cell? ⟨gb112, 3, none⟩ = some (.int .i64 ((rd_T37 l0 x10_1).f0.f3)) := (blk_cell BK112.out 3).trans rfl
                            have hcz26_4 : wc.cell? ⟨gb112, 4, none⟩ = some (.int .i64 ((rd_T37 l0 x10_1).f1)) := (blk_cell BK112.out 4).trans rfl
                            have hcz26_5 : wc.cell? ⟨gb112, 5, none⟩ = some (.int .i64 ((rd_T37 l0 x10_1).f2)) := (blk_cell BK112.out 5).trans rfl
                            have hfz26_0 := blk_frozen BK112.out 0
                            have hfz26_1 := blk_frozen BK112.out 1
                            have hfz26_2 := blk_frozen BK112.out 2
                            have hfz26_3 := blk_frozen BK112.out 3
                            have hfz26_4 := blk_frozen BK112.out 4
                            have hfz26_5 := blk_frozen BK112.out 5
                            go_wp2_with (first | ((with_reducible refine gate_callee (f := 10) rfl ?_); refine goesL_ (some 31) rfl rfl Try.func10 (by kernel_rfl) rfl #[.int .i64 ((rd_T37 l0 x10_1).f1)] rfl (by (try simp only [List.map_toArray, List.map_cons, List.map_nil]); first | done | rfl | (simp only [List.length_drop, List.length_take]; rfl)) ?_; (with_reducible refine (position_lots.calls ((rd_T37 l0 x10_1).f1) true _ A20.out).mono ?_); rintro e w' ⟨rfl, ⟨nd, rfl⟩⟩; refine ⟨_, rfl, ?_⟩) | (go_at_call 10; (with_reducible refine (position_lots.calls ((rd_T37 l0 x10_1).f2) true _ A22.out).mono ?_); rintro e w' ⟨rfl, ⟨nd, rfl⟩⟩))
                            go_ret
                            exact ⟨by first | rfl | (simp [errW_none, errW_some] <;> rfl) | (simp [*, errW_none, errW_some] <;> rfl), by repeat (first | (with_reducible first | exact HB.out | apply below_alloc | apply pw_below_drewN | apply below_drew1 | refine below_set ?_ GE112.out) | exact HB.out)⟩
                          · rw [if_neg c25] at H
                            have c25b0 : (((rd_T37 l0 x10_1).f2) == 0) = false := beq_eq_false_iff_ne.mpr c25
                            have c25b1 : (((rd_T37 l0 x10_1).f2) != 0) = true := bne_iff_ne.mpr c25
                            have H' := Aside0.mk H
                            clear H
                            have hcz27_0 : wc.cell? ⟨gb112, 0, none⟩ = some (.string ((rd_T37 l0 x10_1).f0.f0)) := (blk_cell BK112.out 0).trans rfl
                            have hcz27_1 : wc.cell? ⟨gb112, 1, none⟩ = some (.int .i64 ((rd_T37 l0 x10_1).f0.f1)) := (blk_cell BK112.out 1).trans rfl
                            have hcz27_2 : wc.cell? ⟨gb112, 2, none⟩ = some (.int .i64 ((rd_T37 l0 x10_1).f0.f2)) := (blk_cell BK112.out 2).trans rfl
                            have hcz27_3 : wc.cell? ⟨gb112, 3, none⟩ = some (.int .i64 ((rd_T37 l0 x10_1).f0.f3)) := (blk_cell BK112.out 3).trans rfl
                            have hcz27_4 : wc.cell? ⟨gb112, 4, none⟩ = some (.int .i64 ((rd_T37 l0 x10_1).f1)) := (blk_cell BK112.out 4).trans rfl
                            have hcz27_5 : wc.cell? ⟨gb112, 5, none⟩ = some (.int .i64 ((rd_T37 l0 x10_1).f2)) := (blk_cell BK112.out 5).trans rfl
                            have hfz27_0 := blk_frozen BK112.out 0
                            have hfz27_1 := blk_frozen BK112.out 1
                            have hfz27_2 := blk_frozen BK112.out 2
                            have hfz27_3 := blk_frozen BK112.out 3
                            have hfz27_4 := blk_frozen BK112.out 4
                            have hfz27_5 := blk_frozen BK112.out 5
                            go_wp2_with (first | ((with_reducible refine gate_callee (f := 10) rfl ?_); refine goesL_ (some 31) rfl rfl Try.func10 (by kernel_rfl) rfl #[.int .i64 ((rd_T37 l0 x10_1).f1)] rfl (by (try simp only [List.map_toArray, List.map_cons, List.map_nil]); first | done | rfl | (simp only [List.length_drop, List.length_take]; rfl)) ?_; (with_reducible refine (position_lots.calls ((rd_T37 l0 x10_1).f1) true _ A20.out).mono ?_); rintro e w' ⟨rfl, ⟨nd, rfl⟩⟩; refine ⟨_, rfl, ?_⟩) | (go_at_call 10; (with_reducible refine (position_lots.calls ((rd_T37 l0 x10_1).f2) true _ A22.out).mono ?_); rintro e w' ⟨rfl, ⟨nd, rfl⟩⟩))
                            go_roundg kj5
                            case measure => have := HK1.out; have := HJ5.out; omega
                            case rel => exact ⟨(wrap64 (x10_1 + 1)), (by first | rfl | (simp; done) | (simp [*]; done)), H', ⟨by have := HK1.out; have := HJ5.out; omega⟩, ⟨by repeat (first | (with_reducible first | exact HB.out | apply below_alloc | apply pw_below_drewN | apply below_drew1 | refine below_set ?_ GE112.out) | exact HB.out)⟩⟩
                        · rw [if_neg c24] at H
                          have c24b0 : (((rd_T37 l0 x10_1).f1) == 0) = false := beq_eq_false_iff_ne.mpr c24
                          have c24b1 : (((rd_T37 l0 x10_1).f1) != 0) = true := bne_iff_ne.mpr c24
                          have H' := Aside0.mk H
                          clear H
                          have hcz28_0 : wc.cell? ⟨gb112, 0, none⟩ = some (.string ((rd_T37 l0 x10_1).f0.f0)) := (blk_cell BK112.out 0).trans rfl
                          have hcz28_1 : wc.cell? ⟨gb112, 1, none⟩ = some (.int .i64 ((rd_T37 l0 x10_1).f0.f1)) := (blk_cell BK112.out 1).trans rfl
                          have hcz28_2 : wc.cell? ⟨gb112, 2, none⟩ = some (.int .i64 ((rd_T37 l0 x10_1).f0.f2)) := (blk_cell BK112.out 2).trans rfl
                          have hcz28_3 : wc.cell? ⟨gb112, 3, none⟩ = some (.int .i64 ((rd_T37 l0 x10_1).f0.f3)) := (blk_cell BK112.out 3).trans rfl
                          have hcz28_4 : wc.cell? ⟨gb112, 4, none⟩ = some (.int .i64 ((rd_T37 l0 x10_1).f1)) := (blk_cell BK112.out 4).trans rfl
                          have hcz28_5 : wc.cell? ⟨gb112, 5, none⟩ = some (.int .i64 ((rd_T37 l0 x10_1).f2)) := (blk_cell BK112.out 5).trans rfl
                          have hfz28_0 := blk_frozen BK112.out 0
                          have hfz28_1 := blk_frozen BK112.out 1
                          have hfz28_2 := blk_frozen BK112.out 2
                          have hfz28_3 := blk_frozen BK112.out 3
                          have hfz28_4 := blk_frozen BK112.out 4
                          have hfz28_5 := blk_frozen BK112.out 5
                          go_wp2_with (first | ((with_reducible refine gate_callee (f := 10) rfl ?_); refine goesL_ (some 31) rfl rfl Try.func10 (by kernel_rfl) rfl #[.int .i64 ((rd_T37 l0 x10_1).f1)] rfl (by (try simp only [List.map_toArray, List.map_cons, List.map_nil]); first | done | rfl | (simp only [List.length_drop, List.length_take]; rfl)) ?_; (with_reducible refine (position_lots.calls ((rd_T37 l0 x10_1).f1) true _ A20.out).mono ?_); rintro e w' ⟨rfl, ⟨nd, rfl⟩⟩; refine ⟨_, rfl, ?_⟩) | (go_at_call 10; (with_reducible refine (position_lots.calls ((rd_T37 l0 x10_1).f2) true _ A22.out).mono ?_); rintro e w' ⟨rfl, ⟨nd, rfl⟩⟩))
                          go_roundg kj5
                          case measure => have := HK1.out; have := HJ5.out; omega
                          case rel => exact ⟨(wrap64 (x10_1 + 1)), (by first | rfl | (simp; done) | (simp [*]; done)), H', ⟨by have := HK1.out; have := HJ5.out; omega⟩, ⟨by repeat (first | (with_reducible first | exact HB.out | apply below_alloc | apply pw_below_drewN | apply below_drew1 | refine below_set ?_ GE112.out) | exact HB.out)⟩⟩
                      · replace c23 := Bool.eq_false_iff.mpr c23
                        subst c23
                        have H1 : (some 18) = some r := by rw [if_neg (show ¬ (false = true) by decide)] at H; exact H
                        clear H
                        have H := H1
                        clear H1
                        obtain rfl := Option.some.inj H
                        have hcz29_0 : wc.cell? ⟨gb112, 0, none⟩ = some (.string ((rd_T37 l0 x10_1).f0.f0)) := (blk_cell BK112.out 0).trans rfl
                        have hcz29_1 : wc.cell? ⟨gb112, 1, none⟩ = some (.int .i64 ((rd_T37 l0 x10_1).f0.f1)) := (blk_cell BK112.out 1).trans rfl
                        have hcz29_2 : wc.cell? ⟨gb112, 2, none⟩ = some (.int .i64 ((rd_T37 l0 x10_1).f0.f2)) := (blk_cell BK112.out 2).trans rfl
                        have hcz29_3 : wc.cell? ⟨gb112, 3, none⟩ = some (.int .i64 ((rd_T37 l0 x10_1).f0.f3)) := (blk_cell BK112.out 3).trans rfl
                        have hcz29_4 : wc.cell? ⟨gb112, 4, none⟩ = some (.int .i64 ((rd_T37 l0 x10_1).f1)) := (blk_cell BK112.out 4).trans rfl
                        have hcz29_5 : wc.cell? ⟨gb112, 5, none⟩ = some (.int .i64 ((rd_T37 l0 x10_1).f2)) := (blk_cell BK112.out 5).trans rfl
                        have hfz29_0 := blk_frozen BK112.out 0
                        have hfz29_1 := blk_frozen BK112.out 1
                        have hfz29_2 := blk_frozen BK112.out 2
                        have hfz29_3 := blk_frozen BK112.out 3
                        have hfz29_4 := blk_frozen BK112.out 4
                        have hfz29_5 := blk_frozen BK112.out 5
                        go_wp2_with (first | ((with_reducible refine gate_callee (f := 10) rfl ?_); refine goesL_ (some 31) rfl rfl Try.func10 (by kernel_rfl) rfl #[.int .i64 ((rd_T37 l0 x10_1).f1)] rfl (by (try simp only [List.map_toArray, List.map_cons, List.map_nil]); first | done | rfl | (simp only [List.length_drop, List.length_take]; rfl)) ?_; (with_reducible refine (position_lots.calls ((rd_T37 l0 x10_1).f1) true _ A20.out).mono ?_); rintro e w' ⟨rfl, ⟨nd, rfl⟩⟩; refine ⟨_, rfl, ?_⟩) | (go_at_call 10; (with_reducible refine (position_lots.calls ((rd_T37 l0 x10_1).f2) false _ A22.out).mono ?_); rintro e w' ⟨rfl, ⟨nd, rfl⟩⟩))
                        go_ret
                        exact ⟨by first | rfl | (simp [errW_none, errW_some] <;> rfl) | (simp [*, errW_none, errW_some] <;> rfl), by repeat (first | (with_reducible first | exact HB.out | apply below_alloc | apply pw_below_drewN | apply below_drew1 | refine below_set ?_ GE112.out) | exact HB.out)⟩
                    · replace c21 := Bool.eq_false_iff.mpr c21
                      subst c21
                      have H1 : (some 18) = some r := by rw [if_neg (show ¬ (false = true) by decide)] at H; exact H
                      clear H
                      have H := H1
                      clear H1
                      obtain rfl := Option.some.inj H
                      have hcz30_0 : wc.cell? ⟨gb112, 0, none⟩ = some (.string ((rd_T37 l0 x10_1).f0.f0)) := (blk_cell BK112.out 0).trans rfl
                      have hcz30_1 : wc.cell? ⟨gb112, 1, none⟩ = some (.int .i64 ((rd_T37 l0 x10_1).f0.f1)) := (blk_cell BK112.out 1).trans rfl
                      have hcz30_2 : wc.cell? ⟨gb112, 2, none⟩ = some (.int .i64 ((rd_T37 l0 x10_1).f0.f2)) := (blk_cell BK112.out 2).trans rfl
                      have hcz30_3 : wc.cell? ⟨gb112, 3, none⟩ = some (.int .i64 ((rd_T37 l0 x10_1).f0.f3)) := (blk_cell BK112.out 3).trans rfl
                      have hcz30_4 : wc.cell? ⟨gb112, 4, none⟩ = some (.int .i64 ((rd_T37 l0 x10_1).f1)) := (blk_cell BK112.out 4).trans rfl
                      have hcz30_5 : wc.cell? ⟨gb112, 5, none⟩ = some (.int .i64 ((rd_T37 l0 x10_1).f2)) := (blk_cell BK112.out 5).trans rfl
                      have hfz30_0 := blk_frozen BK112.out 0
                      have hfz30_1 := blk_frozen BK112.out 1
                      have hfz30_2 := blk_frozen BK112.out 2
                      have hfz30_3 := blk_frozen BK112.out 3
                      have hfz30_4 := blk_frozen BK112.out 4
                      have hfz30_5 := blk_frozen BK112.out 5
                      go_wp2_with (first | ((with_reducible refine gate_callee (f := 10) rfl ?_); refine goesL_ (some 31) rfl rfl Try.func10 (by kernel_rfl) rfl #[.int .i64 ((rd_T37 l0 x10_1).f1)] rfl (by (try simp only [List.map_toArray, List.map_cons, List.map_nil]); first | done | rfl | (simp only [List.length_drop, List.length_take]; rfl)) ?_; (with_reducible refine (position_lots.calls ((rd_T37 l0 x10_1).f1) false _ A20.out).mono ?_); rintro e w' ⟨rfl, ⟨nd, rfl⟩⟩; refine ⟨_, rfl, ?_⟩))
                      go_ret
                      exact ⟨by first | rfl | (simp [errW_none, errW_some] <;> rfl) | (simp [*, errW_none, errW_some] <;> rfl), by repeat (first | (with_reducible first | exact HB.out | apply below_alloc | apply pw_below_drewN | apply below_drew1 | refine below_set ?_ GE112.out) | exact HB.out)⟩
            · rw [if_neg c5] at H
              exact absurd H (by simp)
          · rw [if_neg c4] at H
            exact absurd H (by simp)
        · rw [if_neg c3] at H
          have c3b0 : decide (x10_1 < (l0.length : Int)) = false := decide_eq_false c3
          clear c3
          obtain rfl := Option.some.inj H
          go_wp2
          go_ret
          exact ⟨by first | rfl | (simp [errW_none, errW_some] <;> rfl) | (simp [*, errW_none, errW_some] <;> rfl), by repeat (first | (with_reducible first | exact HB.out | apply below_alloc | apply pw_below_drewN | apply below_drew1) | exact HB.out)⟩

end Go.Proofs.Ythlnecmpakfdmaa.PTopTogether
