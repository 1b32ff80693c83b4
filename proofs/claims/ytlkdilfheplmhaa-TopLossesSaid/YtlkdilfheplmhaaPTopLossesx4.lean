/- Laid for this claim by a program of this session's (wip/mkprint.py, wip/ext.py); not trusted: Lean checks it. -/
import Derived.Test.YtlkdilfheplmhaaPTopLossesx0
import Derived.Test.YtlkdilfheplmhaaPTopLossesx3
namespace Go.Proofs.Ytlkdilfheplmhaa.PTopLosses
open Go.RowKit Go.Proofs.YtlkdilfheplmhaaW.PrintWords Go.Proofs.YtlkdilfheplmhaaW.PrintLast Go.Proofs.YtlkdilfheplmhaaW.PrintMore
attribute [local go_sem] max2_int min2_int max_two min_two max_three min_three max_four min_four   -- for this text's walks alone
set_option linter.unusedVariables false
set_option linter.unusedSimpArgs false

/-! ### waterfall_Check: function 13 -/
mutual
def waterfall_Check.l0 : Nat → List (S33) → List Int → List (S33) → Int → Int → Option (Int)
 | 0, _, _, _, _, _=>none
 | k + 1, x0, x3, x11, x12, x13=>if x13 < x12 then (if 0 ≤ x13 then (if x13 < (x11.length : Int) then (if ((rd_T33 x11 x13).f0) < 1 then (waterfall_Check.j1 k x0 x3 x13 x11 x12 x13 true ((rd_T33 x11 x13).f0) ((rd_T33 x11 x13).f1) ((rd_T33 x11 x13).f2) ((rd_T33 x11 x13).f3)) else (if ((rd_T33 x11 x13).f0) > 8 then (waterfall_Check.j1 k x0 x3 x13 x11 x12 x13 true ((rd_T33 x11 x13).f0) ((rd_T33 x11 x13).f1) ((rd_T33 x11 x13).f2) ((rd_T33 x11 x13).f3)) else (if ((rd_T33 x11 x13).f1) < 0 then (waterfall_Check.j1 k x0 x3 x13 x11 x12 x13 true ((rd_T33 x11 x13).f0) ((rd_T33 x11 x13).f1) ((rd_T33 x11 x13).f2) ((rd_T33 x11 x13).f3)) else (if ((rd_T33 x11 x13).f1) > 9 then (waterfall_Check.j1 k x0 x3 x13 x11 x12 x13 true ((rd_T33 x11 x13).f0) ((rd_T33 x11 x13).f1) ((rd_T33 x11 x13).f2) ((rd_T33 x11 x13).f3)) else ((waterfall_money.f ((rd_T33 x11 x13).f3)).bind fun t127=>(waterfall_Check.j1 k x0 x3 x13 x11 x12 x13 (!t127) ((rd_T33 x11 x13).f0) ((rd_T33 x11 x13).f1) ((rd_T33 x11 x13).f2) ((rd_T33 x11 x13).f3))))))) else (none)) else (none)) else ((cents_Sum.f k x3).bind fun bt123=>(some bt123.2))
def waterfall_Check.j1 : Nat → List (S33) → List Int → Int → List (S33) → Int → Int → Bool → Int → Int → ByteArray → Int → Option (Int)
 | 0, _, _, _, _, _, _, _, _, _, _, _=>none
 | k + 1, x0, x3, x4, x11, x12, x13, x18, x127000, x127001, x127002, x127003=>if x18 = true then (some 2) else ((words_Name.f k x127002).bind fun t128=>(if t128 = true then (if x4 > 0 then (if 0 ≤ (wrap64 (x4 - 1)) then (if (wrap64 (x4 - 1)) < (x0.length : Int) then ((waterfall_ahead.f ((rd_T33 x0 (wrap64 (x4 - 1))).f0) ((rd_T33 x0 (wrap64 (x4 - 1))).f1) ((rd_T33 x0 (wrap64 (x4 - 1))).f2) ((rd_T33 x0 (wrap64 (x4 - 1))).f3) x127000 x127001 x127002 x127003).bind fun t130=>(if t130 = true then (if x3.length < 17592186044416 then (waterfall_Check.l0 k x0 (x3 ++ [x127003]) x11 x12 (wrap64 (x13 + 1))) else (none)) else (some 12))) else (none)) else (none)) else (if x3.length < 17592186044416 then (waterfall_Check.l0 k x0 (x3 ++ [x127003]) x11 x12 (wrap64 (x13 + 1))) else (none))) else (some 10)))
end
def waterfall_Check.f (k : Nat) (l0 : List (S33)) : Option (Int):=if (l0.length : Int) > 1024 then (some 8) else (waterfall_Check.l0 k l0 ([] : List Int) l0 (l0.length : Int) 0)
theorem waterfall_Check.mono_l : ∀ k, (∀ y0 y1 y2 y3 y4, LeO (waterfall_Check.l0 k y0 y1 y2 y3 y4) (waterfall_Check.l0 (k + 1) y0 y1 y2 y3 y4)) ∧ (∀ y0 y1 y2 y3 y4 y5 y6 y7 y8 y9 y10, LeO (waterfall_Check.j1 k y0 y1 y2 y3 y4 y5 y6 y7 y8 y9 y10) (waterfall_Check.j1 (k + 1) y0 y1 y2 y3 y4 y5 y6 y7 y8 y9 y10))
 | 0=>⟨fun _ _ _ _ _ r h=>by simp [waterfall_Check.l0] at h, fun _ _ _ _ _ _ _ _ _ _ _ r h=>by simp [waterfall_Check.j1] at h⟩
 | k + 1=>by
  obtain ⟨ih0, ih1⟩:=waterfall_Check.mono_l k
  refine ⟨?_, ?_⟩
  ·intro y0 y1 y2 y3 y4
   unfold waterfall_Check.l0
   repeat' first
   | (with_reducible exact ih0 _ _ _ _ _)
   | (with_reducible exact ih1 _ _ _ _ _ _ _ _ _ _ _)
   | (with_reducible exact cents_Sum.mono _ _)
   | (with_reducible exact words_Name.mono _ _)
   | (with_reducible exact LeO.refl _)
   | (with_reducible exact LeO.none _)
   | (with_reducible refine LeO.ite ?_ ?_)
   | (with_reducible refine LeO.bind ?_ (fun _=>?_))
   | exact ih0 _ _ _ _ _
   | exact ih1 _ _ _ _ _ _ _ _ _ _ _
   | exact cents_Sum.mono _ _
   | exact words_Name.mono _ _
   | exact LeO.none _
   | refine LeO.ite ?_ ?_
   | refine LeO.bind ?_ (fun _=>?_)
  ·intro y0 y1 y2 y3 y4 y5 y6 y7 y8 y9 y10
   unfold waterfall_Check.j1
   repeat' first
   | (with_reducible exact ih0 _ _ _ _ _)
   | (with_reducible exact ih1 _ _ _ _ _ _ _ _ _ _ _)
   | (with_reducible exact cents_Sum.mono _ _)
   | (with_reducible exact words_Name.mono _ _)
   | (with_reducible exact LeO.refl _)
   | (with_reducible exact LeO.none _)
   | (with_reducible refine LeO.ite ?_ ?_)
   | (with_reducible refine LeO.bind ?_ (fun _=>?_))
   | exact ih0 _ _ _ _ _
   | exact ih1 _ _ _ _ _ _ _ _ _ _ _
   | exact cents_Sum.mono _ _
   | exact words_Name.mono _ _
   | exact LeO.none _
   | refine LeO.ite ?_ ?_
   | refine LeO.bind ?_ (fun _=>?_)
theorem waterfall_Check.mono : ∀ a0 k, LeO (waterfall_Check.f k a0) (waterfall_Check.f (k + 1) a0):=by
 intro a0 k
 obtain ⟨ih0, ih1⟩:=waterfall_Check.mono_l k
 unfold waterfall_Check.f
 repeat' first
   | (with_reducible exact ih0 _ _ _ _ _)
   | (with_reducible exact ih1 _ _ _ _ _ _ _ _ _ _ _)
   | (with_reducible exact cents_Sum.mono _ _)
   | (with_reducible exact words_Name.mono _ _)
   | (with_reducible exact LeO.refl _)
   | (with_reducible exact LeO.none _)
   | (with_reducible refine LeO.ite ?_ ?_)
   | (with_reducible refine LeO.bind ?_ (fun _=>?_))
   | exact ih0 _ _ _ _ _
   | exact ih1 _ _ _ _ _ _ _ _ _ _ _
   | exact cents_Sum.mono _ _
   | exact words_Name.mono _ _
   | exact LeO.none _
   | refine LeO.ite ?_ ?_
   | refine LeO.bind ?_ (fun _=>?_)
def waterfall_Check.T11 : Bool × List (List Nat × List Nat):=(true, [([], []), ([0], [0]), ([1], [1]), ([2], [2]), ([2], [2]), ([4, 2], [2, 4]), ([3, 5, 2], [2, 3, 5]), ([6, 2], [2, 6]), ([2], [2]), ([7, 8, 2, 2], [2, 7, 8]), ([9, 2], [2, 9]), ([2, 10], [2, 10]), ([11, 9], [11])])
def waterfall_Check.B11 : List Nat:=[0, 1, 3, 7, 7, 23, 63, 127, 7, 511, 1023, 2047, 4095]
theorem waterfall_Check.tab11 : rtab .any (opsOf Try.f13 11) = waterfall_Check.T11:=by kernel_rfl
theorem waterfall_Check.bits11 : waitsOk waterfall_Check.T11.2 waterfall_Check.B11 = true:=by kernel_rfl
set_option maxHeartbeats 8000000 in
set_option maxRecDepth 100000 in
theorem waterfall_Check.calls (k : Nat) (A0 : Option Addr) (c0 : Nat) (l0 : List (S33)) (r : Int) (w : World) (hr0 : Kd.C k33 w A0 l0.length l0) (hc0 : l0.length ≤ c0) (h : waterfall_Check.f k l0 = some r) :
  Calls Try.prog 13 #[.slice A0 l0.length c0] w fun e w'=>e = .returned (.int .i64 r) ∧ Below w.heap.size w w':=by
 have hu33:=Try.underlying33
 have HR0:=Aside0.mk hr0
 have HC0:=Aside0.mk hc0
 clear hr0 hc0
 have HB:=Aside0.mk (Below.refl w.heap.size w)
 have H : (if (l0.length : Int) > 1024 then (some 8) else (waterfall_Check.l0 k l0 ([] : List Int) l0 (l0.length : Int) 0)) = some r:=h
 clear h
 by_cases c2 : (l0.length : Int) > 1024
 ·rw [if_pos c2] at H
  have c2b0 : decide (1024 < (l0.length : Int)) = true:=decide_eq_true c2
  have c2b1 : decide (1024 < l0.length) = true:=decide_eq_true (by omega)
  clear c2
  obtain rfl:=Option.some.inj H
  go_enter Try.func13, Try.ntmps13
  go_wp2
  go_ret
  exact ⟨by first | rfl | (simp [errW_none, errW_some] <;> rfl) | (simp [*, errW_none, errW_some] <;> rfl), by repeat (first | (with_reducible first | exact HB.out | apply below_alloc | apply pw_below_drewN | apply below_drew1) | exact HB.out)⟩
 ·rw [if_neg c2] at H
  have c2b0 : decide (1024 < (l0.length : Int)) = false:=decide_eq_false c2
  have c2b1 : decide (1024 < l0.length) = false:=decide_eq_false (by omega)
  clear c2
  have H':=Aside0.mk H
  clear H
  go_enter Try.func13, Try.ntmps13
  go_wp2
  go_loopg [3, 13] k (fun kq v3 v13 w'=>∃ (x3_1 : List Int) (x13_1 : Int), v13 = .int .i64 x13_1 ∧ Aside0 (waterfall_Check.l0 kq l0 x3_1 l0 (l0.length : Int) x13_1 = some r) ∧ Aside0 (kq ≤ k) ∧ Aside0 (Kd.R (Kd.int .i64) 3 w' w.heap.size (fun _=>True) v3 x3_1) ∧ Aside0 (Below w.heap.size w w'))
  case atStart=>exact ⟨(([] : List Int)), (0), (by first | rfl | (simp;done) | (simp [*];done)), H', ⟨Nat.le_refl _⟩, ⟨by first | exact Kd.R_nil _ _ _ _ _ | exact Kd.N_nil _ _ _ _ _ | exact Kd.V_nil _ _ _ _ _ | exact Kd.Q_nil _ _ _ _ _ | exact Kd.S_nil _ _ _ _ _⟩, ⟨by repeat (first | (with_reducible first | exact HB.out | apply below_alloc | apply pw_below_drewN | apply below_drew1) | exact HB.out)⟩⟩
  case round =>
   clear H'
   try clear c1
   try clear c2
   try clear c2b0
   try clear c2b1
   try clear p2
   obtain ⟨x3_1, x13_1, rfl, HA, HK1, HO_3, HB⟩:=hrel
   cases gk with
   | zero=>exact absurd HA.out (by simp [waterfall_Check.l0])
   | succ k1 =>
    have H:=HA.out
    clear HA
    simp only [waterfall_Check.l0] at H
    by_cases c3 : x13_1 < (l0.length : Int)
    ·rw [if_pos c3] at H
     have c3b0 : decide (x13_1 < (l0.length : Int)) = true:=decide_eq_true c3
     clear c3
     by_cases c4 : 0 ≤ x13_1
     ·rw [if_pos c4] at H
      have c4b0 : decide (0 ≤ x13_1) = true:=decide_eq_true c4
      clear c4
      by_cases c5 : x13_1 < (l0.length : Int)
      ·rw [if_pos c5] at H
       have c5b0 : decide (x13_1 < (l0.length : Int)) = true:=decide_eq_true c5
       clear c5
       have HC6:=Aside0.mk H
       clear H
       have p125 : 0 ≤ (x13_1 : Int):=of_decide_eq_true (by first | (with_reducible assumption) | assumption)
       have q125 : x13_1 < (l0.length : Int):=of_decide_eq_true (by first | (with_reducible assumption) | assumption)
       obtain ⟨ad125, e125, hx125_0, hx125_1, hx125_2, hx125_3⟩:=at_T33 HR0.out x13_1 p125 q125
       cases e125
       replace hx125_0:=(HB.out.cell (World.block_lt_of_cell? w _ hx125_0)).trans hx125_0
       replace hx125_1:=(HB.out.cell (World.block_lt_of_cell? w _ hx125_1)).trans hx125_1
       replace hx125_2:=(HB.out.cell (World.block_lt_of_cell? w _ hx125_2)).trans hx125_2
       replace hx125_3:=(HB.out.cell (World.block_lt_of_cell? w _ hx125_3)).trans hx125_3
       replace p125:=eq_true p125
       replace q125:=eq_true q125
       go_upto_region 7 with (first | ((with_reducible refine gate_dst (N:=5) rfl ?_);refine box_event ?hg (N:=5) ?hd (cs:=#[.int .i64 0, .int .i64 0, .string (⟨#[]⟩ : ByteArray), .int .i64 0]) (t:=33) ?hr ?_;(case hd=>rfl);(case hg=>rfl);(case hr=>first | (go_simp;done) | (go_simp;rfl));intro gb126 hg w7 hbox hb;have n0_:=Aside0.mk (Kd.R_below (by (with_reducible repeat (first | apply Kd.R_alloc | apply Kd.R_drewN | apply Kd.R_drew));exact HO_3.out) hb);have n1_:=Aside0.mk (below_step (by repeat (first | (with_reducible first | exact HB.out | apply below_alloc | apply pw_below_drewN | apply below_drew1) | exact HB.out)) hb);have n2_:=Aside0.mk (hbox);have n3_:=Aside0.mk ((by rw [hg];exact (below_size (by repeat (first | (with_reducible first | exact HB.out | apply below_alloc | apply pw_below_drewN | apply below_drew1) | exact HB.out))) : w.heap.size ≤ gb126));have n4_:=Aside0.mk ((by rw [hg];exact (below_size (by repeat (first | (with_reducible first | exact HB.out | apply below_alloc | apply pw_below_drewN | apply below_drew1) | exact HB.out))) : w.heap.size ≤ gb126));clear HO_3 HB;have HO_3:=n0_;have HB:=n1_;have BK126:=n2_;have GW126:=n3_;have GE126:=n4_;clear n0_ n1_ n2_ n3_ n4_ hb hbox hg;have hcz8_0 : w7.cell? ⟨gb126, 0, none⟩ = some (.int .i64 0):=(blk_cell BK126.out 0).trans rfl;have hcz8_1 : w7.cell? ⟨gb126, 1, none⟩ = some (.int .i64 0):=(blk_cell BK126.out 1).trans rfl;have hcz8_2 : w7.cell? ⟨gb126, 2, none⟩ = some (.string (⟨#[]⟩ : ByteArray)):=(blk_cell BK126.out 2).trans rfl;have hcz8_3 : w7.cell? ⟨gb126, 3, none⟩ = some (.int .i64 0):=(blk_cell BK126.out 3).trans rfl;have hfz8_0:=blk_frozen BK126.out 0;have hfz8_1:=blk_frozen BK126.out 1;have hfz8_2:=blk_frozen BK126.out 2;have hfz8_3:=blk_frozen BK126.out 3))
       (try simp only [Act.put, List.setIfInBounds_toArray, List.set_cons_zero, List.set_cons_succ])
       go_cut [18] (fun v18 wc=>∃ (kq : Nat) (x18_5 : Bool), v18 = .bool x18_5 ∧ Aside0 (waterfall_Check.j1 kq l0 x3_1 x13_1 l0 (l0.length : Int) x13_1 x18_5 ((rd_T33 l0 x13_1).f0) ((rd_T33 l0 x13_1).f1) ((rd_T33 l0 x13_1).f2) ((rd_T33 l0 x13_1).f3) = some r) ∧ Aside0 (kq ≤ k1) ∧ Aside0 (Kd.R (Kd.int .i64) 3 wc w.heap.size (fun _=>True) u3 x3_1) ∧ Aside0 (wc.heap[gb126]? = some (.cells #[.int .i64 ((rd_T33 l0 x13_1).f0), .int .i64 ((rd_T33 l0 x13_1).f1), .string ((rd_T33 l0 x13_1).f2), .int .i64 ((rd_T33 l0 x13_1).f3)] 33 (0, 0))) ∧ Aside0 (Below w.heap.size w wc))
       case first =>
        have H:=HC6.out
        clear HC6
        by_cases c9 : ((rd_T33 l0 x13_1).f0) < 1
        ·rw [if_pos c9] at H
         have c9b0 : decide (((rd_T33 l0 x13_1).f0) < 1) = true:=decide_eq_true c9
         clear c9
         (first | rw [c9b0] | (simp only [i64_w, i32_w];rw [c9b0]) | skip)
         have H':=Aside0.mk H
         clear H
         have hcz10_0 : w7.cell? ⟨gb126, 0, none⟩ = some (.int .i64 0):=(blk_cell BK126.out 0).trans rfl
         have hcz10_1 : w7.cell? ⟨gb126, 1, none⟩ = some (.int .i64 0):=(blk_cell BK126.out 1).trans rfl
         have hcz10_2 : w7.cell? ⟨gb126, 2, none⟩ = some (.string (⟨#[]⟩ : ByteArray)):=(blk_cell BK126.out 2).trans rfl
         have hcz10_3 : w7.cell? ⟨gb126, 3, none⟩ = some (.int .i64 0):=(blk_cell BK126.out 3).trans rfl
         have hfz10_0:=blk_frozen BK126.out 0
         have hfz10_1:=blk_frozen BK126.out 1
         have hfz10_2:=blk_frozen BK126.out 2
         have hfz10_3:=blk_frozen BK126.out 3
         go_wp2
         go_meet
         case rel=>exact ⟨_, (true), (by first | rfl | (simp;done) | (simp [*];done)), H', ⟨by have:=HK1.out;first | omega | exact Nat.le_refl _⟩, ⟨by (with_reducible repeat (first | apply Kd.R_alloc | apply Kd.R_drewN | apply Kd.R_drew));exact Kd.R_mono (Kd.R_far (p:=⟨gb126, 3, none⟩) (Kd.R_far (p:=⟨gb126, 2, none⟩) (Kd.R_far (p:=⟨gb126, 1, none⟩) (Kd.R_far (p:=⟨gb126, 0, none⟩) (Kd.R_types HO_3.out BK126.out (by decide)) (fun _ hk=>hk.2) (.int .i64 ((rd_T33 l0 x13_1).f0))) (fun _ hk=>hk.2) (.int .i64 ((rd_T33 l0 x13_1).f1))) (fun _ hk=>hk.2) (.string ((rd_T33 l0 x13_1).f2))) (fun _ hk=>hk.2) (.int .i64 ((rd_T33 l0 x13_1).f3))) (fun _ hk=>trivial)⟩, ⟨by (with_reducible repeat (first | refine blk_drewN ?_ _ | refine blk_drew ?_ | refine blk_alloc ?_ _));refine blk_put (cs:=#[.int .i64 ((rd_T33 l0 x13_1).f0), .int .i64 ((rd_T33 l0 x13_1).f1), .string ((rd_T33 l0 x13_1).f2), .int .i64 0]) ?_ 3 _ rfl;(with_reducible repeat (first | refine blk_drewN ?_ _ | refine blk_drew ?_ | refine blk_alloc ?_ _));refine blk_put (cs:=#[.int .i64 ((rd_T33 l0 x13_1).f0), .int .i64 ((rd_T33 l0 x13_1).f1), .string (⟨#[]⟩ : ByteArray), .int .i64 0]) ?_ 2 _ rfl;(with_reducible repeat (first | refine blk_drewN ?_ _ | refine blk_drew ?_ | refine blk_alloc ?_ _));refine blk_put (cs:=#[.int .i64 ((rd_T33 l0 x13_1).f0), .int .i64 0, .string (⟨#[]⟩ : ByteArray), .int .i64 0]) ?_ 1 _ rfl;(with_reducible repeat (first | refine blk_drewN ?_ _ | refine blk_drew ?_ | refine blk_alloc ?_ _));refine blk_put (cs:=#[.int .i64 0, .int .i64 0, .string (⟨#[]⟩ : ByteArray), .int .i64 0]) ?_ 0 _ rfl;(with_reducible repeat (first | refine blk_drewN ?_ _ | refine blk_drew ?_ | refine blk_alloc ?_ _));exact BK126.out⟩, ⟨by repeat (first | (with_reducible first | exact HB.out | apply below_alloc | apply pw_below_drewN | apply below_drew1 | refine below_set ?_ GE126.out) | exact HB.out)⟩⟩
        ·rw [if_neg c9] at H
         have c9b0 : decide (((rd_T33 l0 x13_1).f0) < 1) = false:=decide_eq_false c9
         clear c9
         (first | rw [c9b0] | (simp only [i64_w, i32_w];rw [c9b0]) | skip)
         by_cases c11 : ((rd_T33 l0 x13_1).f0) > 8
         ·rw [if_pos c11] at H
          have c11b0 : decide (8 < ((rd_T33 l0 x13_1).f0)) = true:=decide_eq_true c11
          clear c11
          have H':=Aside0.mk H
          clear H
          have hcz12_0 : w7.cell? ⟨gb126, 0, none⟩ = some (.int .i64 0):=(blk_cell BK126.out 0).trans rfl
          have hcz12_1 : w7.cell? ⟨gb126, 1, none⟩ = some (.int .i64 0):=(blk_cell BK126.out 1).trans rfl
          have hcz12_2 : w7.cell? ⟨gb126, 2, none⟩ = some (.string (⟨#[]⟩ : ByteArray)):=(blk_cell BK126.out 2).trans rfl
          have hcz12_3 : w7.cell? ⟨gb126, 3, none⟩ = some (.int .i64 0):=(blk_cell BK126.out 3).trans rfl
          have hfz12_0:=blk_frozen BK126.out 0
          have hfz12_1:=blk_frozen BK126.out 1
          have hfz12_2:=blk_frozen BK126.out 2
          have hfz12_3:=blk_frozen BK126.out 3
          go_wp2
          go_meet
          case rel=>exact ⟨_, (true), (by first | rfl | (simp;done) | (simp [*];done)), H', ⟨by have:=HK1.out;first | omega | exact Nat.le_refl _⟩, ⟨by (with_reducible repeat (first | apply Kd.R_alloc | apply Kd.R_drewN | apply Kd.R_drew));exact Kd.R_mono (Kd.R_far (p:=⟨gb126, 3, none⟩) (Kd.R_far (p:=⟨gb126, 2, none⟩) (Kd.R_far (p:=⟨gb126, 1, none⟩) (Kd.R_far (p:=⟨gb126, 0, none⟩) (Kd.R_types HO_3.out BK126.out (by decide)) (fun _ hk=>hk.2) (.int .i64 ((rd_T33 l0 x13_1).f0))) (fun _ hk=>hk.2) (.int .i64 ((rd_T33 l0 x13_1).f1))) (fun _ hk=>hk.2) (.string ((rd_T33 l0 x13_1).f2))) (fun _ hk=>hk.2) (.int .i64 ((rd_T33 l0 x13_1).f3))) (fun _ hk=>trivial)⟩, ⟨by (with_reducible repeat (first | refine blk_drewN ?_ _ | refine blk_drew ?_ | refine blk_alloc ?_ _));refine blk_put (cs:=#[.int .i64 ((rd_T33 l0 x13_1).f0), .int .i64 ((rd_T33 l0 x13_1).f1), .string ((rd_T33 l0 x13_1).f2), .int .i64 0]) ?_ 3 _ rfl;(with_reducible repeat (first | refine blk_drewN ?_ _ | refine blk_drew ?_ | refine blk_alloc ?_ _));refine blk_put (cs:=#[.int .i64 ((rd_T33 l0 x13_1).f0), .int .i64 ((rd_T33 l0 x13_1).f1), .string (⟨#[]⟩ : ByteArray), .int .i64 0]) ?_ 2 _ rfl;(with_reducible repeat (first | refine blk_drewN ?_ _ | refine blk_drew ?_ | refine blk_alloc ?_ _));refine blk_put (cs:=#[.int .i64 ((rd_T33 l0 x13_1).f0), .int .i64 0, .string (⟨#[]⟩ : ByteArray), .int .i64 0]) ?_ 1 _ rfl;(with_reducible repeat (first | refine blk_drewN ?_ _ | refine blk_drew ?_ | refine blk_alloc ?_ _));refine blk_put (cs:=#[.int .i64 0, .int .i64 0, .string (⟨#[]⟩ : ByteArray), .int .i64 0]) ?_ 0 _ rfl;(with_reducible repeat (first | refine blk_drewN ?_ _ | refine blk_drew ?_ | refine blk_alloc ?_ _));exact BK126.out⟩, ⟨by repeat (first | (with_reducible first | exact HB.out | apply below_alloc | apply pw_below_drewN | apply below_drew1 | refine below_set ?_ GE126.out) | exact HB.out)⟩⟩
         ·rw [if_neg c11] at H
          have c11b0 : decide (8 < ((rd_T33 l0 x13_1).f0)) = false:=decide_eq_false c11
          clear c11
          by_cases c13 : ((rd_T33 l0 x13_1).f1) < 0
          ·rw [if_pos c13] at H
           have c13b0 : decide (((rd_T33 l0 x13_1).f1) < 0) = true:=decide_eq_true c13
           clear c13
           have H':=Aside0.mk H
           clear H
           have hcz14_0 : w7.cell? ⟨gb126, 0, none⟩ = some (.int .i64 0):=(blk_cell BK126.out 0).trans rfl
           have hcz14_1 : w7.cell? ⟨gb126, 1, none⟩ = some (.int .i64 0):=(blk_cell BK126.out 1).trans rfl
           have hcz14_2 : w7.cell? ⟨gb126, 2, none⟩ = some (.string (⟨#[]⟩ : ByteArray)):=(blk_cell BK126.out 2).trans rfl
           have hcz14_3 : w7.cell? ⟨gb126, 3, none⟩ = some (.int .i64 0):=(blk_cell BK126.out 3).trans rfl
           have hfz14_0:=blk_frozen BK126.out 0
           have hfz14_1:=blk_frozen BK126.out 1
           have hfz14_2:=blk_frozen BK126.out 2
           have hfz14_3:=blk_frozen BK126.out 3
           go_wp2
           go_meet
           case rel=>exact ⟨_, (true), (by first | rfl | (simp;done) | (simp [*];done)), H', ⟨by have:=HK1.out;first | omega | exact Nat.le_refl _⟩, ⟨by (with_reducible repeat (first | apply Kd.R_alloc | apply Kd.R_drewN | apply Kd.R_drew));exact Kd.R_mono (Kd.R_far (p:=⟨gb126, 3, none⟩) (Kd.R_far (p:=⟨gb126, 2, none⟩) (Kd.R_far (p:=⟨gb126, 1, none⟩) (Kd.R_far (p:=⟨gb126, 0, none⟩) (Kd.R_types HO_3.out BK126.out (by decide)) (fun _ hk=>hk.2) (.int .i64 ((rd_T33 l0 x13_1).f0))) (fun _ hk=>hk.2) (.int .i64 ((rd_T33 l0 x13_1).f1))) (fun _ hk=>hk.2) (.string ((rd_T33 l0 x13_1).f2))) (fun _ hk=>hk.2) (.int .i64 ((rd_T33 l0 x13_1).f3))) (fun _ hk=>trivial)⟩, ⟨by (with_reducible repeat (first | refine blk_drewN ?_ _ | refine blk_drew ?_ | refine blk_alloc ?_ _));refine blk_put (cs:=#[.int .i64 ((rd_T33 l0 x13_1).f0), .int .i64 ((rd_T33 l0 x13_1).f1), .string ((rd_T33 l0 x13_1).f2), .int .i64 0]) ?_ 3 _ rfl;(with_reducible repeat (first | refine blk_drewN ?_ _ | refine blk_drew ?_ | refine blk_alloc ?_ _));refine blk_put (cs:=#[.int .i64 ((rd_T33 l0 x13_1).f0), .int .i64 ((rd_T33 l0 x13_1).f1), .string (⟨#[]⟩ : ByteArray), .int .i64 0]) ?_ 2 _ rfl;(with_reducible repeat (first | refine blk_drewN ?_ _ | refine blk_drew ?_ | refine blk_alloc ?_ _));refine blk_put (cs:=#[.int .i64 ((rd_T33 l0 x13_1).f0), .int .i64 0, .string (⟨#[]⟩ : ByteArray), .int .i64 0]) ?_ 1 _ rfl;(with_reducible repeat (first | refine blk_drewN ?_ _ | refine blk_drew ?_ | refine blk_alloc ?_ _));refine blk_put (cs:=#[.int .i64 0, .int .i64 0, .string (⟨#[]⟩ : ByteArray), .int .i64 0]) ?_ 0 _ rfl;(with_reducible repeat (first | refine blk_drewN ?_ _ | refine blk_drew ?_ | refine blk_alloc ?_ _));exact BK126.out⟩, ⟨by repeat (first | (with_reducible first | exact HB.out | apply below_alloc | apply pw_below_drewN | apply below_drew1 | refine below_set ?_ GE126.out) | exact HB.out)⟩⟩
          ·rw [if_neg c13] at H
           have c13b0 : decide (((rd_T33 l0 x13_1).f1) < 0) = false:=decide_eq_false c13
           clear c13
           by_cases c15 : ((rd_T33 l0 x13_1).f1) > 9
           ·rw [if_pos c15] at H
            have c15b0 : decide (9 < ((rd_T33 l0 x13_1).f1)) = true:=decide_eq_true c15
            clear c15
            have H':=Aside0.mk H
            clear H
            have hcz16_0 : w7.cell? ⟨gb126, 0, none⟩ = some (.int .i64 0):=(blk_cell BK126.out 0).trans rfl
            have hcz16_1 : w7.cell? ⟨gb126, 1, none⟩ = some (.int .i64 0):=(blk_cell BK126.out 1).trans rfl
            have hcz16_2 : w7.cell? ⟨gb126, 2, none⟩ = some (.string (⟨#[]⟩ : ByteArray)):=(blk_cell BK126.out 2).trans rfl
            have hcz16_3 : w7.cell? ⟨gb126, 3, none⟩ = some (.int .i64 0):=(blk_cell BK126.out 3).trans rfl
            have hfz16_0:=blk_frozen BK126.out 0
            have hfz16_1:=blk_frozen BK126.out 1
            have hfz16_2:=blk_frozen BK126.out 2
            have hfz16_3:=blk_frozen BK126.out 3
            go_wp2
            go_meet
            case rel=>exact ⟨_, (true), (by first | rfl | (simp;done) | (simp [*];done)), H', ⟨by have:=HK1.out;first | omega | exact Nat.le_refl _⟩, ⟨by (with_reducible repeat (first | apply Kd.R_alloc | apply Kd.R_drewN | apply Kd.R_drew));exact Kd.R_mono (Kd.R_far (p:=⟨gb126, 3, none⟩) (Kd.R_far (p:=⟨gb126, 2, none⟩) (Kd.R_far (p:=⟨gb126, 1, none⟩) (Kd.R_far (p:=⟨gb126, 0, none⟩) (Kd.R_types HO_3.out BK126.out (by decide)) (fun _ hk=>hk.2) (.int .i64 ((rd_T33 l0 x13_1).f0))) (fun _ hk=>hk.2) (.int .i64 ((rd_T33 l0 x13_1).f1))) (fun _ hk=>hk.2) (.string ((rd_T33 l0 x13_1).f2))) (fun _ hk=>hk.2) (.int .i64 ((rd_T33 l0 x13_1).f3))) (fun _ hk=>trivial)⟩, ⟨by (with_reducible repeat (first | refine blk_drewN ?_ _ | refine blk_drew ?_ | refine blk_alloc ?_ _));refine blk_put (cs:=#[.int .i64 ((rd_T33 l0 x13_1).f0), .int .i64 ((rd_T33 l0 x13_1).f1), .string ((rd_T33 l0 x13_1).f2), .int .i64 0]) ?_ 3 _ rfl;(with_reducible repeat (first | refine blk_drewN ?_ _ | refine blk_drew ?_ | refine blk_alloc ?_ _));refine blk_put (cs:=#[.int .i64 ((rd_T33 l0 x13_1).f0), .int .i64 ((rd_T33 l0 x13_1).f1), .string (⟨#[]⟩ : ByteArray), .int .i64 0]) ?_ 2 _ rfl;(with_reducible repeat (first | refine blk_drewN ?_ _ | refine blk_drew ?_ | refine blk_alloc ?_ _));refine blk_put (cs:=#[.int .i64 ((rd_T33 l0 x13_1).f0), .int .i64 0, .string (⟨#[]⟩ : ByteArray), .int .i64 0]) ?_ 1 _ rfl;(with_reducible repeat (first | refine blk_drewN ?_ _ | refine blk_drew ?_ | refine blk_alloc ?_ _));refine blk_put (cs:=#[.int .i64 0, .int .i64 0, .string (⟨#[]⟩ : ByteArray), .int .i64 0]) ?_ 0 _ rfl;(with_reducible repeat (first | refine blk_drewN ?_ _ | refine blk_drew ?_ | refine blk_alloc ?_ _));exact BK126.out⟩, ⟨by repeat (first | (with_reducible first | exact HB.out | apply below_alloc | apply pw_below_drewN | apply below_drew1 | refine below_set ?_ GE126.out) | exact HB.out)⟩⟩
           ·rw [if_neg c15] at H
            have c15b0 : decide (9 < ((rd_T33 l0 x13_1).f1)) = false:=decide_eq_false c15
            clear c15
            replace H:=Option.bind_eq_some_iff.mp H
            obtain ⟨t127, A170, H⟩:=H
            replace H : (waterfall_Check.j1 k1 l0 x3_1 x13_1 l0 (l0.length : Int) x13_1 (!t127) ((rd_T33 l0 x13_1).f0) ((rd_T33 l0 x13_1).f1) ((rd_T33 l0 x13_1).f2) ((rd_T33 l0 x13_1).f3)) = some r:=H
            have A17:=Aside0.mk A170
            clear A170
            have H':=Aside0.mk H
            clear H
            have hcz18_0 : w7.cell? ⟨gb126, 0, none⟩ = some (.int .i64 0):=(blk_cell BK126.out 0).trans rfl
            have hcz18_1 : w7.cell? ⟨gb126, 1, none⟩ = some (.int .i64 0):=(blk_cell BK126.out 1).trans rfl
            have hcz18_2 : w7.cell? ⟨gb126, 2, none⟩ = some (.string (⟨#[]⟩ : ByteArray)):=(blk_cell BK126.out 2).trans rfl
            have hcz18_3 : w7.cell? ⟨gb126, 3, none⟩ = some (.int .i64 0):=(blk_cell BK126.out 3).trans rfl
            have hfz18_0:=blk_frozen BK126.out 0
            have hfz18_1:=blk_frozen BK126.out 1
            have hfz18_2:=blk_frozen BK126.out 2
            have hfz18_3:=blk_frozen BK126.out 3
            go_wp2_with (first | (go_at_call 14;(with_reducible refine (waterfall_money.calls ((rd_T33 l0 x13_1).f3) t127 _ A17.out).mono ?_);rintro e w' ⟨rfl, ⟨nd, rfl⟩⟩))
            go_meet
            case rel=>exact ⟨_, (!t127), (by first | rfl | (simp;done) | (simp [*];done)), H', ⟨by have:=HK1.out;first | omega | exact Nat.le_refl _⟩, ⟨by (with_reducible repeat (first | apply Kd.R_alloc | apply Kd.R_drewN | apply Kd.R_drew));exact Kd.R_mono (Kd.R_far (p:=⟨gb126, 3, none⟩) (Kd.R_far (p:=⟨gb126, 2, none⟩) (Kd.R_far (p:=⟨gb126, 1, none⟩) (Kd.R_far (p:=⟨gb126, 0, none⟩) (Kd.R_types HO_3.out BK126.out (by decide)) (fun _ hk=>hk.2) (.int .i64 ((rd_T33 l0 x13_1).f0))) (fun _ hk=>hk.2) (.int .i64 ((rd_T33 l0 x13_1).f1))) (fun _ hk=>hk.2) (.string ((rd_T33 l0 x13_1).f2))) (fun _ hk=>hk.2) (.int .i64 ((rd_T33 l0 x13_1).f3))) (fun _ hk=>trivial)⟩, ⟨by (with_reducible repeat (first | refine blk_drewN ?_ _ | refine blk_drew ?_ | refine blk_alloc ?_ _));refine blk_put (cs:=#[.int .i64 ((rd_T33 l0 x13_1).f0), .int .i64 ((rd_T33 l0 x13_1).f1), .string ((rd_T33 l0 x13_1).f2), .int .i64 0]) ?_ 3 _ rfl;(with_reducible repeat (first | refine blk_drewN ?_ _ | refine blk_drew ?_ | refine blk_alloc ?_ _));refine blk_put (cs:=#[.int .i64 ((rd_T33 l0 x13_1).f0), .int .i64 ((rd_T33 l0 x13_1).f1), .string (⟨#[]⟩ : ByteArray), .int .i64 0]) ?_ 2 _ rfl;(with_reducible repeat (first | refine blk_drewN ?_ _ | refine blk_drew ?_ | refine blk_alloc ?_ _));refine blk_put (cs:=#[.int .i64 ((rd_T33 l0 x13_1).f0), .int .i64 0, .string (⟨#[]⟩ : ByteArray), .int .i64 0]) ?_ 1 _ rfl;(with_reducible repeat (first | refine blk_drewN ?_ _ | refine blk_drew ?_ | refine blk_alloc ?_ _));refine blk_put (cs:=#[.int .i64 0, .int .i64 0, .string (⟨#[]⟩ : ByteArray), .int .i64 0]) ?_ 0 _ rfl;(with_reducible repeat (first | refine blk_drewN ?_ _ | refine blk_drew ?_ | refine blk_alloc ?_ _));exact BK126.out⟩, ⟨by repeat (first | (with_reducible first | exact HB.out | apply below_alloc | apply pw_below_drewN | apply below_drew1 | refine below_set ?_ GE126.out) | exact HB.out)⟩⟩
       case rest =>
        clear HC6
        try clear c1
        try clear p1
        try clear q1
        try clear hx1
        try clear c2
        try clear c2b0
        try clear c2b1
        try clear p2
        try clear c3
        try clear c3b0
        try clear c4
        try clear c4b0
        try clear c5
        try clear c5b0
        try clear c9
        try clear c9b0
        try clear c11
        try clear c11b0
        try clear p12
        try clear q12
        try clear hx12
        try clear c13
        try clear c13b0
        try clear c15
        try clear c15b0
        try clear hcz10_0
        try clear hcz10_1
        try clear hcz10_2
        try clear hcz10_3
        try clear hcz12_0
        try clear hcz12_1
        try clear hcz12_2
        try clear hcz12_3
        try clear hcz14_0
        try clear hcz14_1
        try clear hcz14_2
        try clear hcz14_3
        try clear hcz16_0
        try clear hcz16_1
        try clear hcz16_2
        try clear hcz16_3
        try clear hcz18_0
        try clear hcz18_1
        try clear hcz18_2
        try clear hcz18_3
        try clear hcz8_0
        try clear hcz8_1
        try clear hcz8_2
        try clear hcz8_3
        try clear hfz10_0
        try clear hfz10_1
        try clear hfz10_2
        try clear hfz10_3
        try clear hfz12_0
        try clear hfz12_1
        try clear hfz12_2
        try clear hfz12_3
        try clear hfz14_0
        try clear hfz14_1
        try clear hfz14_2
        try clear hfz14_3
        try clear hfz16_0
        try clear hfz16_1
        try clear hfz16_2
        try clear hfz16_3
        try clear hfz18_0
        try clear hfz18_1
        try clear hfz18_2
        try clear hfz18_3
        try clear hfz8_0
        try clear hfz8_1
        try clear hfz8_2
        try clear hfz8_3
        try clear hx125_0
        try clear hx125_1
        try clear hx125_2
        try clear hx125_3
        try clear p125
        try clear p2
        try clear q125
        obtain ⟨kq, x18_5, rfl, HA, HJ5, HO_3, BK126, HB⟩:=hcut
        cases kq with
        | zero=>exact absurd HA.out (by simp [waterfall_Check.j1])
        | succ kj5 =>
         have H:=HA.out
         clear HA
         simp only [waterfall_Check.j1] at H
         by_cases c19 : x18_5 = true
         ·subst c19
          have H1 : (some 2) = some r:=by rw [if_pos rfl] at H;exact H
          clear H
          have H:=H1
          clear H1
          obtain rfl:=Option.some.inj H
          go_wp2
          go_ret
          exact ⟨by first | rfl | (simp [errW_none, errW_some] <;> rfl) | (simp [*, errW_none, errW_some] <;> rfl), by repeat (first | (with_reducible first | exact HB.out | apply below_alloc | apply pw_below_drewN | apply below_drew1 | refine below_set ?_ GE126.out) | exact HB.out)⟩
         ·replace c19:=Bool.eq_false_iff.mpr c19
          subst c19
          have H1 : ((words_Name.f kj5 ((rd_T33 l0 x13_1).f2)).bind fun t128=>(if t128 = true then (if x13_1 > 0 then (if 0 ≤ (wrap64 (x13_1 - 1)) then (if (wrap64 (x13_1 - 1)) < (l0.length : Int) then ((waterfall_ahead.f ((rd_T33 l0 (wrap64 (x13_1 - 1))).f0) ((rd_T33 l0 (wrap64 (x13_1 - 1))).f1) ((rd_T33 l0 (wrap64 (x13_1 - 1))).f2) ((rd_T33 l0 (wrap64 (x13_1 - 1))).f3) ((rd_T33 l0 x13_1).f0) ((rd_T33 l0 x13_1).f1) ((rd_T33 l0 x13_1).f2) ((rd_T33 l0 x13_1).f3)).bind fun t130=>(if t130 = true then (if x3_1.length < 17592186044416 then (waterfall_Check.l0 kj5 l0 (x3_1 ++ [((rd_T33 l0 x13_1).f3)]) l0 (l0.length : Int) (wrap64 (x13_1 + 1))) else (none)) else (some 12))) else (none)) else (none)) else (if x3_1.length < 17592186044416 then (waterfall_Check.l0 kj5 l0 (x3_1 ++ [((rd_T33 l0 x13_1).f3)]) l0 (l0.length : Int) (wrap64 (x13_1 + 1))) else (none))) else (some 10))) = some r:=by rw [if_neg (show ¬ (false = true) by decide)] at H;exact H
          clear H
          have H:=H1
          clear H1
          replace H:=Option.bind_eq_some_iff.mp H
          obtain ⟨t128, A200, H⟩:=H
          replace H : (if t128 = true then (if x13_1 > 0 then (if 0 ≤ (wrap64 (x13_1 - 1)) then (if (wrap64 (x13_1 - 1)) < (l0.length : Int) then ((waterfall_ahead.f ((rd_T33 l0 (wrap64 (x13_1 - 1))).f0) ((rd_T33 l0 (wrap64 (x13_1 - 1))).f1) ((rd_T33 l0 (wrap64 (x13_1 - 1))).f2) ((rd_T33 l0 (wrap64 (x13_1 - 1))).f3) ((rd_T33 l0 x13_1).f0) ((rd_T33 l0 x13_1).f1) ((rd_T33 l0 x13_1).f2) ((rd_T33 l0 x13_1).f3)).bind fun t130=>(if t130 = true then (if x3_1.length < 17592186044416 then (waterfall_Check.l0 kj5 l0 (x3_1 ++ [((rd_T33 l0 x13_1).f3)]) l0 (l0.length : Int) (wrap64 (x13_1 + 1))) else (none)) else (some 12))) else (none)) else (none)) else (if x3_1.length < 17592186044416 then (waterfall_Check.l0 kj5 l0 (x3_1 ++ [((rd_T33 l0 x13_1).f3)]) l0 (l0.length : Int) (wrap64 (x13_1 + 1))) else (none))) else (some 10)) = some r:=H
          have A20:=Aside0.mk A200
          clear A200
          by_cases c21 : t128 = true
          ·subst c21
           have H1 : (if x13_1 > 0 then (if 0 ≤ (wrap64 (x13_1 - 1)) then (if (wrap64 (x13_1 - 1)) < (l0.length : Int) then ((waterfall_ahead.f ((rd_T33 l0 (wrap64 (x13_1 - 1))).f0) ((rd_T33 l0 (wrap64 (x13_1 - 1))).f1) ((rd_T33 l0 (wrap64 (x13_1 - 1))).f2) ((rd_T33 l0 (wrap64 (x13_1 - 1))).f3) ((rd_T33 l0 x13_1).f0) ((rd_T33 l0 x13_1).f1) ((rd_T33 l0 x13_1).f2) ((rd_T33 l0 x13_1).f3)).bind fun t130=>(if t130 = true then (if x3_1.length < 17592186044416 then (waterfall_Check.l0 kj5 l0 (x3_1 ++ [((rd_T33 l0 x13_1).f3)]) l0 (l0.length : Int) (wrap64 (x13_1 + 1))) else (none)) else (some 12))) else (none)) else (none)) else (if x3_1.length < 17592186044416 then (waterfall_Check.l0 kj5 l0 (x3_1 ++ [((rd_T33 l0 x13_1).f3)]) l0 (l0.length : Int) (wrap64 (x13_1 + 1))) else (none))) = some r:=by rw [if_pos rfl] at H;exact H
           clear H
           have H:=H1
           clear H1
           by_cases c22 : x13_1 > 0
           ·rw [if_pos c22] at H
            have c22b0 : decide (0 < x13_1) = true:=decide_eq_true c22
            clear c22
            obtain ⟨ji23, hji23⟩ : ∃ j_ : Int, (wrap64 (x13_1 - 1)) = j_:=⟨_, rfl⟩
            replace H : (if 0 ≤ (ji23) then (if (ji23) < (l0.length : Int) then ((waterfall_ahead.f ((rd_T33 l0 (ji23)).f0) ((rd_T33 l0 (ji23)).f1) ((rd_T33 l0 (ji23)).f2) ((rd_T33 l0 (ji23)).f3) ((rd_T33 l0 x13_1).f0) ((rd_T33 l0 x13_1).f1) ((rd_T33 l0 x13_1).f2) ((rd_T33 l0 x13_1).f3)).bind fun t130=>(if t130 = true then (if x3_1.length < 17592186044416 then (waterfall_Check.l0 kj5 l0 (x3_1 ++ [((rd_T33 l0 x13_1).f3)]) l0 (l0.length : Int) (wrap64 (x13_1 + 1))) else (none)) else (some 12))) else (none)) else (none)) = some r:=by first | (rw [hji23] at H;exact H) | (simp only [hji23] at H ⊢;exact H)
            (try rw [hji23] at A20)
            have hji23w : (IntKind.i64.wrap (x13_1 - 1)) = ji23:=(i64_w _).trans hji23
            by_cases c24 : 0 ≤ (ji23)
            ·rw [if_pos c24] at H
             have c24b0 : decide (0 ≤ (ji23)) = true:=decide_eq_true c24
             clear c24
             by_cases c25 : (ji23) < (l0.length : Int)
             ·rw [if_pos c25] at H
              have c25b0 : decide ((ji23) < (l0.length : Int)) = true:=decide_eq_true c25
              clear c25
              replace H:=Option.bind_eq_some_iff.mp H
              obtain ⟨t130, A260, H⟩:=H
              replace H : (if t130 = true then (if x3_1.length < 17592186044416 then (waterfall_Check.l0 kj5 l0 (x3_1 ++ [((rd_T33 l0 x13_1).f3)]) l0 (l0.length : Int) (wrap64 (x13_1 + 1))) else (none)) else (some 12)) = some r:=H
              have A26:=Aside0.mk A260
              clear A260
              by_cases c27 : t130 = true
              ·subst c27
               have H1 : (if x3_1.length < 17592186044416 then (waterfall_Check.l0 kj5 l0 (x3_1 ++ [((rd_T33 l0 x13_1).f3)]) l0 (l0.length : Int) (wrap64 (x13_1 + 1))) else (none)) = some r:=by rw [if_pos rfl] at H;exact H
               clear H
               have H:=H1
               clear H1
               by_cases c28 : x3_1.length < 17592186044416
               ·rw [if_pos c28] at H
                have LMc28:=Aside0.mk c28
                clear c28
                obtain ⟨y131, hy131⟩ : ∃ y_ : List Int, y_ = (x3_1 ++ [((rd_T33 l0 x13_1).f3)]):=⟨_, rfl⟩
                replace H : (waterfall_Check.l0 kj5 l0 y131 l0 (l0.length : Int) (wrap64 (x13_1 + 1))) = some r:=by first | (rw [hy131];with_reducible exact H) | (have H2_:=(Option.bind_some _ _).symm.trans H;rw [hy131];with_reducible exact H2_) | (have H2_:=(Option.bind_some _ _).symm.trans H;with_reducible exact H2_) | with_reducible exact H | (rw [hy131];exact H) | exact H
                have Ny131:=Aside0.mk hy131
                clear hy131
                have H':=Aside0.mk H
                clear H
                have hcz29_0 : wc.cell? ⟨gb126, 0, none⟩ = some (.int .i64 ((rd_T33 l0 x13_1).f0)):=(blk_cell BK126.out 0).trans rfl
                have hcz29_1 : wc.cell? ⟨gb126, 1, none⟩ = some (.int .i64 ((rd_T33 l0 x13_1).f1)):=(blk_cell BK126.out 1).trans rfl
                have hcz29_2 : wc.cell? ⟨gb126, 2, none⟩ = some (.string ((rd_T33 l0 x13_1).f2)):=(blk_cell BK126.out 2).trans rfl
                have hcz29_3 : wc.cell? ⟨gb126, 3, none⟩ = some (.int .i64 ((rd_T33 l0 x13_1).f3)):=(blk_cell BK126.out 3).trans rfl
                have hfz29_0:=blk_frozen BK126.out 0
                have hfz29_1:=blk_frozen BK126.out 1
                have hfz29_2:=blk_frozen BK126.out 2
                have hfz29_3:=blk_frozen BK126.out 3
                try go_wp2_with (first | ((with_reducible refine gate_callee (f:=22) rfl ?_);refine goesL_ (some 46) rfl rfl Try.func22 (by kernel_rfl) rfl #[.string ((rd_T33 l0 x13_1).f2)] rfl (by (try simp only [List.map_toArray, List.map_cons, List.map_nil]);first | done | rfl | (simp only [List.length_drop, List.length_take];rfl)) ?_;(with_reducible refine (words_Name.calls kj5 ((rd_T33 l0 x13_1).f2) true _ A20.out).mono ?_);rintro e w' ⟨rfl, ⟨nd, rfl⟩⟩;refine ⟨_, rfl, ?_⟩))
                (try (rw [drewN_self wc];generalize hq_ : World.drewN wc _ = wc;have n0_ : Aside0 (Kd.R (Kd.int .i64) 3 wc w.heap.size (fun _=>True) u3 x3_1):=⟨by rw [← hq_];exact (by (with_reducible repeat (first | apply Kd.R_alloc | apply Kd.R_drewN | apply Kd.R_drew));exact HO_3.out)⟩;have n1_ : Aside0 (wc.heap[gb126]? = some (.cells #[.int .i64 ((rd_T33 l0 x13_1).f0), .int .i64 ((rd_T33 l0 x13_1).f1), .string ((rd_T33 l0 x13_1).f2), .int .i64 ((rd_T33 l0 x13_1).f3)] 33 (0, 0))):=⟨by rw [← hq_];exact (by (with_reducible repeat (first | refine blk_drewN ?_ _ | refine blk_drew ?_ | refine blk_alloc ?_ _));exact BK126.out)⟩;have n2_ : Aside0 (Below w.heap.size w wc):=⟨by rw [← hq_];exact (by repeat (first | (with_reducible first | exact HB.out | apply below_alloc | apply pw_below_drewN | apply below_drew1 | refine below_set ?_ GE126.out) | exact HB.out))⟩;clear HO_3 BK126 HB hq_;have HO_3:=n0_;have BK126:=n1_;have HB:=n2_;clear n0_ n1_ n2_))
                have n0_:=Aside0.mk (Kd.R_drew HO_3.out)
                have n1_:=Aside0.mk (blk_drew BK126.out)
                have n2_:=Aside0.mk (below_drew1 HB.out)
                clear HO_3
                clear BK126
                clear HB
                have HO_3:=n0_
                have BK126:=n1_
                have HB:=n2_
                clear n0_ n1_ n2_
                have p129 : 0 ≤ ((ji23) : Int):=of_decide_eq_true (by first | (with_reducible assumption) | assumption)
                have q129 : (ji23) < (l0.length : Int):=of_decide_eq_true (by first | (with_reducible assumption) | assumption)
                obtain ⟨ad129, e129, hx129_0, hx129_1, hx129_2, hx129_3⟩:=at_T33 HR0.out (ji23) p129 q129
                have hw129_3:=hx129_3
                have hw129_2:=hx129_2
                have hw129_1:=hx129_1
                have hw129_0:=hx129_0
                obtain rfl : ad125 = ad129:=(by injection e129)
                replace hx129_0:=(HB.out.cell (World.block_lt_of_cell? w _ hx129_0)).trans hx129_0
                replace hx129_1:=(HB.out.cell (World.block_lt_of_cell? w _ hx129_1)).trans hx129_1
                replace hx129_2:=(HB.out.cell (World.block_lt_of_cell? w _ hx129_2)).trans hx129_2
                replace hx129_3:=(HB.out.cell (World.block_lt_of_cell? w _ hx129_3)).trans hx129_3
                replace p129:=eq_true p129
                replace q129:=eq_true q129
                refine start_ (n:=13) (S:=fun w'=>w'.cell? ⟨gb126, 0, none⟩ = some (.int .i64 ((rd_T33 l0 x13_1).f0)) ∧ w'.cell? ⟨gb126, 1, none⟩ = some (.int .i64 ((rd_T33 l0 x13_1).f1)) ∧ w'.cell? ⟨gb126, 2, none⟩ = some (.string ((rd_T33 l0 x13_1).f2)) ∧ w'.cell? ⟨gb126, 3, none⟩ = some (.int .i64 ((rd_T33 l0 x13_1).f3)) ∧ w'.cell? (ad125.add (((ji23)).toNat * 4)) = some (.int .i64 ((rd_T33 l0 (ji23)).f0)) ∧ w'.cell? ⟨(ad125.add (((ji23)).toNat * 4)).block, (ad125.add (((ji23)).toNat * 4)).off + 1, none⟩ = some (.int .i64 ((rd_T33 l0 (ji23)).f1)) ∧ w'.cell? ⟨(ad125.add (((ji23)).toNat * 4)).block, (ad125.add (((ji23)).toNat * 4)).off + 2, none⟩ = some (.string ((rd_T33 l0 (ji23)).f2)) ∧ w'.cell? ⟨(ad125.add (((ji23)).toNat * 4)).block, (ad125.add (((ji23)).toNat * 4)).off + 3, none⟩ = some (.int .i64 ((rd_T33 l0 (ji23)).f3))) (ds:=[]) #[false, false, false, false, false, false, false, false, false, false, false, false, false] (by kernel_rfl) rfl rfl ⟨(blk_cell BK126.out 0).trans rfl, (blk_cell BK126.out 1).trans rfl, (blk_cell BK126.out 2).trans rfl, (blk_cell BK126.out 3).trans rfl, ((HB.out.cell (World.block_lt_of_cell? w _ hw129_0)).trans hw129_0), ((HB.out.cell (World.block_lt_of_cell? w _ hw129_1)).trans hw129_1), ((HB.out.cell (World.block_lt_of_cell? w _ hw129_2)).trans hw129_2), ((HB.out.cell (World.block_lt_of_cell? w _ hw129_3)).trans hw129_3)⟩ (fun hHeld=>?_);refine with_tabW waterfall_Check.tab11 waterfall_Check.bits11 (fun HT_ HW_=>?_)
                generalize wc.drew = w30 at HO_3 BK126 HB hx129_0 hx129_1 hx129_2 hx129_3 hHeld ⊢
                refine pure_ (i:=0) (N:=some 49) (v:=?_) (a':=?_) #[true, false, false, false, false, false, false, false, false, false, false, false, false] rfl rfl (any_of HT_.out (by kernel_rfl)) (fun _ _ _ h=>h) (Or.inl ⟨by rfl, ?_⟩) ?_ ?_
                rotate_left
                ·intro w'
                 go_simp
                 with_reducible rfl
                rotate_left
                ·simp only [Act.put, List.setIfInBounds_toArray, List.set_cons_zero, List.set_cons_succ, i64_w, i32_w]
                 rfl
                refine pure_ (i:=1) (N:=some 50) (v:=?_) (a':=?_) #[true, true, false, false, false, false, false, false, false, false, false, false, false] rfl rfl (any_of HT_.out (by kernel_rfl)) (fun _ _ _ h=>h) (Or.inl ⟨by rfl, ?_⟩) ?_ ?_
                rotate_left
                ·intro w'
                 go_simp
                 with_reducible rfl
                rotate_left
                ·simp only [Act.put, List.setIfInBounds_toArray, List.set_cons_zero, List.set_cons_succ, i64_w, i32_w]
                 rfl
                refine pure_ (i:=2) (N:=some 51) (v:=?_) (a':=?_) #[true, true, true, false, false, false, false, false, false, false, false, false, false] rfl rfl (any_of HT_.out (by kernel_rfl)) (fun _ _ _ h=>h) (Or.inl ⟨by rfl, ?_⟩) ?_ ?_
                rotate_left
                ·intro w'
                 go_simp
                 with_reducible rfl
                rotate_left
                ·simp only [Act.put, List.setIfInBounds_toArray, List.set_cons_zero, List.set_cons_succ, i64_w, i32_w]
                 rfl
                refine pure_ (i:=3) (N:=some 52) (v:=?_) (a':=?_) #[true, true, true, true, false, false, false, false, false, false, false, false, false] rfl rfl (any_of HT_.out (by kernel_rfl)) (fun _ _ _ h=>h) (Or.inl ⟨by rfl, ?_⟩) ?_ ?_
                rotate_left
                ·intro w'
                 go_simp
                 with_reducible rfl
                rotate_left
                ·simp only [Act.put, List.setIfInBounds_toArray, List.set_cons_zero, List.set_cons_succ, i64_w, i32_w]
                 rfl
                refine pure_ (i:=4) (N:=some 53) (v:=?_) (a':=?_) #[true, true, true, true, true, false, false, false, false, false, false, false, false] rfl rfl (any_of HT_.out (by kernel_rfl)) (fun _ _ _ h=>h) (Or.inl ⟨by rfl, ?_⟩) ?_ ?_
                rotate_left
                ·intro w'
                 go_simp
                 with_reducible rfl
                rotate_left
                ·simp only [Act.put, List.setIfInBounds_toArray, List.set_cons_zero, List.set_cons_succ, i64_w, i32_w]
                 rfl
                refine pure_ (i:=5) (N:=some 54) (v:=?_) (a':=?_) #[true, true, true, true, true, true, false, false, false, false, false, false, false] rfl rfl (any_of HT_.out (by kernel_rfl)) (fun _ _ _ h=>h) (Or.inl ⟨by rfl, ?_⟩) ?_ ?_
                rotate_left
                ·intro w'
                 go_simp
                 with_reducible rfl
                rotate_left
                ·simp only [Act.put, List.setIfInBounds_toArray, List.set_cons_zero, List.set_cons_succ, i64_w, i32_w]
                 rfl
                refine pure_ (i:=6) (N:=some 55) (v:=?_) (a':=?_) #[true, true, true, true, true, true, true, false, false, false, false, false, false] rfl rfl (any_of HT_.out (by kernel_rfl)) (fun _ _ _ h=>h) (Or.inl ⟨by rfl, ?_⟩) ?_ ?_
                rotate_left
                ·intro w'
                 go_simp
                 with_reducible rfl
                rotate_left
                ·simp only [Act.put, List.setIfInBounds_toArray, List.set_cons_zero, List.set_cons_succ, i64_w, i32_w]
                 rfl
                refine take_ (i:=7) (N:=some 56) (v:=?_) (a':=?_) #[true, true, true, true, true, true, true, true, false, false, false, false, false] rfl rfl (take_ofW HT_.out HW_.out (by kernel_rfl)) (fun _ _ _ h=>h) (Or.inl ⟨by rfl, ?_⟩) hHeld ?_ ?_
                rotate_left
                ·rintro w' ⟨s0, s1, s2, s3, s4, s5, s6, s7⟩
                 go_simp
                 with_reducible rfl
                rotate_left
                ·simp only [Act.put, List.setIfInBounds_toArray, List.set_cons_zero, List.set_cons_succ, i64_w, i32_w]
                 rfl
                refine take_ (i:=8) (N:=some 57) (v:=?_) (a':=?_) #[true, true, true, true, true, true, true, true, true, false, false, false, false] rfl rfl (take_ofW HT_.out HW_.out (by kernel_rfl)) (fun _ _ _ h=>h) (Or.inl ⟨by rfl, ?_⟩) hHeld ?_ ?_
                rotate_left
                ·rintro w' ⟨s0, s1, s2, s3, s4, s5, s6, s7⟩
                 go_simp
                 with_reducible rfl
                rotate_left
                ·simp only [Act.put, List.setIfInBounds_toArray, List.set_cons_zero, List.set_cons_succ, i64_w, i32_w]
                 rfl
                refine one_ (i:=9) (N:=some 58) #[true, true, true, true, true, true, true, true, true, true, false, false, false] rfl rfl (one_of HT_.out (by kernel_rfl)) (by decide) (fun K hK=>?_)
                refine goes_ Try.func23 (by kernel_rfl) rfl #[.agg #[.int .i64 ((rd_T33 l0 (ji23)).f0), .int .i64 ((rd_T33 l0 (ji23)).f1), .string ((rd_T33 l0 (ji23)).f2), .int .i64 ((rd_T33 l0 (ji23)).f3)], .agg #[.int .i64 ((rd_T33 l0 x13_1).f0), .int .i64 ((rd_T33 l0 x13_1).f1), .string ((rd_T33 l0 x13_1).f2), .int .i64 ((rd_T33 l0 x13_1).f3)]] (by rfl) rfl rfl (by (try simp only [List.map_toArray, List.map_cons, List.map_nil]);first | done | (simp only [hji23];rfl) | rfl | (simp only [List.length_drop, List.length_take];rfl)) ?_
                with_reducible refine (waterfall_ahead.calls ((rd_T33 l0 (ji23)).f0) ((rd_T33 l0 (ji23)).f1) ((rd_T33 l0 (ji23)).f2) ((rd_T33 l0 (ji23)).f3) ((rd_T33 l0 x13_1).f0) ((rd_T33 l0 x13_1).f1) ((rd_T33 l0 x13_1).f2) ((rd_T33 l0 x13_1).f3) true _ A26.out).mono ?_
                rintro e w31 ⟨rfl, hb⟩
                refine ⟨_, rfl, ?_⟩
                have n0_:=Aside0.mk (Kd.R_below (by (with_reducible repeat (first | apply Kd.R_alloc | apply Kd.R_drewN | apply Kd.R_drew));exact HO_3.out) hb)
                have n1_:=Aside0.mk (blk_below (g:=gb126) (o:=.cells #[.int .i64 ((rd_T33 l0 x13_1).f0), .int .i64 ((rd_T33 l0 x13_1).f1), .string ((rd_T33 l0 x13_1).f2), .int .i64 ((rd_T33 l0 x13_1).f3)] 33 (0, 0)) (by (with_reducible repeat (first | refine blk_drewN ?_ _ | refine blk_drew ?_ | refine blk_alloc ?_ _));exact BK126.out) hb)
                have n2_:=Aside0.mk (below_step (by repeat (first | (with_reducible first | exact HB.out | apply below_alloc | apply pw_below_drewN | apply below_drew1 | refine below_set ?_ GE126.out) | exact HB.out)) hb)
                clear HO_3
                clear BK126
                clear HB
                have HO_3:=n0_
                have BK126:=n1_
                have HB:=n2_
                clear n0_ n1_ n2_
                (try clear hb)
                (try clear hb2)
                (try clear hk)
                (try clear hi)
                refine hK.out _ _ ⟨(blk_cell BK126.out 0).trans rfl, (blk_cell BK126.out 1).trans rfl, (blk_cell BK126.out 2).trans rfl, (blk_cell BK126.out 3).trans rfl, ((HB.out.cell (World.block_lt_of_cell? w _ hw129_0)).trans hw129_0), ((HB.out.cell (World.block_lt_of_cell? w _ hw129_1)).trans hw129_1), ((HB.out.cell (World.block_lt_of_cell? w _ hw129_2)).trans hw129_2), ((HB.out.cell (World.block_lt_of_cell? w _ hw129_3)).trans hw129_3)⟩ (fun hHeld=>?_)
                clear hK K
                refine norm_ (a':=?_) ?_ ?_
                rotate_left
                ·show Act.put _ (some 58) _ = _
                 simp only [Act.put, List.setIfInBounds_toArray, List.set_cons_zero, List.set_cons_succ, i64_w, i32_w]
                 rfl
                refine pure_ (i:=10) (N:=some 59) (v:=?_) (a':=?_) #[true, true, true, true, true, true, true, true, true, true, true, false, false] rfl rfl (any_of HT_.out (by kernel_rfl)) (fun _ _ _ h=>h) (Or.inl ⟨by rfl, ?_⟩) ?_ ?_
                rotate_left
                ·intro w'
                 go_simp
                 with_reducible rfl
                rotate_left
                ·simp only [Act.put, List.setIfInBounds_toArray, List.set_cons_zero, List.set_cons_succ, i64_w, i32_w]
                 rfl
                refine pure_ (i:=11) (N:=some 60) (v:=?_) (a':=?_) #[true, true, true, true, true, true, true, true, true, true, true, true, false] rfl rfl (any_of HT_.out (by kernel_rfl)) (fun _ _ _ h=>h) (Or.inl ⟨by rfl, ?_⟩) ?_ ?_
                rotate_left
                ·intro w'
                 go_simp
                 with_reducible rfl
                rotate_left
                ·simp only [Act.put, List.setIfInBounds_toArray, List.set_cons_zero, List.set_cons_succ, i64_w, i32_w]
                 rfl
                refine pure_ (i:=12) (N:=some 48) (v:=?_) (a':=?_) #[true, true, true, true, true, true, true, true, true, true, true, true, true] rfl rfl (any_of HT_.out (by kernel_rfl)) (fun _ _ _ h=>h) (Or.inl ⟨by rfl, ?_⟩) ?_ ?_
                rotate_left
                ·intro w'
                 go_simp
                 with_reducible rfl
                rotate_left
                ·simp only [Act.put, List.setIfInBounds_toArray, List.set_cons_zero, List.set_cons_succ, i64_w, i32_w]
                 rfl
                refine done_ (done_of HT_.out (by kernel_rfl)) ?_
                have hcz32_0 : w31.cell? ⟨gb126, 0, none⟩ = some (.int .i64 ((rd_T33 l0 x13_1).f0)):=(blk_cell BK126.out 0).trans rfl
                have hcz32_1 : w31.cell? ⟨gb126, 1, none⟩ = some (.int .i64 ((rd_T33 l0 x13_1).f1)):=(blk_cell BK126.out 1).trans rfl
                have hcz32_2 : w31.cell? ⟨gb126, 2, none⟩ = some (.string ((rd_T33 l0 x13_1).f2)):=(blk_cell BK126.out 2).trans rfl
                have hcz32_3 : w31.cell? ⟨gb126, 3, none⟩ = some (.int .i64 ((rd_T33 l0 x13_1).f3)):=(blk_cell BK126.out 3).trans rfl
                have hfz32_0:=blk_frozen BK126.out 0
                have hfz32_1:=blk_frozen BK126.out 1
                have hfz32_2:=blk_frozen BK126.out 2
                have hfz32_3:=blk_frozen BK126.out 3
                try go_wp2_with (first | ((with_reducible refine gate_builtin (b:=.append) (xs:=#[.tmp 61, .tmp 64]) rfl ?_);at_builtin;refine Kd.R_append (Kd.int .i64) (w0:=w) w.heap.size rfl (.tmp 61) (.tmp 64) 26 3 (.int .i64 0) 8 rfl Try.underlying26 info3 rfl (by decide) (by omega) u3 x3_1 ((rd_T33 l0 x13_1).f3) [.int .i64 ((rd_T33 l0 x13_1).f3)] (fun _=>True) (fun _=>False) rfl rfl ?aP (fun _ hk=>hk.elim) ?aF ?aO ?aB ?aS ?aL ?_;(case aP=>exact rfl);(case aB=>exact (by repeat (first | (with_reducible first | exact HB.out | apply below_alloc | apply pw_below_drewN | apply below_drew1 | refine below_set ?_ GE126.out) | exact HB.out)));(case aF=>exact (fun _ _=>trivial));(case aO=>exact (by (with_reducible repeat (first | apply Kd.R_alloc | apply Kd.R_drewN | apply Kd.R_drew));exact HO_3.out));(case aS=>exact (below_size (by repeat (first | (with_reducible first | exact HB.out | apply below_alloc | apply pw_below_drewN | apply below_drew1 | refine below_set ?_ GE126.out) | exact HB.out))));(case aL=>have:=LMc28.out;omega);intro v132 w33 ho hb hg hat;rw [← Ny131.out] at ho;have n0_:=Aside0.mk (blk_grown (g:=gb126) (o:=.cells #[.int .i64 ((rd_T33 l0 x13_1).f0), .int .i64 ((rd_T33 l0 x13_1).f1), .string ((rd_T33 l0 x13_1).f2), .int .i64 ((rd_T33 l0 x13_1).f3)] 33 (0, 0)) (by (with_reducible repeat (first | refine blk_drewN ?_ _ | refine blk_drew ?_ | refine blk_alloc ?_ _));exact BK126.out) hg (Kd.R_ne HO_3.out BK126.out (by decide)));have n1_:=Aside0.mk (hb);have n2_:=Aside0.mk (ho);clear BK126 HB HO_3;have BK126:=n0_;have HB:=n1_;have HO133:=n2_;clear n0_ n1_ n2_ ho hb hg hat))
                go_roundg kj5
                case measure=>have:=HK1.out;have:=HJ5.out;omega
                case rel=>exact ⟨(y131), (wrap64 (x13_1 + 1)), (by first | rfl | (simp;done) | (simp [*];done)), H', ⟨by have:=HK1.out;have:=HJ5.out;omega⟩, ⟨by (with_reducible repeat (first | apply Kd.R_alloc | apply Kd.R_drewN | apply Kd.R_drew));exact HO133.out⟩, ⟨by repeat (first | (with_reducible first | exact HB.out | apply below_alloc | apply pw_below_drewN | apply below_drew1 | refine below_set ?_ GE126.out) | exact HB.out)⟩⟩
               ·rw [if_neg c28] at H
                exact absurd H (by simp)
              ·replace c27:=Bool.eq_false_iff.mpr c27
               subst c27
               have H1 : (some 12) = some r:=by rw [if_neg (show ¬ (false = true) by decide)] at H;exact H
               clear H
               have H:=H1
               clear H1
               obtain rfl:=Option.some.inj H
               have hcz34_0 : wc.cell? ⟨gb126, 0, none⟩ = some (.int .i64 ((rd_T33 l0 x13_1).f0)):=(blk_cell BK126.out 0).trans rfl
               have hcz34_1 : wc.cell? ⟨gb126, 1, none⟩ = some (.int .i64 ((rd_T33 l0 x13_1).f1)):=(blk_cell BK126.out 1).trans rfl
               have hcz34_2 : wc.cell? ⟨gb126, 2, none⟩ = some (.string ((rd_T33 l0 x13_1).f2)):=(blk_cell BK126.out 2).trans rfl
               have hcz34_3 : wc.cell? ⟨gb126, 3, none⟩ = some (.int .i64 ((rd_T33 l0 x13_1).f3)):=(blk_cell BK126.out 3).trans rfl
               have hfz34_0:=blk_frozen BK126.out 0
               have hfz34_1:=blk_frozen BK126.out 1
               have hfz34_2:=blk_frozen BK126.out 2
               have hfz34_3:=blk_frozen BK126.out 3
               try go_wp2_with (first | ((with_reducible refine gate_callee (f:=22) rfl ?_);refine goesL_ (some 46) rfl rfl Try.func22 (by kernel_rfl) rfl #[.string ((rd_T33 l0 x13_1).f2)] rfl (by (try simp only [List.map_toArray, List.map_cons, List.map_nil]);first | done | rfl | (simp only [List.length_drop, List.length_take];rfl)) ?_;(with_reducible refine (words_Name.calls kj5 ((rd_T33 l0 x13_1).f2) true _ A20.out).mono ?_);rintro e w' ⟨rfl, ⟨nd, rfl⟩⟩;refine ⟨_, rfl, ?_⟩))
               (try (rw [drewN_self wc];generalize hq_ : World.drewN wc _ = wc;have n0_ : Aside0 (Kd.R (Kd.int .i64) 3 wc w.heap.size (fun _=>True) u3 x3_1):=⟨by rw [← hq_];exact (by (with_reducible repeat (first | apply Kd.R_alloc | apply Kd.R_drewN | apply Kd.R_drew));exact HO_3.out)⟩;have n1_ : Aside0 (wc.heap[gb126]? = some (.cells #[.int .i64 ((rd_T33 l0 x13_1).f0), .int .i64 ((rd_T33 l0 x13_1).f1), .string ((rd_T33 l0 x13_1).f2), .int .i64 ((rd_T33 l0 x13_1).f3)] 33 (0, 0))):=⟨by rw [← hq_];exact (by (with_reducible repeat (first | refine blk_drewN ?_ _ | refine blk_drew ?_ | refine blk_alloc ?_ _));exact BK126.out)⟩;have n2_ : Aside0 (Below w.heap.size w wc):=⟨by rw [← hq_];exact (by repeat (first | (with_reducible first | exact HB.out | apply below_alloc | apply pw_below_drewN | apply below_drew1 | refine below_set ?_ GE126.out) | exact HB.out))⟩;clear HO_3 BK126 HB hq_;have HO_3:=n0_;have BK126:=n1_;have HB:=n2_;clear n0_ n1_ n2_))
               have n0_:=Aside0.mk (Kd.R_drew HO_3.out)
               have n1_:=Aside0.mk (blk_drew BK126.out)
               have n2_:=Aside0.mk (below_drew1 HB.out)
               clear HO_3
               clear BK126
               clear HB
               have HO_3:=n0_
               have BK126:=n1_
               have HB:=n2_
               clear n0_ n1_ n2_
               have p129 : 0 ≤ ((ji23) : Int):=of_decide_eq_true (by first | (with_reducible assumption) | assumption)
               have q129 : (ji23) < (l0.length : Int):=of_decide_eq_true (by first | (with_reducible assumption) | assumption)
               obtain ⟨ad129, e129, hx129_0, hx129_1, hx129_2, hx129_3⟩:=at_T33 HR0.out (ji23) p129 q129
               have hw129_3:=hx129_3
               have hw129_2:=hx129_2
               have hw129_1:=hx129_1
               have hw129_0:=hx129_0
               obtain rfl : ad125 = ad129:=(by injection e129)
               replace hx129_0:=(HB.out.cell (World.block_lt_of_cell? w _ hx129_0)).trans hx129_0
               replace hx129_1:=(HB.out.cell (World.block_lt_of_cell? w _ hx129_1)).trans hx129_1
               replace hx129_2:=(HB.out.cell (World.block_lt_of_cell? w _ hx129_2)).trans hx129_2
               replace hx129_3:=(HB.out.cell (World.block_lt_of_cell? w _ hx129_3)).trans hx129_3
               replace p129:=eq_true p129
               replace q129:=eq_true q129
               refine start_ (n:=13) (S:=fun w'=>w'.cell? ⟨gb126, 0, none⟩ = some (.int .i64 ((rd_T33 l0 x13_1).f0)) ∧ w'.cell? ⟨gb126, 1, none⟩ = some (.int .i64 ((rd_T33 l0 x13_1).f1)) ∧ w'.cell? ⟨gb126, 2, none⟩ = some (.string ((rd_T33 l0 x13_1).f2)) ∧ w'.cell? ⟨gb126, 3, none⟩ = some (.int .i64 ((rd_T33 l0 x13_1).f3)) ∧ w'.cell? (ad125.add (((ji23)).toNat * 4)) = some (.int .i64 ((rd_T33 l0 (ji23)).f0)) ∧ w'.cell? ⟨(ad125.add (((ji23)).toNat * 4)).block, (ad125.add (((ji23)).toNat * 4)).off + 1, none⟩ = some (.int .i64 ((rd_T33 l0 (ji23)).f1)) ∧ w'.cell? ⟨(ad125.add (((ji23)).toNat * 4)).block, (ad125.add (((ji23)).toNat * 4)).off + 2, none⟩ = some (.string ((rd_T33 l0 (ji23)).f2)) ∧ w'.cell? ⟨(ad125.add (((ji23)).toNat * 4)).block, (ad125.add (((ji23)).toNat * 4)).off + 3, none⟩ = some (.int .i64 ((rd_T33 l0 (ji23)).f3))) (ds:=[]) #[false, false, false, false, false, false, false, false, false, false, false, false, false] (by kernel_rfl) rfl rfl ⟨(blk_cell BK126.out 0).trans rfl, (blk_cell BK126.out 1).trans rfl, (blk_cell BK126.out 2).trans rfl, (blk_cell BK126.out 3).trans rfl, ((HB.out.cell (World.block_lt_of_cell? w _ hw129_0)).trans hw129_0), ((HB.out.cell (World.block_lt_of_cell? w _ hw129_1)).trans hw129_1), ((HB.out.cell (World.block_lt_of_cell? w _ hw129_2)).trans hw129_2), ((HB.out.cell (World.block_lt_of_cell? w _ hw129_3)).trans hw129_3)⟩ (fun hHeld=>?_);refine with_tabW waterfall_Check.tab11 waterfall_Check.bits11 (fun HT_ HW_=>?_)
               generalize wc.drew = w35 at HO_3 BK126 HB hx129_0 hx129_1 hx129_2 hx129_3 hHeld ⊢
               refine pure_ (i:=0) (N:=some 49) (v:=?_) (a':=?_) #[true, false, false, false, false, false, false, false, false, false, false, false, false] rfl rfl (any_of HT_.out (by kernel_rfl)) (fun _ _ _ h=>h) (Or.inl ⟨by rfl, ?_⟩) ?_ ?_
               rotate_left
               ·intro w'
                go_simp
                with_reducible rfl
               rotate_left
               ·simp only [Act.put, List.setIfInBounds_toArray, List.set_cons_zero, List.set_cons_succ, i64_w, i32_w]
                rfl
               refine pure_ (i:=1) (N:=some 50) (v:=?_) (a':=?_) #[true, true, false, false, false, false, false, false, false, false, false, false, false] rfl rfl (any_of HT_.out (by kernel_rfl)) (fun _ _ _ h=>h) (Or.inl ⟨by rfl, ?_⟩) ?_ ?_
               rotate_left
               ·intro w'
                go_simp
                with_reducible rfl
               rotate_left
               ·simp only [Act.put, List.setIfInBounds_toArray, List.set_cons_zero, List.set_cons_succ, i64_w, i32_w]
                rfl
               refine pure_ (i:=2) (N:=some 51) (v:=?_) (a':=?_) #[true, true, true, false, false, false, false, false, false, false, false, false, false] rfl rfl (any_of HT_.out (by kernel_rfl)) (fun _ _ _ h=>h) (Or.inl ⟨by rfl, ?_⟩) ?_ ?_
               rotate_left
               ·intro w'
                go_simp
                with_reducible rfl
               rotate_left
               ·simp only [Act.put, List.setIfInBounds_toArray, List.set_cons_zero, List.set_cons_succ, i64_w, i32_w]
                rfl
               refine pure_ (i:=3) (N:=some 52) (v:=?_) (a':=?_) #[true, true, true, true, false, false, false, false, false, false, false, false, false] rfl rfl (any_of HT_.out (by kernel_rfl)) (fun _ _ _ h=>h) (Or.inl ⟨by rfl, ?_⟩) ?_ ?_
               rotate_left
               ·intro w'
                go_simp
                with_reducible rfl
               rotate_left
               ·simp only [Act.put, List.setIfInBounds_toArray, List.set_cons_zero, List.set_cons_succ, i64_w, i32_w]
                rfl
               refine pure_ (i:=4) (N:=some 53) (v:=?_) (a':=?_) #[true, true, true, true, true, false, false, false, false, false, false, false, false] rfl rfl (any_of HT_.out (by kernel_rfl)) (fun _ _ _ h=>h) (Or.inl ⟨by rfl, ?_⟩) ?_ ?_
               rotate_left
               ·intro w'
                go_simp
                with_reducible rfl
               rotate_left
               ·simp only [Act.put, List.setIfInBounds_toArray, List.set_cons_zero, List.set_cons_succ, i64_w, i32_w]
                rfl
               refine pure_ (i:=5) (N:=some 54) (v:=?_) (a':=?_) #[true, true, true, true, true, true, false, false, false, false, false, false, false] rfl rfl (any_of HT_.out (by kernel_rfl)) (fun _ _ _ h=>h) (Or.inl ⟨by rfl, ?_⟩) ?_ ?_
               rotate_left
               ·intro w'
                go_simp
                with_reducible rfl
               rotate_left
               ·simp only [Act.put, List.setIfInBounds_toArray, List.set_cons_zero, List.set_cons_succ, i64_w, i32_w]
                rfl
               refine pure_ (i:=6) (N:=some 55) (v:=?_) (a':=?_) #[true, true, true, true, true, true, true, false, false, false, false, false, false] rfl rfl (any_of HT_.out (by kernel_rfl)) (fun _ _ _ h=>h) (Or.inl ⟨by rfl, ?_⟩) ?_ ?_
               rotate_left
               ·intro w'
                go_simp
                with_reducible rfl
               rotate_left
               ·simp only [Act.put, List.setIfInBounds_toArray, List.set_cons_zero, List.set_cons_succ, i64_w, i32_w]
                rfl
               refine take_ (i:=7) (N:=some 56) (v:=?_) (a':=?_) #[true, true, true, true, true, true, true, true, false, false, false, false, false] rfl rfl (take_ofW HT_.out HW_.out (by kernel_rfl)) (fun _ _ _ h=>h) (Or.inl ⟨by rfl, ?_⟩) hHeld ?_ ?_
               rotate_left
               ·rintro w' ⟨s0, s1, s2, s3, s4, s5, s6, s7⟩
                go_simp
                with_reducible rfl
               rotate_left
               ·simp only [Act.put, List.setIfInBounds_toArray, List.set_cons_zero, List.set_cons_succ, i64_w, i32_w]
                rfl
               refine take_ (i:=8) (N:=some 57) (v:=?_) (a':=?_) #[true, true, true, true, true, true, true, true, true, false, false, false, false] rfl rfl (take_ofW HT_.out HW_.out (by kernel_rfl)) (fun _ _ _ h=>h) (Or.inl ⟨by rfl, ?_⟩) hHeld ?_ ?_
               rotate_left
               ·rintro w' ⟨s0, s1, s2, s3, s4, s5, s6, s7⟩
                go_simp
                with_reducible rfl
               rotate_left
               ·simp only [Act.put, List.setIfInBounds_toArray, List.set_cons_zero, List.set_cons_succ, i64_w, i32_w]
                rfl
               refine one_ (i:=9) (N:=some 58) #[true, true, true, true, true, true, true, true, true, true, false, false, false] rfl rfl (one_of HT_.out (by kernel_rfl)) (by decide) (fun K hK=>?_)
               refine goes_ Try.func23 (by kernel_rfl) rfl #[.agg #[.int .i64 ((rd_T33 l0 (ji23)).f0), .int .i64 ((rd_T33 l0 (ji23)).f1), .string ((rd_T33 l0 (ji23)).f2), .int .i64 ((rd_T33 l0 (ji23)).f3)], .agg #[.int .i64 ((rd_T33 l0 x13_1).f0), .int .i64 ((rd_T33 l0 x13_1).f1), .string ((rd_T33 l0 x13_1).f2), .int .i64 ((rd_T33 l0 x13_1).f3)]] (by rfl) rfl rfl (by (try simp only [List.map_toArray, List.map_cons, List.map_nil]);first | done | (simp only [hji23];rfl) | rfl | (simp only [List.length_drop, List.length_take];rfl)) ?_
               with_reducible refine (waterfall_ahead.calls ((rd_T33 l0 (ji23)).f0) ((rd_T33 l0 (ji23)).f1) ((rd_T33 l0 (ji23)).f2) ((rd_T33 l0 (ji23)).f3) ((rd_T33 l0 x13_1).f0) ((rd_T33 l0 x13_1).f1) ((rd_T33 l0 x13_1).f2) ((rd_T33 l0 x13_1).f3) false _ A26.out).mono ?_
               rintro e w36 ⟨rfl, hb⟩
               refine ⟨_, rfl, ?_⟩
               have n0_:=Aside0.mk (Kd.R_below (by (with_reducible repeat (first | apply Kd.R_alloc | apply Kd.R_drewN | apply Kd.R_drew));exact HO_3.out) hb)
               have n1_:=Aside0.mk (blk_below (g:=gb126) (o:=.cells #[.int .i64 ((rd_T33 l0 x13_1).f0), .int .i64 ((rd_T33 l0 x13_1).f1), .string ((rd_T33 l0 x13_1).f2), .int .i64 ((rd_T33 l0 x13_1).f3)] 33 (0, 0)) (by (with_reducible repeat (first | refine blk_drewN ?_ _ | refine blk_drew ?_ | refine blk_alloc ?_ _));exact BK126.out) hb)
               have n2_:=Aside0.mk (below_step (by repeat (first | (with_reducible first | exact HB.out | apply below_alloc | apply pw_below_drewN | apply below_drew1 | refine below_set ?_ GE126.out) | exact HB.out)) hb)
               clear HO_3
               clear BK126
               clear HB
               have HO_3:=n0_
               have BK126:=n1_
               have HB:=n2_
               clear n0_ n1_ n2_
               (try clear hb)
               (try clear hb2)
               (try clear hk)
               (try clear hi)
               refine hK.out _ _ ⟨(blk_cell BK126.out 0).trans rfl, (blk_cell BK126.out 1).trans rfl, (blk_cell BK126.out 2).trans rfl, (blk_cell BK126.out 3).trans rfl, ((HB.out.cell (World.block_lt_of_cell? w _ hw129_0)).trans hw129_0), ((HB.out.cell (World.block_lt_of_cell? w _ hw129_1)).trans hw129_1), ((HB.out.cell (World.block_lt_of_cell? w _ hw129_2)).trans hw129_2), ((HB.out.cell (World.block_lt_of_cell? w _ hw129_3)).trans hw129_3)⟩ (fun hHeld=>?_)
               clear hK K
               refine norm_ (a':=?_) ?_ ?_
               rotate_left
               ·show Act.put _ (some 58) _ = _
                simp only [Act.put, List.setIfInBounds_toArray, List.set_cons_zero, List.set_cons_succ, i64_w, i32_w]
                rfl
               refine pure_ (i:=10) (N:=some 59) (v:=?_) (a':=?_) #[true, true, true, true, true, true, true, true, true, true, true, false, false] rfl rfl (any_of HT_.out (by kernel_rfl)) (fun _ _ _ h=>h) (Or.inl ⟨by rfl, ?_⟩) ?_ ?_
               rotate_left
               ·intro w'
                go_simp
                with_reducible rfl
               rotate_left
               ·simp only [Act.put, List.setIfInBounds_toArray, List.set_cons_zero, List.set_cons_succ, i64_w, i32_w]
                rfl
               refine pure_ (i:=11) (N:=some 60) (v:=?_) (a':=?_) #[true, true, true, true, true, true, true, true, true, true, true, true, false] rfl rfl (any_of HT_.out (by kernel_rfl)) (fun _ _ _ h=>h) (Or.inl ⟨by rfl, ?_⟩) ?_ ?_
               rotate_left
               ·intro w'
                go_simp
                with_reducible rfl
               rotate_left
               ·simp only [Act.put, List.setIfInBounds_toArray, List.set_cons_zero, List.set_cons_succ, i64_w, i32_w]
                rfl
               refine pure_ (i:=12) (N:=some 48) (v:=?_) (a':=?_) #[true, true, true, true, true, true, true, true, true, true, true, true, true] rfl rfl (any_of HT_.out (by kernel_rfl)) (fun _ _ _ h=>h) (Or.inl ⟨by rfl, ?_⟩) ?_ ?_
               rotate_left
               ·intro w'
                go_simp
                with_reducible rfl
               rotate_left
               ·simp only [Act.put, List.setIfInBounds_toArray, List.set_cons_zero, List.set_cons_succ, i64_w, i32_w]
                rfl
               refine done_ (done_of HT_.out (by kernel_rfl)) ?_
               try go_wp2
               go_ret
               exact ⟨by first | rfl | (simp [errW_none, errW_some] <;> rfl) | (simp only [← hji23];first | rfl | (simp [errW_none, errW_some] <;> rfl)) | (simp [*, errW_none, errW_some] <;> rfl), by repeat (first | (with_reducible first | exact HB.out | apply below_alloc | apply pw_below_drewN | apply below_drew1 | refine below_set ?_ GE126.out) | exact HB.out)⟩
             ·rw [if_neg c25] at H
              exact absurd H (by simp)
            ·rw [if_neg c24] at H
             exact absurd H (by simp)
           ·rw [if_neg c22] at H
            have c22b0 : decide (0 < x13_1) = false:=decide_eq_false c22
            clear c22
            by_cases c37 : x3_1.length < 17592186044416
            ·rw [if_pos c37] at H
             have LMc37:=Aside0.mk c37
             clear c37
             obtain ⟨y134, hy134⟩ : ∃ y_ : List Int, y_ = (x3_1 ++ [((rd_T33 l0 x13_1).f3)]):=⟨_, rfl⟩
             replace H : (waterfall_Check.l0 kj5 l0 y134 l0 (l0.length : Int) (wrap64 (x13_1 + 1))) = some r:=by first | (rw [hy134];with_reducible exact H) | (have H2_:=(Option.bind_some _ _).symm.trans H;rw [hy134];with_reducible exact H2_) | (have H2_:=(Option.bind_some _ _).symm.trans H;with_reducible exact H2_) | with_reducible exact H | (rw [hy134];exact H) | exact H
             have Ny134:=Aside0.mk hy134
             clear hy134
             have H':=Aside0.mk H
             clear H
             have hcz38_0 : wc.cell? ⟨gb126, 0, none⟩ = some (.int .i64 ((rd_T33 l0 x13_1).f0)):=(blk_cell BK126.out 0).trans rfl
             have hcz38_1 : wc.cell? ⟨gb126, 1, none⟩ = some (.int .i64 ((rd_T33 l0 x13_1).f1)):=(blk_cell BK126.out 1).trans rfl
             have hcz38_2 : wc.cell? ⟨gb126, 2, none⟩ = some (.string ((rd_T33 l0 x13_1).f2)):=(blk_cell BK126.out 2).trans rfl
             have hcz38_3 : wc.cell? ⟨gb126, 3, none⟩ = some (.int .i64 ((rd_T33 l0 x13_1).f3)):=(blk_cell BK126.out 3).trans rfl
             have hfz38_0:=blk_frozen BK126.out 0
             have hfz38_1:=blk_frozen BK126.out 1
             have hfz38_2:=blk_frozen BK126.out 2
             have hfz38_3:=blk_frozen BK126.out 3
             try go_wp2_with (first | ((with_reducible refine gate_callee (f:=22) rfl ?_);refine goesL_ (some 46) rfl rfl Try.func22 (by kernel_rfl) rfl #[.string ((rd_T33 l0 x13_1).f2)] rfl (by (try simp only [List.map_toArray, List.map_cons, List.map_nil]);first | done | rfl | (simp only [List.length_drop, List.length_take];rfl)) ?_;(with_reducible refine (words_Name.calls kj5 ((rd_T33 l0 x13_1).f2) true _ A20.out).mono ?_);rintro e w' ⟨rfl, ⟨nd, rfl⟩⟩;refine ⟨_, rfl, ?_⟩))
             (try (rw [drewN_self wc];generalize hq_ : World.drewN wc _ = wc;have n0_ : Aside0 (Kd.R (Kd.int .i64) 3 wc w.heap.size (fun _=>True) u3 x3_1):=⟨by rw [← hq_];exact (by (with_reducible repeat (first | apply Kd.R_alloc | apply Kd.R_drewN | apply Kd.R_drew));exact HO_3.out)⟩;have n1_ : Aside0 (wc.heap[gb126]? = some (.cells #[.int .i64 ((rd_T33 l0 x13_1).f0), .int .i64 ((rd_T33 l0 x13_1).f1), .string ((rd_T33 l0 x13_1).f2), .int .i64 ((rd_T33 l0 x13_1).f3)] 33 (0, 0))):=⟨by rw [← hq_];exact (by (with_reducible repeat (first | refine blk_drewN ?_ _ | refine blk_drew ?_ | refine blk_alloc ?_ _));exact BK126.out)⟩;have n2_ : Aside0 (Below w.heap.size w wc):=⟨by rw [← hq_];exact (by repeat (first | (with_reducible first | exact HB.out | apply below_alloc | apply pw_below_drewN | apply below_drew1 | refine below_set ?_ GE126.out) | exact HB.out))⟩;clear HO_3 BK126 HB hq_;have HO_3:=n0_;have BK126:=n1_;have HB:=n2_;clear n0_ n1_ n2_))
             have n0_:=Aside0.mk (Kd.R_drew HO_3.out)
             have n1_:=Aside0.mk (blk_drew BK126.out)
             have n2_:=Aside0.mk (below_drew1 HB.out)
             clear HO_3
             clear BK126
             clear HB
             have HO_3:=n0_
             have BK126:=n1_
             have HB:=n2_
             clear n0_ n1_ n2_
             refine start_ (n:=13) (S:=fun w'=>True) (ds:=[]) #[false, false, false, false, false, false, false, false, false, false, false, false, false] (by kernel_rfl) rfl rfl trivial (fun hHeld=>?_);refine with_tabW waterfall_Check.tab11 waterfall_Check.bits11 (fun HT_ HW_=>?_)
             generalize wc.drew = w39 at HO_3 BK126 HB hHeld ⊢
             refine pure_ (i:=0) (N:=some 49) (v:=?_) (a':=?_) #[true, false, false, false, false, false, false, false, false, false, false, false, false] rfl rfl (any_of HT_.out (by kernel_rfl)) (fun _ _ _ h=>h) (Or.inl ⟨by rfl, ?_⟩) ?_ ?_
             rotate_left
             ·intro w'
              go_simp
              with_reducible rfl
             rotate_left
             ·simp only [Act.put, List.setIfInBounds_toArray, List.set_cons_zero, List.set_cons_succ, i64_w, i32_w]
              rfl
             refine pure_ (i:=1) (N:=some 50) (v:=?_) (a':=?_) #[true, true, false, false, false, false, false, false, false, false, false, false, false] rfl rfl (any_of HT_.out (by kernel_rfl)) (fun _ _ _ h=>h) (Or.inl ⟨by rfl, ?_⟩) ?_ ?_
             rotate_left
             ·intro w'
              go_simp
              with_reducible rfl
             rotate_left
             ·simp only [Act.put, List.setIfInBounds_toArray, List.set_cons_zero, List.set_cons_succ, i64_w, i32_w]
              rfl
             refine pure_ (i:=2) (N:=some 51) (v:=?_) (a':=?_) #[true, true, true, false, false, false, false, false, false, false, false, false, false] rfl rfl (any_of HT_.out (by kernel_rfl)) (fun _ _ _ h=>h) (Or.inl ⟨by rfl, ?_⟩) ?_ ?_
             rotate_left
             ·intro w'
              go_simp
              with_reducible rfl
             rotate_left
             ·simp only [Act.put, List.setIfInBounds_toArray, List.set_cons_zero, List.set_cons_succ, i64_w, i32_w]
              rfl
             refine pure_ (i:=3) (N:=some 52) (v:=undef) (a':=?_) #[true, true, true, true, false, false, false, false, false, false, false, false, false] rfl rfl (any_of HT_.out (by kernel_rfl)) (fun _ _ _ h=>h) (Or.inr ⟨by rfl, rfl⟩) ?_ ?_
             rotate_left
             ·simp only [Act.put, List.setIfInBounds_toArray, List.set_cons_zero, List.set_cons_succ, i64_w, i32_w]
              rfl
             refine pure_ (i:=4) (N:=some 53) (v:=undef) (a':=?_) #[true, true, true, true, true, false, false, false, false, false, false, false, false] rfl rfl (any_of HT_.out (by kernel_rfl)) (fun _ _ _ h=>h) (Or.inr ⟨by rfl, rfl⟩) ?_ ?_
             rotate_left
             ·simp only [Act.put, List.setIfInBounds_toArray, List.set_cons_zero, List.set_cons_succ, i64_w, i32_w]
              rfl
             refine pure_ (i:=5) (N:=some 54) (v:=undef) (a':=?_) #[true, true, true, true, true, true, false, false, false, false, false, false, false] rfl rfl (any_of HT_.out (by kernel_rfl)) (fun _ _ _ h=>h) (Or.inr ⟨by rfl, rfl⟩) ?_ ?_
             rotate_left
             ·simp only [Act.put, List.setIfInBounds_toArray, List.set_cons_zero, List.set_cons_succ, i64_w, i32_w]
              rfl
             refine pure_ (i:=6) (N:=some 55) (v:=undef) (a':=?_) #[true, true, true, true, true, true, true, false, false, false, false, false, false] rfl rfl (any_of HT_.out (by kernel_rfl)) (fun _ _ _ h=>h) (Or.inr ⟨by rfl, rfl⟩) ?_ ?_
             rotate_left
             ·simp only [Act.put, List.setIfInBounds_toArray, List.set_cons_zero, List.set_cons_succ, i64_w, i32_w]
              rfl
             refine pure_ (i:=7) (N:=some 56) (v:=undef) (a':=?_) #[true, true, true, true, true, true, true, true, false, false, false, false, false] rfl rfl (any_of HT_.out (by kernel_rfl)) (fun _ _ _ h=>h) (Or.inr ⟨by rfl, rfl⟩) ?_ ?_
             rotate_left
             ·simp only [Act.put, List.setIfInBounds_toArray, List.set_cons_zero, List.set_cons_succ, i64_w, i32_w]
              rfl
             refine pure_ (i:=8) (N:=some 57) (v:=undef) (a':=?_) #[true, true, true, true, true, true, true, true, true, false, false, false, false] rfl rfl (any_of HT_.out (by kernel_rfl)) (fun _ _ _ h=>h) (Or.inr ⟨by rfl, rfl⟩) ?_ ?_
             rotate_left
             ·simp only [Act.put, List.setIfInBounds_toArray, List.set_cons_zero, List.set_cons_succ, i64_w, i32_w]
              rfl
             refine pure_ (i:=9) (N:=some 58) (v:=undef) (a':=?_) #[true, true, true, true, true, true, true, true, true, true, false, false, false] rfl rfl (any_of HT_.out (by kernel_rfl)) (fun _ _ _ h=>h) (Or.inr ⟨by rfl, rfl⟩) ?_ ?_
             rotate_left
             ·simp only [Act.put, List.setIfInBounds_toArray, List.set_cons_zero, List.set_cons_succ, i64_w, i32_w]
              rfl
             refine pure_ (i:=10) (N:=some 59) (v:=undef) (a':=?_) #[true, true, true, true, true, true, true, true, true, true, true, false, false] rfl rfl (any_of HT_.out (by kernel_rfl)) (fun _ _ _ h=>h) (Or.inr ⟨by rfl, rfl⟩) ?_ ?_
             rotate_left
             ·simp only [Act.put, List.setIfInBounds_toArray, List.set_cons_zero, List.set_cons_succ, i64_w, i32_w]
              rfl
             refine pure_ (i:=11) (N:=some 60) (v:=?_) (a':=?_) #[true, true, true, true, true, true, true, true, true, true, true, true, false] rfl rfl (any_of HT_.out (by kernel_rfl)) (fun _ _ _ h=>h) (Or.inl ⟨by rfl, ?_⟩) ?_ ?_
             rotate_left
             ·intro w'
              go_simp
              with_reducible rfl
             rotate_left
             ·simp only [Act.put, List.setIfInBounds_toArray, List.set_cons_zero, List.set_cons_succ, i64_w, i32_w]
              rfl
             refine pure_ (i:=12) (N:=some 48) (v:=?_) (a':=?_) #[true, true, true, true, true, true, true, true, true, true, true, true, true] rfl rfl (any_of HT_.out (by kernel_rfl)) (fun _ _ _ h=>h) (Or.inl ⟨by rfl, ?_⟩) ?_ ?_
             rotate_left
             ·intro w'
              go_simp
              with_reducible rfl
             rotate_left
             ·simp only [Act.put, List.setIfInBounds_toArray, List.set_cons_zero, List.set_cons_succ, i64_w, i32_w]
              rfl
             refine done_ (done_of HT_.out (by kernel_rfl)) ?_
             have hcz40_0 : w39.cell? ⟨gb126, 0, none⟩ = some (.int .i64 ((rd_T33 l0 x13_1).f0)):=(blk_cell BK126.out 0).trans rfl
             have hcz40_1 : w39.cell? ⟨gb126, 1, none⟩ = some (.int .i64 ((rd_T33 l0 x13_1).f1)):=(blk_cell BK126.out 1).trans rfl
             have hcz40_2 : w39.cell? ⟨gb126, 2, none⟩ = some (.string ((rd_T33 l0 x13_1).f2)):=(blk_cell BK126.out 2).trans rfl
             have hcz40_3 : w39.cell? ⟨gb126, 3, none⟩ = some (.int .i64 ((rd_T33 l0 x13_1).f3)):=(blk_cell BK126.out 3).trans rfl
             have hfz40_0:=blk_frozen BK126.out 0
             have hfz40_1:=blk_frozen BK126.out 1
             have hfz40_2:=blk_frozen BK126.out 2
             have hfz40_3:=blk_frozen BK126.out 3
             try go_wp2_with (first | ((with_reducible refine gate_builtin (b:=.append) (xs:=#[.tmp 61, .tmp 64]) rfl ?_);at_builtin;refine Kd.R_append (Kd.int .i64) (w0:=w) w.heap.size rfl (.tmp 61) (.tmp 64) 26 3 (.int .i64 0) 8 rfl Try.underlying26 info3 rfl (by decide) (by omega) u3 x3_1 ((rd_T33 l0 x13_1).f3) [.int .i64 ((rd_T33 l0 x13_1).f3)] (fun _=>True) (fun _=>False) rfl rfl ?aP (fun _ hk=>hk.elim) ?aF ?aO ?aB ?aS ?aL ?_;(case aP=>exact rfl);(case aB=>exact (by repeat (first | (with_reducible first | exact HB.out | apply below_alloc | apply pw_below_drewN | apply below_drew1 | refine below_set ?_ GE126.out) | exact HB.out)));(case aF=>exact (fun _ _=>trivial));(case aO=>exact (by (with_reducible repeat (first | apply Kd.R_alloc | apply Kd.R_drewN | apply Kd.R_drew));exact HO_3.out));(case aS=>exact (below_size (by repeat (first | (with_reducible first | exact HB.out | apply below_alloc | apply pw_below_drewN | apply below_drew1 | refine below_set ?_ GE126.out) | exact HB.out))));(case aL=>have:=LMc37.out;omega);intro v135 w41 ho hb hg hat;rw [← Ny134.out] at ho;have n0_:=Aside0.mk (blk_grown (g:=gb126) (o:=.cells #[.int .i64 ((rd_T33 l0 x13_1).f0), .int .i64 ((rd_T33 l0 x13_1).f1), .string ((rd_T33 l0 x13_1).f2), .int .i64 ((rd_T33 l0 x13_1).f3)] 33 (0, 0)) (by (with_reducible repeat (first | refine blk_drewN ?_ _ | refine blk_drew ?_ | refine blk_alloc ?_ _));exact BK126.out) hg (Kd.R_ne HO_3.out BK126.out (by decide)));have n1_:=Aside0.mk (hb);have n2_:=Aside0.mk (ho);clear BK126 HB HO_3;have BK126:=n0_;have HB:=n1_;have HO136:=n2_;clear n0_ n1_ n2_ ho hb hg hat))
             go_roundg kj5
             case measure=>have:=HK1.out;have:=HJ5.out;omega
             case rel=>exact ⟨(y134), (wrap64 (x13_1 + 1)), (by first | rfl | (simp;done) | (simp [*];done)), H', ⟨by have:=HK1.out;have:=HJ5.out;omega⟩, ⟨by (with_reducible repeat (first | apply Kd.R_alloc | apply Kd.R_drewN | apply Kd.R_drew));exact HO136.out⟩, ⟨by repeat (first | (with_reducible first | exact HB.out | apply below_alloc | apply pw_below_drewN | apply below_drew1 | refine below_set ?_ GE126.out) | exact HB.out)⟩⟩
            ·rw [if_neg c37] at H
             exact absurd H (by simp)
          ·replace c21:=Bool.eq_false_iff.mpr c21
           subst c21
           have H1 : (some 10) = some r:=by rw [if_neg (show ¬ (false = true) by decide)] at H;exact H
           clear H
           have H:=H1
           clear H1
           obtain rfl:=Option.some.inj H
           have hcz42_0 : wc.cell? ⟨gb126, 0, none⟩ = some (.int .i64 ((rd_T33 l0 x13_1).f0)):=(blk_cell BK126.out 0).trans rfl
           have hcz42_1 : wc.cell? ⟨gb126, 1, none⟩ = some (.int .i64 ((rd_T33 l0 x13_1).f1)):=(blk_cell BK126.out 1).trans rfl
           have hcz42_2 : wc.cell? ⟨gb126, 2, none⟩ = some (.string ((rd_T33 l0 x13_1).f2)):=(blk_cell BK126.out 2).trans rfl
           have hcz42_3 : wc.cell? ⟨gb126, 3, none⟩ = some (.int .i64 ((rd_T33 l0 x13_1).f3)):=(blk_cell BK126.out 3).trans rfl
           have hfz42_0:=blk_frozen BK126.out 0
           have hfz42_1:=blk_frozen BK126.out 1
           have hfz42_2:=blk_frozen BK126.out 2
           have hfz42_3:=blk_frozen BK126.out 3
           go_wp2_with (first | ((with_reducible refine gate_callee (f:=22) rfl ?_);refine goesL_ (some 46) rfl rfl Try.func22 (by kernel_rfl) rfl #[.string ((rd_T33 l0 x13_1).f2)] rfl (by (try simp only [List.map_toArray, List.map_cons, List.map_nil]);first | done | rfl | (simp only [List.length_drop, List.length_take];rfl)) ?_;(with_reducible refine (words_Name.calls kj5 ((rd_T33 l0 x13_1).f2) false _ A20.out).mono ?_);rintro e w' ⟨rfl, ⟨nd, rfl⟩⟩;refine ⟨_, rfl, ?_⟩))
           go_ret
           exact ⟨by first | rfl | (simp [errW_none, errW_some] <;> rfl) | (simp [*, errW_none, errW_some] <;> rfl), by repeat (first | (with_reducible first | exact HB.out | apply below_alloc | apply pw_below_drewN | apply below_drew1 | refine below_set ?_ GE126.out) | exact HB.out)⟩
      ·rw [if_neg c5] at H
       exact absurd H (by simp)
     ·rw [if_neg c4] at H
      exact absurd H (by simp)
    ·rw [if_neg c3] at H
     have c3b0 : decide (x13_1 < (l0.length : Int)) = false:=decide_eq_false c3
     clear c3
     replace H:=Option.bind_eq_some_iff.mp H
     obtain ⟨⟨t123, t124⟩, A430, H⟩:=H
     replace H : (some t124) = some r:=H
     have A43:=Aside0.mk A430
     clear A430
     obtain rfl:=Option.some.inj H
     obtain ⟨Ao44, co44, eo44⟩:=Kd.R_slice HO_3.out
     subst eo44
     go_wp2_with (first | ((with_reducible refine gate_callee (f:=24) rfl ?_);refine goesL_ (some 69) rfl rfl Try.func24 (by kernel_rfl) rfl #[.slice Ao44 x3_1.length co44] rfl (by (try simp only [List.map_toArray, List.map_cons, List.map_nil]);first | done | rfl | (simp only [List.length_drop, List.length_take];rfl)) ?_;(with_reducible refine (cents_Sum.calls k1 _ _ x3_1 t123 t124 _ ?side1 ?side2 A43.out).mono ?_);(case side1=>repeat (first | exact (Kd.R_reads' HO_3.out).2.2 | (with_reducible refine Kd.C_alloc ?_ _) | (with_reducible refine Kd.C_drewN ?_ _) | (with_reducible refine Kd.C_drew ?_)));(case side2=>exact (Kd.R_reads' HO_3.out).2.1);rintro e w' ⟨rfl, ⟨nd, rfl⟩⟩;refine ⟨_, rfl, ?_⟩))
     go_ret
     exact ⟨by first | rfl | (simp [errW_none, errW_some] <;> rfl) | (simp [*, errW_none, errW_some] <;> rfl), by repeat (first | (with_reducible first | exact HB.out | apply below_alloc | apply pw_below_drewN | apply below_drew1) | exact HB.out)⟩

end Go.Proofs.Ytlkdilfheplmhaa.PTopLosses
