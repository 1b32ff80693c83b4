/- Laid for this claim by a program of this session's (wip/mkprint.py, wip/ext.py); not trusted: Lean checks it. -/
import Derived.Test.YtfogpifjpnonnaaPWaterfallReturnsx0
import Derived.Test.YtfogpifjpnonnaaPWaterfallReturnsx6
import Derived.Test.YtfogpifjpnonnaaPWaterfallReturnsx15
namespace Go.Proofs.Ytfogpifjpnonnaa.PWaterfallReturns
open Go.RowKit Go.Proofs.YtfogpifjpnonnaaW.PrintWords Go.Proofs.YtfogpifjpnonnaaW.PrintLast Go.Proofs.YtfogpifjpnonnaaW.PrintMore
attribute [local go_sem] max2_int min2_int max_two min_two max_three min_three max_four min_four   -- for this text's walks alone
set_option linter.unusedVariables false
set_option linter.unusedSimpArgs false

/-! ### waterfall_Left: function 23 -/
def waterfall_Left.l0 : Nat → List Int → List (S37) → List (S37) → Int → Int → Option ((List (S37)) × Int)
 | 0, _, _, _, _, _=>none
 | k + 1, x1, x7, x16, x17, x18=>if x18 < x17 then (if 0 ≤ x18 then (if x18 < (x16.length : Int) then (if x18 < (x1.length : Int) then (if ((rd_T37 x16 x18).f3) > (rd x1 x18) then (if x7.length < 3518437208883 then (waterfall_Left.l0 k x1 (x7 ++ [(⟨(rd_T37 x16 x18).f0, (rd_T37 x16 x18).f1, (rd_T37 x16 x18).f2, wrap64 (((rd_T37 x16 x18).f3) - (rd x1 x18))⟩ : S37)]) x16 x17 (wrap64 (x18 + 1))) else (none)) else (waterfall_Left.l0 k x1 x7 x16 x17 (wrap64 (x18 + 1)))) else (none)) else (none)) else (none)) else (some (x7, 0))
def waterfall_Left.f (k : Nat) (l0 : List (S37)) (l1 : List Int) : Option ((List (S37)) × Int):=(waterfall_check.f k l0 l1 0).bind fun t294=>(if t294 = 0 then (waterfall_Left.l0 k l1 ([] : List (S37)) l0 (l0.length : Int) 0) else (some (([] : List (S37)), t294)))
theorem waterfall_Left.mono_l : ∀ k, (∀ y0 y1 y2 y3 y4, LeO (waterfall_Left.l0 k y0 y1 y2 y3 y4) (waterfall_Left.l0 (k + 1) y0 y1 y2 y3 y4))
 | 0=>fun _ _ _ _ _ r h=>by simp [waterfall_Left.l0] at h
 | k + 1=>by
  have ih0:=waterfall_Left.mono_l k
  ·intro y0 y1 y2 y3 y4
   unfold waterfall_Left.l0
   repeat' first
   | (with_reducible exact ih0 _ _ _ _ _)
   | (with_reducible exact waterfall_check.mono _ _ _ _)
   | (with_reducible exact LeO.refl _)
   | (with_reducible exact LeO.none _)
   | (with_reducible refine LeO.ite ?_ ?_)
   | (with_reducible refine LeO.bind ?_ (fun _=>?_))
   | exact ih0 _ _ _ _ _
   | exact waterfall_check.mono _ _ _ _
   | exact LeO.none _
   | refine LeO.ite ?_ ?_
   | refine LeO.bind ?_ (fun _=>?_)
theorem waterfall_Left.mono : ∀ a0 a1 k, LeO (waterfall_Left.f k a0 a1) (waterfall_Left.f (k + 1) a0 a1):=by
 intro a0 a1 k
 have ih0:=waterfall_Left.mono_l k
 unfold waterfall_Left.f
 repeat' first
   | (with_reducible exact ih0 _ _ _ _ _)
   | (with_reducible exact waterfall_check.mono _ _ _ _)
   | (with_reducible exact LeO.refl _)
   | (with_reducible exact LeO.none _)
   | (with_reducible refine LeO.ite ?_ ?_)
   | (with_reducible refine LeO.bind ?_ (fun _=>?_))
   | exact ih0 _ _ _ _ _
   | exact waterfall_check.mono _ _ _ _
   | exact LeO.none _
   | refine LeO.ite ?_ ?_
   | refine LeO.bind ?_ (fun _=>?_)
def waterfall_Left.T9 : Bool × List (List Nat × List Nat):=(true, [([], []), ([0], [0]), ([], []), ([], []), ([2, 3], [2, 3]), ([4], [4]), ([1, 5], [1, 5]), ([0, 1, 2, 3, 4, 5, 6], []), ([7, 6, 0, 1, 2, 3, 4, 5, 6], [6, 7])])
def waterfall_Left.B9 : List Nat:=[0, 1, 0, 0, 12, 28, 63, 127, 255]
theorem waterfall_Left.tab9 : rtab .any (opsOf Try.f23 9) = waterfall_Left.T9:=by kernel_rfl
theorem waterfall_Left.bits9 : waitsOk waterfall_Left.T9.2 waterfall_Left.B9 = true:=by kernel_rfl
set_option maxHeartbeats 8000000 in
set_option maxRecDepth 100000 in
theorem waterfall_Left.calls (k : Nat) (A0 : Option Addr) (c0 : Nat) (l0 : List (S37)) (A1 : Option Addr) (c1 : Nat) (l1 : List Int) (r1 : List (S37)) (r2 : Int) (w : World) (hr0 : Kd.C k37 w A0 l0.length l0) (hc0 : l0.length ≤ c0) (hr1 : Kd.C (Kd.int .i64) w A1 l1.length l1) (hc1 : l1.length ≤ c1) (h : waterfall_Left.f k l0 l1 = some (r1, r2)) :
  Calls Try.prog 23 #[.slice A0 l0.length c0, .slice A1 l1.length c1] w fun e w'=>∃ v0_ : Value, e = .returned (.tuple #[v0_, .int .i64 r2]) ∧ Kd.R k37 37 w' w.heap.size (fun _=>True) v0_ r1 ∧ Below w.heap.size w w':=by
 have hu37:=Try.underlying37
 have HR0:=Aside0.mk hr0
 have HC0:=Aside0.mk hc0
 clear hr0 hc0
 have HR1:=Aside0.mk hr1
 have HC1:=Aside0.mk hc1
 clear hr1 hc1
 have HB:=Aside0.mk (Below.refl w.heap.size w)
 have H : ((waterfall_check.f k l0 l1 0).bind fun t294=>(if t294 = 0 then (waterfall_Left.l0 k l1 ([] : List (S37)) l0 (l0.length : Int) 0) else (some (([] : List (S37)), t294)))) = some (r1, r2):=h
 clear h
 replace H:=Option.bind_eq_some_iff.mp H
 obtain ⟨t294, A30, H⟩:=H
 replace H : (if t294 = 0 then (waterfall_Left.l0 k l1 ([] : List (S37)) l0 (l0.length : Int) 0) else (some (([] : List (S37)), t294))) = some (r1, r2):=H
 have A3:=Aside0.mk A30
 clear A30
 by_cases c4 : t294 = 0
 ·rw [if_pos c4] at H
  have c4b0 : (t294 == 0) = true:=beq_iff_eq.mpr c4
  have c4b1 : (t294 != 0) = false:=bne_eq_false_iff_eq.mpr c4
  clear c4
  have H':=Aside0.mk H
  clear H
  go_enter Try.func23, Try.ntmps23
  go_wp2_with (first | ((with_reducible refine gate_callee (f:=43) rfl ?_);refine goesL_ (some 12) rfl rfl Try.func43 (by kernel_rfl) rfl #[.slice A0 l0.length c0, .slice A1 l1.length c1, .int .i64 0] rfl (by (try simp only [List.map_toArray, List.map_cons, List.map_nil]);first | done | rfl | (simp only [List.length_drop, List.length_take];rfl)) ?_;(with_reducible refine (waterfall_check.calls k _ _ l0 _ _ l1 0 t294 _ ?side1 ?side2 ?side3 ?side4 A3.out).mono ?_);(case side1=>repeat (first | exact HR0.out | (with_reducible refine Kd.C_alloc ?_ _) | (with_reducible refine Kd.C_drewN ?_ _) | (with_reducible refine Kd.C_drew ?_)));(case side2=>exact HC0.out);(case side3=>repeat (first | exact HR1.out | (with_reducible refine Kd.C_alloc ?_ _) | (with_reducible refine Kd.C_drewN ?_ _) | (with_reducible refine Kd.C_drew ?_)));(case side4=>exact HC1.out);rintro e w5 ⟨rfl, hb⟩;refine ⟨_, rfl, ?_⟩;have n0_:=Aside0.mk (below_step (by repeat (first | (with_reducible first | exact HB.out | apply below_alloc | apply pw_below_drewN | apply below_drew1) | exact HB.out)) hb);clear HB;have HB:=n0_;clear n0_;(try clear hb);(try clear hb2);(try clear hk);(try clear hi)))
  go_loopg [7, 18] k (fun kq v7 v18 w'=>∃ (x7_1 : List (S37)) (x18_1 : Int), v18 = .int .i64 x18_1 ∧ Aside0 (waterfall_Left.l0 kq l1 x7_1 l0 (l0.length : Int) x18_1 = some (r1, r2)) ∧ Aside0 (kq ≤ k) ∧ Aside0 (Kd.R k37 37 w' w.heap.size (fun _=>True) v7 x7_1) ∧ Aside0 (Below w.heap.size w w'))
  case atStart=>exact ⟨(([] : List (S37))), (0), (by first | rfl | (simp;done) | (simp [*];done)), H', ⟨Nat.le_refl _⟩, ⟨by first | exact Kd.R_nil _ _ _ _ _ | exact Kd.N_nil _ _ _ _ _ | exact Kd.V_nil _ _ _ _ _ | exact Kd.Q_nil _ _ _ _ _ | exact Kd.S_nil _ _ _ _ _⟩, ⟨by repeat (first | (with_reducible first | exact HB.out | apply below_alloc | apply pw_below_drewN | apply below_drew1) | exact HB.out)⟩⟩
  case round =>
   clear H'
   try clear c1
   try clear c2
   try clear p2
   try clear c4
   try clear c4b0
   try clear c4b1
   obtain ⟨x7_1, x18_1, rfl, HA, HK1, HO_7, HB⟩:=hrel
   cases gk with
   | zero=>exact absurd HA.out (by simp [waterfall_Left.l0])
   | succ k1 =>
    have H:=HA.out
    clear HA
    simp only [waterfall_Left.l0] at H
    by_cases c6 : x18_1 < (l0.length : Int)
    ·rw [if_pos c6] at H
     have c6b0 : decide (x18_1 < (l0.length : Int)) = true:=decide_eq_true c6
     clear c6
     by_cases c7 : 0 ≤ x18_1
     ·rw [if_pos c7] at H
      have c7b0 : decide (0 ≤ x18_1) = true:=decide_eq_true c7
      clear c7
      by_cases c8 : x18_1 < (l0.length : Int)
      ·rw [if_pos c8] at H
       have c8b0 : decide (x18_1 < (l0.length : Int)) = true:=decide_eq_true c8
       clear c8
       by_cases c9 : x18_1 < (l1.length : Int)
       ·rw [if_pos c9] at H
        have c9b0 : decide (x18_1 < (l1.length : Int)) = true:=decide_eq_true c9
        clear c9
        by_cases c10 : ((rd_T37 l0 x18_1).f3) > (rd l1 x18_1)
        ·rw [if_pos c10] at H
         have c10b0 : decide ((rd l1 x18_1) < ((rd_T37 l0 x18_1).f3)) = true:=decide_eq_true c10
         clear c10
         by_cases c11 : x7_1.length < 3518437208883
         ·rw [if_pos c11] at H
          have LMc11:=Aside0.mk c11
          clear c11
          obtain ⟨y299, hy299⟩ : ∃ y_ : List (S37), y_ = (x7_1 ++ [(⟨(rd_T37 l0 x18_1).f0, (rd_T37 l0 x18_1).f1, (rd_T37 l0 x18_1).f2, wrap64 (((rd_T37 l0 x18_1).f3) - (rd l1 x18_1))⟩ : S37)]):=⟨_, rfl⟩
          replace H : (waterfall_Left.l0 k1 l1 y299 l0 (l0.length : Int) (wrap64 (x18_1 + 1))) = some (r1, r2):=by first | (rw [hy299];with_reducible exact H) | (have H2_:=(Option.bind_some _ _).symm.trans H;rw [hy299];with_reducible exact H2_) | (have H2_:=(Option.bind_some _ _).symm.trans H;with_reducible exact H2_) | with_reducible exact H | (rw [hy299];exact H) | exact H
          have Ny299:=Aside0.mk hy299
          clear hy299
          have H':=Aside0.mk H
          clear H
          have p295 : 0 ≤ (x18_1 : Int):=of_decide_eq_true (by first | (with_reducible assumption) | assumption)
          have q295 : x18_1 < (l0.length : Int):=of_decide_eq_true (by first | (with_reducible assumption) | assumption)
          obtain ⟨ad295, e295, hx295_0, hx295_1, hx295_2, hx295_3⟩:=at_T37 HR0.out x18_1 p295 q295
          cases e295
          replace hx295_0:=(HB.out.cell (World.block_lt_of_cell? w _ hx295_0)).trans hx295_0
          replace hx295_1:=(HB.out.cell (World.block_lt_of_cell? w _ hx295_1)).trans hx295_1
          replace hx295_2:=(HB.out.cell (World.block_lt_of_cell? w _ hx295_2)).trans hx295_2
          replace hx295_3:=(HB.out.cell (World.block_lt_of_cell? w _ hx295_3)).trans hx295_3
          replace p295:=eq_true p295
          replace q295:=eq_true q295
          try go_wp2_with (first | ((with_reducible refine gate_dst (N:=9) rfl ?_);refine box_event ?hg (N:=9) ?hd (cs:=#[.int .i64 0, .int .i64 0, .string (⟨#[]⟩ : ByteArray), .int .i64 0]) (t:=37) ?hr ?_;(case hd=>rfl);(case hg=>rfl);(case hr=>first | (go_simp;done) | (go_simp;rfl));intro gb296 hg w12 hbox hb;have n0_:=Aside0.mk (Kd.R_below (Kd.R_elderB (by (with_reducible repeat (first | apply Kd.R_alloc | apply Kd.R_drewN | apply Kd.R_drew));exact HO_7.out) gb296 (Nat.le_of_eq hg.symm)) hb);have n1_:=Aside0.mk (below_step (by repeat (first | (with_reducible first | exact HB.out | apply below_alloc | apply pw_below_drewN | apply below_drew1) | exact HB.out)) hb);have n2_:=Aside0.mk (hbox);have n3_:=Aside0.mk ((by rw [hg];exact (below_size (by repeat (first | (with_reducible first | exact HB.out | apply below_alloc | apply pw_below_drewN | apply below_drew1) | exact HB.out))) : w.heap.size ≤ gb296));have n4_:=Aside0.mk ((by rw [hg];exact (below_size (by repeat (first | (with_reducible first | exact HB.out | apply below_alloc | apply pw_below_drewN | apply below_drew1) | exact HB.out))) : w.heap.size ≤ gb296));clear HO_7 HB;have HO_7:=n0_;have HB:=n1_;have BK296:=n2_;have GW296:=n3_;have GE296:=n4_;clear n0_ n1_ n2_ n3_ n4_ hb hbox hg;have hcz13_0 : w12.cell? ⟨gb296, 0, none⟩ = some (.int .i64 0):=(blk_cell BK296.out 0).trans rfl;have hcz13_1 : w12.cell? ⟨gb296, 1, none⟩ = some (.int .i64 0):=(blk_cell BK296.out 1).trans rfl;have hcz13_2 : w12.cell? ⟨gb296, 2, none⟩ = some (.string (⟨#[]⟩ : ByteArray)):=(blk_cell BK296.out 2).trans rfl;have hcz13_3 : w12.cell? ⟨gb296, 3, none⟩ = some (.int .i64 0):=(blk_cell BK296.out 3).trans rfl;have hfz13_0:=blk_frozen BK296.out 0;have hfz13_1:=blk_frozen BK296.out 1;have hfz13_2:=blk_frozen BK296.out 2;have hfz13_3:=blk_frozen BK296.out 3))
          have n0_ : Aside0 (Kd.R k37 37 ((((w12.setCell ⟨gb296, 0, none⟩ (.int .i64 ((rd_T37 l0 x18_1).f0))).setCell ⟨gb296, 1, none⟩ (.int .i64 ((rd_T37 l0 x18_1).f1))).setCell ⟨gb296, 2, none⟩ (.string ((rd_T37 l0 x18_1).f2))).setCell ⟨gb296, 3, none⟩ (.int .i64 ((rd_T37 l0 x18_1).f3))) w.heap.size (fun k_=>k_ ≠ gb296) u7 x7_1):=⟨by (with_reducible repeat (first | apply Kd.R_alloc | apply Kd.R_drewN | apply Kd.R_drew));exact Kd.R_mono (Kd.R_far (p:=⟨gb296, 3, none⟩) (Kd.R_far (p:=⟨gb296, 2, none⟩) (Kd.R_far (p:=⟨gb296, 1, none⟩) (Kd.R_far (p:=⟨gb296, 0, none⟩) (Kd.R_mono HO_7.out (fun k_ hk=>(⟨hk, hk.2⟩ : _ ∧ k_ ≠ gb296))) (fun _ hk=>hk.2) (.int .i64 ((rd_T37 l0 x18_1).f0))) (fun _ hk=>hk.2) (.int .i64 ((rd_T37 l0 x18_1).f1))) (fun _ hk=>hk.2) (.string ((rd_T37 l0 x18_1).f2))) (fun _ hk=>hk.2) (.int .i64 ((rd_T37 l0 x18_1).f3))) (fun _ hk=>hk.1.2)⟩
          have n1_ : Aside0 (((((w12.setCell ⟨gb296, 0, none⟩ (.int .i64 ((rd_T37 l0 x18_1).f0))).setCell ⟨gb296, 1, none⟩ (.int .i64 ((rd_T37 l0 x18_1).f1))).setCell ⟨gb296, 2, none⟩ (.string ((rd_T37 l0 x18_1).f2))).setCell ⟨gb296, 3, none⟩ (.int .i64 ((rd_T37 l0 x18_1).f3))).heap[gb296]? = some (.cells #[.int .i64 ((rd_T37 l0 x18_1).f0), .int .i64 ((rd_T37 l0 x18_1).f1), .string ((rd_T37 l0 x18_1).f2), .int .i64 ((rd_T37 l0 x18_1).f3)] 37 (0, 0))):=⟨by (with_reducible repeat (first | refine blk_drewN ?_ _ | refine blk_drew ?_ | refine blk_alloc ?_ _));refine blk_put (cs:=#[.int .i64 ((rd_T37 l0 x18_1).f0), .int .i64 ((rd_T37 l0 x18_1).f1), .string ((rd_T37 l0 x18_1).f2), .int .i64 0]) ?_ 3 _ rfl;(with_reducible repeat (first | refine blk_drewN ?_ _ | refine blk_drew ?_ | refine blk_alloc ?_ _));refine blk_put (cs:=#[.int .i64 ((rd_T37 l0 x18_1).f0), .int .i64 ((rd_T37 l0 x18_1).f1), .string (⟨#[]⟩ : ByteArray), .int .i64 0]) ?_ 2 _ rfl;(with_reducible repeat (first | refine blk_drewN ?_ _ | refine blk_drew ?_ | refine blk_alloc ?_ _));refine blk_put (cs:=#[.int .i64 ((rd_T37 l0 x18_1).f0), .int .i64 0, .string (⟨#[]⟩ : ByteArray), .int .i64 0]) ?_ 1 _ rfl;(with_reducible repeat (first | refine blk_drewN ?_ _ | refine blk_drew ?_ | refine blk_alloc ?_ _));refine blk_put (cs:=#[.int .i64 0, .int .i64 0, .string (⟨#[]⟩ : ByteArray), .int .i64 0]) ?_ 0 _ rfl;(with_reducible repeat (first | refine blk_drewN ?_ _ | refine blk_drew ?_ | refine blk_alloc ?_ _));exact BK296.out⟩
          have n2_ : Aside0 (Below w.heap.size w ((((w12.setCell ⟨gb296, 0, none⟩ (.int .i64 ((rd_T37 l0 x18_1).f0))).setCell ⟨gb296, 1, none⟩ (.int .i64 ((rd_T37 l0 x18_1).f1))).setCell ⟨gb296, 2, none⟩ (.string ((rd_T37 l0 x18_1).f2))).setCell ⟨gb296, 3, none⟩ (.int .i64 ((rd_T37 l0 x18_1).f3)))):=⟨by repeat (first | (with_reducible first | exact HB.out | apply below_alloc | apply pw_below_drewN | apply below_drew1 | refine below_set ?_ GE296.out) | exact HB.out)⟩
          (try clear HO_7)
          (try clear BK296)
          (try clear HB)
          generalize ((((w12.setCell ⟨gb296, 0, none⟩ (.int .i64 ((rd_T37 l0 x18_1).f0))).setCell ⟨gb296, 1, none⟩ (.int .i64 ((rd_T37 l0 x18_1).f1))).setCell ⟨gb296, 2, none⟩ (.string ((rd_T37 l0 x18_1).f2))).setCell ⟨gb296, 3, none⟩ (.int .i64 ((rd_T37 l0 x18_1).f3))) = w14 at n0_ n1_ n2_ ⊢
          have HO_7:=n0_
          have BK296:=n1_
          have HB:=n2_
          clear n0_ n1_ n2_
          have n0_:=Aside0.mk (Kd.R_drew HO_7.out)
          have n1_:=Aside0.mk (blk_drew BK296.out)
          have n2_:=Aside0.mk (below_drew1 HB.out)
          clear HO_7
          clear BK296
          clear HB
          have HO_7:=n0_
          have BK296:=n1_
          have HB:=n2_
          clear n0_ n1_ n2_
          have p297 : 0 ≤ (x18_1 : Int):=of_decide_eq_true (by first | (with_reducible assumption) | assumption)
          have q297 : x18_1 < (l1.length : Int):=of_decide_eq_true (by first | (with_reducible assumption) | assumption)
          obtain ⟨ad297, e297, hx297_0⟩:=Kd.at_int HR1.out x18_1 p297 q297
          have hw297_0:=hx297_0
          cases e297
          replace hx297_0:=(HB.out.cell (World.block_lt_of_cell? w _ hx297_0)).trans hx297_0
          replace p297:=eq_true p297
          replace q297:=eq_true q297
          refine start_ (n:=7) (S:=fun w'=>w'.cell? ⟨gb296, 0, none⟩ = some (.int .i64 ((rd_T37 l0 x18_1).f0)) ∧ w'.cell? ⟨gb296, 1, none⟩ = some (.int .i64 ((rd_T37 l0 x18_1).f1)) ∧ w'.cell? ⟨gb296, 2, none⟩ = some (.string ((rd_T37 l0 x18_1).f2)) ∧ w'.cell? ⟨gb296, 3, none⟩ = some (.int .i64 ((rd_T37 l0 x18_1).f3)) ∧ w'.cell? (ad297.add (x18_1).toNat) = some (.int .i64 (rd l1 x18_1))) (ds:=[]) #[false, false, false, false, false, false, false] (by kernel_rfl) rfl rfl ⟨(blk_cell BK296.out 0).trans rfl, (blk_cell BK296.out 1).trans rfl, (blk_cell BK296.out 2).trans rfl, (blk_cell BK296.out 3).trans rfl, ((HB.out.cell (World.block_lt_of_cell? w _ hw297_0)).trans hw297_0)⟩ (fun hHeld=>?_)
          generalize w14.drew = w15 at HO_7 BK296 HB hx297_0 hHeld ⊢
          refine pure_ (i:=0) (N:=some 23) (v:=?_) (a':=?_) #[true, false, false, false, false, false, false] rfl rfl (by kernel_rfl) (fun _ _ _ h=>h) (Or.inl ⟨by rfl, ?_⟩) ?_ ?_
          rotate_left
          ·intro w'
           go_simp
           with_reducible rfl
          rotate_left
          ·simp only [Act.put, List.setIfInBounds_toArray, List.set_cons_zero, List.set_cons_succ, i64_w, i32_w]
           rfl
          refine pure_ (i:=2) (N:=some 25) (v:=?_) (a':=?_) #[true, false, true, false, false, false, false] rfl rfl (by kernel_rfl) (fun _ _ _ h=>h) (Or.inl ⟨by rfl, ?_⟩) ?_ ?_
          rotate_left
          ·intro w'
           go_simp
           with_reducible rfl
          rotate_left
          ·simp only [Act.put, List.setIfInBounds_toArray, List.set_cons_zero, List.set_cons_succ, i64_w, i32_w]
           rfl
          refine pure_ (i:=3) (N:=some 26) (v:=?_) (a':=?_) #[true, false, true, true, false, false, false] rfl rfl (by kernel_rfl) (fun _ _ _ h=>h) (Or.inl ⟨by rfl, ?_⟩) ?_ ?_
          rotate_left
          ·intro w'
           go_simp
           with_reducible rfl
          rotate_left
          ·simp only [Act.put, List.setIfInBounds_toArray, List.set_cons_zero, List.set_cons_succ, i64_w, i32_w]
           rfl
          refine pure_ (i:=4) (N:=some 27) (v:=?_) (a':=?_) #[true, false, true, true, true, false, false] rfl rfl (by kernel_rfl) (fun _ _ _ h=>h) (Or.inl ⟨by rfl, ?_⟩) ?_ ?_
          rotate_left
          ·intro w'
           go_simp
           with_reducible rfl
          rotate_left
          ·simp only [Act.put, List.setIfInBounds_toArray, List.set_cons_zero, List.set_cons_succ, i64_w, i32_w]
           rfl
          refine take_ (i:=1) (N:=some 24) (v:=?_) (a':=?_) #[true, true, true, true, true, false, false] rfl rfl (by kernel_rfl) (fun _ _ _ h=>h) (Or.inl ⟨by rfl, ?_⟩) hHeld ?_ ?_
          rotate_left
          ·rintro w' ⟨s0, s1, s2, s3, s4⟩
           go_simp
           with_reducible rfl
          rotate_left
          ·simp only [Act.put, List.setIfInBounds_toArray, List.set_cons_zero, List.set_cons_succ, i64_w, i32_w]
           rfl
          refine take_ (i:=5) (N:=some 28) (v:=?_) (a':=?_) #[true, true, true, true, true, true, false] rfl rfl (by kernel_rfl) (fun _ _ _ h=>h) (Or.inl ⟨by rfl, ?_⟩) hHeld ?_ ?_
          rotate_left
          ·rintro w' ⟨s0, s1, s2, s3, s4⟩
           go_simp
           with_reducible rfl
          rotate_left
          ·simp only [Act.put, List.setIfInBounds_toArray, List.set_cons_zero, List.set_cons_succ, i64_w, i32_w]
           rfl
          refine pure_ (i:=6) (N:=some 29) (v:=?_) (a':=?_) #[true, true, true, true, true, true, true] rfl rfl (by kernel_rfl) (fun _ _ _ h=>h) (Or.inl ⟨by rfl, ?_⟩) ?_ ?_
          rotate_left
          ·intro w'
           go_simp
           with_reducible rfl
          rotate_left
          ·simp only [Act.put, List.setIfInBounds_toArray, List.set_cons_zero, List.set_cons_succ, i64_w, i32_w]
           rfl
          refine done_ (by kernel_rfl) ?_
          try go_wp2
          have n0_:=Aside0.mk (Kd.R_drew HO_7.out)
          have n1_:=Aside0.mk (blk_drew BK296.out)
          have n2_:=Aside0.mk (below_drew1 HB.out)
          clear HO_7
          clear BK296
          clear HB
          have HO_7:=n0_
          have BK296:=n1_
          have HB:=n2_
          clear n0_ n1_ n2_
          have p298 : 0 ≤ (x18_1 : Int):=of_decide_eq_true (by first | (with_reducible assumption) | assumption)
          have q298 : x18_1 < (l1.length : Int):=of_decide_eq_true (by first | (with_reducible assumption) | assumption)
          obtain ⟨ad298, e298, hx298_0⟩:=Kd.at_int HR1.out x18_1 p298 q298
          have hw298_0:=hx298_0
          obtain rfl : ad297 = ad298:=(by injection e298)
          replace hx298_0:=(HB.out.cell (World.block_lt_of_cell? w _ hx298_0)).trans hx298_0
          replace p298:=eq_true p298
          replace q298:=eq_true q298
          refine start_ (n:=9) (S:=fun w'=>w'.cell? ⟨gb296, 0, none⟩ = some (.int .i64 ((rd_T37 l0 x18_1).f0)) ∧ w'.cell? ⟨gb296, 1, none⟩ = some (.int .i64 ((rd_T37 l0 x18_1).f1)) ∧ w'.cell? ⟨gb296, 2, none⟩ = some (.string ((rd_T37 l0 x18_1).f2)) ∧ w'.cell? ⟨gb296, 3, none⟩ = some (.int .i64 ((rd_T37 l0 x18_1).f3)) ∧ w'.cell? (ad297.add (x18_1).toNat) = some (.int .i64 (rd l1 x18_1))) (ds:=[8]) #[false, false, false, false, false, false, false, false, false] (by kernel_rfl) rfl rfl ⟨(blk_cell BK296.out 0).trans rfl, (blk_cell BK296.out 1).trans rfl, (blk_cell BK296.out 2).trans rfl, (blk_cell BK296.out 3).trans rfl, ((HB.out.cell (World.block_lt_of_cell? w _ hw298_0)).trans hw298_0)⟩ (fun hHeld=>?_);refine with_tabW waterfall_Left.tab9 waterfall_Left.bits9 (fun HT_ HW_=>?_)
          generalize w15.drew = w16 at HO_7 BK296 HB hx298_0 hHeld ⊢
          refine pure_ (i:=0) (N:=some 30) (v:=?_) (a':=?_) #[true, false, false, false, false, false, false, false, false] rfl rfl (any_of HT_.out (by kernel_rfl)) (fun _ _ _ h=>h) (Or.inl ⟨by rfl, ?_⟩) ?_ ?_
          rotate_left
          ·intro w'
           go_simp
           with_reducible rfl
          rotate_left
          ·simp only [Act.put, List.setIfInBounds_toArray, List.set_cons_zero, List.set_cons_succ, i64_w, i32_w]
           rfl
          refine pure_ (i:=2) (N:=some 32) (v:=?_) (a':=?_) #[true, false, true, false, false, false, false, false, false] rfl rfl (any_of HT_.out (by kernel_rfl)) (fun _ _ _ h=>h) (Or.inl ⟨by rfl, ?_⟩) ?_ ?_
          rotate_left
          ·intro w'
           go_simp
           with_reducible rfl
          rotate_left
          ·simp only [Act.put, List.setIfInBounds_toArray, List.set_cons_zero, List.set_cons_succ, i64_w, i32_w]
           rfl
          refine pure_ (i:=3) (N:=some 33) (v:=?_) (a':=?_) #[true, false, true, true, false, false, false, false, false] rfl rfl (any_of HT_.out (by kernel_rfl)) (fun _ _ _ h=>h) (Or.inl ⟨by rfl, ?_⟩) ?_ ?_
          rotate_left
          ·intro w'
           go_simp
           with_reducible rfl
          rotate_left
          ·simp only [Act.put, List.setIfInBounds_toArray, List.set_cons_zero, List.set_cons_succ, i64_w, i32_w]
           rfl
          refine pure_ (i:=4) (N:=some 34) (v:=?_) (a':=?_) #[true, false, true, true, true, false, false, false, false] rfl rfl (any_of HT_.out (by kernel_rfl)) (fun _ _ _ h=>h) (Or.inl ⟨by rfl, ?_⟩) ?_ ?_
          rotate_left
          ·intro w'
           go_simp
           with_reducible rfl
          rotate_left
          ·simp only [Act.put, List.setIfInBounds_toArray, List.set_cons_zero, List.set_cons_succ, i64_w, i32_w]
           rfl
          refine take_ (i:=1) (N:=some 31) (v:=?_) (a':=?_) #[true, true, true, true, true, false, false, false, false] rfl rfl (take_ofW HT_.out HW_.out (by kernel_rfl)) (fun _ _ _ h=>h) (Or.inl ⟨by rfl, ?_⟩) hHeld ?_ ?_
          rotate_left
          ·rintro w' ⟨s0, s1, s2, s3, s4⟩
           go_simp
           with_reducible rfl
          rotate_left
          ·simp only [Act.put, List.setIfInBounds_toArray, List.set_cons_zero, List.set_cons_succ, i64_w, i32_w]
           rfl
          refine take_ (i:=5) (N:=some 35) (v:=?_) (a':=?_) #[true, true, true, true, true, true, false, false, false] rfl rfl (take_ofW HT_.out HW_.out (by kernel_rfl)) (fun _ _ _ h=>h) (Or.inl ⟨by rfl, ?_⟩) hHeld ?_ ?_
          rotate_left
          ·rintro w' ⟨s0, s1, s2, s3, s4⟩
           go_simp
           with_reducible rfl
          rotate_left
          ·simp only [Act.put, List.setIfInBounds_toArray, List.set_cons_zero, List.set_cons_succ, i64_w, i32_w]
           rfl
          refine pure_ (i:=6) (N:=some 36) (v:=?_) (a':=?_) #[true, true, true, true, true, true, true, false, false] rfl rfl (any_of HT_.out (by kernel_rfl)) (fun _ _ _ h=>h) (Or.inl ⟨by rfl, ?_⟩) ?_ ?_
          rotate_left
          ·intro w'
           go_simp
           with_reducible rfl
          rotate_left
          ·simp only [Act.put, List.setIfInBounds_toArray, List.set_cons_zero, List.set_cons_succ, i64_w, i32_w]
           rfl
          refine pure_ (i:=7) (N:=some 37) (v:=?_) (a':=?_) #[true, true, true, true, true, true, true, true, false] rfl rfl (any_of HT_.out (by kernel_rfl)) (fun _ _ _ h=>h) (Or.inl ⟨by rfl, ?_⟩) ?_ ?_
          rotate_left
          ·intro w'
           go_simp
           with_reducible rfl
          rotate_left
          ·simp only [Act.put, List.setIfInBounds_toArray, List.set_cons_zero, List.set_cons_succ, i64_w, i32_w]
           rfl
          refine last_ (i:=8) (N:=none) #[true, true, true, true, true, true, true, true, true] rfl rfl (one_of HT_.out (by kernel_rfl)) (by decide) (fun K hK=>?_)
          have hs17 : w16.cell? ⟨gb296, 3, none⟩ = some (.int .i64 ((rd_T37 l0 x18_1).f3)):=(blk_cell BK296.out 3).trans rfl
          have hfs17:=blk_frozen BK296.out 3
          refine skip_ (w1:=?_) (by rfl) rfl ?_ ?_
          rotate_left
          ·go_simp
           rfl
          refine hK.out _ _ ?_
          clear hK K
          refine done_ (done_of HT_.out (by kernel_rfl)) ?_
          have hcz18_0 : w16.cell? ⟨gb296, 0, none⟩ = some (.int .i64 ((rd_T37 l0 x18_1).f0)):=(blk_cell BK296.out 0).trans rfl
          have hcz18_1 : w16.cell? ⟨gb296, 1, none⟩ = some (.int .i64 ((rd_T37 l0 x18_1).f1)):=(blk_cell BK296.out 1).trans rfl
          have hcz18_2 : w16.cell? ⟨gb296, 2, none⟩ = some (.string ((rd_T37 l0 x18_1).f2)):=(blk_cell BK296.out 2).trans rfl
          have hcz18_3 : w16.cell? ⟨gb296, 3, none⟩ = some (.int .i64 ((rd_T37 l0 x18_1).f3)):=(blk_cell BK296.out 3).trans rfl
          have hfz18_0:=blk_frozen BK296.out 0
          have hfz18_1:=blk_frozen BK296.out 1
          have hfz18_2:=blk_frozen BK296.out 2
          have hfz18_3:=blk_frozen BK296.out 3
          try go_wp2_with (first | ((with_reducible refine gate_builtin (b:=.append) (xs:=#[.tmp 38, .tmp 40]) rfl ?_);at_builtin;refine Kd.R_append k37 (w0:=w) w.heap.size rfl (.tmp 38) (.tmp 40) 22 37 (.agg #[(.int .i64 0), (.int .i64 0), (.string ⟨#[]⟩), (.int .i64 0)]) 40 rfl Try.underlying22 info37 rfl (by decide) (by omega) u7 x7_1 (⟨(rd_T37 l0 x18_1).f0, (rd_T37 l0 x18_1).f1, (rd_T37 l0 x18_1).f2, wrap64 (((rd_T37 l0 x18_1).f3) - (rd l1 x18_1))⟩ : S37) [.int .i64 ((rd_T37 l0 x18_1).f0), .int .i64 ((rd_T37 l0 x18_1).f1), .string ((rd_T37 l0 x18_1).f2), .int .i64 (wrap64 (((rd_T37 l0 x18_1).f3) - (rd l1 x18_1)))] (fun k_=>k_ ≠ gb296) (fun _=>False) rfl (by first | (go_simp;done) | (go_simp;rfl)) ?aP (fun _ hk=>hk.elim) ?aF ?aO ?aB ?aS ?aL ?_;(case aP=>exact k37_mkM _ _ _ (⟨(rd_T37 l0 x18_1).f0, (rd_T37 l0 x18_1).f1, (rd_T37 l0 x18_1).f2, wrap64 (((rd_T37 l0 x18_1).f3) - (rd l1 x18_1))⟩ : S37));(case aB=>exact (by repeat (first | (with_reducible first | exact HB.out | apply below_alloc | apply pw_below_drewN | apply below_drew1 | refine below_set ?_ GE296.out) | exact HB.out)));(case aF=>exact (fun k_ hk=>Kd.freshB (g:=gb296) (o:=.cells #[.int .i64 ((rd_T37 l0 x18_1).f0), .int .i64 ((rd_T37 l0 x18_1).f1), .string ((rd_T37 l0 x18_1).f2), .int .i64 (wrap64 (((rd_T37 l0 x18_1).f3) - (rd l1 x18_1)))] 37 (0, 0)) (by (with_reducible repeat (first | refine blk_drewN ?_ _ | refine blk_drew ?_ | refine blk_alloc ?_ _));refine blk_put (cs:=#[.int .i64 ((rd_T37 l0 x18_1).f0), .int .i64 ((rd_T37 l0 x18_1).f1), .string ((rd_T37 l0 x18_1).f2), .int .i64 ((rd_T37 l0 x18_1).f3)]) ?_ 3 _ rfl;(with_reducible repeat (first | refine blk_drewN ?_ _ | refine blk_drew ?_ | refine blk_alloc ?_ _));exact BK296.out) k_ hk));(case aO=>exact (by (with_reducible repeat (first | apply Kd.R_alloc | apply Kd.R_drewN | apply Kd.R_drew));exact Kd.R_mono (Kd.R_far (p:=⟨gb296, 3, none⟩) (Kd.R_mono HO_7.out (fun k_ hk=>(⟨hk, hk⟩ : _ ∧ k_ ≠ gb296))) (fun _ hk=>hk.2) (.int .i64 (wrap64 (((rd_T37 l0 x18_1).f3) - (rd l1 x18_1))))) (fun _ hk=>hk.1)));(case aS=>exact (below_size (by repeat (first | (with_reducible first | exact HB.out | apply below_alloc | apply pw_below_drewN | apply below_drew1 | refine below_set ?_ GE296.out) | exact HB.out))));(case aL=>have:=LMc11.out;omega);intro v300 w19 ho hb hg hat;rw [← Ny299.out] at ho;have n0_:=Aside0.mk (blk_grown (g:=gb296) (o:=.cells #[.int .i64 ((rd_T37 l0 x18_1).f0), .int .i64 ((rd_T37 l0 x18_1).f1), .string ((rd_T37 l0 x18_1).f2), .int .i64 (wrap64 (((rd_T37 l0 x18_1).f3) - (rd l1 x18_1)))] 37 (0, 0)) (by (with_reducible repeat (first | refine blk_drewN ?_ _ | refine blk_drew ?_ | refine blk_alloc ?_ _));refine blk_put (cs:=#[.int .i64 ((rd_T37 l0 x18_1).f0), .int .i64 ((rd_T37 l0 x18_1).f1), .string ((rd_T37 l0 x18_1).f2), .int .i64 ((rd_T37 l0 x18_1).f3)]) ?_ 3 _ rfl;(with_reducible repeat (first | refine blk_drewN ?_ _ | refine blk_drew ?_ | refine blk_alloc ?_ _));exact BK296.out) hg (Kd.R_away HO_7.out (fun _ hk=>hk)));have n1_:=Aside0.mk (hb);have n2_:=Aside0.mk (ho);clear BK296 HB HO_7;have BK296:=n0_;have HB:=n1_;have HO301:=n2_;clear n0_ n1_ n2_ ho hb hg hat))
          go_roundg k1
          case measure=>have:=HK1.out;omega
          case rel=>exact ⟨(y299), (wrap64 (x18_1 + 1)), (by first | rfl | (simp;done) | (simp [*];done)), H', ⟨by have:=HK1.out;omega⟩, ⟨by (with_reducible repeat (first | apply Kd.R_alloc | apply Kd.R_drewN | apply Kd.R_drew));exact Kd.R_mono HO301.out (fun _ hk=>trivial)⟩, ⟨by repeat (first | (with_reducible first | exact HB.out | apply below_alloc | apply pw_below_drewN | apply below_drew1 | refine below_set ?_ GE296.out) | exact HB.out)⟩⟩
         ·rw [if_neg c11] at H
          exact absurd H (by simp)
        ·rw [if_neg c10] at H
         have c10b0 : decide ((rd l1 x18_1) < ((rd_T37 l0 x18_1).f3)) = false:=decide_eq_false c10
         clear c10
         have H':=Aside0.mk H
         clear H
         have p295 : 0 ≤ (x18_1 : Int):=of_decide_eq_true (by first | (with_reducible assumption) | assumption)
         have q295 : x18_1 < (l0.length : Int):=of_decide_eq_true (by first | (with_reducible assumption) | assumption)
         obtain ⟨ad295, e295, hx295_0, hx295_1, hx295_2, hx295_3⟩:=at_T37 HR0.out x18_1 p295 q295
         cases e295
         replace hx295_0:=(HB.out.cell (World.block_lt_of_cell? w _ hx295_0)).trans hx295_0
         replace hx295_1:=(HB.out.cell (World.block_lt_of_cell? w _ hx295_1)).trans hx295_1
         replace hx295_2:=(HB.out.cell (World.block_lt_of_cell? w _ hx295_2)).trans hx295_2
         replace hx295_3:=(HB.out.cell (World.block_lt_of_cell? w _ hx295_3)).trans hx295_3
         replace p295:=eq_true p295
         replace q295:=eq_true q295
         try go_wp2_with (first | ((with_reducible refine gate_dst (N:=9) rfl ?_);refine box_event ?hg (N:=9) ?hd (cs:=#[.int .i64 0, .int .i64 0, .string (⟨#[]⟩ : ByteArray), .int .i64 0]) (t:=37) ?hr ?_;(case hd=>rfl);(case hg=>rfl);(case hr=>first | (go_simp;done) | (go_simp;rfl));intro gb296 hg w20 hbox hb;have n0_:=Aside0.mk (Kd.R_below (Kd.R_elderB (by (with_reducible repeat (first | apply Kd.R_alloc | apply Kd.R_drewN | apply Kd.R_drew));exact HO_7.out) gb296 (Nat.le_of_eq hg.symm)) hb);have n1_:=Aside0.mk (below_step (by repeat (first | (with_reducible first | exact HB.out | apply below_alloc | apply pw_below_drewN | apply below_drew1) | exact HB.out)) hb);have n2_:=Aside0.mk (hbox);have n3_:=Aside0.mk ((by rw [hg];exact (below_size (by repeat (first | (with_reducible first | exact HB.out | apply below_alloc | apply pw_below_drewN | apply below_drew1) | exact HB.out))) : w.heap.size ≤ gb296));have n4_:=Aside0.mk ((by rw [hg];exact (below_size (by repeat (first | (with_reducible first | exact HB.out | apply below_alloc | apply pw_below_drewN | apply below_drew1) | exact HB.out))) : w.heap.size ≤ gb296));clear HO_7 HB;have HO_7:=n0_;have HB:=n1_;have BK296:=n2_;have GW296:=n3_;have GE296:=n4_;clear n0_ n1_ n2_ n3_ n4_ hb hbox hg;have hcz21_0 : w20.cell? ⟨gb296, 0, none⟩ = some (.int .i64 0):=(blk_cell BK296.out 0).trans rfl;have hcz21_1 : w20.cell? ⟨gb296, 1, none⟩ = some (.int .i64 0):=(blk_cell BK296.out 1).trans rfl;have hcz21_2 : w20.cell? ⟨gb296, 2, none⟩ = some (.string (⟨#[]⟩ : ByteArray)):=(blk_cell BK296.out 2).trans rfl;have hcz21_3 : w20.cell? ⟨gb296, 3, none⟩ = some (.int .i64 0):=(blk_cell BK296.out 3).trans rfl;have hfz21_0:=blk_frozen BK296.out 0;have hfz21_1:=blk_frozen BK296.out 1;have hfz21_2:=blk_frozen BK296.out 2;have hfz21_3:=blk_frozen BK296.out 3))
         have n0_ : Aside0 (Kd.R k37 37 ((((w20.setCell ⟨gb296, 0, none⟩ (.int .i64 ((rd_T37 l0 x18_1).f0))).setCell ⟨gb296, 1, none⟩ (.int .i64 ((rd_T37 l0 x18_1).f1))).setCell ⟨gb296, 2, none⟩ (.string ((rd_T37 l0 x18_1).f2))).setCell ⟨gb296, 3, none⟩ (.int .i64 ((rd_T37 l0 x18_1).f3))) w.heap.size (fun k_=>k_ ≠ gb296) u7 x7_1):=⟨by (with_reducible repeat (first | apply Kd.R_alloc | apply Kd.R_drewN | apply Kd.R_drew));exact Kd.R_mono (Kd.R_far (p:=⟨gb296, 3, none⟩) (Kd.R_far (p:=⟨gb296, 2, none⟩) (Kd.R_far (p:=⟨gb296, 1, none⟩) (Kd.R_far (p:=⟨gb296, 0, none⟩) (Kd.R_mono HO_7.out (fun k_ hk=>(⟨hk, hk.2⟩ : _ ∧ k_ ≠ gb296))) (fun _ hk=>hk.2) (.int .i64 ((rd_T37 l0 x18_1).f0))) (fun _ hk=>hk.2) (.int .i64 ((rd_T37 l0 x18_1).f1))) (fun _ hk=>hk.2) (.string ((rd_T37 l0 x18_1).f2))) (fun _ hk=>hk.2) (.int .i64 ((rd_T37 l0 x18_1).f3))) (fun _ hk=>hk.1.2)⟩
         have n1_ : Aside0 (((((w20.setCell ⟨gb296, 0, none⟩ (.int .i64 ((rd_T37 l0 x18_1).f0))).setCell ⟨gb296, 1, none⟩ (.int .i64 ((rd_T37 l0 x18_1).f1))).setCell ⟨gb296, 2, none⟩ (.string ((rd_T37 l0 x18_1).f2))).setCell ⟨gb296, 3, none⟩ (.int .i64 ((rd_T37 l0 x18_1).f3))).heap[gb296]? = some (.cells #[.int .i64 ((rd_T37 l0 x18_1).f0), .int .i64 ((rd_T37 l0 x18_1).f1), .string ((rd_T37 l0 x18_1).f2), .int .i64 ((rd_T37 l0 x18_1).f3)] 37 (0, 0))):=⟨by (with_reducible repeat (first | refine blk_drewN ?_ _ | refine blk_drew ?_ | refine blk_alloc ?_ _));refine blk_put (cs:=#[.int .i64 ((rd_T37 l0 x18_1).f0), .int .i64 ((rd_T37 l0 x18_1).f1), .string ((rd_T37 l0 x18_1).f2), .int .i64 0]) ?_ 3 _ rfl;(with_reducible repeat (first | refine blk_drewN ?_ _ | refine blk_drew ?_ | refine blk_alloc ?_ _));refine blk_put (cs:=#[.int .i64 ((rd_T37 l0 x18_1).f0), .int .i64 ((rd_T37 l0 x18_1).f1), .string (⟨#[]⟩ : ByteArray), .int .i64 0]) ?_ 2 _ rfl;(with_reducible repeat (first | refine blk_drewN ?_ _ | refine blk_drew ?_ | refine blk_alloc ?_ _));refine blk_put (cs:=#[.int .i64 ((rd_T37 l0 x18_1).f0), .int .i64 0, .string (⟨#[]⟩ : ByteArray), .int .i64 0]) ?_ 1 _ rfl;(with_reducible repeat (first | refine blk_drewN ?_ _ | refine blk_drew ?_ | refine blk_alloc ?_ _));refine blk_put (cs:=#[.int .i64 0, .int .i64 0, .string (⟨#[]⟩ : ByteArray), .int .i64 0]) ?_ 0 _ rfl;(with_reducible repeat (first | refine blk_drewN ?_ _ | refine blk_drew ?_ | refine blk_alloc ?_ _));exact BK296.out⟩
         have n2_ : Aside0 (Below w.heap.size w ((((w20.setCell ⟨gb296, 0, none⟩ (.int .i64 ((rd_T37 l0 x18_1).f0))).setCell ⟨gb296, 1, none⟩ (.int .i64 ((rd_T37 l0 x18_1).f1))).setCell ⟨gb296, 2, none⟩ (.string ((rd_T37 l0 x18_1).f2))).setCell ⟨gb296, 3, none⟩ (.int .i64 ((rd_T37 l0 x18_1).f3)))):=⟨by repeat (first | (with_reducible first | exact HB.out | apply below_alloc | apply pw_below_drewN | apply below_drew1 | refine below_set ?_ GE296.out) | exact HB.out)⟩
         (try clear HO_7)
         (try clear BK296)
         (try clear HB)
         generalize ((((w20.setCell ⟨gb296, 0, none⟩ (.int .i64 ((rd_T37 l0 x18_1).f0))).setCell ⟨gb296, 1, none⟩ (.int .i64 ((rd_T37 l0 x18_1).f1))).setCell ⟨gb296, 2, none⟩ (.string ((rd_T37 l0 x18_1).f2))).setCell ⟨gb296, 3, none⟩ (.int .i64 ((rd_T37 l0 x18_1).f3))) = w22 at n0_ n1_ n2_ ⊢
         have HO_7:=n0_
         have BK296:=n1_
         have HB:=n2_
         clear n0_ n1_ n2_
         have n0_:=Aside0.mk (Kd.R_drew HO_7.out)
         have n1_:=Aside0.mk (blk_drew BK296.out)
         have n2_:=Aside0.mk (below_drew1 HB.out)
         clear HO_7
         clear BK296
         clear HB
         have HO_7:=n0_
         have BK296:=n1_
         have HB:=n2_
         clear n0_ n1_ n2_
         have p297 : 0 ≤ (x18_1 : Int):=of_decide_eq_true (by first | (with_reducible assumption) | assumption)
         have q297 : x18_1 < (l1.length : Int):=of_decide_eq_true (by first | (with_reducible assumption) | assumption)
         obtain ⟨ad297, e297, hx297_0⟩:=Kd.at_int HR1.out x18_1 p297 q297
         have hw297_0:=hx297_0
         cases e297
         replace hx297_0:=(HB.out.cell (World.block_lt_of_cell? w _ hx297_0)).trans hx297_0
         replace p297:=eq_true p297
         replace q297:=eq_true q297
         refine start_ (n:=7) (S:=fun w'=>w'.cell? ⟨gb296, 0, none⟩ = some (.int .i64 ((rd_T37 l0 x18_1).f0)) ∧ w'.cell? ⟨gb296, 1, none⟩ = some (.int .i64 ((rd_T37 l0 x18_1).f1)) ∧ w'.cell? ⟨gb296, 2, none⟩ = some (.string ((rd_T37 l0 x18_1).f2)) ∧ w'.cell? ⟨gb296, 3, none⟩ = some (.int .i64 ((rd_T37 l0 x18_1).f3)) ∧ w'.cell? (ad297.add (x18_1).toNat) = some (.int .i64 (rd l1 x18_1))) (ds:=[]) #[false, false, false, false, false, false, false] (by kernel_rfl) rfl rfl ⟨(blk_cell BK296.out 0).trans rfl, (blk_cell BK296.out 1).trans rfl, (blk_cell BK296.out 2).trans rfl, (blk_cell BK296.out 3).trans rfl, ((HB.out.cell (World.block_lt_of_cell? w _ hw297_0)).trans hw297_0)⟩ (fun hHeld=>?_)
         generalize w22.drew = w23 at HO_7 BK296 HB hx297_0 hHeld ⊢
         refine pure_ (i:=0) (N:=some 23) (v:=?_) (a':=?_) #[true, false, false, false, false, false, false] rfl rfl (by kernel_rfl) (fun _ _ _ h=>h) (Or.inl ⟨by rfl, ?_⟩) ?_ ?_
         rotate_left
         ·intro w'
          go_simp
          with_reducible rfl
         rotate_left
         ·simp only [Act.put, List.setIfInBounds_toArray, List.set_cons_zero, List.set_cons_succ, i64_w, i32_w]
          rfl
         refine pure_ (i:=2) (N:=some 25) (v:=?_) (a':=?_) #[true, false, true, false, false, false, false] rfl rfl (by kernel_rfl) (fun _ _ _ h=>h) (Or.inl ⟨by rfl, ?_⟩) ?_ ?_
         rotate_left
         ·intro w'
          go_simp
          with_reducible rfl
         rotate_left
         ·simp only [Act.put, List.setIfInBounds_toArray, List.set_cons_zero, List.set_cons_succ, i64_w, i32_w]
          rfl
         refine pure_ (i:=3) (N:=some 26) (v:=?_) (a':=?_) #[true, false, true, true, false, false, false] rfl rfl (by kernel_rfl) (fun _ _ _ h=>h) (Or.inl ⟨by rfl, ?_⟩) ?_ ?_
         rotate_left
         ·intro w'
          go_simp
          with_reducible rfl
         rotate_left
         ·simp only [Act.put, List.setIfInBounds_toArray, List.set_cons_zero, List.set_cons_succ, i64_w, i32_w]
          rfl
         refine pure_ (i:=4) (N:=some 27) (v:=?_) (a':=?_) #[true, false, true, true, true, false, false] rfl rfl (by kernel_rfl) (fun _ _ _ h=>h) (Or.inl ⟨by rfl, ?_⟩) ?_ ?_
         rotate_left
         ·intro w'
          go_simp
          with_reducible rfl
         rotate_left
         ·simp only [Act.put, List.setIfInBounds_toArray, List.set_cons_zero, List.set_cons_succ, i64_w, i32_w]
          rfl
         refine take_ (i:=1) (N:=some 24) (v:=?_) (a':=?_) #[true, true, true, true, true, false, false] rfl rfl (by kernel_rfl) (fun _ _ _ h=>h) (Or.inl ⟨by rfl, ?_⟩) hHeld ?_ ?_
         rotate_left
         ·rintro w' ⟨s0, s1, s2, s3, s4⟩
          go_simp
          with_reducible rfl
         rotate_left
         ·simp only [Act.put, List.setIfInBounds_toArray, List.set_cons_zero, List.set_cons_succ, i64_w, i32_w]
          rfl
         refine take_ (i:=5) (N:=some 28) (v:=?_) (a':=?_) #[true, true, true, true, true, true, false] rfl rfl (by kernel_rfl) (fun _ _ _ h=>h) (Or.inl ⟨by rfl, ?_⟩) hHeld ?_ ?_
         rotate_left
         ·rintro w' ⟨s0, s1, s2, s3, s4⟩
          go_simp
          with_reducible rfl
         rotate_left
         ·simp only [Act.put, List.setIfInBounds_toArray, List.set_cons_zero, List.set_cons_succ, i64_w, i32_w]
          rfl
         refine pure_ (i:=6) (N:=some 29) (v:=?_) (a':=?_) #[true, true, true, true, true, true, true] rfl rfl (by kernel_rfl) (fun _ _ _ h=>h) (Or.inl ⟨by rfl, ?_⟩) ?_ ?_
         rotate_left
         ·intro w'
          go_simp
          with_reducible rfl
         rotate_left
         ·simp only [Act.put, List.setIfInBounds_toArray, List.set_cons_zero, List.set_cons_succ, i64_w, i32_w]
          rfl
         refine done_ (by kernel_rfl) ?_
         try go_wp2
         go_roundg k1
         case measure=>have:=HK1.out;omega
         case rel=>exact ⟨(x7_1), (wrap64 (x18_1 + 1)), (by first | rfl | (simp;done) | (simp [*];done)), H', ⟨by have:=HK1.out;omega⟩, ⟨by (with_reducible repeat (first | apply Kd.R_alloc | apply Kd.R_drewN | apply Kd.R_drew));exact Kd.R_mono HO_7.out (fun _ hk=>trivial)⟩, ⟨by repeat (first | (with_reducible first | exact HB.out | apply below_alloc | apply pw_below_drewN | apply below_drew1 | refine below_set ?_ GE296.out) | exact HB.out)⟩⟩
       ·rw [if_neg c9] at H
        exact absurd H (by simp)
      ·rw [if_neg c8] at H
       exact absurd H (by simp)
     ·rw [if_neg c7] at H
      exact absurd H (by simp)
    ·rw [if_neg c6] at H
     have c6b0 : decide (x18_1 < (l0.length : Int)) = false:=decide_eq_false c6
     clear c6
     simp only [Option.some.injEq, Prod.mk.injEq] at H
     obtain ⟨rfl, rfl⟩:=H
     go_wp2
     go_ret2
     exact ⟨_, by first | rfl | (simp [errW_none, errW_some] <;> rfl) | (simp [*, errW_none, errW_some] <;> rfl), by (with_reducible repeat (first | apply Kd.R_alloc | apply Kd.R_drewN | apply Kd.R_drew));exact HO_7.out, by repeat (first | (with_reducible first | exact HB.out | apply below_alloc | apply pw_below_drewN | apply below_drew1) | exact HB.out)⟩
 ·rw [if_neg c4] at H
  have c4b0 : (t294 == 0) = false:=beq_eq_false_iff_ne.mpr c4
  have c4b1 : (t294 != 0) = true:=bne_iff_ne.mpr c4
  simp only [Option.some.injEq, Prod.mk.injEq] at H
  obtain ⟨rfl, rfl⟩:=H
  go_enter Try.func23, Try.ntmps23
  go_wp2_with (first | ((with_reducible refine gate_callee (f:=43) rfl ?_);refine goesL_ (some 12) rfl rfl Try.func43 (by kernel_rfl) rfl #[.slice A0 l0.length c0, .slice A1 l1.length c1, .int .i64 0] rfl (by (try simp only [List.map_toArray, List.map_cons, List.map_nil]);first | done | rfl | (simp only [List.length_drop, List.length_take];rfl)) ?_;(with_reducible refine (waterfall_check.calls k _ _ l0 _ _ l1 0 t294 _ ?side1 ?side2 ?side3 ?side4 A3.out).mono ?_);(case side1=>repeat (first | exact HR0.out | (with_reducible refine Kd.C_alloc ?_ _) | (with_reducible refine Kd.C_drewN ?_ _) | (with_reducible refine Kd.C_drew ?_)));(case side2=>exact HC0.out);(case side3=>repeat (first | exact HR1.out | (with_reducible refine Kd.C_alloc ?_ _) | (with_reducible refine Kd.C_drewN ?_ _) | (with_reducible refine Kd.C_drew ?_)));(case side4=>exact HC1.out);rintro e w24 ⟨rfl, hb⟩;refine ⟨_, rfl, ?_⟩;have n0_:=Aside0.mk (below_step (by repeat (first | (with_reducible first | exact HB.out | apply below_alloc | apply pw_below_drewN | apply below_drew1) | exact HB.out)) hb);clear HB;have HB:=n0_;clear n0_;(try clear hb);(try clear hb2);(try clear hk);(try clear hi)))
  go_ret2
  exact ⟨_, by first | rfl | (simp [errW_none, errW_some] <;> rfl) | (simp [*, errW_none, errW_some] <;> rfl), by first | exact Kd.R_nil _ _ _ _ _ | exact Kd.N_nil _ _ _ _ _ | exact Kd.V_nil _ _ _ _ _ | exact Kd.Q_nil _ _ _ _ _ | exact Kd.S_nil _ _ _ _ _, by repeat (first | (with_reducible first | exact HB.out | apply below_alloc | apply pw_below_drewN | apply below_drew1) | exact HB.out)⟩

/-! ### cr47_Left: function 24 -/
def cr47_Left.l0 : Nat → List (S37) → List Int → List (S37) → Int → Option ((List (S37)) × Int)
 | 0, _, _, _, _=>none
 | k + 1, x0, x1, x7, x8=>if x8 < (x0.length : Int) then (if 0 ≤ x8 then (if x8 < (x1.length : Int) then (if (wrap64 (((rd_T37 x0 x8).f3) - (rd x1 x8))) > 0 then (if x7.length < 3518437208883 then (cr47_Left.l0 k x0 x1 (x7 ++ [(⟨(rd_T37 x0 x8).f0, (rd_T37 x0 x8).f1, (rd_T37 x0 x8).f2, wrap64 (((rd_T37 x0 x8).f3) - (rd x1 x8))⟩ : S37)]) (wrap64 (x8 + 1))) else (none)) else (cr47_Left.l0 k x0 x1 x7 (wrap64 (x8 + 1)))) else (none)) else (none)) else (some (x7, 0))
def cr47_Left.f (k : Nat) (l0 : List (S37)) (l1 : List Int) : Option ((List (S37)) × Int):=(cr47_right.f k l0 l1).bind fun t302=>(if t302 = 0 then (cr47_Left.l0 k l0 l1 (([] : List (S37))) 0) else (some (([] : List (S37)), t302)))
theorem cr47_Left.mono_l : ∀ k, (∀ y0 y1 y2 y3, LeO (cr47_Left.l0 k y0 y1 y2 y3) (cr47_Left.l0 (k + 1) y0 y1 y2 y3))
 | 0=>fun _ _ _ _ r h=>by simp [cr47_Left.l0] at h
 | k + 1=>by
  have ih0:=cr47_Left.mono_l k
  ·intro y0 y1 y2 y3
   unfold cr47_Left.l0
   repeat' first
   | (with_reducible exact ih0 _ _ _ _)
   | (with_reducible exact cr47_right.mono _ _ _)
   | (with_reducible exact LeO.refl _)
   | (with_reducible exact LeO.none _)
   | (with_reducible refine LeO.ite ?_ ?_)
   | (with_reducible refine LeO.bind ?_ (fun _=>?_))
   | exact ih0 _ _ _ _
   | exact cr47_right.mono _ _ _
   | exact LeO.none _
   | refine LeO.ite ?_ ?_
   | refine LeO.bind ?_ (fun _=>?_)
theorem cr47_Left.mono : ∀ a0 a1 k, LeO (cr47_Left.f k a0 a1) (cr47_Left.f (k + 1) a0 a1):=by
 intro a0 a1 k
 have ih0:=cr47_Left.mono_l k
 unfold cr47_Left.f
 repeat' first
   | (with_reducible exact ih0 _ _ _ _)
   | (with_reducible exact cr47_right.mono _ _ _)
   | (with_reducible exact LeO.refl _)
   | (with_reducible exact LeO.none _)
   | (with_reducible refine LeO.ite ?_ ?_)
   | (with_reducible refine LeO.bind ?_ (fun _=>?_))
   | exact ih0 _ _ _ _
   | exact cr47_right.mono _ _ _
   | exact LeO.none _
   | refine LeO.ite ?_ ?_
   | refine LeO.bind ?_ (fun _=>?_)
def cr47_Left.T9 : Bool × List (List Nat × List Nat):=(true, [([], []), ([0], [0]), ([], []), ([], []), ([2, 3], [2, 3]), ([4], [4]), ([1, 5], [1, 5]), ([0, 1, 2, 3, 4, 5, 6], []), ([7, 6, 0, 1, 2, 3, 4, 5, 6], [6, 7])])
def cr47_Left.B9 : List Nat:=[0, 1, 0, 0, 12, 28, 63, 127, 255]
theorem cr47_Left.tab9 : rtab .any (opsOf Try.f24 9) = cr47_Left.T9:=by kernel_rfl
theorem cr47_Left.bits9 : waitsOk cr47_Left.T9.2 cr47_Left.B9 = true:=by kernel_rfl
set_option maxHeartbeats 8000000 in
set_option maxRecDepth 100000 in
theorem cr47_Left.calls (k : Nat) (A0 : Option Addr) (c0 : Nat) (l0 : List (S37)) (A1 : Option Addr) (c1 : Nat) (l1 : List Int) (r1 : List (S37)) (r2 : Int) (w : World) (hr0 : Kd.C k37 w A0 l0.length l0) (hc0 : l0.length ≤ c0) (hr1 : Kd.C (Kd.int .i64) w A1 l1.length l1) (hc1 : l1.length ≤ c1) (h : cr47_Left.f k l0 l1 = some (r1, r2)) :
  Calls Try.prog 24 #[.slice A0 l0.length c0, .slice A1 l1.length c1] w fun e w'=>∃ v0_ : Value, e = .returned (.tuple #[v0_, .int .i64 r2]) ∧ Kd.R k37 37 w' w.heap.size (fun _=>True) v0_ r1 ∧ Below w.heap.size w w':=by
 have hu37:=Try.underlying37
 have HR0:=Aside0.mk hr0
 have HC0:=Aside0.mk hc0
 clear hr0 hc0
 have HR1:=Aside0.mk hr1
 have HC1:=Aside0.mk hc1
 clear hr1 hc1
 have HB:=Aside0.mk (Below.refl w.heap.size w)
 have H : ((cr47_right.f k l0 l1).bind fun t302=>(if t302 = 0 then (cr47_Left.l0 k l0 l1 (([] : List (S37))) 0) else (some (([] : List (S37)), t302)))) = some (r1, r2):=h
 clear h
 replace H:=Option.bind_eq_some_iff.mp H
 obtain ⟨t302, A30, H⟩:=H
 replace H : (if t302 = 0 then (cr47_Left.l0 k l0 l1 (([] : List (S37))) 0) else (some (([] : List (S37)), t302))) = some (r1, r2):=H
 have A3:=Aside0.mk A30
 clear A30
 by_cases c4 : t302 = 0
 ·rw [if_pos c4] at H
  have c4b0 : (t302 == 0) = true:=beq_iff_eq.mpr c4
  have c4b1 : (t302 != 0) = false:=bne_eq_false_iff_eq.mpr c4
  clear c4
  obtain ⟨y303, hy303⟩ : ∃ y_ : List (S37), y_ = (([] : List (S37))):=⟨_, rfl⟩
  replace H : (cr47_Left.l0 k l0 l1 y303 0) = some (r1, r2):=by first | (rw [hy303];with_reducible exact H) | (have H2_:=(Option.bind_some _ _).symm.trans H;rw [hy303];with_reducible exact H2_) | (have H2_:=(Option.bind_some _ _).symm.trans H;with_reducible exact H2_) | with_reducible exact H | (rw [hy303];exact H) | exact H
  have Ny303:=Aside0.mk hy303
  clear hy303
  have H':=Aside0.mk H
  clear H
  go_enter Try.func24, Try.ntmps24
  go_wp2_with (first | ((with_reducible refine gate_callee (f:=47) rfl ?_);refine goesL_ (some 12) rfl rfl Try.func47 (by kernel_rfl) rfl #[.slice A0 l0.length c0, .slice A1 l1.length c1] rfl (by (try simp only [List.map_toArray, List.map_cons, List.map_nil]);first | done | rfl | (simp only [List.length_drop, List.length_take];rfl)) ?_;(with_reducible refine (cr47_right.calls k _ _ l0 _ _ l1 t302 _ ?side1 ?side2 ?side3 ?side4 A3.out).mono ?_);(case side1=>repeat (first | exact HR0.out | (with_reducible refine Kd.C_alloc ?_ _) | (with_reducible refine Kd.C_drewN ?_ _) | (with_reducible refine Kd.C_drew ?_)));(case side2=>exact HC0.out);(case side3=>repeat (first | exact HR1.out | (with_reducible refine Kd.C_alloc ?_ _) | (with_reducible refine Kd.C_drewN ?_ _) | (with_reducible refine Kd.C_drew ?_)));(case side4=>exact HC1.out);rintro e w5 ⟨rfl, hb⟩;refine ⟨_, rfl, ?_⟩;have n0_:=Aside0.mk (below_step (by repeat (first | (with_reducible first | exact HB.out | apply below_alloc | apply pw_below_drewN | apply below_drew1) | exact HB.out)) hb);clear HB;have HB:=n0_;clear n0_;(try clear hb);(try clear hb2);(try clear hk);(try clear hi)) | ((with_reducible refine gate_dst (N:=16) rfl ?_);refine Kd.R_lit k37 _ 37 ?hg (N:=16) ?hd (xs:=([] : List (S37))) (inner:=[]) (ok:=fun _=>True) (okp:=fun _=>True) ?hr ?hp (fun _ hk=>hk) trivial (Below.refl _ _) (Nat.le_refl _) (by simp) ?_;(case hd=>rfl);(case hg=>rfl);(case hr=>first | (go_simp;done) | (go_simp;rfl));(case hp=>exact (Reps.none _ _));intro v304 w6 ho7 hb hg_ hnew_;clear hg_ hnew_;(first | rw [← Ny303.out] at ho7 | (simp only [Int.reduceToNat] at ho7;rw [← Ny303.out] at ho7));have n0_:=Aside0.mk (Kd.R_lower ho7 (below_size (by repeat (first | (with_reducible first | exact HB.out | apply below_alloc | apply pw_below_drewN | apply below_drew1) | exact HB.out))));have n1_:=Aside0.mk (below_step (by repeat (first | (with_reducible first | exact HB.out | apply below_alloc | apply pw_below_drewN | apply below_drew1) | exact HB.out)) hb);clear HB;have HO305:=n0_;have HB:=n1_;clear n0_ n1_ hb ho7))
  go_loopg [7, 8] k (fun kq v7 v8 w'=>∃ (x7_1 : List (S37)) (x8_1 : Int), v8 = .int .i64 x8_1 ∧ Aside0 (cr47_Left.l0 kq l0 l1 x7_1 x8_1 = some (r1, r2)) ∧ Aside0 (kq ≤ k) ∧ Aside0 (Kd.R k37 37 w' w.heap.size (fun _=>True) v7 x7_1) ∧ Aside0 (Below w.heap.size w w'))
  case atStart=>exact ⟨(y303), (0), (by first | rfl | (simp;done) | (simp [*];done)), H', ⟨Nat.le_refl _⟩, ⟨by (with_reducible repeat (first | apply Kd.R_alloc | apply Kd.R_drewN | apply Kd.R_drew));exact HO305.out⟩, ⟨by repeat (first | (with_reducible first | exact HB.out | apply below_alloc | apply pw_below_drewN | apply below_drew1) | exact HB.out)⟩⟩
  case round =>
   clear H'
   try clear c1
   try clear c2
   try clear p2
   try clear c4
   try clear c4b0
   try clear c4b1
   obtain ⟨x7_1, x8_1, rfl, HA, HK1, HO_7, HB⟩:=hrel
   cases gk with
   | zero=>exact absurd HA.out (by simp [cr47_Left.l0])
   | succ k1 =>
    have H:=HA.out
    clear HA
    simp only [cr47_Left.l0] at H
    by_cases c8 : x8_1 < (l0.length : Int)
    ·rw [if_pos c8] at H
     have c8b0 : decide (x8_1 < (l0.length : Int)) = true:=decide_eq_true c8
     clear c8
     by_cases c9 : 0 ≤ x8_1
     ·rw [if_pos c9] at H
      have c9b0 : decide (0 ≤ x8_1) = true:=decide_eq_true c9
      clear c9
      by_cases c10 : x8_1 < (l1.length : Int)
      ·rw [if_pos c10] at H
       have c10b0 : decide (x8_1 < (l1.length : Int)) = true:=decide_eq_true c10
       clear c10
       by_cases c11 : (wrap64 (((rd_T37 l0 x8_1).f3) - (rd l1 x8_1))) > 0
       ·rw [if_pos c11] at H
        have c11b0 : decide (0 < (wrap64 (((rd_T37 l0 x8_1).f3) - (rd l1 x8_1)))) = true:=decide_eq_true c11
        clear c11
        by_cases c12 : x7_1.length < 3518437208883
        ·rw [if_pos c12] at H
         have LMc12:=Aside0.mk c12
         clear c12
         obtain ⟨y309, hy309⟩ : ∃ y_ : List (S37), y_ = (x7_1 ++ [(⟨(rd_T37 l0 x8_1).f0, (rd_T37 l0 x8_1).f1, (rd_T37 l0 x8_1).f2, wrap64 (((rd_T37 l0 x8_1).f3) - (rd l1 x8_1))⟩ : S37)]):=⟨_, rfl⟩
         replace H : (cr47_Left.l0 k1 l0 l1 y309 (wrap64 (x8_1 + 1))) = some (r1, r2):=by first | (rw [hy309];with_reducible exact H) | (have H2_:=(Option.bind_some _ _).symm.trans H;rw [hy309];with_reducible exact H2_) | (have H2_:=(Option.bind_some _ _).symm.trans H;with_reducible exact H2_) | with_reducible exact H | (rw [hy309];exact H) | exact H
         have Ny309:=Aside0.mk hy309
         clear hy309
         have H':=Aside0.mk H
         clear H
         have p306 : 0 ≤ (x8_1 : Int):=of_decide_eq_true (by first | (with_reducible assumption) | assumption)
         have q306 : x8_1 < (l0.length : Int):=of_decide_eq_true (by first | (with_reducible assumption) | assumption)
         obtain ⟨ad306, e306, hx306_0, hx306_1, hx306_2, hx306_3⟩:=at_T37 HR0.out x8_1 p306 q306
         cases e306
         replace hx306_0:=(HB.out.cell (World.block_lt_of_cell? w _ hx306_0)).trans hx306_0
         replace hx306_1:=(HB.out.cell (World.block_lt_of_cell? w _ hx306_1)).trans hx306_1
         replace hx306_2:=(HB.out.cell (World.block_lt_of_cell? w _ hx306_2)).trans hx306_2
         replace hx306_3:=(HB.out.cell (World.block_lt_of_cell? w _ hx306_3)).trans hx306_3
         replace p306:=eq_true p306
         replace q306:=eq_true q306
         try go_wp2_with (first | ((with_reducible refine gate_dst (N:=9) rfl ?_);refine box_event ?hg (N:=9) ?hd (cs:=#[.int .i64 0, .int .i64 0, .string (⟨#[]⟩ : ByteArray), .int .i64 0]) (t:=37) ?hr ?_;(case hd=>rfl);(case hg=>rfl);(case hr=>first | (go_simp;done) | (go_simp;rfl));intro gb307 hg w13 hbox hb;have n0_:=Aside0.mk (Kd.R_below (Kd.R_elderB (by (with_reducible repeat (first | apply Kd.R_alloc | apply Kd.R_drewN | apply Kd.R_drew));exact HO_7.out) gb307 (Nat.le_of_eq hg.symm)) hb);have n1_:=Aside0.mk (below_step (by repeat (first | (with_reducible first | exact HB.out | apply below_alloc | apply pw_below_drewN | apply below_drew1) | exact HB.out)) hb);have n2_:=Aside0.mk (hbox);have n3_:=Aside0.mk ((by rw [hg];exact (below_size (by repeat (first | (with_reducible first | exact HB.out | apply below_alloc | apply pw_below_drewN | apply below_drew1) | exact HB.out))) : w.heap.size ≤ gb307));have n4_:=Aside0.mk ((by rw [hg];exact (below_size (by repeat (first | (with_reducible first | exact HB.out | apply below_alloc | apply pw_below_drewN | apply below_drew1) | exact HB.out))) : w.heap.size ≤ gb307));clear HO_7 HB;have HO_7:=n0_;have HB:=n1_;have BK307:=n2_;have GW307:=n3_;have GE307:=n4_;clear n0_ n1_ n2_ n3_ n4_ hb hbox hg;have hcz14_0 : w13.cell? ⟨gb307, 0, none⟩ = some (.int .i64 0):=(blk_cell BK307.out 0).trans rfl;have hcz14_1 : w13.cell? ⟨gb307, 1, none⟩ = some (.int .i64 0):=(blk_cell BK307.out 1).trans rfl;have hcz14_2 : w13.cell? ⟨gb307, 2, none⟩ = some (.string (⟨#[]⟩ : ByteArray)):=(blk_cell BK307.out 2).trans rfl;have hcz14_3 : w13.cell? ⟨gb307, 3, none⟩ = some (.int .i64 0):=(blk_cell BK307.out 3).trans rfl;have hfz14_0:=blk_frozen BK307.out 0;have hfz14_1:=blk_frozen BK307.out 1;have hfz14_2:=blk_frozen BK307.out 2;have hfz14_3:=blk_frozen BK307.out 3))
         have n0_ : Aside0 (Kd.R k37 37 ((((w13.setCell ⟨gb307, 0, none⟩ (.int .i64 ((rd_T37 l0 x8_1).f0))).setCell ⟨gb307, 1, none⟩ (.int .i64 ((rd_T37 l0 x8_1).f1))).setCell ⟨gb307, 2, none⟩ (.string ((rd_T37 l0 x8_1).f2))).setCell ⟨gb307, 3, none⟩ (.int .i64 ((rd_T37 l0 x8_1).f3))) w.heap.size (fun k_=>k_ ≠ gb307) u7 x7_1):=⟨by (with_reducible repeat (first | apply Kd.R_alloc | apply Kd.R_drewN | apply Kd.R_drew));exact Kd.R_mono (Kd.R_far (p:=⟨gb307, 3, none⟩) (Kd.R_far (p:=⟨gb307, 2, none⟩) (Kd.R_far (p:=⟨gb307, 1, none⟩) (Kd.R_far (p:=⟨gb307, 0, none⟩) (Kd.R_mono HO_7.out (fun k_ hk=>(⟨hk, hk.2⟩ : _ ∧ k_ ≠ gb307))) (fun _ hk=>hk.2) (.int .i64 ((rd_T37 l0 x8_1).f0))) (fun _ hk=>hk.2) (.int .i64 ((rd_T37 l0 x8_1).f1))) (fun _ hk=>hk.2) (.string ((rd_T37 l0 x8_1).f2))) (fun _ hk=>hk.2) (.int .i64 ((rd_T37 l0 x8_1).f3))) (fun _ hk=>hk.1.2)⟩
         have n1_ : Aside0 (((((w13.setCell ⟨gb307, 0, none⟩ (.int .i64 ((rd_T37 l0 x8_1).f0))).setCell ⟨gb307, 1, none⟩ (.int .i64 ((rd_T37 l0 x8_1).f1))).setCell ⟨gb307, 2, none⟩ (.string ((rd_T37 l0 x8_1).f2))).setCell ⟨gb307, 3, none⟩ (.int .i64 ((rd_T37 l0 x8_1).f3))).heap[gb307]? = some (.cells #[.int .i64 ((rd_T37 l0 x8_1).f0), .int .i64 ((rd_T37 l0 x8_1).f1), .string ((rd_T37 l0 x8_1).f2), .int .i64 ((rd_T37 l0 x8_1).f3)] 37 (0, 0))):=⟨by (with_reducible repeat (first | refine blk_drewN ?_ _ | refine blk_drew ?_ | refine blk_alloc ?_ _));refine blk_put (cs:=#[.int .i64 ((rd_T37 l0 x8_1).f0), .int .i64 ((rd_T37 l0 x8_1).f1), .string ((rd_T37 l0 x8_1).f2), .int .i64 0]) ?_ 3 _ rfl;(with_reducible repeat (first | refine blk_drewN ?_ _ | refine blk_drew ?_ | refine blk_alloc ?_ _));refine blk_put (cs:=#[.int .i64 ((rd_T37 l0 x8_1).f0), .int .i64 ((rd_T37 l0 x8_1).f1), .string (⟨#[]⟩ : ByteArray), .int .i64 0]) ?_ 2 _ rfl;(with_reducible repeat (first | refine blk_drewN ?_ _ | refine blk_drew ?_ | refine blk_alloc ?_ _));refine blk_put (cs:=#[.int .i64 ((rd_T37 l0 x8_1).f0), .int .i64 0, .string (⟨#[]⟩ : ByteArray), .int .i64 0]) ?_ 1 _ rfl;(with_reducible repeat (first | refine blk_drewN ?_ _ | refine blk_drew ?_ | refine blk_alloc ?_ _));refine blk_put (cs:=#[.int .i64 0, .int .i64 0, .string (⟨#[]⟩ : ByteArray), .int .i64 0]) ?_ 0 _ rfl;(with_reducible repeat (first | refine blk_drewN ?_ _ | refine blk_drew ?_ | refine blk_alloc ?_ _));exact BK307.out⟩
         have n2_ : Aside0 (Below w.heap.size w ((((w13.setCell ⟨gb307, 0, none⟩ (.int .i64 ((rd_T37 l0 x8_1).f0))).setCell ⟨gb307, 1, none⟩ (.int .i64 ((rd_T37 l0 x8_1).f1))).setCell ⟨gb307, 2, none⟩ (.string ((rd_T37 l0 x8_1).f2))).setCell ⟨gb307, 3, none⟩ (.int .i64 ((rd_T37 l0 x8_1).f3)))):=⟨by repeat (first | (with_reducible first | exact HB.out | apply below_alloc | apply pw_below_drewN | apply below_drew1 | refine below_set ?_ GE307.out) | exact HB.out)⟩
         (try clear HO_7)
         (try clear BK307)
         (try clear HB)
         generalize ((((w13.setCell ⟨gb307, 0, none⟩ (.int .i64 ((rd_T37 l0 x8_1).f0))).setCell ⟨gb307, 1, none⟩ (.int .i64 ((rd_T37 l0 x8_1).f1))).setCell ⟨gb307, 2, none⟩ (.string ((rd_T37 l0 x8_1).f2))).setCell ⟨gb307, 3, none⟩ (.int .i64 ((rd_T37 l0 x8_1).f3))) = w15 at n0_ n1_ n2_ ⊢
         have HO_7:=n0_
         have BK307:=n1_
         have HB:=n2_
         clear n0_ n1_ n2_
         have n0_:=Aside0.mk (Kd.R_drew HO_7.out)
         have n1_:=Aside0.mk (blk_drew BK307.out)
         have n2_:=Aside0.mk (below_drew1 HB.out)
         clear HO_7
         clear BK307
         clear HB
         have HO_7:=n0_
         have BK307:=n1_
         have HB:=n2_
         clear n0_ n1_ n2_
         have p308 : 0 ≤ (x8_1 : Int):=of_decide_eq_true (by first | (with_reducible assumption) | assumption)
         have q308 : x8_1 < (l1.length : Int):=of_decide_eq_true (by first | (with_reducible assumption) | assumption)
         obtain ⟨ad308, e308, hx308_0⟩:=Kd.at_int HR1.out x8_1 p308 q308
         have hw308_0:=hx308_0
         cases e308
         replace hx308_0:=(HB.out.cell (World.block_lt_of_cell? w _ hx308_0)).trans hx308_0
         replace p308:=eq_true p308
         replace q308:=eq_true q308
         refine start_ (n:=9) (S:=fun w'=>w'.cell? ⟨gb307, 0, none⟩ = some (.int .i64 ((rd_T37 l0 x8_1).f0)) ∧ w'.cell? ⟨gb307, 1, none⟩ = some (.int .i64 ((rd_T37 l0 x8_1).f1)) ∧ w'.cell? ⟨gb307, 2, none⟩ = some (.string ((rd_T37 l0 x8_1).f2)) ∧ w'.cell? ⟨gb307, 3, none⟩ = some (.int .i64 ((rd_T37 l0 x8_1).f3)) ∧ w'.cell? (ad308.add (x8_1).toNat) = some (.int .i64 (rd l1 x8_1))) (ds:=[8]) #[false, false, false, false, false, false, false, false, false] (by kernel_rfl) rfl rfl ⟨(blk_cell BK307.out 0).trans rfl, (blk_cell BK307.out 1).trans rfl, (blk_cell BK307.out 2).trans rfl, (blk_cell BK307.out 3).trans rfl, ((HB.out.cell (World.block_lt_of_cell? w _ hw308_0)).trans hw308_0)⟩ (fun hHeld=>?_);refine with_tabW cr47_Left.tab9 cr47_Left.bits9 (fun HT_ HW_=>?_)
         generalize w15.drew = w16 at HO_7 BK307 HB hx308_0 hHeld ⊢
         refine pure_ (i:=0) (N:=some 27) (v:=?_) (a':=?_) #[true, false, false, false, false, false, false, false, false] rfl rfl (any_of HT_.out (by kernel_rfl)) (fun _ _ _ h=>h) (Or.inl ⟨by rfl, ?_⟩) ?_ ?_
         rotate_left
         ·intro w'
          go_simp
          with_reducible rfl
         rotate_left
         ·simp only [Act.put, List.setIfInBounds_toArray, List.set_cons_zero, List.set_cons_succ, i64_w, i32_w]
          rfl
         refine pure_ (i:=2) (N:=some 29) (v:=?_) (a':=?_) #[true, false, true, false, false, false, false, false, false] rfl rfl (any_of HT_.out (by kernel_rfl)) (fun _ _ _ h=>h) (Or.inl ⟨by rfl, ?_⟩) ?_ ?_
         rotate_left
         ·intro w'
          go_simp
          with_reducible rfl
         rotate_left
         ·simp only [Act.put, List.setIfInBounds_toArray, List.set_cons_zero, List.set_cons_succ, i64_w, i32_w]
          rfl
         refine pure_ (i:=3) (N:=some 30) (v:=?_) (a':=?_) #[true, false, true, true, false, false, false, false, false] rfl rfl (any_of HT_.out (by kernel_rfl)) (fun _ _ _ h=>h) (Or.inl ⟨by rfl, ?_⟩) ?_ ?_
         rotate_left
         ·intro w'
          go_simp
          with_reducible rfl
         rotate_left
         ·simp only [Act.put, List.setIfInBounds_toArray, List.set_cons_zero, List.set_cons_succ, i64_w, i32_w]
          rfl
         refine pure_ (i:=4) (N:=some 31) (v:=?_) (a':=?_) #[true, false, true, true, true, false, false, false, false] rfl rfl (any_of HT_.out (by kernel_rfl)) (fun _ _ _ h=>h) (Or.inl ⟨by rfl, ?_⟩) ?_ ?_
         rotate_left
         ·intro w'
          go_simp
          with_reducible rfl
         rotate_left
         ·simp only [Act.put, List.setIfInBounds_toArray, List.set_cons_zero, List.set_cons_succ, i64_w, i32_w]
          rfl
         refine take_ (i:=1) (N:=some 28) (v:=?_) (a':=?_) #[true, true, true, true, true, false, false, false, false] rfl rfl (take_ofW HT_.out HW_.out (by kernel_rfl)) (fun _ _ _ h=>h) (Or.inl ⟨by rfl, ?_⟩) hHeld ?_ ?_
         rotate_left
         ·rintro w' ⟨s0, s1, s2, s3, s4⟩
          go_simp
          with_reducible rfl
         rotate_left
         ·simp only [Act.put, List.setIfInBounds_toArray, List.set_cons_zero, List.set_cons_succ, i64_w, i32_w]
          rfl
         refine take_ (i:=5) (N:=some 32) (v:=?_) (a':=?_) #[true, true, true, true, true, true, false, false, false] rfl rfl (take_ofW HT_.out HW_.out (by kernel_rfl)) (fun _ _ _ h=>h) (Or.inl ⟨by rfl, ?_⟩) hHeld ?_ ?_
         rotate_left
         ·rintro w' ⟨s0, s1, s2, s3, s4⟩
          go_simp
          with_reducible rfl
         rotate_left
         ·simp only [Act.put, List.setIfInBounds_toArray, List.set_cons_zero, List.set_cons_succ, i64_w, i32_w]
          rfl
         refine pure_ (i:=6) (N:=some 33) (v:=?_) (a':=?_) #[true, true, true, true, true, true, true, false, false] rfl rfl (any_of HT_.out (by kernel_rfl)) (fun _ _ _ h=>h) (Or.inl ⟨by rfl, ?_⟩) ?_ ?_
         rotate_left
         ·intro w'
          go_simp
          with_reducible rfl
         rotate_left
         ·simp only [Act.put, List.setIfInBounds_toArray, List.set_cons_zero, List.set_cons_succ, i64_w, i32_w]
          rfl
         refine pure_ (i:=7) (N:=some 34) (v:=?_) (a':=?_) #[true, true, true, true, true, true, true, true, false] rfl rfl (any_of HT_.out (by kernel_rfl)) (fun _ _ _ h=>h) (Or.inl ⟨by rfl, ?_⟩) ?_ ?_
         rotate_left
         ·intro w'
          go_simp
          with_reducible rfl
         rotate_left
         ·simp only [Act.put, List.setIfInBounds_toArray, List.set_cons_zero, List.set_cons_succ, i64_w, i32_w]
          rfl
         refine last_ (i:=8) (N:=none) #[true, true, true, true, true, true, true, true, true] rfl rfl (one_of HT_.out (by kernel_rfl)) (by decide) (fun K hK=>?_)
         have hs17 : w16.cell? ⟨gb307, 3, none⟩ = some (.int .i64 ((rd_T37 l0 x8_1).f3)):=(blk_cell BK307.out 3).trans rfl
         have hfs17:=blk_frozen BK307.out 3
         refine skip_ (w1:=?_) (by rfl) rfl ?_ ?_
         rotate_left
         ·go_simp
          rfl
         refine hK.out _ _ ?_
         clear hK K
         refine done_ (done_of HT_.out (by kernel_rfl)) ?_
         have hcz18_0 : w16.cell? ⟨gb307, 0, none⟩ = some (.int .i64 ((rd_T37 l0 x8_1).f0)):=(blk_cell BK307.out 0).trans rfl
         have hcz18_1 : w16.cell? ⟨gb307, 1, none⟩ = some (.int .i64 ((rd_T37 l0 x8_1).f1)):=(blk_cell BK307.out 1).trans rfl
         have hcz18_2 : w16.cell? ⟨gb307, 2, none⟩ = some (.string ((rd_T37 l0 x8_1).f2)):=(blk_cell BK307.out 2).trans rfl
         have hcz18_3 : w16.cell? ⟨gb307, 3, none⟩ = some (.int .i64 ((rd_T37 l0 x8_1).f3)):=(blk_cell BK307.out 3).trans rfl
         have hfz18_0:=blk_frozen BK307.out 0
         have hfz18_1:=blk_frozen BK307.out 1
         have hfz18_2:=blk_frozen BK307.out 2
         have hfz18_3:=blk_frozen BK307.out 3
         try go_wp2_with (first | ((with_reducible refine gate_builtin (b:=.append) (xs:=#[.tmp 38, .tmp 40]) rfl ?_);at_builtin;refine Kd.R_append k37 (w0:=w) w.heap.size rfl (.tmp 38) (.tmp 40) 22 37 (.agg #[(.int .i64 0), (.int .i64 0), (.string ⟨#[]⟩), (.int .i64 0)]) 40 rfl Try.underlying22 info37 rfl (by decide) (by omega) u7 x7_1 (⟨(rd_T37 l0 x8_1).f0, (rd_T37 l0 x8_1).f1, (rd_T37 l0 x8_1).f2, wrap64 (((rd_T37 l0 x8_1).f3) - (rd l1 x8_1))⟩ : S37) [.int .i64 ((rd_T37 l0 x8_1).f0), .int .i64 ((rd_T37 l0 x8_1).f1), .string ((rd_T37 l0 x8_1).f2), .int .i64 (wrap64 (((rd_T37 l0 x8_1).f3) - (rd l1 x8_1)))] (fun k_=>k_ ≠ gb307) (fun _=>False) rfl (by first | (go_simp;done) | (go_simp;rfl)) ?aP (fun _ hk=>hk.elim) ?aF ?aO ?aB ?aS ?aL ?_;(case aP=>exact k37_mkM _ _ _ (⟨(rd_T37 l0 x8_1).f0, (rd_T37 l0 x8_1).f1, (rd_T37 l0 x8_1).f2, wrap64 (((rd_T37 l0 x8_1).f3) - (rd l1 x8_1))⟩ : S37));(case aB=>exact (by repeat (first | (with_reducible first | exact HB.out | apply below_alloc | apply pw_below_drewN | apply below_drew1 | refine below_set ?_ GE307.out) | exact HB.out)));(case aF=>exact (fun k_ hk=>Kd.freshB (g:=gb307) (o:=.cells #[.int .i64 ((rd_T37 l0 x8_1).f0), .int .i64 ((rd_T37 l0 x8_1).f1), .string ((rd_T37 l0 x8_1).f2), .int .i64 (wrap64 (((rd_T37 l0 x8_1).f3) - (rd l1 x8_1)))] 37 (0, 0)) (by (with_reducible repeat (first | refine blk_drewN ?_ _ | refine blk_drew ?_ | refine blk_alloc ?_ _));refine blk_put (cs:=#[.int .i64 ((rd_T37 l0 x8_1).f0), .int .i64 ((rd_T37 l0 x8_1).f1), .string ((rd_T37 l0 x8_1).f2), .int .i64 ((rd_T37 l0 x8_1).f3)]) ?_ 3 _ rfl;(with_reducible repeat (first | refine blk_drewN ?_ _ | refine blk_drew ?_ | refine blk_alloc ?_ _));exact BK307.out) k_ hk));(case aO=>exact (by (with_reducible repeat (first | apply Kd.R_alloc | apply Kd.R_drewN | apply Kd.R_drew));exact Kd.R_mono (Kd.R_far (p:=⟨gb307, 3, none⟩) (Kd.R_mono HO_7.out (fun k_ hk=>(⟨hk, hk⟩ : _ ∧ k_ ≠ gb307))) (fun _ hk=>hk.2) (.int .i64 (wrap64 (((rd_T37 l0 x8_1).f3) - (rd l1 x8_1))))) (fun _ hk=>hk.1)));(case aS=>exact (below_size (by repeat (first | (with_reducible first | exact HB.out | apply below_alloc | apply pw_below_drewN | apply below_drew1 | refine below_set ?_ GE307.out) | exact HB.out))));(case aL=>have:=LMc12.out;omega);intro v310 w19 ho hb hg hat;rw [← Ny309.out] at ho;have n0_:=Aside0.mk (blk_grown (g:=gb307) (o:=.cells #[.int .i64 ((rd_T37 l0 x8_1).f0), .int .i64 ((rd_T37 l0 x8_1).f1), .string ((rd_T37 l0 x8_1).f2), .int .i64 (wrap64 (((rd_T37 l0 x8_1).f3) - (rd l1 x8_1)))] 37 (0, 0)) (by (with_reducible repeat (first | refine blk_drewN ?_ _ | refine blk_drew ?_ | refine blk_alloc ?_ _));refine blk_put (cs:=#[.int .i64 ((rd_T37 l0 x8_1).f0), .int .i64 ((rd_T37 l0 x8_1).f1), .string ((rd_T37 l0 x8_1).f2), .int .i64 ((rd_T37 l0 x8_1).f3)]) ?_ 3 _ rfl;(with_reducible repeat (first | refine blk_drewN ?_ _ | refine blk_drew ?_ | refine blk_alloc ?_ _));exact BK307.out) hg (Kd.R_away HO_7.out (fun _ hk=>hk)));have n1_:=Aside0.mk (hb);have n2_:=Aside0.mk (ho);clear BK307 HB HO_7;have BK307:=n0_;have HB:=n1_;have HO311:=n2_;clear n0_ n1_ n2_ ho hb hg hat))
         go_roundg k1
         case measure=>have:=HK1.out;omega
         case rel=>exact ⟨(y309), (wrap64 (x8_1 + 1)), (by first | rfl | (simp;done) | (simp [*];done)), H', ⟨by have:=HK1.out;omega⟩, ⟨by (with_reducible repeat (first | apply Kd.R_alloc | apply Kd.R_drewN | apply Kd.R_drew));exact Kd.R_mono HO311.out (fun _ hk=>trivial)⟩, ⟨by repeat (first | (with_reducible first | exact HB.out | apply below_alloc | apply pw_below_drewN | apply below_drew1 | refine below_set ?_ GE307.out) | exact HB.out)⟩⟩
        ·rw [if_neg c12] at H
         exact absurd H (by simp)
       ·rw [if_neg c11] at H
        have c11b0 : decide (0 < (wrap64 (((rd_T37 l0 x8_1).f3) - (rd l1 x8_1)))) = false:=decide_eq_false c11
        clear c11
        have H':=Aside0.mk H
        clear H
        have p306 : 0 ≤ (x8_1 : Int):=of_decide_eq_true (by first | (with_reducible assumption) | assumption)
        have q306 : x8_1 < (l0.length : Int):=of_decide_eq_true (by first | (with_reducible assumption) | assumption)
        obtain ⟨ad306, e306, hx306_0, hx306_1, hx306_2, hx306_3⟩:=at_T37 HR0.out x8_1 p306 q306
        cases e306
        replace hx306_0:=(HB.out.cell (World.block_lt_of_cell? w _ hx306_0)).trans hx306_0
        replace hx306_1:=(HB.out.cell (World.block_lt_of_cell? w _ hx306_1)).trans hx306_1
        replace hx306_2:=(HB.out.cell (World.block_lt_of_cell? w _ hx306_2)).trans hx306_2
        replace hx306_3:=(HB.out.cell (World.block_lt_of_cell? w _ hx306_3)).trans hx306_3
        replace p306:=eq_true p306
        replace q306:=eq_true q306
        try go_wp2_with (first | ((with_reducible refine gate_dst (N:=9) rfl ?_);refine box_event ?hg (N:=9) ?hd (cs:=#[.int .i64 0, .int .i64 0, .string (⟨#[]⟩ : ByteArray), .int .i64 0]) (t:=37) ?hr ?_;(case hd=>rfl);(case hg=>rfl);(case hr=>first | (go_simp;done) | (go_simp;rfl));intro gb307 hg w20 hbox hb;have n0_:=Aside0.mk (Kd.R_below (Kd.R_elderB (by (with_reducible repeat (first | apply Kd.R_alloc | apply Kd.R_drewN | apply Kd.R_drew));exact HO_7.out) gb307 (Nat.le_of_eq hg.symm)) hb);have n1_:=Aside0.mk (below_step (by repeat (first | (with_reducible first | exact HB.out | apply below_alloc | apply pw_below_drewN | apply below_drew1) | exact HB.out)) hb);have n2_:=Aside0.mk (hbox);have n3_:=Aside0.mk ((by rw [hg];exact (below_size (by repeat (first | (with_reducible first | exact HB.out | apply below_alloc | apply pw_below_drewN | apply below_drew1) | exact HB.out))) : w.heap.size ≤ gb307));have n4_:=Aside0.mk ((by rw [hg];exact (below_size (by repeat (first | (with_reducible first | exact HB.out | apply below_alloc | apply pw_below_drewN | apply below_drew1) | exact HB.out))) : w.heap.size ≤ gb307));clear HO_7 HB;have HO_7:=n0_;have HB:=n1_;have BK307:=n2_;have GW307:=n3_;have GE307:=n4_;clear n0_ n1_ n2_ n3_ n4_ hb hbox hg;have hcz21_0 : w20.cell? ⟨gb307, 0, none⟩ = some (.int .i64 0):=(blk_cell BK307.out 0).trans rfl;have hcz21_1 : w20.cell? ⟨gb307, 1, none⟩ = some (.int .i64 0):=(blk_cell BK307.out 1).trans rfl;have hcz21_2 : w20.cell? ⟨gb307, 2, none⟩ = some (.string (⟨#[]⟩ : ByteArray)):=(blk_cell BK307.out 2).trans rfl;have hcz21_3 : w20.cell? ⟨gb307, 3, none⟩ = some (.int .i64 0):=(blk_cell BK307.out 3).trans rfl;have hfz21_0:=blk_frozen BK307.out 0;have hfz21_1:=blk_frozen BK307.out 1;have hfz21_2:=blk_frozen BK307.out 2;have hfz21_3:=blk_frozen BK307.out 3))
        have n0_ : Aside0 (Kd.R k37 37 ((((w20.setCell ⟨gb307, 0, none⟩ (.int .i64 ((rd_T37 l0 x8_1).f0))).setCell ⟨gb307, 1, none⟩ (.int .i64 ((rd_T37 l0 x8_1).f1))).setCell ⟨gb307, 2, none⟩ (.string ((rd_T37 l0 x8_1).f2))).setCell ⟨gb307, 3, none⟩ (.int .i64 ((rd_T37 l0 x8_1).f3))) w.heap.size (fun k_=>k_ ≠ gb307) u7 x7_1):=⟨by (with_reducible repeat (first | apply Kd.R_alloc | apply Kd.R_drewN | apply Kd.R_drew));exact Kd.R_mono (Kd.R_far (p:=⟨gb307, 3, none⟩) (Kd.R_far (p:=⟨gb307, 2, none⟩) (Kd.R_far (p:=⟨gb307, 1, none⟩) (Kd.R_far (p:=⟨gb307, 0, none⟩) (Kd.R_mono HO_7.out (fun k_ hk=>(⟨hk, hk.2⟩ : _ ∧ k_ ≠ gb307))) (fun _ hk=>hk.2) (.int .i64 ((rd_T37 l0 x8_1).f0))) (fun _ hk=>hk.2) (.int .i64 ((rd_T37 l0 x8_1).f1))) (fun _ hk=>hk.2) (.string ((rd_T37 l0 x8_1).f2))) (fun _ hk=>hk.2) (.int .i64 ((rd_T37 l0 x8_1).f3))) (fun _ hk=>hk.1.2)⟩
        have n1_ : Aside0 (((((w20.setCell ⟨gb307, 0, none⟩ (.int .i64 ((rd_T37 l0 x8_1).f0))).setCell ⟨gb307, 1, none⟩ (.int .i64 ((rd_T37 l0 x8_1).f1))).setCell ⟨gb307, 2, none⟩ (.string ((rd_T37 l0 x8_1).f2))).setCell ⟨gb307, 3, none⟩ (.int .i64 ((rd_T37 l0 x8_1).f3))).heap[gb307]? = some (.cells #[.int .i64 ((rd_T37 l0 x8_1).f0), .int .i64 ((rd_T37 l0 x8_1).f1), .string ((rd_T37 l0 x8_1).f2), .int .i64 ((rd_T37 l0 x8_1).f3)] 37 (0, 0))):=⟨by (with_reducible repeat (first | refine blk_drewN ?_ _ | refine blk_drew ?_ | refine blk_alloc ?_ _));refine blk_put (cs:=#[.int .i64 ((rd_T37 l0 x8_1).f0), .int .i64 ((rd_T37 l0 x8_1).f1), .string ((rd_T37 l0 x8_1).f2), .int .i64 0]) ?_ 3 _ rfl;(with_reducible repeat (first | refine blk_drewN ?_ _ | refine blk_drew ?_ | refine blk_alloc ?_ _));refine blk_put (cs:=#[.int .i64 ((rd_T37 l0 x8_1).f0), .int .i64 ((rd_T37 l0 x8_1).f1), .string (⟨#[]⟩ : ByteArray), .int .i64 0]) ?_ 2 _ rfl;(with_reducible repeat (first | refine blk_drewN ?_ _ | refine blk_drew ?_ | refine blk_alloc ?_ _));refine blk_put (cs:=#[.int .i64 ((rd_T37 l0 x8_1).f0), .int .i64 0, .string (⟨#[]⟩ : ByteArray), .int .i64 0]) ?_ 1 _ rfl;(with_reducible repeat (first | refine blk_drewN ?_ _ | refine blk_drew ?_ | refine blk_alloc ?_ _));refine blk_put (cs:=#[.int .i64 0, .int .i64 0, .string (⟨#[]⟩ : ByteArray), .int .i64 0]) ?_ 0 _ rfl;(with_reducible repeat (first | refine blk_drewN ?_ _ | refine blk_drew ?_ | refine blk_alloc ?_ _));exact BK307.out⟩
        have n2_ : Aside0 (Below w.heap.size w ((((w20.setCell ⟨gb307, 0, none⟩ (.int .i64 ((rd_T37 l0 x8_1).f0))).setCell ⟨gb307, 1, none⟩ (.int .i64 ((rd_T37 l0 x8_1).f1))).setCell ⟨gb307, 2, none⟩ (.string ((rd_T37 l0 x8_1).f2))).setCell ⟨gb307, 3, none⟩ (.int .i64 ((rd_T37 l0 x8_1).f3)))):=⟨by repeat (first | (with_reducible first | exact HB.out | apply below_alloc | apply pw_below_drewN | apply below_drew1 | refine below_set ?_ GE307.out) | exact HB.out)⟩
        (try clear HO_7)
        (try clear BK307)
        (try clear HB)
        generalize ((((w20.setCell ⟨gb307, 0, none⟩ (.int .i64 ((rd_T37 l0 x8_1).f0))).setCell ⟨gb307, 1, none⟩ (.int .i64 ((rd_T37 l0 x8_1).f1))).setCell ⟨gb307, 2, none⟩ (.string ((rd_T37 l0 x8_1).f2))).setCell ⟨gb307, 3, none⟩ (.int .i64 ((rd_T37 l0 x8_1).f3))) = w22 at n0_ n1_ n2_ ⊢
        have HO_7:=n0_
        have BK307:=n1_
        have HB:=n2_
        clear n0_ n1_ n2_
        have n0_:=Aside0.mk (Kd.R_drew HO_7.out)
        have n1_:=Aside0.mk (blk_drew BK307.out)
        have n2_:=Aside0.mk (below_drew1 HB.out)
        clear HO_7
        clear BK307
        clear HB
        have HO_7:=n0_
        have BK307:=n1_
        have HB:=n2_
        clear n0_ n1_ n2_
        have p308 : 0 ≤ (x8_1 : Int):=of_decide_eq_true (by first | (with_reducible assumption) | assumption)
        have q308 : x8_1 < (l1.length : Int):=of_decide_eq_true (by first | (with_reducible assumption) | assumption)
        obtain ⟨ad308, e308, hx308_0⟩:=Kd.at_int HR1.out x8_1 p308 q308
        have hw308_0:=hx308_0
        cases e308
        replace hx308_0:=(HB.out.cell (World.block_lt_of_cell? w _ hx308_0)).trans hx308_0
        replace p308:=eq_true p308
        replace q308:=eq_true q308
        refine start_ (n:=9) (S:=fun w'=>w'.cell? ⟨gb307, 0, none⟩ = some (.int .i64 ((rd_T37 l0 x8_1).f0)) ∧ w'.cell? ⟨gb307, 1, none⟩ = some (.int .i64 ((rd_T37 l0 x8_1).f1)) ∧ w'.cell? ⟨gb307, 2, none⟩ = some (.string ((rd_T37 l0 x8_1).f2)) ∧ w'.cell? ⟨gb307, 3, none⟩ = some (.int .i64 ((rd_T37 l0 x8_1).f3)) ∧ w'.cell? (ad308.add (x8_1).toNat) = some (.int .i64 (rd l1 x8_1))) (ds:=[8]) #[false, false, false, false, false, false, false, false, false] (by kernel_rfl) rfl rfl ⟨(blk_cell BK307.out 0).trans rfl, (blk_cell BK307.out 1).trans rfl, (blk_cell BK307.out 2).trans rfl, (blk_cell BK307.out 3).trans rfl, ((HB.out.cell (World.block_lt_of_cell? w _ hw308_0)).trans hw308_0)⟩ (fun hHeld=>?_);refine with_tabW cr47_Left.tab9 cr47_Left.bits9 (fun HT_ HW_=>?_)
        generalize w22.drew = w23 at HO_7 BK307 HB hx308_0 hHeld ⊢
        refine pure_ (i:=0) (N:=some 27) (v:=?_) (a':=?_) #[true, false, false, false, false, false, false, false, false] rfl rfl (any_of HT_.out (by kernel_rfl)) (fun _ _ _ h=>h) (Or.inl ⟨by rfl, ?_⟩) ?_ ?_
        rotate_left
        ·intro w'
         go_simp
         with_reducible rfl
        rotate_left
        ·simp only [Act.put, List.setIfInBounds_toArray, List.set_cons_zero, List.set_cons_succ, i64_w, i32_w]
         rfl
        refine pure_ (i:=2) (N:=some 29) (v:=?_) (a':=?_) #[true, false, true, false, false, false, false, false, false] rfl rfl (any_of HT_.out (by kernel_rfl)) (fun _ _ _ h=>h) (Or.inl ⟨by rfl, ?_⟩) ?_ ?_
        rotate_left
        ·intro w'
         go_simp
         with_reducible rfl
        rotate_left
        ·simp only [Act.put, List.setIfInBounds_toArray, List.set_cons_zero, List.set_cons_succ, i64_w, i32_w]
         rfl
        refine pure_ (i:=3) (N:=some 30) (v:=?_) (a':=?_) #[true, false, true, true, false, false, false, false, false] rfl rfl (any_of HT_.out (by kernel_rfl)) (fun _ _ _ h=>h) (Or.inl ⟨by rfl, ?_⟩) ?_ ?_
        rotate_left
        ·intro w'
         go_simp
         with_reducible rfl
        rotate_left
        ·simp only [Act.put, List.setIfInBounds_toArray, List.set_cons_zero, List.set_cons_succ, i64_w, i32_w]
         rfl
        refine pure_ (i:=4) (N:=some 31) (v:=?_) (a':=?_) #[true, false, true, true, true, false, false, false, false] rfl rfl (any_of HT_.out (by kernel_rfl)) (fun _ _ _ h=>h) (Or.inl ⟨by rfl, ?_⟩) ?_ ?_
        rotate_left
        ·intro w'
         go_simp
         with_reducible rfl
        rotate_left
        ·simp only [Act.put, List.setIfInBounds_toArray, List.set_cons_zero, List.set_cons_succ, i64_w, i32_w]
         rfl
        refine take_ (i:=1) (N:=some 28) (v:=?_) (a':=?_) #[true, true, true, true, true, false, false, false, false] rfl rfl (take_ofW HT_.out HW_.out (by kernel_rfl)) (fun _ _ _ h=>h) (Or.inl ⟨by rfl, ?_⟩) hHeld ?_ ?_
        rotate_left
        ·rintro w' ⟨s0, s1, s2, s3, s4⟩
         go_simp
         with_reducible rfl
        rotate_left
        ·simp only [Act.put, List.setIfInBounds_toArray, List.set_cons_zero, List.set_cons_succ, i64_w, i32_w]
         rfl
        refine take_ (i:=5) (N:=some 32) (v:=?_) (a':=?_) #[true, true, true, true, true, true, false, false, false] rfl rfl (take_ofW HT_.out HW_.out (by kernel_rfl)) (fun _ _ _ h=>h) (Or.inl ⟨by rfl, ?_⟩) hHeld ?_ ?_
        rotate_left
        ·rintro w' ⟨s0, s1, s2, s3, s4⟩
         go_simp
         with_reducible rfl
        rotate_left
        ·simp only [Act.put, List.setIfInBounds_toArray, List.set_cons_zero, List.set_cons_succ, i64_w, i32_w]
         rfl
        refine pure_ (i:=6) (N:=some 33) (v:=?_) (a':=?_) #[true, true, true, true, true, true, true, false, false] rfl rfl (any_of HT_.out (by kernel_rfl)) (fun _ _ _ h=>h) (Or.inl ⟨by rfl, ?_⟩) ?_ ?_
        rotate_left
        ·intro w'
         go_simp
         with_reducible rfl
        rotate_left
        ·simp only [Act.put, List.setIfInBounds_toArray, List.set_cons_zero, List.set_cons_succ, i64_w, i32_w]
         rfl
        refine pure_ (i:=7) (N:=some 34) (v:=?_) (a':=?_) #[true, true, true, true, true, true, true, true, false] rfl rfl (any_of HT_.out (by kernel_rfl)) (fun _ _ _ h=>h) (Or.inl ⟨by rfl, ?_⟩) ?_ ?_
        rotate_left
        ·intro w'
         go_simp
         with_reducible rfl
        rotate_left
        ·simp only [Act.put, List.setIfInBounds_toArray, List.set_cons_zero, List.set_cons_succ, i64_w, i32_w]
         rfl
        refine last_ (i:=8) (N:=none) #[true, true, true, true, true, true, true, true, true] rfl rfl (one_of HT_.out (by kernel_rfl)) (by decide) (fun K hK=>?_)
        have hs24 : w23.cell? ⟨gb307, 3, none⟩ = some (.int .i64 ((rd_T37 l0 x8_1).f3)):=(blk_cell BK307.out 3).trans rfl
        have hfs24:=blk_frozen BK307.out 3
        refine skip_ (w1:=?_) (by rfl) rfl ?_ ?_
        rotate_left
        ·go_simp
         rfl
        refine hK.out _ _ ?_
        clear hK K
        refine done_ (done_of HT_.out (by kernel_rfl)) ?_
        have hcz25_0 : w23.cell? ⟨gb307, 0, none⟩ = some (.int .i64 ((rd_T37 l0 x8_1).f0)):=(blk_cell BK307.out 0).trans rfl
        have hcz25_1 : w23.cell? ⟨gb307, 1, none⟩ = some (.int .i64 ((rd_T37 l0 x8_1).f1)):=(blk_cell BK307.out 1).trans rfl
        have hcz25_2 : w23.cell? ⟨gb307, 2, none⟩ = some (.string ((rd_T37 l0 x8_1).f2)):=(blk_cell BK307.out 2).trans rfl
        have hcz25_3 : w23.cell? ⟨gb307, 3, none⟩ = some (.int .i64 ((rd_T37 l0 x8_1).f3)):=(blk_cell BK307.out 3).trans rfl
        have hfz25_0:=blk_frozen BK307.out 0
        have hfz25_1:=blk_frozen BK307.out 1
        have hfz25_2:=blk_frozen BK307.out 2
        have hfz25_3:=blk_frozen BK307.out 3
        try go_wp2
        go_roundg k1
        case measure=>have:=HK1.out;omega
        case rel=>exact ⟨(x7_1), (wrap64 (x8_1 + 1)), (by first | rfl | (simp;done) | (simp [*];done)), H', ⟨by have:=HK1.out;omega⟩, ⟨by (with_reducible repeat (first | apply Kd.R_alloc | apply Kd.R_drewN | apply Kd.R_drew));exact Kd.R_mono (Kd.R_far (p:=⟨gb307, 3, none⟩) (Kd.R_mono HO_7.out (fun k_ hk=>(⟨hk, hk⟩ : _ ∧ k_ ≠ gb307))) (fun _ hk=>hk.2) (.int .i64 (wrap64 (((rd_T37 l0 x8_1).f3) - (rd l1 x8_1))))) (fun _ hk=>trivial)⟩, ⟨by repeat (first | (with_reducible first | exact HB.out | apply below_alloc | apply pw_below_drewN | apply below_drew1 | refine below_set ?_ GE307.out) | exact HB.out)⟩⟩
      ·rw [if_neg c10] at H
       exact absurd H (by simp)
     ·rw [if_neg c9] at H
      exact absurd H (by simp)
    ·rw [if_neg c8] at H
     have c8b0 : decide (x8_1 < (l0.length : Int)) = false:=decide_eq_false c8
     clear c8
     simp only [Option.some.injEq, Prod.mk.injEq] at H
     obtain ⟨rfl, rfl⟩:=H
     go_wp2
     go_ret2
     exact ⟨_, by first | rfl | (simp [errW_none, errW_some] <;> rfl) | (simp [*, errW_none, errW_some] <;> rfl), by (with_reducible repeat (first | apply Kd.R_alloc | apply Kd.R_drewN | apply Kd.R_drew));exact HO_7.out, by repeat (first | (with_reducible first | exact HB.out | apply below_alloc | apply pw_below_drewN | apply below_drew1) | exact HB.out)⟩
 ·rw [if_neg c4] at H
  have c4b0 : (t302 == 0) = false:=beq_eq_false_iff_ne.mpr c4
  have c4b1 : (t302 != 0) = true:=bne_iff_ne.mpr c4
  simp only [Option.some.injEq, Prod.mk.injEq] at H
  obtain ⟨rfl, rfl⟩:=H
  go_enter Try.func24, Try.ntmps24
  go_wp2_with (first | ((with_reducible refine gate_callee (f:=47) rfl ?_);refine goesL_ (some 12) rfl rfl Try.func47 (by kernel_rfl) rfl #[.slice A0 l0.length c0, .slice A1 l1.length c1] rfl (by (try simp only [List.map_toArray, List.map_cons, List.map_nil]);first | done | rfl | (simp only [List.length_drop, List.length_take];rfl)) ?_;(with_reducible refine (cr47_right.calls k _ _ l0 _ _ l1 t302 _ ?side1 ?side2 ?side3 ?side4 A3.out).mono ?_);(case side1=>repeat (first | exact HR0.out | (with_reducible refine Kd.C_alloc ?_ _) | (with_reducible refine Kd.C_drewN ?_ _) | (with_reducible refine Kd.C_drew ?_)));(case side2=>exact HC0.out);(case side3=>repeat (first | exact HR1.out | (with_reducible refine Kd.C_alloc ?_ _) | (with_reducible refine Kd.C_drewN ?_ _) | (with_reducible refine Kd.C_drew ?_)));(case side4=>exact HC1.out);rintro e w26 ⟨rfl, hb⟩;refine ⟨_, rfl, ?_⟩;have n0_:=Aside0.mk (below_step (by repeat (first | (with_reducible first | exact HB.out | apply below_alloc | apply pw_below_drewN | apply below_drew1) | exact HB.out)) hb);clear HB;have HB:=n0_;clear n0_;(try clear hb);(try clear hb2);(try clear hk);(try clear hi)))
  go_ret2
  exact ⟨_, by first | rfl | (simp [errW_none, errW_some] <;> rfl) | (simp [*, errW_none, errW_some] <;> rfl), by first | exact Kd.R_nil _ _ _ _ _ | exact Kd.N_nil _ _ _ _ _ | exact Kd.V_nil _ _ _ _ _ | exact Kd.Q_nil _ _ _ _ _ | exact Kd.S_nil _ _ _ _ _, by repeat (first | (with_reducible first | exact HB.out | apply below_alloc | apply pw_below_drewN | apply below_drew1) | exact HB.out)⟩

end Go.Proofs.Ytfogpifjpnonnaa.PWaterfallReturns
