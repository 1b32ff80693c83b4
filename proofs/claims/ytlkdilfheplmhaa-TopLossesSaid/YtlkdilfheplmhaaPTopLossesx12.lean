/- Laid for this claim by a program of this session's (wip/mkprint.py, wip/ext.py); not trusted: Lean checks it. -/
import Derived.Test.YtlkdilfheplmhaaPTopLossesx0
import Derived.Test.YtlkdilfheplmhaaPTopLossesx11
namespace Go.Proofs.Ytlkdilfheplmhaa.PTopLosses
open Go.RowKit Go.Proofs.YtlkdilfheplmhaaW.PrintWords Go.Proofs.YtlkdilfheplmhaaW.PrintLast Go.Proofs.YtlkdilfheplmhaaW.PrintMore
attribute [local go_sem] max2_int min2_int max_two min_two max_three min_three max_four min_four   -- for this text's walks alone
set_option linter.unusedVariables false
set_option linter.unusedSimpArgs false

/-! ### waterfall_Left: function 7 -/
def waterfall_Left.l0 : Nat → List Int → List (S33) → List (S33) → Int → Int → Option ((List (S33)) × Int)
 | 0, _, _, _, _, _=>none
 | k + 1, x1, x7, x16, x17, x18=>if x18 < x17 then (if 0 ≤ x18 then (if x18 < (x16.length : Int) then (if x18 < (x1.length : Int) then (if ((rd_T33 x16 x18).f3) > (rd x1 x18) then (if x7.length < 3518437208883 then (waterfall_Left.l0 k x1 (x7 ++ [(⟨(rd_T33 x16 x18).f0, (rd_T33 x16 x18).f1, (rd_T33 x16 x18).f2, wrap64 (((rd_T33 x16 x18).f3) - (rd x1 x18))⟩ : S33)]) x16 x17 (wrap64 (x18 + 1))) else (none)) else (waterfall_Left.l0 k x1 x7 x16 x17 (wrap64 (x18 + 1)))) else (none)) else (none)) else (none)) else (some (x7, 0))
def waterfall_Left.f (k : Nat) (l0 : List (S33)) (l1 : List Int) : Option ((List (S33)) × Int):=(waterfall_check.f k l0 l1 0).bind fun t229=>(if t229 = 0 then (waterfall_Left.l0 k l1 ([] : List (S33)) l0 (l0.length : Int) 0) else (some (([] : List (S33)), t229)))
theorem waterfall_Left.mono_l : ∀ k, (∀ y0 y1 y2 y3 y4, LeO (waterfall_Left.l0 k y0 y1 y2 y3 y4) (waterfall_Left.l0 (k + 1) y0 y1 y2 y3 y4))
 | 0=>fun _ _ _ _ _ r h=>by simp [waterfall_Left.l0] at h
 | k + 1=>by
  have ih0:=waterfall_Left.mono_l k
  ·intro y0 y1 y2 y3 y4
   unfold waterfall_Left.l0
   repeat' first
   | (with_reducible exact ih0 _ _ _ _ _)
   | (with_reducible exact waterfall_check.mono _ _ _ _)
   | (with_reducible exact LeO.refl _)
   | (with_reducible exact LeO.none _)
   | (with_reducible refine LeO.ite ?_ ?_)
   | (with_reducible refine LeO.bind ?_ (fun _=>?_))
   | exact ih0 _ _ _ _ _
   | exact waterfall_check.mono _ _ _ _
   | exact LeO.none _
   | refine LeO.ite ?_ ?_
   | refine LeO.bind ?_ (fun _=>?_)
theorem waterfall_Left.mono : ∀ a0 a1 k, LeO (waterfall_Left.f k a0 a1) (waterfall_Left.f (k + 1) a0 a1):=by
 intro a0 a1 k
 have ih0:=waterfall_Left.mono_l k
 unfold waterfall_Left.f
 repeat' first
   | (with_reducible exact ih0 _ _ _ _ _)
   | (with_reducible exact waterfall_check.mono _ _ _ _)
   | (with_reducible exact LeO.refl _)
   | (with_reducible exact LeO.none _)
   | (with_reducible refine LeO.ite ?_ ?_)
   | (with_reducible refine LeO.bind ?_ (fun _=>?_))
   | exact ih0 _ _ _ _ _
   | exact waterfall_check.mono _ _ _ _
   | exact LeO.none _
   | refine LeO.ite ?_ ?_
   | refine LeO.bind ?_ (fun _=>?_)
def waterfall_Left.T9 : Bool × List (List Nat × List Nat):=(true, [([], []), ([0], [0]), ([], []), ([], []), ([2, 3], [2, 3]), ([4], [4]), ([1, 5], [1, 5]), ([0, 1, 2, 3, 4, 5, 6], []), ([7, 6, 0, 1, 2, 3, 4, 5, 6], [6, 7])])
def waterfall_Left.B9 : List Nat:=[0, 1, 0, 0, 12, 28, 63, 127, 255]
theorem waterfall_Left.tab9 : rtab .any (opsOf Try.f7 9) = waterfall_Left.T9:=by kernel_rfl
theorem waterfall_Left.bits9 : waitsOk waterfall_Left.T9.2 waterfall_Left.B9 = true:=by kernel_rfl
set_option maxHeartbeats 8000000 in
set_option maxRecDepth 100000 in
theorem waterfall_Left.calls (k : Nat) (A0 : Option Addr) (c0 : Nat) (l0 : List (S33)) (A1 : Option Addr) (c1 : Nat) (l1 : List Int) (r1 : List (S33)) (r2 : Int) (w : World) (hr0 : Kd.C k33 w A0 l0.length l0) (hc0 : l0.length ≤ c0) (hr1 : Kd.C (Kd.int .i64) w A1 l1.length l1) (hc1 : l1.length ≤ c1) (h : waterfall_Left.f k l0 l1 = some (r1, r2)) :
  Calls Try.prog 7 #[.slice A0 l0.length c0, .slice A1 l1.length c1] w fun e w'=>∃ v0_ : Value, e = .returned (.tuple #[v0_, .int .i64 r2]) ∧ Kd.R k33 33 w' w.heap.size (fun _=>True) v0_ r1 ∧ Below w.heap.size w w':=by
 have hu33:=Try.underlying33
 have HR0:=Aside0.mk hr0
 have HC0:=Aside0.mk hc0
 clear hr0 hc0
 have HR1:=Aside0.mk hr1
 have HC1:=Aside0.mk hc1
 clear hr1 hc1
 have HB:=Aside0.mk (Below.refl w.heap.size w)
 have H : ((waterfall_check.f k l0 l1 0).bind fun t229=>(if t229 = 0 then (waterfall_Left.l0 k l1 ([] : List (S33)) l0 (l0.length : Int) 0) else (some (([] : List (S33)), t229)))) = some (r1, r2):=h
 clear h
 replace H:=Option.bind_eq_some_iff.mp H
 obtain ⟨t229, A30, H⟩:=H
 replace H : (if t229 = 0 then (waterfall_Left.l0 k l1 ([] : List (S33)) l0 (l0.length : Int) 0) else (some (([] : List (S33)), t229))) = some (r1, r2):=H
 have A3:=Aside0.mk A30
 clear A30
 by_cases c4 : t229 = 0
 ·rw [if_pos c4] at H
  have c4b0 : (t229 == 0) = true:=beq_iff_eq.mpr c4
  have c4b1 : (t229 != 0) = false:=bne_eq_false_iff_eq.mpr c4
  clear c4
  have H':=Aside0.mk H
  clear H
  go_enter Try.func7, Try.ntmps7
  go_wp2_with (first | ((with_reducible refine gate_callee (f:=18) rfl ?_);refine goesL_ (some 12) rfl rfl Try.func18 (by kernel_rfl) rfl #[.slice A0 l0.length c0, .slice A1 l1.length c1, .int .i64 0] rfl (by (try simp only [List.map_toArray, List.map_cons, List.map_nil]);first | done | rfl | (simp only [List.length_drop, List.length_take];rfl)) ?_;(with_reducible refine (waterfall_check.calls k _ _ l0 _ _ l1 0 t229 _ ?side1 ?side2 ?side3 ?side4 A3.out).mono ?_);(case side1=>repeat (first | exact HR0.out | (with_reducible refine Kd.C_alloc ?_ _) | (with_reducible refine Kd.C_drewN ?_ _) | (with_reducible refine Kd.C_drew ?_)));(case side2=>exact HC0.out);(case side3=>repeat (first | exact HR1.out | (with_reducible refine Kd.C_alloc ?_ _) | (with_reducible refine Kd.C_drewN ?_ _) | (with_reducible refine Kd.C_drew ?_)));(case side4=>exact HC1.out);rintro e w5 ⟨rfl, hb⟩;refine ⟨_, rfl, ?_⟩;have n0_:=Aside0.mk (below_step (by repeat (first | (with_reducible first | exact HB.out | apply below_alloc | apply pw_below_drewN | apply below_drew1) | exact HB.out)) hb);clear HB;have HB:=n0_;clear n0_;(try clear hb);(try clear hb2);(try clear hk);(try clear hi)))
  go_loopg [7, 18] k (fun kq v7 v18 w'=>∃ (x7_1 : List (S33)) (x18_1 : Int), v18 = .int .i64 x18_1 ∧ Aside0 (waterfall_Left.l0 kq l1 x7_1 l0 (l0.length : Int) x18_1 = some (r1, r2)) ∧ Aside0 (kq ≤ k) ∧ Aside0 (Kd.R k33 33 w' w.heap.size (fun _=>True) v7 x7_1) ∧ Aside0 (Below w.heap.size w w'))
  case atStart=>exact ⟨(([] : List (S33))), (0), (by first | rfl | (simp;done) | (simp [*];done)), H', ⟨Nat.le_refl _⟩, ⟨by first | exact Kd.R_nil _ _ _ _ _ | exact Kd.N_nil _ _ _ _ _ | exact Kd.V_nil _ _ _ _ _ | exact Kd.Q_nil _ _ _ _ _ | exact Kd.S_nil _ _ _ _ _⟩, ⟨by repeat (first | (with_reducible first | exact HB.out | apply below_alloc | apply pw_below_drewN | apply below_drew1) | exact HB.out)⟩⟩
  case round =>
   clear H'
   try clear c1
   try clear p2
   try clear c4
   try clear c4b0
   try clear c4b1
   obtain ⟨x7_1, x18_1, rfl, HA, HK1, HO_7, HB⟩:=hrel
   cases gk with
   | zero=>exact absurd HA.out (by simp [waterfall_Left.l0])
   | succ k1 =>
    have H:=HA.out
    clear HA
    simp only [waterfall_Left.l0] at H
    by_cases c6 : x18_1 < (l0.length : Int)
    ·rw [if_pos c6] at H
     have c6b0 : decide (x18_1 < (l0.length : Int)) = true:=decide_eq_true c6
     clear c6
     by_cases c7 : 0 ≤ x18_1
     ·rw [if_pos c7] at H
      have c7b0 : decide (0 ≤ x18_1) = true:=decide_eq_true c7
      clear c7
      by_cases c8 : x18_1 < (l0.length : Int)
      ·rw [if_pos c8] at H
       have c8b0 : decide (x18_1 < (l0.length : Int)) = true:=decide_eq_true c8
       clear c8
       by_cases c9 : x18_1 < (l1.length : Int)
       ·rw [if_pos c9] at H
        have c9b0 : decide (x18_1 < (l1.length : Int)) = true:=decide_eq_true c9
        clear c9
        by_cases c10 : ((rd_T33 l0 x18_1).f3) > (rd l1 x18_1)
        ·rw [if_pos c10] at H
         have c10b0 : decide ((rd l1 x18_1) < ((rd_T33 l0 x18_1).f3)) = true:=decide_eq_true c10
         clear c10
         by_cases c11 : x7_1.length < 3518437208883
         ·rw [if_pos c11] at H
          have LMc11:=Aside0.mk c11
          clear c11
          obtain ⟨y234, hy234⟩ : ∃ y_ : List (S33), y_ = (x7_1 ++ [(⟨(rd_T33 l0 x18_1).f0, (rd_T33 l0 x18_1).f1, (rd_T33 l0 x18_1).f2, wrap64 (((rd_T33 l0 x18_1).f3) - (rd l1 x18_1))⟩ : S33)]):=⟨_, rfl⟩
          replace H : (waterfall_Left.l0 k1 l1 y234 l0 (l0.length : Int) (wrap64 (x18_1 + 1))) = some (r1, r2):=by first | (rw [hy234];with_reducible exact H) | (have H2_:=(Option.bind_some _ _).symm.trans H;rw [hy234];with_reducible exact H2_) | (have H2_:=(Option.bind_some _ _).symm.trans H;with_reducible exact H2_) | with_reducible exact H | (rw [hy234];exact H) | exact H
          have Ny234:=Aside0.mk hy234
          clear hy234
          have H':=Aside0.mk H
          clear H
          have p230 : 0 ≤ (x18_1 : Int):=of_decide_eq_true (by first | (with_reducible assumption) | assumption)
          have q230 : x18_1 < (l0.length : Int):=of_decide_eq_true (by first | (with_reducible assumption) | assumption)
          obtain ⟨ad230, e230, hx230_0, hx230_1, hx230_2, hx230_3⟩:=at_T33 HR0.out x18_1 p230 q230
          cases e230
          replace hx230_0:=(HB.out.cell (World.block_lt_of_cell? w _ hx230_0)).trans hx230_0
          replace hx230_1:=(HB.out.cell (World.block_lt_of_cell? w _ hx230_1)).trans hx230_1
          replace hx230_2:=(HB.out.cell (World.block_lt_of_cell? w _ hx230_2)).trans hx230_2
          replace hx230_3:=(HB.out.cell (World.block_lt_of_cell? w _ hx230_3)).trans hx230_3
          replace p230:=eq_true p230
          replace q230:=eq_true q230
          try go_wp2_with (first | ((with_reducible refine gate_dst (N:=9) rfl ?_);refine box_event ?hg (N:=9) ?hd (cs:=#[.int .i64 0, .int .i64 0, .string (⟨#[]⟩ : ByteArray), .int .i64 0]) (t:=33) ?hr ?_;(case hd=>rfl);(case hg=>rfl);(case hr=>first | (go_simp;done) | (go_simp;rfl));intro gb231 hg w12 hbox hb;have n0_:=Aside0.mk (Kd.R_below (Kd.R_elderB (by (with_reducible repeat (first | apply Kd.R_alloc | apply Kd.R_drewN | apply Kd.R_drew));exact HO_7.out) gb231 (Nat.le_of_eq hg.symm)) hb);have n1_:=Aside0.mk (below_step (by repeat (first | (with_reducible first | exact HB.out | apply below_alloc | apply pw_below_drewN | apply below_drew1) | exact HB.out)) hb);have n2_:=Aside0.mk (hbox);have n3_:=Aside0.mk ((by rw [hg];exact (below_size (by repeat (first | (with_reducible first | exact HB.out | apply below_alloc | apply pw_below_drewN | apply below_drew1) | exact HB.out))) : w.heap.size ≤ gb231));have n4_:=Aside0.mk ((by rw [hg];exact (below_size (by repeat (first | (with_reducible first | exact HB.out | apply below_alloc | apply pw_below_drewN | apply below_drew1) | exact HB.out))) : w.heap.size ≤ gb231));clear HO_7 HB;have HO_7:=n0_;have HB:=n1_;have BK231:=n2_;have GW231:=n3_;have GE231:=n4_;clear n0_ n1_ n2_ n3_ n4_ hb hbox hg;have hcz13_0 : w12.cell? ⟨gb231, 0, none⟩ = some (.int .i64 0):=(blk_cell BK231.out 0).trans rfl;have hcz13_1 : w12.cell? ⟨gb231, 1, none⟩ = some (.int .i64 0):=(blk_cell BK231.out 1).trans rfl;have hcz13_2 : w12.cell? ⟨gb231, 2, none⟩ = some (.string (⟨#[]⟩ : ByteArray)):=(blk_cell BK231.out 2).trans rfl;have hcz13_3 : w12.cell? ⟨gb231, 3, none⟩ = some (.int .i64 0):=(blk_cell BK231.out 3).trans rfl;have hfz13_0:=blk_frozen BK231.out 0;have hfz13_1:=blk_frozen BK231.out 1;have hfz13_2:=blk_frozen BK231.out 2;have hfz13_3:=blk_frozen BK231.out 3))
          have n0_ : Aside0 (Kd.R k33 33 ((((w12.setCell ⟨gb231, 0, none⟩ (.int .i64 ((rd_T33 l0 x18_1).f0))).setCell ⟨gb231, 1, none⟩ (.int .i64 ((rd_T33 l0 x18_1).f1))).setCell ⟨gb231, 2, none⟩ (.string ((rd_T33 l0 x18_1).f2))).setCell ⟨gb231, 3, none⟩ (.int .i64 ((rd_T33 l0 x18_1).f3))) w.heap.size (fun k_=>k_ ≠ gb231) u7 x7_1):=⟨by (with_reducible repeat (first | apply Kd.R_alloc | apply Kd.R_drewN | apply Kd.R_drew));exact Kd.R_mono (Kd.R_far (p:=⟨gb231, 3, none⟩) (Kd.R_far (p:=⟨gb231, 2, none⟩) (Kd.R_far (p:=⟨gb231, 1, none⟩) (Kd.R_far (p:=⟨gb231, 0, none⟩) (Kd.R_mono HO_7.out (fun k_ hk=>(⟨hk, hk.2⟩ : _ ∧ k_ ≠ gb231))) (fun _ hk=>hk.2) (.int .i64 ((rd_T33 l0 x18_1).f0))) (fun _ hk=>hk.2) (.int .i64 ((rd_T33 l0 x18_1).f1))) (fun _ hk=>hk.2) (.string ((rd_T33 l0 x18_1).f2))) (fun _ hk=>hk.2) (.int .i64 ((rd_T33 l0 x18_1).f3))) (fun _ hk=>hk.1.2)⟩
          have n1_ : Aside0 (((((w12.setCell ⟨gb231, 0, none⟩ (.int .i64 ((rd_T33 l0 x18_1).f0))).setCell ⟨gb231, 1, none⟩ (.int .i64 ((rd_T33 l0 x18_1).f1))).setCell ⟨gb231, 2, none⟩ (.string ((rd_T33 l0 x18_1).f2))).setCell ⟨gb231, 3, none⟩ (.int .i64 ((rd_T33 l0 x18_1).f3))).heap[gb231]? = some (.cells #[.int .i64 ((rd_T33 l0 x18_1).f0), .int .i64 ((rd_T33 l0 x18_1).f1), .string ((rd_T33 l0 x18_1).f2), .int .i64 ((rd_T33 l0 x18_1).f3)] 33 (0, 0))):=⟨by (with_reducible repeat (first | refine blk_drewN ?_ _ | refine blk_drew ?_ | refine blk_alloc ?_ _));refine blk_put (cs:=#[.int .i64 ((rd_T33 l0 x18_1).f0), .int .i64 ((rd_T33 l0 x18_1).f1), .string ((rd_T33 l0 x18_1).f2), .int .i64 0]) ?_ 3 _ rfl;(with_reducible repeat (first | refine blk_drewN ?_ _ | refine blk_drew ?_ | refine blk_alloc ?_ _));refine blk_put (cs:=#[.int .i64 ((rd_T33 l0 x18_1).f0), .int .i64 ((rd_T33 l0 x18_1).f1), .string (⟨#[]⟩ : ByteArray), .int .i64 0]) ?_ 2 _ rfl;(with_reducible repeat (first | refine blk_drewN ?_ _ | refine blk_drew ?_ | refine blk_alloc ?_ _));refine blk_put (cs:=#[.int .i64 ((rd_T33 l0 x18_1).f0), .int .i64 0, .string (⟨#[]⟩ : ByteArray), .int .i64 0]) ?_ 1 _ rfl;(with_reducible repeat (first | refine blk_drewN ?_ _ | refine blk_drew ?_ | refine blk_alloc ?_ _));refine blk_put (cs:=#[.int .i64 0, .int .i64 0, .string (⟨#[]⟩ : ByteArray), .int .i64 0]) ?_ 0 _ rfl;(with_reducible repeat (first | refine blk_drewN ?_ _ | refine blk_drew ?_ | refine blk_alloc ?_ _));exact BK231.out⟩
          have n2_ : Aside0 (Below w.heap.size w ((((w12.setCell ⟨gb231, 0, none⟩ (.int .i64 ((rd_T33 l0 x18_1).f0))).setCell ⟨gb231, 1, none⟩ (.int .i64 ((rd_T33 l0 x18_1).f1))).setCell ⟨gb231, 2, none⟩ (.string ((rd_T33 l0 x18_1).f2))).setCell ⟨gb231, 3, none⟩ (.int .i64 ((rd_T33 l0 x18_1).f3)))):=⟨by repeat (first | (with_reducible first | exact HB.out | apply below_alloc | apply pw_below_drewN | apply below_drew1 | refine below_set ?_ GE231.out) | exact HB.out)⟩
          (try clear HO_7)
          (try clear BK231)
          (try clear HB)
          generalize ((((w12.setCell ⟨gb231, 0, none⟩ (.int .i64 ((rd_T33 l0 x18_1).f0))).setCell ⟨gb231, 1, none⟩ (.int .i64 ((rd_T33 l0 x18_1).f1))).setCell ⟨gb231, 2, none⟩ (.string ((rd_T33 l0 x18_1).f2))).setCell ⟨gb231, 3, none⟩ (.int .i64 ((rd_T33 l0 x18_1).f3))) = w14 at n0_ n1_ n2_ ⊢
          have HO_7:=n0_
          have BK231:=n1_
          have HB:=n2_
          clear n0_ n1_ n2_
          have n0_:=Aside0.mk (Kd.R_drew HO_7.out)
          have n1_:=Aside0.mk (blk_drew BK231.out)
          have n2_:=Aside0.mk (below_drew1 HB.out)
          clear HO_7
          clear BK231
          clear HB
          have HO_7:=n0_
          have BK231:=n1_
          have HB:=n2_
          clear n0_ n1_ n2_
          have p232 : 0 ≤ (x18_1 : Int):=of_decide_eq_true (by first | (with_reducible assumption) | assumption)
          have q232 : x18_1 < (l1.length : Int):=of_decide_eq_true (by first | (with_reducible assumption) | assumption)
          obtain ⟨ad232, e232, hx232_0⟩:=Kd.at_int HR1.out x18_1 p232 q232
          have hw232_0:=hx232_0
          cases e232
          replace hx232_0:=(HB.out.cell (World.block_lt_of_cell? w _ hx232_0)).trans hx232_0
          replace p232:=eq_true p232
          replace q232:=eq_true q232
          refine start_ (n:=7) (S:=fun w'=>w'.cell? ⟨gb231, 0, none⟩ = some (.int .i64 ((rd_T33 l0 x18_1).f0)) ∧ w'.cell? ⟨gb231, 1, none⟩ = some (.int .i64 ((rd_T33 l0 x18_1).f1)) ∧ w'.cell? ⟨gb231, 2, none⟩ = some (.string ((rd_T33 l0 x18_1).f2)) ∧ w'.cell? ⟨gb231, 3, none⟩ = some (.int .i64 ((rd_T33 l0 x18_1).f3)) ∧ w'.cell? (ad232.add (x18_1).toNat) = some (.int .i64 (rd l1 x18_1))) (ds:=[]) #[false, false, false, false, false, false, false] (by kernel_rfl) rfl rfl ⟨(blk_cell BK231.out 0).trans rfl, (blk_cell BK231.out 1).trans rfl, (blk_cell BK231.out 2).trans rfl, (blk_cell BK231.out 3).trans rfl, ((HB.out.cell (World.block_lt_of_cell? w _ hw232_0)).trans hw232_0)⟩ (fun hHeld=>?_)
          generalize w14.drew = w15 at HO_7 BK231 HB hx232_0 hHeld ⊢
          refine pure_ (i:=0) (N:=some 23) (v:=?_) (a':=?_) #[true, false, false, false, false, false, false] rfl rfl (by kernel_rfl) (fun _ _ _ h=>h) (Or.inl ⟨by rfl, ?_⟩) ?_ ?_
          rotate_left
          ·intro w'
           go_simp
           with_reducible rfl
          rotate_left
          ·simp only [Act.put, List.setIfInBounds_toArray, List.set_cons_zero, List.set_cons_succ, i64_w, i32_w]
           rfl
          refine pure_ (i:=2) (N:=some 25) (v:=?_) (a':=?_) #[true, false, true, false, false, false, false] rfl rfl (by kernel_rfl) (fun _ _ _ h=>h) (Or.inl ⟨by rfl, ?_⟩) ?_ ?_
          rotate_left
          ·intro w'
           go_simp
           with_reducible rfl
          rotate_left
          ·simp only [Act.put, List.setIfInBounds_toArray, List.set_cons_zero, List.set_cons_succ, i64_w, i32_w]
           rfl
          refine pure_ (i:=3) (N:=some 26) (v:=?_) (a':=?_) #[true, false, true, true, false, false, false] rfl rfl (by kernel_rfl) (fun _ _ _ h=>h) (Or.inl ⟨by rfl, ?_⟩) ?_ ?_
          rotate_left
          ·intro w'
           go_simp
           with_reducible rfl
          rotate_left
          ·simp only [Act.put, List.setIfInBounds_toArray, List.set_cons_zero, List.set_cons_succ, i64_w, i32_w]
           rfl
          refine pure_ (i:=4) (N:=some 27) (v:=?_) (a':=?_) #[true, false, true, true, true, false, false] rfl rfl (by kernel_rfl) (fun _ _ _ h=>h) (Or.inl ⟨by rfl, ?_⟩) ?_ ?_
          rotate_left
          ·intro w'
           go_simp
           with_reducible rfl
          rotate_left
          ·simp only [Act.put, List.setIfInBounds_toArray, List.set_cons_zero, List.set_cons_succ, i64_w, i32_w]
           rfl
          refine take_ (i:=1) (N:=some 24) (v:=?_) (a':=?_) #[true, true, true, true, true, false, false] rfl rfl (by kernel_rfl) (fun _ _ _ h=>h) (Or.inl ⟨by rfl, ?_⟩) hHeld ?_ ?_
          rotate_left
          ·rintro w' ⟨s0, s1, s2, s3, s4⟩
           go_simp
           with_reducible rfl
          rotate_left
          ·simp only [Act.put, List.setIfInBounds_toArray, List.set_cons_zero, List.set_cons_succ, i64_w, i32_w]
           rfl
          refine take_ (i:=5) (N:=some 28) (v:=?_) (a':=?_) #[true, true, true, true, true, true, false] rfl rfl (by kernel_rfl) (fun _ _ _ h=>h) (Or.inl ⟨by rfl, ?_⟩) hHeld ?_ ?_
          rotate_left
          ·rintro w' ⟨s0, s1, s2, s3, s4⟩
           go_simp
           with_reducible rfl
          rotate_left
          ·simp only [Act.put, List.setIfInBounds_toArray, List.set_cons_zero, List.set_cons_succ, i64_w, i32_w]
           rfl
          refine pure_ (i:=6) (N:=some 29) (v:=?_) (a':=?_) #[true, true, true, true, true, true, true] rfl rfl (by kernel_rfl) (fun _ _ _ h=>h) (Or.inl ⟨by rfl, ?_⟩) ?_ ?_
          rotate_left
          ·intro w'
           go_simp
           with_reducible rfl
          rotate_left
          ·simp only [Act.put, List.setIfInBounds_toArray, List.set_cons_zero, List.set_cons_succ, i64_w, i32_w]
           rfl
          refine done_ (by kernel_rfl) ?_
          try go_wp2
          have n0_:=Aside0.mk (Kd.R_drew HO_7.out)
          have n1_:=Aside0.mk (blk_drew BK231.out)
          have n2_:=Aside0.mk (below_drew1 HB.out)
          clear HO_7
          clear BK231
          clear HB
          have HO_7:=n0_
          have BK231:=n1_
          have HB:=n2_
          clear n0_ n1_ n2_
          have p233 : 0 ≤ (x18_1 : Int):=of_decide_eq_true (by first | (with_reducible assumption) | assumption)
          have q233 : x18_1 < (l1.length : Int):=of_decide_eq_true (by first | (with_reducible assumption) | assumption)
          obtain ⟨ad233, e233, hx233_0⟩:=Kd.at_int HR1.out x18_1 p233 q233
          have hw233_0:=hx233_0
          obtain rfl : ad232 = ad233:=(by injection e233)
          replace hx233_0:=(HB.out.cell (World.block_lt_of_cell? w _ hx233_0)).trans hx233_0
          replace p233:=eq_true p233
          replace q233:=eq_true q233
          refine start_ (n:=9) (S:=fun w'=>w'.cell? ⟨gb231, 0, none⟩ = some (.int .i64 ((rd_T33 l0 x18_1).f0)) ∧ w'.cell? ⟨gb231, 1, none⟩ = some (.int .i64 ((rd_T33 l0 x18_1).f1)) ∧ w'.cell? ⟨gb231, 2, none⟩ = some (.string ((rd_T33 l0 x18_1).f2)) ∧ w'.cell? ⟨gb231, 3, none⟩ = some (.int .i64 ((rd_T33 l0 x18_1).f3)) ∧ w'.cell? (ad232.add (x18_1).toNat) = some (.int .i64 (rd l1 x18_1))) (ds:=[8]) #[false, false, false, false, false, false, false, false, false] (by kernel_rfl) rfl rfl ⟨(blk_cell BK231.out 0).trans rfl, (blk_cell BK231.out 1).trans rfl, (blk_cell BK231.out 2).trans rfl, (blk_cell BK231.out 3).trans rfl, ((HB.out.cell (World.block_lt_of_cell? w _ hw233_0)).trans hw233_0)⟩ (fun hHeld=>?_);refine with_tabW waterfall_Left.tab9 waterfall_Left.bits9 (fun HT_ HW_=>?_)
          generalize w15.drew = w16 at HO_7 BK231 HB hx233_0 hHeld ⊢
          refine pure_ (i:=0) (N:=some 30) (v:=?_) (a':=?_) #[true, false, false, false, false, false, false, false, false] rfl rfl (any_of HT_.out (by kernel_rfl)) (fun _ _ _ h=>h) (Or.inl ⟨by rfl, ?_⟩) ?_ ?_
          rotate_left
          ·intro w'
           go_simp
           with_reducible rfl
          rotate_left
          ·simp only [Act.put, List.setIfInBounds_toArray, List.set_cons_zero, List.set_cons_succ, i64_w, i32_w]
           rfl
          refine pure_ (i:=2) (N:=some 32) (v:=?_) (a':=?_) #[true, false, true, false, false, false, false, false, false] rfl rfl (any_of HT_.out (by kernel_rfl)) (fun _ _ _ h=>h) (Or.inl ⟨by rfl, ?_⟩) ?_ ?_
          rotate_left
          ·intro w'
           go_simp
           with_reducible rfl
          rotate_left
          ·simp only [Act.put, List.setIfInBounds_toArray, List.set_cons_zero, List.set_cons_succ, i64_w, i32_w]
           rfl
          refine pure_ (i:=3) (N:=some 33) (v:=?_) (a':=?_) #[true, false, true, true, false, false, false, false, false] rfl rfl (any_of HT_.out (by kernel_rfl)) (fun _ _ _ h=>h) (Or.inl ⟨by rfl, ?_⟩) ?_ ?_
          rotate_left
          ·intro w'
           go_simp
           with_reducible rfl
          rotate_left
          ·simp only [Act.put, List.setIfInBounds_toArray, List.set_cons_zero, List.set_cons_succ, i64_w, i32_w]
           rfl
          refine pure_ (i:=4) (N:=some 34) (v:=?_) (a':=?_) #[true, false, true, true, true, false, false, false, false] rfl rfl (any_of HT_.out (by kernel_rfl)) (fun _ _ _ h=>h) (Or.inl ⟨by rfl, ?_⟩) ?_ ?_
          rotate_left
          ·intro w'
           go_simp
           with_reducible rfl
          rotate_left
          ·simp only [Act.put, List.setIfInBounds_toArray, List.set_cons_zero, List.set_cons_succ, i64_w, i32_w]
           rfl
          refine take_ (i:=1) (N:=some 31) (v:=?_) (a':=?_) #[true, true, true, true, true, false, false, false, false] rfl rfl (take_ofW HT_.out HW_.out (by kernel_rfl)) (fun _ _ _ h=>h) (Or.inl ⟨by rfl, ?_⟩) hHeld ?_ ?_
          rotate_left
          ·rintro w' ⟨s0, s1, s2, s3, s4⟩
           go_simp
           with_reducible rfl
          rotate_left
          ·simp only [Act.put, List.setIfInBounds_toArray, List.set_cons_zero, List.set_cons_succ, i64_w, i32_w]
           rfl
          refine take_ (i:=5) (N:=some 35) (v:=?_) (a':=?_) #[true, true, true, true, true, true, false, false, false] rfl rfl (take_ofW HT_.out HW_.out (by kernel_rfl)) (fun _ _ _ h=>h) (Or.inl ⟨by rfl, ?_⟩) hHeld ?_ ?_
          rotate_left
          ·rintro w' ⟨s0, s1, s2, s3, s4⟩
           go_simp
           with_reducible rfl
          rotate_left
          ·simp only [Act.put, List.setIfInBounds_toArray, List.set_cons_zero, List.set_cons_succ, i64_w, i32_w]
           rfl
          refine pure_ (i:=6) (N:=some 36) (v:=?_) (a':=?_) #[true, true, true, true, true, true, true, false, false] rfl rfl (any_of HT_.out (by kernel_rfl)) (fun _ _ _ h=>h) (Or.inl ⟨by rfl, ?_⟩) ?_ ?_
          rotate_left
          ·intro w'
           go_simp
           with_reducible rfl
          rotate_left
          ·simp only [Act.put, List.setIfInBounds_toArray, List.set_cons_zero, List.set_cons_succ, i64_w, i32_w]
           rfl
          refine pure_ (i:=7) (N:=some 37) (v:=?_) (a':=?_) #[true, true, true, true, true, true, true, true, false] rfl rfl (any_of HT_.out (by kernel_rfl)) (fun _ _ _ h=>h) (Or.inl ⟨by rfl, ?_⟩) ?_ ?_
          rotate_left
          ·intro w'
           go_simp
           with_reducible rfl
          rotate_left
          ·simp only [Act.put, List.setIfInBounds_toArray, List.set_cons_zero, List.set_cons_succ, i64_w, i32_w]
           rfl
          refine last_ (i:=8) (N:=none) #[true, true, true, true, true, true, true, true, true] rfl rfl (one_of HT_.out (by kernel_rfl)) (by decide) (fun K hK=>?_)
          have hs17 : w16.cell? ⟨gb231, 3, none⟩ = some (.int .i64 ((rd_T33 l0 x18_1).f3)):=(blk_cell BK231.out 3).trans rfl
          have hfs17:=blk_frozen BK231.out 3
          refine skip_ (w1:=?_) (by rfl) rfl ?_ ?_
          rotate_left
          ·go_simp
           rfl
          refine hK.out _ _ ?_
          clear hK K
          refine done_ (done_of HT_.out (by kernel_rfl)) ?_
          have hcz18_0 : w16.cell? ⟨gb231, 0, none⟩ = some (.int .i64 ((rd_T33 l0 x18_1).f0)):=(blk_cell BK231.out 0).trans rfl
          have hcz18_1 : w16.cell? ⟨gb231, 1, none⟩ = some (.int .i64 ((rd_T33 l0 x18_1).f1)):=(blk_cell BK231.out 1).trans rfl
          have hcz18_2 : w16.cell? ⟨gb231, 2, none⟩ = some (.string ((rd_T33 l0 x18_1).f2)):=(blk_cell BK231.out 2).trans rfl
          have hcz18_3 : w16.cell? ⟨gb231, 3, none⟩ = some (.int .i64 ((rd_T33 l0 x18_1).f3)):=(blk_cell BK231.out 3).trans rfl
          have hfz18_0:=blk_frozen BK231.out 0
          have hfz18_1:=blk_frozen BK231.out 1
          have hfz18_2:=blk_frozen BK231.out 2
          have hfz18_3:=blk_frozen BK231.out 3
          try go_wp2_with (first | ((with_reducible refine gate_builtin (b:=.append) (xs:=#[.tmp 38, .tmp 40]) rfl ?_);at_builtin;refine Kd.R_append k33 (w0:=w) w.heap.size rfl (.tmp 38) (.tmp 40) 22 33 (.agg #[(.int .i64 0), (.int .i64 0), (.string ⟨#[]⟩), (.int .i64 0)]) 40 rfl Try.underlying22 info33 rfl (by decide) (by omega) u7 x7_1 (⟨(rd_T33 l0 x18_1).f0, (rd_T33 l0 x18_1).f1, (rd_T33 l0 x18_1).f2, wrap64 (((rd_T33 l0 x18_1).f3) - (rd l1 x18_1))⟩ : S33) [.int .i64 ((rd_T33 l0 x18_1).f0), .int .i64 ((rd_T33 l0 x18_1).f1), .string ((rd_T33 l0 x18_1).f2), .int .i64 (wrap64 (((rd_T33 l0 x18_1).f3) - (rd l1 x18_1)))] (fun k_=>k_ ≠ gb231) (fun _=>False) rfl (by first | (go_simp;done) | (go_simp;rfl)) ?aP (fun _ hk=>hk.elim) ?aF ?aO ?aB ?aS ?aL ?_;(case aP=>exact k33_mkM _ _ _ (⟨(rd_T33 l0 x18_1).f0, (rd_T33 l0 x18_1).f1, (rd_T33 l0 x18_1).f2, wrap64 (((rd_T33 l0 x18_1).f3) - (rd l1 x18_1))⟩ : S33));(case aB=>exact (by repeat (first | (with_reducible first | exact HB.out | apply below_alloc | apply pw_below_drewN | apply below_drew1 | refine below_set ?_ GE231.out) | exact HB.out)));(case aF=>exact (fun k_ hk=>Kd.freshB (g:=gb231) (o:=.cells #[.int .i64 ((rd_T33 l0 x18_1).f0), .int .i64 ((rd_T33 l0 x18_1).f1), .string ((rd_T33 l0 x18_1).f2), .int .i64 (wrap64 (((rd_T33 l0 x18_1).f3) - (rd l1 x18_1)))] 33 (0, 0)) (by (with_reducible repeat (first | refine blk_drewN ?_ _ | refine blk_drew ?_ | refine blk_alloc ?_ _));refine blk_put (cs:=#[.int .i64 ((rd_T33 l0 x18_1).f0), .int .i64 ((rd_T33 l0 x18_1).f1), .string ((rd_T33 l0 x18_1).f2), .int .i64 ((rd_T33 l0 x18_1).f3)]) ?_ 3 _ rfl;(with_reducible repeat (first | refine blk_drewN ?_ _ | refine blk_drew ?_ | refine blk_alloc ?_ _));exact BK231.out) k_ hk));(case aO=>exact (by (with_reducible repeat (first | apply Kd.R_alloc | apply Kd.R_drewN | apply Kd.R_drew));exact Kd.R_mono (Kd.R_far (p:=⟨gb231, 3, none⟩) (Kd.R_mono HO_7.out (fun k_ hk=>(⟨hk, hk⟩ : _ ∧ k_ ≠ gb231))) (fun _ hk=>hk.2) (.int .i64 (wrap64 (((rd_T33 l0 x18_1).f3) - (rd l1 x18_1))))) (fun _ hk=>hk.1)));(case aS=>exact (below_size (by repeat (first | (with_reducible first | exact HB.out | apply below_alloc | apply pw_below_drewN | apply below_drew1 | refine below_set ?_ GE231.out) | exact HB.out))));(case aL=>have:=LMc11.out;omega);intro v235 w19 ho hb hg hat;rw [← Ny234.out] at ho;have n0_:=Aside0.mk (blk_grown (g:=gb231) (o:=.cells #[.int .i64 ((rd_T33 l0 x18_1).f0), .int .i64 ((rd_T33 l0 x18_1).f1), .string ((rd_T33 l0 x18_1).f2), .int .i64 (wrap64 (((rd_T33 l0 x18_1).f3) - (rd l1 x18_1)))] 33 (0, 0)) (by (with_reducible repeat (first | refine blk_drewN ?_ _ | refine blk_drew ?_ | refine blk_alloc ?_ _));refine blk_put (cs:=#[.int .i64 ((rd_T33 l0 x18_1).f0), .int .i64 ((rd_T33 l0 x18_1).f1), .string ((rd_T33 l0 x18_1).f2), .int .i64 ((rd_T33 l0 x18_1).f3)]) ?_ 3 _ rfl;(with_reducible repeat (first | refine blk_drewN ?_ _ | refine blk_drew ?_ | refine blk_alloc ?_ _));exact BK231.out) hg (Kd.R_away HO_7.out (fun _ hk=>hk)));have n1_:=Aside0.mk (hb);have n2_:=Aside0.mk (ho);clear BK231 HB HO_7;have BK231:=n0_;have HB:=n1_;have HO236:=n2_;clear n0_ n1_ n2_ ho hb hg hat))
          go_roundg k1
          case measure=>have:=HK1.out;omega
          case rel=>exact ⟨(y234), (wrap64 (x18_1 + 1)), (by first | rfl | (simp;done) | (simp [*];done)), H', ⟨by have:=HK1.out;omega⟩, ⟨by (with_reducible repeat (first | apply Kd.R_alloc | apply Kd.R_drewN | apply Kd.R_drew));exact Kd.R_mono HO236.out (fun _ hk=>trivial)⟩, ⟨by repeat (first | (with_reducible first | exact HB.out | apply below_alloc | apply pw_below_drewN | apply below_drew1 | refine below_set ?_ GE231.out) | exact HB.out)⟩⟩
         ·rw [if_neg c11] at H
          exact absurd H (by simp)
        ·rw [if_neg c10] at H
         have c10b0 : decide ((rd l1 x18_1) < ((rd_T33 l0 x18_1).f3)) = false:=decide_eq_false c10
         clear c10
         have H':=Aside0.mk H
         clear H
         have p230 : 0 ≤ (x18_1 : Int):=of_decide_eq_true (by first | (with_reducible assumption) | assumption)
         have q230 : x18_1 < (l0.length : Int):=of_decide_eq_true (by first | (with_reducible assumption) | assumption)
         obtain ⟨ad230, e230, hx230_0, hx230_1, hx230_2, hx230_3⟩:=at_T33 HR0.out x18_1 p230 q230
         cases e230
         replace hx230_0:=(HB.out.cell (World.block_lt_of_cell? w _ hx230_0)).trans hx230_0
         replace hx230_1:=(HB.out.cell (World.block_lt_of_cell? w _ hx230_1)).trans hx230_1
         replace hx230_2:=(HB.out.cell (World.block_lt_of_cell? w _ hx230_2)).trans hx230_2
         replace hx230_3:=(HB.out.cell (World.block_lt_of_cell? w _ hx230_3)).trans hx230_3
         replace p230:=eq_true p230
         replace q230:=eq_true q230
         try go_wp2_with (first | ((with_reducible refine gate_dst (N:=9) rfl ?_);refine box_event ?hg (N:=9) ?hd (cs:=#[.int .i64 0, .int .i64 0, .string (⟨#[]⟩ : ByteArray), .int .i64 0]) (t:=33) ?hr ?_;(case hd=>rfl);(case hg=>rfl);(case hr=>first | (go_simp;done) | (go_simp;rfl));intro gb231 hg w20 hbox hb;have n0_:=Aside0.mk (Kd.R_below (Kd.R_elderB (by (with_reducible repeat (first | apply Kd.R_alloc | apply Kd.R_drewN | apply Kd.R_drew));exact HO_7.out) gb231 (Nat.le_of_eq hg.symm)) hb);have n1_:=Aside0.mk (below_step (by repeat (first | (with_reducible first | exact HB.out | apply below_alloc | apply pw_below_drewN | apply below_drew1) | exact HB.out)) hb);have n2_:=Aside0.mk (hbox);have n3_:=Aside0.mk ((by rw [hg];exact (below_size (by repeat (first | (with_reducible first | exact HB.out | apply below_alloc | apply pw_below_drewN | apply below_drew1) | exact HB.out))) : w.heap.size ≤ gb231));have n4_:=Aside0.mk ((by rw [hg];exact (below_size (by repeat (first | (with_reducible first | exact HB.out | apply below_alloc | apply pw_below_drewN | apply below_drew1) | exact HB.out))) : w.heap.size ≤ gb231));clear HO_7 HB;have HO_7:=n0_;have HB:=n1_;have BK231:=n2_;have GW231:=n3_;have GE231:=n4_;clear n0_ n1_ n2_ n3_ n4_ hb hbox hg;have hcz21_0 : w20.cell? ⟨gb231, 0, none⟩ = some (.int .i64 0):=(blk_cell BK231.out 0).trans rfl;have hcz21_1 : w20.cell? ⟨gb231, 1, none⟩ = some (.int .i64 0):=(blk_cell BK231.out 1).trans rfl;have hcz21_2 : w20.cell? ⟨gb231, 2, none⟩ = some (.string (⟨#[]⟩ : ByteArray)):=(blk_cell BK231.out 2).trans rfl;have hcz21_3 : w20.cell? ⟨gb231, 3, none⟩ = some (.int .i64 0):=(blk_cell BK231.out 3).trans rfl;have hfz21_0:=blk_frozen BK231.out 0;have hfz21_1:=blk_frozen BK231.out 1;have hfz21_2:=blk_frozen BK231.out 2;have hfz21_3:=blk_frozen BK231.out 3))
         have n0_ : Aside0 (Kd.R k33 33 ((((w20.setCell ⟨gb231, 0, none⟩ (.int .i64 ((rd_T33 l0 x18_1).f0))).setCell ⟨gb231, 1, none⟩ (.int .i64 ((rd_T33 l0 x18_1).f1))).setCell ⟨gb231, 2, none⟩ (.string ((rd_T33 l0 x18_1).f2))).setCell ⟨gb231, 3, none⟩ (.int .i64 ((rd_T33 l0 x18_1).f3))) w.heap.size (fun k_=>k_ ≠ gb231) u7 x7_1):=⟨by (with_reducible repeat (first | apply Kd.R_alloc | apply Kd.R_drewN | apply Kd.R_drew));exact Kd.R_mono (Kd.R_far (p:=⟨gb231, 3, none⟩) (Kd.R_far (p:=⟨gb231, 2, none⟩) (Kd.R_far (p:=⟨gb231, 1, none⟩) (Kd.R_far (p:=⟨gb231, 0, none⟩) (Kd.R_mono HO_7.out (fun k_ hk=>(⟨hk, hk.2⟩ : _ ∧ k_ ≠ gb231))) (fun _ hk=>hk.2) (.int .i64 ((rd_T33 l0 x18_1).f0))) (fun _ hk=>hk.2) (.int .i64 ((rd_T33 l0 x18_1).f1))) (fun _ hk=>hk.2) (.string ((rd_T33 l0 x18_1).f2))) (fun _ hk=>hk.2) (.int .i64 ((rd_T33 l0 x18_1).f3))) (fun _ hk=>hk.1.2)⟩
         have n1_ : Aside0 (((((w20.setCell ⟨gb231, 0, none⟩ (.int .i64 ((rd_T33 l0 x18_1).f0))).setCell ⟨gb231, 1, none⟩ (.int .i64 ((rd_T33 l0 x18_1).f1))).setCell ⟨gb231, 2, none⟩ (.string ((rd_T33 l0 x18_1).f2))).setCell ⟨gb231, 3, none⟩ (.int .i64 ((rd_T33 l0 x18_1).f3))).heap[gb231]? = some (.cells #[.int .i64 ((rd_T33 l0 x18_1).f0), .int .i64 ((rd_T33 l0 x18_1).f1), .string ((rd_T33 l0 x18_1).f2), .int .i64 ((rd_T33 l0 x18_1).f3)] 33 (0, 0))):=⟨by (with_reducible repeat (first | refine blk_drewN ?_ _ | refine blk_drew ?_ | refine blk_alloc ?_ _));refine blk_put (cs:=#[.int .i64 ((rd_T33 l0 x18_1).f0), .int .i64 ((rd_T33 l0 x18_1).f1), .string ((rd_T33 l0 x18_1).f2), .int .i64 0]) ?_ 3 _ rfl;(with_reducible repeat (first | refine blk_drewN ?_ _ | refine blk_drew ?_ | refine blk_alloc ?_ _));refine blk_put (cs:=#[.int .i64 ((rd_T33 l0 x18_1).f0), .int .i64 ((rd_T33 l0 x18_1).f1), .string (⟨#[]⟩ : ByteArray), .int .i64 0]) ?_ 2 _ rfl;(with_reducible repeat (first | refine blk_drewN ?_ _ | refine blk_drew ?_ | refine blk_alloc ?_ _));refine blk_put (cs:=#[.int .i64 ((rd_T33 l0 x18_1).f0), .int .i64 0, .string (⟨#[]⟩ : ByteArray), .int .i64 0]) ?_ 1 _ rfl;(with_reducible repeat (first | refine blk_drewN ?_ _ | refine blk_drew ?_ | refine blk_alloc ?_ _));refine blk_put (cs:=#[.int .i64 0, .int .i64 0, .string (⟨#[]⟩ : ByteArray), .int .i64 0]) ?_ 0 _ rfl;(with_reducible repeat (first | refine blk_drewN ?_ _ | refine blk_drew ?_ | refine blk_alloc ?_ _));exact BK231.out⟩
         have n2_ : Aside0 (Below w.heap.size w ((((w20.setCell ⟨gb231, 0, none⟩ (.int .i64 ((rd_T33 l0 x18_1).f0))).setCell ⟨gb231, 1, none⟩ (.int .i64 ((rd_T33 l0 x18_1).f1))).setCell ⟨gb231, 2, none⟩ (.string ((rd_T33 l0 x18_1).f2))).setCell ⟨gb231, 3, none⟩ (.int .i64 ((rd_T33 l0 x18_1).f3)))):=⟨by repeat (first | (with_reducible first | exact HB.out | apply below_alloc | apply pw_below_drewN | apply below_drew1 | refine below_set ?_ GE231.out) | exact HB.out)⟩
         (try clear HO_7)
         (try clear BK231)
         (try clear HB)
         generalize ((((w20.setCell ⟨gb231, 0, none⟩ (.int .i64 ((rd_T33 l0 x18_1).f0))).setCell ⟨gb231, 1, none⟩ (.int .i64 ((rd_T33 l0 x18_1).f1))).setCell ⟨gb231, 2, none⟩ (.string ((rd_T33 l0 x18_1).f2))).setCell ⟨gb231, 3, none⟩ (.int .i64 ((rd_T33 l0 x18_1).f3))) = w22 at n0_ n1_ n2_ ⊢
         have HO_7:=n0_
         have BK231:=n1_
         have HB:=n2_
         clear n0_ n1_ n2_
         have n0_:=Aside0.mk (Kd.R_drew HO_7.out)
         have n1_:=Aside0.mk (blk_drew BK231.out)
         have n2_:=Aside0.mk (below_drew1 HB.out)
         clear HO_7
         clear BK231
         clear HB
         have HO_7:=n0_
         have BK231:=n1_
         have HB:=n2_
         clear n0_ n1_ n2_
         have p232 : 0 ≤ (x18_1 : Int):=of_decide_eq_true (by first | (with_reducible assumption) | assumption)
         have q232 : x18_1 < (l1.length : Int):=of_decide_eq_true (by first | (with_reducible assumption) | assumption)
         obtain ⟨ad232, e232, hx232_0⟩:=Kd.at_int HR1.out x18_1 p232 q232
         have hw232_0:=hx232_0
         cases e232
         replace hx232_0:=(HB.out.cell (World.block_lt_of_cell? w _ hx232_0)).trans hx232_0
         replace p232:=eq_true p232
         replace q232:=eq_true q232
         refine start_ (n:=7) (S:=fun w'=>w'.cell? ⟨gb231, 0, none⟩ = some (.int .i64 ((rd_T33 l0 x18_1).f0)) ∧ w'.cell? ⟨gb231, 1, none⟩ = some (.int .i64 ((rd_T33 l0 x18_1).f1)) ∧ w'.cell? ⟨gb231, 2, none⟩ = some (.string ((rd_T33 l0 x18_1).f2)) ∧ w'.cell? ⟨gb231, 3, none⟩ = some (.int .i64 ((rd_T33 l0 x18_1).f3)) ∧ w'.cell? (ad232.add (x18_1).toNat) = some (.int .i64 (rd l1 x18_1))) (ds:=[]) #[false, false, false, false, false, false, false] (by kernel_rfl) rfl rfl ⟨(blk_cell BK231.out 0).trans rfl, (blk_cell BK231.out 1).trans rfl, (blk_cell BK231.out 2).trans rfl, (blk_cell BK231.out 3).trans rfl, ((HB.out.cell (World.block_lt_of_cell? w _ hw232_0)).trans hw232_0)⟩ (fun hHeld=>?_)
         generalize w22.drew = w23 at HO_7 BK231 HB hx232_0 hHeld ⊢
         refine pure_ (i:=0) (N:=some 23) (v:=?_) (a':=?_) #[true, false, false, false, false, false, false] rfl rfl (by kernel_rfl) (fun _ _ _ h=>h) (Or.inl ⟨by rfl, ?_⟩) ?_ ?_
         rotate_left
         ·intro w'
          go_simp
          with_reducible rfl
         rotate_left
         ·simp only [Act.put, List.setIfInBounds_toArray, List.set_cons_zero, List.set_cons_succ, i64_w, i32_w]
          rfl
         refine pure_ (i:=2) (N:=some 25) (v:=?_) (a':=?_) #[true, false, true, false, false, false, false] rfl rfl (by kernel_rfl) (fun _ _ _ h=>h) (Or.inl ⟨by rfl, ?_⟩) ?_ ?_
         rotate_left
         ·intro w'
          go_simp
          with_reducible rfl
         rotate_left
         ·simp only [Act.put, List.setIfInBounds_toArray, List.set_cons_zero, List.set_cons_succ, i64_w, i32_w]
          rfl
         refine pure_ (i:=3) (N:=some 26) (v:=?_) (a':=?_) #[true, false, true, true, false, false, false] rfl rfl (by kernel_rfl) (fun _ _ _ h=>h) (Or.inl ⟨by rfl, ?_⟩) ?_ ?_
         rotate_left
         ·intro w'
          go_simp
          with_reducible rfl
         rotate_left
         ·simp only [Act.put, List.setIfInBounds_toArray, List.set_cons_zero, List.set_cons_succ, i64_w, i32_w]
          rfl
         refine pure_ (i:=4) (N:=some 27) (v:=?_) (a':=?_) #[true, false, true, true, true, false, false] rfl rfl (by kernel_rfl) (fun _ _ _ h=>h) (Or.inl ⟨by rfl, ?_⟩) ?_ ?_
         rotate_left
         ·intro w'
          go_simp
          with_reducible rfl
         rotate_left
         ·simp only [Act.put, List.setIfInBounds_toArray, List.set_cons_zero, List.set_cons_succ, i64_w, i32_w]
          rfl
         refine take_ (i:=1) (N:=some 24) (v:=?_) (a':=?_) #[true, true, true, true, true, false, false] rfl rfl (by kernel_rfl) (fun _ _ _ h=>h) (Or.inl ⟨by rfl, ?_⟩) hHeld ?_ ?_
         rotate_left
         ·rintro w' ⟨s0, s1, s2, s3, s4⟩
          go_simp
          with_reducible rfl
         rotate_left
         ·simp only [Act.put, List.setIfInBounds_toArray, List.set_cons_zero, List.set_cons_succ, i64_w, i32_w]
          rfl
         refine take_ (i:=5) (N:=some 28) (v:=?_) (a':=?_) #[true, true, true, true, true, true, false] rfl rfl (by kernel_rfl) (fun _ _ _ h=>h) (Or.inl ⟨by rfl, ?_⟩) hHeld ?_ ?_
         rotate_left
         ·rintro w' ⟨s0, s1, s2, s3, s4⟩
          go_simp
          with_reducible rfl
         rotate_left
         ·simp only [Act.put, List.setIfInBounds_toArray, List.set_cons_zero, List.set_cons_succ, i64_w, i32_w]
          rfl
         refine pure_ (i:=6) (N:=some 29) (v:=?_) (a':=?_) #[true, true, true, true, true, true, true] rfl rfl (by kernel_rfl) (fun _ _ _ h=>h) (Or.inl ⟨by rfl, ?_⟩) ?_ ?_
         rotate_left
         ·intro w'
          go_simp
          with_reducible rfl
         rotate_left
         ·simp only [Act.put, List.setIfInBounds_toArray, List.set_cons_zero, List.set_cons_succ, i64_w, i32_w]
          rfl
         refine done_ (by kernel_rfl) ?_
         try go_wp2
         go_roundg k1
         case measure=>have:=HK1.out;omega
         case rel=>exact ⟨(x7_1), (wrap64 (x18_1 + 1)), (by first | rfl | (simp;done) | (simp [*];done)), H', ⟨by have:=HK1.out;omega⟩, ⟨by (with_reducible repeat (first | apply Kd.R_alloc | apply Kd.R_drewN | apply Kd.R_drew));exact Kd.R_mono HO_7.out (fun _ hk=>trivial)⟩, ⟨by repeat (first | (with_reducible first | exact HB.out | apply below_alloc | apply pw_below_drewN | apply below_drew1 | refine below_set ?_ GE231.out) | exact HB.out)⟩⟩
       ·rw [if_neg c9] at H
        exact absurd H (by simp)
      ·rw [if_neg c8] at H
       exact absurd H (by simp)
     ·rw [if_neg c7] at H
      exact absurd H (by simp)
    ·rw [if_neg c6] at H
     have c6b0 : decide (x18_1 < (l0.length : Int)) = false:=decide_eq_false c6
     clear c6
     simp only [Option.some.injEq, Prod.mk.injEq] at H
     obtain ⟨rfl, rfl⟩:=H
     go_wp2
     go_ret2
     exact ⟨_, by first | rfl | (simp [errW_none, errW_some] <;> rfl) | (simp [*, errW_none, errW_some] <;> rfl), by (with_reducible repeat (first | apply Kd.R_alloc | apply Kd.R_drewN | apply Kd.R_drew));exact HO_7.out, by repeat (first | (with_reducible first | exact HB.out | apply below_alloc | apply pw_below_drewN | apply below_drew1) | exact HB.out)⟩
 ·rw [if_neg c4] at H
  have c4b0 : (t229 == 0) = false:=beq_eq_false_iff_ne.mpr c4
  have c4b1 : (t229 != 0) = true:=bne_iff_ne.mpr c4
  simp only [Option.some.injEq, Prod.mk.injEq] at H
  obtain ⟨rfl, rfl⟩:=H
  go_enter Try.func7, Try.ntmps7
  go_wp2_with (first | ((with_reducible refine gate_callee (f:=18) rfl ?_);refine goesL_ (some 12) rfl rfl Try.func18 (by kernel_rfl) rfl #[.slice A0 l0.length c0, .slice A1 l1.length c1, .int .i64 0] rfl (by (try simp only [List.map_toArray, List.map_cons, List.map_nil]);first | done | rfl | (simp only [List.length_drop, List.length_take];rfl)) ?_;(with_reducible refine (waterfall_check.calls k _ _ l0 _ _ l1 0 t229 _ ?side1 ?side2 ?side3 ?side4 A3.out).mono ?_);(case side1=>repeat (first | exact HR0.out | (with_reducible refine Kd.C_alloc ?_ _) | (with_reducible refine Kd.C_drewN ?_ _) | (with_reducible refine Kd.C_drew ?_)));(case side2=>exact HC0.out);(case side3=>repeat (first | exact HR1.out | (with_reducible refine Kd.C_alloc ?_ _) | (with_reducible refine Kd.C_drewN ?_ _) | (with_reducible refine Kd.C_drew ?_)));(case side4=>exact HC1.out);rintro e w24 ⟨rfl, hb⟩;refine ⟨_, rfl, ?_⟩;have n0_:=Aside0.mk (below_step (by repeat (first | (with_reducible first | exact HB.out | apply below_alloc | apply pw_below_drewN | apply below_drew1) | exact HB.out)) hb);clear HB;have HB:=n0_;clear n0_;(try clear hb);(try clear hb2);(try clear hk);(try clear hi)))
  go_ret2
  exact ⟨_, by first | rfl | (simp [errW_none, errW_some] <;> rfl) | (simp [*, errW_none, errW_some] <;> rfl), by first | exact Kd.R_nil _ _ _ _ _ | exact Kd.N_nil _ _ _ _ _ | exact Kd.V_nil _ _ _ _ _ | exact Kd.Q_nil _ _ _ _ _ | exact Kd.S_nil _ _ _ _ _, by repeat (first | (with_reducible first | exact HB.out | apply below_alloc | apply pw_below_drewN | apply below_drew1) | exact HB.out)⟩

/-! ### contangotop_turnD: function 8 -/
def contangotop_turnD.l0 : Nat → List (S33) → List Int → Int → Int → Int → Int → Int → Option (Int)
 | 0, _, _, _, _, _, _, _=>none
 | k + 1, x0, x1, x2, x3, x9, x12, x13=>if x13 < x12 then (if 0 ≤ x13 then (if x13 < (x0.length : Int) then (if ((rd_T33 x0 x13).f0) = x2 then (if ((rd_T33 x0 x13).f1) = x3 then (if x13 < (x1.length : Int) then (contangotop_turnD.l0 k x0 x1 x2 x3 (wrap64 (x9 + (rd x1 x13))) x12 (wrap64 (x13 + 1))) else (contangotop_turnD.l0 k x0 x1 x2 x3 x9 x12 (wrap64 (x13 + 1)))) else (contangotop_turnD.l0 k x0 x1 x2 x3 x9 x12 (wrap64 (x13 + 1)))) else (contangotop_turnD.l0 k x0 x1 x2 x3 x9 x12 (wrap64 (x13 + 1)))) else (none)) else (none)) else (some x9)
def contangotop_turnD.f (k : Nat) (l0 : List (S33)) (l1 : List Int) (a2 : Int) (a3 : Int) : Option (Int):=contangotop_turnD.l0 k l0 l1 a2 a3 0 (l0.length : Int) 0
theorem contangotop_turnD.mono_l : ∀ k, (∀ y0 y1 y2 y3 y4 y5 y6, LeO (contangotop_turnD.l0 k y0 y1 y2 y3 y4 y5 y6) (contangotop_turnD.l0 (k + 1) y0 y1 y2 y3 y4 y5 y6))
 | 0=>fun _ _ _ _ _ _ _ r h=>by simp [contangotop_turnD.l0] at h
 | k + 1=>by
  have ih0:=contangotop_turnD.mono_l k
  ·intro y0 y1 y2 y3 y4 y5 y6
   unfold contangotop_turnD.l0
   repeat' first
   | (with_reducible exact ih0 _ _ _ _ _ _ _)
   | (with_reducible exact LeO.refl _)
   | (with_reducible exact LeO.none _)
   | (with_reducible refine LeO.ite ?_ ?_)
   | (with_reducible refine LeO.bind ?_ (fun _=>?_))
   | exact ih0 _ _ _ _ _ _ _
   | exact LeO.none _
   | refine LeO.ite ?_ ?_
   | refine LeO.bind ?_ (fun _=>?_)
theorem contangotop_turnD.mono : ∀ a0 a1 a2 a3 k, LeO (contangotop_turnD.f k a0 a1 a2 a3) (contangotop_turnD.f (k + 1) a0 a1 a2 a3):=by
 intro a0 a1 a2 a3 k
 have ih0:=contangotop_turnD.mono_l k
 unfold contangotop_turnD.f
 repeat' first
   | (with_reducible exact ih0 _ _ _ _ _ _ _)
   | (with_reducible exact LeO.refl _)
   | (with_reducible exact LeO.none _)
   | (with_reducible refine LeO.ite ?_ ?_)
   | (with_reducible refine LeO.bind ?_ (fun _=>?_))
   | exact ih0 _ _ _ _ _ _ _
   | exact LeO.none _
   | refine LeO.ite ?_ ?_
   | refine LeO.bind ?_ (fun _=>?_)
set_option maxHeartbeats 8000000 in
set_option maxRecDepth 100000 in
theorem contangotop_turnD.calls (k : Nat) (A0 : Option Addr) (c0 : Nat) (l0 : List (S33)) (A1 : Option Addr) (c1 : Nat) (l1 : List Int) (a2 : Int) (a3 : Int) (r : Int) (w : World) (hr0 : Kd.C k33 w A0 l0.length l0) (hc0 : l0.length ≤ c0) (hr1 : Kd.C (Kd.int .i64) w A1 l1.length l1) (hc1 : l1.length ≤ c1) (h : contangotop_turnD.f k l0 l1 a2 a3 = some r) :
  Calls Try.prog 8 #[.slice A0 l0.length c0, .slice A1 l1.length c1, .int .i64 a2, .int .i64 a3] w fun e w'=>e = .returned (.int .i64 r) ∧ Drawn0 w w':=by
 have HR0:=Aside0.mk hr0
 have HC0:=Aside0.mk hc0
 clear hr0 hc0
 have HR1:=Aside0.mk hr1
 have HC1:=Aside0.mk hc1
 clear hr1 hc1
 have H : (contangotop_turnD.l0 k l0 l1 a2 a3 0 (l0.length : Int) 0) = some r:=h
 clear h
 have H':=Aside0.mk H
 clear H
 go_enter Try.func8, Try.ntmps8
 go_wp2
 go_loopg [9, 13] k (fun kq v9 v13 w'=>∃ (x9_1 : Int) (x13_1 : Int), v9 = .int .i64 x9_1 ∧ v13 = .int .i64 x13_1 ∧ Aside0 (contangotop_turnD.l0 kq l0 l1 a2 a3 x9_1 (l0.length : Int) x13_1 = some r) ∧ Aside0 (kq ≤ k) ∧ Drawn0 w w')
 case atStart=>exact ⟨(0), (0), (by first | rfl | (simp;done) | (simp [*];done)), (by first | rfl | (simp;done) | (simp [*];done)), H', ⟨Nat.le_refl _⟩, by repeat (first | exact Drawn0.refl _ | apply Drawn0.step)⟩
 case round =>
  clear H'
  try clear c1
  try clear p2
  obtain ⟨x9_1, x13_1, rfl, rfl, HA, HK1, ⟨m1, rfl⟩⟩:=hrel
  cases gk with
  | zero=>exact absurd HA.out (by simp [contangotop_turnD.l0])
  | succ k1 =>
   have H:=HA.out
   clear HA
   simp only [contangotop_turnD.l0] at H
   by_cases c5 : x13_1 < (l0.length : Int)
   ·rw [if_pos c5] at H
    have c5b0 : decide (x13_1 < (l0.length : Int)) = true:=decide_eq_true c5
    clear c5
    by_cases c6 : 0 ≤ x13_1
    ·rw [if_pos c6] at H
     have c6b0 : decide (0 ≤ x13_1) = true:=decide_eq_true c6
     clear c6
     by_cases c7 : x13_1 < (l0.length : Int)
     ·rw [if_pos c7] at H
      have c7b0 : decide (x13_1 < (l0.length : Int)) = true:=decide_eq_true c7
      clear c7
      by_cases c8 : ((rd_T33 l0 x13_1).f0) = a2
      ·rw [if_pos c8] at H
       have c8b0 : (((rd_T33 l0 x13_1).f0) == a2) = true:=beq_iff_eq.mpr c8
       have c8b1 : (((rd_T33 l0 x13_1).f0) != a2) = false:=bne_eq_false_iff_eq.mpr c8
       clear c8
       by_cases c9 : ((rd_T33 l0 x13_1).f1) = a3
       ·rw [if_pos c9] at H
        have c9b0 : (((rd_T33 l0 x13_1).f1) == a3) = true:=beq_iff_eq.mpr c9
        have c9b1 : (((rd_T33 l0 x13_1).f1) != a3) = false:=bne_eq_false_iff_eq.mpr c9
        clear c9
        by_cases c10 : x13_1 < (l1.length : Int)
        ·rw [if_pos c10] at H
         have c10b0 : decide (x13_1 < (l1.length : Int)) = true:=decide_eq_true c10
         clear c10
         have H':=Aside0.mk H
         clear H
         have p237 : 0 ≤ (x13_1 : Int):=of_decide_eq_true (by first | (with_reducible assumption) | assumption)
         have q237 : x13_1 < (l0.length : Int):=of_decide_eq_true (by first | (with_reducible assumption) | assumption)
         obtain ⟨ad237, e237, hx237_0, hx237_1, hx237_2, hx237_3⟩:=at_T33 HR0.out x13_1 p237 q237
         cases e237
         replace p237:=eq_true p237
         replace q237:=eq_true q237
         have p238 : 0 ≤ (x13_1 : Int):=of_decide_eq_true (by first | (with_reducible assumption) | assumption)
         have q238 : x13_1 < (l0.length : Int):=of_decide_eq_true (by first | (with_reducible assumption) | assumption)
         obtain ⟨ad238, e238, hx238_0, hx238_1, hx238_2, hx238_3⟩:=at_T33 HR0.out x13_1 p238 q238
         obtain rfl : ad237 = ad238:=(by injection e238)
         replace p238:=eq_true p238
         replace q238:=eq_true q238
         have p239 : 0 ≤ (x13_1 : Int):=of_decide_eq_true (by first | (with_reducible assumption) | assumption)
         have q239 : x13_1 < (l1.length : Int):=of_decide_eq_true (by first | (with_reducible assumption) | assumption)
         obtain ⟨ad239, e239, hx239_0⟩:=Kd.at_int HR1.out x13_1 p239 q239
         cases e239
         replace p239:=eq_true p239
         replace q239:=eq_true q239
         go_wp2
         go_roundg k1
         case measure=>have:=HK1.out;omega
         case rel=>exact ⟨(wrap64 (x9_1 + (rd l1 x13_1))), (wrap64 (x13_1 + 1)), (by first | rfl | (simp;done) | (simp [*];done)), (by first | rfl | (simp;done) | (simp [*];done)), H', ⟨by have:=HK1.out;omega⟩, by repeat (first | exact Drawn0.refl _ | apply Drawn0.step)⟩
        ·rw [if_neg c10] at H
         have c10b0 : decide (x13_1 < (l1.length : Int)) = false:=decide_eq_false c10
         clear c10
         have H':=Aside0.mk H
         clear H
         have p237 : 0 ≤ (x13_1 : Int):=of_decide_eq_true (by first | (with_reducible assumption) | assumption)
         have q237 : x13_1 < (l0.length : Int):=of_decide_eq_true (by first | (with_reducible assumption) | assumption)
         obtain ⟨ad237, e237, hx237_0, hx237_1, hx237_2, hx237_3⟩:=at_T33 HR0.out x13_1 p237 q237
         cases e237
         replace p237:=eq_true p237
         replace q237:=eq_true q237
         have p238 : 0 ≤ (x13_1 : Int):=of_decide_eq_true (by first | (with_reducible assumption) | assumption)
         have q238 : x13_1 < (l0.length : Int):=of_decide_eq_true (by first | (with_reducible assumption) | assumption)
         obtain ⟨ad238, e238, hx238_0, hx238_1, hx238_2, hx238_3⟩:=at_T33 HR0.out x13_1 p238 q238
         obtain rfl : ad237 = ad238:=(by injection e238)
         replace p238:=eq_true p238
         replace q238:=eq_true q238
         go_wp2
         go_roundg k1
         case measure=>have:=HK1.out;omega
         case rel=>exact ⟨(x9_1), (wrap64 (x13_1 + 1)), (by first | rfl | (simp;done) | (simp [*];done)), (by first | rfl | (simp;done) | (simp [*];done)), H', ⟨by have:=HK1.out;omega⟩, by repeat (first | exact Drawn0.refl _ | apply Drawn0.step)⟩
       ·rw [if_neg c9] at H
        have c9b0 : (((rd_T33 l0 x13_1).f1) == a3) = false:=beq_eq_false_iff_ne.mpr c9
        have c9b1 : (((rd_T33 l0 x13_1).f1) != a3) = true:=bne_iff_ne.mpr c9
        have H':=Aside0.mk H
        clear H
        have p237 : 0 ≤ (x13_1 : Int):=of_decide_eq_true (by first | (with_reducible assumption) | assumption)
        have q237 : x13_1 < (l0.length : Int):=of_decide_eq_true (by first | (with_reducible assumption) | assumption)
        obtain ⟨ad237, e237, hx237_0, hx237_1, hx237_2, hx237_3⟩:=at_T33 HR0.out x13_1 p237 q237
        cases e237
        replace p237:=eq_true p237
        replace q237:=eq_true q237
        have p238 : 0 ≤ (x13_1 : Int):=of_decide_eq_true (by first | (with_reducible assumption) | assumption)
        have q238 : x13_1 < (l0.length : Int):=of_decide_eq_true (by first | (with_reducible assumption) | assumption)
        obtain ⟨ad238, e238, hx238_0, hx238_1, hx238_2, hx238_3⟩:=at_T33 HR0.out x13_1 p238 q238
        obtain rfl : ad237 = ad238:=(by injection e238)
        replace p238:=eq_true p238
        replace q238:=eq_true q238
        go_wp2
        go_roundg k1
        case measure=>have:=HK1.out;omega
        case rel=>exact ⟨(x9_1), (wrap64 (x13_1 + 1)), (by first | rfl | (simp;done) | (simp [*];done)), (by first | rfl | (simp;done) | (simp [*];done)), H', ⟨by have:=HK1.out;omega⟩, by repeat (first | exact Drawn0.refl _ | apply Drawn0.step)⟩
      ·rw [if_neg c8] at H
       have c8b0 : (((rd_T33 l0 x13_1).f0) == a2) = false:=beq_eq_false_iff_ne.mpr c8
       have c8b1 : (((rd_T33 l0 x13_1).f0) != a2) = true:=bne_iff_ne.mpr c8
       have H':=Aside0.mk H
       clear H
       have p237 : 0 ≤ (x13_1 : Int):=of_decide_eq_true (by first | (with_reducible assumption) | assumption)
       have q237 : x13_1 < (l0.length : Int):=of_decide_eq_true (by first | (with_reducible assumption) | assumption)
       obtain ⟨ad237, e237, hx237_0, hx237_1, hx237_2, hx237_3⟩:=at_T33 HR0.out x13_1 p237 q237
       cases e237
       replace p237:=eq_true p237
       replace q237:=eq_true q237
       go_wp2
       go_roundg k1
       case measure=>have:=HK1.out;omega
       case rel=>exact ⟨(x9_1), (wrap64 (x13_1 + 1)), (by first | rfl | (simp;done) | (simp [*];done)), (by first | rfl | (simp;done) | (simp [*];done)), H', ⟨by have:=HK1.out;omega⟩, by repeat (first | exact Drawn0.refl _ | apply Drawn0.step)⟩
     ·rw [if_neg c7] at H
      exact absurd H (by simp)
    ·rw [if_neg c6] at H
     exact absurd H (by simp)
   ·rw [if_neg c5] at H
    have c5b0 : decide (x13_1 < (l0.length : Int)) = false:=decide_eq_false c5
    clear c5
    obtain rfl:=Option.some.inj H
    go_wp2
    go_ret
    exact ⟨by first | rfl | (simp;done) | (simp [*];done), by repeat (first | exact Drawn0.refl _ | apply Drawn0.step)⟩

end Go.Proofs.Ytlkdilfheplmhaa.PTopLosses
