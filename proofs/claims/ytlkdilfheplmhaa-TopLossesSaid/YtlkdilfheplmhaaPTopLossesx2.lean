/- Laid for this claim by a program of this session's (wip/mkprint.py, wip/ext.py); not trusted: Lean checks it. -/
import Derived.Test.YtlkdilfheplmhaaPTopLossesx0
import Derived.Test.YtlkdilfheplmhaaPTopLossesx1
namespace Go.Proofs.Ytlkdilfheplmhaa.PTopLosses
open Go.RowKit Go.Proofs.YtlkdilfheplmhaaW.PrintWords Go.Proofs.YtlkdilfheplmhaaW.PrintLast Go.Proofs.YtlkdilfheplmhaaW.PrintMore
attribute [local go_sem] max2_int min2_int max_two min_two max_three min_three max_four min_four   -- for this text's walks alone
set_option linter.unusedVariables false
set_option linter.unusedSimpArgs false

/-! ### cr47_Check: function 4 -/
mutual
def cr47_Check.l0 : Nat → List (S33) → Int → Option (Int)
 | 0, _, _=>none
 | k + 1, x0, x3=>if x3 < (x0.length : Int) then (if 0 ≤ x3 then (if ((rd_T33 x0 x3).f0) < 1 then (cr47_Check.j1 k x0 x3 true ((rd_T33 x0 x3).f0) ((rd_T33 x0 x3).f1) ((rd_T33 x0 x3).f2) ((rd_T33 x0 x3).f3)) else (if ((rd_T33 x0 x3).f0) > 8 then (cr47_Check.j1 k x0 x3 true ((rd_T33 x0 x3).f0) ((rd_T33 x0 x3).f1) ((rd_T33 x0 x3).f2) ((rd_T33 x0 x3).f3)) else (if ((rd_T33 x0 x3).f1) < 0 then (cr47_Check.j1 k x0 x3 true ((rd_T33 x0 x3).f0) ((rd_T33 x0 x3).f1) ((rd_T33 x0 x3).f2) ((rd_T33 x0 x3).f3)) else (if ((rd_T33 x0 x3).f1) > 9 then (cr47_Check.j1 k x0 x3 true ((rd_T33 x0 x3).f0) ((rd_T33 x0 x3).f1) ((rd_T33 x0 x3).f2) ((rd_T33 x0 x3).f3)) else ((cr02_Money.f ((rd_T33 x0 x3).f3)).bind fun t105=>(cr47_Check.j1 k x0 x3 (!t105) ((rd_T33 x0 x3).f0) ((rd_T33 x0 x3).f1) ((rd_T33 x0 x3).f2) ((rd_T33 x0 x3).f3))))))) else (none)) else (cr47_Check.l1 k x0 0 0)
def cr47_Check.j1 : Nat → List (S33) → Int → Bool → Int → Int → ByteArray → Int → Option (Int)
 | 0, _, _, _, _, _, _, _=>none
 | k + 1, x0, x3, x43, x105000, x105001, x105002, x105003=>if x43 = true then (some 2) else ((cr22_Name.f k x105002).bind fun t106=>(if t106 = true then (if x3 > 0 then (if 0 ≤ (wrap64 (x3 - 1)) then (if (wrap64 (x3 - 1)) < (x0.length : Int) then ((cr47_before.f ((rd_T33 x0 (wrap64 (x3 - 1))).f0) ((rd_T33 x0 (wrap64 (x3 - 1))).f1) ((rd_T33 x0 (wrap64 (x3 - 1))).f2) ((rd_T33 x0 (wrap64 (x3 - 1))).f3) x105000 x105001 x105002 x105003).bind fun t108=>(if t108 = true then (cr47_Check.l0 k x0 (wrap64 (x3 + 1))) else (some 12))) else (none)) else (none)) else (cr47_Check.l0 k x0 (wrap64 (x3 + 1)))) else (some 10)))
def cr47_Check.l1 : Nat → List (S33) → Int → Int → Option (Int)
 | 0, _, _, _=>none
 | k + 1, x0, x5, x6=>if x6 < (x0.length : Int) then (if 0 ≤ x6 then (if ((rd_T33 x0 x6).f3) > (wrap64 (1152921504606846976 - x5)) then (some 3) else (cr47_Check.l1 k x0 (wrap64 (x5 + ((rd_T33 x0 x6).f3))) (wrap64 (x6 + 1)))) else (none)) else (some 0)
end
def cr47_Check.f (k : Nat) (l0 : List (S33)) : Option (Int):=if (l0.length : Int) > 1024 then (some 8) else (cr47_Check.l0 k l0 0)
theorem cr47_Check.mono_l : ∀ k, (∀ y0 y1, LeO (cr47_Check.l0 k y0 y1) (cr47_Check.l0 (k + 1) y0 y1)) ∧ (∀ y0 y1 y2 y3 y4 y5 y6, LeO (cr47_Check.j1 k y0 y1 y2 y3 y4 y5 y6) (cr47_Check.j1 (k + 1) y0 y1 y2 y3 y4 y5 y6)) ∧ (∀ y0 y1 y2, LeO (cr47_Check.l1 k y0 y1 y2) (cr47_Check.l1 (k + 1) y0 y1 y2))
 | 0=>⟨fun _ _ r h=>by simp [cr47_Check.l0] at h, fun _ _ _ _ _ _ _ r h=>by simp [cr47_Check.j1] at h, fun _ _ _ r h=>by simp [cr47_Check.l1] at h⟩
 | k + 1=>by
  obtain ⟨ih0, ih1, ih2⟩:=cr47_Check.mono_l k
  refine ⟨?_, ?_, ?_⟩
  ·intro y0 y1
   unfold cr47_Check.l0
   repeat' first
   | (with_reducible exact ih0 _ _)
   | (with_reducible exact ih1 _ _ _ _ _ _ _)
   | (with_reducible exact ih2 _ _ _)
   | (with_reducible exact cr22_Name.mono _ _)
   | (with_reducible exact LeO.refl _)
   | (with_reducible exact LeO.none _)
   | (with_reducible refine LeO.ite ?_ ?_)
   | (with_reducible refine LeO.bind ?_ (fun _=>?_))
   | exact ih0 _ _
   | exact ih1 _ _ _ _ _ _ _
   | exact ih2 _ _ _
   | exact cr22_Name.mono _ _
   | exact LeO.none _
   | refine LeO.ite ?_ ?_
   | refine LeO.bind ?_ (fun _=>?_)
  ·intro y0 y1 y2 y3 y4 y5 y6
   unfold cr47_Check.j1
   repeat' first
   | (with_reducible exact ih0 _ _)
   | (with_reducible exact ih1 _ _ _ _ _ _ _)
   | (with_reducible exact ih2 _ _ _)
   | (with_reducible exact cr22_Name.mono _ _)
   | (with_reducible exact LeO.refl _)
   | (with_reducible exact LeO.none _)
   | (with_reducible refine LeO.ite ?_ ?_)
   | (with_reducible refine LeO.bind ?_ (fun _=>?_))
   | exact ih0 _ _
   | exact ih1 _ _ _ _ _ _ _
   | exact ih2 _ _ _
   | exact cr22_Name.mono _ _
   | exact LeO.none _
   | refine LeO.ite ?_ ?_
   | refine LeO.bind ?_ (fun _=>?_)
  ·intro y0 y1 y2
   unfold cr47_Check.l1
   repeat' first
   | (with_reducible exact ih0 _ _)
   | (with_reducible exact ih1 _ _ _ _ _ _ _)
   | (with_reducible exact ih2 _ _ _)
   | (with_reducible exact cr22_Name.mono _ _)
   | (with_reducible exact LeO.refl _)
   | (with_reducible exact LeO.none _)
   | (with_reducible refine LeO.ite ?_ ?_)
   | (with_reducible refine LeO.bind ?_ (fun _=>?_))
   | exact ih0 _ _
   | exact ih1 _ _ _ _ _ _ _
   | exact ih2 _ _ _
   | exact cr22_Name.mono _ _
   | exact LeO.none _
   | refine LeO.ite ?_ ?_
   | refine LeO.bind ?_ (fun _=>?_)
theorem cr47_Check.mono : ∀ a0 k, LeO (cr47_Check.f k a0) (cr47_Check.f (k + 1) a0):=by
 intro a0 k
 obtain ⟨ih0, ih1, ih2⟩:=cr47_Check.mono_l k
 unfold cr47_Check.f
 repeat' first
   | (with_reducible exact ih0 _ _)
   | (with_reducible exact ih1 _ _ _ _ _ _ _)
   | (with_reducible exact ih2 _ _ _)
   | (with_reducible exact cr22_Name.mono _ _)
   | (with_reducible exact LeO.refl _)
   | (with_reducible exact LeO.none _)
   | (with_reducible refine LeO.ite ?_ ?_)
   | (with_reducible refine LeO.bind ?_ (fun _=>?_))
   | exact ih0 _ _
   | exact ih1 _ _ _ _ _ _ _
   | exact ih2 _ _ _
   | exact cr22_Name.mono _ _
   | exact LeO.none _
   | refine LeO.ite ?_ ?_
   | refine LeO.bind ?_ (fun _=>?_)
def cr47_Check.T11 : Bool × List (List Nat × List Nat):=(true, [([], []), ([0], [0]), ([1], [1]), ([2], [2]), ([2], [2]), ([4, 2], [2, 4]), ([3, 5, 2], [2, 3, 5]), ([6, 2], [2, 6]), ([2], [2]), ([7, 8, 2, 2], [2, 7, 8]), ([9, 2], [2, 9]), ([2, 10], [2, 10])])
def cr47_Check.B11 : List Nat:=[0, 1, 3, 7, 7, 23, 63, 127, 7, 511, 1023, 2047]
theorem cr47_Check.tab11 : rtab .any (opsOf Try.f4 11) = cr47_Check.T11:=by kernel_rfl
theorem cr47_Check.bits11 : waitsOk cr47_Check.T11.2 cr47_Check.B11 = true:=by kernel_rfl
set_option maxHeartbeats 8000000 in
set_option maxRecDepth 100000 in
theorem cr47_Check.calls (k : Nat) (A0 : Option Addr) (c0 : Nat) (l0 : List (S33)) (r : Int) (w : World) (hr0 : Kd.C k33 w A0 l0.length l0) (hc0 : l0.length ≤ c0) (h : cr47_Check.f k l0 = some r) :
  Calls Try.prog 4 #[.slice A0 l0.length c0] w fun e w'=>e = .returned (.int .i64 r) ∧ Below w.heap.size w w':=by
 have hu33:=Try.underlying33
 have HR0:=Aside0.mk hr0
 have HC0:=Aside0.mk hc0
 clear hr0 hc0
 have HB:=Aside0.mk (Below.refl w.heap.size w)
 have H : (if (l0.length : Int) > 1024 then (some 8) else (cr47_Check.l0 k l0 0)) = some r:=h
 clear h
 by_cases c2 : (l0.length : Int) > 1024
 ·rw [if_pos c2] at H
  have c2b0 : decide (1024 < (l0.length : Int)) = true:=decide_eq_true c2
  have c2b1 : decide (1024 < l0.length) = true:=decide_eq_true (by omega)
  clear c2
  obtain rfl:=Option.some.inj H
  go_enter Try.func4, Try.ntmps4
  go_wp2
  go_ret
  exact ⟨by first | rfl | (simp [errW_none, errW_some] <;> rfl) | (simp [*, errW_none, errW_some] <;> rfl), by repeat (first | (with_reducible first | exact HB.out | apply below_alloc | apply pw_below_drewN | apply below_drew1) | exact HB.out)⟩
 ·rw [if_neg c2] at H
  have c2b0 : decide (1024 < (l0.length : Int)) = false:=decide_eq_false c2
  have c2b1 : decide (1024 < l0.length) = false:=decide_eq_false (by omega)
  clear c2
  have H':=Aside0.mk H
  clear H
  go_enter Try.func4, Try.ntmps4
  go_wp2
  go_loopg [3] k (fun kq v3 w'=>∃ (x3_1 : Int), v3 = .int .i64 x3_1 ∧ Aside0 (cr47_Check.l0 kq l0 x3_1 = some r) ∧ Aside0 (kq ≤ k) ∧ Aside0 (Below w.heap.size w w'))
  case atStart=>exact ⟨(0), (by first | rfl | (simp;done) | (simp [*];done)), H', ⟨Nat.le_refl _⟩, ⟨by repeat (first | (with_reducible first | exact HB.out | apply below_alloc | apply pw_below_drewN | apply below_drew1) | exact HB.out)⟩⟩
  case round =>
   clear H'
   try clear c2
   try clear c2b0
   try clear c2b1
   try clear p2
   obtain ⟨x3_1, rfl, HA, HK1, HB⟩:=hrel
   cases gk with
   | zero=>exact absurd HA.out (by simp [cr47_Check.l0])
   | succ k1 =>
    have H:=HA.out
    clear HA
    simp only [cr47_Check.l0] at H
    by_cases c3 : x3_1 < (l0.length : Int)
    ·rw [if_pos c3] at H
     have c3b0 : decide (x3_1 < (l0.length : Int)) = true:=decide_eq_true c3
     clear c3
     by_cases c4 : 0 ≤ x3_1
     ·rw [if_pos c4] at H
      have c4b0 : decide (0 ≤ x3_1) = true:=decide_eq_true c4
      clear c4
      have HC5:=Aside0.mk H
      clear H
      have p103 : 0 ≤ (x3_1 : Int):=of_decide_eq_true (by first | (with_reducible assumption) | assumption)
      have q103 : x3_1 < (l0.length : Int):=of_decide_eq_true (by first | (with_reducible assumption) | assumption)
      obtain ⟨ad103, e103, hx103_0, hx103_1, hx103_2, hx103_3⟩:=at_T33 HR0.out x3_1 p103 q103
      cases e103
      replace hx103_0:=(HB.out.cell (World.block_lt_of_cell? w _ hx103_0)).trans hx103_0
      replace hx103_1:=(HB.out.cell (World.block_lt_of_cell? w _ hx103_1)).trans hx103_1
      replace hx103_2:=(HB.out.cell (World.block_lt_of_cell? w _ hx103_2)).trans hx103_2
      replace hx103_3:=(HB.out.cell (World.block_lt_of_cell? w _ hx103_3)).trans hx103_3
      replace p103:=eq_true p103
      replace q103:=eq_true q103
      go_upto_region 7 with (first | ((with_reducible refine gate_dst (N:=4) rfl ?_);refine box_event ?hg (N:=4) ?hd (cs:=#[.int .i64 0, .int .i64 0, .string (⟨#[]⟩ : ByteArray), .int .i64 0]) (t:=33) ?hr ?_;(case hd=>rfl);(case hg=>rfl);(case hr=>first | (go_simp;done) | (go_simp;rfl));intro gb104 hg w6 hbox hb;have n0_:=Aside0.mk (below_step (by repeat (first | (with_reducible first | exact HB.out | apply below_alloc | apply pw_below_drewN | apply below_drew1) | exact HB.out)) hb);have n1_:=Aside0.mk (hbox);have n2_:=Aside0.mk ((by rw [hg];exact (below_size (by repeat (first | (with_reducible first | exact HB.out | apply below_alloc | apply pw_below_drewN | apply below_drew1) | exact HB.out))) : w.heap.size ≤ gb104));have n3_:=Aside0.mk ((by rw [hg];exact (below_size (by repeat (first | (with_reducible first | exact HB.out | apply below_alloc | apply pw_below_drewN | apply below_drew1) | exact HB.out))) : w.heap.size ≤ gb104));clear HB;have HB:=n0_;have BK104:=n1_;have GW104:=n2_;have GE104:=n3_;clear n0_ n1_ n2_ n3_ hb hbox hg;have hcz7_0 : w6.cell? ⟨gb104, 0, none⟩ = some (.int .i64 0):=(blk_cell BK104.out 0).trans rfl;have hcz7_1 : w6.cell? ⟨gb104, 1, none⟩ = some (.int .i64 0):=(blk_cell BK104.out 1).trans rfl;have hcz7_2 : w6.cell? ⟨gb104, 2, none⟩ = some (.string (⟨#[]⟩ : ByteArray)):=(blk_cell BK104.out 2).trans rfl;have hcz7_3 : w6.cell? ⟨gb104, 3, none⟩ = some (.int .i64 0):=(blk_cell BK104.out 3).trans rfl;have hfz7_0:=blk_frozen BK104.out 0;have hfz7_1:=blk_frozen BK104.out 1;have hfz7_2:=blk_frozen BK104.out 2;have hfz7_3:=blk_frozen BK104.out 3))
      (try simp only [Act.put, List.setIfInBounds_toArray, List.set_cons_zero, List.set_cons_succ])
      go_cut [43] (fun v43 wc=>∃ (kq : Nat) (x43_4 : Bool), v43 = .bool x43_4 ∧ Aside0 (cr47_Check.j1 kq l0 x3_1 x43_4 ((rd_T33 l0 x3_1).f0) ((rd_T33 l0 x3_1).f1) ((rd_T33 l0 x3_1).f2) ((rd_T33 l0 x3_1).f3) = some r) ∧ Aside0 (kq ≤ k1) ∧ Aside0 (wc.heap[gb104]? = some (.cells #[.int .i64 ((rd_T33 l0 x3_1).f0), .int .i64 ((rd_T33 l0 x3_1).f1), .string ((rd_T33 l0 x3_1).f2), .int .i64 ((rd_T33 l0 x3_1).f3)] 33 (0, 0))) ∧ Aside0 (Below w.heap.size w wc))
      case first =>
       have H:=HC5.out
       clear HC5
       by_cases c8 : ((rd_T33 l0 x3_1).f0) < 1
       ·rw [if_pos c8] at H
        have c8b0 : decide (((rd_T33 l0 x3_1).f0) < 1) = true:=decide_eq_true c8
        clear c8
        (first | rw [c8b0] | (simp only [i64_w, i32_w];rw [c8b0]) | skip)
        have H':=Aside0.mk H
        clear H
        have hcz9_0 : w6.cell? ⟨gb104, 0, none⟩ = some (.int .i64 0):=(blk_cell BK104.out 0).trans rfl
        have hcz9_1 : w6.cell? ⟨gb104, 1, none⟩ = some (.int .i64 0):=(blk_cell BK104.out 1).trans rfl
        have hcz9_2 : w6.cell? ⟨gb104, 2, none⟩ = some (.string (⟨#[]⟩ : ByteArray)):=(blk_cell BK104.out 2).trans rfl
        have hcz9_3 : w6.cell? ⟨gb104, 3, none⟩ = some (.int .i64 0):=(blk_cell BK104.out 3).trans rfl
        have hfz9_0:=blk_frozen BK104.out 0
        have hfz9_1:=blk_frozen BK104.out 1
        have hfz9_2:=blk_frozen BK104.out 2
        have hfz9_3:=blk_frozen BK104.out 3
        go_wp2
        go_meet
        case rel=>exact ⟨_, (true), (by first | rfl | (simp;done) | (simp [*];done)), H', ⟨by have:=HK1.out;first | omega | exact Nat.le_refl _⟩, ⟨by (with_reducible repeat (first | refine blk_drewN ?_ _ | refine blk_drew ?_ | refine blk_alloc ?_ _));refine blk_put (cs:=#[.int .i64 ((rd_T33 l0 x3_1).f0), .int .i64 ((rd_T33 l0 x3_1).f1), .string ((rd_T33 l0 x3_1).f2), .int .i64 0]) ?_ 3 _ rfl;(with_reducible repeat (first | refine blk_drewN ?_ _ | refine blk_drew ?_ | refine blk_alloc ?_ _));refine blk_put (cs:=#[.int .i64 ((rd_T33 l0 x3_1).f0), .int .i64 ((rd_T33 l0 x3_1).f1), .string (⟨#[]⟩ : ByteArray), .int .i64 0]) ?_ 2 _ rfl;(with_reducible repeat (first | refine blk_drewN ?_ _ | refine blk_drew ?_ | refine blk_alloc ?_ _));refine blk_put (cs:=#[.int .i64 ((rd_T33 l0 x3_1).f0), .int .i64 0, .string (⟨#[]⟩ : ByteArray), .int .i64 0]) ?_ 1 _ rfl;(with_reducible repeat (first | refine blk_drewN ?_ _ | refine blk_drew ?_ | refine blk_alloc ?_ _));refine blk_put (cs:=#[.int .i64 0, .int .i64 0, .string (⟨#[]⟩ : ByteArray), .int .i64 0]) ?_ 0 _ rfl;(with_reducible repeat (first | refine blk_drewN ?_ _ | refine blk_drew ?_ | refine blk_alloc ?_ _));exact BK104.out⟩, ⟨by repeat (first | (with_reducible first | exact HB.out | apply below_alloc | apply pw_below_drewN | apply below_drew1 | refine below_set ?_ GE104.out) | exact HB.out)⟩⟩
       ·rw [if_neg c8] at H
        have c8b0 : decide (((rd_T33 l0 x3_1).f0) < 1) = false:=decide_eq_false c8
        clear c8
        (first | rw [c8b0] | (simp only [i64_w, i32_w];rw [c8b0]) | skip)
        by_cases c10 : ((rd_T33 l0 x3_1).f0) > 8
        ·rw [if_pos c10] at H
         have c10b0 : decide (8 < ((rd_T33 l0 x3_1).f0)) = true:=decide_eq_true c10
         clear c10
         have H':=Aside0.mk H
         clear H
         have hcz11_0 : w6.cell? ⟨gb104, 0, none⟩ = some (.int .i64 0):=(blk_cell BK104.out 0).trans rfl
         have hcz11_1 : w6.cell? ⟨gb104, 1, none⟩ = some (.int .i64 0):=(blk_cell BK104.out 1).trans rfl
         have hcz11_2 : w6.cell? ⟨gb104, 2, none⟩ = some (.string (⟨#[]⟩ : ByteArray)):=(blk_cell BK104.out 2).trans rfl
         have hcz11_3 : w6.cell? ⟨gb104, 3, none⟩ = some (.int .i64 0):=(blk_cell BK104.out 3).trans rfl
         have hfz11_0:=blk_frozen BK104.out 0
         have hfz11_1:=blk_frozen BK104.out 1
         have hfz11_2:=blk_frozen BK104.out 2
         have hfz11_3:=blk_frozen BK104.out 3
         go_wp2
         go_meet
         case rel=>exact ⟨_, (true), (by first | rfl | (simp;done) | (simp [*];done)), H', ⟨by have:=HK1.out;first | omega | exact Nat.le_refl _⟩, ⟨by (with_reducible repeat (first | refine blk_drewN ?_ _ | refine blk_drew ?_ | refine blk_alloc ?_ _));refine blk_put (cs:=#[.int .i64 ((rd_T33 l0 x3_1).f0), .int .i64 ((rd_T33 l0 x3_1).f1), .string ((rd_T33 l0 x3_1).f2), .int .i64 0]) ?_ 3 _ rfl;(with_reducible repeat (first | refine blk_drewN ?_ _ | refine blk_drew ?_ | refine blk_alloc ?_ _));refine blk_put (cs:=#[.int .i64 ((rd_T33 l0 x3_1).f0), .int .i64 ((rd_T33 l0 x3_1).f1), .string (⟨#[]⟩ : ByteArray), .int .i64 0]) ?_ 2 _ rfl;(with_reducible repeat (first | refine blk_drewN ?_ _ | refine blk_drew ?_ | refine blk_alloc ?_ _));refine blk_put (cs:=#[.int .i64 ((rd_T33 l0 x3_1).f0), .int .i64 0, .string (⟨#[]⟩ : ByteArray), .int .i64 0]) ?_ 1 _ rfl;(with_reducible repeat (first | refine blk_drewN ?_ _ | refine blk_drew ?_ | refine blk_alloc ?_ _));refine blk_put (cs:=#[.int .i64 0, .int .i64 0, .string (⟨#[]⟩ : ByteArray), .int .i64 0]) ?_ 0 _ rfl;(with_reducible repeat (first | refine blk_drewN ?_ _ | refine blk_drew ?_ | refine blk_alloc ?_ _));exact BK104.out⟩, ⟨by repeat (first | (with_reducible first | exact HB.out | apply below_alloc | apply pw_below_drewN | apply below_drew1 | refine below_set ?_ GE104.out) | exact HB.out)⟩⟩
        ·rw [if_neg c10] at H
         have c10b0 : decide (8 < ((rd_T33 l0 x3_1).f0)) = false:=decide_eq_false c10
         clear c10
         by_cases c12 : ((rd_T33 l0 x3_1).f1) < 0
         ·rw [if_pos c12] at H
          have c12b0 : decide (((rd_T33 l0 x3_1).f1) < 0) = true:=decide_eq_true c12
          clear c12
          have H':=Aside0.mk H
          clear H
          have hcz13_0 : w6.cell? ⟨gb104, 0, none⟩ = some (.int .i64 0):=(blk_cell BK104.out 0).trans rfl
          have hcz13_1 : w6.cell? ⟨gb104, 1, none⟩ = some (.int .i64 0):=(blk_cell BK104.out 1).trans rfl
          have hcz13_2 : w6.cell? ⟨gb104, 2, none⟩ = some (.string (⟨#[]⟩ : ByteArray)):=(blk_cell BK104.out 2).trans rfl
          have hcz13_3 : w6.cell? ⟨gb104, 3, none⟩ = some (.int .i64 0):=(blk_cell BK104.out 3).trans rfl
          have hfz13_0:=blk_frozen BK104.out 0
          have hfz13_1:=blk_frozen BK104.out 1
          have hfz13_2:=blk_frozen BK104.out 2
          have hfz13_3:=blk_frozen BK104.out 3
          go_wp2
          go_meet
          case rel=>exact ⟨_, (true), (by first | rfl | (simp;done) | (simp [*];done)), H', ⟨by have:=HK1.out;first | omega | exact Nat.le_refl _⟩, ⟨by (with_reducible repeat (first | refine blk_drewN ?_ _ | refine blk_drew ?_ | refine blk_alloc ?_ _));refine blk_put (cs:=#[.int .i64 ((rd_T33 l0 x3_1).f0), .int .i64 ((rd_T33 l0 x3_1).f1), .string ((rd_T33 l0 x3_1).f2), .int .i64 0]) ?_ 3 _ rfl;(with_reducible repeat (first | refine blk_drewN ?_ _ | refine blk_drew ?_ | refine blk_alloc ?_ _));refine blk_put (cs:=#[.int .i64 ((rd_T33 l0 x3_1).f0), .int .i64 ((rd_T33 l0 x3_1).f1), .string (⟨#[]⟩ : ByteArray), .int .i64 0]) ?_ 2 _ rfl;(with_reducible repeat (first | refine blk_drewN ?_ _ | refine blk_drew ?_ | refine blk_alloc ?_ _));refine blk_put (cs:=#[.int .i64 ((rd_T33 l0 x3_1).f0), .int .i64 0, .string (⟨#[]⟩ : ByteArray), .int .i64 0]) ?_ 1 _ rfl;(with_reducible repeat (first | refine blk_drewN ?_ _ | refine blk_drew ?_ | refine blk_alloc ?_ _));refine blk_put (cs:=#[.int .i64 0, .int .i64 0, .string (⟨#[]⟩ : ByteArray), .int .i64 0]) ?_ 0 _ rfl;(with_reducible repeat (first | refine blk_drewN ?_ _ | refine blk_drew ?_ | refine blk_alloc ?_ _));exact BK104.out⟩, ⟨by repeat (first | (with_reducible first | exact HB.out | apply below_alloc | apply pw_below_drewN | apply below_drew1 | refine below_set ?_ GE104.out) | exact HB.out)⟩⟩
         ·rw [if_neg c12] at H
          have c12b0 : decide (((rd_T33 l0 x3_1).f1) < 0) = false:=decide_eq_false c12
          clear c12
          by_cases c14 : ((rd_T33 l0 x3_1).f1) > 9
          ·rw [if_pos c14] at H
           have c14b0 : decide (9 < ((rd_T33 l0 x3_1).f1)) = true:=decide_eq_true c14
           clear c14
           have H':=Aside0.mk H
           clear H
           have hcz15_0 : w6.cell? ⟨gb104, 0, none⟩ = some (.int .i64 0):=(blk_cell BK104.out 0).trans rfl
           have hcz15_1 : w6.cell? ⟨gb104, 1, none⟩ = some (.int .i64 0):=(blk_cell BK104.out 1).trans rfl
           have hcz15_2 : w6.cell? ⟨gb104, 2, none⟩ = some (.string (⟨#[]⟩ : ByteArray)):=(blk_cell BK104.out 2).trans rfl
           have hcz15_3 : w6.cell? ⟨gb104, 3, none⟩ = some (.int .i64 0):=(blk_cell BK104.out 3).trans rfl
           have hfz15_0:=blk_frozen BK104.out 0
           have hfz15_1:=blk_frozen BK104.out 1
           have hfz15_2:=blk_frozen BK104.out 2
           have hfz15_3:=blk_frozen BK104.out 3
           go_wp2
           go_meet
           case rel=>exact ⟨_, (true), (by first | rfl | (simp;done) | (simp [*];done)), H', ⟨by have:=HK1.out;first | omega | exact Nat.le_refl _⟩, ⟨by (with_reducible repeat (first | refine blk_drewN ?_ _ | refine blk_drew ?_ | refine blk_alloc ?_ _));refine blk_put (cs:=#[.int .i64 ((rd_T33 l0 x3_1).f0), .int .i64 ((rd_T33 l0 x3_1).f1), .string ((rd_T33 l0 x3_1).f2), .int .i64 0]) ?_ 3 _ rfl;(with_reducible repeat (first | refine blk_drewN ?_ _ | refine blk_drew ?_ | refine blk_alloc ?_ _));refine blk_put (cs:=#[.int .i64 ((rd_T33 l0 x3_1).f0), .int .i64 ((rd_T33 l0 x3_1).f1), .string (⟨#[]⟩ : ByteArray), .int .i64 0]) ?_ 2 _ rfl;(with_reducible repeat (first | refine blk_drewN ?_ _ | refine blk_drew ?_ | refine blk_alloc ?_ _));refine blk_put (cs:=#[.int .i64 ((rd_T33 l0 x3_1).f0), .int .i64 0, .string (⟨#[]⟩ : ByteArray), .int .i64 0]) ?_ 1 _ rfl;(with_reducible repeat (first | refine blk_drewN ?_ _ | refine blk_drew ?_ | refine blk_alloc ?_ _));refine blk_put (cs:=#[.int .i64 0, .int .i64 0, .string (⟨#[]⟩ : ByteArray), .int .i64 0]) ?_ 0 _ rfl;(with_reducible repeat (first | refine blk_drewN ?_ _ | refine blk_drew ?_ | refine blk_alloc ?_ _));exact BK104.out⟩, ⟨by repeat (first | (with_reducible first | exact HB.out | apply below_alloc | apply pw_below_drewN | apply below_drew1 | refine below_set ?_ GE104.out) | exact HB.out)⟩⟩
          ·rw [if_neg c14] at H
           have c14b0 : decide (9 < ((rd_T33 l0 x3_1).f1)) = false:=decide_eq_false c14
           clear c14
           replace H:=Option.bind_eq_some_iff.mp H
           obtain ⟨t105, A160, H⟩:=H
           replace H : (cr47_Check.j1 k1 l0 x3_1 (!t105) ((rd_T33 l0 x3_1).f0) ((rd_T33 l0 x3_1).f1) ((rd_T33 l0 x3_1).f2) ((rd_T33 l0 x3_1).f3)) = some r:=H
           have A16:=Aside0.mk A160
           clear A160
           have H':=Aside0.mk H
           clear H
           have hcz17_0 : w6.cell? ⟨gb104, 0, none⟩ = some (.int .i64 0):=(blk_cell BK104.out 0).trans rfl
           have hcz17_1 : w6.cell? ⟨gb104, 1, none⟩ = some (.int .i64 0):=(blk_cell BK104.out 1).trans rfl
           have hcz17_2 : w6.cell? ⟨gb104, 2, none⟩ = some (.string (⟨#[]⟩ : ByteArray)):=(blk_cell BK104.out 2).trans rfl
           have hcz17_3 : w6.cell? ⟨gb104, 3, none⟩ = some (.int .i64 0):=(blk_cell BK104.out 3).trans rfl
           have hfz17_0:=blk_frozen BK104.out 0
           have hfz17_1:=blk_frozen BK104.out 1
           have hfz17_2:=blk_frozen BK104.out 2
           have hfz17_3:=blk_frozen BK104.out 3
           go_wp2_with (first | (go_at_call 9;(with_reducible refine (cr02_Money.calls ((rd_T33 l0 x3_1).f3) t105 _ A16.out).mono ?_);rintro e w' ⟨rfl, ⟨nd, rfl⟩⟩))
           go_meet
           case rel=>exact ⟨_, (!t105), (by first | rfl | (simp;done) | (simp [*];done)), H', ⟨by have:=HK1.out;first | omega | exact Nat.le_refl _⟩, ⟨by (with_reducible repeat (first | refine blk_drewN ?_ _ | refine blk_drew ?_ | refine blk_alloc ?_ _));refine blk_put (cs:=#[.int .i64 ((rd_T33 l0 x3_1).f0), .int .i64 ((rd_T33 l0 x3_1).f1), .string ((rd_T33 l0 x3_1).f2), .int .i64 0]) ?_ 3 _ rfl;(with_reducible repeat (first | refine blk_drewN ?_ _ | refine blk_drew ?_ | refine blk_alloc ?_ _));refine blk_put (cs:=#[.int .i64 ((rd_T33 l0 x3_1).f0), .int .i64 ((rd_T33 l0 x3_1).f1), .string (⟨#[]⟩ : ByteArray), .int .i64 0]) ?_ 2 _ rfl;(with_reducible repeat (first | refine blk_drewN ?_ _ | refine blk_drew ?_ | refine blk_alloc ?_ _));refine blk_put (cs:=#[.int .i64 ((rd_T33 l0 x3_1).f0), .int .i64 0, .string (⟨#[]⟩ : ByteArray), .int .i64 0]) ?_ 1 _ rfl;(with_reducible repeat (first | refine blk_drewN ?_ _ | refine blk_drew ?_ | refine blk_alloc ?_ _));refine blk_put (cs:=#[.int .i64 0, .int .i64 0, .string (⟨#[]⟩ : ByteArray), .int .i64 0]) ?_ 0 _ rfl;(with_reducible repeat (first | refine blk_drewN ?_ _ | refine blk_drew ?_ | refine blk_alloc ?_ _));exact BK104.out⟩, ⟨by repeat (first | (with_reducible first | exact HB.out | apply below_alloc | apply pw_below_drewN | apply below_drew1 | refine below_set ?_ GE104.out) | exact HB.out)⟩⟩
      case rest =>
       clear HC5
       try clear c1
       try clear p1
       try clear q1
       try clear hx1
       try clear c2
       try clear c2b0
       try clear c2b1
       try clear p2
       try clear c3
       try clear c3b0
       try clear c4
       try clear c4b0
       try clear c8
       try clear c8b0
       try clear c10
       try clear c10b0
       try clear p10
       try clear q10
       try clear hx10
       try clear c12
       try clear c12b0
       try clear c14
       try clear c14b0
       try clear hcz11_0
       try clear hcz11_1
       try clear hcz11_2
       try clear hcz11_3
       try clear hcz13_0
       try clear hcz13_1
       try clear hcz13_2
       try clear hcz13_3
       try clear hcz15_0
       try clear hcz15_1
       try clear hcz15_2
       try clear hcz15_3
       try clear hcz17_0
       try clear hcz17_1
       try clear hcz17_2
       try clear hcz17_3
       try clear hcz7_0
       try clear hcz7_1
       try clear hcz7_2
       try clear hcz7_3
       try clear hcz9_0
       try clear hcz9_1
       try clear hcz9_2
       try clear hcz9_3
       try clear hfz11_0
       try clear hfz11_1
       try clear hfz11_2
       try clear hfz11_3
       try clear hfz13_0
       try clear hfz13_1
       try clear hfz13_2
       try clear hfz13_3
       try clear hfz15_0
       try clear hfz15_1
       try clear hfz15_2
       try clear hfz15_3
       try clear hfz17_0
       try clear hfz17_1
       try clear hfz17_2
       try clear hfz17_3
       try clear hfz7_0
       try clear hfz7_1
       try clear hfz7_2
       try clear hfz7_3
       try clear hfz9_0
       try clear hfz9_1
       try clear hfz9_2
       try clear hfz9_3
       try clear hx103_0
       try clear hx103_1
       try clear hx103_2
       try clear hx103_3
       try clear p103
       try clear p2
       try clear q103
       obtain ⟨kq, x43_4, rfl, HA, HJ4, BK104, HB⟩:=hcut
       cases kq with
       | zero=>exact absurd HA.out (by simp [cr47_Check.j1])
       | succ kj4 =>
        have H:=HA.out
        clear HA
        simp only [cr47_Check.j1] at H
        by_cases c18 : x43_4 = true
        ·subst c18
         have H1 : (some 2) = some r:=by rw [if_pos rfl] at H;exact H
         clear H
         have H:=H1
         clear H1
         obtain rfl:=Option.some.inj H
         go_wp2
         go_ret
         exact ⟨by first | rfl | (simp [errW_none, errW_some] <;> rfl) | (simp [*, errW_none, errW_some] <;> rfl), by repeat (first | (with_reducible first | exact HB.out | apply below_alloc | apply pw_below_drewN | apply below_drew1 | refine below_set ?_ GE104.out) | exact HB.out)⟩
        ·replace c18:=Bool.eq_false_iff.mpr c18
         subst c18
         have H1 : ((cr22_Name.f kj4 ((rd_T33 l0 x3_1).f2)).bind fun t106=>(if t106 = true then (if x3_1 > 0 then (if 0 ≤ (wrap64 (x3_1 - 1)) then (if (wrap64 (x3_1 - 1)) < (l0.length : Int) then ((cr47_before.f ((rd_T33 l0 (wrap64 (x3_1 - 1))).f0) ((rd_T33 l0 (wrap64 (x3_1 - 1))).f1) ((rd_T33 l0 (wrap64 (x3_1 - 1))).f2) ((rd_T33 l0 (wrap64 (x3_1 - 1))).f3) ((rd_T33 l0 x3_1).f0) ((rd_T33 l0 x3_1).f1) ((rd_T33 l0 x3_1).f2) ((rd_T33 l0 x3_1).f3)).bind fun t108=>(if t108 = true then (cr47_Check.l0 kj4 l0 (wrap64 (x3_1 + 1))) else (some 12))) else (none)) else (none)) else (cr47_Check.l0 kj4 l0 (wrap64 (x3_1 + 1)))) else (some 10))) = some r:=by rw [if_neg (show ¬ (false = true) by decide)] at H;exact H
         clear H
         have H:=H1
         clear H1
         replace H:=Option.bind_eq_some_iff.mp H
         obtain ⟨t106, A190, H⟩:=H
         replace H : (if t106 = true then (if x3_1 > 0 then (if 0 ≤ (wrap64 (x3_1 - 1)) then (if (wrap64 (x3_1 - 1)) < (l0.length : Int) then ((cr47_before.f ((rd_T33 l0 (wrap64 (x3_1 - 1))).f0) ((rd_T33 l0 (wrap64 (x3_1 - 1))).f1) ((rd_T33 l0 (wrap64 (x3_1 - 1))).f2) ((rd_T33 l0 (wrap64 (x3_1 - 1))).f3) ((rd_T33 l0 x3_1).f0) ((rd_T33 l0 x3_1).f1) ((rd_T33 l0 x3_1).f2) ((rd_T33 l0 x3_1).f3)).bind fun t108=>(if t108 = true then (cr47_Check.l0 kj4 l0 (wrap64 (x3_1 + 1))) else (some 12))) else (none)) else (none)) else (cr47_Check.l0 kj4 l0 (wrap64 (x3_1 + 1)))) else (some 10)) = some r:=H
         have A19:=Aside0.mk A190
         clear A190
         by_cases c20 : t106 = true
         ·subst c20
          have H1 : (if x3_1 > 0 then (if 0 ≤ (wrap64 (x3_1 - 1)) then (if (wrap64 (x3_1 - 1)) < (l0.length : Int) then ((cr47_before.f ((rd_T33 l0 (wrap64 (x3_1 - 1))).f0) ((rd_T33 l0 (wrap64 (x3_1 - 1))).f1) ((rd_T33 l0 (wrap64 (x3_1 - 1))).f2) ((rd_T33 l0 (wrap64 (x3_1 - 1))).f3) ((rd_T33 l0 x3_1).f0) ((rd_T33 l0 x3_1).f1) ((rd_T33 l0 x3_1).f2) ((rd_T33 l0 x3_1).f3)).bind fun t108=>(if t108 = true then (cr47_Check.l0 kj4 l0 (wrap64 (x3_1 + 1))) else (some 12))) else (none)) else (none)) else (cr47_Check.l0 kj4 l0 (wrap64 (x3_1 + 1)))) = some r:=by rw [if_pos rfl] at H;exact H
          clear H
          have H:=H1
          clear H1
          by_cases c21 : x3_1 > 0
          ·rw [if_pos c21] at H
           have c21b0 : decide (0 < x3_1) = true:=decide_eq_true c21
           clear c21
           obtain ⟨ji22, hji22⟩ : ∃ j_ : Int, (wrap64 (x3_1 - 1)) = j_:=⟨_, rfl⟩
           replace H : (if 0 ≤ (ji22) then (if (ji22) < (l0.length : Int) then ((cr47_before.f ((rd_T33 l0 (ji22)).f0) ((rd_T33 l0 (ji22)).f1) ((rd_T33 l0 (ji22)).f2) ((rd_T33 l0 (ji22)).f3) ((rd_T33 l0 x3_1).f0) ((rd_T33 l0 x3_1).f1) ((rd_T33 l0 x3_1).f2) ((rd_T33 l0 x3_1).f3)).bind fun t108=>(if t108 = true then (cr47_Check.l0 kj4 l0 (wrap64 (x3_1 + 1))) else (some 12))) else (none)) else (none)) = some r:=by first | (rw [hji22] at H;exact H) | (simp only [hji22] at H ⊢;exact H)
           (try rw [hji22] at A19)
           have hji22w : (IntKind.i64.wrap (x3_1 - 1)) = ji22:=(i64_w _).trans hji22
           by_cases c23 : 0 ≤ (ji22)
           ·rw [if_pos c23] at H
            have c23b0 : decide (0 ≤ (ji22)) = true:=decide_eq_true c23
            clear c23
            by_cases c24 : (ji22) < (l0.length : Int)
            ·rw [if_pos c24] at H
             have c24b0 : decide ((ji22) < (l0.length : Int)) = true:=decide_eq_true c24
             clear c24
             replace H:=Option.bind_eq_some_iff.mp H
             obtain ⟨t108, A250, H⟩:=H
             replace H : (if t108 = true then (cr47_Check.l0 kj4 l0 (wrap64 (x3_1 + 1))) else (some 12)) = some r:=H
             have A25:=Aside0.mk A250
             clear A250
             by_cases c26 : t108 = true
             ·subst c26
              have H1 : (cr47_Check.l0 kj4 l0 (wrap64 (x3_1 + 1))) = some r:=by rw [if_pos rfl] at H;exact H
              clear H
              have H:=H1
              clear H1
              have H':=Aside0.mk H
              clear H
              have hcz27_0 : wc.cell? ⟨gb104, 0, none⟩ = some (.int .i64 ((rd_T33 l0 x3_1).f0)):=(blk_cell BK104.out 0).trans rfl
              have hcz27_1 : wc.cell? ⟨gb104, 1, none⟩ = some (.int .i64 ((rd_T33 l0 x3_1).f1)):=(blk_cell BK104.out 1).trans rfl
              have hcz27_2 : wc.cell? ⟨gb104, 2, none⟩ = some (.string ((rd_T33 l0 x3_1).f2)):=(blk_cell BK104.out 2).trans rfl
              have hcz27_3 : wc.cell? ⟨gb104, 3, none⟩ = some (.int .i64 ((rd_T33 l0 x3_1).f3)):=(blk_cell BK104.out 3).trans rfl
              have hfz27_0:=blk_frozen BK104.out 0
              have hfz27_1:=blk_frozen BK104.out 1
              have hfz27_2:=blk_frozen BK104.out 2
              have hfz27_3:=blk_frozen BK104.out 3
              try go_wp2_with (first | ((with_reducible refine gate_callee (f:=10) rfl ?_);refine goesL_ (some 46) rfl rfl Try.func10 (by kernel_rfl) rfl #[.string ((rd_T33 l0 x3_1).f2)] rfl (by (try simp only [List.map_toArray, List.map_cons, List.map_nil]);first | done | rfl | (simp only [List.length_drop, List.length_take];rfl)) ?_;(with_reducible refine (cr22_Name.calls kj4 ((rd_T33 l0 x3_1).f2) true _ A19.out).mono ?_);rintro e w' ⟨rfl, ⟨nd, rfl⟩⟩;refine ⟨_, rfl, ?_⟩))
              (try (rw [drewN_self wc];generalize hq_ : World.drewN wc _ = wc;have n0_ : Aside0 (wc.heap[gb104]? = some (.cells #[.int .i64 ((rd_T33 l0 x3_1).f0), .int .i64 ((rd_T33 l0 x3_1).f1), .string ((rd_T33 l0 x3_1).f2), .int .i64 ((rd_T33 l0 x3_1).f3)] 33 (0, 0))):=⟨by rw [← hq_];exact (by (with_reducible repeat (first | refine blk_drewN ?_ _ | refine blk_drew ?_ | refine blk_alloc ?_ _));exact BK104.out)⟩;have n1_ : Aside0 (Below w.heap.size w wc):=⟨by rw [← hq_];exact (by repeat (first | (with_reducible first | exact HB.out | apply below_alloc | apply pw_below_drewN | apply below_drew1 | refine below_set ?_ GE104.out) | exact HB.out))⟩;clear BK104 HB hq_;have BK104:=n0_;have HB:=n1_;clear n0_ n1_))
              have n0_:=Aside0.mk (blk_drew BK104.out)
              have n1_:=Aside0.mk (below_drew1 HB.out)
              clear BK104
              clear HB
              have BK104:=n0_
              have HB:=n1_
              clear n0_ n1_
              have p107 : 0 ≤ ((ji22) : Int):=of_decide_eq_true (by first | (with_reducible assumption) | assumption)
              have q107 : (ji22) < (l0.length : Int):=of_decide_eq_true (by first | (with_reducible assumption) | assumption)
              obtain ⟨ad107, e107, hx107_0, hx107_1, hx107_2, hx107_3⟩:=at_T33 HR0.out (ji22) p107 q107
              have hw107_3:=hx107_3
              have hw107_2:=hx107_2
              have hw107_1:=hx107_1
              have hw107_0:=hx107_0
              obtain rfl : ad103 = ad107:=(by injection e107)
              replace hx107_0:=(HB.out.cell (World.block_lt_of_cell? w _ hx107_0)).trans hx107_0
              replace hx107_1:=(HB.out.cell (World.block_lt_of_cell? w _ hx107_1)).trans hx107_1
              replace hx107_2:=(HB.out.cell (World.block_lt_of_cell? w _ hx107_2)).trans hx107_2
              replace hx107_3:=(HB.out.cell (World.block_lt_of_cell? w _ hx107_3)).trans hx107_3
              replace p107:=eq_true p107
              replace q107:=eq_true q107
              refine start_ (n:=12) (S:=fun w'=>w'.cell? ⟨gb104, 0, none⟩ = some (.int .i64 ((rd_T33 l0 x3_1).f0)) ∧ w'.cell? ⟨gb104, 1, none⟩ = some (.int .i64 ((rd_T33 l0 x3_1).f1)) ∧ w'.cell? ⟨gb104, 2, none⟩ = some (.string ((rd_T33 l0 x3_1).f2)) ∧ w'.cell? ⟨gb104, 3, none⟩ = some (.int .i64 ((rd_T33 l0 x3_1).f3)) ∧ w'.cell? (ad103.add (((ji22)).toNat * 4)) = some (.int .i64 ((rd_T33 l0 (ji22)).f0)) ∧ w'.cell? ⟨(ad103.add (((ji22)).toNat * 4)).block, (ad103.add (((ji22)).toNat * 4)).off + 1, none⟩ = some (.int .i64 ((rd_T33 l0 (ji22)).f1)) ∧ w'.cell? ⟨(ad103.add (((ji22)).toNat * 4)).block, (ad103.add (((ji22)).toNat * 4)).off + 2, none⟩ = some (.string ((rd_T33 l0 (ji22)).f2)) ∧ w'.cell? ⟨(ad103.add (((ji22)).toNat * 4)).block, (ad103.add (((ji22)).toNat * 4)).off + 3, none⟩ = some (.int .i64 ((rd_T33 l0 (ji22)).f3))) (ds:=[]) #[false, false, false, false, false, false, false, false, false, false, false, false] (by kernel_rfl) rfl rfl ⟨(blk_cell BK104.out 0).trans rfl, (blk_cell BK104.out 1).trans rfl, (blk_cell BK104.out 2).trans rfl, (blk_cell BK104.out 3).trans rfl, ((HB.out.cell (World.block_lt_of_cell? w _ hw107_0)).trans hw107_0), ((HB.out.cell (World.block_lt_of_cell? w _ hw107_1)).trans hw107_1), ((HB.out.cell (World.block_lt_of_cell? w _ hw107_2)).trans hw107_2), ((HB.out.cell (World.block_lt_of_cell? w _ hw107_3)).trans hw107_3)⟩ (fun hHeld=>?_);refine with_tabW cr47_Check.tab11 cr47_Check.bits11 (fun HT_ HW_=>?_)
              generalize wc.drew = w28 at BK104 HB hx107_0 hx107_1 hx107_2 hx107_3 hHeld ⊢
              refine pure_ (i:=0) (N:=some 48) (v:=?_) (a':=?_) #[true, false, false, false, false, false, false, false, false, false, false, false] rfl rfl (any_of HT_.out (by kernel_rfl)) (fun _ _ _ h=>h) (Or.inl ⟨by rfl, ?_⟩) ?_ ?_
              rotate_left
              ·intro w'
               go_simp
               with_reducible rfl
              rotate_left
              ·simp only [Act.put, List.setIfInBounds_toArray, List.set_cons_zero, List.set_cons_succ, i64_w, i32_w]
               rfl
              refine pure_ (i:=1) (N:=some 49) (v:=?_) (a':=?_) #[true, true, false, false, false, false, false, false, false, false, false, false] rfl rfl (any_of HT_.out (by kernel_rfl)) (fun _ _ _ h=>h) (Or.inl ⟨by rfl, ?_⟩) ?_ ?_
              rotate_left
              ·intro w'
               go_simp
               with_reducible rfl
              rotate_left
              ·simp only [Act.put, List.setIfInBounds_toArray, List.set_cons_zero, List.set_cons_succ, i64_w, i32_w]
               rfl
              refine pure_ (i:=2) (N:=some 50) (v:=?_) (a':=?_) #[true, true, true, false, false, false, false, false, false, false, false, false] rfl rfl (any_of HT_.out (by kernel_rfl)) (fun _ _ _ h=>h) (Or.inl ⟨by rfl, ?_⟩) ?_ ?_
              rotate_left
              ·intro w'
               go_simp
               with_reducible rfl
              rotate_left
              ·simp only [Act.put, List.setIfInBounds_toArray, List.set_cons_zero, List.set_cons_succ, i64_w, i32_w]
               rfl
              refine pure_ (i:=3) (N:=some 51) (v:=?_) (a':=?_) #[true, true, true, true, false, false, false, false, false, false, false, false] rfl rfl (any_of HT_.out (by kernel_rfl)) (fun _ _ _ h=>h) (Or.inl ⟨by rfl, ?_⟩) ?_ ?_
              rotate_left
              ·intro w'
               go_simp
               with_reducible rfl
              rotate_left
              ·simp only [Act.put, List.setIfInBounds_toArray, List.set_cons_zero, List.set_cons_succ, i64_w, i32_w]
               rfl
              refine pure_ (i:=4) (N:=some 52) (v:=?_) (a':=?_) #[true, true, true, true, true, false, false, false, false, false, false, false] rfl rfl (any_of HT_.out (by kernel_rfl)) (fun _ _ _ h=>h) (Or.inl ⟨by rfl, ?_⟩) ?_ ?_
              rotate_left
              ·intro w'
               go_simp
               with_reducible rfl
              rotate_left
              ·simp only [Act.put, List.setIfInBounds_toArray, List.set_cons_zero, List.set_cons_succ, i64_w, i32_w]
               rfl
              refine pure_ (i:=5) (N:=some 53) (v:=?_) (a':=?_) #[true, true, true, true, true, true, false, false, false, false, false, false] rfl rfl (any_of HT_.out (by kernel_rfl)) (fun _ _ _ h=>h) (Or.inl ⟨by rfl, ?_⟩) ?_ ?_
              rotate_left
              ·intro w'
               go_simp
               with_reducible rfl
              rotate_left
              ·simp only [Act.put, List.setIfInBounds_toArray, List.set_cons_zero, List.set_cons_succ, i64_w, i32_w]
               rfl
              refine pure_ (i:=6) (N:=some 54) (v:=?_) (a':=?_) #[true, true, true, true, true, true, true, false, false, false, false, false] rfl rfl (any_of HT_.out (by kernel_rfl)) (fun _ _ _ h=>h) (Or.inl ⟨by rfl, ?_⟩) ?_ ?_
              rotate_left
              ·intro w'
               go_simp
               with_reducible rfl
              rotate_left
              ·simp only [Act.put, List.setIfInBounds_toArray, List.set_cons_zero, List.set_cons_succ, i64_w, i32_w]
               rfl
              refine take_ (i:=7) (N:=some 55) (v:=?_) (a':=?_) #[true, true, true, true, true, true, true, true, false, false, false, false] rfl rfl (take_ofW HT_.out HW_.out (by kernel_rfl)) (fun _ _ _ h=>h) (Or.inl ⟨by rfl, ?_⟩) hHeld ?_ ?_
              rotate_left
              ·rintro w' ⟨s0, s1, s2, s3, s4, s5, s6, s7⟩
               go_simp
               with_reducible rfl
              rotate_left
              ·simp only [Act.put, List.setIfInBounds_toArray, List.set_cons_zero, List.set_cons_succ, i64_w, i32_w]
               rfl
              refine take_ (i:=8) (N:=some 56) (v:=?_) (a':=?_) #[true, true, true, true, true, true, true, true, true, false, false, false] rfl rfl (take_ofW HT_.out HW_.out (by kernel_rfl)) (fun _ _ _ h=>h) (Or.inl ⟨by rfl, ?_⟩) hHeld ?_ ?_
              rotate_left
              ·rintro w' ⟨s0, s1, s2, s3, s4, s5, s6, s7⟩
               go_simp
               with_reducible rfl
              rotate_left
              ·simp only [Act.put, List.setIfInBounds_toArray, List.set_cons_zero, List.set_cons_succ, i64_w, i32_w]
               rfl
              refine one_ (i:=9) (N:=some 57) #[true, true, true, true, true, true, true, true, true, true, false, false] rfl rfl (one_of HT_.out (by kernel_rfl)) (by decide) (fun K hK=>?_)
              refine goes_ Try.func11 (by kernel_rfl) rfl #[.agg #[.int .i64 ((rd_T33 l0 (ji22)).f0), .int .i64 ((rd_T33 l0 (ji22)).f1), .string ((rd_T33 l0 (ji22)).f2), .int .i64 ((rd_T33 l0 (ji22)).f3)], .agg #[.int .i64 ((rd_T33 l0 x3_1).f0), .int .i64 ((rd_T33 l0 x3_1).f1), .string ((rd_T33 l0 x3_1).f2), .int .i64 ((rd_T33 l0 x3_1).f3)]] (by rfl) rfl rfl (by (try simp only [List.map_toArray, List.map_cons, List.map_nil]);first | done | (simp only [hji22];rfl) | rfl | (simp only [List.length_drop, List.length_take];rfl)) ?_
              with_reducible refine (cr47_before.calls ((rd_T33 l0 (ji22)).f0) ((rd_T33 l0 (ji22)).f1) ((rd_T33 l0 (ji22)).f2) ((rd_T33 l0 (ji22)).f3) ((rd_T33 l0 x3_1).f0) ((rd_T33 l0 x3_1).f1) ((rd_T33 l0 x3_1).f2) ((rd_T33 l0 x3_1).f3) true _ A25.out).mono ?_
              rintro e w29 ⟨rfl, hb⟩
              refine ⟨_, rfl, ?_⟩
              have n0_:=Aside0.mk (blk_below (g:=gb104) (o:=.cells #[.int .i64 ((rd_T33 l0 x3_1).f0), .int .i64 ((rd_T33 l0 x3_1).f1), .string ((rd_T33 l0 x3_1).f2), .int .i64 ((rd_T33 l0 x3_1).f3)] 33 (0, 0)) (by (with_reducible repeat (first | refine blk_drewN ?_ _ | refine blk_drew ?_ | refine blk_alloc ?_ _));exact BK104.out) hb)
              have n1_:=Aside0.mk (below_step (by repeat (first | (with_reducible first | exact HB.out | apply below_alloc | apply pw_below_drewN | apply below_drew1 | refine below_set ?_ GE104.out) | exact HB.out)) hb)
              clear BK104
              clear HB
              have BK104:=n0_
              have HB:=n1_
              clear n0_ n1_
              (try clear hb)
              (try clear hb2)
              (try clear hk)
              (try clear hi)
              refine hK.out _ _ ⟨(blk_cell BK104.out 0).trans rfl, (blk_cell BK104.out 1).trans rfl, (blk_cell BK104.out 2).trans rfl, (blk_cell BK104.out 3).trans rfl, ((HB.out.cell (World.block_lt_of_cell? w _ hw107_0)).trans hw107_0), ((HB.out.cell (World.block_lt_of_cell? w _ hw107_1)).trans hw107_1), ((HB.out.cell (World.block_lt_of_cell? w _ hw107_2)).trans hw107_2), ((HB.out.cell (World.block_lt_of_cell? w _ hw107_3)).trans hw107_3)⟩ (fun hHeld=>?_)
              clear hK K
              refine norm_ (a':=?_) ?_ ?_
              rotate_left
              ·show Act.put _ (some 57) _ = _
               simp only [Act.put, List.setIfInBounds_toArray, List.set_cons_zero, List.set_cons_succ, i64_w, i32_w]
               rfl
              refine pure_ (i:=10) (N:=some 58) (v:=?_) (a':=?_) #[true, true, true, true, true, true, true, true, true, true, true, false] rfl rfl (any_of HT_.out (by kernel_rfl)) (fun _ _ _ h=>h) (Or.inl ⟨by rfl, ?_⟩) ?_ ?_
              rotate_left
              ·intro w'
               go_simp
               with_reducible rfl
              rotate_left
              ·simp only [Act.put, List.setIfInBounds_toArray, List.set_cons_zero, List.set_cons_succ, i64_w, i32_w]
               rfl
              refine pure_ (i:=11) (N:=some 59) (v:=?_) (a':=?_) #[true, true, true, true, true, true, true, true, true, true, true, true] rfl rfl (any_of HT_.out (by kernel_rfl)) (fun _ _ _ h=>h) (Or.inl ⟨by rfl, ?_⟩) ?_ ?_
              rotate_left
              ·intro w'
               go_simp
               with_reducible rfl
              rotate_left
              ·simp only [Act.put, List.setIfInBounds_toArray, List.set_cons_zero, List.set_cons_succ, i64_w, i32_w]
               rfl
              refine done_ (done_of HT_.out (by kernel_rfl)) ?_
              try go_wp2
              go_roundg kj4
              case measure=>have:=HK1.out;have:=HJ4.out;omega
              case rel=>exact ⟨(wrap64 (x3_1 + 1)), (by first | rfl | (simp;done) | (simp [*];done)), H', ⟨by have:=HK1.out;have:=HJ4.out;omega⟩, ⟨by repeat (first | (with_reducible first | exact HB.out | apply below_alloc | apply pw_below_drewN | apply below_drew1 | refine below_set ?_ GE104.out) | exact HB.out)⟩⟩
             ·replace c26:=Bool.eq_false_iff.mpr c26
              subst c26
              have H1 : (some 12) = some r:=by rw [if_neg (show ¬ (false = true) by decide)] at H;exact H
              clear H
              have H:=H1
              clear H1
              obtain rfl:=Option.some.inj H
              have hcz30_0 : wc.cell? ⟨gb104, 0, none⟩ = some (.int .i64 ((rd_T33 l0 x3_1).f0)):=(blk_cell BK104.out 0).trans rfl
              have hcz30_1 : wc.cell? ⟨gb104, 1, none⟩ = some (.int .i64 ((rd_T33 l0 x3_1).f1)):=(blk_cell BK104.out 1).trans rfl
              have hcz30_2 : wc.cell? ⟨gb104, 2, none⟩ = some (.string ((rd_T33 l0 x3_1).f2)):=(blk_cell BK104.out 2).trans rfl
              have hcz30_3 : wc.cell? ⟨gb104, 3, none⟩ = some (.int .i64 ((rd_T33 l0 x3_1).f3)):=(blk_cell BK104.out 3).trans rfl
              have hfz30_0:=blk_frozen BK104.out 0
              have hfz30_1:=blk_frozen BK104.out 1
              have hfz30_2:=blk_frozen BK104.out 2
              have hfz30_3:=blk_frozen BK104.out 3
              try go_wp2_with (first | ((with_reducible refine gate_callee (f:=10) rfl ?_);refine goesL_ (some 46) rfl rfl Try.func10 (by kernel_rfl) rfl #[.string ((rd_T33 l0 x3_1).f2)] rfl (by (try simp only [List.map_toArray, List.map_cons, List.map_nil]);first | done | rfl | (simp only [List.length_drop, List.length_take];rfl)) ?_;(with_reducible refine (cr22_Name.calls kj4 ((rd_T33 l0 x3_1).f2) true _ A19.out).mono ?_);rintro e w' ⟨rfl, ⟨nd, rfl⟩⟩;refine ⟨_, rfl, ?_⟩))
              (try (rw [drewN_self wc];generalize hq_ : World.drewN wc _ = wc;have n0_ : Aside0 (wc.heap[gb104]? = some (.cells #[.int .i64 ((rd_T33 l0 x3_1).f0), .int .i64 ((rd_T33 l0 x3_1).f1), .string ((rd_T33 l0 x3_1).f2), .int .i64 ((rd_T33 l0 x3_1).f3)] 33 (0, 0))):=⟨by rw [← hq_];exact (by (with_reducible repeat (first | refine blk_drewN ?_ _ | refine blk_drew ?_ | refine blk_alloc ?_ _));exact BK104.out)⟩;have n1_ : Aside0 (Below w.heap.size w wc):=⟨by rw [← hq_];exact (by repeat (first | (with_reducible first | exact HB.out | apply below_alloc | apply pw_below_drewN | apply below_drew1 | refine below_set ?_ GE104.out) | exact HB.out))⟩;clear BK104 HB hq_;have BK104:=n0_;have HB:=n1_;clear n0_ n1_))
              have n0_:=Aside0.mk (blk_drew BK104.out)
              have n1_:=Aside0.mk (below_drew1 HB.out)
              clear BK104
              clear HB
              have BK104:=n0_
              have HB:=n1_
              clear n0_ n1_
              have p107 : 0 ≤ ((ji22) : Int):=of_decide_eq_true (by first | (with_reducible assumption) | assumption)
              have q107 : (ji22) < (l0.length : Int):=of_decide_eq_true (by first | (with_reducible assumption) | assumption)
              obtain ⟨ad107, e107, hx107_0, hx107_1, hx107_2, hx107_3⟩:=at_T33 HR0.out (ji22) p107 q107
              have hw107_3:=hx107_3
              have hw107_2:=hx107_2
              have hw107_1:=hx107_1
              have hw107_0:=hx107_0
              obtain rfl : ad103 = ad107:=(by injection e107)
              replace hx107_0:=(HB.out.cell (World.block_lt_of_cell? w _ hx107_0)).trans hx107_0
              replace hx107_1:=(HB.out.cell (World.block_lt_of_cell? w _ hx107_1)).trans hx107_1
              replace hx107_2:=(HB.out.cell (World.block_lt_of_cell? w _ hx107_2)).trans hx107_2
              replace hx107_3:=(HB.out.cell (World.block_lt_of_cell? w _ hx107_3)).trans hx107_3
              replace p107:=eq_true p107
              replace q107:=eq_true q107
              refine start_ (n:=12) (S:=fun w'=>w'.cell? ⟨gb104, 0, none⟩ = some (.int .i64 ((rd_T33 l0 x3_1).f0)) ∧ w'.cell? ⟨gb104, 1, none⟩ = some (.int .i64 ((rd_T33 l0 x3_1).f1)) ∧ w'.cell? ⟨gb104, 2, none⟩ = some (.string ((rd_T33 l0 x3_1).f2)) ∧ w'.cell? ⟨gb104, 3, none⟩ = some (.int .i64 ((rd_T33 l0 x3_1).f3)) ∧ w'.cell? (ad103.add (((ji22)).toNat * 4)) = some (.int .i64 ((rd_T33 l0 (ji22)).f0)) ∧ w'.cell? ⟨(ad103.add (((ji22)).toNat * 4)).block, (ad103.add (((ji22)).toNat * 4)).off + 1, none⟩ = some (.int .i64 ((rd_T33 l0 (ji22)).f1)) ∧ w'.cell? ⟨(ad103.add (((ji22)).toNat * 4)).block, (ad103.add (((ji22)).toNat * 4)).off + 2, none⟩ = some (.string ((rd_T33 l0 (ji22)).f2)) ∧ w'.cell? ⟨(ad103.add (((ji22)).toNat * 4)).block, (ad103.add (((ji22)).toNat * 4)).off + 3, none⟩ = some (.int .i64 ((rd_T33 l0 (ji22)).f3))) (ds:=[]) #[false, false, false, false, false, false, false, false, false, false, false, false] (by kernel_rfl) rfl rfl ⟨(blk_cell BK104.out 0).trans rfl, (blk_cell BK104.out 1).trans rfl, (blk_cell BK104.out 2).trans rfl, (blk_cell BK104.out 3).trans rfl, ((HB.out.cell (World.block_lt_of_cell? w _ hw107_0)).trans hw107_0), ((HB.out.cell (World.block_lt_of_cell? w _ hw107_1)).trans hw107_1), ((HB.out.cell (World.block_lt_of_cell? w _ hw107_2)).trans hw107_2), ((HB.out.cell (World.block_lt_of_cell? w _ hw107_3)).trans hw107_3)⟩ (fun hHeld=>?_);refine with_tabW cr47_Check.tab11 cr47_Check.bits11 (fun HT_ HW_=>?_)
              generalize wc.drew = w31 at BK104 HB hx107_0 hx107_1 hx107_2 hx107_3 hHeld ⊢
              refine pure_ (i:=0) (N:=some 48) (v:=?_) (a':=?_) #[true, false, false, false, false, false, false, false, false, false, false, false] rfl rfl (any_of HT_.out (by kernel_rfl)) (fun _ _ _ h=>h) (Or.inl ⟨by rfl, ?_⟩) ?_ ?_
              rotate_left
              ·intro w'
               go_simp
               with_reducible rfl
              rotate_left
              ·simp only [Act.put, List.setIfInBounds_toArray, List.set_cons_zero, List.set_cons_succ, i64_w, i32_w]
               rfl
              refine pure_ (i:=1) (N:=some 49) (v:=?_) (a':=?_) #[true, true, false, false, false, false, false, false, false, false, false, false] rfl rfl (any_of HT_.out (by kernel_rfl)) (fun _ _ _ h=>h) (Or.inl ⟨by rfl, ?_⟩) ?_ ?_
              rotate_left
              ·intro w'
               go_simp
               with_reducible rfl
              rotate_left
              ·simp only [Act.put, List.setIfInBounds_toArray, List.set_cons_zero, List.set_cons_succ, i64_w, i32_w]
               rfl
              refine pure_ (i:=2) (N:=some 50) (v:=?_) (a':=?_) #[true, true, true, false, false, false, false, false, false, false, false, false] rfl rfl (any_of HT_.out (by kernel_rfl)) (fun _ _ _ h=>h) (Or.inl ⟨by rfl, ?_⟩) ?_ ?_
              rotate_left
              ·intro w'
               go_simp
               with_reducible rfl
              rotate_left
              ·simp only [Act.put, List.setIfInBounds_toArray, List.set_cons_zero, List.set_cons_succ, i64_w, i32_w]
               rfl
              refine pure_ (i:=3) (N:=some 51) (v:=?_) (a':=?_) #[true, true, true, true, false, false, false, false, false, false, false, false] rfl rfl (any_of HT_.out (by kernel_rfl)) (fun _ _ _ h=>h) (Or.inl ⟨by rfl, ?_⟩) ?_ ?_
              rotate_left
              ·intro w'
               go_simp
               with_reducible rfl
              rotate_left
              ·simp only [Act.put, List.setIfInBounds_toArray, List.set_cons_zero, List.set_cons_succ, i64_w, i32_w]
               rfl
              refine pure_ (i:=4) (N:=some 52) (v:=?_) (a':=?_) #[true, true, true, true, true, false, false, false, false, false, false, false] rfl rfl (any_of HT_.out (by kernel_rfl)) (fun _ _ _ h=>h) (Or.inl ⟨by rfl, ?_⟩) ?_ ?_
              rotate_left
              ·intro w'
               go_simp
               with_reducible rfl
              rotate_left
              ·simp only [Act.put, List.setIfInBounds_toArray, List.set_cons_zero, List.set_cons_succ, i64_w, i32_w]
               rfl
              refine pure_ (i:=5) (N:=some 53) (v:=?_) (a':=?_) #[true, true, true, true, true, true, false, false, false, false, false, false] rfl rfl (any_of HT_.out (by kernel_rfl)) (fun _ _ _ h=>h) (Or.inl ⟨by rfl, ?_⟩) ?_ ?_
              rotate_left
              ·intro w'
               go_simp
               with_reducible rfl
              rotate_left
              ·simp only [Act.put, List.setIfInBounds_toArray, List.set_cons_zero, List.set_cons_succ, i64_w, i32_w]
               rfl
              refine pure_ (i:=6) (N:=some 54) (v:=?_) (a':=?_) #[true, true, true, true, true, true, true, false, false, false, false, false] rfl rfl (any_of HT_.out (by kernel_rfl)) (fun _ _ _ h=>h) (Or.inl ⟨by rfl, ?_⟩) ?_ ?_
              rotate_left
              ·intro w'
               go_simp
               with_reducible rfl
              rotate_left
              ·simp only [Act.put, List.setIfInBounds_toArray, List.set_cons_zero, List.set_cons_succ, i64_w, i32_w]
               rfl
              refine take_ (i:=7) (N:=some 55) (v:=?_) (a':=?_) #[true, true, true, true, true, true, true, true, false, false, false, false] rfl rfl (take_ofW HT_.out HW_.out (by kernel_rfl)) (fun _ _ _ h=>h) (Or.inl ⟨by rfl, ?_⟩) hHeld ?_ ?_
              rotate_left
              ·rintro w' ⟨s0, s1, s2, s3, s4, s5, s6, s7⟩
               go_simp
               with_reducible rfl
              rotate_left
              ·simp only [Act.put, List.setIfInBounds_toArray, List.set_cons_zero, List.set_cons_succ, i64_w, i32_w]
               rfl
              refine take_ (i:=8) (N:=some 56) (v:=?_) (a':=?_) #[true, true, true, true, true, true, true, true, true, false, false, false] rfl rfl (take_ofW HT_.out HW_.out (by kernel_rfl)) (fun _ _ _ h=>h) (Or.inl ⟨by rfl, ?_⟩) hHeld ?_ ?_
              rotate_left
              ·rintro w' ⟨s0, s1, s2, s3, s4, s5, s6, s7⟩
               go_simp
               with_reducible rfl
              rotate_left
              ·simp only [Act.put, List.setIfInBounds_toArray, List.set_cons_zero, List.set_cons_succ, i64_w, i32_w]
               rfl
              refine one_ (i:=9) (N:=some 57) #[true, true, true, true, true, true, true, true, true, true, false, false] rfl rfl (one_of HT_.out (by kernel_rfl)) (by decide) (fun K hK=>?_)
              refine goes_ Try.func11 (by kernel_rfl) rfl #[.agg #[.int .i64 ((rd_T33 l0 (ji22)).f0), .int .i64 ((rd_T33 l0 (ji22)).f1), .string ((rd_T33 l0 (ji22)).f2), .int .i64 ((rd_T33 l0 (ji22)).f3)], .agg #[.int .i64 ((rd_T33 l0 x3_1).f0), .int .i64 ((rd_T33 l0 x3_1).f1), .string ((rd_T33 l0 x3_1).f2), .int .i64 ((rd_T33 l0 x3_1).f3)]] (by rfl) rfl rfl (by (try simp only [List.map_toArray, List.map_cons, List.map_nil]);first | done | (simp only [hji22];rfl) | rfl | (simp only [List.length_drop, List.length_take];rfl)) ?_
              with_reducible refine (cr47_before.calls ((rd_T33 l0 (ji22)).f0) ((rd_T33 l0 (ji22)).f1) ((rd_T33 l0 (ji22)).f2) ((rd_T33 l0 (ji22)).f3) ((rd_T33 l0 x3_1).f0) ((rd_T33 l0 x3_1).f1) ((rd_T33 l0 x3_1).f2) ((rd_T33 l0 x3_1).f3) false _ A25.out).mono ?_
              rintro e w32 ⟨rfl, hb⟩
              refine ⟨_, rfl, ?_⟩
              have n0_:=Aside0.mk (blk_below (g:=gb104) (o:=.cells #[.int .i64 ((rd_T33 l0 x3_1).f0), .int .i64 ((rd_T33 l0 x3_1).f1), .string ((rd_T33 l0 x3_1).f2), .int .i64 ((rd_T33 l0 x3_1).f3)] 33 (0, 0)) (by (with_reducible repeat (first | refine blk_drewN ?_ _ | refine blk_drew ?_ | refine blk_alloc ?_ _));exact BK104.out) hb)
              have n1_:=Aside0.mk (below_step (by repeat (first | (with_reducible first | exact HB.out | apply below_alloc | apply pw_below_drewN | apply below_drew1 | refine below_set ?_ GE104.out) | exact HB.out)) hb)
              clear BK104
              clear HB
              have BK104:=n0_
              have HB:=n1_
              clear n0_ n1_
              (try clear hb)
              (try clear hb2)
              (try clear hk)
              (try clear hi)
              refine hK.out _ _ ⟨(blk_cell BK104.out 0).trans rfl, (blk_cell BK104.out 1).trans rfl, (blk_cell BK104.out 2).trans rfl, (blk_cell BK104.out 3).trans rfl, ((HB.out.cell (World.block_lt_of_cell? w _ hw107_0)).trans hw107_0), ((HB.out.cell (World.block_lt_of_cell? w _ hw107_1)).trans hw107_1), ((HB.out.cell (World.block_lt_of_cell? w _ hw107_2)).trans hw107_2), ((HB.out.cell (World.block_lt_of_cell? w _ hw107_3)).trans hw107_3)⟩ (fun hHeld=>?_)
              clear hK K
              refine norm_ (a':=?_) ?_ ?_
              rotate_left
              ·show Act.put _ (some 57) _ = _
               simp only [Act.put, List.setIfInBounds_toArray, List.set_cons_zero, List.set_cons_succ, i64_w, i32_w]
               rfl
              refine pure_ (i:=10) (N:=some 58) (v:=?_) (a':=?_) #[true, true, true, true, true, true, true, true, true, true, true, false] rfl rfl (any_of HT_.out (by kernel_rfl)) (fun _ _ _ h=>h) (Or.inl ⟨by rfl, ?_⟩) ?_ ?_
              rotate_left
              ·intro w'
               go_simp
               with_reducible rfl
              rotate_left
              ·simp only [Act.put, List.setIfInBounds_toArray, List.set_cons_zero, List.set_cons_succ, i64_w, i32_w]
               rfl
              refine pure_ (i:=11) (N:=some 59) (v:=?_) (a':=?_) #[true, true, true, true, true, true, true, true, true, true, true, true] rfl rfl (any_of HT_.out (by kernel_rfl)) (fun _ _ _ h=>h) (Or.inl ⟨by rfl, ?_⟩) ?_ ?_
              rotate_left
              ·intro w'
               go_simp
               with_reducible rfl
              rotate_left
              ·simp only [Act.put, List.setIfInBounds_toArray, List.set_cons_zero, List.set_cons_succ, i64_w, i32_w]
               rfl
              refine done_ (done_of HT_.out (by kernel_rfl)) ?_
              try go_wp2
              go_ret
              exact ⟨by first | rfl | (simp [errW_none, errW_some] <;> rfl) | (simp only [← hji22];first | rfl | (simp [errW_none, errW_some] <;> rfl)) | (simp [*, errW_none, errW_some] <;> rfl), by repeat (first | (with_reducible first | exact HB.out | apply below_alloc | apply pw_below_drewN | apply below_drew1 | refine below_set ?_ GE104.out) | exact HB.out)⟩
            ·rw [if_neg c24] at H
             exact absurd H (by simp)
           ·rw [if_neg c23] at H
            exact absurd H (by simp)
          ·rw [if_neg c21] at H
           have c21b0 : decide (0 < x3_1) = false:=decide_eq_false c21
           clear c21
           have H':=Aside0.mk H
           clear H
           have hcz33_0 : wc.cell? ⟨gb104, 0, none⟩ = some (.int .i64 ((rd_T33 l0 x3_1).f0)):=(blk_cell BK104.out 0).trans rfl
           have hcz33_1 : wc.cell? ⟨gb104, 1, none⟩ = some (.int .i64 ((rd_T33 l0 x3_1).f1)):=(blk_cell BK104.out 1).trans rfl
           have hcz33_2 : wc.cell? ⟨gb104, 2, none⟩ = some (.string ((rd_T33 l0 x3_1).f2)):=(blk_cell BK104.out 2).trans rfl
           have hcz33_3 : wc.cell? ⟨gb104, 3, none⟩ = some (.int .i64 ((rd_T33 l0 x3_1).f3)):=(blk_cell BK104.out 3).trans rfl
           have hfz33_0:=blk_frozen BK104.out 0
           have hfz33_1:=blk_frozen BK104.out 1
           have hfz33_2:=blk_frozen BK104.out 2
           have hfz33_3:=blk_frozen BK104.out 3
           try go_wp2_with (first | ((with_reducible refine gate_callee (f:=10) rfl ?_);refine goesL_ (some 46) rfl rfl Try.func10 (by kernel_rfl) rfl #[.string ((rd_T33 l0 x3_1).f2)] rfl (by (try simp only [List.map_toArray, List.map_cons, List.map_nil]);first | done | rfl | (simp only [List.length_drop, List.length_take];rfl)) ?_;(with_reducible refine (cr22_Name.calls kj4 ((rd_T33 l0 x3_1).f2) true _ A19.out).mono ?_);rintro e w' ⟨rfl, ⟨nd, rfl⟩⟩;refine ⟨_, rfl, ?_⟩))
           (try (rw [drewN_self wc];generalize hq_ : World.drewN wc _ = wc;have n0_ : Aside0 (wc.heap[gb104]? = some (.cells #[.int .i64 ((rd_T33 l0 x3_1).f0), .int .i64 ((rd_T33 l0 x3_1).f1), .string ((rd_T33 l0 x3_1).f2), .int .i64 ((rd_T33 l0 x3_1).f3)] 33 (0, 0))):=⟨by rw [← hq_];exact (by (with_reducible repeat (first | refine blk_drewN ?_ _ | refine blk_drew ?_ | refine blk_alloc ?_ _));exact BK104.out)⟩;have n1_ : Aside0 (Below w.heap.size w wc):=⟨by rw [← hq_];exact (by repeat (first | (with_reducible first | exact HB.out | apply below_alloc | apply pw_below_drewN | apply below_drew1 | refine below_set ?_ GE104.out) | exact HB.out))⟩;clear BK104 HB hq_;have BK104:=n0_;have HB:=n1_;clear n0_ n1_))
           have n0_:=Aside0.mk (blk_drew BK104.out)
           have n1_:=Aside0.mk (below_drew1 HB.out)
           clear BK104
           clear HB
           have BK104:=n0_
           have HB:=n1_
           clear n0_ n1_
           refine start_ (n:=12) (S:=fun w'=>True) (ds:=[]) #[false, false, false, false, false, false, false, false, false, false, false, false] (by kernel_rfl) rfl rfl trivial (fun hHeld=>?_);refine with_tabW cr47_Check.tab11 cr47_Check.bits11 (fun HT_ HW_=>?_)
           generalize wc.drew = w34 at BK104 HB hHeld ⊢
           refine pure_ (i:=0) (N:=some 48) (v:=?_) (a':=?_) #[true, false, false, false, false, false, false, false, false, false, false, false] rfl rfl (any_of HT_.out (by kernel_rfl)) (fun _ _ _ h=>h) (Or.inl ⟨by rfl, ?_⟩) ?_ ?_
           rotate_left
           ·intro w'
            go_simp
            with_reducible rfl
           rotate_left
           ·simp only [Act.put, List.setIfInBounds_toArray, List.set_cons_zero, List.set_cons_succ, i64_w, i32_w]
            rfl
           refine pure_ (i:=1) (N:=some 49) (v:=?_) (a':=?_) #[true, true, false, false, false, false, false, false, false, false, false, false] rfl rfl (any_of HT_.out (by kernel_rfl)) (fun _ _ _ h=>h) (Or.inl ⟨by rfl, ?_⟩) ?_ ?_
           rotate_left
           ·intro w'
            go_simp
            with_reducible rfl
           rotate_left
           ·simp only [Act.put, List.setIfInBounds_toArray, List.set_cons_zero, List.set_cons_succ, i64_w, i32_w]
            rfl
           refine pure_ (i:=2) (N:=some 50) (v:=?_) (a':=?_) #[true, true, true, false, false, false, false, false, false, false, false, false] rfl rfl (any_of HT_.out (by kernel_rfl)) (fun _ _ _ h=>h) (Or.inl ⟨by rfl, ?_⟩) ?_ ?_
           rotate_left
           ·intro w'
            go_simp
            with_reducible rfl
           rotate_left
           ·simp only [Act.put, List.setIfInBounds_toArray, List.set_cons_zero, List.set_cons_succ, i64_w, i32_w]
            rfl
           refine pure_ (i:=3) (N:=some 51) (v:=undef) (a':=?_) #[true, true, true, true, false, false, false, false, false, false, false, false] rfl rfl (any_of HT_.out (by kernel_rfl)) (fun _ _ _ h=>h) (Or.inr ⟨by rfl, rfl⟩) ?_ ?_
           rotate_left
           ·simp only [Act.put, List.setIfInBounds_toArray, List.set_cons_zero, List.set_cons_succ, i64_w, i32_w]
            rfl
           refine pure_ (i:=4) (N:=some 52) (v:=undef) (a':=?_) #[true, true, true, true, true, false, false, false, false, false, false, false] rfl rfl (any_of HT_.out (by kernel_rfl)) (fun _ _ _ h=>h) (Or.inr ⟨by rfl, rfl⟩) ?_ ?_
           rotate_left
           ·simp only [Act.put, List.setIfInBounds_toArray, List.set_cons_zero, List.set_cons_succ, i64_w, i32_w]
            rfl
           refine pure_ (i:=5) (N:=some 53) (v:=undef) (a':=?_) #[true, true, true, true, true, true, false, false, false, false, false, false] rfl rfl (any_of HT_.out (by kernel_rfl)) (fun _ _ _ h=>h) (Or.inr ⟨by rfl, rfl⟩) ?_ ?_
           rotate_left
           ·simp only [Act.put, List.setIfInBounds_toArray, List.set_cons_zero, List.set_cons_succ, i64_w, i32_w]
            rfl
           refine pure_ (i:=6) (N:=some 54) (v:=undef) (a':=?_) #[true, true, true, true, true, true, true, false, false, false, false, false] rfl rfl (any_of HT_.out (by kernel_rfl)) (fun _ _ _ h=>h) (Or.inr ⟨by rfl, rfl⟩) ?_ ?_
           rotate_left
           ·simp only [Act.put, List.setIfInBounds_toArray, List.set_cons_zero, List.set_cons_succ, i64_w, i32_w]
            rfl
           refine pure_ (i:=7) (N:=some 55) (v:=undef) (a':=?_) #[true, true, true, true, true, true, true, true, false, false, false, false] rfl rfl (any_of HT_.out (by kernel_rfl)) (fun _ _ _ h=>h) (Or.inr ⟨by rfl, rfl⟩) ?_ ?_
           rotate_left
           ·simp only [Act.put, List.setIfInBounds_toArray, List.set_cons_zero, List.set_cons_succ, i64_w, i32_w]
            rfl
           refine pure_ (i:=8) (N:=some 56) (v:=undef) (a':=?_) #[true, true, true, true, true, true, true, true, true, false, false, false] rfl rfl (any_of HT_.out (by kernel_rfl)) (fun _ _ _ h=>h) (Or.inr ⟨by rfl, rfl⟩) ?_ ?_
           rotate_left
           ·simp only [Act.put, List.setIfInBounds_toArray, List.set_cons_zero, List.set_cons_succ, i64_w, i32_w]
            rfl
           refine pure_ (i:=9) (N:=some 57) (v:=undef) (a':=?_) #[true, true, true, true, true, true, true, true, true, true, false, false] rfl rfl (any_of HT_.out (by kernel_rfl)) (fun _ _ _ h=>h) (Or.inr ⟨by rfl, rfl⟩) ?_ ?_
           rotate_left
           ·simp only [Act.put, List.setIfInBounds_toArray, List.set_cons_zero, List.set_cons_succ, i64_w, i32_w]
            rfl
           refine pure_ (i:=10) (N:=some 58) (v:=undef) (a':=?_) #[true, true, true, true, true, true, true, true, true, true, true, false] rfl rfl (any_of HT_.out (by kernel_rfl)) (fun _ _ _ h=>h) (Or.inr ⟨by rfl, rfl⟩) ?_ ?_
           rotate_left
           ·simp only [Act.put, List.setIfInBounds_toArray, List.set_cons_zero, List.set_cons_succ, i64_w, i32_w]
            rfl
           refine pure_ (i:=11) (N:=some 59) (v:=?_) (a':=?_) #[true, true, true, true, true, true, true, true, true, true, true, true] rfl rfl (any_of HT_.out (by kernel_rfl)) (fun _ _ _ h=>h) (Or.inl ⟨by rfl, ?_⟩) ?_ ?_
           rotate_left
           ·intro w'
            go_simp
            with_reducible rfl
           rotate_left
           ·simp only [Act.put, List.setIfInBounds_toArray, List.set_cons_zero, List.set_cons_succ, i64_w, i32_w]
            rfl
           refine done_ (done_of HT_.out (by kernel_rfl)) ?_
           try go_wp2
           go_roundg kj4
           case measure=>have:=HK1.out;have:=HJ4.out;omega
           case rel=>exact ⟨(wrap64 (x3_1 + 1)), (by first | rfl | (simp;done) | (simp [*];done)), H', ⟨by have:=HK1.out;have:=HJ4.out;omega⟩, ⟨by repeat (first | (with_reducible first | exact HB.out | apply below_alloc | apply pw_below_drewN | apply below_drew1 | refine below_set ?_ GE104.out) | exact HB.out)⟩⟩
         ·replace c20:=Bool.eq_false_iff.mpr c20
          subst c20
          have H1 : (some 10) = some r:=by rw [if_neg (show ¬ (false = true) by decide)] at H;exact H
          clear H
          have H:=H1
          clear H1
          obtain rfl:=Option.some.inj H
          have hcz35_0 : wc.cell? ⟨gb104, 0, none⟩ = some (.int .i64 ((rd_T33 l0 x3_1).f0)):=(blk_cell BK104.out 0).trans rfl
          have hcz35_1 : wc.cell? ⟨gb104, 1, none⟩ = some (.int .i64 ((rd_T33 l0 x3_1).f1)):=(blk_cell BK104.out 1).trans rfl
          have hcz35_2 : wc.cell? ⟨gb104, 2, none⟩ = some (.string ((rd_T33 l0 x3_1).f2)):=(blk_cell BK104.out 2).trans rfl
          have hcz35_3 : wc.cell? ⟨gb104, 3, none⟩ = some (.int .i64 ((rd_T33 l0 x3_1).f3)):=(blk_cell BK104.out 3).trans rfl
          have hfz35_0:=blk_frozen BK104.out 0
          have hfz35_1:=blk_frozen BK104.out 1
          have hfz35_2:=blk_frozen BK104.out 2
          have hfz35_3:=blk_frozen BK104.out 3
          go_wp2_with (first | ((with_reducible refine gate_callee (f:=10) rfl ?_);refine goesL_ (some 46) rfl rfl Try.func10 (by kernel_rfl) rfl #[.string ((rd_T33 l0 x3_1).f2)] rfl (by (try simp only [List.map_toArray, List.map_cons, List.map_nil]);first | done | rfl | (simp only [List.length_drop, List.length_take];rfl)) ?_;(with_reducible refine (cr22_Name.calls kj4 ((rd_T33 l0 x3_1).f2) false _ A19.out).mono ?_);rintro e w' ⟨rfl, ⟨nd, rfl⟩⟩;refine ⟨_, rfl, ?_⟩))
          go_ret
          exact ⟨by first | rfl | (simp [errW_none, errW_some] <;> rfl) | (simp [*, errW_none, errW_some] <;> rfl), by repeat (first | (with_reducible first | exact HB.out | apply below_alloc | apply pw_below_drewN | apply below_drew1 | refine below_set ?_ GE104.out) | exact HB.out)⟩
     ·rw [if_neg c4] at H
      exact absurd H (by simp)
    ·rw [if_neg c3] at H
     have c3b0 : decide (x3_1 < (l0.length : Int)) = false:=decide_eq_false c3
     clear c3
     have H':=Aside0.mk H
     clear H
     go_wp2
     go_loopg [5, 6] k1 (fun kq v5 v6 w'=>∃ (x5_2 : Int) (x6_2 : Int), v5 = .int .i64 x5_2 ∧ v6 = .int .i64 x6_2 ∧ Aside0 (cr47_Check.l1 kq l0 x5_2 x6_2 = some r) ∧ Aside0 (kq ≤ k1) ∧ Aside0 (Below w.heap.size w w'))
     case atStart=>exact ⟨(0), (0), (by first | rfl | (simp;done) | (simp [*];done)), (by first | rfl | (simp;done) | (simp [*];done)), H', ⟨Nat.le_refl _⟩, ⟨by repeat (first | (with_reducible first | exact HB.out | apply below_alloc | apply pw_below_drewN | apply below_drew1) | exact HB.out)⟩⟩
     case round =>
      clear H'
      try clear c1
      try clear p1
      try clear q1
      try clear hx1
      try clear c2
      try clear c2b0
      try clear c2b1
      try clear p2
      try clear c3
      try clear c3b0
      try clear c4
      try clear c4b0
      try clear p6
      try clear c8
      try clear c8b0
      try clear c10
      try clear c10b0
      try clear p10
      try clear q10
      try clear hx10
      try clear c11
      try clear c12
      try clear c12b0
      try clear c14
      try clear c14b0
      try clear c18
      try clear c20
      try clear c21
      try clear c21b0
      try clear c23
      try clear c23b0
      try clear c24
      try clear c24b0
      try clear c26
      try clear hcz11_0
      try clear hcz11_1
      try clear hcz11_2
      try clear hcz11_3
      try clear hcz13_0
      try clear hcz13_1
      try clear hcz13_2
      try clear hcz13_3
      try clear hcz15_0
      try clear hcz15_1
      try clear hcz15_2
      try clear hcz15_3
      try clear hcz17_0
      try clear hcz17_1
      try clear hcz17_2
      try clear hcz17_3
      try clear hcz27_0
      try clear hcz27_1
      try clear hcz27_2
      try clear hcz27_3
      try clear hcz30_0
      try clear hcz30_1
      try clear hcz30_2
      try clear hcz30_3
      try clear hcz33_0
      try clear hcz33_1
      try clear hcz33_2
      try clear hcz33_3
      try clear hcz35_0
      try clear hcz35_1
      try clear hcz35_2
      try clear hcz35_3
      try clear hcz7_0
      try clear hcz7_1
      try clear hcz7_2
      try clear hcz7_3
      try clear hcz9_0
      try clear hcz9_1
      try clear hcz9_2
      try clear hcz9_3
      try clear hfz11_0
      try clear hfz11_1
      try clear hfz11_2
      try clear hfz11_3
      try clear hfz13_0
      try clear hfz13_1
      try clear hfz13_2
      try clear hfz13_3
      try clear hfz15_0
      try clear hfz15_1
      try clear hfz15_2
      try clear hfz15_3
      try clear hfz17_0
      try clear hfz17_1
      try clear hfz17_2
      try clear hfz17_3
      try clear hfz27_0
      try clear hfz27_1
      try clear hfz27_2
      try clear hfz27_3
      try clear hfz30_0
      try clear hfz30_1
      try clear hfz30_2
      try clear hfz30_3
      try clear hfz33_0
      try clear hfz33_1
      try clear hfz33_2
      try clear hfz33_3
      try clear hfz35_0
      try clear hfz35_1
      try clear hfz35_2
      try clear hfz35_3
      try clear hfz7_0
      try clear hfz7_1
      try clear hfz7_2
      try clear hfz7_3
      try clear hfz9_0
      try clear hfz9_1
      try clear hfz9_2
      try clear hfz9_3
      try clear hx103_0
      try clear hx103_1
      try clear hx103_2
      try clear hx103_3
      try clear hx107_0
      try clear hx107_1
      try clear hx107_2
      try clear hx107_3
      try clear p1
      try clear p10
      try clear p103
      try clear p107
      try clear p2
      try clear q1
      try clear q10
      try clear q103
      try clear q107
      obtain ⟨x5_2, x6_2, rfl, rfl, HA, HK2, HB⟩:=hrel
      cases gk with
      | zero=>exact absurd HA.out (by simp [cr47_Check.l1])
      | succ k2 =>
       have H:=HA.out
       clear HA
       simp only [cr47_Check.l1] at H
       by_cases c36 : x6_2 < (l0.length : Int)
       ·rw [if_pos c36] at H
        have c36b0 : decide (x6_2 < (l0.length : Int)) = true:=decide_eq_true c36
        clear c36
        by_cases c37 : 0 ≤ x6_2
        ·rw [if_pos c37] at H
         have c37b0 : decide (0 ≤ x6_2) = true:=decide_eq_true c37
         clear c37
         by_cases c38 : ((rd_T33 l0 x6_2).f3) > (wrap64 (1152921504606846976 - x5_2))
         ·rw [if_pos c38] at H
          have c38b0 : decide ((wrap64 (1152921504606846976 - x5_2)) < ((rd_T33 l0 x6_2).f3)) = true:=decide_eq_true c38
          clear c38
          obtain rfl:=Option.some.inj H
          have p109 : 0 ≤ (x6_2 : Int):=of_decide_eq_true (by first | (with_reducible assumption) | assumption)
          have q109 : x6_2 < (l0.length : Int):=of_decide_eq_true (by first | (with_reducible assumption) | assumption)
          obtain ⟨ad109, e109, hx109_0, hx109_1, hx109_2, hx109_3⟩:=at_T33 HR0.out x6_2 p109 q109
          cases e109
          replace hx109_0:=(HB.out.cell (World.block_lt_of_cell? w _ hx109_0)).trans hx109_0
          replace hx109_1:=(HB.out.cell (World.block_lt_of_cell? w _ hx109_1)).trans hx109_1
          replace hx109_2:=(HB.out.cell (World.block_lt_of_cell? w _ hx109_2)).trans hx109_2
          replace hx109_3:=(HB.out.cell (World.block_lt_of_cell? w _ hx109_3)).trans hx109_3
          replace p109:=eq_true p109
          replace q109:=eq_true q109
          go_wp2
          go_ret
          exact ⟨by first | rfl | (simp [errW_none, errW_some] <;> rfl) | (simp [*, errW_none, errW_some] <;> rfl), by repeat (first | (with_reducible first | exact HB.out | apply below_alloc | apply pw_below_drewN | apply below_drew1) | exact HB.out)⟩
         ·rw [if_neg c38] at H
          have c38b0 : decide ((wrap64 (1152921504606846976 - x5_2)) < ((rd_T33 l0 x6_2).f3)) = false:=decide_eq_false c38
          clear c38
          have H':=Aside0.mk H
          clear H
          have p109 : 0 ≤ (x6_2 : Int):=of_decide_eq_true (by first | (with_reducible assumption) | assumption)
          have q109 : x6_2 < (l0.length : Int):=of_decide_eq_true (by first | (with_reducible assumption) | assumption)
          obtain ⟨ad109, e109, hx109_0, hx109_1, hx109_2, hx109_3⟩:=at_T33 HR0.out x6_2 p109 q109
          cases e109
          replace hx109_0:=(HB.out.cell (World.block_lt_of_cell? w _ hx109_0)).trans hx109_0
          replace hx109_1:=(HB.out.cell (World.block_lt_of_cell? w _ hx109_1)).trans hx109_1
          replace hx109_2:=(HB.out.cell (World.block_lt_of_cell? w _ hx109_2)).trans hx109_2
          replace hx109_3:=(HB.out.cell (World.block_lt_of_cell? w _ hx109_3)).trans hx109_3
          replace p109:=eq_true p109
          replace q109:=eq_true q109
          have p110 : 0 ≤ (x6_2 : Int):=of_decide_eq_true (by first | (with_reducible assumption) | assumption)
          have q110 : x6_2 < (l0.length : Int):=of_decide_eq_true (by first | (with_reducible assumption) | assumption)
          obtain ⟨ad110, e110, hx110_0, hx110_1, hx110_2, hx110_3⟩:=at_T33 HR0.out x6_2 p110 q110
          obtain rfl : ad109 = ad110:=(by injection e110)
          replace hx110_0:=(HB.out.cell (World.block_lt_of_cell? w _ hx110_0)).trans hx110_0
          replace hx110_1:=(HB.out.cell (World.block_lt_of_cell? w _ hx110_1)).trans hx110_1
          replace hx110_2:=(HB.out.cell (World.block_lt_of_cell? w _ hx110_2)).trans hx110_2
          replace hx110_3:=(HB.out.cell (World.block_lt_of_cell? w _ hx110_3)).trans hx110_3
          replace p110:=eq_true p110
          replace q110:=eq_true q110
          go_wp2
          go_roundg k2
          case measure=>have:=HK1.out;have:=HK2.out;omega
          case rel=>exact ⟨(wrap64 (x5_2 + ((rd_T33 l0 x6_2).f3))), (wrap64 (x6_2 + 1)), (by first | rfl | (simp;done) | (simp [*];done)), (by first | rfl | (simp;done) | (simp [*];done)), H', ⟨by have:=HK1.out;have:=HK2.out;omega⟩, ⟨by repeat (first | (with_reducible first | exact HB.out | apply below_alloc | apply pw_below_drewN | apply below_drew1) | exact HB.out)⟩⟩
        ·rw [if_neg c37] at H
         exact absurd H (by simp)
       ·rw [if_neg c36] at H
        have c36b0 : decide (x6_2 < (l0.length : Int)) = false:=decide_eq_false c36
        clear c36
        obtain rfl:=Option.some.inj H
        go_wp2
        go_ret
        exact ⟨by first | rfl | (simp [errW_none, errW_some] <;> rfl) | (simp [*, errW_none, errW_some] <;> rfl), by repeat (first | (with_reducible first | exact HB.out | apply below_alloc | apply pw_below_drewN | apply below_drew1) | exact HB.out)⟩

end Go.Proofs.Ytlkdilfheplmhaa.PTopLosses
