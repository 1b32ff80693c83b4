/- Laid for this claim by a program of this session's (wip/mkprint.py, wip/ext.py); not trusted: Lean checks it. -/
import Derived.Test.YtfogpifjpnonnaaPWaterfallReturnsx0
import Derived.Test.YtfogpifjpnonnaaPWaterfallReturnsx10
import Derived.Test.YtfogpifjpnonnaaPWaterfallReturnsx11
import Derived.Test.YtfogpifjpnonnaaPWaterfallReturnsx12
import Derived.Test.YtfogpifjpnonnaaPWaterfallReturnsx13
import Derived.Test.YtfogpifjpnonnaaPWaterfallReturnsx14
import Derived.Test.YtfogpifjpnonnaaPWaterfallReturnsx15
namespace Go.Proofs.Ytfogpifjpnonnaa.PWaterfallReturns
open Go.RowKit Go.Proofs.YtfogpifjpnonnaaW.PrintWords Go.Proofs.YtfogpifjpnonnaaW.PrintLast Go.Proofs.YtfogpifjpnonnaaW.PrintMore
attribute [local go_sem] max2_int min2_int max_two min_two max_three min_three max_four min_four   -- for this text's walks alone
set_option linter.unusedVariables false
set_option linter.unusedSimpArgs false

/-! ### cr47_Return: function 22 -/
mutual
def cr47_Return.j0 : Nat → Int → List (S37) → List Int → Bool → Option (List Int × Int × Int)
 | 0, _, _, _, _=>none
 | k + 1, x0, x1, x2, x27=>if x27 = true then (some (([] : List Int), 0, 2)) else (if 0 ≤ (x1.length : Int) then (if ((x1.length : Int) : Int).toNat ≤ 35184372088832 then (cr47_Return.l0 k x1 x2 (List.replicate ((x1.length : Int) : Int).toNat 0) x0 (wrap64 ((x1.length : Int) - 1))) else (none)) else (none))
def cr47_Return.l0 : Nat → List (S37) → List Int → List Int → Int → Int → Option (List Int × Int × Int)
 | 0, _, _, _, _, _=>none
 | k + 1, x1, x2, x10, x11, x12=>if x12 ≥ 0 then (cr47_Return.j2 k x1 x2 x10 x11 x12 (decide (x11 > 0))) else (cr47_Return.j2 k x1 x2 x10 x11 x12 false)
def cr47_Return.j2 : Nat → List (S37) → List Int → List Int → Int → Int → Bool → Option (List Int × Int × Int)
 | 0, _, _, _, _, _, _=>none
 | k + 1, x1, x2, x10, x11, x12, x40=>if x40 = true then (if (wrap64 (x12 + 1)) < (x1.length : Int) then (if 0 ≤ x12 then (if x12 < (x1.length : Int) then (if 0 ≤ (wrap64 (x12 + 1)) then ((cr47_Turn.f ((rd_T37 x1 x12).f0) ((rd_T37 x1 x12).f1) ((rd_T37 x1 x12).f2) ((rd_T37 x1 x12).f3) ((rd_T37 x1 (wrap64 (x12 + 1))).f0) ((rd_T37 x1 (wrap64 (x12 + 1))).f1) ((rd_T37 x1 (wrap64 (x12 + 1))).f2) ((rd_T37 x1 (wrap64 (x12 + 1))).f3)).bind fun t283=>(cr47_Return.j3 k x1 x2 x10 x11 x12 t283)) else (none)) else (none)) else (none)) else (cr47_Return.j3 k x1 x2 x10 x11 x12 false)) else (some (x10, x11, 0))
def cr47_Return.j3 : Nat → List (S37) → List Int → List Int → Int → Int → Bool → Option (List Int × Int × Int)
 | 0, _, _, _, _, _, _=>none
 | k + 1, x1, x2, x10, x11, x12, x59=>if x59 = true then (cr47_Return.l0 k x1 x2 x10 x11 (wrap64 (x12 - 1))) else ((cr47_part.f k x1 x2 x12).bind fun t284=>((cr47_take.f k x11 t284).bind fun t287=>((cr47_plus.f k x10 t287).bind fun t290=>((cr02_Sum.f k t287).bind fun t293=>(cr47_Return.l0 k x1 x2 t290 (wrap64 (x11 - t293)) (wrap64 (x12 - 1)))))))
end
def cr47_Return.f (k : Nat) (a0 : Int) (l1 : List (S37)) (l2 : List Int) : Option (List Int × Int × Int):=(cr47_Check.f k l1).bind fun t275=>(if t275 = 0 then ((cr02_Money.f a0).bind fun t276=>(if t276 = true then ((cr47_right.f k l1 l2).bind fun t277=>(cr47_Return.j0 k a0 l1 l2 (t277 != 0))) else (cr47_Return.j0 k a0 l1 l2 true))) else (some (([] : List Int), 0, t275)))
theorem cr47_Return.mono_l : ∀ k, (∀ y0 y1 y2 y3, LeO (cr47_Return.j0 k y0 y1 y2 y3) (cr47_Return.j0 (k + 1) y0 y1 y2 y3)) ∧ (∀ y0 y1 y2 y3 y4, LeO (cr47_Return.l0 k y0 y1 y2 y3 y4) (cr47_Return.l0 (k + 1) y0 y1 y2 y3 y4)) ∧ (∀ y0 y1 y2 y3 y4 y5, LeO (cr47_Return.j2 k y0 y1 y2 y3 y4 y5) (cr47_Return.j2 (k + 1) y0 y1 y2 y3 y4 y5)) ∧ (∀ y0 y1 y2 y3 y4 y5, LeO (cr47_Return.j3 k y0 y1 y2 y3 y4 y5) (cr47_Return.j3 (k + 1) y0 y1 y2 y3 y4 y5))
 | 0=>⟨fun _ _ _ _ r h=>by simp [cr47_Return.j0] at h, fun _ _ _ _ _ r h=>by simp [cr47_Return.l0] at h, fun _ _ _ _ _ _ r h=>by simp [cr47_Return.j2] at h, fun _ _ _ _ _ _ r h=>by simp [cr47_Return.j3] at h⟩
 | k + 1=>by
  obtain ⟨ih0, ih1, ih2, ih3⟩:=cr47_Return.mono_l k
  refine ⟨?_, ?_, ?_, ?_⟩
  ·intro y0 y1 y2 y3
   unfold cr47_Return.j0
   repeat' first
   | (with_reducible exact ih0 _ _ _ _)
   | (with_reducible exact ih1 _ _ _ _ _)
   | (with_reducible exact ih2 _ _ _ _ _ _)
   | (with_reducible exact ih3 _ _ _ _ _ _)
   | (with_reducible exact cr02_Sum.mono _ _)
   | (with_reducible exact cr47_Check.mono _ _)
   | (with_reducible exact cr47_part.mono _ _ _ _)
   | (with_reducible exact cr47_plus.mono _ _ _)
   | (with_reducible exact cr47_right.mono _ _ _)
   | (with_reducible exact cr47_take.mono _ _ _)
   | (with_reducible exact LeO.refl _)
   | (with_reducible exact LeO.none _)
   | (with_reducible refine LeO.ite ?_ ?_)
   | (with_reducible refine LeO.bind ?_ (fun _=>?_))
   | exact ih0 _ _ _ _
   | exact ih1 _ _ _ _ _
   | exact ih2 _ _ _ _ _ _
   | exact ih3 _ _ _ _ _ _
   | exact cr02_Sum.mono _ _
   | exact cr47_Check.mono _ _
   | exact cr47_part.mono _ _ _ _
   | exact cr47_plus.mono _ _ _
   | exact cr47_right.mono _ _ _
   | exact cr47_take.mono _ _ _
   | exact LeO.none _
   | refine LeO.ite ?_ ?_
   | refine LeO.bind ?_ (fun _=>?_)
  ·intro y0 y1 y2 y3 y4
   unfold cr47_Return.l0
   repeat' first
   | (with_reducible exact ih0 _ _ _ _)
   | (with_reducible exact ih1 _ _ _ _ _)
   | (with_reducible exact ih2 _ _ _ _ _ _)
   | (with_reducible exact ih3 _ _ _ _ _ _)
   | (with_reducible exact cr02_Sum.mono _ _)
   | (with_reducible exact cr47_Check.mono _ _)
   | (with_reducible exact cr47_part.mono _ _ _ _)
   | (with_reducible exact cr47_plus.mono _ _ _)
   | (with_reducible exact cr47_right.mono _ _ _)
   | (with_reducible exact cr47_take.mono _ _ _)
   | (with_reducible exact LeO.refl _)
   | (with_reducible exact LeO.none _)
   | (with_reducible refine LeO.ite ?_ ?_)
   | (with_reducible refine LeO.bind ?_ (fun _=>?_))
   | exact ih0 _ _ _ _
   | exact ih1 _ _ _ _ _
   | exact ih2 _ _ _ _ _ _
   | exact ih3 _ _ _ _ _ _
   | exact cr02_Sum.mono _ _
   | exact cr47_Check.mono _ _
   | exact cr47_part.mono _ _ _ _
   | exact cr47_plus.mono _ _ _
   | exact cr47_right.mono _ _ _
   | exact cr47_take.mono _ _ _
   | exact LeO.none _
   | refine LeO.ite ?_ ?_
   | refine LeO.bind ?_ (fun _=>?_)
  ·intro y0 y1 y2 y3 y4 y5
   unfold cr47_Return.j2
   repeat' first
   | (with_reducible exact ih0 _ _ _ _)
   | (with_reducible exact ih1 _ _ _ _ _)
   | (with_reducible exact ih2 _ _ _ _ _ _)
   | (with_reducible exact ih3 _ _ _ _ _ _)
   | (with_reducible exact cr02_Sum.mono _ _)
   | (with_reducible exact cr47_Check.mono _ _)
   | (with_reducible exact cr47_part.mono _ _ _ _)
   | (with_reducible exact cr47_plus.mono _ _ _)
   | (with_reducible exact cr47_right.mono _ _ _)
   | (with_reducible exact cr47_take.mono _ _ _)
   | (with_reducible exact LeO.refl _)
   | (with_reducible exact LeO.none _)
   | (with_reducible refine LeO.ite ?_ ?_)
   | (with_reducible refine LeO.bind ?_ (fun _=>?_))
   | exact ih0 _ _ _ _
   | exact ih1 _ _ _ _ _
   | exact ih2 _ _ _ _ _ _
   | exact ih3 _ _ _ _ _ _
   | exact cr02_Sum.mono _ _
   | exact cr47_Check.mono _ _
   | exact cr47_part.mono _ _ _ _
   | exact cr47_plus.mono _ _ _
   | exact cr47_right.mono _ _ _
   | exact cr47_take.mono _ _ _
   | exact LeO.none _
   | refine LeO.ite ?_ ?_
   | refine LeO.bind ?_ (fun _=>?_)
  ·intro y0 y1 y2 y3 y4 y5
   unfold cr47_Return.j3
   repeat' first
   | (with_reducible exact ih0 _ _ _ _)
   | (with_reducible exact ih1 _ _ _ _ _)
   | (with_reducible exact ih2 _ _ _ _ _ _)
   | (with_reducible exact ih3 _ _ _ _ _ _)
   | (with_reducible exact cr02_Sum.mono _ _)
   | (with_reducible exact cr47_Check.mono _ _)
   | (with_reducible exact cr47_part.mono _ _ _ _)
   | (with_reducible exact cr47_plus.mono _ _ _)
   | (with_reducible exact cr47_right.mono _ _ _)
   | (with_reducible exact cr47_take.mono _ _ _)
   | (with_reducible exact LeO.refl _)
   | (with_reducible exact LeO.none _)
   | (with_reducible refine LeO.ite ?_ ?_)
   | (with_reducible refine LeO.bind ?_ (fun _=>?_))
   | exact ih0 _ _ _ _
   | exact ih1 _ _ _ _ _
   | exact ih2 _ _ _ _ _ _
   | exact ih3 _ _ _ _ _ _
   | exact cr02_Sum.mono _ _
   | exact cr47_Check.mono _ _
   | exact cr47_part.mono _ _ _ _
   | exact cr47_plus.mono _ _ _
   | exact cr47_right.mono _ _ _
   | exact cr47_take.mono _ _ _
   | exact LeO.none _
   | refine LeO.ite ?_ ?_
   | refine LeO.bind ?_ (fun _=>?_)
theorem cr47_Return.mono : ∀ a0 a1 a2 k, LeO (cr47_Return.f k a0 a1 a2) (cr47_Return.f (k + 1) a0 a1 a2):=by
 intro a0 a1 a2 k
 obtain ⟨ih0, ih1, ih2, ih3⟩:=cr47_Return.mono_l k
 unfold cr47_Return.f
 repeat' first
   | (with_reducible exact ih0 _ _ _ _)
   | (with_reducible exact ih1 _ _ _ _ _)
   | (with_reducible exact ih2 _ _ _ _ _ _)
   | (with_reducible exact ih3 _ _ _ _ _ _)
   | (with_reducible exact cr02_Sum.mono _ _)
   | (with_reducible exact cr47_Check.mono _ _)
   | (with_reducible exact cr47_part.mono _ _ _ _)
   | (with_reducible exact cr47_plus.mono _ _ _)
   | (with_reducible exact cr47_right.mono _ _ _)
   | (with_reducible exact cr47_take.mono _ _ _)
   | (with_reducible exact LeO.refl _)
   | (with_reducible exact LeO.none _)
   | (with_reducible refine LeO.ite ?_ ?_)
   | (with_reducible refine LeO.bind ?_ (fun _=>?_))
   | exact ih0 _ _ _ _
   | exact ih1 _ _ _ _ _
   | exact ih2 _ _ _ _ _ _
   | exact ih3 _ _ _ _ _ _
   | exact cr02_Sum.mono _ _
   | exact cr47_Check.mono _ _
   | exact cr47_part.mono _ _ _ _
   | exact cr47_plus.mono _ _ _
   | exact cr47_right.mono _ _ _
   | exact cr47_take.mono _ _ _
   | exact LeO.none _
   | refine LeO.ite ?_ ?_
   | refine LeO.bind ?_ (fun _=>?_)
def cr47_Return.T11 : Bool × List (List Nat × List Nat):=(true, [([], []), ([0], [0]), ([], []), ([2], [2]), ([1, 3], [1, 3]), ([4], [4]), ([5], [5]), ([5], [5]), ([6, 7, 5], [5, 6, 7]), ([8, 5], [5, 8]), ([5], [5]), ([5], [5]), ([11, 5], [5, 11]), ([10, 12, 5], [5, 10, 12]), ([13, 5], [5, 13]), ([9, 14, 5, 5], [5, 9, 14]), ([5, 15], [5, 15])])
def cr47_Return.B11 : List Nat:=[0, 1, 0, 4, 15, 31, 63, 63, 255, 511, 63, 63, 2111, 7231, 15423, 32767, 65535]
theorem cr47_Return.tab11 : rtab .any (opsOf Try.f22 11) = cr47_Return.T11:=by kernel_rfl
theorem cr47_Return.bits11 : waitsOk cr47_Return.T11.2 cr47_Return.B11 = true:=by kernel_rfl
set_option maxHeartbeats 8000000 in
set_option maxRecDepth 100000 in
theorem cr47_Return.calls (k : Nat) (a0 : Int) (A1 : Option Addr) (c1 : Nat) (l1 : List (S37)) (A2 : Option Addr) (c2 : Nat) (l2 : List Int) (r1 : List Int) (r2 : Int) (r3 : Int) (w : World) (hr1 : Kd.C k37 w A1 l1.length l1) (hc1 : l1.length ≤ c1) (hr2 : Kd.C (Kd.int .i64) w A2 l2.length l2) (hc2 : l2.length ≤ c2) (h : cr47_Return.f k a0 l1 l2 = some (r1, r2, r3)) :
  Calls Try.prog 22 #[.int .i64 a0, .slice A1 l1.length c1, .slice A2 l2.length c2] w fun e w'=>∃ v0_ : Value, e = .returned (.tuple #[v0_, .int .i64 r2, .int .i64 r3]) ∧ Kd.R (Kd.int .i64) 3 w' w.heap.size (fun _=>True) v0_ r1 ∧ Below w.heap.size w w':=by
 have hu37:=Try.underlying37
 have HR1:=Aside0.mk hr1
 have HC1:=Aside0.mk hc1
 clear hr1 hc1
 have HR2:=Aside0.mk hr2
 have HC2:=Aside0.mk hc2
 clear hr2 hc2
 have HB:=Aside0.mk (Below.refl w.heap.size w)
 have H : ((cr47_Check.f k l1).bind fun t275=>(if t275 = 0 then ((cr02_Money.f a0).bind fun t276=>(if t276 = true then ((cr47_right.f k l1 l2).bind fun t277=>(cr47_Return.j0 k a0 l1 l2 (t277 != 0))) else (cr47_Return.j0 k a0 l1 l2 true))) else (some (([] : List Int), 0, t275)))) = some (r1, r2, r3):=h
 clear h
 replace H:=Option.bind_eq_some_iff.mp H
 obtain ⟨t275, A40, H⟩:=H
 replace H : (if t275 = 0 then ((cr02_Money.f a0).bind fun t276=>(if t276 = true then ((cr47_right.f k l1 l2).bind fun t277=>(cr47_Return.j0 k a0 l1 l2 (t277 != 0))) else (cr47_Return.j0 k a0 l1 l2 true))) else (some (([] : List Int), 0, t275))) = some (r1, r2, r3):=H
 have A4:=Aside0.mk A40
 clear A40
 by_cases c5 : t275 = 0
 ·rw [if_pos c5] at H
  have c5b0 : (t275 == 0) = true:=beq_iff_eq.mpr c5
  have c5b1 : (t275 != 0) = false:=bne_eq_false_iff_eq.mpr c5
  clear c5
  have HC6:=Aside0.mk H
  clear H
  go_enter Try.func22, Try.ntmps22
  go_upto_region 4 with (first | ((with_reducible refine gate_callee (f:=15) rfl ?_);refine goesL_ (some 15) rfl rfl Try.func15 (by kernel_rfl) rfl #[.slice A1 l1.length c1] rfl (by (try simp only [List.map_toArray, List.map_cons, List.map_nil]);first | done | rfl | (simp only [List.length_drop, List.length_take];rfl)) ?_;(with_reducible refine (cr47_Check.calls k _ _ l1 t275 _ ?side1 ?side2 A4.out).mono ?_);(case side1=>repeat (first | exact HR1.out | (with_reducible refine Kd.C_alloc ?_ _) | (with_reducible refine Kd.C_drewN ?_ _) | (with_reducible refine Kd.C_drew ?_)));(case side2=>exact HC1.out);rintro e w7 ⟨rfl, hb⟩;refine ⟨_, rfl, ?_⟩;have n0_:=Aside0.mk (below_step (by repeat (first | (with_reducible first | exact HB.out | apply below_alloc | apply pw_below_drewN | apply below_drew1) | exact HB.out)) hb);clear HB;have HB:=n0_;clear n0_;(try clear hb);(try clear hb2);(try clear hk);(try clear hi)))
  (try simp only [Act.put, List.setIfInBounds_toArray, List.set_cons_zero, List.set_cons_succ])
  go_cut [27] (fun v27 wc=>∃ (kq : Nat) (x27_5 : Bool), v27 = .bool x27_5 ∧ Aside0 (cr47_Return.j0 kq a0 l1 l2 x27_5 = some (r1, r2, r3)) ∧ Aside0 (kq ≤ k) ∧ Aside0 (Below w.heap.size w wc))
  case first =>
   have H:=HC6.out
   clear HC6
   replace H:=Option.bind_eq_some_iff.mp H
   obtain ⟨t276, A80, H⟩:=H
   replace H : (if t276 = true then ((cr47_right.f k l1 l2).bind fun t277=>(cr47_Return.j0 k a0 l1 l2 (t277 != 0))) else (cr47_Return.j0 k a0 l1 l2 true)) = some (r1, r2, r3):=H
   have A8:=Aside0.mk A80
   clear A80
   by_cases c9 : t276 = true
   ·subst c9
    have H1 : ((cr47_right.f k l1 l2).bind fun t277=>(cr47_Return.j0 k a0 l1 l2 (t277 != 0))) = some (r1, r2, r3):=by rw [if_pos rfl] at H;exact H
    clear H
    have H:=H1
    clear H1
    replace H:=Option.bind_eq_some_iff.mp H
    obtain ⟨t277, A100, H⟩:=H
    replace H : (cr47_Return.j0 k a0 l1 l2 (t277 != 0)) = some (r1, r2, r3):=H
    have A10:=Aside0.mk A100
    clear A100
    have H':=Aside0.mk H
    clear H
    go_wp2_with (first | ((with_reducible refine gate_callee (f:=33) rfl ?_);refine goesL_ (some 20) rfl rfl Try.func33 (by kernel_rfl) rfl #[.int .i64 a0] rfl (by (try simp only [List.map_toArray, List.map_cons, List.map_nil]);first | done | rfl | (simp only [List.length_drop, List.length_take];rfl)) ?_;(with_reducible refine (cr02_Money.calls a0 true _ A8.out).mono ?_);rintro e w' ⟨rfl, ⟨nd, rfl⟩⟩;refine ⟨_, rfl, ?_⟩) | (go_at_call 47;(with_reducible refine (cr47_right.calls k _ _ l1 _ _ l2 t277 _ ?side1 ?side2 ?side3 ?side4 A10.out).mono ?_);(case side1=>repeat (first | exact (Kd.C_below HR1.out (by repeat (first | (with_reducible first | exact HB.out | apply below_alloc | apply pw_below_drewN | apply below_drew1) | exact HB.out))) | (with_reducible refine Kd.C_alloc ?_ _) | (with_reducible refine Kd.C_drewN ?_ _) | (with_reducible refine Kd.C_drew ?_)));(case side2=>exact HC1.out);(case side3=>repeat (first | exact (Kd.C_below HR2.out (by repeat (first | (with_reducible first | exact HB.out | apply below_alloc | apply pw_below_drewN | apply below_drew1) | exact HB.out))) | (with_reducible refine Kd.C_alloc ?_ _) | (with_reducible refine Kd.C_drewN ?_ _) | (with_reducible refine Kd.C_drew ?_)));(case side4=>exact HC2.out);rintro e w11 ⟨rfl, hb⟩;have n0_:=Aside0.mk (below_step (by repeat (first | (with_reducible first | exact HB.out | apply below_alloc | apply pw_below_drewN | apply below_drew1) | exact HB.out)) hb);clear HB;have HB:=n0_;clear n0_;(try clear hb);(try clear hb2);(try clear hk);(try clear hi)))
    go_meet
    case rel=>exact ⟨_, ((t277 != 0)), (by first | rfl | (simp;done) | (simp [*];done)), H', ⟨by first | omega | exact Nat.le_refl _⟩, ⟨by repeat (first | (with_reducible first | exact HB.out | apply below_alloc | apply pw_below_drewN | apply below_drew1) | exact HB.out)⟩⟩
   ·replace c9:=Bool.eq_false_iff.mpr c9
    subst c9
    have H1 : (cr47_Return.j0 k a0 l1 l2 true) = some (r1, r2, r3):=by rw [if_neg (show ¬ (false = true) by decide)] at H;exact H
    clear H
    have H:=H1
    clear H1
    have H':=Aside0.mk H
    clear H
    go_wp2_with (first | ((with_reducible refine gate_callee (f:=33) rfl ?_);refine goesL_ (some 20) rfl rfl Try.func33 (by kernel_rfl) rfl #[.int .i64 a0] rfl (by (try simp only [List.map_toArray, List.map_cons, List.map_nil]);first | done | rfl | (simp only [List.length_drop, List.length_take];rfl)) ?_;(with_reducible refine (cr02_Money.calls a0 false _ A8.out).mono ?_);rintro e w' ⟨rfl, ⟨nd, rfl⟩⟩;refine ⟨_, rfl, ?_⟩))
    go_meet
    case rel=>exact ⟨_, (true), (by first | rfl | (simp;done) | (simp [*];done)), H', ⟨by first | omega | exact Nat.le_refl _⟩, ⟨by repeat (first | (with_reducible first | exact HB.out | apply below_alloc | apply pw_below_drewN | apply below_drew1) | exact HB.out)⟩⟩
  case rest =>
   clear HC6
   try clear c1
   try clear c2
   try clear p2
   try clear c3
   try clear c5
   try clear c5b0
   try clear c5b1
   try clear c9
   obtain ⟨kq, x27_5, rfl, HA, HJ5, HB⟩:=hcut
   cases kq with
   | zero=>exact absurd HA.out (by simp [cr47_Return.j0])
   | succ kj5 =>
    have H:=HA.out
    clear HA
    simp only [cr47_Return.j0] at H
    by_cases c12 : x27_5 = true
    ·subst c12
     have H1 : (some (([] : List Int), 0, 2)) = some (r1, r2, r3):=by rw [if_pos rfl] at H;exact H
     clear H
     have H:=H1
     clear H1
     simp only [Option.some.injEq, Prod.mk.injEq] at H
     obtain ⟨rfl, rfl, rfl⟩:=H
     go_wp2
     go_ret3
     exact ⟨_, by first | rfl | (simp [errW_none, errW_some] <;> rfl) | (simp [*, errW_none, errW_some] <;> rfl), by first | exact Kd.R_nil _ _ _ _ _ | exact Kd.N_nil _ _ _ _ _ | exact Kd.V_nil _ _ _ _ _ | exact Kd.Q_nil _ _ _ _ _ | exact Kd.S_nil _ _ _ _ _, by repeat (first | (with_reducible first | exact HB.out | apply below_alloc | apply pw_below_drewN | apply below_drew1) | exact HB.out)⟩
    ·replace c12:=Bool.eq_false_iff.mpr c12
     subst c12
     have H1 : (if 0 ≤ (l1.length : Int) then (if ((l1.length : Int) : Int).toNat ≤ 35184372088832 then (cr47_Return.l0 kj5 l1 l2 (List.replicate ((l1.length : Int) : Int).toNat 0) a0 (wrap64 ((l1.length : Int) - 1))) else (none)) else (none)) = some (r1, r2, r3):=by rw [if_neg (show ¬ (false = true) by decide)] at H;exact H
     clear H
     have H:=H1
     clear H1
     by_cases c13 : 0 ≤ (l1.length : Int)
     ·rw [if_pos c13] at H
      have c13b0:=eq_true c13
      have c13b1 : decide (0 ≤ (l1.length : Int)) = true:=decide_eq_true c13
      clear c13
      by_cases c14 : ((l1.length : Int) : Int).toNat ≤ 35184372088832
      ·rw [if_pos c14] at H
       have c14b0:=eq_true c14
       have c14b1 : decide (((l1.length : Int) : Int).toNat ≤ 35184372088832) = true:=decide_eq_true c14
       clear c14
       obtain ⟨y278, hy278⟩ : ∃ y_ : List Int, y_ = (List.replicate ((l1.length : Int) : Int).toNat 0):=⟨_, rfl⟩
       replace H : (cr47_Return.l0 kj5 l1 l2 y278 a0 (wrap64 ((l1.length : Int) - 1))) = some (r1, r2, r3):=by first | (rw [hy278];with_reducible exact H) | (have H2_:=(Option.bind_some _ _).symm.trans H;rw [hy278];with_reducible exact H2_) | (have H2_:=(Option.bind_some _ _).symm.trans H;with_reducible exact H2_) | with_reducible exact H | (rw [hy278];exact H) | exact H
       have Ny278:=Aside0.mk hy278
       clear hy278
       have H':=Aside0.mk H
       clear H
       go_wp2_with (first | ((with_reducible refine gate_dst (N:=30) rfl ?_);refine Kd.R_make (Kd.int .i64) _ 3 rfl (N:=30) rfl 25 _ _ rfl (l1.length : Int) rfl rfl Try.underlying25 (.int .i64 0) 8 info3 rfl (by decide) (by omega) 0 (ok:=fun _=>True) (okp:=fun _=>True) rfl (fun _ hk=>hk) trivial (of_decide_eq_true (by first | (with_reducible assumption) | assumption)) (Nat.le_trans (Nat.mul_le_mul_right _ (of_decide_eq_true (by first | (with_reducible assumption) | assumption) : (l1.length : Int).toNat ≤ 35184372088832)) (by omega)) (Below.refl _ _) (Nat.le_refl _) ?_;intro v279 w15 ho16 hb hg_ hnew_;clear hg_ hnew_;(first | rw [← Ny278.out] at ho16 | (simp only [Int.reduceToNat] at ho16;rw [← Ny278.out] at ho16));have n0_:=Aside0.mk (Kd.R_lower ho16 (below_size (by repeat (first | (with_reducible first | exact HB.out | apply below_alloc | apply pw_below_drewN | apply below_drew1) | exact HB.out))));have n1_:=Aside0.mk (below_step (by repeat (first | (with_reducible first | exact HB.out | apply below_alloc | apply pw_below_drewN | apply below_drew1) | exact HB.out)) hb);clear HB;have HO280:=n0_;have HB:=n1_;clear n0_ n1_ hb ho16))
       go_loopg [10, 11, 12] kj5 (fun kq v10 v11 v12 w'=>∃ (x10_2 : List Int) (x11_2 : Int) (x12_2 : Int), v11 = .int .i64 x11_2 ∧ v12 = .int .i64 x12_2 ∧ Aside0 (cr47_Return.l0 kq l1 l2 x10_2 x11_2 x12_2 = some (r1, r2, r3)) ∧ Aside0 (kq ≤ kj5) ∧ Aside0 (Kd.R (Kd.int .i64) 3 w' w.heap.size (fun _=>True) v10 x10_2) ∧ Aside0 (Below w.heap.size w w'))
       case atStart=>exact ⟨(y278), (a0), (wrap64 ((l1.length : Int) - 1)), (by first | rfl | (simp;done) | (simp [*];done)), (by first | rfl | (simp;done) | (simp [*];done)), H', ⟨Nat.le_refl _⟩, ⟨by (with_reducible repeat (first | apply Kd.R_alloc | apply Kd.R_drewN | apply Kd.R_drew));exact HO280.out⟩, ⟨by repeat (first | (with_reducible first | exact HB.out | apply below_alloc | apply pw_below_drewN | apply below_drew1) | exact HB.out)⟩⟩
       case round =>
        clear H'
        try clear c1
        try clear c2
        try clear p2
        try clear c3
        try clear c5
        try clear c5b0
        try clear c5b1
        try clear p6
        try clear c9
        try clear c12
        try clear c13
        try clear c13b0
        try clear c13b1
        try clear c14
        try clear c14b0
        try clear c14b1
        try clear c15
        try clear p2
        obtain ⟨x10_2, x11_2, x12_2, rfl, rfl, HA, HK2, HO_10, HB⟩:=hrel
        cases gk with
        | zero=>exact absurd HA.out (by simp [cr47_Return.l0])
        | succ k2 =>
         have H:=HA.out
         clear HA
         simp only [cr47_Return.l0] at H
         have HC17:=Aside0.mk H
         clear H
         go_upto_region 9 with (fail)
         go_cut [40] (fun v40 wc=>∃ (kq : Nat) (x40_16 : Bool), v40 = .bool x40_16 ∧ Aside0 (cr47_Return.j2 kq l1 l2 x10_2 x11_2 x12_2 x40_16 = some (r1, r2, r3)) ∧ Aside0 (kq ≤ k2) ∧ Aside0 (Kd.R (Kd.int .i64) 3 wc w.heap.size (fun _=>True) u10 x10_2) ∧ Aside0 (Below w.heap.size w wc))
         case first =>
          have H:=HC17.out
          clear HC17
          by_cases c18 : x12_2 ≥ 0
          ·rw [if_pos c18] at H
           have c18b0 : decide (0 ≤ x12_2) = true:=decide_eq_true c18
           clear c18
           (first | rw [c18b0] | (simp only [i64_w, i32_w];rw [c18b0]) | skip)
           have H':=Aside0.mk H
           clear H
           go_wp2
           go_meet
           case rel=>exact ⟨_, (decide (x11_2 > 0)), (by first | rfl | (simp;done) | (simp [*];done)), H', ⟨by have:=HJ5.out;have:=HK2.out;first | omega | exact Nat.le_refl _⟩, ⟨by (with_reducible repeat (first | apply Kd.R_alloc | apply Kd.R_drewN | apply Kd.R_drew));exact HO_10.out⟩, ⟨by repeat (first | (with_reducible first | exact HB.out | apply below_alloc | apply pw_below_drewN | apply below_drew1) | exact HB.out)⟩⟩
          ·rw [if_neg c18] at H
           have c18b0 : decide (0 ≤ x12_2) = false:=decide_eq_false c18
           clear c18
           (first | rw [c18b0] | (simp only [i64_w, i32_w];rw [c18b0]) | skip)
           have H':=Aside0.mk H
           clear H
           go_wp2
           go_meet
           case rel=>exact ⟨_, (false), (by first | rfl | (simp;done) | (simp [*];done)), H', ⟨by have:=HJ5.out;have:=HK2.out;first | omega | exact Nat.le_refl _⟩, ⟨by (with_reducible repeat (first | apply Kd.R_alloc | apply Kd.R_drewN | apply Kd.R_drew));exact HO_10.out⟩, ⟨by repeat (first | (with_reducible first | exact HB.out | apply below_alloc | apply pw_below_drewN | apply below_drew1) | exact HB.out)⟩⟩
         case rest =>
          clear HC17
          try clear c1
          try clear c2
          try clear p2
          try clear c3
          try clear c5
          try clear c5b0
          try clear c5b1
          try clear p6
          try clear c9
          try clear c12
          try clear c13
          try clear c13b0
          try clear c13b1
          try clear c14
          try clear c14b0
          try clear c14b1
          try clear c15
          try clear c18
          try clear c18b0
          try clear p2
          try clear p6
          obtain ⟨kq, x40_16, rfl, HA, HJ16, HO_10, HB⟩:=hcut
          cases kq with
          | zero=>exact absurd HA.out (by simp [cr47_Return.j2])
          | succ kj16 =>
           have H:=HA.out
           clear HA
           simp only [cr47_Return.j2] at H
           by_cases c19 : x40_16 = true
           ·subst c19
            have H1 : (if (wrap64 (x12_2 + 1)) < (l1.length : Int) then (if 0 ≤ x12_2 then (if x12_2 < (l1.length : Int) then (if 0 ≤ (wrap64 (x12_2 + 1)) then ((cr47_Turn.f ((rd_T37 l1 x12_2).f0) ((rd_T37 l1 x12_2).f1) ((rd_T37 l1 x12_2).f2) ((rd_T37 l1 x12_2).f3) ((rd_T37 l1 (wrap64 (x12_2 + 1))).f0) ((rd_T37 l1 (wrap64 (x12_2 + 1))).f1) ((rd_T37 l1 (wrap64 (x12_2 + 1))).f2) ((rd_T37 l1 (wrap64 (x12_2 + 1))).f3)).bind fun t283=>(cr47_Return.j3 kj16 l1 l2 x10_2 x11_2 x12_2 t283)) else (none)) else (none)) else (none)) else (cr47_Return.j3 kj16 l1 l2 x10_2 x11_2 x12_2 false)) = some (r1, r2, r3):=by rw [if_pos rfl] at H;exact H
            clear H
            have H:=H1
            clear H1
            have HC20:=Aside0.mk H
            clear H
            go_upto_region 11 with (fail)
            go_cut [59] (fun v59 wc=>∃ (kq : Nat) (x59_19 : Bool), v59 = .bool x59_19 ∧ Aside0 (cr47_Return.j3 kq l1 l2 x10_2 x11_2 x12_2 x59_19 = some (r1, r2, r3)) ∧ Aside0 (kq ≤ kj16) ∧ Aside0 (Kd.R (Kd.int .i64) 3 wc w.heap.size (fun _=>True) u10 x10_2) ∧ Aside0 (Below w.heap.size w wc))
            case first =>
             have H:=HC20.out
             clear HC20
             by_cases c21 : (wrap64 (x12_2 + 1)) < (l1.length : Int)
             ·rw [if_pos c21] at H
              have c21b0 : decide ((wrap64 (x12_2 + 1)) < (l1.length : Int)) = true:=decide_eq_true c21
              clear c21
              (first | rw [c21b0] | (simp only [i64_w, i32_w];rw [c21b0]) | skip)
              by_cases c22 : 0 ≤ x12_2
              ·rw [if_pos c22] at H
               have c22b0 : decide (0 ≤ x12_2) = true:=decide_eq_true c22
               clear c22
               by_cases c23 : x12_2 < (l1.length : Int)
               ·rw [if_pos c23] at H
                have c23b0 : decide (x12_2 < (l1.length : Int)) = true:=decide_eq_true c23
                clear c23
                obtain ⟨ji24, hji24⟩ : ∃ j_ : Int, (wrap64 (x12_2 + 1)) = j_:=⟨_, rfl⟩
                replace H : (if 0 ≤ (ji24) then ((cr47_Turn.f ((rd_T37 l1 x12_2).f0) ((rd_T37 l1 x12_2).f1) ((rd_T37 l1 x12_2).f2) ((rd_T37 l1 x12_2).f3) ((rd_T37 l1 (ji24)).f0) ((rd_T37 l1 (ji24)).f1) ((rd_T37 l1 (ji24)).f2) ((rd_T37 l1 (ji24)).f3)).bind fun t283=>(cr47_Return.j3 kj16 l1 l2 x10_2 x11_2 x12_2 t283)) else (none)) = some (r1, r2, r3):=by first | (rw [hji24] at H;exact H) | (simp only [hji24] at H ⊢;exact H)
                (try rw [hji24] at c21b0)
                have hji24w : (IntKind.i64.wrap (x12_2 + 1)) = ji24:=(i64_w _).trans hji24
                by_cases c25 : 0 ≤ (ji24)
                ·rw [if_pos c25] at H
                 have c25b0 : decide (0 ≤ (ji24)) = true:=decide_eq_true c25
                 clear c25
                 replace H:=Option.bind_eq_some_iff.mp H
                 obtain ⟨t283, A260, H⟩:=H
                 replace H : (cr47_Return.j3 kj16 l1 l2 x10_2 x11_2 x12_2 t283) = some (r1, r2, r3):=H
                 have A26:=Aside0.mk A260
                 clear A260
                 have H':=Aside0.mk H
                 clear H
                 try go_wp2
                 have n0_:=Aside0.mk (Kd.R_drew HO_10.out)
                 have n1_:=Aside0.mk (below_drew1 HB.out)
                 clear HO_10
                 clear HB
                 have HO_10:=n0_
                 have HB:=n1_
                 clear n0_ n1_
                 have p281 : 0 ≤ (x12_2 : Int):=of_decide_eq_true (by first | (with_reducible assumption) | assumption)
                 have q281 : x12_2 < (l1.length : Int):=of_decide_eq_true (by first | (with_reducible assumption) | assumption)
                 obtain ⟨ad281, e281, hx281_0, hx281_1, hx281_2, hx281_3⟩:=at_T37 HR1.out x12_2 p281 q281
                 have hw281_3:=hx281_3
                 have hw281_2:=hx281_2
                 have hw281_1:=hx281_1
                 have hw281_0:=hx281_0
                 cases e281
                 replace hx281_0:=(HB.out.cell (World.block_lt_of_cell? w _ hx281_0)).trans hx281_0
                 replace hx281_1:=(HB.out.cell (World.block_lt_of_cell? w _ hx281_1)).trans hx281_1
                 replace hx281_2:=(HB.out.cell (World.block_lt_of_cell? w _ hx281_2)).trans hx281_2
                 replace hx281_3:=(HB.out.cell (World.block_lt_of_cell? w _ hx281_3)).trans hx281_3
                 replace p281:=eq_true p281
                 replace q281:=eq_true q281
                 have p282 : 0 ≤ ((ji24) : Int):=of_decide_eq_true (by first | (with_reducible assumption) | assumption)
                 have q282 : (ji24) < (l1.length : Int):=of_decide_eq_true (by first | (with_reducible assumption) | assumption)
                 obtain ⟨ad282, e282, hx282_0, hx282_1, hx282_2, hx282_3⟩:=at_T37 HR1.out (ji24) p282 q282
                 have hw282_3:=hx282_3
                 have hw282_2:=hx282_2
                 have hw282_1:=hx282_1
                 have hw282_0:=hx282_0
                 obtain rfl : ad281 = ad282:=(by injection e282)
                 replace hx282_0:=(HB.out.cell (World.block_lt_of_cell? w _ hx282_0)).trans hx282_0
                 replace hx282_1:=(HB.out.cell (World.block_lt_of_cell? w _ hx282_1)).trans hx282_1
                 replace hx282_2:=(HB.out.cell (World.block_lt_of_cell? w _ hx282_2)).trans hx282_2
                 replace hx282_3:=(HB.out.cell (World.block_lt_of_cell? w _ hx282_3)).trans hx282_3
                 replace p282:=eq_true p282
                 replace q282:=eq_true q282
                 refine start_ (n:=17) (S:=fun w'=>w'.cell? (ad281.add ((x12_2).toNat * 4)) = some (.int .i64 ((rd_T37 l1 x12_2).f0)) ∧ w'.cell? ⟨(ad281.add ((x12_2).toNat * 4)).block, (ad281.add ((x12_2).toNat * 4)).off + 1, none⟩ = some (.int .i64 ((rd_T37 l1 x12_2).f1)) ∧ w'.cell? ⟨(ad281.add ((x12_2).toNat * 4)).block, (ad281.add ((x12_2).toNat * 4)).off + 2, none⟩ = some (.string ((rd_T37 l1 x12_2).f2)) ∧ w'.cell? ⟨(ad281.add ((x12_2).toNat * 4)).block, (ad281.add ((x12_2).toNat * 4)).off + 3, none⟩ = some (.int .i64 ((rd_T37 l1 x12_2).f3)) ∧ w'.cell? (ad281.add (((ji24)).toNat * 4)) = some (.int .i64 ((rd_T37 l1 (ji24)).f0)) ∧ w'.cell? ⟨(ad281.add (((ji24)).toNat * 4)).block, (ad281.add (((ji24)).toNat * 4)).off + 1, none⟩ = some (.int .i64 ((rd_T37 l1 (ji24)).f1)) ∧ w'.cell? ⟨(ad281.add (((ji24)).toNat * 4)).block, (ad281.add (((ji24)).toNat * 4)).off + 2, none⟩ = some (.string ((rd_T37 l1 (ji24)).f2)) ∧ w'.cell? ⟨(ad281.add (((ji24)).toNat * 4)).block, (ad281.add (((ji24)).toNat * 4)).off + 3, none⟩ = some (.int .i64 ((rd_T37 l1 (ji24)).f3))) (ds:=[]) #[false, false, false, false, false, false, false, false, false, false, false, false, false, false, false, false, false] (by kernel_rfl) rfl rfl ⟨((HB.out.cell (World.block_lt_of_cell? w _ hw281_0)).trans hw281_0), ((HB.out.cell (World.block_lt_of_cell? w _ hw281_1)).trans hw281_1), ((HB.out.cell (World.block_lt_of_cell? w _ hw281_2)).trans hw281_2), ((HB.out.cell (World.block_lt_of_cell? w _ hw281_3)).trans hw281_3), ((HB.out.cell (World.block_lt_of_cell? w _ hw282_0)).trans hw282_0), ((HB.out.cell (World.block_lt_of_cell? w _ hw282_1)).trans hw282_1), ((HB.out.cell (World.block_lt_of_cell? w _ hw282_2)).trans hw282_2), ((HB.out.cell (World.block_lt_of_cell? w _ hw282_3)).trans hw282_3)⟩ (fun hHeld=>?_);refine with_tabW cr47_Return.tab11 cr47_Return.bits11 (fun HT_ HW_=>?_)
                 generalize wc.drew = w27 at HO_10 HB hx281_0 hx281_1 hx281_2 hx281_3 hx282_0 hx282_1 hx282_2 hx282_3 hHeld ⊢
                 refine pure_ (i:=0) (N:=some 43) (v:=?_) (a':=?_) #[true, false, false, false, false, false, false, false, false, false, false, false, false, false, false, false, false] rfl rfl (any_of HT_.out (by kernel_rfl)) (fun _ _ _ h=>h) (Or.inl ⟨by rfl, ?_⟩) ?_ ?_
                 rotate_left
                 ·intro w'
                  go_simp
                  with_reducible rfl
                 rotate_left
                 ·simp only [Act.put, List.setIfInBounds_toArray, List.set_cons_zero, List.set_cons_succ, i64_w, i32_w]
                  rfl
                 refine pure_ (i:=1) (N:=some 44) (v:=?_) (a':=?_) #[true, true, false, false, false, false, false, false, false, false, false, false, false, false, false, false, false] rfl rfl (any_of HT_.out (by kernel_rfl)) (fun _ _ _ h=>h) (Or.inl ⟨by rfl, ?_⟩) ?_ ?_
                 rotate_left
                 ·intro w'
                  go_simp
                  with_reducible rfl
                 rotate_left
                 ·simp only [Act.put, List.setIfInBounds_toArray, List.set_cons_zero, List.set_cons_succ, i64_w, i32_w]
                  rfl
                 refine pure_ (i:=2) (N:=some 45) (v:=?_) (a':=?_) #[true, true, true, false, false, false, false, false, false, false, false, false, false, false, false, false, false] rfl rfl (any_of HT_.out (by kernel_rfl)) (fun _ _ _ h=>h) (Or.inl ⟨by rfl, ?_⟩) ?_ ?_
                 rotate_left
                 ·intro w'
                  go_simp
                  with_reducible rfl
                 rotate_left
                 ·simp only [Act.put, List.setIfInBounds_toArray, List.set_cons_zero, List.set_cons_succ, i64_w, i32_w]
                  rfl
                 refine pure_ (i:=3) (N:=some 46) (v:=?_) (a':=?_) #[true, true, true, true, false, false, false, false, false, false, false, false, false, false, false, false, false] rfl rfl (any_of HT_.out (by kernel_rfl)) (fun _ _ _ h=>h) (Or.inl ⟨by rfl, ?_⟩) ?_ ?_
                 rotate_left
                 ·intro w'
                  go_simp
                  with_reducible rfl
                 rotate_left
                 ·simp only [Act.put, List.setIfInBounds_toArray, List.set_cons_zero, List.set_cons_succ, i64_w, i32_w]
                  rfl
                 refine pure_ (i:=4) (N:=some 47) (v:=?_) (a':=?_) #[true, true, true, true, true, false, false, false, false, false, false, false, false, false, false, false, false] rfl rfl (any_of HT_.out (by kernel_rfl)) (fun _ _ _ h=>h) (Or.inl ⟨by rfl, ?_⟩) ?_ ?_
                 rotate_left
                 ·intro w'
                  go_simp
                  with_reducible rfl
                 rotate_left
                 ·simp only [Act.put, List.setIfInBounds_toArray, List.set_cons_zero, List.set_cons_succ, i64_w, i32_w]
                  rfl
                 refine pure_ (i:=5) (N:=some 48) (v:=?_) (a':=?_) #[true, true, true, true, true, true, false, false, false, false, false, false, false, false, false, false, false] rfl rfl (any_of HT_.out (by kernel_rfl)) (fun _ _ _ h=>h) (Or.inl ⟨by rfl, ?_⟩) ?_ ?_
                 rotate_left
                 ·intro w'
                  go_simp
                  with_reducible rfl
                 rotate_left
                 ·simp only [Act.put, List.setIfInBounds_toArray, List.set_cons_zero, List.set_cons_succ, i64_w, i32_w]
                  rfl
                 refine pure_ (i:=6) (N:=some 49) (v:=?_) (a':=?_) #[true, true, true, true, true, true, true, false, false, false, false, false, false, false, false, false, false] rfl rfl (any_of HT_.out (by kernel_rfl)) (fun _ _ _ h=>h) (Or.inl ⟨by rfl, ?_⟩) ?_ ?_
                 rotate_left
                 ·intro w'
                  go_simp
                  with_reducible rfl
                 rotate_left
                 ·simp only [Act.put, List.setIfInBounds_toArray, List.set_cons_zero, List.set_cons_succ, i64_w, i32_w]
                  rfl
                 refine pure_ (i:=7) (N:=some 50) (v:=?_) (a':=?_) #[true, true, true, true, true, true, true, true, false, false, false, false, false, false, false, false, false] rfl rfl (any_of HT_.out (by kernel_rfl)) (fun _ _ _ h=>h) (Or.inl ⟨by rfl, ?_⟩) ?_ ?_
                 rotate_left
                 ·intro w'
                  go_simp
                  with_reducible rfl
                 rotate_left
                 ·simp only [Act.put, List.setIfInBounds_toArray, List.set_cons_zero, List.set_cons_succ, i64_w, i32_w]
                  rfl
                 refine pure_ (i:=8) (N:=some 51) (v:=?_) (a':=?_) #[true, true, true, true, true, true, true, true, true, false, false, false, false, false, false, false, false] rfl rfl (any_of HT_.out (by kernel_rfl)) (fun _ _ _ h=>h) (Or.inl ⟨by rfl, ?_⟩) ?_ ?_
                 rotate_left
                 ·intro w'
                  go_simp
                  with_reducible rfl
                 rotate_left
                 ·simp only [Act.put, List.setIfInBounds_toArray, List.set_cons_zero, List.set_cons_succ, i64_w, i32_w]
                  rfl
                 refine pure_ (i:=10) (N:=some 53) (v:=?_) (a':=?_) #[true, true, true, true, true, true, true, true, true, false, true, false, false, false, false, false, false] rfl rfl (any_of HT_.out (by kernel_rfl)) (fun _ _ _ h=>h) (Or.inl ⟨by rfl, ?_⟩) ?_ ?_
                 rotate_left
                 ·intro w'
                  go_simp
                  with_reducible rfl
                 rotate_left
                 ·simp only [Act.put, List.setIfInBounds_toArray, List.set_cons_zero, List.set_cons_succ, i64_w, i32_w]
                  rfl
                 refine pure_ (i:=11) (N:=some 54) (v:=?_) (a':=?_) #[true, true, true, true, true, true, true, true, true, false, true, true, false, false, false, false, false] rfl rfl (any_of HT_.out (by kernel_rfl)) (fun _ _ _ h=>h) (Or.inl ⟨by rfl, ?_⟩) ?_ ?_
                 rotate_left
                 ·intro w'
                  go_simp
                  with_reducible rfl
                 rotate_left
                 ·simp only [Act.put, List.setIfInBounds_toArray, List.set_cons_zero, List.set_cons_succ, i64_w, i32_w]
                  rfl
                 refine pure_ (i:=12) (N:=some 55) (v:=?_) (a':=?_) #[true, true, true, true, true, true, true, true, true, false, true, true, true, false, false, false, false] rfl rfl (any_of HT_.out (by kernel_rfl)) (fun _ _ _ h=>h) (Or.inl ⟨by rfl, ?_⟩) ?_ ?_
                 rotate_left
                 ·intro w'
                  go_simp
                  with_reducible rfl
                 rotate_left
                 ·simp only [Act.put, List.setIfInBounds_toArray, List.set_cons_zero, List.set_cons_succ, i64_w, i32_w]
                  rfl
                 refine pure_ (i:=13) (N:=some 56) (v:=?_) (a':=?_) #[true, true, true, true, true, true, true, true, true, false, true, true, true, true, false, false, false] rfl rfl (any_of HT_.out (by kernel_rfl)) (fun _ _ _ h=>h) (Or.inl ⟨by rfl, ?_⟩) ?_ ?_
                 rotate_left
                 ·intro w'
                  go_simp
                  with_reducible rfl
                 rotate_left
                 ·simp only [Act.put, List.setIfInBounds_toArray, List.set_cons_zero, List.set_cons_succ, i64_w, i32_w]
                  rfl
                 refine take_ (i:=9) (N:=some 52) (v:=?_) (a':=?_) #[true, true, true, true, true, true, true, true, true, true, true, true, true, true, false, false, false] rfl rfl (take_ofW HT_.out HW_.out (by kernel_rfl)) (fun _ _ _ h=>h) (Or.inl ⟨by rfl, ?_⟩) hHeld ?_ ?_
                 rotate_left
                 ·rintro w' ⟨s0, s1, s2, s3, s4, s5, s6, s7⟩
                  go_simp
                  with_reducible rfl
                 rotate_left
                 ·simp only [Act.put, List.setIfInBounds_toArray, List.set_cons_zero, List.set_cons_succ, i64_w, i32_w]
                  rfl
                 refine take_ (i:=14) (N:=some 57) (v:=?_) (a':=?_) #[true, true, true, true, true, true, true, true, true, true, true, true, true, true, true, false, false] rfl rfl (take_ofW HT_.out HW_.out (by kernel_rfl)) (fun _ _ _ h=>h) (Or.inl ⟨by rfl, ?_⟩) hHeld ?_ ?_
                 rotate_left
                 ·rintro w' ⟨s0, s1, s2, s3, s4, s5, s6, s7⟩
                  go_simp
                  with_reducible rfl
                 rotate_left
                 ·simp only [Act.put, List.setIfInBounds_toArray, List.set_cons_zero, List.set_cons_succ, i64_w, i32_w]
                  rfl
                 refine one_ (i:=15) (N:=some 58) #[true, true, true, true, true, true, true, true, true, true, true, true, true, true, true, true, false] rfl rfl (one_of HT_.out (by kernel_rfl)) (by decide) (fun K hK=>?_)
                 refine goes_ Try.func17 (by kernel_rfl) rfl #[.agg #[.int .i64 ((rd_T37 l1 x12_2).f0), .int .i64 ((rd_T37 l1 x12_2).f1), .string ((rd_T37 l1 x12_2).f2), .int .i64 ((rd_T37 l1 x12_2).f3)], .agg #[.int .i64 ((rd_T37 l1 (ji24)).f0), .int .i64 ((rd_T37 l1 (ji24)).f1), .string ((rd_T37 l1 (ji24)).f2), .int .i64 ((rd_T37 l1 (ji24)).f3)]] (by rfl) rfl rfl (by (try simp only [List.map_toArray, List.map_cons, List.map_nil]);first | done | (simp only [hji24];rfl) | rfl | (simp only [List.length_drop, List.length_take];rfl)) ?_
                 with_reducible refine (cr47_Turn.calls ((rd_T37 l1 x12_2).f0) ((rd_T37 l1 x12_2).f1) ((rd_T37 l1 x12_2).f2) ((rd_T37 l1 x12_2).f3) ((rd_T37 l1 (ji24)).f0) ((rd_T37 l1 (ji24)).f1) ((rd_T37 l1 (ji24)).f2) ((rd_T37 l1 (ji24)).f3) t283 _ A26.out).mono ?_
                 rintro e w28 ⟨rfl, hb⟩
                 refine ⟨_, rfl, ?_⟩
                 have n0_:=Aside0.mk (Kd.R_below (by (with_reducible repeat (first | apply Kd.R_alloc | apply Kd.R_drewN | apply Kd.R_drew));exact HO_10.out) hb)
                 have n1_:=Aside0.mk (below_step (by repeat (first | (with_reducible first | exact HB.out | apply below_alloc | apply pw_below_drewN | apply below_drew1) | exact HB.out)) hb)
                 clear HO_10
                 clear HB
                 have HO_10:=n0_
                 have HB:=n1_
                 clear n0_ n1_
                 (try clear hb)
                 (try clear hb2)
                 (try clear hk)
                 (try clear hi)
                 refine hK.out _ _ ⟨((HB.out.cell (World.block_lt_of_cell? w _ hw281_0)).trans hw281_0), ((HB.out.cell (World.block_lt_of_cell? w _ hw281_1)).trans hw281_1), ((HB.out.cell (World.block_lt_of_cell? w _ hw281_2)).trans hw281_2), ((HB.out.cell (World.block_lt_of_cell? w _ hw281_3)).trans hw281_3), ((HB.out.cell (World.block_lt_of_cell? w _ hw282_0)).trans hw282_0), ((HB.out.cell (World.block_lt_of_cell? w _ hw282_1)).trans hw282_1), ((HB.out.cell (World.block_lt_of_cell? w _ hw282_2)).trans hw282_2), ((HB.out.cell (World.block_lt_of_cell? w _ hw282_3)).trans hw282_3)⟩ (fun hHeld=>?_)
                 clear hK K
                 refine norm_ (a':=?_) ?_ ?_
                 rotate_left
                 ·show Act.put _ (some 58) _ = _
                  simp only [Act.put, List.setIfInBounds_toArray, List.set_cons_zero, List.set_cons_succ, i64_w, i32_w]
                  rfl
                 refine pure_ (i:=16) (N:=some 59) (v:=?_) (a':=?_) #[true, true, true, true, true, true, true, true, true, true, true, true, true, true, true, true, true] rfl rfl (any_of HT_.out (by kernel_rfl)) (fun _ _ _ h=>h) (Or.inl ⟨by rfl, ?_⟩) ?_ ?_
                 rotate_left
                 ·intro w'
                  go_simp
                  with_reducible rfl
                 rotate_left
                 ·simp only [Act.put, List.setIfInBounds_toArray, List.set_cons_zero, List.set_cons_succ, i64_w, i32_w]
                  rfl
                 refine done_ (done_of HT_.out (by kernel_rfl)) ?_
                 try go_wp2
                 go_meet
                 case rel=>exact ⟨_, (t283), (by first | rfl | (simp;done) | (simp [*];done)), H', ⟨by have:=HJ5.out;have:=HK2.out;have:=HJ16.out;first | omega | exact Nat.le_refl _⟩, ⟨by (with_reducible repeat (first | apply Kd.R_alloc | apply Kd.R_drewN | apply Kd.R_drew));exact HO_10.out⟩, ⟨by repeat (first | (with_reducible first | exact HB.out | apply below_alloc | apply pw_below_drewN | apply below_drew1) | exact HB.out)⟩⟩
                ·rw [if_neg c25] at H
                 exact absurd H (by simp)
               ·rw [if_neg c23] at H
                exact absurd H (by simp)
              ·rw [if_neg c22] at H
               exact absurd H (by simp)
             ·rw [if_neg c21] at H
              have c21b0 : decide ((wrap64 (x12_2 + 1)) < (l1.length : Int)) = false:=decide_eq_false c21
              clear c21
              (first | rw [c21b0] | (simp only [i64_w, i32_w];rw [c21b0]) | skip)
              have H':=Aside0.mk H
              clear H
              try go_wp2
              have n0_:=Aside0.mk (Kd.R_drew HO_10.out)
              have n1_:=Aside0.mk (below_drew1 HB.out)
              clear HO_10
              clear HB
              have HO_10:=n0_
              have HB:=n1_
              clear n0_ n1_
              refine start_ (n:=17) (S:=fun w'=>True) (ds:=[]) #[false, false, false, false, false, false, false, false, false, false, false, false, false, false, false, false, false] (by kernel_rfl) rfl rfl trivial (fun hHeld=>?_);refine with_tabW cr47_Return.tab11 cr47_Return.bits11 (fun HT_ HW_=>?_)
              generalize wc.drew = w29 at HO_10 HB hHeld ⊢
              refine pure_ (i:=0) (N:=some 43) (v:=?_) (a':=?_) #[true, false, false, false, false, false, false, false, false, false, false, false, false, false, false, false, false] rfl rfl (any_of HT_.out (by kernel_rfl)) (fun _ _ _ h=>h) (Or.inl ⟨by rfl, ?_⟩) ?_ ?_
              rotate_left
              ·intro w'
               go_simp
               with_reducible rfl
              rotate_left
              ·simp only [Act.put, List.setIfInBounds_toArray, List.set_cons_zero, List.set_cons_succ, i64_w, i32_w]
               rfl
              refine pure_ (i:=1) (N:=some 44) (v:=?_) (a':=?_) #[true, true, false, false, false, false, false, false, false, false, false, false, false, false, false, false, false] rfl rfl (any_of HT_.out (by kernel_rfl)) (fun _ _ _ h=>h) (Or.inl ⟨by rfl, ?_⟩) ?_ ?_
              rotate_left
              ·intro w'
               go_simp
               with_reducible rfl
              rotate_left
              ·simp only [Act.put, List.setIfInBounds_toArray, List.set_cons_zero, List.set_cons_succ, i64_w, i32_w]
               rfl
              refine pure_ (i:=2) (N:=some 45) (v:=?_) (a':=?_) #[true, true, true, false, false, false, false, false, false, false, false, false, false, false, false, false, false] rfl rfl (any_of HT_.out (by kernel_rfl)) (fun _ _ _ h=>h) (Or.inl ⟨by rfl, ?_⟩) ?_ ?_
              rotate_left
              ·intro w'
               go_simp
               with_reducible rfl
              rotate_left
              ·simp only [Act.put, List.setIfInBounds_toArray, List.set_cons_zero, List.set_cons_succ, i64_w, i32_w]
               rfl
              refine pure_ (i:=3) (N:=some 46) (v:=?_) (a':=?_) #[true, true, true, true, false, false, false, false, false, false, false, false, false, false, false, false, false] rfl rfl (any_of HT_.out (by kernel_rfl)) (fun _ _ _ h=>h) (Or.inl ⟨by rfl, ?_⟩) ?_ ?_
              rotate_left
              ·intro w'
               go_simp
               with_reducible rfl
              rotate_left
              ·simp only [Act.put, List.setIfInBounds_toArray, List.set_cons_zero, List.set_cons_succ, i64_w, i32_w]
               rfl
              refine pure_ (i:=4) (N:=some 47) (v:=?_) (a':=?_) #[true, true, true, true, true, false, false, false, false, false, false, false, false, false, false, false, false] rfl rfl (any_of HT_.out (by kernel_rfl)) (fun _ _ _ h=>h) (Or.inl ⟨by rfl, ?_⟩) ?_ ?_
              rotate_left
              ·intro w'
               go_simp
               with_reducible rfl
              rotate_left
              ·simp only [Act.put, List.setIfInBounds_toArray, List.set_cons_zero, List.set_cons_succ, i64_w, i32_w]
               rfl
              refine pure_ (i:=5) (N:=some 48) (v:=?_) (a':=?_) #[true, true, true, true, true, true, false, false, false, false, false, false, false, false, false, false, false] rfl rfl (any_of HT_.out (by kernel_rfl)) (fun _ _ _ h=>h) (Or.inl ⟨by rfl, ?_⟩) ?_ ?_
              rotate_left
              ·intro w'
               go_simp
               with_reducible rfl
              rotate_left
              ·simp only [Act.put, List.setIfInBounds_toArray, List.set_cons_zero, List.set_cons_succ, i64_w, i32_w]
               rfl
              refine pure_ (i:=6) (N:=some 49) (v:=undef) (a':=?_) #[true, true, true, true, true, true, true, false, false, false, false, false, false, false, false, false, false] rfl rfl (any_of HT_.out (by kernel_rfl)) (fun _ _ _ h=>h) (Or.inr ⟨by rfl, rfl⟩) ?_ ?_
              rotate_left
              ·simp only [Act.put, List.setIfInBounds_toArray, List.set_cons_zero, List.set_cons_succ, i64_w, i32_w]
               rfl
              refine pure_ (i:=7) (N:=some 50) (v:=undef) (a':=?_) #[true, true, true, true, true, true, true, true, false, false, false, false, false, false, false, false, false] rfl rfl (any_of HT_.out (by kernel_rfl)) (fun _ _ _ h=>h) (Or.inr ⟨by rfl, rfl⟩) ?_ ?_
              rotate_left
              ·simp only [Act.put, List.setIfInBounds_toArray, List.set_cons_zero, List.set_cons_succ, i64_w, i32_w]
               rfl
              refine pure_ (i:=8) (N:=some 51) (v:=undef) (a':=?_) #[true, true, true, true, true, true, true, true, true, false, false, false, false, false, false, false, false] rfl rfl (any_of HT_.out (by kernel_rfl)) (fun _ _ _ h=>h) (Or.inr ⟨by rfl, rfl⟩) ?_ ?_
              rotate_left
              ·simp only [Act.put, List.setIfInBounds_toArray, List.set_cons_zero, List.set_cons_succ, i64_w, i32_w]
               rfl
              refine pure_ (i:=9) (N:=some 52) (v:=undef) (a':=?_) #[true, true, true, true, true, true, true, true, true, true, false, false, false, false, false, false, false] rfl rfl (any_of HT_.out (by kernel_rfl)) (fun _ _ _ h=>h) (Or.inr ⟨by rfl, rfl⟩) ?_ ?_
              rotate_left
              ·simp only [Act.put, List.setIfInBounds_toArray, List.set_cons_zero, List.set_cons_succ, i64_w, i32_w]
               rfl
              refine pure_ (i:=10) (N:=some 53) (v:=undef) (a':=?_) #[true, true, true, true, true, true, true, true, true, true, true, false, false, false, false, false, false] rfl rfl (any_of HT_.out (by kernel_rfl)) (fun _ _ _ h=>h) (Or.inr ⟨by rfl, rfl⟩) ?_ ?_
              rotate_left
              ·simp only [Act.put, List.setIfInBounds_toArray, List.set_cons_zero, List.set_cons_succ, i64_w, i32_w]
               rfl
              refine pure_ (i:=11) (N:=some 54) (v:=undef) (a':=?_) #[true, true, true, true, true, true, true, true, true, true, true, true, false, false, false, false, false] rfl rfl (any_of HT_.out (by kernel_rfl)) (fun _ _ _ h=>h) (Or.inr ⟨by rfl, rfl⟩) ?_ ?_
              rotate_left
              ·simp only [Act.put, List.setIfInBounds_toArray, List.set_cons_zero, List.set_cons_succ, i64_w, i32_w]
               rfl
              refine pure_ (i:=12) (N:=some 55) (v:=undef) (a':=?_) #[true, true, true, true, true, true, true, true, true, true, true, true, true, false, false, false, false] rfl rfl (any_of HT_.out (by kernel_rfl)) (fun _ _ _ h=>h) (Or.inr ⟨by rfl, rfl⟩) ?_ ?_
              rotate_left
              ·simp only [Act.put, List.setIfInBounds_toArray, List.set_cons_zero, List.set_cons_succ, i64_w, i32_w]
               rfl
              refine pure_ (i:=13) (N:=some 56) (v:=undef) (a':=?_) #[true, true, true, true, true, true, true, true, true, true, true, true, true, true, false, false, false] rfl rfl (any_of HT_.out (by kernel_rfl)) (fun _ _ _ h=>h) (Or.inr ⟨by rfl, rfl⟩) ?_ ?_
              rotate_left
              ·simp only [Act.put, List.setIfInBounds_toArray, List.set_cons_zero, List.set_cons_succ, i64_w, i32_w]
               rfl
              refine pure_ (i:=14) (N:=some 57) (v:=undef) (a':=?_) #[true, true, true, true, true, true, true, true, true, true, true, true, true, true, true, false, false] rfl rfl (any_of HT_.out (by kernel_rfl)) (fun _ _ _ h=>h) (Or.inr ⟨by rfl, rfl⟩) ?_ ?_
              rotate_left
              ·simp only [Act.put, List.setIfInBounds_toArray, List.set_cons_zero, List.set_cons_succ, i64_w, i32_w]
               rfl
              refine pure_ (i:=15) (N:=some 58) (v:=undef) (a':=?_) #[true, true, true, true, true, true, true, true, true, true, true, true, true, true, true, true, false] rfl rfl (any_of HT_.out (by kernel_rfl)) (fun _ _ _ h=>h) (Or.inr ⟨by rfl, rfl⟩) ?_ ?_
              rotate_left
              ·simp only [Act.put, List.setIfInBounds_toArray, List.set_cons_zero, List.set_cons_succ, i64_w, i32_w]
               rfl
              refine pure_ (i:=16) (N:=some 59) (v:=?_) (a':=?_) #[true, true, true, true, true, true, true, true, true, true, true, true, true, true, true, true, true] rfl rfl (any_of HT_.out (by kernel_rfl)) (fun _ _ _ h=>h) (Or.inl ⟨by rfl, ?_⟩) ?_ ?_
              rotate_left
              ·intro w'
               go_simp
               with_reducible rfl
              rotate_left
              ·simp only [Act.put, List.setIfInBounds_toArray, List.set_cons_zero, List.set_cons_succ, i64_w, i32_w]
               rfl
              refine done_ (done_of HT_.out (by kernel_rfl)) ?_
              try go_wp2
              go_meet
              case rel=>exact ⟨_, (false), (by first | rfl | (simp;done) | (simp [*];done)), H', ⟨by have:=HJ5.out;have:=HK2.out;have:=HJ16.out;first | omega | exact Nat.le_refl _⟩, ⟨by (with_reducible repeat (first | apply Kd.R_alloc | apply Kd.R_drewN | apply Kd.R_drew));exact HO_10.out⟩, ⟨by repeat (first | (with_reducible first | exact HB.out | apply below_alloc | apply pw_below_drewN | apply below_drew1) | exact HB.out)⟩⟩
            case rest =>
             clear HC20
             try clear c1
             try clear c2
             try clear p2
             try clear q2
             try clear hx2
             try clear c3
             try clear c5
             try clear c5b0
             try clear c5b1
             try clear p6
             try clear c9
             try clear c12
             try clear c13
             try clear c13b0
             try clear c13b1
             try clear c14
             try clear c14b0
             try clear c14b1
             try clear c15
             try clear c17
             try clear c18
             try clear c18b0
             try clear c19
             try clear c21
             try clear c21b0
             try clear c22
             try clear c22b0
             try clear c23
             try clear c23b0
             try clear c25
             try clear c25b0
             try clear p28
             try clear q28
             try clear hx28
             try clear hx281_0
             try clear hx281_1
             try clear hx281_2
             try clear hx281_3
             try clear hx282_0
             try clear hx282_1
             try clear hx282_2
             try clear hx282_3
             try clear p2
             try clear p281
             try clear p282
             try clear p6
             try clear q281
             try clear q282
             obtain ⟨kq, x59_19, rfl, HA, HJ19, HO_10, HB⟩:=hcut
             cases kq with
             | zero=>exact absurd HA.out (by simp [cr47_Return.j3])
             | succ kj19 =>
              have H:=HA.out
              clear HA
              simp only [cr47_Return.j3] at H
              by_cases c30 : x59_19 = true
              ·subst c30
               have H1 : (cr47_Return.l0 kj19 l1 l2 x10_2 x11_2 (wrap64 (x12_2 - 1))) = some (r1, r2, r3):=by rw [if_pos rfl] at H;exact H
               clear H
               have H:=H1
               clear H1
               have H':=Aside0.mk H
               clear H
               go_wp2
               go_roundg kj19
               case measure=>have:=HJ5.out;have:=HK2.out;have:=HJ16.out;have:=HJ19.out;omega
               case rel=>exact ⟨(x10_2), (x11_2), (wrap64 (x12_2 - 1)), (by first | rfl | (simp;done) | (simp [*];done)), (by first | rfl | (simp;done) | (simp [*];done)), H', ⟨by have:=HJ5.out;have:=HK2.out;have:=HJ16.out;have:=HJ19.out;omega⟩, ⟨by (with_reducible repeat (first | apply Kd.R_alloc | apply Kd.R_drewN | apply Kd.R_drew));exact HO_10.out⟩, ⟨by repeat (first | (with_reducible first | exact HB.out | apply below_alloc | apply pw_below_drewN | apply below_drew1) | exact HB.out)⟩⟩
              ·replace c30:=Bool.eq_false_iff.mpr c30
               subst c30
               have H1 : ((cr47_part.f kj19 l1 l2 x12_2).bind fun t284=>((cr47_take.f kj19 x11_2 t284).bind fun t287=>((cr47_plus.f kj19 x10_2 t287).bind fun t290=>((cr02_Sum.f kj19 t287).bind fun t293=>(cr47_Return.l0 kj19 l1 l2 t290 (wrap64 (x11_2 - t293)) (wrap64 (x12_2 - 1))))))) = some (r1, r2, r3):=by rw [if_neg (show ¬ (false = true) by decide)] at H;exact H
               clear H
               have H:=H1
               clear H1
               replace H:=Option.bind_eq_some_iff.mp H
               obtain ⟨t284, A310, H⟩:=H
               replace H : ((cr47_take.f kj19 x11_2 t284).bind fun t287=>((cr47_plus.f kj19 x10_2 t287).bind fun t290=>((cr02_Sum.f kj19 t287).bind fun t293=>(cr47_Return.l0 kj19 l1 l2 t290 (wrap64 (x11_2 - t293)) (wrap64 (x12_2 - 1)))))) = some (r1, r2, r3):=H
               have A31:=Aside0.mk A310
               clear A310
               replace H:=Option.bind_eq_some_iff.mp H
               obtain ⟨t287, A320, H⟩:=H
               replace H : ((cr47_plus.f kj19 x10_2 t287).bind fun t290=>((cr02_Sum.f kj19 t287).bind fun t293=>(cr47_Return.l0 kj19 l1 l2 t290 (wrap64 (x11_2 - t293)) (wrap64 (x12_2 - 1))))) = some (r1, r2, r3):=H
               have A32:=Aside0.mk A320
               clear A320
               replace H:=Option.bind_eq_some_iff.mp H
               obtain ⟨t290, A330, H⟩:=H
               replace H : ((cr02_Sum.f kj19 t287).bind fun t293=>(cr47_Return.l0 kj19 l1 l2 t290 (wrap64 (x11_2 - t293)) (wrap64 (x12_2 - 1)))) = some (r1, r2, r3):=H
               have A33:=Aside0.mk A330
               clear A330
               replace H:=Option.bind_eq_some_iff.mp H
               obtain ⟨t293, A340, H⟩:=H
               replace H : (cr47_Return.l0 kj19 l1 l2 t290 (wrap64 (x11_2 - t293)) (wrap64 (x12_2 - 1))) = some (r1, r2, r3):=H
               have A34:=Aside0.mk A340
               clear A340
               have H':=Aside0.mk H
               clear H
               go_wp2_with (first | ((with_reducible refine gate_callee (f:=35) rfl ?_);refine goesL_ (some 64) rfl rfl Try.func35 (by kernel_rfl) rfl #[.slice A1 l1.length c1, .slice A2 l2.length c2, .int .i64 x12_2] rfl (by (try simp only [List.map_toArray, List.map_cons, List.map_nil]);first | done | rfl | (simp only [List.length_drop, List.length_take];rfl)) ?_;(with_reducible refine (cr47_part.calls kj19 _ _ l1 _ _ l2 x12_2 t284 _ ?side1 ?side2 ?side3 ?side4 A31.out).mono ?_);(case side1=>repeat (first | exact (Kd.C_below HR1.out HB.out) | (with_reducible refine Kd.C_alloc ?_ _) | (with_reducible refine Kd.C_drewN ?_ _) | (with_reducible refine Kd.C_drew ?_)));(case side2=>exact HC1.out);(case side3=>repeat (first | exact (Kd.C_below HR2.out HB.out) | (with_reducible refine Kd.C_alloc ?_ _) | (with_reducible refine Kd.C_drewN ?_ _) | (with_reducible refine Kd.C_drew ?_)));(case side4=>exact HC2.out);rintro e w35 ⟨v285, rfl, ho0, hb⟩;refine ⟨_, rfl, ?_⟩;have n0_:=Aside0.mk (Kd.R_elder' (by (with_reducible repeat (first | apply Kd.R_alloc | apply Kd.R_drewN | apply Kd.R_drew));exact HO_10.out) (Kd.R_base ho0) hb);have n1_:=Aside0.mk (Kd.R_lower (Kd.R_new' ho0 (Kd.R_lt (by (with_reducible repeat (first | apply Kd.R_alloc | apply Kd.R_drewN | apply Kd.R_drew));exact HO_10.out))) (below_size (by repeat (first | (with_reducible first | exact HB.out | apply below_alloc | apply pw_below_drewN | apply below_drew1) | exact HB.out))));have n2_:=Aside0.mk (below_step (by repeat (first | (with_reducible first | exact HB.out | apply below_alloc | apply pw_below_drewN | apply below_drew1) | exact HB.out)) hb);clear HO_10 HB;have HO_10:=n0_;have HO286:=n1_;have HB:=n2_;clear n0_ n1_ n2_;(try clear hb);(try clear hb2);(try clear hk);(try clear hi);(try clear ho0);obtain ⟨Ao36, co36, eo36⟩:=Kd.R_slice HO286.out;subst eo36) | ((with_reducible refine gate_callee (f:=34) rfl ?_);refine goesL_ (some 65) rfl rfl Try.func34 (by kernel_rfl) rfl #[.int .i64 x11_2, .slice Ao36 t284.length co36] rfl (by (try simp only [List.map_toArray, List.map_cons, List.map_nil]);first | done | rfl | (simp only [List.length_drop, List.length_take];rfl)) ?_;(with_reducible refine (cr47_take.calls kj19 x11_2 (fun k_=>some k_ = (.slice Ao36 t284.length co36 : Value).ownBlock) (.slice Ao36 t284.length co36) t284 t287 w _ ?side1 ?side2 A32.out).mono ?_);(case side1=>repeat (first | (with_reducible first | exact HB.out | apply below_alloc | apply pw_below_drewN | apply below_drew1) | exact HB.out));(case side2=>exact Kd.R_tight rfl HO286.out);rintro e w37 ⟨v288, rfl, ho0, hb, hkp⟩;refine ⟨_, rfl, ?_⟩;have n0_:=Aside0.mk (Kd.R_mono (ok':=fun k_=>some k_ ≠ (v288 : Value).ownBlock) (Kd.R_keptB (HO_10.out) hkp (fun k_ hk_ hs_=>(hk_.2) hs_)) (fun k_ hk_=>fun e_=>Or.elim (ho0.1 k_ e_.symm) (fun hs_=>hk_.2.1 hs_) (fun hn_=>Nat.not_le.2 hk_.2.2 hn_)));have n1_:=Aside0.mk (Kd.R_mono (ok':=fun k_=>some k_ ≠ (u10 : Value).ownBlock) ho0 (fun k_ hk_=>Or.elim hk_ (fun hs_=>fun e_=>(((HO_10.out).1 k_ e_.symm).2) hs_) (fun hn_=>(Kd.fresh' (Kd.R_lt (by (with_reducible repeat (first | apply Kd.R_alloc | apply Kd.R_drewN | apply Kd.R_drew));exact HO_10.out)) k_ hn_))));have n2_:=Aside0.mk (hb);clear HO_10 HB HO286;have HO_10:=n0_;have HO289:=n1_;have HB:=n2_;clear n0_ n1_ n2_;(try clear hb);(try clear hkp);(try clear ho0);obtain ⟨Ao38, co38, eo38⟩:=Kd.R_slice HO_10.out;subst eo38;obtain ⟨Ao39, co39, eo39⟩:=Kd.R_slice HO289.out;subst eo39) | ((with_reducible refine gate_callee (f:=37) rfl ?_);refine goesL_ (some 68) rfl rfl Try.func37 (by kernel_rfl) rfl #[.slice Ao38 x10_2.length co38, .slice Ao39 t287.length co39] rfl (by (try simp only [List.map_toArray, List.map_cons, List.map_nil]);first | done | rfl | (simp only [List.length_drop, List.length_take];rfl)) ?_;(with_reducible refine (cr47_plus.calls kj19 _ _ x10_2 _ _ t287 t290 _ ?side1 ?side2 ?side3 ?side4 A33.out).mono ?_);(case side1=>repeat (first | exact (Kd.R_reads' HO_10.out).2.2 | (with_reducible refine Kd.C_alloc ?_ _) | (with_reducible refine Kd.C_drewN ?_ _) | (with_reducible refine Kd.C_drew ?_)));(case side2=>exact (Kd.R_reads' HO_10.out).2.1);(case side3=>repeat (first | exact (Kd.R_reads' HO289.out).2.2 | (with_reducible refine Kd.C_alloc ?_ _) | (with_reducible refine Kd.C_drewN ?_ _) | (with_reducible refine Kd.C_drew ?_)));(case side4=>exact (Kd.R_reads' HO289.out).2.1);rintro e w40 ⟨v291, rfl, ho0, hb⟩;refine ⟨_, rfl, ?_⟩;have n0_:=Aside0.mk (Kd.R_elder' (by (with_reducible repeat (first | apply Kd.R_alloc | apply Kd.R_drewN | apply Kd.R_drew));exact HO_10.out) (Kd.R_base ho0) hb);have n1_:=Aside0.mk (Kd.R_elder' (by (with_reducible repeat (first | apply Kd.R_alloc | apply Kd.R_drewN | apply Kd.R_drew));exact HO289.out) (Kd.R_base ho0) hb);have n2_:=Aside0.mk (Kd.R_lower (Kd.R_new' (Kd.R_new' ho0 (Kd.R_lt (by (with_reducible repeat (first | apply Kd.R_alloc | apply Kd.R_drewN | apply Kd.R_drew));exact HO_10.out))) (Kd.R_lt (by (with_reducible repeat (first | apply Kd.R_alloc | apply Kd.R_drewN | apply Kd.R_drew));exact HO289.out))) (below_size (by repeat (first | (with_reducible first | exact HB.out | apply below_alloc | apply pw_below_drewN | apply below_drew1) | exact HB.out))));have n3_:=Aside0.mk (below_step (by repeat (first | (with_reducible first | exact HB.out | apply below_alloc | apply pw_below_drewN | apply below_drew1) | exact HB.out)) hb);clear HO_10 HO289 HB;have HO_10:=n0_;have HO289:=n1_;have HO292:=n2_;have HB:=n3_;clear n0_ n1_ n2_ n3_;(try clear hb);(try clear hb2);(try clear hk);(try clear hi);(try clear ho0)) | ((with_reducible refine gate_callee (f:=21) rfl ?_);refine goesL_ (some 71) rfl rfl Try.func21 (by kernel_rfl) rfl #[.slice Ao39 t287.length co39] rfl (by (try simp only [List.map_toArray, List.map_cons, List.map_nil]);first | done | rfl | (simp only [List.length_drop, List.length_take];rfl)) ?_;(with_reducible refine (cr02_Sum.calls kj19 _ _ t287 t293 _ ?side1 ?side2 A34.out).mono ?_);(case side1=>repeat (first | exact (Kd.R_reads' HO289.out).2.2 | (with_reducible refine Kd.C_alloc ?_ _) | (with_reducible refine Kd.C_drewN ?_ _) | (with_reducible refine Kd.C_drew ?_)));(case side2=>exact (Kd.R_reads' HO289.out).2.1);rintro e w' ⟨rfl, ⟨nd, rfl⟩⟩;refine ⟨_, rfl, ?_⟩))
               go_roundg kj19
               case measure=>have:=HJ5.out;have:=HK2.out;have:=HJ16.out;have:=HJ19.out;omega
               case rel=>exact ⟨(t290), (wrap64 (x11_2 - t293)), (wrap64 (x12_2 - 1)), (by first | rfl | (simp;done) | (simp [*];done)), (by first | rfl | (simp;done) | (simp [*];done)), H', ⟨by have:=HJ5.out;have:=HK2.out;have:=HJ16.out;have:=HJ19.out;omega⟩, ⟨by (with_reducible repeat (first | apply Kd.R_alloc | apply Kd.R_drewN | apply Kd.R_drew));exact Kd.R_mono HO292.out (fun _ hk=>trivial)⟩, ⟨by repeat (first | (with_reducible first | exact HB.out | apply below_alloc | apply pw_below_drewN | apply below_drew1) | exact HB.out)⟩⟩
           ·replace c19:=Bool.eq_false_iff.mpr c19
            subst c19
            have H1 : (some (x10_2, x11_2, 0)) = some (r1, r2, r3):=by rw [if_neg (show ¬ (false = true) by decide)] at H;exact H
            clear H
            have H:=H1
            clear H1
            simp only [Option.some.injEq, Prod.mk.injEq] at H
            obtain ⟨rfl, rfl, rfl⟩:=H
            go_wp2
            go_ret3
            exact ⟨_, by first | rfl | (simp [errW_none, errW_some] <;> rfl) | (simp [*, errW_none, errW_some] <;> rfl), by (with_reducible repeat (first | apply Kd.R_alloc | apply Kd.R_drewN | apply Kd.R_drew));exact HO_10.out, by repeat (first | (with_reducible first | exact HB.out | apply below_alloc | apply pw_below_drewN | apply below_drew1) | exact HB.out)⟩
      ·rw [if_neg c14] at H
       exact absurd H (by simp)
     ·rw [if_neg c13] at H
      exact absurd H (by simp)
 ·rw [if_neg c5] at H
  have c5b0 : (t275 == 0) = false:=beq_eq_false_iff_ne.mpr c5
  have c5b1 : (t275 != 0) = true:=bne_iff_ne.mpr c5
  simp only [Option.some.injEq, Prod.mk.injEq] at H
  obtain ⟨rfl, rfl, rfl⟩:=H
  go_enter Try.func22, Try.ntmps22
  go_wp2_with (first | ((with_reducible refine gate_callee (f:=15) rfl ?_);refine goesL_ (some 15) rfl rfl Try.func15 (by kernel_rfl) rfl #[.slice A1 l1.length c1] rfl (by (try simp only [List.map_toArray, List.map_cons, List.map_nil]);first | done | rfl | (simp only [List.length_drop, List.length_take];rfl)) ?_;(with_reducible refine (cr47_Check.calls k _ _ l1 t275 _ ?side1 ?side2 A4.out).mono ?_);(case side1=>repeat (first | exact HR1.out | (with_reducible refine Kd.C_alloc ?_ _) | (with_reducible refine Kd.C_drewN ?_ _) | (with_reducible refine Kd.C_drew ?_)));(case side2=>exact HC1.out);rintro e w41 ⟨rfl, hb⟩;refine ⟨_, rfl, ?_⟩;have n0_:=Aside0.mk (below_step (by repeat (first | (with_reducible first | exact HB.out | apply below_alloc | apply pw_below_drewN | apply below_drew1) | exact HB.out)) hb);clear HB;have HB:=n0_;clear n0_;(try clear hb);(try clear hb2);(try clear hk);(try clear hi)))
  go_ret3
  exact ⟨_, by first | rfl | (simp [errW_none, errW_some] <;> rfl) | (simp [*, errW_none, errW_some] <;> rfl), by first | exact Kd.R_nil _ _ _ _ _ | exact Kd.N_nil _ _ _ _ _ | exact Kd.V_nil _ _ _ _ _ | exact Kd.Q_nil _ _ _ _ _ | exact Kd.S_nil _ _ _ _ _, by repeat (first | (with_reducible first | exact HB.out | apply below_alloc | apply pw_below_drewN | apply below_drew1) | exact HB.out)⟩

end Go.Proofs.Ytfogpifjpnonnaa.PWaterfallReturns
