/- Laid for this claim by a program of this session's (wip/mkprint.py, wip/ext.py); not trusted: Lean checks it. -/
import Derived.Test.YtlkdilfheplmhaaPTopLossesx0
import Derived.Test.YtlkdilfheplmhaaPTopLossesx3
import Derived.Test.YtlkdilfheplmhaaPTopLossesx4
import Derived.Test.YtlkdilfheplmhaaPTopLossesx7
import Derived.Test.YtlkdilfheplmhaaPTopLossesx9
import Derived.Test.YtlkdilfheplmhaaPTopLossesx10
namespace Go.Proofs.Ytlkdilfheplmhaa.PTopLosses
open Go.RowKit Go.Proofs.YtlkdilfheplmhaaW.PrintWords Go.Proofs.YtlkdilfheplmhaaW.PrintLast Go.Proofs.YtlkdilfheplmhaaW.PrintMore
attribute [local go_sem] max2_int min2_int max_two min_two max_three min_three max_four min_four   -- for this text's walks alone
set_option linter.unusedVariables false
set_option linter.unusedSimpArgs false

/-! ### assess_Call: function 12 -/
def assess_Call.f (k : Nat) (a0 : Int) (l1 : List Int) (a2 : Int) (l3 : List Int) : Option (List Int × Int × Int):=(assess_Caps.f k l1 a2 l3).bind fun bt192=>(if bt192.2 = 0 then ((assess_money.f a0).bind fun t196=>(if t196 = true then ((share_Capped.f k a0 l1 bt192.1).bind fun bt197=>(some (bt197.1, bt197.2.1, bt197.2.2))) else (some (([] : List Int), 0, 2)))) else (some (([] : List Int), 0, bt192.2)))
theorem assess_Call.mono : ∀ a0 a1 a2 a3 k, LeO (assess_Call.f k a0 a1 a2 a3) (assess_Call.f (k + 1) a0 a1 a2 a3):=by
 intro a0 a1 a2 a3 k
 unfold assess_Call.f
 repeat' first
   | (with_reducible exact assess_Caps.mono _ _ _ _)
   | (with_reducible exact share_Capped.mono _ _ _ _)
   | (with_reducible exact LeO.refl _)
   | (with_reducible exact LeO.none _)
   | (with_reducible refine LeO.ite ?_ ?_)
   | (with_reducible refine LeO.bind ?_ (fun _=>?_))
   | exact assess_Caps.mono _ _ _ _
   | exact share_Capped.mono _ _ _ _
   | exact LeO.none _
   | refine LeO.ite ?_ ?_
   | refine LeO.bind ?_ (fun _=>?_)
set_option maxHeartbeats 8000000 in
set_option maxRecDepth 100000 in
theorem assess_Call.calls (k : Nat) (a0 : Int) (A1 : Option Addr) (c1 : Nat) (l1 : List Int) (a2 : Int) (A3 : Option Addr) (c3 : Nat) (l3 : List Int) (r1 : List Int) (r2 : Int) (r3 : Int) (w : World) (hr1 : Kd.C (Kd.int .i64) w A1 l1.length l1) (hc1 : l1.length ≤ c1) (hr3 : Kd.C (Kd.int .i64) w A3 l3.length l3) (hc3 : l3.length ≤ c3) (h : assess_Call.f k a0 l1 a2 l3 = some (r1, r2, r3)) :
  Calls Try.prog 12 #[.int .i64 a0, .slice A1 l1.length c1, .int .i64 a2, .slice A3 l3.length c3] w fun e w'=>∃ v0_ : Value, e = .returned (.tuple #[v0_, .int .i64 r2, .int .i64 r3]) ∧ Kd.R (Kd.int .i64) 3 w' w.heap.size (fun _=>True) v0_ r1 ∧ Below w.heap.size w w':=by
 have HR1:=Aside0.mk hr1
 have HC1:=Aside0.mk hc1
 clear hr1 hc1
 have HR3:=Aside0.mk hr3
 have HC3:=Aside0.mk hc3
 clear hr3 hc3
 have HB:=Aside0.mk (Below.refl w.heap.size w)
 have H : ((assess_Caps.f k l1 a2 l3).bind fun bt192=>(if bt192.2 = 0 then ((assess_money.f a0).bind fun t196=>(if t196 = true then ((share_Capped.f k a0 l1 bt192.1).bind fun bt197=>(some (bt197.1, bt197.2.1, bt197.2.2))) else (some (([] : List Int), 0, 2)))) else (some (([] : List Int), 0, bt192.2)))) = some (r1, r2, r3):=h
 clear h
 replace H:=Option.bind_eq_some_iff.mp H
 obtain ⟨⟨t192, t193⟩, A50, H⟩:=H
 replace H : (if t193 = 0 then ((assess_money.f a0).bind fun t196=>(if t196 = true then ((share_Capped.f k a0 l1 t192).bind fun bt197=>(some (bt197.1, bt197.2.1, bt197.2.2))) else (some (([] : List Int), 0, 2)))) else (some (([] : List Int), 0, t193))) = some (r1, r2, r3):=H
 have A5:=Aside0.mk A50
 clear A50
 by_cases c6 : t193 = 0
 ·rw [if_pos c6] at H
  have c6b0 : (t193 == 0) = true:=beq_iff_eq.mpr c6
  have c6b1 : (t193 != 0) = false:=bne_eq_false_iff_eq.mpr c6
  clear c6
  replace H:=Option.bind_eq_some_iff.mp H
  obtain ⟨t196, A70, H⟩:=H
  replace H : (if t196 = true then ((share_Capped.f k a0 l1 t192).bind fun bt197=>(some (bt197.1, bt197.2.1, bt197.2.2))) else (some (([] : List Int), 0, 2))) = some (r1, r2, r3):=H
  have A7:=Aside0.mk A70
  clear A70
  by_cases c8 : t196 = true
  ·subst c8
   have H1 : ((share_Capped.f k a0 l1 t192).bind fun bt197=>(some (bt197.1, bt197.2.1, bt197.2.2))) = some (r1, r2, r3):=by rw [if_pos rfl] at H;exact H
   clear H
   have H:=H1
   clear H1
   replace H:=Option.bind_eq_some_iff.mp H
   obtain ⟨⟨t197, t198, t199⟩, A90, H⟩:=H
   replace H : (some (t197, t198, t199)) = some (r1, r2, r3):=H
   have A9:=Aside0.mk A90
   clear A90
   simp only [Option.some.injEq, Prod.mk.injEq] at H
   obtain ⟨rfl, rfl, rfl⟩:=H
   go_enter Try.func12, Try.ntmps12
   go_wp2_with (first | ((with_reducible refine gate_callee (f:=19) rfl ?_);refine goesL_ (some 17) rfl rfl Try.func19 (by kernel_rfl) rfl #[.slice A1 l1.length c1, .int .i64 a2, .slice A3 l3.length c3] rfl (by (try simp only [List.map_toArray, List.map_cons, List.map_nil]);first | done | rfl | (simp only [List.length_drop, List.length_take];rfl)) ?_;(with_reducible refine (assess_Caps.calls k _ _ l1 a2 _ _ l3 t192 t193 _ ?side1 ?side2 ?side3 ?side4 A5.out).mono ?_);(case side1=>repeat (first | exact HR1.out | (with_reducible refine Kd.C_alloc ?_ _) | (with_reducible refine Kd.C_drewN ?_ _) | (with_reducible refine Kd.C_drew ?_)));(case side2=>exact HC1.out);(case side3=>repeat (first | exact HR3.out | (with_reducible refine Kd.C_alloc ?_ _) | (with_reducible refine Kd.C_drewN ?_ _) | (with_reducible refine Kd.C_drew ?_)));(case side4=>exact HC3.out);rintro e w10 ⟨v194, rfl, ho0, hb⟩;refine ⟨_, rfl, ?_⟩;have n0_:=Aside0.mk (Kd.R_lower ho0 (below_size (by repeat (first | (with_reducible first | exact HB.out | apply below_alloc | apply pw_below_drewN | apply below_drew1) | exact HB.out))));have n1_:=Aside0.mk (below_step (by repeat (first | (with_reducible first | exact HB.out | apply below_alloc | apply pw_below_drewN | apply below_drew1) | exact HB.out)) hb);clear HB;have HO195:=n0_;have HB:=n1_;clear n0_ n1_;(try clear hb);(try clear hb2);(try clear hk);(try clear hi);(try clear ho0)) | ((with_reducible refine gate_callee (f:=20) rfl ?_);refine goesL_ (some 24) rfl rfl Try.func20 (by kernel_rfl) rfl #[.int .i64 a0] rfl (by (try simp only [List.map_toArray, List.map_cons, List.map_nil]);first | done | rfl | (simp only [List.length_drop, List.length_take];rfl)) ?_;(with_reducible refine (assess_money.calls a0 true _ A7.out).mono ?_);rintro e w' ⟨rfl, ⟨nd, rfl⟩⟩;refine ⟨_, rfl, ?_⟩;obtain ⟨Ao11, co11, eo11⟩:=Kd.R_slice HO195.out;subst eo11) | ((with_reducible refine gate_callee (f:=21) rfl ?_);refine goesL_ (some 29) rfl rfl Try.func21 (by kernel_rfl) rfl #[.int .i64 a0, .slice A1 l1.length c1, .slice Ao11 t192.length co11] rfl (by (try simp only [List.map_toArray, List.map_cons, List.map_nil]);first | done | rfl | (simp only [List.length_drop, List.length_take];rfl)) ?_;(with_reducible refine (share_Capped.calls k a0 _ _ l1 _ _ t192 t197 t198 t199 _ ?side1 ?side2 ?side3 ?side4 A9.out).mono ?_);(case side1=>repeat (first | exact (Kd.C_below HR1.out (by repeat (first | (with_reducible first | exact HB.out | apply below_alloc | apply pw_below_drewN | apply below_drew1) | exact HB.out))) | (with_reducible refine Kd.C_alloc ?_ _) | (with_reducible refine Kd.C_drewN ?_ _) | (with_reducible refine Kd.C_drew ?_)));(case side2=>exact HC1.out);(case side3=>repeat (first | exact (Kd.R_reads' HO195.out).2.2 | (with_reducible refine Kd.C_alloc ?_ _) | (with_reducible refine Kd.C_drewN ?_ _) | (with_reducible refine Kd.C_drew ?_)));(case side4=>exact (Kd.R_reads' HO195.out).2.1);rintro e w12 ⟨v200, rfl, ho0, hb⟩;refine ⟨_, rfl, ?_⟩;have n0_:=Aside0.mk (Kd.R_elder' (by (with_reducible repeat (first | apply Kd.R_alloc | apply Kd.R_drewN | apply Kd.R_drew));exact HO195.out) (Kd.R_base ho0) hb);have n1_:=Aside0.mk (Kd.R_lower (Kd.R_new' ho0 (Kd.R_lt (by (with_reducible repeat (first | apply Kd.R_alloc | apply Kd.R_drewN | apply Kd.R_drew));exact HO195.out))) (below_size (by repeat (first | (with_reducible first | exact HB.out | apply below_alloc | apply pw_below_drewN | apply below_drew1) | exact HB.out))));have n2_:=Aside0.mk (below_step (by repeat (first | (with_reducible first | exact HB.out | apply below_alloc | apply pw_below_drewN | apply below_drew1) | exact HB.out)) hb);clear HO195 HB;have HO195:=n0_;have HO201:=n1_;have HB:=n2_;clear n0_ n1_ n2_;(try clear hb);(try clear hb2);(try clear hk);(try clear hi);(try clear ho0)))
   go_ret3
   exact ⟨_, by first | rfl | (simp [errW_none, errW_some] <;> rfl) | (simp [*, errW_none, errW_some] <;> rfl), by (with_reducible repeat (first | apply Kd.R_alloc | apply Kd.R_drewN | apply Kd.R_drew));exact Kd.R_mono HO201.out (fun _ hk=>trivial), by repeat (first | (with_reducible first | exact HB.out | apply below_alloc | apply pw_below_drewN | apply below_drew1) | exact HB.out)⟩
  ·replace c8:=Bool.eq_false_iff.mpr c8
   subst c8
   have H1 : (some (([] : List Int), 0, 2)) = some (r1, r2, r3):=by rw [if_neg (show ¬ (false = true) by decide)] at H;exact H
   clear H
   have H:=H1
   clear H1
   simp only [Option.some.injEq, Prod.mk.injEq] at H
   obtain ⟨rfl, rfl, rfl⟩:=H
   go_enter Try.func12, Try.ntmps12
   go_wp2_with (first | ((with_reducible refine gate_callee (f:=19) rfl ?_);refine goesL_ (some 17) rfl rfl Try.func19 (by kernel_rfl) rfl #[.slice A1 l1.length c1, .int .i64 a2, .slice A3 l3.length c3] rfl (by (try simp only [List.map_toArray, List.map_cons, List.map_nil]);first | done | rfl | (simp only [List.length_drop, List.length_take];rfl)) ?_;(with_reducible refine (assess_Caps.calls k _ _ l1 a2 _ _ l3 t192 t193 _ ?side1 ?side2 ?side3 ?side4 A5.out).mono ?_);(case side1=>repeat (first | exact HR1.out | (with_reducible refine Kd.C_alloc ?_ _) | (with_reducible refine Kd.C_drewN ?_ _) | (with_reducible refine Kd.C_drew ?_)));(case side2=>exact HC1.out);(case side3=>repeat (first | exact HR3.out | (with_reducible refine Kd.C_alloc ?_ _) | (with_reducible refine Kd.C_drewN ?_ _) | (with_reducible refine Kd.C_drew ?_)));(case side4=>exact HC3.out);rintro e w13 ⟨v194, rfl, ho0, hb⟩;refine ⟨_, rfl, ?_⟩;have n0_:=Aside0.mk (Kd.R_lower ho0 (below_size (by repeat (first | (with_reducible first | exact HB.out | apply below_alloc | apply pw_below_drewN | apply below_drew1) | exact HB.out))));have n1_:=Aside0.mk (below_step (by repeat (first | (with_reducible first | exact HB.out | apply below_alloc | apply pw_below_drewN | apply below_drew1) | exact HB.out)) hb);clear HB;have HO195:=n0_;have HB:=n1_;clear n0_ n1_;(try clear hb);(try clear hb2);(try clear hk);(try clear hi);(try clear ho0)) | ((with_reducible refine gate_callee (f:=20) rfl ?_);refine goesL_ (some 24) rfl rfl Try.func20 (by kernel_rfl) rfl #[.int .i64 a0] rfl (by (try simp only [List.map_toArray, List.map_cons, List.map_nil]);first | done | rfl | (simp only [List.length_drop, List.length_take];rfl)) ?_;(with_reducible refine (assess_money.calls a0 false _ A7.out).mono ?_);rintro e w' ⟨rfl, ⟨nd, rfl⟩⟩;refine ⟨_, rfl, ?_⟩))
   go_ret3
   exact ⟨_, by first | rfl | (simp [errW_none, errW_some] <;> rfl) | (simp [*, errW_none, errW_some] <;> rfl), by first | exact Kd.R_nil _ _ _ _ _ | exact Kd.N_nil _ _ _ _ _ | exact Kd.V_nil _ _ _ _ _ | exact Kd.Q_nil _ _ _ _ _ | exact Kd.S_nil _ _ _ _ _, by repeat (first | (with_reducible first | exact HB.out | apply below_alloc | apply pw_below_drewN | apply below_drew1) | exact HB.out)⟩
 ·rw [if_neg c6] at H
  have c6b0 : (t193 == 0) = false:=beq_eq_false_iff_ne.mpr c6
  have c6b1 : (t193 != 0) = true:=bne_iff_ne.mpr c6
  simp only [Option.some.injEq, Prod.mk.injEq] at H
  obtain ⟨rfl, rfl, rfl⟩:=H
  go_enter Try.func12, Try.ntmps12
  go_wp2_with (first | ((with_reducible refine gate_callee (f:=19) rfl ?_);refine goesL_ (some 17) rfl rfl Try.func19 (by kernel_rfl) rfl #[.slice A1 l1.length c1, .int .i64 a2, .slice A3 l3.length c3] rfl (by (try simp only [List.map_toArray, List.map_cons, List.map_nil]);first | done | rfl | (simp only [List.length_drop, List.length_take];rfl)) ?_;(with_reducible refine (assess_Caps.calls k _ _ l1 a2 _ _ l3 t192 t193 _ ?side1 ?side2 ?side3 ?side4 A5.out).mono ?_);(case side1=>repeat (first | exact HR1.out | (with_reducible refine Kd.C_alloc ?_ _) | (with_reducible refine Kd.C_drewN ?_ _) | (with_reducible refine Kd.C_drew ?_)));(case side2=>exact HC1.out);(case side3=>repeat (first | exact HR3.out | (with_reducible refine Kd.C_alloc ?_ _) | (with_reducible refine Kd.C_drewN ?_ _) | (with_reducible refine Kd.C_drew ?_)));(case side4=>exact HC3.out);rintro e w14 ⟨v194, rfl, ho0, hb⟩;refine ⟨_, rfl, ?_⟩;have n0_:=Aside0.mk (Kd.R_lower ho0 (below_size (by repeat (first | (with_reducible first | exact HB.out | apply below_alloc | apply pw_below_drewN | apply below_drew1) | exact HB.out))));have n1_:=Aside0.mk (below_step (by repeat (first | (with_reducible first | exact HB.out | apply below_alloc | apply pw_below_drewN | apply below_drew1) | exact HB.out)) hb);clear HB;have HO195:=n0_;have HB:=n1_;clear n0_ n1_;(try clear hb);(try clear hb2);(try clear hk);(try clear hi);(try clear ho0)))
  go_ret3
  exact ⟨_, by first | rfl | (simp [errW_none, errW_some] <;> rfl) | (simp [*, errW_none, errW_some] <;> rfl), by first | exact Kd.R_nil _ _ _ _ _ | exact Kd.N_nil _ _ _ _ _ | exact Kd.V_nil _ _ _ _ _ | exact Kd.Q_nil _ _ _ _ _ | exact Kd.S_nil _ _ _ _ _, by repeat (first | (with_reducible first | exact HB.out | apply below_alloc | apply pw_below_drewN | apply below_drew1) | exact HB.out)⟩

/-! ### contangotop_goes24: function 5 -/
def contangotop_goes24.f (k : Nat)  : Option (Bool):=(waterfall_Absorb.f k 180 (([(⟨1, 0, (⟨#[97]⟩ : ByteArray), 100⟩ : S33), (⟨3, 0, (⟨#[104, 111, 117, 115, 101]⟩ : ByteArray), 50⟩ : S33), (⟨4, 0, (⟨#[98]⟩ : ByteArray), 30⟩ : S33), (⟨4, 0, (⟨#[99]⟩ : ByteArray), 60⟩ : S33)] : List (S33)))).bind fun bt205=>((assess_Call.f k 400 (([100, 300] : List Int)) 2000 (([50, 0] : List Int))).bind fun bt216=>(if bt205.2.2 = 0 then (if bt205.2.1 = 0 then (if (bt205.1.length : Int) = 4 then (if 2 < (bt205.1.length : Int) then (if (rd bt205.1 2) = 10 then (if 3 < (bt205.1.length : Int) then (if (rd bt205.1 3) = 20 then (if bt216.2.2 = 0 then (if bt216.2.1 = 0 then (if (bt216.1.length : Int) = 2 then (if 0 < (bt216.1.length : Int) then (if (rd bt216.1 0) = 100 then (if 1 < (bt216.1.length : Int) then (some ((rd bt216.1 1) == 300)) else (none)) else (none)) else (none)) else (none)) else (none)) else (none)) else (none)) else (none)) else (none)) else (none)) else (none)) else (none)) else (none)))
theorem contangotop_goes24.mono : ∀ k, LeO (contangotop_goes24.f k ) (contangotop_goes24.f (k + 1) ):=by
 intro  k
 unfold contangotop_goes24.f
 repeat' first
   | (with_reducible exact assess_Call.mono _ _ _ _ _)
   | (with_reducible exact waterfall_Absorb.mono _ _ _)
   | (with_reducible exact LeO.refl _)
   | (with_reducible exact LeO.none _)
   | (with_reducible refine LeO.ite ?_ ?_)
   | (with_reducible refine LeO.bind ?_ (fun _=>?_))
   | exact assess_Call.mono _ _ _ _ _
   | exact waterfall_Absorb.mono _ _ _
   | exact LeO.none _
   | refine LeO.ite ?_ ?_
   | refine LeO.bind ?_ (fun _=>?_)
set_option maxHeartbeats 8000000 in
set_option maxRecDepth 100000 in
theorem contangotop_goes24.calls (k : Nat)  (r : Bool) (w : World) (h : contangotop_goes24.f k  = some r) :
  Calls Try.prog 5 #[] w fun e w'=>e = .returned (.bool r) ∧ Below w.heap.size w w':=by
 have hu33:=Try.underlying33
 have HB:=Aside0.mk (Below.refl w.heap.size w)
 have H : ((waterfall_Absorb.f k 180 (([(⟨1, 0, (⟨#[97]⟩ : ByteArray), 100⟩ : S33), (⟨3, 0, (⟨#[104, 111, 117, 115, 101]⟩ : ByteArray), 50⟩ : S33), (⟨4, 0, (⟨#[98]⟩ : ByteArray), 30⟩ : S33), (⟨4, 0, (⟨#[99]⟩ : ByteArray), 60⟩ : S33)] : List (S33)))).bind fun bt205=>((assess_Call.f k 400 (([100, 300] : List Int)) 2000 (([50, 0] : List Int))).bind fun bt216=>(if bt205.2.2 = 0 then (if bt205.2.1 = 0 then (if (bt205.1.length : Int) = 4 then (if 2 < (bt205.1.length : Int) then (if (rd bt205.1 2) = 10 then (if 3 < (bt205.1.length : Int) then (if (rd bt205.1 3) = 20 then (if bt216.2.2 = 0 then (if bt216.2.1 = 0 then (if (bt216.1.length : Int) = 2 then (if 0 < (bt216.1.length : Int) then (if (rd bt216.1 0) = 100 then (if 1 < (bt216.1.length : Int) then (some ((rd bt216.1 1) == 300)) else (none)) else (none)) else (none)) else (none)) else (none)) else (none)) else (none)) else (none)) else (none)) else (none)) else (none)) else (none)) else (none)))) = some r:=h
 clear h
 obtain ⟨y202, hy202⟩ : ∃ y_ : List (S33), y_ = (([(⟨1, 0, (⟨#[97]⟩ : ByteArray), 100⟩ : S33), (⟨3, 0, (⟨#[104, 111, 117, 115, 101]⟩ : ByteArray), 50⟩ : S33), (⟨4, 0, (⟨#[98]⟩ : ByteArray), 30⟩ : S33), (⟨4, 0, (⟨#[99]⟩ : ByteArray), 60⟩ : S33)] : List (S33))):=⟨_, rfl⟩
 replace H : ((waterfall_Absorb.f k 180 y202).bind fun bt205=>((assess_Call.f k 400 (([100, 300] : List Int)) 2000 (([50, 0] : List Int))).bind fun bt216=>(if bt205.2.2 = 0 then (if bt205.2.1 = 0 then (if (bt205.1.length : Int) = 4 then (if 2 < (bt205.1.length : Int) then (if (rd bt205.1 2) = 10 then (if 3 < (bt205.1.length : Int) then (if (rd bt205.1 3) = 20 then (if bt216.2.2 = 0 then (if bt216.2.1 = 0 then (if (bt216.1.length : Int) = 2 then (if 0 < (bt216.1.length : Int) then (if (rd bt216.1 0) = 100 then (if 1 < (bt216.1.length : Int) then (some ((rd bt216.1 1) == 300)) else (none)) else (none)) else (none)) else (none)) else (none)) else (none)) else (none)) else (none)) else (none)) else (none)) else (none)) else (none)) else (none)))) = some r:=by first | (rw [hy202];with_reducible exact H) | (have H2_:=(Option.bind_some _ _).symm.trans H;rw [hy202];with_reducible exact H2_) | (have H2_:=(Option.bind_some _ _).symm.trans H;with_reducible exact H2_) | with_reducible exact H | (rw [hy202];exact H) | exact H
 have Ny202:=Aside0.mk hy202
 clear hy202
 replace H:=Option.bind_eq_some_iff.mp H
 obtain ⟨⟨t205, t206, t207⟩, A10, H⟩:=H
 replace H : ((assess_Call.f k 400 (([100, 300] : List Int)) 2000 (([50, 0] : List Int))).bind fun bt216=>(if t207 = 0 then (if t206 = 0 then (if (t205.length : Int) = 4 then (if 2 < (t205.length : Int) then (if (rd t205 2) = 10 then (if 3 < (t205.length : Int) then (if (rd t205 3) = 20 then (if bt216.2.2 = 0 then (if bt216.2.1 = 0 then (if (bt216.1.length : Int) = 2 then (if 0 < (bt216.1.length : Int) then (if (rd bt216.1 0) = 100 then (if 1 < (bt216.1.length : Int) then (some ((rd bt216.1 1) == 300)) else (none)) else (none)) else (none)) else (none)) else (none)) else (none)) else (none)) else (none)) else (none)) else (none)) else (none)) else (none)) else (none))) = some r:=H
 have A1:=Aside0.mk A10
 clear A10
 obtain ⟨y210, hy210⟩ : ∃ y_ : List Int, y_ = (([100, 300] : List Int)):=⟨_, rfl⟩
 replace H : ((assess_Call.f k 400 y210 2000 (([50, 0] : List Int))).bind fun bt216=>(if t207 = 0 then (if t206 = 0 then (if (t205.length : Int) = 4 then (if 2 < (t205.length : Int) then (if (rd t205 2) = 10 then (if 3 < (t205.length : Int) then (if (rd t205 3) = 20 then (if bt216.2.2 = 0 then (if bt216.2.1 = 0 then (if (bt216.1.length : Int) = 2 then (if 0 < (bt216.1.length : Int) then (if (rd bt216.1 0) = 100 then (if 1 < (bt216.1.length : Int) then (some ((rd bt216.1 1) == 300)) else (none)) else (none)) else (none)) else (none)) else (none)) else (none)) else (none)) else (none)) else (none)) else (none)) else (none)) else (none)) else (none))) = some r:=by first | (rw [hy210];with_reducible exact H) | (have H2_:=(Option.bind_some _ _).symm.trans H;rw [hy210];with_reducible exact H2_) | (have H2_:=(Option.bind_some _ _).symm.trans H;with_reducible exact H2_) | with_reducible exact H | (rw [hy210];exact H) | exact H
 have Ny210:=Aside0.mk hy210
 clear hy210
 obtain ⟨y213, hy213⟩ : ∃ y_ : List Int, y_ = (([50, 0] : List Int)):=⟨_, rfl⟩
 replace H : ((assess_Call.f k 400 y210 2000 y213).bind fun bt216=>(if t207 = 0 then (if t206 = 0 then (if (t205.length : Int) = 4 then (if 2 < (t205.length : Int) then (if (rd t205 2) = 10 then (if 3 < (t205.length : Int) then (if (rd t205 3) = 20 then (if bt216.2.2 = 0 then (if bt216.2.1 = 0 then (if (bt216.1.length : Int) = 2 then (if 0 < (bt216.1.length : Int) then (if (rd bt216.1 0) = 100 then (if 1 < (bt216.1.length : Int) then (some ((rd bt216.1 1) == 300)) else (none)) else (none)) else (none)) else (none)) else (none)) else (none)) else (none)) else (none)) else (none)) else (none)) else (none)) else (none)) else (none))) = some r:=by first | (rw [hy213];with_reducible exact H) | (have H2_:=(Option.bind_some _ _).symm.trans H;rw [hy213];with_reducible exact H2_) | (have H2_:=(Option.bind_some _ _).symm.trans H;with_reducible exact H2_) | with_reducible exact H | (rw [hy213];exact H) | exact H
 have Ny213:=Aside0.mk hy213
 clear hy213
 replace H:=Option.bind_eq_some_iff.mp H
 obtain ⟨⟨t216, t217, t218⟩, A20, H⟩:=H
 replace H : (if t207 = 0 then (if t206 = 0 then (if (t205.length : Int) = 4 then (if 2 < (t205.length : Int) then (if (rd t205 2) = 10 then (if 3 < (t205.length : Int) then (if (rd t205 3) = 20 then (if t218 = 0 then (if t217 = 0 then (if (t216.length : Int) = 2 then (if 0 < (t216.length : Int) then (if (rd t216 0) = 100 then (if 1 < (t216.length : Int) then (some ((rd t216 1) == 300)) else (none)) else (none)) else (none)) else (none)) else (none)) else (none)) else (none)) else (none)) else (none)) else (none)) else (none)) else (none)) else (none)) = some r:=H
 have A2:=Aside0.mk A20
 clear A20
 by_cases c3 : t207 = 0
 ·rw [if_pos c3] at H
  have c3b0 : (t207 == 0) = true:=beq_iff_eq.mpr c3
  have c3b1 : (t207 != 0) = false:=bne_eq_false_iff_eq.mpr c3
  clear c3
  by_cases c4 : t206 = 0
  ·rw [if_pos c4] at H
   have c4b0 : (t206 == 0) = true:=beq_iff_eq.mpr c4
   have c4b1 : (t206 != 0) = false:=bne_eq_false_iff_eq.mpr c4
   clear c4
   by_cases c5 : (t205.length : Int) = 4
   ·rw [if_pos c5] at H
    have c5b0 : ((t205.length : Int) == 4) = true:=beq_iff_eq.mpr c5
    have c5b1 : ((t205.length : Int) != 4) = false:=bne_eq_false_iff_eq.mpr c5
    clear c5
    by_cases c6 : 2 < (t205.length : Int)
    ·rw [if_pos c6] at H
     have c6b0 : decide (2 < (t205.length : Int)) = true:=decide_eq_true c6
     have c6b1 : decide (2 < t205.length) = true:=decide_eq_true (by omega)
     clear c6
     by_cases c7 : (rd t205 2) = 10
     ·rw [if_pos c7] at H
      have c7b0 : ((rd t205 2) == 10) = true:=beq_iff_eq.mpr c7
      have c7b1 : ((rd t205 2) != 10) = false:=bne_eq_false_iff_eq.mpr c7
      clear c7
      by_cases c8 : 3 < (t205.length : Int)
      ·rw [if_pos c8] at H
       have c8b0 : decide (3 < (t205.length : Int)) = true:=decide_eq_true c8
       have c8b1 : decide (3 < t205.length) = true:=decide_eq_true (by omega)
       clear c8
       by_cases c9 : (rd t205 3) = 20
       ·rw [if_pos c9] at H
        have c9b0 : ((rd t205 3) == 20) = true:=beq_iff_eq.mpr c9
        have c9b1 : ((rd t205 3) != 20) = false:=bne_eq_false_iff_eq.mpr c9
        clear c9
        by_cases c10 : t218 = 0
        ·rw [if_pos c10] at H
         have c10b0 : (t218 == 0) = true:=beq_iff_eq.mpr c10
         have c10b1 : (t218 != 0) = false:=bne_eq_false_iff_eq.mpr c10
         clear c10
         by_cases c11 : t217 = 0
         ·rw [if_pos c11] at H
          have c11b0 : (t217 == 0) = true:=beq_iff_eq.mpr c11
          have c11b1 : (t217 != 0) = false:=bne_eq_false_iff_eq.mpr c11
          clear c11
          by_cases c12 : (t216.length : Int) = 2
          ·rw [if_pos c12] at H
           have c12b0 : ((t216.length : Int) == 2) = true:=beq_iff_eq.mpr c12
           have c12b1 : ((t216.length : Int) != 2) = false:=bne_eq_false_iff_eq.mpr c12
           clear c12
           by_cases c13 : 0 < (t216.length : Int)
           ·rw [if_pos c13] at H
            have c13b0 : decide (0 < (t216.length : Int)) = true:=decide_eq_true c13
            have c13b1 : decide (0 < t216.length) = true:=decide_eq_true (by omega)
            clear c13
            by_cases c14 : (rd t216 0) = 100
            ·rw [if_pos c14] at H
             have c14b0 : ((rd t216 0) == 100) = true:=beq_iff_eq.mpr c14
             have c14b1 : ((rd t216 0) != 100) = false:=bne_eq_false_iff_eq.mpr c14
             clear c14
             by_cases c15 : 1 < (t216.length : Int)
             ·rw [if_pos c15] at H
              have c15b0 : decide (1 < (t216.length : Int)) = true:=decide_eq_true c15
              have c15b1 : decide (1 < t216.length) = true:=decide_eq_true (by omega)
              clear c15
              obtain rfl:=Option.some.inj H
              go_enter Try.func5, Try.ntmps5
              go_wp2_with (first | ((with_reducible refine gate_dst (N:=12) rfl ?_);(try (refine gate_guard (by rfl) ?_;dsimp only));refine Kd.R_lit k33 _ 33 ?hg (N:=12) ?hd (xs:=([(⟨1, 0, (⟨#[97]⟩ : ByteArray), 100⟩ : S33), (⟨3, 0, (⟨#[104, 111, 117, 115, 101]⟩ : ByteArray), 50⟩ : S33), (⟨4, 0, (⟨#[98]⟩ : ByteArray), 30⟩ : S33), (⟨4, 0, (⟨#[99]⟩ : ByteArray), 60⟩ : S33)] : List (S33))) (inner:=[.int .i64 1, .int .i64 0, .string (⟨#[97]⟩ : ByteArray), .int .i64 100, .int .i64 3, .int .i64 0, .string (⟨#[104, 111, 117, 115, 101]⟩ : ByteArray), .int .i64 50, .int .i64 4, .int .i64 0, .string (⟨#[98]⟩ : ByteArray), .int .i64 30, .int .i64 4, .int .i64 0, .string (⟨#[99]⟩ : ByteArray), .int .i64 60]) (ok:=fun _=>True) (okp:=fun _=>True) ?hr ?hp (fun _ hk=>hk) trivial (Below.refl _ _) (Nat.le_refl _) (by simp) ?_;(case hd=>rfl);(case hg=>rfl);(case hr=>first | (go_simp;done) | (go_simp;rfl));(case hp=>exact (Reps.c4 (show Kd.M k33 _ _ _ (⟨1, 0, (⟨#[97]⟩ : ByteArray), 100⟩ : S33) [.int .i64 1, .int .i64 0, .string (⟨#[97]⟩ : ByteArray), .int .i64 100] from (k33_mkM _ _ _ (⟨1, 0, (⟨#[97]⟩ : ByteArray), 100⟩ : S33) )) (Reps.c4 (show Kd.M k33 _ _ _ (⟨3, 0, (⟨#[104, 111, 117, 115, 101]⟩ : ByteArray), 50⟩ : S33) [.int .i64 3, .int .i64 0, .string (⟨#[104, 111, 117, 115, 101]⟩ : ByteArray), .int .i64 50] from (k33_mkM _ _ _ (⟨3, 0, (⟨#[104, 111, 117, 115, 101]⟩ : ByteArray), 50⟩ : S33) )) (Reps.c4 (show Kd.M k33 _ _ _ (⟨4, 0, (⟨#[98]⟩ : ByteArray), 30⟩ : S33) [.int .i64 4, .int .i64 0, .string (⟨#[98]⟩ : ByteArray), .int .i64 30] from (k33_mkM _ _ _ (⟨4, 0, (⟨#[98]⟩ : ByteArray), 30⟩ : S33) )) (Reps.c4 (show Kd.M k33 _ _ _ (⟨4, 0, (⟨#[99]⟩ : ByteArray), 60⟩ : S33) [.int .i64 4, .int .i64 0, .string (⟨#[99]⟩ : ByteArray), .int .i64 60] from (k33_mkM _ _ _ (⟨4, 0, (⟨#[99]⟩ : ByteArray), 60⟩ : S33) )) (Reps.none _ _))))));intro v203 w16 ho17 hb hg_ hnew_;clear hg_ hnew_;(first | rw [← Ny202.out] at ho17 | (simp only [Int.reduceToNat] at ho17;rw [← Ny202.out] at ho17));have n0_:=Aside0.mk (Kd.R_lower ho17 (below_size (by repeat (first | (with_reducible first | exact HB.out | apply below_alloc | apply pw_below_drewN | apply below_drew1) | exact HB.out))));have n1_:=Aside0.mk (below_step (by repeat (first | (with_reducible first | exact HB.out | apply below_alloc | apply pw_below_drewN | apply below_drew1) | exact HB.out)) hb);clear HB;have HO204:=n0_;have HB:=n1_;clear n0_ n1_ hb ho17;obtain ⟨Ao18, co18, eo18⟩:=Kd.R_slice HO204.out;subst eo18) | ((with_reducible refine gate_callee (f:=6) rfl ?_);refine goesL_ (some 15) rfl rfl Try.func6 (by kernel_rfl) rfl #[.int .i64 180, .slice Ao18 y202.length co18] rfl (by (try simp only [List.map_toArray, List.map_cons, List.map_nil]);first | done | rfl | (simp only [List.length_drop, List.length_take];rfl)) ?_;(with_reducible refine (waterfall_Absorb.calls k 180 _ _ y202 t205 t206 t207 _ ?side1 ?side2 A1.out).mono ?_);(case side1=>repeat (first | exact (Kd.R_reads' HO204.out).2.2 | (with_reducible refine Kd.C_alloc ?_ _) | (with_reducible refine Kd.C_drewN ?_ _) | (with_reducible refine Kd.C_drew ?_)));(case side2=>exact (Kd.R_reads' HO204.out).2.1);rintro e w19 ⟨v208, rfl, ho0, hb⟩;refine ⟨_, rfl, ?_⟩;have n0_:=Aside0.mk (Kd.R_below (by (with_reducible repeat (first | apply Kd.R_alloc | apply Kd.R_drewN | apply Kd.R_drew));exact HO204.out) hb);have n1_:=Aside0.mk (Kd.R_lower ho0 (below_size (by repeat (first | (with_reducible first | exact HB.out | apply below_alloc | apply pw_below_drewN | apply below_drew1) | exact HB.out))));have n2_:=Aside0.mk (below_step (by repeat (first | (with_reducible first | exact HB.out | apply below_alloc | apply pw_below_drewN | apply below_drew1) | exact HB.out)) hb);clear HO204 HB;have HO204:=n0_;have HO209:=n1_;have HB:=n2_;clear n0_ n1_ n2_;(try clear hb);(try clear hb2);(try clear hk);(try clear hi);(try clear ho0)) | ((with_reducible refine gate_dst (N:=20) rfl ?_);(try (refine gate_guard (by rfl) ?_;dsimp only));refine Kd.R_lit (Kd.int .i64) _ 3 ?hg (N:=20) ?hd (xs:=([100, 300] : List Int)) (inner:=[.int .i64 100, .int .i64 300]) (ok:=fun _=>True) (okp:=fun _=>True) ?hr ?hp (fun _ hk=>hk) trivial (Below.refl _ _) (Nat.le_refl _) (by simp) ?_;(case hd=>rfl);(case hg=>rfl);(case hr=>first | (go_simp;done) | (go_simp;rfl));(case hp=>exact (Reps.one (show Kd.M (Kd.int .i64) _ _ _ 100 [.int .i64 100] from rfl) (Reps.one (show Kd.M (Kd.int .i64) _ _ _ 300 [.int .i64 300] from rfl) (Reps.none _ _))));intro v211 w20 ho21 hb hg_ hnew_;clear hg_ hnew_;(first | rw [← Ny210.out] at ho21 | (simp only [Int.reduceToNat] at ho21;rw [← Ny210.out] at ho21));have n0_:=Aside0.mk (Kd.R_below (by (with_reducible repeat (first | apply Kd.R_alloc | apply Kd.R_drewN | apply Kd.R_drew));exact HO204.out) hb);have n1_:=Aside0.mk (Kd.R_elder' (by (with_reducible repeat (first | apply Kd.R_alloc | apply Kd.R_drewN | apply Kd.R_drew));exact HO209.out) (Kd.R_base ho21) hb);have n2_:=Aside0.mk (Kd.R_lower (Kd.R_new' ho21 (Kd.R_lt (by (with_reducible repeat (first | apply Kd.R_alloc | apply Kd.R_drewN | apply Kd.R_drew));exact HO209.out))) (below_size (by repeat (first | (with_reducible first | exact HB.out | apply below_alloc | apply pw_below_drewN | apply below_drew1) | exact HB.out))));have n3_:=Aside0.mk (below_step (by repeat (first | (with_reducible first | exact HB.out | apply below_alloc | apply pw_below_drewN | apply below_drew1) | exact HB.out)) hb);clear HO204 HO209 HB;have HO204:=n0_;have HO209:=n1_;have HO212:=n2_;have HB:=n3_;clear n0_ n1_ n2_ n3_ hb ho21) | ((with_reducible refine gate_dst (N:=21) rfl ?_);(try (refine gate_guard (by rfl) ?_;dsimp only));refine Kd.R_lit (Kd.int .i64) _ 3 ?hg (N:=21) ?hd (xs:=([50, 0] : List Int)) (inner:=[.int .i64 50, .int .i64 0]) (ok:=fun _=>True) (okp:=fun _=>True) ?hr ?hp (fun _ hk=>hk) trivial (Below.refl _ _) (Nat.le_refl _) (by simp) ?_;(case hd=>rfl);(case hg=>rfl);(case hr=>first | (go_simp;done) | (go_simp;rfl));(case hp=>exact (Reps.one (show Kd.M (Kd.int .i64) _ _ _ 50 [.int .i64 50] from rfl) (Reps.one (show Kd.M (Kd.int .i64) _ _ _ 0 [.int .i64 0] from rfl) (Reps.none _ _))));intro v214 w22 ho23 hb hg_ hnew_;clear hg_ hnew_;(first | rw [← Ny213.out] at ho23 | (simp only [Int.reduceToNat] at ho23;rw [← Ny213.out] at ho23));have n0_:=Aside0.mk (Kd.R_below (by (with_reducible repeat (first | apply Kd.R_alloc | apply Kd.R_drewN | apply Kd.R_drew));exact HO204.out) hb);have n1_:=Aside0.mk (Kd.R_elder' (by (with_reducible repeat (first | apply Kd.R_alloc | apply Kd.R_drewN | apply Kd.R_drew));exact HO209.out) (Kd.R_base ho23) hb);have n2_:=Aside0.mk (Kd.R_elder' (by (with_reducible repeat (first | apply Kd.R_alloc | apply Kd.R_drewN | apply Kd.R_drew));exact HO212.out) (Kd.R_base ho23) hb);have n3_:=Aside0.mk (Kd.R_lower (Kd.R_new' (Kd.R_new' ho23 (Kd.R_lt (by (with_reducible repeat (first | apply Kd.R_alloc | apply Kd.R_drewN | apply Kd.R_drew));exact HO209.out))) (Kd.R_lt (by (with_reducible repeat (first | apply Kd.R_alloc | apply Kd.R_drewN | apply Kd.R_drew));exact HO212.out))) (below_size (by repeat (first | (with_reducible first | exact HB.out | apply below_alloc | apply pw_below_drewN | apply below_drew1) | exact HB.out))));have n4_:=Aside0.mk (below_step (by repeat (first | (with_reducible first | exact HB.out | apply below_alloc | apply pw_below_drewN | apply below_drew1) | exact HB.out)) hb);clear HO204 HO209 HO212 HB;have HO204:=n0_;have HO209:=n1_;have HO212:=n2_;have HO215:=n3_;have HB:=n4_;clear n0_ n1_ n2_ n3_ n4_ hb ho23;obtain ⟨Ao24, co24, eo24⟩:=Kd.R_slice HO212.out;subst eo24;obtain ⟨Ao25, co25, eo25⟩:=Kd.R_slice HO215.out;subst eo25) | ((with_reducible refine gate_callee (f:=12) rfl ?_);refine goesL_ (some 22) rfl rfl Try.func12 (by kernel_rfl) rfl #[.int .i64 400, .slice Ao24 y210.length co24, .int .i64 2000, .slice Ao25 y213.length co25] rfl (by (try simp only [List.map_toArray, List.map_cons, List.map_nil]);first | done | rfl | (simp only [List.length_drop, List.length_take];rfl)) ?_;(with_reducible refine (assess_Call.calls k 400 _ _ y210 2000 _ _ y213 t216 t217 t218 _ ?side1 ?side2 ?side3 ?side4 A2.out).mono ?_);(case side1=>repeat (first | exact (Kd.R_reads' HO212.out).2.2 | (with_reducible refine Kd.C_alloc ?_ _) | (with_reducible refine Kd.C_drewN ?_ _) | (with_reducible refine Kd.C_drew ?_)));(case side2=>exact (Kd.R_reads' HO212.out).2.1);(case side3=>repeat (first | exact (Kd.R_reads' HO215.out).2.2 | (with_reducible refine Kd.C_alloc ?_ _) | (with_reducible refine Kd.C_drewN ?_ _) | (with_reducible refine Kd.C_drew ?_)));(case side4=>exact (Kd.R_reads' HO215.out).2.1);rintro e w26 ⟨v219, rfl, ho0, hb⟩;refine ⟨_, rfl, ?_⟩;have n0_:=Aside0.mk (Kd.R_below (by (with_reducible repeat (first | apply Kd.R_alloc | apply Kd.R_drewN | apply Kd.R_drew));exact HO204.out) hb);have n1_:=Aside0.mk (Kd.R_elder' (by (with_reducible repeat (first | apply Kd.R_alloc | apply Kd.R_drewN | apply Kd.R_drew));exact HO209.out) (Kd.R_base ho0) hb);have n2_:=Aside0.mk (Kd.R_elder' (by (with_reducible repeat (first | apply Kd.R_alloc | apply Kd.R_drewN | apply Kd.R_drew));exact HO212.out) (Kd.R_base ho0) hb);have n3_:=Aside0.mk (Kd.R_elder' (by (with_reducible repeat (first | apply Kd.R_alloc | apply Kd.R_drewN | apply Kd.R_drew));exact HO215.out) (Kd.R_base ho0) hb);have n4_:=Aside0.mk (Kd.R_lower (Kd.R_new' (Kd.R_new' (Kd.R_new' ho0 (Kd.R_lt (by (with_reducible repeat (first | apply Kd.R_alloc | apply Kd.R_drewN | apply Kd.R_drew));exact HO209.out))) (Kd.R_lt (by (with_reducible repeat (first | apply Kd.R_alloc | apply Kd.R_drewN | apply Kd.R_drew));exact HO212.out))) (Kd.R_lt (by (with_reducible repeat (first | apply Kd.R_alloc | apply Kd.R_drewN | apply Kd.R_drew));exact HO215.out))) (below_size (by repeat (first | (with_reducible first | exact HB.out | apply below_alloc | apply pw_below_drewN | apply below_drew1) | exact HB.out))));have n5_:=Aside0.mk (below_step (by repeat (first | (with_reducible first | exact HB.out | apply below_alloc | apply pw_below_drewN | apply below_drew1) | exact HB.out)) hb);clear HO204 HO209 HO212 HO215 HB;have HO204:=n0_;have HO209:=n1_;have HO212:=n2_;have HO215:=n3_;have HO220:=n4_;have HB:=n5_;clear n0_ n1_ n2_ n3_ n4_ n5_;(try clear hb);(try clear hb2);(try clear hk);(try clear hi);(try clear ho0);obtain ⟨Ao27, co27, eo27⟩:=Kd.R_slice HO209.out;subst eo27;have p221 : 0 ≤ (2 : Int):=(by omega);have q221 : 2 < (t205.length : Int):=of_decide_eq_true (by first | (with_reducible assumption) | assumption);obtain ⟨ad221, e221, hx221_0⟩:=Kd.at_int (Kd.R_reads' HO209.out).2.2 2 p221 q221;cases e221;(try simp only [show (2 : Int).toNat = 2 from rfl, Nat.reduceMul, Nat.reduceEqDiff, Go.Addr.add, ↓reduceIte] at hx221_0);have qi221 : (2 < t205.length) = True:=eq_true (by omega);(try rw [show ((2 : Int)).toNat = 2 from rfl] at hx221_0);replace p221:=eq_true p221;replace q221:=eq_true q221;have p222 : 0 ≤ (3 : Int):=(by omega);have q222 : 3 < (t205.length : Int):=of_decide_eq_true (by first | (with_reducible assumption) | assumption);obtain ⟨ad222, e222, hx222_0⟩:=Kd.at_int (Kd.R_reads' HO209.out).2.2 3 p222 q222;obtain rfl : ad221 = ad222:=(by injection e222);(try simp only [show (3 : Int).toNat = 3 from rfl, Nat.reduceMul, Nat.reduceEqDiff, Go.Addr.add, ↓reduceIte] at hx222_0);have qi222 : (3 < t205.length) = True:=eq_true (by omega);(try rw [show ((3 : Int)).toNat = 3 from rfl] at hx222_0);replace p222:=eq_true p222;replace q222:=eq_true q222;obtain ⟨Ao28, co28, eo28⟩:=Kd.R_slice HO220.out;subst eo28;have p223 : 0 ≤ (0 : Int):=(by omega);have q223 : 0 < (t216.length : Int):=of_decide_eq_true (by first | (with_reducible assumption) | assumption);obtain ⟨ad223, e223, hx223_0⟩:=Kd.at_int (Kd.R_reads' HO220.out).2.2 0 p223 q223;cases e223;have qi223 : (0 < t216.length) = True:=eq_true (by omega);(try rw [show ((0 : Int)).toNat = 0 from rfl] at hx223_0);(try rw [Addr.add_zero'] at hx223_0);replace p223:=eq_true p223;replace q223:=eq_true q223;have p224 : 0 ≤ (1 : Int):=(by omega);have q224 : 1 < (t216.length : Int):=of_decide_eq_true (by first | (with_reducible assumption) | assumption);obtain ⟨ad224, e224, hx224_0⟩:=Kd.at_int (Kd.R_reads' HO220.out).2.2 1 p224 q224;obtain rfl : ad223 = ad224:=(by injection e224);(try simp only [show (1 : Int).toNat = 1 from rfl, Nat.reduceMul, Nat.reduceEqDiff, Go.Addr.add, ↓reduceIte] at hx224_0);have qi224 : (1 < t216.length) = True:=eq_true (by omega);(try rw [show ((1 : Int)).toNat = 1 from rfl] at hx224_0);replace p224:=eq_true p224;replace q224:=eq_true q224))
              go_ret
              exact ⟨by first | rfl | (simp [errW_none, errW_some] <;> rfl) | (simp [*, errW_none, errW_some] <;> rfl), by repeat (first | (with_reducible first | exact HB.out | apply below_alloc | apply pw_below_drewN | apply below_drew1) | exact HB.out)⟩
             ·rw [if_neg c15] at H
              exact absurd H (by simp)
            ·rw [if_neg c14] at H
             exact absurd H (by simp)
           ·rw [if_neg c13] at H
            exact absurd H (by simp)
          ·rw [if_neg c12] at H
           exact absurd H (by simp)
         ·rw [if_neg c11] at H
          exact absurd H (by simp)
        ·rw [if_neg c10] at H
         exact absurd H (by simp)
       ·rw [if_neg c9] at H
        exact absurd H (by simp)
      ·rw [if_neg c8] at H
       exact absurd H (by simp)
     ·rw [if_neg c7] at H
      exact absurd H (by simp)
    ·rw [if_neg c6] at H
     exact absurd H (by simp)
   ·rw [if_neg c5] at H
    exact absurd H (by simp)
  ·rw [if_neg c4] at H
   exact absurd H (by simp)
 ·rw [if_neg c3] at H
  exact absurd H (by simp)

/-! ### waterfall_check: function 18 -/
mutual
def waterfall_check.j0 : Nat → List (S33) → List Int → Bool → Option (Int)
 | 0, _, _, _=>none
 | k + 1, x0, x1, x24=>if x24 = true then (some 2) else (waterfall_check.l0 k x0 x1 (x1.length : Int) 0)
def waterfall_check.l0 : Nat → List (S33) → List Int → Int → Int → Option (Int)
 | 0, _, _, _, _=>none
 | k + 1, x0, x25, x26, x27=>if x27 < x26 then (if 0 ≤ x27 then (if x27 < (x25.length : Int) then (if (rd x25 x27) < 0 then (some 2) else (if x27 < (x0.length : Int) then (if (rd x25 x27) > ((rd_T33 x0 x27).f3) then (some 2) else (waterfall_check.l0 k x0 x25 x26 (wrap64 (x27 + 1)))) else (none))) else (none)) else (none)) else (some 0)
end
def waterfall_check.f (k : Nat) (l0 : List (S33)) (l1 : List Int) (a2 : Int) : Option (Int):=(waterfall_Check.f k l0).bind fun t225=>(if t225 = 0 then ((waterfall_money.f a2).bind fun t226=>(if t226 = true then (waterfall_check.j0 k l0 l1 ((l1.length : Int) != (l0.length : Int))) else (waterfall_check.j0 k l0 l1 true))) else (some t225))
theorem waterfall_check.mono_l : ∀ k, (∀ y0 y1 y2, LeO (waterfall_check.j0 k y0 y1 y2) (waterfall_check.j0 (k + 1) y0 y1 y2)) ∧ (∀ y0 y1 y2 y3, LeO (waterfall_check.l0 k y0 y1 y2 y3) (waterfall_check.l0 (k + 1) y0 y1 y2 y3))
 | 0=>⟨fun _ _ _ r h=>by simp [waterfall_check.j0] at h, fun _ _ _ _ r h=>by simp [waterfall_check.l0] at h⟩
 | k + 1=>by
  obtain ⟨ih0, ih1⟩:=waterfall_check.mono_l k
  refine ⟨?_, ?_⟩
  ·intro y0 y1 y2
   unfold waterfall_check.j0
   repeat' first
   | (with_reducible exact ih0 _ _ _)
   | (with_reducible exact ih1 _ _ _ _)
   | (with_reducible exact waterfall_Check.mono _ _)
   | (with_reducible exact LeO.refl _)
   | (with_reducible exact LeO.none _)
   | (with_reducible refine LeO.ite ?_ ?_)
   | (with_reducible refine LeO.bind ?_ (fun _=>?_))
   | exact ih0 _ _ _
   | exact ih1 _ _ _ _
   | exact waterfall_Check.mono _ _
   | exact LeO.none _
   | refine LeO.ite ?_ ?_
   | refine LeO.bind ?_ (fun _=>?_)
  ·intro y0 y1 y2 y3
   unfold waterfall_check.l0
   repeat' first
   | (with_reducible exact ih0 _ _ _)
   | (with_reducible exact ih1 _ _ _ _)
   | (with_reducible exact waterfall_Check.mono _ _)
   | (with_reducible exact LeO.refl _)
   | (with_reducible exact LeO.none _)
   | (with_reducible refine LeO.ite ?_ ?_)
   | (with_reducible refine LeO.bind ?_ (fun _=>?_))
   | exact ih0 _ _ _
   | exact ih1 _ _ _ _
   | exact waterfall_Check.mono _ _
   | exact LeO.none _
   | refine LeO.ite ?_ ?_
   | refine LeO.bind ?_ (fun _=>?_)
theorem waterfall_check.mono : ∀ a0 a1 a2 k, LeO (waterfall_check.f k a0 a1 a2) (waterfall_check.f (k + 1) a0 a1 a2):=by
 intro a0 a1 a2 k
 obtain ⟨ih0, ih1⟩:=waterfall_check.mono_l k
 unfold waterfall_check.f
 repeat' first
   | (with_reducible exact ih0 _ _ _)
   | (with_reducible exact ih1 _ _ _ _)
   | (with_reducible exact waterfall_Check.mono _ _)
   | (with_reducible exact LeO.refl _)
   | (with_reducible exact LeO.none _)
   | (with_reducible refine LeO.ite ?_ ?_)
   | (with_reducible refine LeO.bind ?_ (fun _=>?_))
   | exact ih0 _ _ _
   | exact ih1 _ _ _ _
   | exact waterfall_Check.mono _ _
   | exact LeO.none _
   | refine LeO.ite ?_ ?_
   | refine LeO.bind ?_ (fun _=>?_)
set_option maxHeartbeats 8000000 in
set_option maxRecDepth 100000 in
theorem waterfall_check.calls (k : Nat) (A0 : Option Addr) (c0 : Nat) (l0 : List (S33)) (A1 : Option Addr) (c1 : Nat) (l1 : List Int) (a2 : Int) (r : Int) (w : World) (hr0 : Kd.C k33 w A0 l0.length l0) (hc0 : l0.length ≤ c0) (hr1 : Kd.C (Kd.int .i64) w A1 l1.length l1) (hc1 : l1.length ≤ c1) (h : waterfall_check.f k l0 l1 a2 = some r) :
  Calls Try.prog 18 #[.slice A0 l0.length c0, .slice A1 l1.length c1, .int .i64 a2] w fun e w'=>e = .returned (.int .i64 r) ∧ Below w.heap.size w w':=by
 have HR0:=Aside0.mk hr0
 have HC0:=Aside0.mk hc0
 clear hr0 hc0
 have HR1:=Aside0.mk hr1
 have HC1:=Aside0.mk hc1
 clear hr1 hc1
 have HB:=Aside0.mk (Below.refl w.heap.size w)
 have H : ((waterfall_Check.f k l0).bind fun t225=>(if t225 = 0 then ((waterfall_money.f a2).bind fun t226=>(if t226 = true then (waterfall_check.j0 k l0 l1 ((l1.length : Int) != (l0.length : Int))) else (waterfall_check.j0 k l0 l1 true))) else (some t225))) = some r:=h
 clear h
 replace H:=Option.bind_eq_some_iff.mp H
 obtain ⟨t225, A40, H⟩:=H
 replace H : (if t225 = 0 then ((waterfall_money.f a2).bind fun t226=>(if t226 = true then (waterfall_check.j0 k l0 l1 ((l1.length : Int) != (l0.length : Int))) else (waterfall_check.j0 k l0 l1 true))) else (some t225)) = some r:=H
 have A4:=Aside0.mk A40
 clear A40
 by_cases c5 : t225 = 0
 ·rw [if_pos c5] at H
  have c5b0 : (t225 == 0) = true:=beq_iff_eq.mpr c5
  have c5b1 : (t225 != 0) = false:=bne_eq_false_iff_eq.mpr c5
  clear c5
  have HC6:=Aside0.mk H
  clear H
  go_enter Try.func18, Try.ntmps18
  go_upto_region 4 with (first | ((with_reducible refine gate_callee (f:=13) rfl ?_);refine goesL_ (some 11) rfl rfl Try.func13 (by kernel_rfl) rfl #[.slice A0 l0.length c0] rfl (by (try simp only [List.map_toArray, List.map_cons, List.map_nil]);first | done | rfl | (simp only [List.length_drop, List.length_take];rfl)) ?_;(with_reducible refine (waterfall_Check.calls k _ _ l0 t225 _ ?side1 ?side2 A4.out).mono ?_);(case side1=>repeat (first | exact HR0.out | (with_reducible refine Kd.C_alloc ?_ _) | (with_reducible refine Kd.C_drewN ?_ _) | (with_reducible refine Kd.C_drew ?_)));(case side2=>exact HC0.out);rintro e w7 ⟨rfl, hb⟩;refine ⟨_, rfl, ?_⟩;have n0_:=Aside0.mk (below_step (by repeat (first | (with_reducible first | exact HB.out | apply below_alloc | apply pw_below_drewN | apply below_drew1) | exact HB.out)) hb);clear HB;have HB:=n0_;clear n0_;(try clear hb);(try clear hb2);(try clear hk);(try clear hi)))
  (try simp only [Act.put, List.setIfInBounds_toArray, List.set_cons_zero, List.set_cons_succ])
  go_cut [24] (fun v24 wc=>∃ (kq : Nat) (x24_5 : Bool), v24 = .bool x24_5 ∧ Aside0 (waterfall_check.j0 kq l0 l1 x24_5 = some r) ∧ Aside0 (kq ≤ k) ∧ Aside0 (Below w.heap.size w wc))
  case first =>
   have H:=HC6.out
   clear HC6
   replace H:=Option.bind_eq_some_iff.mp H
   obtain ⟨t226, A80, H⟩:=H
   replace H : (if t226 = true then (waterfall_check.j0 k l0 l1 ((l1.length : Int) != (l0.length : Int))) else (waterfall_check.j0 k l0 l1 true)) = some r:=H
   have A8:=Aside0.mk A80
   clear A80
   by_cases c9 : t226 = true
   ·subst c9
    have H1 : (waterfall_check.j0 k l0 l1 ((l1.length : Int) != (l0.length : Int))) = some r:=by rw [if_pos rfl] at H;exact H
    clear H
    have H:=H1
    clear H1
    have H':=Aside0.mk H
    clear H
    go_wp2_with (first | ((with_reducible refine gate_callee (f:=14) rfl ?_);refine goesL_ (some 16) rfl rfl Try.func14 (by kernel_rfl) rfl #[.int .i64 a2] rfl (by (try simp only [List.map_toArray, List.map_cons, List.map_nil]);first | done | rfl | (simp only [List.length_drop, List.length_take];rfl)) ?_;(with_reducible refine (waterfall_money.calls a2 true _ A8.out).mono ?_);rintro e w' ⟨rfl, ⟨nd, rfl⟩⟩;refine ⟨_, rfl, ?_⟩))
    go_meet
    case rel=>exact ⟨_, (((l1.length : Int) != (l0.length : Int))), (by first | rfl | (simp;done) | (simp [*];done)), H', ⟨by first | omega | exact Nat.le_refl _⟩, ⟨by repeat (first | (with_reducible first | exact HB.out | apply below_alloc | apply pw_below_drewN | apply below_drew1) | exact HB.out)⟩⟩
   ·replace c9:=Bool.eq_false_iff.mpr c9
    subst c9
    have H1 : (waterfall_check.j0 k l0 l1 true) = some r:=by rw [if_neg (show ¬ (false = true) by decide)] at H;exact H
    clear H
    have H:=H1
    clear H1
    have H':=Aside0.mk H
    clear H
    go_wp2_with (first | ((with_reducible refine gate_callee (f:=14) rfl ?_);refine goesL_ (some 16) rfl rfl Try.func14 (by kernel_rfl) rfl #[.int .i64 a2] rfl (by (try simp only [List.map_toArray, List.map_cons, List.map_nil]);first | done | rfl | (simp only [List.length_drop, List.length_take];rfl)) ?_;(with_reducible refine (waterfall_money.calls a2 false _ A8.out).mono ?_);rintro e w' ⟨rfl, ⟨nd, rfl⟩⟩;refine ⟨_, rfl, ?_⟩))
    go_meet
    case rel=>exact ⟨_, (true), (by first | rfl | (simp;done) | (simp [*];done)), H', ⟨by first | omega | exact Nat.le_refl _⟩, ⟨by repeat (first | (with_reducible first | exact HB.out | apply below_alloc | apply pw_below_drewN | apply below_drew1) | exact HB.out)⟩⟩
  case rest =>
   clear HC6
   try clear c1
   try clear p2
   try clear c5
   try clear c5b0
   try clear c5b1
   try clear c9
   obtain ⟨kq, x24_5, rfl, HA, HJ5, HB⟩:=hcut
   cases kq with
   | zero=>exact absurd HA.out (by simp [waterfall_check.j0])
   | succ kj5 =>
    have H:=HA.out
    clear HA
    simp only [waterfall_check.j0] at H
    by_cases c10 : x24_5 = true
    ·subst c10
     have H1 : (some 2) = some r:=by rw [if_pos rfl] at H;exact H
     clear H
     have H:=H1
     clear H1
     obtain rfl:=Option.some.inj H
     go_wp2
     go_ret
     exact ⟨by first | rfl | (simp [errW_none, errW_some] <;> rfl) | (simp [*, errW_none, errW_some] <;> rfl), by repeat (first | (with_reducible first | exact HB.out | apply below_alloc | apply pw_below_drewN | apply below_drew1) | exact HB.out)⟩
    ·replace c10:=Bool.eq_false_iff.mpr c10
     subst c10
     have H1 : (waterfall_check.l0 kj5 l0 l1 (l1.length : Int) 0) = some r:=by rw [if_neg (show ¬ (false = true) by decide)] at H;exact H
     clear H
     have H:=H1
     clear H1
     have H':=Aside0.mk H
     clear H
     go_wp2
     go_loopg [27] kj5 (fun kq v27 w'=>∃ (x27_2 : Int), v27 = .int .i64 x27_2 ∧ Aside0 (waterfall_check.l0 kq l0 l1 (l1.length : Int) x27_2 = some r) ∧ Aside0 (kq ≤ kj5) ∧ Aside0 (Below w.heap.size w w'))
     case atStart=>exact ⟨(0), (by first | rfl | (simp;done) | (simp [*];done)), H', ⟨Nat.le_refl _⟩, ⟨by repeat (first | (with_reducible first | exact HB.out | apply below_alloc | apply pw_below_drewN | apply below_drew1) | exact HB.out)⟩⟩
     case round =>
      clear H'
      try clear c1
      try clear p2
      try clear c5
      try clear c5b0
      try clear c5b1
      try clear c9
      try clear c10
      try clear p2
      obtain ⟨x27_2, rfl, HA, HK2, HB⟩:=hrel
      cases gk with
      | zero=>exact absurd HA.out (by simp [waterfall_check.l0])
      | succ k2 =>
       have H:=HA.out
       clear HA
       simp only [waterfall_check.l0] at H
       by_cases c11 : x27_2 < (l1.length : Int)
       ·rw [if_pos c11] at H
        have c11b0 : decide (x27_2 < (l1.length : Int)) = true:=decide_eq_true c11
        clear c11
        by_cases c12 : 0 ≤ x27_2
        ·rw [if_pos c12] at H
         have c12b0 : decide (0 ≤ x27_2) = true:=decide_eq_true c12
         clear c12
         by_cases c13 : x27_2 < (l1.length : Int)
         ·rw [if_pos c13] at H
          have c13b0 : decide (x27_2 < (l1.length : Int)) = true:=decide_eq_true c13
          clear c13
          by_cases c14 : (rd l1 x27_2) < 0
          ·rw [if_pos c14] at H
           have c14b0 : decide ((rd l1 x27_2) < 0) = true:=decide_eq_true c14
           clear c14
           obtain rfl:=Option.some.inj H
           have p227 : 0 ≤ (x27_2 : Int):=of_decide_eq_true (by first | (with_reducible assumption) | assumption)
           have q227 : x27_2 < (l1.length : Int):=of_decide_eq_true (by first | (with_reducible assumption) | assumption)
           obtain ⟨ad227, e227, hx227_0⟩:=Kd.at_int HR1.out x27_2 p227 q227
           cases e227
           replace hx227_0:=(HB.out.cell (World.block_lt_of_cell? w _ hx227_0)).trans hx227_0
           replace p227:=eq_true p227
           replace q227:=eq_true q227
           go_wp2
           go_ret
           exact ⟨by first | rfl | (simp [errW_none, errW_some] <;> rfl) | (simp [*, errW_none, errW_some] <;> rfl), by repeat (first | (with_reducible first | exact HB.out | apply below_alloc | apply pw_below_drewN | apply below_drew1) | exact HB.out)⟩
          ·rw [if_neg c14] at H
           have c14b0 : decide ((rd l1 x27_2) < 0) = false:=decide_eq_false c14
           clear c14
           by_cases c15 : x27_2 < (l0.length : Int)
           ·rw [if_pos c15] at H
            have c15b0 : decide (x27_2 < (l0.length : Int)) = true:=decide_eq_true c15
            clear c15
            by_cases c16 : (rd l1 x27_2) > ((rd_T33 l0 x27_2).f3)
            ·rw [if_pos c16] at H
             have c16b0 : decide (((rd_T33 l0 x27_2).f3) < (rd l1 x27_2)) = true:=decide_eq_true c16
             clear c16
             obtain rfl:=Option.some.inj H
             have p227 : 0 ≤ (x27_2 : Int):=of_decide_eq_true (by first | (with_reducible assumption) | assumption)
             have q227 : x27_2 < (l1.length : Int):=of_decide_eq_true (by first | (with_reducible assumption) | assumption)
             obtain ⟨ad227, e227, hx227_0⟩:=Kd.at_int HR1.out x27_2 p227 q227
             cases e227
             replace hx227_0:=(HB.out.cell (World.block_lt_of_cell? w _ hx227_0)).trans hx227_0
             replace p227:=eq_true p227
             replace q227:=eq_true q227
             have p228 : 0 ≤ (x27_2 : Int):=of_decide_eq_true (by first | (with_reducible assumption) | assumption)
             have q228 : x27_2 < (l0.length : Int):=of_decide_eq_true (by first | (with_reducible assumption) | assumption)
             obtain ⟨ad228, e228, hx228_0, hx228_1, hx228_2, hx228_3⟩:=at_T33 HR0.out x27_2 p228 q228
             cases e228
             replace hx228_0:=(HB.out.cell (World.block_lt_of_cell? w _ hx228_0)).trans hx228_0
             replace hx228_1:=(HB.out.cell (World.block_lt_of_cell? w _ hx228_1)).trans hx228_1
             replace hx228_2:=(HB.out.cell (World.block_lt_of_cell? w _ hx228_2)).trans hx228_2
             replace hx228_3:=(HB.out.cell (World.block_lt_of_cell? w _ hx228_3)).trans hx228_3
             replace p228:=eq_true p228
             replace q228:=eq_true q228
             go_wp2
             go_ret
             exact ⟨by first | rfl | (simp [errW_none, errW_some] <;> rfl) | (simp [*, errW_none, errW_some] <;> rfl), by repeat (first | (with_reducible first | exact HB.out | apply below_alloc | apply pw_below_drewN | apply below_drew1) | exact HB.out)⟩
            ·rw [if_neg c16] at H
             have c16b0 : decide (((rd_T33 l0 x27_2).f3) < (rd l1 x27_2)) = false:=decide_eq_false c16
             clear c16
             have H':=Aside0.mk H
             clear H
             have p227 : 0 ≤ (x27_2 : Int):=of_decide_eq_true (by first | (with_reducible assumption) | assumption)
             have q227 : x27_2 < (l1.length : Int):=of_decide_eq_true (by first | (with_reducible assumption) | assumption)
             obtain ⟨ad227, e227, hx227_0⟩:=Kd.at_int HR1.out x27_2 p227 q227
             cases e227
             replace hx227_0:=(HB.out.cell (World.block_lt_of_cell? w _ hx227_0)).trans hx227_0
             replace p227:=eq_true p227
             replace q227:=eq_true q227
             have p228 : 0 ≤ (x27_2 : Int):=of_decide_eq_true (by first | (with_reducible assumption) | assumption)
             have q228 : x27_2 < (l0.length : Int):=of_decide_eq_true (by first | (with_reducible assumption) | assumption)
             obtain ⟨ad228, e228, hx228_0, hx228_1, hx228_2, hx228_3⟩:=at_T33 HR0.out x27_2 p228 q228
             cases e228
             replace hx228_0:=(HB.out.cell (World.block_lt_of_cell? w _ hx228_0)).trans hx228_0
             replace hx228_1:=(HB.out.cell (World.block_lt_of_cell? w _ hx228_1)).trans hx228_1
             replace hx228_2:=(HB.out.cell (World.block_lt_of_cell? w _ hx228_2)).trans hx228_2
             replace hx228_3:=(HB.out.cell (World.block_lt_of_cell? w _ hx228_3)).trans hx228_3
             replace p228:=eq_true p228
             replace q228:=eq_true q228
             go_wp2
             go_roundg k2
             case measure=>have:=HJ5.out;have:=HK2.out;omega
             case rel=>exact ⟨(wrap64 (x27_2 + 1)), (by first | rfl | (simp;done) | (simp [*];done)), H', ⟨by have:=HJ5.out;have:=HK2.out;omega⟩, ⟨by repeat (first | (with_reducible first | exact HB.out | apply below_alloc | apply pw_below_drewN | apply below_drew1) | exact HB.out)⟩⟩
           ·rw [if_neg c15] at H
            exact absurd H (by simp)
         ·rw [if_neg c13] at H
          exact absurd H (by simp)
        ·rw [if_neg c12] at H
         exact absurd H (by simp)
       ·rw [if_neg c11] at H
        have c11b0 : decide (x27_2 < (l1.length : Int)) = false:=decide_eq_false c11
        clear c11
        obtain rfl:=Option.some.inj H
        go_wp2
        go_ret
        exact ⟨by first | rfl | (simp [errW_none, errW_some] <;> rfl) | (simp [*, errW_none, errW_some] <;> rfl), by repeat (first | (with_reducible first | exact HB.out | apply below_alloc | apply pw_below_drewN | apply below_drew1) | exact HB.out)⟩
 ·rw [if_neg c5] at H
  have c5b0 : (t225 == 0) = false:=beq_eq_false_iff_ne.mpr c5
  have c5b1 : (t225 != 0) = true:=bne_iff_ne.mpr c5
  obtain rfl:=Option.some.inj H
  go_enter Try.func18, Try.ntmps18
  go_wp2_with (first | ((with_reducible refine gate_callee (f:=13) rfl ?_);refine goesL_ (some 11) rfl rfl Try.func13 (by kernel_rfl) rfl #[.slice A0 l0.length c0] rfl (by (try simp only [List.map_toArray, List.map_cons, List.map_nil]);first | done | rfl | (simp only [List.length_drop, List.length_take];rfl)) ?_;(with_reducible refine (waterfall_Check.calls k _ _ l0 t225 _ ?side1 ?side2 A4.out).mono ?_);(case side1=>repeat (first | exact HR0.out | (with_reducible refine Kd.C_alloc ?_ _) | (with_reducible refine Kd.C_drewN ?_ _) | (with_reducible refine Kd.C_drew ?_)));(case side2=>exact HC0.out);rintro e w17 ⟨rfl, hb⟩;refine ⟨_, rfl, ?_⟩;have n0_:=Aside0.mk (below_step (by repeat (first | (with_reducible first | exact HB.out | apply below_alloc | apply pw_below_drewN | apply below_drew1) | exact HB.out)) hb);clear HB;have HB:=n0_;clear n0_;(try clear hb);(try clear hb2);(try clear hk);(try clear hi)))
  go_ret
  exact ⟨by first | rfl | (simp [errW_none, errW_some] <;> rfl) | (simp [*, errW_none, errW_some] <;> rfl), by repeat (first | (with_reducible first | exact HB.out | apply below_alloc | apply pw_below_drewN | apply below_drew1) | exact HB.out)⟩

end Go.Proofs.Ytlkdilfheplmhaa.PTopLosses
