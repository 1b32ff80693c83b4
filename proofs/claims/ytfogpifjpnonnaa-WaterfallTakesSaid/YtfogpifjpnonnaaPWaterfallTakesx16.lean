/- Laid for this claim by a program of this session's (wip/mkprint.py, wip/ext.py); not trusted: Lean checks it. -/
import Derived.Test.YtfogpifjpnonnaaPWaterfallTakesx0
import Derived.Test.YtfogpifjpnonnaaPWaterfallTakesx2
import Derived.Test.YtfogpifjpnonnaaPWaterfallTakesx3
import Derived.Test.YtfogpifjpnonnaaPWaterfallTakesx6
import Derived.Test.YtfogpifjpnonnaaPWaterfallTakesx9
import Derived.Test.YtfogpifjpnonnaaPWaterfallTakesx11
import Derived.Test.YtfogpifjpnonnaaPWaterfallTakesx15
namespace Go.Proofs.Ytfogpifjpnonnaa.PWaterfallTakes
open Go.RowKit Go.Proofs.YtfogpifjpnonnaaW.PrintWords Go.Proofs.YtfogpifjpnonnaaW.PrintLast Go.Proofs.YtfogpifjpnonnaaW.PrintMore
attribute [local go_sem] max2_int min2_int max_two min_two max_three min_three max_four min_four   -- for this text's walks alone
set_option linter.unusedVariables false
set_option linter.unusedSimpArgs false

/-! ### contangolaw47_WaterfallTakes: function 3 -/
def contangolaw47_WaterfallTakes.f (k : Nat) (a0 : Int) (l1 : List (S37)) : Option (Bool) := (contangolaw47_few.f l1).bind fun t299 => (if t299 = true then ((some (([] : List (S37)) : List (S37))).bind fun y301 => (if y301.length + l1.length < 3518437208883 then ((some (y301 ++ l1 : List (S37))).bind fun y304 => ((waterfall_Absorb.f k a0 y304).bind fun bt307 => ((contangoref47_Absorb.f k a0 l1).bind fun bt312 => ((contangoref02_Same.f k bt307.1 bt312.1).bind fun t317 => (if t317 = true then (if bt307.2.1 = bt312.2.1 then (if bt307.2.2 = bt312.2.2 then ((waterfall_Check.f k y304).bind fun t318 => ((contangoref47_Check.f k l1).bind fun t319 => (if t318 = t319 then ((contangoref47_Same.f k y304 l1).bind fun t320 => (if t320 = true then ((contangolaw47_goes.f k).bind fun t321 => (some t321)) else (none))) else (none)))) else (none)) else (none)) else (none)))))) else (none))) else ((contangolaw47_goes.f k).bind fun t300 => (some t300)))
theorem contangolaw47_WaterfallTakes.mono : ∀ a0 a1 k, LeO (contangolaw47_WaterfallTakes.f k a0 a1) (contangolaw47_WaterfallTakes.f (k + 1) a0 a1) := by
 intro a0 a1 k
 unfold contangolaw47_WaterfallTakes.f
 repeat' first
   | (with_reducible exact contangolaw47_goes.mono _)
   | (with_reducible exact contangoref02_Same.mono _ _ _)
   | (with_reducible exact contangoref47_Absorb.mono _ _ _)
   | (with_reducible exact contangoref47_Check.mono _ _)
   | (with_reducible exact contangoref47_Same.mono _ _ _)
   | (with_reducible exact waterfall_Absorb.mono _ _ _)
   | (with_reducible exact waterfall_Check.mono _ _)
   | (with_reducible exact LeO.refl _)
   | (with_reducible exact LeO.none _)
   | (with_reducible refine LeO.ite ?_ ?_)
   | (with_reducible refine LeO.bind ?_ (fun _ => ?_))
   | exact contangolaw47_goes.mono _
   | exact contangoref02_Same.mono _ _ _
   | exact contangoref47_Absorb.mono _ _ _
   | exact contangoref47_Check.mono _ _
   | exact contangoref47_Same.mono _ _ _
   | exact waterfall_Absorb.mono _ _ _
   | exact waterfall_Check.mono _ _
   | exact LeO.none _
   | refine LeO.ite ?_ ?_
   | refine LeO.bind ?_ (fun _ => ?_)
set_option maxHeartbeats 8000000 in
set_option maxRecDepth 100000 in
theorem contangolaw47_WaterfallTakes.calls (k : Nat) (a0 : Int) (A1 : Option Addr) (c1 : Nat) (l1 : List (S37)) (r : Bool) (w : World) (hr1 : Kd.C k37 w A1 l1.length l1) (hc1 : l1.length ≤ c1) (h : contangolaw47_WaterfallTakes.f k a0 l1 = some r) :
  Calls Try.prog 3 #[.int .i64 a0, .slice A1 l1.length c1] w fun e w' => e = .returned (.bool r) ∧ Below w.heap.size w w' := by
 have HR1 := Aside0.mk hr1
 have HC1 := Aside0.mk hc1
 clear hr1 hc1
 have HB := Aside0.mk (Below.refl w.heap.size w)
 have H : ((contangolaw47_few.f l1).bind fun t299 => (if t299 = true then ((some (([] : List (S37)) : List (S37))).bind fun y301 => (if y301.length + l1.length < 3518437208883 then ((some (y301 ++ l1 : List (S37))).bind fun y304 => ((waterfall_Absorb.f k a0 y304).bind fun bt307 => ((contangoref47_Absorb.f k a0 l1).bind fun bt312 => ((contangoref02_Same.f k bt307.1 bt312.1).bind fun t317 => (if t317 = true then (if bt307.2.1 = bt312.2.1 then (if bt307.2.2 = bt312.2.2 then ((waterfall_Check.f k y304).bind fun t318 => ((contangoref47_Check.f k l1).bind fun t319 => (if t318 = t319 then ((contangoref47_Same.f k y304 l1).bind fun t320 => (if t320 = true then ((contangolaw47_goes.f k).bind fun t321 => (some t321)) else (none))) else (none)))) else (none)) else (none)) else (none)))))) else (none))) else ((contangolaw47_goes.f k).bind fun t300 => (some t300)))) = some r := h
 clear h
 replace H := Option.bind_eq_some_iff.mp H
 obtain ⟨t299, A30, H⟩ := H
 replace H : (if t299 = true then ((some (([] : List (S37)) : List (S37))).bind fun y301 => (if y301.length + l1.length < 3518437208883 then ((some (y301 ++ l1 : List (S37))).bind fun y304 => ((waterfall_Absorb.f k a0 y304).bind fun bt307 => ((contangoref47_Absorb.f k a0 l1).bind fun bt312 => ((contangoref02_Same.f k bt307.1 bt312.1).bind fun t317 => (if t317 = true then (if bt307.2.1 = bt312.2.1 then (if bt307.2.2 = bt312.2.2 then ((waterfall_Check.f k y304).bind fun t318 => ((contangoref47_Check.f k l1).bind fun t319 => (if t318 = t319 then ((contangoref47_Same.f k y304 l1).bind fun t320 => (if t320 = true then ((contangolaw47_goes.f k).bind fun t321 => (some t321)) else (none))) else (none)))) else (none)) else (none)) else (none)))))) else (none))) else ((contangolaw47_goes.f k).bind fun t300 => (some t300))) = some r := H
 have A3 := Aside0.mk A30
 clear A30
 by_cases c4 : t299 = true
 ·subst c4
  have H1 : ((some (([] : List (S37)) : List (S37))).bind fun y301 => (if y301.length + l1.length < 3518437208883 then ((some (y301 ++ l1 : List (S37))).bind fun y304 => ((waterfall_Absorb.f k a0 y304).bind fun bt307 => ((contangoref47_Absorb.f k a0 l1).bind fun bt312 => ((contangoref02_Same.f k bt307.1 bt312.1).bind fun t317 => (if t317 = true then (if bt307.2.1 = bt312.2.1 then (if bt307.2.2 = bt312.2.2 then ((waterfall_Check.f k y304).bind fun t318 => ((contangoref47_Check.f k l1).bind fun t319 => (if t318 = t319 then ((contangoref47_Same.f k y304 l1).bind fun t320 => (if t320 = true then ((contangolaw47_goes.f k).bind fun t321 => (some t321)) else (none))) else (none)))) else (none)) else (none)) else (none)))))) else (none))) = some r := by rw [if_pos rfl] at H; exact H
  clear H
  have H := H1
  clear H1
  obtain ⟨y301, hy301⟩ : ∃ y_ : List (S37), y_ = (([] : List (S37))) := ⟨_, rfl⟩
  replace H : (if y301.length + l1.length < 3518437208883 then ((some (y301 ++ l1 : List (S37))).bind fun y304 => ((waterfall_Absorb.f k a0 y304).bind fun bt307 => ((contangoref47_Absorb.f k a0 l1).bind fun bt312 => ((contangoref02_Same.f k bt307.1 bt312.1).bind fun t317 => (if t317 = true then (if bt307.2.1 = bt312.2.1 then (if bt307.2.2 = bt312.2.2 then ((waterfall_Check.f k y304).bind fun t318 => ((contangoref47_Check.f k l1).bind fun t319 => (if t318 = t319 then ((contangoref47_Same.f k y304 l1).bind fun t320 => (if t320 = true then ((contangolaw47_goes.f k).bind fun t321 => (some t321)) else (none))) else (none)))) else (none)) else (none)) else (none)))))) else (none)) = some r := by first | (rw [hy301]; with_reducible exact H) | (have H2_ := (Option.bind_some _ _).symm.trans H; rw [hy301]; with_reducible exact H2_) | (have H2_ := (Option.bind_some _ _).symm.trans H; with_reducible exact H2_) | with_reducible exact H | (rw [hy301]; exact H) | exact H
  have Ny301 := Aside0.mk hy301
  clear hy301
  by_cases c5 : y301.length + l1.length < 3518437208883
  ·rw [if_pos c5] at H
   have LMc5 := Aside0.mk c5
   clear c5
   obtain ⟨y304, hy304⟩ : ∃ y_ : List (S37), y_ = (y301 ++ l1) := ⟨_, rfl⟩
   replace H : ((waterfall_Absorb.f k a0 y304).bind fun bt307 => ((contangoref47_Absorb.f k a0 l1).bind fun bt312 => ((contangoref02_Same.f k bt307.1 bt312.1).bind fun t317 => (if t317 = true then (if bt307.2.1 = bt312.2.1 then (if bt307.2.2 = bt312.2.2 then ((waterfall_Check.f k y304).bind fun t318 => ((contangoref47_Check.f k l1).bind fun t319 => (if t318 = t319 then ((contangoref47_Same.f k y304 l1).bind fun t320 => (if t320 = true then ((contangolaw47_goes.f k).bind fun t321 => (some t321)) else (none))) else (none)))) else (none)) else (none)) else (none))))) = some r := by first | (rw [hy304]; with_reducible exact H) | (have H2_ := (Option.bind_some _ _).symm.trans H; rw [hy304]; with_reducible exact H2_) | (have H2_ := (Option.bind_some _ _).symm.trans H; with_reducible exact H2_) | with_reducible exact H | (rw [hy304]; exact H) | exact H
   have Ny304 := Aside0.mk hy304
   clear hy304
   replace H := Option.bind_eq_some_iff.mp H
   obtain ⟨⟨t307, t308, t309⟩, A60, H⟩ := H
   replace H : ((contangoref47_Absorb.f k a0 l1).bind fun bt312 => ((contangoref02_Same.f k t307 bt312.1).bind fun t317 => (if t317 = true then (if t308 = bt312.2.1 then (if t309 = bt312.2.2 then ((waterfall_Check.f k y304).bind fun t318 => ((contangoref47_Check.f k l1).bind fun t319 => (if t318 = t319 then ((contangoref47_Same.f k y304 l1).bind fun t320 => (if t320 = true then ((contangolaw47_goes.f k).bind fun t321 => (some t321)) else (none))) else (none)))) else (none)) else (none)) else (none)))) = some r := H
   have A6 := Aside0.mk A60
   clear A60
   replace H := Option.bind_eq_some_iff.mp H
   obtain ⟨⟨t312, t313, t314⟩, A70, H⟩ := H
   replace H : ((contangoref02_Same.f k t307 t312).bind fun t317 => (if t317 = true then (if t308 = t313 then (if t309 = t314 then ((waterfall_Check.f k y304).bind fun t318 => ((contangoref47_Check.f k l1).bind fun t319 => (if t318 = t319 then ((contangoref47_Same.f k y304 l1).bind fun t320 => (if t320 = true then ((contangolaw47_goes.f k).bind fun t321 => (some t321)) else (none))) else (none)))) else (none)) else (none)) else (none))) = some r := H
   have A7 := Aside0.mk A70
   clear A70
   replace H := Option.bind_eq_some_iff.mp H
   obtain ⟨t317, A80, H⟩ := H
   replace H : (if t317 = true then (if t308 = t313 then (if t309 = t314 then ((waterfall_Check.f k y304).bind fun t318 => ((contangoref47_Check.f k l1).bind fun t319 => (if t318 = t319 then ((contangoref47_Same.f k y304 l1).bind fun t320 => (if t320 = true then ((contangolaw47_goes.f k).bind fun t321 => (some t321)) else (none))) else (none)))) else (none)) else (none)) else (none)) = some r := H
   have A8 := Aside0.mk A80
   clear A80
   by_cases c9 : t317 = true
   ·subst c9
    have H1 : (if t308 = t313 then (if t309 = t314 then ((waterfall_Check.f k y304).bind fun t318 => ((contangoref47_Check.f k l1).bind fun t319 => (if t318 = t319 then ((contangoref47_Same.f k y304 l1).bind fun t320 => (if t320 = true then ((contangolaw47_goes.f k).bind fun t321 => (some t321)) else (none))) else (none)))) else (none)) else (none)) = some r := by rw [if_pos rfl] at H; exact H
    clear H
    have H := H1
    clear H1
    by_cases c10 : t308 = t313
    ·rw [if_pos c10] at H
     have c10b0 : (t308 == t313) = true := beq_iff_eq.mpr c10
     have c10b1 : (t308 != t313) = false := bne_eq_false_iff_eq.mpr c10
     clear c10
     by_cases c11 : t309 = t314
     ·rw [if_pos c11] at H
      have c11b0 : (t309 == t314) = true := beq_iff_eq.mpr c11
      have c11b1 : (t309 != t314) = false := bne_eq_false_iff_eq.mpr c11
      clear c11
      replace H := Option.bind_eq_some_iff.mp H
      obtain ⟨t318, A120, H⟩ := H
      replace H : ((contangoref47_Check.f k l1).bind fun t319 => (if t318 = t319 then ((contangoref47_Same.f k y304 l1).bind fun t320 => (if t320 = true then ((contangolaw47_goes.f k).bind fun t321 => (some t321)) else (none))) else (none))) = some r := H
      have A12 := Aside0.mk A120
      clear A120
      replace H := Option.bind_eq_some_iff.mp H
      obtain ⟨t319, A130, H⟩ := H
      replace H : (if t318 = t319 then ((contangoref47_Same.f k y304 l1).bind fun t320 => (if t320 = true then ((contangolaw47_goes.f k).bind fun t321 => (some t321)) else (none))) else (none)) = some r := H
      have A13 := Aside0.mk A130
      clear A130
      by_cases c14 : t318 = t319
      ·rw [if_pos c14] at H
       have c14b0 : (t318 == t319) = true := beq_iff_eq.mpr c14
       have c14b1 : (t318 != t319) = false := bne_eq_false_iff_eq.mpr c14
       clear c14
       replace H := Option.bind_eq_some_iff.mp H
       obtain ⟨t320, A150, H⟩ := H
       replace H : (if t320 = true then ((contangolaw47_goes.f k).bind fun t321 => (some t321)) else (none)) = some r := H
       have A15 := Aside0.mk A150
       clear A150
       by_cases c16 : t320 = true
       ·subst c16
        have H1 : ((contangolaw47_goes.f k).bind fun t321 => (some t321)) = some r := by rw [if_pos rfl] at H; exact H
        clear H
        have H := H1
        clear H1
        replace H := Option.bind_eq_some_iff.mp H
        obtain ⟨t321, A170, H⟩ := H
        replace H : (some t321) = some r := H
        have A17 := Aside0.mk A170
        clear A170
        obtain rfl := Option.some.inj H
        go_enter Try.func3, Try.ntmps3
        go_wp2_with (first | ((with_reducible refine gate_callee (f := 9) rfl ?_); refine goesL_ (some 13) rfl rfl Try.func9 (by kernel_rfl) rfl #[.slice A1 l1.length c1] rfl (by (try simp only [List.map_toArray, List.map_cons, List.map_nil]); first | done | rfl | (simp only [List.length_drop, List.length_take]; rfl)) ?_; (with_reducible refine (contangolaw47_few.calls _ _ l1 true _ ?side1 ?side2 A3.out).mono ?_); (case side1 => repeat (first | exact HR1.out | (with_reducible refine Kd.C_alloc ?_ _) | (with_reducible refine Kd.C_drewN ?_ _) | (with_reducible refine Kd.C_drew ?_))); (case side2 => exact HC1.out); rintro e w' ⟨rfl, ⟨nd, rfl⟩⟩; refine ⟨_, rfl, ?_⟩) | ((with_reducible refine gate_dst (N := 16) rfl ?_); refine Kd.R_lit k37 _ 37 ?hg (N := 16) ?hd (xs := ([] : List (S37))) (inner := []) (ok := fun _ => True) (okp := fun _ => True) ?hr ?hp (fun _ hk => hk) trivial (Below.refl _ _) (Nat.le_refl _) (by simp) ?_; (case hd => rfl); (case hg => rfl); (case hr => first | (go_simp; done) | (go_simp; rfl)); (case hp => exact (Reps.none _ _)); intro v302 w18 ho19 hb hg_ hnew_; clear hg_ hnew_; (first | rw [← Ny301.out] at ho19 | (simp only [Int.reduceToNat] at ho19; rw [← Ny301.out] at ho19)); have n0_ := Aside0.mk (Kd.R_lower ho19 (below_size (by repeat (first | (with_reducible first | exact HB.out | apply below_alloc | apply pw_below_drewN | apply below_drew1) | exact HB.out)))); have n1_ := Aside0.mk (below_step (by repeat (first | (with_reducible first | exact HB.out | apply below_alloc | apply pw_below_drewN | apply below_drew1) | exact HB.out)) hb); clear HB; have HO303 := n0_; have HB := n1_; clear n0_ n1_; clear hb ho19) | ((with_reducible refine gate_builtin (b := .append) (xs := #[.tmp 16, .tmp 17]) rfl ?_); at_builtin; refine Kd.R_append_rows k37 (w0 := w) w.heap.size rfl (.tmp 16) (.tmp 17) 22 37 (.agg #[(.int .i64 0), (.int .i64 0), (.string ⟨#[]⟩), (.int .i64 0)]) 40 rfl Try.underlying22 info37 rfl (by decide) (by omega) v302 y301 l1 _ _ _ (fun _ => True) (fun _ => False) rfl rfl ?aO ?aR (fun _ _ h => h) (fun _ h => h.elim) ?aF ?aB ?aS ?aL ?_; (case aR => repeat (first | exact (Kd.C_below HR1.out HB.out) | (with_reducible refine Kd.C_alloc ?_ _) | (with_reducible refine Kd.C_drewN ?_ _) | (with_reducible refine Kd.C_drew ?_))); (case aB => exact (by repeat (first | (with_reducible first | exact HB.out | apply below_alloc | apply pw_below_drewN | apply below_drew1) | exact HB.out))); (case aF => exact (fun _ _ => trivial)); (case aO => exact (by (with_reducible repeat (first | apply Kd.R_alloc | apply Kd.R_drewN | apply Kd.R_drew)); exact HO303.out)); (case aS => exact (below_size (by repeat (first | (with_reducible first | exact HB.out | apply below_alloc | apply pw_below_drewN | apply below_drew1) | exact HB.out)))); (case aL => have := LMc5.out; omega); intro v305 w20 ho hb hg hat; rw [← Ny304.out] at ho; have n0_ := Aside0.mk (hb); have n1_ := Aside0.mk (ho); clear HB; clear HO303; have HB := n0_; have HO306 := n1_; clear n0_ n1_; clear ho hb hg hat; obtain ⟨Ao21, co21, eo21⟩ := Kd.R_slice HO306.out; subst eo21) | ((with_reducible refine gate_callee (f := 11) rfl ?_); refine goesL_ (some 22) rfl rfl Try.func11 (by kernel_rfl) rfl #[.int .i64 a0, .slice Ao21 y304.length co21] rfl (by (try simp only [List.map_toArray, List.map_cons, List.map_nil]); first | done | rfl | (simp only [List.length_drop, List.length_take]; rfl)) ?_; (with_reducible refine (waterfall_Absorb.calls k a0 _ _ y304 t307 t308 t309 _ ?side1 ?side2 A6.out).mono ?_); (case side1 => repeat (first | exact (Kd.R_reads' HO306.out).2.2 | (with_reducible refine Kd.C_alloc ?_ _) | (with_reducible refine Kd.C_drewN ?_ _) | (with_reducible refine Kd.C_drew ?_))); (case side2 => exact (Kd.R_reads' HO306.out).2.1); rintro e w22 ⟨v310, rfl, ho0, hb⟩; refine ⟨_, rfl, ?_⟩; have n0_ := Aside0.mk (Kd.R_below (by (with_reducible repeat (first | apply Kd.R_alloc | apply Kd.R_drewN | apply Kd.R_drew)); exact HO306.out) hb); have n1_ := Aside0.mk (Kd.R_lower ho0 (below_size (by repeat (first | (with_reducible first | exact HB.out | apply below_alloc | apply pw_below_drewN | apply below_drew1) | exact HB.out)))); have n2_ := Aside0.mk (below_step (by repeat (first | (with_reducible first | exact HB.out | apply below_alloc | apply pw_below_drewN | apply below_drew1) | exact HB.out)) hb); clear HO306; clear HB; have HO306 := n0_; have HO311 := n1_; have HB := n2_; clear n0_ n1_ n2_; (try clear hb); (try clear hb2); (try clear hk); (try clear hi); (try clear ho0)) | ((with_reducible refine gate_callee (f := 12) rfl ?_); refine goesL_ (some 29) rfl rfl Try.func12 (by kernel_rfl) rfl #[.int .i64 a0, .slice A1 l1.length c1] rfl (by (try simp only [List.map_toArray, List.map_cons, List.map_nil]); first | done | rfl | (simp only [List.length_drop, List.length_take]; rfl)) ?_; (with_reducible refine (contangoref47_Absorb.calls k a0 _ _ l1 t312 t313 t314 _ ?side1 ?side2 A7.out).mono ?_); (case side1 => repeat (first | exact (Kd.C_below HR1.out HB.out) | (with_reducible refine Kd.C_alloc ?_ _) | (with_reducible refine Kd.C_drewN ?_ _) | (with_reducible refine Kd.C_drew ?_))); (case side2 => exact HC1.out); rintro e w23 ⟨v315, rfl, ho0, hb⟩; refine ⟨_, rfl, ?_⟩; have n0_ := Aside0.mk (Kd.R_below (by (with_reducible repeat (first | apply Kd.R_alloc | apply Kd.R_drewN | apply Kd.R_drew)); exact HO306.out) hb); have n1_ := Aside0.mk (Kd.R_elder' (by (with_reducible repeat (first | apply Kd.R_alloc | apply Kd.R_drewN | apply Kd.R_drew)); exact HO311.out) (Kd.R_base ho0) hb); have n2_ := Aside0.mk (Kd.R_lower (Kd.R_new' ho0 (Kd.R_lt (by (with_reducible repeat (first | apply Kd.R_alloc | apply Kd.R_drewN | apply Kd.R_drew)); exact HO311.out))) (below_size (by repeat (first | (with_reducible first | exact HB.out | apply below_alloc | apply pw_below_drewN | apply below_drew1) | exact HB.out)))); have n3_ := Aside0.mk (below_step (by repeat (first | (with_reducible first | exact HB.out | apply below_alloc | apply pw_below_drewN | apply below_drew1) | exact HB.out)) hb); clear HO306; clear HO311; clear HB; have HO306 := n0_; have HO311 := n1_; have HO316 := n2_; have HB := n3_; clear n0_ n1_ n2_ n3_; (try clear hb); (try clear hb2); (try clear hk); (try clear hi); (try clear ho0); obtain ⟨Ao24, co24, eo24⟩ := Kd.R_slice HO311.out; subst eo24; obtain ⟨Ao25, co25, eo25⟩ := Kd.R_slice HO316.out; subst eo25) | ((with_reducible refine gate_callee (f := 13) rfl ?_); refine goesL_ (some 35) rfl rfl Try.func13 (by kernel_rfl) rfl #[.slice Ao24 t307.length co24, .slice Ao25 t312.length co25] rfl (by (try simp only [List.map_toArray, List.map_cons, List.map_nil]); first | done | rfl | (simp only [List.length_drop, List.length_take]; rfl)) ?_; (with_reducible refine (contangoref02_Same.calls k _ _ t307 _ _ t312 true _ ?side1 ?side2 ?side3 ?side4 A8.out).mono ?_); (case side1 => repeat (first | exact (Kd.R_reads' HO311.out).2.2 | (with_reducible refine Kd.C_alloc ?_ _) | (with_reducible refine Kd.C_drewN ?_ _) | (with_reducible refine Kd.C_drew ?_))); (case side2 => exact (Kd.R_reads' HO311.out).2.1); (case side3 => repeat (first | exact (Kd.R_reads' HO316.out).2.2 | (with_reducible refine Kd.C_alloc ?_ _) | (with_reducible refine Kd.C_drewN ?_ _) | (with_reducible refine Kd.C_drew ?_))); (case side4 => exact (Kd.R_reads' HO316.out).2.1); rintro e w' ⟨rfl, ⟨nd, rfl⟩⟩; refine ⟨_, rfl, ?_⟩) | (go_at_call 14; (with_reducible refine (waterfall_Check.calls k _ _ y304 t318 _ ?side1 ?side2 A12.out).mono ?_); (case side1 => repeat (first | exact (Kd.R_reads' HO306.out).2.2 | (with_reducible refine Kd.C_alloc ?_ _) | (with_reducible refine Kd.C_drewN ?_ _) | (with_reducible refine Kd.C_drew ?_))); (case side2 => exact (Kd.R_reads' HO306.out).2.1); rintro e w26 ⟨rfl, hb⟩; have n0_ := Aside0.mk (Kd.R_below (by (with_reducible repeat (first | apply Kd.R_alloc | apply Kd.R_drewN | apply Kd.R_drew)); exact HO306.out) hb); have n1_ := Aside0.mk (Kd.R_below (by (with_reducible repeat (first | apply Kd.R_alloc | apply Kd.R_drewN | apply Kd.R_drew)); exact HO311.out) hb); have n2_ := Aside0.mk (Kd.R_below (by (with_reducible repeat (first | apply Kd.R_alloc | apply Kd.R_drewN | apply Kd.R_drew)); exact HO316.out) hb); have n3_ := Aside0.mk (below_step (by repeat (first | (with_reducible first | exact HB.out | apply below_alloc | apply pw_below_drewN | apply below_drew1) | exact HB.out)) hb); clear HO306; clear HO311; clear HO316; clear HB; have HO306 := n0_; have HO311 := n1_; have HO316 := n2_; have HB := n3_; clear n0_ n1_ n2_ n3_; (try clear hb); (try clear hb2); (try clear hk); (try clear hi)) | (go_at_call 15; (with_reducible refine (contangoref47_Check.calls k _ _ l1 t319 _ ?side1 ?side2 A13.out).mono ?_); (case side1 => repeat (first | exact (Kd.C_below HR1.out HB.out) | (with_reducible refine Kd.C_alloc ?_ _) | (with_reducible refine Kd.C_drewN ?_ _) | (with_reducible refine Kd.C_drew ?_))); (case side2 => exact HC1.out); rintro e w27 ⟨rfl, hb⟩; have n0_ := Aside0.mk (Kd.R_below (by (with_reducible repeat (first | apply Kd.R_alloc | apply Kd.R_drewN | apply Kd.R_drew)); exact HO306.out) hb); have n1_ := Aside0.mk (Kd.R_below (by (with_reducible repeat (first | apply Kd.R_alloc | apply Kd.R_drewN | apply Kd.R_drew)); exact HO311.out) hb); have n2_ := Aside0.mk (Kd.R_below (by (with_reducible repeat (first | apply Kd.R_alloc | apply Kd.R_drewN | apply Kd.R_drew)); exact HO316.out) hb); have n3_ := Aside0.mk (below_step (by repeat (first | (with_reducible first | exact HB.out | apply below_alloc | apply pw_below_drewN | apply below_drew1) | exact HB.out)) hb); clear HO306; clear HO311; clear HO316; clear HB; have HO306 := n0_; have HO311 := n1_; have HO316 := n2_; have HB := n3_; clear n0_ n1_ n2_ n3_; (try clear hb); (try clear hb2); (try clear hk); (try clear hi)) | (go_at_call 16; (with_reducible refine (contangoref47_Same.calls k _ _ y304 _ _ l1 true _ ?side1 ?side2 ?side3 ?side4 A15.out).mono ?_); (case side1 => repeat (first | exact (Kd.R_reads' HO306.out).2.2 | (with_reducible refine Kd.C_alloc ?_ _) | (with_reducible refine Kd.C_drewN ?_ _) | (with_reducible refine Kd.C_drew ?_))); (case side2 => exact (Kd.R_reads' HO306.out).2.1); (case side3 => repeat (first | exact (Kd.C_below HR1.out HB.out) | (with_reducible refine Kd.C_alloc ?_ _) | (with_reducible refine Kd.C_drewN ?_ _) | (with_reducible refine Kd.C_drew ?_))); (case side4 => exact HC1.out); rintro e w' ⟨rfl, ⟨nd, rfl⟩⟩) | (go_at_call 10; (with_reducible refine (contangolaw47_goes.calls k  t321 _ A17.out).mono ?_); rintro e w28 ⟨rfl, hb⟩; have n0_ := Aside0.mk (Kd.R_below (by (with_reducible repeat (first | apply Kd.R_alloc | apply Kd.R_drewN | apply Kd.R_drew)); exact HO306.out) hb); have n1_ := Aside0.mk (Kd.R_below (by (with_reducible repeat (first | apply Kd.R_alloc | apply Kd.R_drewN | apply Kd.R_drew)); exact HO311.out) hb); have n2_ := Aside0.mk (Kd.R_below (by (with_reducible repeat (first | apply Kd.R_alloc | apply Kd.R_drewN | apply Kd.R_drew)); exact HO316.out) hb); have n3_ := Aside0.mk (below_step (by repeat (first | (with_reducible first | exact HB.out | apply below_alloc | apply pw_below_drewN | apply below_drew1) | exact HB.out)) hb); clear HO306; clear HO311; clear HO316; clear HB; have HO306 := n0_; have HO311 := n1_; have HO316 := n2_; have HB := n3_; clear n0_ n1_ n2_ n3_; (try clear hb); (try clear hb2); (try clear hk); (try clear hi)))
        go_ret
        exact ⟨by first | rfl | (simp [errW_none, errW_some] <;> rfl) | (simp [*, errW_none, errW_some] <;> rfl), by repeat (first | (with_reducible first | exact HB.out | apply below_alloc | apply pw_below_drewN | apply below_drew1) | exact HB.out)⟩
       ·replace c16 := Bool.eq_false_iff.mpr c16
        subst c16
        have H1 : (none) = some r := by rw [if_neg (show ¬ (false = true) by decide)] at H; exact H
        clear H
        have H := H1
        clear H1
        exact absurd H (by simp)
      ·rw [if_neg c14] at H
       exact absurd H (by simp)
     ·rw [if_neg c11] at H
      exact absurd H (by simp)
    ·rw [if_neg c10] at H
     exact absurd H (by simp)
   ·replace c9 := Bool.eq_false_iff.mpr c9
    subst c9
    have H1 : (none) = some r := by rw [if_neg (show ¬ (false = true) by decide)] at H; exact H
    clear H
    have H := H1
    clear H1
    exact absurd H (by simp)
  ·rw [if_neg c5] at H
   exact absurd H (by simp)
 ·replace c4 := Bool.eq_false_iff.mpr c4
  subst c4
  have H1 : ((contangolaw47_goes.f k).bind fun t300 => (some t300)) = some r := by rw [if_neg (show ¬ (false = true) by decide)] at H; exact H
  clear H
  have H := H1
  clear H1
  replace H := Option.bind_eq_some_iff.mp H
  obtain ⟨t300, A290, H⟩ := H
  replace H : (some t300) = some r := H
  have A29 := Aside0.mk A290
  clear A290
  obtain rfl := Option.some.inj H
  go_enter Try.func3, Try.ntmps3
  go_wp2_with (first | ((with_reducible refine gate_callee (f := 9) rfl ?_); refine goesL_ (some 13) rfl rfl Try.func9 (by kernel_rfl) rfl #[.slice A1 l1.length c1] rfl (by (try simp only [List.map_toArray, List.map_cons, List.map_nil]); first | done | rfl | (simp only [List.length_drop, List.length_take]; rfl)) ?_; (with_reducible refine (contangolaw47_few.calls _ _ l1 false _ ?side1 ?side2 A3.out).mono ?_); (case side1 => repeat (first | exact HR1.out | (with_reducible refine Kd.C_alloc ?_ _) | (with_reducible refine Kd.C_drewN ?_ _) | (with_reducible refine Kd.C_drew ?_))); (case side2 => exact HC1.out); rintro e w' ⟨rfl, ⟨nd, rfl⟩⟩; refine ⟨_, rfl, ?_⟩) | ((with_reducible refine gate_callee (f := 10) rfl ?_); refine goesL_ (some 15) rfl rfl Try.func10 (by kernel_rfl) rfl #[] rfl (by (try simp only [List.map_toArray, List.map_cons, List.map_nil]); first | done | rfl | (simp only [List.length_drop, List.length_take]; rfl)) ?_; (with_reducible refine (contangolaw47_goes.calls k  t300 _ A29.out).mono ?_); rintro e w30 ⟨rfl, hb⟩; refine ⟨_, rfl, ?_⟩; have n0_ := Aside0.mk (below_step (by repeat (first | (with_reducible first | exact HB.out | apply below_alloc | apply pw_below_drewN | apply below_drew1) | exact HB.out)) hb); clear HB; have HB := n0_; clear n0_; (try clear hb); (try clear hb2); (try clear hk); (try clear hi)))
  go_ret
  exact ⟨by first | rfl | (simp [errW_none, errW_some] <;> rfl) | (simp [*, errW_none, errW_some] <;> rfl), by repeat (first | (with_reducible first | exact HB.out | apply below_alloc | apply pw_below_drewN | apply below_drew1) | exact HB.out)⟩

end Go.Proofs.Ytfogpifjpnonnaa.PWaterfallTakes
