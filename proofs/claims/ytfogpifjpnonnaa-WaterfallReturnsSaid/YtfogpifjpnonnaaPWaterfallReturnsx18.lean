/- Laid for this claim by a program of this session's (wip/mkprint.py, wip/ext.py); not trusted: Lean checks it. -/
import Derived.Test.YtfogpifjpnonnaaPWaterfallReturnsx0
import Derived.Test.YtfogpifjpnonnaaPWaterfallReturnsx2
import Derived.Test.YtfogpifjpnonnaaPWaterfallReturnsx6
import Derived.Test.YtfogpifjpnonnaaPWaterfallReturnsx9
import Derived.Test.YtfogpifjpnonnaaPWaterfallReturnsx10
import Derived.Test.YtfogpifjpnonnaaPWaterfallReturnsx16
import Derived.Test.YtfogpifjpnonnaaPWaterfallReturnsx17
namespace Go.Proofs.Ytfogpifjpnonnaa.PWaterfallReturns
open Go.RowKit Go.Proofs.YtfogpifjpnonnaaW.PrintWords Go.Proofs.YtfogpifjpnonnaaW.PrintLast Go.Proofs.YtfogpifjpnonnaaW.PrintMore
attribute [local go_sem] max2_int min2_int max_two min_two max_three min_three max_four min_four   -- for this text's walks alone
set_option linter.unusedVariables false
set_option linter.unusedSimpArgs false

/-! ### cl47_WaterfallReturns: function 7 -/
def cl47_WaterfallReturns.j0 : Nat → Int → List (S37) → List Int → Bool → Option (Bool)
 | 0, _, _, _, _=>none
 | k + 1, x0, x1, x2, x25=>if x25 = true then ((cl47_goes.f k).bind fun t313=>(some t313)) else ((some (([] : List Int) : List Int)).bind fun y314=>(if y314.length + x2.length < 17592186044416 then ((some (y314 ++ x2 : List Int)).bind fun y317=>((waterfall_Return.f k x0 x1 y317).bind fun bt320=>((cr47_Return.f k x0 x1 x2).bind fun bt325=>((waterfall_Left.f k x1 y317).bind fun bt330=>((cr47_Left.f k x1 x2).bind fun bt334=>((cr02_Same.f k bt320.1 bt325.1).bind fun t338=>(if t338 = true then (if bt320.2.1 = bt325.2.1 then (if bt320.2.2 = bt325.2.2 then ((cr47_Same.f k bt330.1 bt334.1).bind fun t339=>(if t339 = true then (if bt330.2 = bt334.2 then ((cr02_Same.f k y317 x2).bind fun t340=>(if t340 = true then ((cl47_goes.f k).bind fun t341=>(some t341)) else (none))) else (none)) else (none))) else (none)) else (none)) else (none)))))))) else (none)))
def cl47_WaterfallReturns.f (k : Nat) (a0 : Int) (l1 : List (S37)) (l2 : List Int) : Option (Bool):=(cl47_few.f l1).bind fun t312=>(if t312 = true then (cl47_WaterfallReturns.j0 k a0 l1 l2 (decide ((l2.length : Int) > 1100))) else (cl47_WaterfallReturns.j0 k a0 l1 l2 true))
theorem cl47_WaterfallReturns.mono_l : ∀ k, (∀ y0 y1 y2 y3, LeO (cl47_WaterfallReturns.j0 k y0 y1 y2 y3) (cl47_WaterfallReturns.j0 (k + 1) y0 y1 y2 y3))
 | 0=>fun _ _ _ _ r h=>by simp [cl47_WaterfallReturns.j0] at h
 | k + 1=>by
  have ih0:=cl47_WaterfallReturns.mono_l k
  ·intro y0 y1 y2 y3
   unfold cl47_WaterfallReturns.j0
   repeat' first
   | (with_reducible exact ih0 _ _ _ _)
   | (with_reducible exact cl47_goes.mono _)
   | (with_reducible exact cr02_Same.mono _ _ _)
   | (with_reducible exact cr47_Left.mono _ _ _)
   | (with_reducible exact cr47_Return.mono _ _ _ _)
   | (with_reducible exact cr47_Same.mono _ _ _)
   | (with_reducible exact waterfall_Left.mono _ _ _)
   | (with_reducible exact waterfall_Return.mono _ _ _ _)
   | (with_reducible exact LeO.refl _)
   | (with_reducible exact LeO.none _)
   | (with_reducible refine LeO.ite ?_ ?_)
   | (with_reducible refine LeO.bind ?_ (fun _=>?_))
   | exact ih0 _ _ _ _
   | exact cl47_goes.mono _
   | exact cr02_Same.mono _ _ _
   | exact cr47_Left.mono _ _ _
   | exact cr47_Return.mono _ _ _ _
   | exact cr47_Same.mono _ _ _
   | exact waterfall_Left.mono _ _ _
   | exact waterfall_Return.mono _ _ _ _
   | exact LeO.none _
   | refine LeO.ite ?_ ?_
   | refine LeO.bind ?_ (fun _=>?_)
theorem cl47_WaterfallReturns.mono : ∀ a0 a1 a2 k, LeO (cl47_WaterfallReturns.f k a0 a1 a2) (cl47_WaterfallReturns.f (k + 1) a0 a1 a2):=by
 intro a0 a1 a2 k
 have ih0:=cl47_WaterfallReturns.mono_l k
 unfold cl47_WaterfallReturns.f
 repeat' first
   | (with_reducible exact ih0 _ _ _ _)
   | (with_reducible exact cl47_goes.mono _)
   | (with_reducible exact cr02_Same.mono _ _ _)
   | (with_reducible exact cr47_Left.mono _ _ _)
   | (with_reducible exact cr47_Return.mono _ _ _ _)
   | (with_reducible exact cr47_Same.mono _ _ _)
   | (with_reducible exact waterfall_Left.mono _ _ _)
   | (with_reducible exact waterfall_Return.mono _ _ _ _)
   | (with_reducible exact LeO.refl _)
   | (with_reducible exact LeO.none _)
   | (with_reducible refine LeO.ite ?_ ?_)
   | (with_reducible refine LeO.bind ?_ (fun _=>?_))
   | exact ih0 _ _ _ _
   | exact cl47_goes.mono _
   | exact cr02_Same.mono _ _ _
   | exact cr47_Left.mono _ _ _
   | exact cr47_Return.mono _ _ _ _
   | exact cr47_Same.mono _ _ _
   | exact waterfall_Left.mono _ _ _
   | exact waterfall_Return.mono _ _ _ _
   | exact LeO.none _
   | refine LeO.ite ?_ ?_
   | refine LeO.bind ?_ (fun _=>?_)
set_option maxHeartbeats 8000000 in
set_option maxRecDepth 100000 in
theorem cl47_WaterfallReturns.calls (k : Nat) (a0 : Int) (A1 : Option Addr) (c1 : Nat) (l1 : List (S37)) (A2 : Option Addr) (c2 : Nat) (l2 : List Int) (r : Bool) (w : World) (hr1 : Kd.C k37 w A1 l1.length l1) (hc1 : l1.length ≤ c1) (hr2 : Kd.C (Kd.int .i64) w A2 l2.length l2) (hc2 : l2.length ≤ c2) (h : cl47_WaterfallReturns.f k a0 l1 l2 = some r) :
  Calls Try.prog 7 #[.int .i64 a0, .slice A1 l1.length c1, .slice A2 l2.length c2] w fun e w'=>e = .returned (.bool r) ∧ Below w.heap.size w w':=by
 have HR1:=Aside0.mk hr1
 have HC1:=Aside0.mk hc1
 clear hr1 hc1
 have HR2:=Aside0.mk hr2
 have HC2:=Aside0.mk hc2
 clear hr2 hc2
 have HB:=Aside0.mk (Below.refl w.heap.size w)
 have H : ((cl47_few.f l1).bind fun t312=>(if t312 = true then (cl47_WaterfallReturns.j0 k a0 l1 l2 (decide ((l2.length : Int) > 1100))) else (cl47_WaterfallReturns.j0 k a0 l1 l2 true))) = some r:=h
 clear h
 have HC4:=Aside0.mk H
 clear H
 go_enter Try.func7, Try.ntmps7
 go_upto_region 1 with (fail)
 go_cut [25] (fun v25 wc=>∃ (kq : Nat) (x25_3 : Bool), v25 = .bool x25_3 ∧ Aside0 (cl47_WaterfallReturns.j0 kq a0 l1 l2 x25_3 = some r) ∧ Aside0 (kq ≤ k) ∧ Aside0 (Below w.heap.size w wc))
 case first =>
  have H:=HC4.out
  clear HC4
  replace H:=Option.bind_eq_some_iff.mp H
  obtain ⟨t312, A50, H⟩:=H
  replace H : (if t312 = true then (cl47_WaterfallReturns.j0 k a0 l1 l2 (decide ((l2.length : Int) > 1100))) else (cl47_WaterfallReturns.j0 k a0 l1 l2 true)) = some r:=H
  have A5:=Aside0.mk A50
  clear A50
  by_cases c6 : t312 = true
  ·subst c6
   have H1 : (cl47_WaterfallReturns.j0 k a0 l1 l2 (decide ((l2.length : Int) > 1100))) = some r:=by rw [if_pos rfl] at H;exact H
   clear H
   have H:=H1
   clear H1
   have H':=Aside0.mk H
   clear H
   go_wp2_with (first | ((with_reducible refine gate_callee (f:=9) rfl ?_);refine goesL_ (some 19) rfl rfl Try.func9 (by kernel_rfl) rfl #[.slice A1 l1.length c1] rfl (by (try simp only [List.map_toArray, List.map_cons, List.map_nil]);first | done | rfl | (simp only [List.length_drop, List.length_take];rfl)) ?_;(with_reducible refine (cl47_few.calls _ _ l1 true _ ?side1 ?side2 A5.out).mono ?_);(case side1=>repeat (first | exact (Kd.C_below HR1.out HB.out) | (with_reducible refine Kd.C_alloc ?_ _) | (with_reducible refine Kd.C_drewN ?_ _) | (with_reducible refine Kd.C_drew ?_)));(case side2=>exact HC1.out);rintro e w' ⟨rfl, ⟨nd, rfl⟩⟩;refine ⟨_, rfl, ?_⟩))
   go_meet
   case rel=>exact ⟨_, (decide ((l2.length : Int) > 1100)), (by first | rfl | (simp;done) | (simp [*];done)), H', ⟨by first | omega | exact Nat.le_refl _⟩, ⟨by repeat (first | (with_reducible first | exact HB.out | apply below_alloc | apply pw_below_drewN | apply below_drew1) | exact HB.out)⟩⟩
  ·replace c6:=Bool.eq_false_iff.mpr c6
   subst c6
   have H1 : (cl47_WaterfallReturns.j0 k a0 l1 l2 true) = some r:=by rw [if_neg (show ¬ (false = true) by decide)] at H;exact H
   clear H
   have H:=H1
   clear H1
   have H':=Aside0.mk H
   clear H
   go_wp2_with (first | ((with_reducible refine gate_callee (f:=9) rfl ?_);refine goesL_ (some 19) rfl rfl Try.func9 (by kernel_rfl) rfl #[.slice A1 l1.length c1] rfl (by (try simp only [List.map_toArray, List.map_cons, List.map_nil]);first | done | rfl | (simp only [List.length_drop, List.length_take];rfl)) ?_;(with_reducible refine (cl47_few.calls _ _ l1 false _ ?side1 ?side2 A5.out).mono ?_);(case side1=>repeat (first | exact (Kd.C_below HR1.out HB.out) | (with_reducible refine Kd.C_alloc ?_ _) | (with_reducible refine Kd.C_drewN ?_ _) | (with_reducible refine Kd.C_drew ?_)));(case side2=>exact HC1.out);rintro e w' ⟨rfl, ⟨nd, rfl⟩⟩;refine ⟨_, rfl, ?_⟩))
   go_meet
   case rel=>exact ⟨_, (true), (by first | rfl | (simp;done) | (simp [*];done)), H', ⟨by first | omega | exact Nat.le_refl _⟩, ⟨by repeat (first | (with_reducible first | exact HB.out | apply below_alloc | apply pw_below_drewN | apply below_drew1) | exact HB.out)⟩⟩
 case rest =>
  clear HC4
  try clear c1
  try clear c2
  try clear p2
  try clear c6
  obtain ⟨kq, x25_3, rfl, HA, HJ3, HB⟩:=hcut
  cases kq with
  | zero=>exact absurd HA.out (by simp [cl47_WaterfallReturns.j0])
  | succ kj3 =>
   have H:=HA.out
   clear HA
   simp only [cl47_WaterfallReturns.j0] at H
   by_cases c7 : x25_3 = true
   ·subst c7
    have H1 : ((cl47_goes.f kj3).bind fun t313=>(some t313)) = some r:=by rw [if_pos rfl] at H;exact H
    clear H
    have H:=H1
    clear H1
    replace H:=Option.bind_eq_some_iff.mp H
    obtain ⟨t313, A80, H⟩:=H
    replace H : (some t313) = some r:=H
    have A8:=Aside0.mk A80
    clear A80
    obtain rfl:=Option.some.inj H
    go_wp2_with (first | ((with_reducible refine gate_callee (f:=10) rfl ?_);refine goesL_ (some 26) rfl rfl Try.func10 (by kernel_rfl) rfl #[] rfl (by (try simp only [List.map_toArray, List.map_cons, List.map_nil]);first | done | rfl | (simp only [List.length_drop, List.length_take];rfl)) ?_;(with_reducible refine (cl47_goes.calls kj3  t313 _ A8.out).mono ?_);rintro e w9 ⟨rfl, hb⟩;refine ⟨_, rfl, ?_⟩;have n0_:=Aside0.mk (below_step (by repeat (first | (with_reducible first | exact HB.out | apply below_alloc | apply pw_below_drewN | apply below_drew1) | exact HB.out)) hb);clear HB;have HB:=n0_;clear n0_;(try clear hb);(try clear hb2);(try clear hk);(try clear hi)))
    go_ret
    exact ⟨by first | rfl | (simp [errW_none, errW_some] <;> rfl) | (simp [*, errW_none, errW_some] <;> rfl), by repeat (first | (with_reducible first | exact HB.out | apply below_alloc | apply pw_below_drewN | apply below_drew1) | exact HB.out)⟩
   ·replace c7:=Bool.eq_false_iff.mpr c7
    subst c7
    have H1 : ((some (([] : List Int) : List Int)).bind fun y314=>(if y314.length + l2.length < 17592186044416 then ((some (y314 ++ l2 : List Int)).bind fun y317=>((waterfall_Return.f kj3 a0 l1 y317).bind fun bt320=>((cr47_Return.f kj3 a0 l1 l2).bind fun bt325=>((waterfall_Left.f kj3 l1 y317).bind fun bt330=>((cr47_Left.f kj3 l1 l2).bind fun bt334=>((cr02_Same.f kj3 bt320.1 bt325.1).bind fun t338=>(if t338 = true then (if bt320.2.1 = bt325.2.1 then (if bt320.2.2 = bt325.2.2 then ((cr47_Same.f kj3 bt330.1 bt334.1).bind fun t339=>(if t339 = true then (if bt330.2 = bt334.2 then ((cr02_Same.f kj3 y317 l2).bind fun t340=>(if t340 = true then ((cl47_goes.f kj3).bind fun t341=>(some t341)) else (none))) else (none)) else (none))) else (none)) else (none)) else (none)))))))) else (none))) = some r:=by rw [if_neg (show ¬ (false = true) by decide)] at H;exact H
    clear H
    have H:=H1
    clear H1
    obtain ⟨y314, hy314⟩ : ∃ y_ : List Int, y_ = (([] : List Int)):=⟨_, rfl⟩
    replace H : (if y314.length + l2.length < 17592186044416 then ((some (y314 ++ l2 : List Int)).bind fun y317=>((waterfall_Return.f kj3 a0 l1 y317).bind fun bt320=>((cr47_Return.f kj3 a0 l1 l2).bind fun bt325=>((waterfall_Left.f kj3 l1 y317).bind fun bt330=>((cr47_Left.f kj3 l1 l2).bind fun bt334=>((cr02_Same.f kj3 bt320.1 bt325.1).bind fun t338=>(if t338 = true then (if bt320.2.1 = bt325.2.1 then (if bt320.2.2 = bt325.2.2 then ((cr47_Same.f kj3 bt330.1 bt334.1).bind fun t339=>(if t339 = true then (if bt330.2 = bt334.2 then ((cr02_Same.f kj3 y317 l2).bind fun t340=>(if t340 = true then ((cl47_goes.f kj3).bind fun t341=>(some t341)) else (none))) else (none)) else (none))) else (none)) else (none)) else (none)))))))) else (none)) = some r:=by first | (rw [hy314];with_reducible exact H) | (have H2_:=(Option.bind_some _ _).symm.trans H;rw [hy314];with_reducible exact H2_) | (have H2_:=(Option.bind_some _ _).symm.trans H;with_reducible exact H2_) | with_reducible exact H | (rw [hy314];exact H) | exact H
    have Ny314:=Aside0.mk hy314
    clear hy314
    by_cases c10 : y314.length + l2.length < 17592186044416
    ·rw [if_pos c10] at H
     have LMc10:=Aside0.mk c10
     clear c10
     obtain ⟨y317, hy317⟩ : ∃ y_ : List Int, y_ = (y314 ++ l2):=⟨_, rfl⟩
     replace H : ((waterfall_Return.f kj3 a0 l1 y317).bind fun bt320=>((cr47_Return.f kj3 a0 l1 l2).bind fun bt325=>((waterfall_Left.f kj3 l1 y317).bind fun bt330=>((cr47_Left.f kj3 l1 l2).bind fun bt334=>((cr02_Same.f kj3 bt320.1 bt325.1).bind fun t338=>(if t338 = true then (if bt320.2.1 = bt325.2.1 then (if bt320.2.2 = bt325.2.2 then ((cr47_Same.f kj3 bt330.1 bt334.1).bind fun t339=>(if t339 = true then (if bt330.2 = bt334.2 then ((cr02_Same.f kj3 y317 l2).bind fun t340=>(if t340 = true then ((cl47_goes.f kj3).bind fun t341=>(some t341)) else (none))) else (none)) else (none))) else (none)) else (none)) else (none))))))) = some r:=by first | (rw [hy317];with_reducible exact H) | (have H2_:=(Option.bind_some _ _).symm.trans H;rw [hy317];with_reducible exact H2_) | (have H2_:=(Option.bind_some _ _).symm.trans H;with_reducible exact H2_) | with_reducible exact H | (rw [hy317];exact H) | exact H
     have Ny317:=Aside0.mk hy317
     clear hy317
     replace H:=Option.bind_eq_some_iff.mp H
     obtain ⟨⟨t320, t321, t322⟩, A110, H⟩:=H
     replace H : ((cr47_Return.f kj3 a0 l1 l2).bind fun bt325=>((waterfall_Left.f kj3 l1 y317).bind fun bt330=>((cr47_Left.f kj3 l1 l2).bind fun bt334=>((cr02_Same.f kj3 t320 bt325.1).bind fun t338=>(if t338 = true then (if t321 = bt325.2.1 then (if t322 = bt325.2.2 then ((cr47_Same.f kj3 bt330.1 bt334.1).bind fun t339=>(if t339 = true then (if bt330.2 = bt334.2 then ((cr02_Same.f kj3 y317 l2).bind fun t340=>(if t340 = true then ((cl47_goes.f kj3).bind fun t341=>(some t341)) else (none))) else (none)) else (none))) else (none)) else (none)) else (none)))))) = some r:=H
     have A11:=Aside0.mk A110
     clear A110
     replace H:=Option.bind_eq_some_iff.mp H
     obtain ⟨⟨t325, t326, t327⟩, A120, H⟩:=H
     replace H : ((waterfall_Left.f kj3 l1 y317).bind fun bt330=>((cr47_Left.f kj3 l1 l2).bind fun bt334=>((cr02_Same.f kj3 t320 t325).bind fun t338=>(if t338 = true then (if t321 = t326 then (if t322 = t327 then ((cr47_Same.f kj3 bt330.1 bt334.1).bind fun t339=>(if t339 = true then (if bt330.2 = bt334.2 then ((cr02_Same.f kj3 y317 l2).bind fun t340=>(if t340 = true then ((cl47_goes.f kj3).bind fun t341=>(some t341)) else (none))) else (none)) else (none))) else (none)) else (none)) else (none))))) = some r:=H
     have A12:=Aside0.mk A120
     clear A120
     replace H:=Option.bind_eq_some_iff.mp H
     obtain ⟨⟨t330, t331⟩, A130, H⟩:=H
     replace H : ((cr47_Left.f kj3 l1 l2).bind fun bt334=>((cr02_Same.f kj3 t320 t325).bind fun t338=>(if t338 = true then (if t321 = t326 then (if t322 = t327 then ((cr47_Same.f kj3 t330 bt334.1).bind fun t339=>(if t339 = true then (if t331 = bt334.2 then ((cr02_Same.f kj3 y317 l2).bind fun t340=>(if t340 = true then ((cl47_goes.f kj3).bind fun t341=>(some t341)) else (none))) else (none)) else (none))) else (none)) else (none)) else (none)))) = some r:=H
     have A13:=Aside0.mk A130
     clear A130
     replace H:=Option.bind_eq_some_iff.mp H
     obtain ⟨⟨t334, t335⟩, A140, H⟩:=H
     replace H : ((cr02_Same.f kj3 t320 t325).bind fun t338=>(if t338 = true then (if t321 = t326 then (if t322 = t327 then ((cr47_Same.f kj3 t330 t334).bind fun t339=>(if t339 = true then (if t331 = t335 then ((cr02_Same.f kj3 y317 l2).bind fun t340=>(if t340 = true then ((cl47_goes.f kj3).bind fun t341=>(some t341)) else (none))) else (none)) else (none))) else (none)) else (none)) else (none))) = some r:=H
     have A14:=Aside0.mk A140
     clear A140
     replace H:=Option.bind_eq_some_iff.mp H
     obtain ⟨t338, A150, H⟩:=H
     replace H : (if t338 = true then (if t321 = t326 then (if t322 = t327 then ((cr47_Same.f kj3 t330 t334).bind fun t339=>(if t339 = true then (if t331 = t335 then ((cr02_Same.f kj3 y317 l2).bind fun t340=>(if t340 = true then ((cl47_goes.f kj3).bind fun t341=>(some t341)) else (none))) else (none)) else (none))) else (none)) else (none)) else (none)) = some r:=H
     have A15:=Aside0.mk A150
     clear A150
     by_cases c16 : t338 = true
     ·subst c16
      have H1 : (if t321 = t326 then (if t322 = t327 then ((cr47_Same.f kj3 t330 t334).bind fun t339=>(if t339 = true then (if t331 = t335 then ((cr02_Same.f kj3 y317 l2).bind fun t340=>(if t340 = true then ((cl47_goes.f kj3).bind fun t341=>(some t341)) else (none))) else (none)) else (none))) else (none)) else (none)) = some r:=by rw [if_pos rfl] at H;exact H
      clear H
      have H:=H1
      clear H1
      by_cases c17 : t321 = t326
      ·rw [if_pos c17] at H
       have c17b0 : (t321 == t326) = true:=beq_iff_eq.mpr c17
       have c17b1 : (t321 != t326) = false:=bne_eq_false_iff_eq.mpr c17
       clear c17
       by_cases c18 : t322 = t327
       ·rw [if_pos c18] at H
        have c18b0 : (t322 == t327) = true:=beq_iff_eq.mpr c18
        have c18b1 : (t322 != t327) = false:=bne_eq_false_iff_eq.mpr c18
        clear c18
        replace H:=Option.bind_eq_some_iff.mp H
        obtain ⟨t339, A190, H⟩:=H
        replace H : (if t339 = true then (if t331 = t335 then ((cr02_Same.f kj3 y317 l2).bind fun t340=>(if t340 = true then ((cl47_goes.f kj3).bind fun t341=>(some t341)) else (none))) else (none)) else (none)) = some r:=H
        have A19:=Aside0.mk A190
        clear A190
        by_cases c20 : t339 = true
        ·subst c20
         have H1 : (if t331 = t335 then ((cr02_Same.f kj3 y317 l2).bind fun t340=>(if t340 = true then ((cl47_goes.f kj3).bind fun t341=>(some t341)) else (none))) else (none)) = some r:=by rw [if_pos rfl] at H;exact H
         clear H
         have H:=H1
         clear H1
         by_cases c21 : t331 = t335
         ·rw [if_pos c21] at H
          have c21b0 : (t331 == t335) = true:=beq_iff_eq.mpr c21
          have c21b1 : (t331 != t335) = false:=bne_eq_false_iff_eq.mpr c21
          clear c21
          replace H:=Option.bind_eq_some_iff.mp H
          obtain ⟨t340, A220, H⟩:=H
          replace H : (if t340 = true then ((cl47_goes.f kj3).bind fun t341=>(some t341)) else (none)) = some r:=H
          have A22:=Aside0.mk A220
          clear A220
          by_cases c23 : t340 = true
          ·subst c23
           have H1 : ((cl47_goes.f kj3).bind fun t341=>(some t341)) = some r:=by rw [if_pos rfl] at H;exact H
           clear H
           have H:=H1
           clear H1
           replace H:=Option.bind_eq_some_iff.mp H
           obtain ⟨t341, A240, H⟩:=H
           replace H : (some t341) = some r:=H
           have A24:=Aside0.mk A240
           clear A240
           obtain rfl:=Option.some.inj H
           go_wp2_with (first | ((with_reducible refine gate_dst (N:=27) rfl ?_);(try (refine gate_guard (by rfl) ?_;dsimp only));refine Kd.R_lit (Kd.int .i64) _ 3 ?hg (N:=27) ?hd (xs:=([] : List Int)) (inner:=[]) (ok:=fun _=>True) (okp:=fun _=>True) ?hr ?hp (fun _ hk=>hk) trivial (Below.refl _ _) (Nat.le_refl _) (by simp) ?_;(case hd=>rfl);(case hg=>rfl);(case hr=>first | (go_simp;done) | (go_simp;rfl));(case hp=>exact (Reps.none _ _));intro v315 w25 ho26 hb hg_ hnew_;clear hg_ hnew_;(first | rw [← Ny314.out] at ho26 | (simp only [Int.reduceToNat] at ho26;rw [← Ny314.out] at ho26));have n0_:=Aside0.mk (Kd.R_lower ho26 (below_size (by repeat (first | (with_reducible first | exact HB.out | apply below_alloc | apply pw_below_drewN | apply below_drew1) | exact HB.out))));have n1_:=Aside0.mk (below_step (by repeat (first | (with_reducible first | exact HB.out | apply below_alloc | apply pw_below_drewN | apply below_drew1) | exact HB.out)) hb);clear HB;have HO316:=n0_;have HB:=n1_;clear n0_ n1_ hb ho26) | ((with_reducible refine gate_builtin (b:=.append) (xs:=#[.tmp 27, .tmp 28]) rfl ?_);(try (refine gate_guard (by rfl) ?_;dsimp only));at_builtin;refine Kd.R_append_rows (Kd.int .i64) (w0:=w) w.heap.size rfl (.tmp 27) (.tmp 28) 25 3 (.int .i64 0) 8 rfl Try.underlying25 info3 rfl (by decide) (by omega) v315 y314 l2 _ _ _ (fun _=>True) (fun _=>False) rfl rfl ?aO ?aR (fun _ _ h=>h) (fun _ h=>h.elim) ?aF ?aB ?aS ?aL ?_;(case aR=>repeat (first | exact (Kd.C_below HR2.out HB.out) | (with_reducible refine Kd.C_alloc ?_ _) | (with_reducible refine Kd.C_drewN ?_ _) | (with_reducible refine Kd.C_drew ?_)));(case aB=>exact (by repeat (first | (with_reducible first | exact HB.out | apply below_alloc | apply pw_below_drewN | apply below_drew1) | exact HB.out)));(case aF=>exact (fun _ _=>trivial));(case aO=>exact (by (with_reducible repeat (first | apply Kd.R_alloc | apply Kd.R_drewN | apply Kd.R_drew));exact HO316.out));(case aS=>exact (below_size (by repeat (first | (with_reducible first | exact HB.out | apply below_alloc | apply pw_below_drewN | apply below_drew1) | exact HB.out))));(case aL=>have:=LMc10.out;omega);intro v318 w27 ho hb hg hat;rw [← Ny317.out] at ho;have n0_:=Aside0.mk (hb);have n1_:=Aside0.mk (ho);clear HB HO316;have HB:=n0_;have HO319:=n1_;clear n0_ n1_ ho hb hg hat;obtain ⟨Ao28, co28, eo28⟩:=Kd.R_slice HO319.out;subst eo28) | ((with_reducible refine gate_callee (f:=20) rfl ?_);refine goesL_ (some 34) rfl rfl Try.func20 (by kernel_rfl) rfl #[.int .i64 a0, .slice A1 l1.length c1, .slice Ao28 y317.length co28] rfl (by (try simp only [List.map_toArray, List.map_cons, List.map_nil]);first | done | rfl | (simp only [List.length_drop, List.length_take];rfl)) ?_;(with_reducible refine (waterfall_Return.calls kj3 a0 _ _ l1 _ _ y317 t320 t321 t322 _ ?side1 ?side2 ?side3 ?side4 A11.out).mono ?_);(case side1=>repeat (first | exact (Kd.C_below HR1.out HB.out) | (with_reducible refine Kd.C_alloc ?_ _) | (with_reducible refine Kd.C_drewN ?_ _) | (with_reducible refine Kd.C_drew ?_)));(case side2=>exact HC1.out);(case side3=>repeat (first | exact (Kd.R_reads' HO319.out).2.2 | (with_reducible refine Kd.C_alloc ?_ _) | (with_reducible refine Kd.C_drewN ?_ _) | (with_reducible refine Kd.C_drew ?_)));(case side4=>exact (Kd.R_reads' HO319.out).2.1);rintro e w29 ⟨v323, rfl, ho0, hb⟩;refine ⟨_, rfl, ?_⟩;have n0_:=Aside0.mk (Kd.R_elder' (by (with_reducible repeat (first | apply Kd.R_alloc | apply Kd.R_drewN | apply Kd.R_drew));exact HO319.out) (Kd.R_base ho0) hb);have n1_:=Aside0.mk (Kd.R_lower (Kd.R_new' ho0 (Kd.R_lt (by (with_reducible repeat (first | apply Kd.R_alloc | apply Kd.R_drewN | apply Kd.R_drew));exact HO319.out))) (below_size (by repeat (first | (with_reducible first | exact HB.out | apply below_alloc | apply pw_below_drewN | apply below_drew1) | exact HB.out))));have n2_:=Aside0.mk (below_step (by repeat (first | (with_reducible first | exact HB.out | apply below_alloc | apply pw_below_drewN | apply below_drew1) | exact HB.out)) hb);clear HO319 HB;have HO319:=n0_;have HO324:=n1_;have HB:=n2_;clear n0_ n1_ n2_;(try clear hb);(try clear hb2);(try clear hk);(try clear hi);(try clear ho0)) | ((with_reducible refine gate_callee (f:=22) rfl ?_);refine goesL_ (some 42) rfl rfl Try.func22 (by kernel_rfl) rfl #[.int .i64 a0, .slice A1 l1.length c1, .slice A2 l2.length c2] rfl (by (try simp only [List.map_toArray, List.map_cons, List.map_nil]);first | done | rfl | (simp only [List.length_drop, List.length_take];rfl)) ?_;(with_reducible refine (cr47_Return.calls kj3 a0 _ _ l1 _ _ l2 t325 t326 t327 _ ?side1 ?side2 ?side3 ?side4 A12.out).mono ?_);(case side1=>repeat (first | exact (Kd.C_below HR1.out HB.out) | (with_reducible refine Kd.C_alloc ?_ _) | (with_reducible refine Kd.C_drewN ?_ _) | (with_reducible refine Kd.C_drew ?_)));(case side2=>exact HC1.out);(case side3=>repeat (first | exact (Kd.C_below HR2.out HB.out) | (with_reducible refine Kd.C_alloc ?_ _) | (with_reducible refine Kd.C_drewN ?_ _) | (with_reducible refine Kd.C_drew ?_)));(case side4=>exact HC2.out);rintro e w30 ⟨v328, rfl, ho0, hb⟩;refine ⟨_, rfl, ?_⟩;have n0_:=Aside0.mk (Kd.R_elder' (by (with_reducible repeat (first | apply Kd.R_alloc | apply Kd.R_drewN | apply Kd.R_drew));exact HO319.out) (Kd.R_base ho0) hb);have n1_:=Aside0.mk (Kd.R_elder' (by (with_reducible repeat (first | apply Kd.R_alloc | apply Kd.R_drewN | apply Kd.R_drew));exact HO324.out) (Kd.R_base ho0) hb);have n2_:=Aside0.mk (Kd.R_lower (Kd.R_new' (Kd.R_new' ho0 (Kd.R_lt (by (with_reducible repeat (first | apply Kd.R_alloc | apply Kd.R_drewN | apply Kd.R_drew));exact HO319.out))) (Kd.R_lt (by (with_reducible repeat (first | apply Kd.R_alloc | apply Kd.R_drewN | apply Kd.R_drew));exact HO324.out))) (below_size (by repeat (first | (with_reducible first | exact HB.out | apply below_alloc | apply pw_below_drewN | apply below_drew1) | exact HB.out))));have n3_:=Aside0.mk (below_step (by repeat (first | (with_reducible first | exact HB.out | apply below_alloc | apply pw_below_drewN | apply below_drew1) | exact HB.out)) hb);clear HO319 HO324 HB;have HO319:=n0_;have HO324:=n1_;have HO329:=n2_;have HB:=n3_;clear n0_ n1_ n2_ n3_;(try clear hb);(try clear hb2);(try clear hk);(try clear hi);(try clear ho0)) | ((with_reducible refine gate_callee (f:=23) rfl ?_);refine goesL_ (some 49) rfl rfl Try.func23 (by kernel_rfl) rfl #[.slice A1 l1.length c1, .slice Ao28 y317.length co28] rfl (by (try simp only [List.map_toArray, List.map_cons, List.map_nil]);first | done | rfl | (simp only [List.length_drop, List.length_take];rfl)) ?_;(with_reducible refine (waterfall_Left.calls kj3 _ _ l1 _ _ y317 t330 t331 _ ?side1 ?side2 ?side3 ?side4 A13.out).mono ?_);(case side1=>repeat (first | exact (Kd.C_below HR1.out HB.out) | (with_reducible refine Kd.C_alloc ?_ _) | (with_reducible refine Kd.C_drewN ?_ _) | (with_reducible refine Kd.C_drew ?_)));(case side2=>exact HC1.out);(case side3=>repeat (first | exact (Kd.R_reads' HO319.out).2.2 | (with_reducible refine Kd.C_alloc ?_ _) | (with_reducible refine Kd.C_drewN ?_ _) | (with_reducible refine Kd.C_drew ?_)));(case side4=>exact (Kd.R_reads' HO319.out).2.1);rintro e w31 ⟨v332, rfl, ho0, hb⟩;refine ⟨_, rfl, ?_⟩;have n0_:=Aside0.mk (Kd.R_below (by (with_reducible repeat (first | apply Kd.R_alloc | apply Kd.R_drewN | apply Kd.R_drew));exact HO319.out) hb);have n1_:=Aside0.mk (Kd.R_below (by (with_reducible repeat (first | apply Kd.R_alloc | apply Kd.R_drewN | apply Kd.R_drew));exact HO324.out) hb);have n2_:=Aside0.mk (Kd.R_below (by (with_reducible repeat (first | apply Kd.R_alloc | apply Kd.R_drewN | apply Kd.R_drew));exact HO329.out) hb);have n3_:=Aside0.mk (Kd.R_lower ho0 (below_size (by repeat (first | (with_reducible first | exact HB.out | apply below_alloc | apply pw_below_drewN | apply below_drew1) | exact HB.out))));have n4_:=Aside0.mk (below_step (by repeat (first | (with_reducible first | exact HB.out | apply below_alloc | apply pw_below_drewN | apply below_drew1) | exact HB.out)) hb);clear HO319 HO324 HO329 HB;have HO319:=n0_;have HO324:=n1_;have HO329:=n2_;have HO333:=n3_;have HB:=n4_;clear n0_ n1_ n2_ n3_ n4_;(try clear hb);(try clear hb2);(try clear hk);(try clear hi);(try clear ho0)) | ((with_reducible refine gate_callee (f:=24) rfl ?_);refine goesL_ (some 55) rfl rfl Try.func24 (by kernel_rfl) rfl #[.slice A1 l1.length c1, .slice A2 l2.length c2] rfl (by (try simp only [List.map_toArray, List.map_cons, List.map_nil]);first | done | rfl | (simp only [List.length_drop, List.length_take];rfl)) ?_;(with_reducible refine (cr47_Left.calls kj3 _ _ l1 _ _ l2 t334 t335 _ ?side1 ?side2 ?side3 ?side4 A14.out).mono ?_);(case side1=>repeat (first | exact (Kd.C_below HR1.out HB.out) | (with_reducible refine Kd.C_alloc ?_ _) | (with_reducible refine Kd.C_drewN ?_ _) | (with_reducible refine Kd.C_drew ?_)));(case side2=>exact HC1.out);(case side3=>repeat (first | exact (Kd.C_below HR2.out HB.out) | (with_reducible refine Kd.C_alloc ?_ _) | (with_reducible refine Kd.C_drewN ?_ _) | (with_reducible refine Kd.C_drew ?_)));(case side4=>exact HC2.out);rintro e w32 ⟨v336, rfl, ho0, hb⟩;refine ⟨_, rfl, ?_⟩;have n0_:=Aside0.mk (Kd.R_below (by (with_reducible repeat (first | apply Kd.R_alloc | apply Kd.R_drewN | apply Kd.R_drew));exact HO319.out) hb);have n1_:=Aside0.mk (Kd.R_below (by (with_reducible repeat (first | apply Kd.R_alloc | apply Kd.R_drewN | apply Kd.R_drew));exact HO324.out) hb);have n2_:=Aside0.mk (Kd.R_below (by (with_reducible repeat (first | apply Kd.R_alloc | apply Kd.R_drewN | apply Kd.R_drew));exact HO329.out) hb);have n3_:=Aside0.mk (Kd.R_elder' (by (with_reducible repeat (first | apply Kd.R_alloc | apply Kd.R_drewN | apply Kd.R_drew));exact HO333.out) (Kd.R_base ho0) hb);have n4_:=Aside0.mk (Kd.R_lower (Kd.R_new' ho0 (Kd.R_lt (by (with_reducible repeat (first | apply Kd.R_alloc | apply Kd.R_drewN | apply Kd.R_drew));exact HO333.out))) (below_size (by repeat (first | (with_reducible first | exact HB.out | apply below_alloc | apply pw_below_drewN | apply below_drew1) | exact HB.out))));have n5_:=Aside0.mk (below_step (by repeat (first | (with_reducible first | exact HB.out | apply below_alloc | apply pw_below_drewN | apply below_drew1) | exact HB.out)) hb);clear HO319 HO324 HO329 HO333 HB;have HO319:=n0_;have HO324:=n1_;have HO329:=n2_;have HO333:=n3_;have HO337:=n4_;have HB:=n5_;clear n0_ n1_ n2_ n3_ n4_ n5_;(try clear hb);(try clear hb2);(try clear hk);(try clear hi);(try clear ho0);obtain ⟨Ao33, co33, eo33⟩:=Kd.R_slice HO324.out;subst eo33;obtain ⟨Ao34, co34, eo34⟩:=Kd.R_slice HO329.out;subst eo34) | ((with_reducible refine gate_callee (f:=13) rfl ?_);refine goesL_ (some 60) rfl rfl Try.func13 (by kernel_rfl) rfl #[.slice Ao33 t320.length co33, .slice Ao34 t325.length co34] rfl (by (try simp only [List.map_toArray, List.map_cons, List.map_nil]);first | done | rfl | (simp only [List.length_drop, List.length_take];rfl)) ?_;(with_reducible refine (cr02_Same.calls kj3 _ _ t320 _ _ t325 true _ ?side1 ?side2 ?side3 ?side4 A15.out).mono ?_);(case side1=>repeat (first | exact (Kd.R_reads' HO324.out).2.2 | (with_reducible refine Kd.C_alloc ?_ _) | (with_reducible refine Kd.C_drewN ?_ _) | (with_reducible refine Kd.C_drew ?_)));(case side2=>exact (Kd.R_reads' HO324.out).2.1);(case side3=>repeat (first | exact (Kd.R_reads' HO329.out).2.2 | (with_reducible refine Kd.C_alloc ?_ _) | (with_reducible refine Kd.C_drewN ?_ _) | (with_reducible refine Kd.C_drew ?_)));(case side4=>exact (Kd.R_reads' HO329.out).2.1);rintro e w' ⟨rfl, ⟨nd, rfl⟩⟩;refine ⟨_, rfl, ?_⟩;obtain ⟨Ao35, co35, eo35⟩:=Kd.R_slice HO333.out;subst eo35;obtain ⟨Ao36, co36, eo36⟩:=Kd.R_slice HO337.out;subst eo36) | (go_at_call 16;(with_reducible refine (cr47_Same.calls kj3 _ _ t330 _ _ t334 true _ ?side1 ?side2 ?side3 ?side4 A19.out).mono ?_);(case side1=>repeat (first | exact (Kd.R_reads' HO333.out).2.2 | (with_reducible refine Kd.C_alloc ?_ _) | (with_reducible refine Kd.C_drewN ?_ _) | (with_reducible refine Kd.C_drew ?_)));(case side2=>exact (Kd.R_reads' HO333.out).2.1);(case side3=>repeat (first | exact (Kd.R_reads' HO337.out).2.2 | (with_reducible refine Kd.C_alloc ?_ _) | (with_reducible refine Kd.C_drewN ?_ _) | (with_reducible refine Kd.C_drew ?_)));(case side4=>exact (Kd.R_reads' HO337.out).2.1);rintro e w' ⟨rfl, ⟨nd, rfl⟩⟩) | (go_at_call 13;(with_reducible refine (cr02_Same.calls kj3 _ _ y317 _ _ l2 true _ ?side1 ?side2 ?side3 ?side4 A22.out).mono ?_);(case side1=>repeat (first | exact (Kd.R_reads' HO319.out).2.2 | (with_reducible refine Kd.C_alloc ?_ _) | (with_reducible refine Kd.C_drewN ?_ _) | (with_reducible refine Kd.C_drew ?_)));(case side2=>exact (Kd.R_reads' HO319.out).2.1);(case side3=>repeat (first | exact (Kd.C_below HR2.out (by repeat (first | (with_reducible first | exact HB.out | apply below_alloc | apply pw_below_drewN | apply below_drew1) | exact HB.out))) | (with_reducible refine Kd.C_alloc ?_ _) | (with_reducible refine Kd.C_drewN ?_ _) | (with_reducible refine Kd.C_drew ?_)));(case side4=>exact HC2.out);rintro e w' ⟨rfl, ⟨nd, rfl⟩⟩) | (go_at_call 10;(with_reducible refine (cl47_goes.calls kj3  t341 _ A24.out).mono ?_);rintro e w37 ⟨rfl, hb⟩;have n0_:=Aside0.mk (Kd.R_below (by (with_reducible repeat (first | apply Kd.R_alloc | apply Kd.R_drewN | apply Kd.R_drew));exact HO319.out) hb);have n1_:=Aside0.mk (Kd.R_below (by (with_reducible repeat (first | apply Kd.R_alloc | apply Kd.R_drewN | apply Kd.R_drew));exact HO324.out) hb);have n2_:=Aside0.mk (Kd.R_below (by (with_reducible repeat (first | apply Kd.R_alloc | apply Kd.R_drewN | apply Kd.R_drew));exact HO329.out) hb);have n3_:=Aside0.mk (Kd.R_below (by (with_reducible repeat (first | apply Kd.R_alloc | apply Kd.R_drewN | apply Kd.R_drew));exact HO333.out) hb);have n4_:=Aside0.mk (Kd.R_below (by (with_reducible repeat (first | apply Kd.R_alloc | apply Kd.R_drewN | apply Kd.R_drew));exact HO337.out) hb);have n5_:=Aside0.mk (below_step (by repeat (first | (with_reducible first | exact HB.out | apply below_alloc | apply pw_below_drewN | apply below_drew1) | exact HB.out)) hb);clear HO319 HO324 HO329 HO333 HO337 HB;have HO319:=n0_;have HO324:=n1_;have HO329:=n2_;have HO333:=n3_;have HO337:=n4_;have HB:=n5_;clear n0_ n1_ n2_ n3_ n4_ n5_;(try clear hb);(try clear hb2);(try clear hk);(try clear hi)))
           go_ret
           exact ⟨by first | rfl | (simp [errW_none, errW_some] <;> rfl) | (simp [*, errW_none, errW_some] <;> rfl), by repeat (first | (with_reducible first | exact HB.out | apply below_alloc | apply pw_below_drewN | apply below_drew1) | exact HB.out)⟩
          ·replace c23:=Bool.eq_false_iff.mpr c23
           subst c23
           have H1 : (none) = some r:=by rw [if_neg (show ¬ (false = true) by decide)] at H;exact H
           clear H
           have H:=H1
           clear H1
           exact absurd H (by simp)
         ·rw [if_neg c21] at H
          exact absurd H (by simp)
        ·replace c20:=Bool.eq_false_iff.mpr c20
         subst c20
         have H1 : (none) = some r:=by rw [if_neg (show ¬ (false = true) by decide)] at H;exact H
         clear H
         have H:=H1
         clear H1
         exact absurd H (by simp)
       ·rw [if_neg c18] at H
        exact absurd H (by simp)
      ·rw [if_neg c17] at H
       exact absurd H (by simp)
     ·replace c16:=Bool.eq_false_iff.mpr c16
      subst c16
      have H1 : (none) = some r:=by rw [if_neg (show ¬ (false = true) by decide)] at H;exact H
      clear H
      have H:=H1
      clear H1
      exact absurd H (by simp)
    ·rw [if_neg c10] at H
     exact absurd H (by simp)

end Go.Proofs.Ytfogpifjpnonnaa.PWaterfallReturns
