/- Laid for this claim by a program of this session's (wip/mkprint.py, wip/ext.py); not trusted: Lean checks it. -/
import Derived.Test.YtlcadahihcefnaaPTopAveragex0
import Derived.Test.YtlcadahihcefnaaPTopAveragex2
import Derived.Test.YtlcadahihcefnaaPTopAveragex3
namespace Go.Proofs.Ytlcadahihcefnaa.PTopAverage
open Go.RowKit Go.Proofs.YtlcadahihcefnaaW.PrintWords Go.Proofs.YtlcadahihcefnaaW.PrintLast Go.Proofs.YtlcadahihcefnaaW.PrintMore
attribute [local go_sem] max2_int min2_int max_two min_two max_three min_three max_four min_four   -- for this text's walks alone
set_option linter.unusedVariables false
set_option linter.unusedSimpArgs false

/-! ### product_Value: function 7 -/
def product_Value.f (k : Nat) (a0_0 : ByteArray) (a0_1 : Int) (a0_2 : Int) (a0_3 : Int) (a0_4 : Int) (a0_5 : Int) (a0_6 : Bool) (a1 : Int) (a2 : Int) : Option (Int × Int):=(product_Check.f k a0_0 a0_1 a0_2 a0_3 a0_4 a0_5 a0_6).bind fun t109=>(if t109 = 0 then ((product_within.f a1 33554432).bind fun t110=>(if t110 = true then ((product_within.f a2 1048576).bind fun t111=>(if t111 = true then (some (wrap64 ((wrap64 (a1 * a0_2)) * a2), 0)) else (some (0, 18)))) else (some (0, 17)))) else (some (0, t109)))
theorem product_Value.mono : ∀ a0 a1 a2 a3 a4 a5 a6 a7 a8 k, LeO (product_Value.f k a0 a1 a2 a3 a4 a5 a6 a7 a8) (product_Value.f (k + 1) a0 a1 a2 a3 a4 a5 a6 a7 a8):=by
 intro a0 a1 a2 a3 a4 a5 a6 a7 a8 k
 unfold product_Value.f
 repeat' first
   | (with_reducible exact product_Check.mono _ _ _ _ _ _ _ _)
   | (with_reducible exact LeO.refl _)
   | (with_reducible exact LeO.none _)
   | (with_reducible refine LeO.ite ?_ ?_)
   | (with_reducible refine LeO.bind ?_ (fun _=>?_))
   | exact product_Check.mono _ _ _ _ _ _ _ _
   | exact LeO.none _
   | refine LeO.ite ?_ ?_
   | refine LeO.bind ?_ (fun _=>?_)
set_option maxHeartbeats 8000000 in
set_option maxRecDepth 100000 in
theorem product_Value.calls (k : Nat) (a0_0 : ByteArray) (a0_1 : Int) (a0_2 : Int) (a0_3 : Int) (a0_4 : Int) (a0_5 : Int) (a0_6 : Bool) (a1 : Int) (a2 : Int) (r1 : Int) (r2 : Int) (w : World) (h : product_Value.f k a0_0 a0_1 a0_2 a0_3 a0_4 a0_5 a0_6 a1 a2 = some (r1, r2)) :
  Calls Try.prog 7 #[.agg #[.string a0_0, .int .i64 a0_1, .int .i64 a0_2, .int .i64 a0_3, .int .i64 a0_4, .int .i64 a0_5, .bool a0_6], .int .i64 a1, .int .i64 a2] w fun e w'=>e = .returned (.tuple #[.int .i64 r1, .int .i64 r2]) ∧ Below w.heap.size w w':=by
 have hu23:=Try.underlying23
 have HB:=Aside0.mk (Below.refl w.heap.size w)
 have H : ((product_Check.f k a0_0 a0_1 a0_2 a0_3 a0_4 a0_5 a0_6).bind fun t109=>(if t109 = 0 then ((product_within.f a1 33554432).bind fun t110=>(if t110 = true then ((product_within.f a2 1048576).bind fun t111=>(if t111 = true then (some (wrap64 ((wrap64 (a1 * a0_2)) * a2), 0)) else (some (0, 18)))) else (some (0, 17)))) else (some (0, t109)))) = some (r1, r2):=h
 clear h
 replace H:=Option.bind_eq_some_iff.mp H
 obtain ⟨t109, A40, H⟩:=H
 replace H : (if t109 = 0 then ((product_within.f a1 33554432).bind fun t110=>(if t110 = true then ((product_within.f a2 1048576).bind fun t111=>(if t111 = true then (some (wrap64 ((wrap64 (a1 * a0_2)) * a2), 0)) else (some (0, 18)))) else (some (0, 17)))) else (some (0, t109))) = some (r1, r2):=H
 have A4:=Aside0.mk A40
 clear A40
 by_cases c5 : t109 = 0
 ·rw [if_pos c5] at H
  have c5b0 : (t109 == 0) = true:=beq_iff_eq.mpr c5
  have c5b1 : (t109 != 0) = false:=bne_eq_false_iff_eq.mpr c5
  clear c5
  replace H:=Option.bind_eq_some_iff.mp H
  obtain ⟨t110, A60, H⟩:=H
  replace H : (if t110 = true then ((product_within.f a2 1048576).bind fun t111=>(if t111 = true then (some (wrap64 ((wrap64 (a1 * a0_2)) * a2), 0)) else (some (0, 18)))) else (some (0, 17))) = some (r1, r2):=H
  have A6:=Aside0.mk A60
  clear A60
  by_cases c7 : t110 = true
  ·subst c7
   have H1 : ((product_within.f a2 1048576).bind fun t111=>(if t111 = true then (some (wrap64 ((wrap64 (a1 * a0_2)) * a2), 0)) else (some (0, 18)))) = some (r1, r2):=by rw [if_pos rfl] at H;exact H
   clear H
   have H:=H1
   clear H1
   replace H:=Option.bind_eq_some_iff.mp H
   obtain ⟨t111, A80, H⟩:=H
   replace H : (if t111 = true then (some (wrap64 ((wrap64 (a1 * a0_2)) * a2), 0)) else (some (0, 18))) = some (r1, r2):=H
   have A8:=Aside0.mk A80
   clear A80
   by_cases c9 : t111 = true
   ·subst c9
    have H1 : (some (wrap64 ((wrap64 (a1 * a0_2)) * a2), 0)) = some (r1, r2):=by rw [if_pos rfl] at H;exact H
    clear H
    have H:=H1
    clear H1
    simp only [Option.some.injEq, Prod.mk.injEq] at H
    obtain ⟨rfl, rfl⟩:=H
    go_enter Try.func7, Try.ntmps7
    go_wp2_with (first | ((with_reducible refine gate_dst (N:=3) rfl ?_);refine box_event ?hg (N:=3) ?hd (cs:=#[.string a0_0, .int .i64 a0_1, .int .i64 a0_2, .int .i64 a0_3, .int .i64 a0_4, .int .i64 a0_5, .bool a0_6]) (t:=23) ?hr ?_;(case hd=>rfl);(case hg=>rfl);(case hr=>first | (go_simp;done) | (go_simp;rfl));intro gb108 hg w10 hbox hb;have n0_:=Aside0.mk (below_step (by repeat (first | (with_reducible first | exact HB.out | apply below_alloc | apply pw_below_drewN | apply below_drew1) | exact HB.out)) hb);have n1_:=Aside0.mk (hbox);have n2_:=Aside0.mk ((by rw [hg];exact (below_size (by repeat (first | (with_reducible first | exact HB.out | apply below_alloc | apply pw_below_drewN | apply below_drew1) | exact HB.out))) : w.heap.size ≤ gb108));have n3_:=Aside0.mk ((by rw [hg];exact (below_size (by repeat (first | (with_reducible first | exact HB.out | apply below_alloc | apply pw_below_drewN | apply below_drew1) | exact HB.out))) : w.heap.size ≤ gb108));clear HB;have HB:=n0_;have BK108:=n1_;have GW108:=n2_;have GE108:=n3_;clear n0_ n1_ n2_ n3_ hb hbox hg;have hcz11_0 : w10.cell? ⟨gb108, 0, none⟩ = some (.string a0_0):=(blk_cell BK108.out 0).trans rfl;have hcz11_1 : w10.cell? ⟨gb108, 1, none⟩ = some (.int .i64 a0_1):=(blk_cell BK108.out 1).trans rfl;have hcz11_2 : w10.cell? ⟨gb108, 2, none⟩ = some (.int .i64 a0_2):=(blk_cell BK108.out 2).trans rfl;have hcz11_3 : w10.cell? ⟨gb108, 3, none⟩ = some (.int .i64 a0_3):=(blk_cell BK108.out 3).trans rfl;have hcz11_4 : w10.cell? ⟨gb108, 4, none⟩ = some (.int .i64 a0_4):=(blk_cell BK108.out 4).trans rfl;have hcz11_5 : w10.cell? ⟨gb108, 5, none⟩ = some (.int .i64 a0_5):=(blk_cell BK108.out 5).trans rfl;have hcz11_6 : w10.cell? ⟨gb108, 6, none⟩ = some (.bool a0_6):=(blk_cell BK108.out 6).trans rfl;have hfz11_0:=blk_frozen BK108.out 0;have hfz11_1:=blk_frozen BK108.out 1;have hfz11_2:=blk_frozen BK108.out 2;have hfz11_3:=blk_frozen BK108.out 3;have hfz11_4:=blk_frozen BK108.out 4;have hfz11_5:=blk_frozen BK108.out 5;have hfz11_6:=blk_frozen BK108.out 6) | ((with_reducible refine gate_callee (f:=6) rfl ?_);refine goesL_ (some 10) rfl rfl Try.func6 (by kernel_rfl) rfl #[.agg #[.string a0_0, .int .i64 a0_1, .int .i64 a0_2, .int .i64 a0_3, .int .i64 a0_4, .int .i64 a0_5, .bool a0_6]] rfl (by (try simp only [List.map_toArray, List.map_cons, List.map_nil]);first | done | rfl | (simp only [List.length_drop, List.length_take];rfl)) ?_;(with_reducible refine (product_Check.calls k a0_0 a0_1 a0_2 a0_3 a0_4 a0_5 a0_6 t109 _ A4.out).mono ?_);rintro e w12 ⟨rfl, hb⟩;refine ⟨_, rfl, ?_⟩;have n0_:=Aside0.mk (blk_below (g:=gb108) (o:=.cells #[.string a0_0, .int .i64 a0_1, .int .i64 a0_2, .int .i64 a0_3, .int .i64 a0_4, .int .i64 a0_5, .bool a0_6] 23 (0, 0)) (by (with_reducible repeat (first | refine blk_drewN ?_ _ | refine blk_drew ?_ | refine blk_alloc ?_ _));exact BK108.out) hb);have n1_:=Aside0.mk (below_step (by repeat (first | (with_reducible first | exact HB.out | apply below_alloc | apply pw_below_drewN | apply below_drew1 | refine below_set ?_ GE108.out) | exact HB.out)) hb);clear BK108 HB;have BK108:=n0_;have HB:=n1_;clear n0_ n1_;(try clear hb);(try clear hb2);(try clear hk);(try clear hi)) | ((with_reducible refine gate_callee (f:=15) rfl ?_);refine goesL_ (some 15) rfl rfl Try.func15 (by kernel_rfl) rfl #[.int .i64 a1, .int .i64 33554432] rfl (by (try simp only [List.map_toArray, List.map_cons, List.map_nil]);first | done | rfl | (simp only [List.length_drop, List.length_take];rfl)) ?_;(with_reducible refine (product_within.calls a1 33554432 true _ A6.out).mono ?_);rintro e w' ⟨rfl, ⟨nd, rfl⟩⟩;refine ⟨_, rfl, ?_⟩) | ((with_reducible refine gate_callee (f:=15) rfl ?_);refine goesL_ (some 18) rfl rfl Try.func15 (by kernel_rfl) rfl #[.int .i64 a2, .int .i64 1048576] rfl (by (try simp only [List.map_toArray, List.map_cons, List.map_nil]);first | done | rfl | (simp only [List.length_drop, List.length_take];rfl)) ?_;(with_reducible refine (product_within.calls a2 1048576 true _ A8.out).mono ?_);rintro e w' ⟨rfl, ⟨nd, rfl⟩⟩;refine ⟨_, rfl, ?_⟩;have hcz13_0 : w12.cell? ⟨gb108, 0, none⟩ = some (.string a0_0):=(blk_cell BK108.out 0).trans rfl;have hcz13_1 : w12.cell? ⟨gb108, 1, none⟩ = some (.int .i64 a0_1):=(blk_cell BK108.out 1).trans rfl;have hcz13_2 : w12.cell? ⟨gb108, 2, none⟩ = some (.int .i64 a0_2):=(blk_cell BK108.out 2).trans rfl;have hcz13_3 : w12.cell? ⟨gb108, 3, none⟩ = some (.int .i64 a0_3):=(blk_cell BK108.out 3).trans rfl;have hcz13_4 : w12.cell? ⟨gb108, 4, none⟩ = some (.int .i64 a0_4):=(blk_cell BK108.out 4).trans rfl;have hcz13_5 : w12.cell? ⟨gb108, 5, none⟩ = some (.int .i64 a0_5):=(blk_cell BK108.out 5).trans rfl;have hcz13_6 : w12.cell? ⟨gb108, 6, none⟩ = some (.bool a0_6):=(blk_cell BK108.out 6).trans rfl;have hfz13_0:=blk_frozen BK108.out 0;have hfz13_1:=blk_frozen BK108.out 1;have hfz13_2:=blk_frozen BK108.out 2;have hfz13_3:=blk_frozen BK108.out 3;have hfz13_4:=blk_frozen BK108.out 4;have hfz13_5:=blk_frozen BK108.out 5;have hfz13_6:=blk_frozen BK108.out 6))
    go_ret2
    exact ⟨by first | rfl | (simp [errW_none, errW_some] <;> rfl) | (simp [*, errW_none, errW_some] <;> rfl), by repeat (first | (with_reducible first | exact HB.out | apply below_alloc | apply pw_below_drewN | apply below_drew1 | refine below_set ?_ GE108.out) | exact HB.out)⟩
   ·replace c9:=Bool.eq_false_iff.mpr c9
    subst c9
    have H1 : (some (0, 18)) = some (r1, r2):=by rw [if_neg (show ¬ (false = true) by decide)] at H;exact H
    clear H
    have H:=H1
    clear H1
    simp only [Option.some.injEq, Prod.mk.injEq] at H
    obtain ⟨rfl, rfl⟩:=H
    go_enter Try.func7, Try.ntmps7
    go_wp2_with (first | ((with_reducible refine gate_dst (N:=3) rfl ?_);refine box_event ?hg (N:=3) ?hd (cs:=#[.string a0_0, .int .i64 a0_1, .int .i64 a0_2, .int .i64 a0_3, .int .i64 a0_4, .int .i64 a0_5, .bool a0_6]) (t:=23) ?hr ?_;(case hd=>rfl);(case hg=>rfl);(case hr=>first | (go_simp;done) | (go_simp;rfl));intro gb108 hg w14 hbox hb;have n0_:=Aside0.mk (below_step (by repeat (first | (with_reducible first | exact HB.out | apply below_alloc | apply pw_below_drewN | apply below_drew1) | exact HB.out)) hb);have n1_:=Aside0.mk (hbox);have n2_:=Aside0.mk ((by rw [hg];exact (below_size (by repeat (first | (with_reducible first | exact HB.out | apply below_alloc | apply pw_below_drewN | apply below_drew1) | exact HB.out))) : w.heap.size ≤ gb108));have n3_:=Aside0.mk ((by rw [hg];exact (below_size (by repeat (first | (with_reducible first | exact HB.out | apply below_alloc | apply pw_below_drewN | apply below_drew1) | exact HB.out))) : w.heap.size ≤ gb108));clear HB;have HB:=n0_;have BK108:=n1_;have GW108:=n2_;have GE108:=n3_;clear n0_ n1_ n2_ n3_ hb hbox hg;have hcz15_0 : w14.cell? ⟨gb108, 0, none⟩ = some (.string a0_0):=(blk_cell BK108.out 0).trans rfl;have hcz15_1 : w14.cell? ⟨gb108, 1, none⟩ = some (.int .i64 a0_1):=(blk_cell BK108.out 1).trans rfl;have hcz15_2 : w14.cell? ⟨gb108, 2, none⟩ = some (.int .i64 a0_2):=(blk_cell BK108.out 2).trans rfl;have hcz15_3 : w14.cell? ⟨gb108, 3, none⟩ = some (.int .i64 a0_3):=(blk_cell BK108.out 3).trans rfl;have hcz15_4 : w14.cell? ⟨gb108, 4, none⟩ = some (.int .i64 a0_4):=(blk_cell BK108.out 4).trans rfl;have hcz15_5 : w14.cell? ⟨gb108, 5, none⟩ = some (.int .i64 a0_5):=(blk_cell BK108.out 5).trans rfl;have hcz15_6 : w14.cell? ⟨gb108, 6, none⟩ = some (.bool a0_6):=(blk_cell BK108.out 6).trans rfl;have hfz15_0:=blk_frozen BK108.out 0;have hfz15_1:=blk_frozen BK108.out 1;have hfz15_2:=blk_frozen BK108.out 2;have hfz15_3:=blk_frozen BK108.out 3;have hfz15_4:=blk_frozen BK108.out 4;have hfz15_5:=blk_frozen BK108.out 5;have hfz15_6:=blk_frozen BK108.out 6) | ((with_reducible refine gate_callee (f:=6) rfl ?_);refine goesL_ (some 10) rfl rfl Try.func6 (by kernel_rfl) rfl #[.agg #[.string a0_0, .int .i64 a0_1, .int .i64 a0_2, .int .i64 a0_3, .int .i64 a0_4, .int .i64 a0_5, .bool a0_6]] rfl (by (try simp only [List.map_toArray, List.map_cons, List.map_nil]);first | done | rfl | (simp only [List.length_drop, List.length_take];rfl)) ?_;(with_reducible refine (product_Check.calls k a0_0 a0_1 a0_2 a0_3 a0_4 a0_5 a0_6 t109 _ A4.out).mono ?_);rintro e w16 ⟨rfl, hb⟩;refine ⟨_, rfl, ?_⟩;have n0_:=Aside0.mk (blk_below (g:=gb108) (o:=.cells #[.string a0_0, .int .i64 a0_1, .int .i64 a0_2, .int .i64 a0_3, .int .i64 a0_4, .int .i64 a0_5, .bool a0_6] 23 (0, 0)) (by (with_reducible repeat (first | refine blk_drewN ?_ _ | refine blk_drew ?_ | refine blk_alloc ?_ _));exact BK108.out) hb);have n1_:=Aside0.mk (below_step (by repeat (first | (with_reducible first | exact HB.out | apply below_alloc | apply pw_below_drewN | apply below_drew1 | refine below_set ?_ GE108.out) | exact HB.out)) hb);clear BK108 HB;have BK108:=n0_;have HB:=n1_;clear n0_ n1_;(try clear hb);(try clear hb2);(try clear hk);(try clear hi)) | ((with_reducible refine gate_callee (f:=15) rfl ?_);refine goesL_ (some 15) rfl rfl Try.func15 (by kernel_rfl) rfl #[.int .i64 a1, .int .i64 33554432] rfl (by (try simp only [List.map_toArray, List.map_cons, List.map_nil]);first | done | rfl | (simp only [List.length_drop, List.length_take];rfl)) ?_;(with_reducible refine (product_within.calls a1 33554432 true _ A6.out).mono ?_);rintro e w' ⟨rfl, ⟨nd, rfl⟩⟩;refine ⟨_, rfl, ?_⟩) | ((with_reducible refine gate_callee (f:=15) rfl ?_);refine goesL_ (some 18) rfl rfl Try.func15 (by kernel_rfl) rfl #[.int .i64 a2, .int .i64 1048576] rfl (by (try simp only [List.map_toArray, List.map_cons, List.map_nil]);first | done | rfl | (simp only [List.length_drop, List.length_take];rfl)) ?_;(with_reducible refine (product_within.calls a2 1048576 false _ A8.out).mono ?_);rintro e w' ⟨rfl, ⟨nd, rfl⟩⟩;refine ⟨_, rfl, ?_⟩))
    go_ret2
    exact ⟨by first | rfl | (simp [errW_none, errW_some] <;> rfl) | (simp [*, errW_none, errW_some] <;> rfl), by repeat (first | (with_reducible first | exact HB.out | apply below_alloc | apply pw_below_drewN | apply below_drew1 | refine below_set ?_ GE108.out) | exact HB.out)⟩
  ·replace c7:=Bool.eq_false_iff.mpr c7
   subst c7
   have H1 : (some (0, 17)) = some (r1, r2):=by rw [if_neg (show ¬ (false = true) by decide)] at H;exact H
   clear H
   have H:=H1
   clear H1
   simp only [Option.some.injEq, Prod.mk.injEq] at H
   obtain ⟨rfl, rfl⟩:=H
   go_enter Try.func7, Try.ntmps7
   go_wp2_with (first | ((with_reducible refine gate_dst (N:=3) rfl ?_);refine box_event ?hg (N:=3) ?hd (cs:=#[.string a0_0, .int .i64 a0_1, .int .i64 a0_2, .int .i64 a0_3, .int .i64 a0_4, .int .i64 a0_5, .bool a0_6]) (t:=23) ?hr ?_;(case hd=>rfl);(case hg=>rfl);(case hr=>first | (go_simp;done) | (go_simp;rfl));intro gb108 hg w17 hbox hb;have n0_:=Aside0.mk (below_step (by repeat (first | (with_reducible first | exact HB.out | apply below_alloc | apply pw_below_drewN | apply below_drew1) | exact HB.out)) hb);have n1_:=Aside0.mk (hbox);have n2_:=Aside0.mk ((by rw [hg];exact (below_size (by repeat (first | (with_reducible first | exact HB.out | apply below_alloc | apply pw_below_drewN | apply below_drew1) | exact HB.out))) : w.heap.size ≤ gb108));have n3_:=Aside0.mk ((by rw [hg];exact (below_size (by repeat (first | (with_reducible first | exact HB.out | apply below_alloc | apply pw_below_drewN | apply below_drew1) | exact HB.out))) : w.heap.size ≤ gb108));clear HB;have HB:=n0_;have BK108:=n1_;have GW108:=n2_;have GE108:=n3_;clear n0_ n1_ n2_ n3_ hb hbox hg;have hcz18_0 : w17.cell? ⟨gb108, 0, none⟩ = some (.string a0_0):=(blk_cell BK108.out 0).trans rfl;have hcz18_1 : w17.cell? ⟨gb108, 1, none⟩ = some (.int .i64 a0_1):=(blk_cell BK108.out 1).trans rfl;have hcz18_2 : w17.cell? ⟨gb108, 2, none⟩ = some (.int .i64 a0_2):=(blk_cell BK108.out 2).trans rfl;have hcz18_3 : w17.cell? ⟨gb108, 3, none⟩ = some (.int .i64 a0_3):=(blk_cell BK108.out 3).trans rfl;have hcz18_4 : w17.cell? ⟨gb108, 4, none⟩ = some (.int .i64 a0_4):=(blk_cell BK108.out 4).trans rfl;have hcz18_5 : w17.cell? ⟨gb108, 5, none⟩ = some (.int .i64 a0_5):=(blk_cell BK108.out 5).trans rfl;have hcz18_6 : w17.cell? ⟨gb108, 6, none⟩ = some (.bool a0_6):=(blk_cell BK108.out 6).trans rfl;have hfz18_0:=blk_frozen BK108.out 0;have hfz18_1:=blk_frozen BK108.out 1;have hfz18_2:=blk_frozen BK108.out 2;have hfz18_3:=blk_frozen BK108.out 3;have hfz18_4:=blk_frozen BK108.out 4;have hfz18_5:=blk_frozen BK108.out 5;have hfz18_6:=blk_frozen BK108.out 6) | ((with_reducible refine gate_callee (f:=6) rfl ?_);refine goesL_ (some 10) rfl rfl Try.func6 (by kernel_rfl) rfl #[.agg #[.string a0_0, .int .i64 a0_1, .int .i64 a0_2, .int .i64 a0_3, .int .i64 a0_4, .int .i64 a0_5, .bool a0_6]] rfl (by (try simp only [List.map_toArray, List.map_cons, List.map_nil]);first | done | rfl | (simp only [List.length_drop, List.length_take];rfl)) ?_;(with_reducible refine (product_Check.calls k a0_0 a0_1 a0_2 a0_3 a0_4 a0_5 a0_6 t109 _ A4.out).mono ?_);rintro e w19 ⟨rfl, hb⟩;refine ⟨_, rfl, ?_⟩;have n0_:=Aside0.mk (blk_below (g:=gb108) (o:=.cells #[.string a0_0, .int .i64 a0_1, .int .i64 a0_2, .int .i64 a0_3, .int .i64 a0_4, .int .i64 a0_5, .bool a0_6] 23 (0, 0)) (by (with_reducible repeat (first | refine blk_drewN ?_ _ | refine blk_drew ?_ | refine blk_alloc ?_ _));exact BK108.out) hb);have n1_:=Aside0.mk (below_step (by repeat (first | (with_reducible first | exact HB.out | apply below_alloc | apply pw_below_drewN | apply below_drew1 | refine below_set ?_ GE108.out) | exact HB.out)) hb);clear BK108 HB;have BK108:=n0_;have HB:=n1_;clear n0_ n1_;(try clear hb);(try clear hb2);(try clear hk);(try clear hi)) | ((with_reducible refine gate_callee (f:=15) rfl ?_);refine goesL_ (some 15) rfl rfl Try.func15 (by kernel_rfl) rfl #[.int .i64 a1, .int .i64 33554432] rfl (by (try simp only [List.map_toArray, List.map_cons, List.map_nil]);first | done | rfl | (simp only [List.length_drop, List.length_take];rfl)) ?_;(with_reducible refine (product_within.calls a1 33554432 false _ A6.out).mono ?_);rintro e w' ⟨rfl, ⟨nd, rfl⟩⟩;refine ⟨_, rfl, ?_⟩))
   go_ret2
   exact ⟨by first | rfl | (simp [errW_none, errW_some] <;> rfl) | (simp [*, errW_none, errW_some] <;> rfl), by repeat (first | (with_reducible first | exact HB.out | apply below_alloc | apply pw_below_drewN | apply below_drew1 | refine below_set ?_ GE108.out) | exact HB.out)⟩
 ·rw [if_neg c5] at H
  have c5b0 : (t109 == 0) = false:=beq_eq_false_iff_ne.mpr c5
  have c5b1 : (t109 != 0) = true:=bne_iff_ne.mpr c5
  simp only [Option.some.injEq, Prod.mk.injEq] at H
  obtain ⟨rfl, rfl⟩:=H
  go_enter Try.func7, Try.ntmps7
  go_wp2_with (first | ((with_reducible refine gate_dst (N:=3) rfl ?_);refine box_event ?hg (N:=3) ?hd (cs:=#[.string a0_0, .int .i64 a0_1, .int .i64 a0_2, .int .i64 a0_3, .int .i64 a0_4, .int .i64 a0_5, .bool a0_6]) (t:=23) ?hr ?_;(case hd=>rfl);(case hg=>rfl);(case hr=>first | (go_simp;done) | (go_simp;rfl));intro gb108 hg w20 hbox hb;have n0_:=Aside0.mk (below_step (by repeat (first | (with_reducible first | exact HB.out | apply below_alloc | apply pw_below_drewN | apply below_drew1) | exact HB.out)) hb);have n1_:=Aside0.mk (hbox);have n2_:=Aside0.mk ((by rw [hg];exact (below_size (by repeat (first | (with_reducible first | exact HB.out | apply below_alloc | apply pw_below_drewN | apply below_drew1) | exact HB.out))) : w.heap.size ≤ gb108));have n3_:=Aside0.mk ((by rw [hg];exact (below_size (by repeat (first | (with_reducible first | exact HB.out | apply below_alloc | apply pw_below_drewN | apply below_drew1) | exact HB.out))) : w.heap.size ≤ gb108));clear HB;have HB:=n0_;have BK108:=n1_;have GW108:=n2_;have GE108:=n3_;clear n0_ n1_ n2_ n3_ hb hbox hg;have hcz21_0 : w20.cell? ⟨gb108, 0, none⟩ = some (.string a0_0):=(blk_cell BK108.out 0).trans rfl;have hcz21_1 : w20.cell? ⟨gb108, 1, none⟩ = some (.int .i64 a0_1):=(blk_cell BK108.out 1).trans rfl;have hcz21_2 : w20.cell? ⟨gb108, 2, none⟩ = some (.int .i64 a0_2):=(blk_cell BK108.out 2).trans rfl;have hcz21_3 : w20.cell? ⟨gb108, 3, none⟩ = some (.int .i64 a0_3):=(blk_cell BK108.out 3).trans rfl;have hcz21_4 : w20.cell? ⟨gb108, 4, none⟩ = some (.int .i64 a0_4):=(blk_cell BK108.out 4).trans rfl;have hcz21_5 : w20.cell? ⟨gb108, 5, none⟩ = some (.int .i64 a0_5):=(blk_cell BK108.out 5).trans rfl;have hcz21_6 : w20.cell? ⟨gb108, 6, none⟩ = some (.bool a0_6):=(blk_cell BK108.out 6).trans rfl;have hfz21_0:=blk_frozen BK108.out 0;have hfz21_1:=blk_frozen BK108.out 1;have hfz21_2:=blk_frozen BK108.out 2;have hfz21_3:=blk_frozen BK108.out 3;have hfz21_4:=blk_frozen BK108.out 4;have hfz21_5:=blk_frozen BK108.out 5;have hfz21_6:=blk_frozen BK108.out 6) | ((with_reducible refine gate_callee (f:=6) rfl ?_);refine goesL_ (some 10) rfl rfl Try.func6 (by kernel_rfl) rfl #[.agg #[.string a0_0, .int .i64 a0_1, .int .i64 a0_2, .int .i64 a0_3, .int .i64 a0_4, .int .i64 a0_5, .bool a0_6]] rfl (by (try simp only [List.map_toArray, List.map_cons, List.map_nil]);first | done | rfl | (simp only [List.length_drop, List.length_take];rfl)) ?_;(with_reducible refine (product_Check.calls k a0_0 a0_1 a0_2 a0_3 a0_4 a0_5 a0_6 t109 _ A4.out).mono ?_);rintro e w22 ⟨rfl, hb⟩;refine ⟨_, rfl, ?_⟩;have n0_:=Aside0.mk (blk_below (g:=gb108) (o:=.cells #[.string a0_0, .int .i64 a0_1, .int .i64 a0_2, .int .i64 a0_3, .int .i64 a0_4, .int .i64 a0_5, .bool a0_6] 23 (0, 0)) (by (with_reducible repeat (first | refine blk_drewN ?_ _ | refine blk_drew ?_ | refine blk_alloc ?_ _));exact BK108.out) hb);have n1_:=Aside0.mk (below_step (by repeat (first | (with_reducible first | exact HB.out | apply below_alloc | apply pw_below_drewN | apply below_drew1 | refine below_set ?_ GE108.out) | exact HB.out)) hb);clear BK108 HB;have BK108:=n0_;have HB:=n1_;clear n0_ n1_;(try clear hb);(try clear hb2);(try clear hk);(try clear hi)))
  go_ret2
  exact ⟨by first | rfl | (simp [errW_none, errW_some] <;> rfl) | (simp [*, errW_none, errW_some] <;> rfl), by repeat (first | (with_reducible first | exact HB.out | apply below_alloc | apply pw_below_drewN | apply below_drew1 | refine below_set ?_ GE108.out) | exact HB.out)⟩

/-! ### vary_price: function 35 -/
def vary_price.f (a0 : Int) : Option (Bool):=if a0 ≥ (-16777216) then (some (decide (a0 ≤ 16777216))) else (some false)
set_option maxHeartbeats 8000000 in
set_option maxRecDepth 100000 in
theorem vary_price.calls (a0 : Int) (r : Bool) (w : World) (h : vary_price.f a0 = some r) :
  Calls Try.prog 35 #[.int .i64 a0] w fun e w'=>e = .returned (.bool r) ∧ Drawn0 w w':=by
 have H : (if a0 ≥ (-16777216) then (some (decide (a0 ≤ 16777216))) else (some false)) = some r:=h
 clear h
 by_cases c2 : a0 ≥ (-16777216)
 ·rw [if_pos c2] at H
  have c2b0 : decide ((-16777216) ≤ a0) = true:=decide_eq_true c2
  clear c2
  obtain rfl:=Option.some.inj H
  go_enter Try.func35, Try.ntmps35
  go_wp2
  go_ret
  exact ⟨by first | rfl | (simp;done) | (simp [*];done), by repeat (first | exact Drawn0.refl _ | apply Drawn0.step)⟩
 ·rw [if_neg c2] at H
  have c2b0 : decide ((-16777216) ≤ a0) = false:=decide_eq_false c2
  clear c2
  obtain rfl:=Option.some.inj H
  go_enter Try.func35, Try.ntmps35
  go_wp2
  go_ret
  exact ⟨by first | rfl | (simp;done) | (simp [*];done), by repeat (first | exact Drawn0.refl _ | apply Drawn0.step)⟩

/-! ### vary_change: function 21 -/
def vary_change.f (k : Nat) (a0_0 : ByteArray) (a0_1 : Int) (a0_2 : Int) (a0_3 : Int) (a0_4 : Int) (a0_5 : Int) (a0_6 : Bool) (a1 : Int) (a2 : Int) (a3 : Int) : Option (Int × Int):=(product_Check.f k a0_0 a0_1 a0_2 a0_3 a0_4 a0_5 a0_6).bind fun t113=>(if t113 = 0 then ((vary_price.f a2).bind fun t114=>(if t114 = true then ((vary_price.f a3).bind fun t115=>(if t115 = true then ((product_Value.f k a0_0 a0_1 a0_2 a0_3 a0_4 a0_5 a0_6 (wrap64 (a3 - a2)) a1).bind fun bt116=>(some (bt116.1, bt116.2))) else (some (0, 17)))) else (some (0, 17)))) else (some (0, t113)))
theorem vary_change.mono : ∀ a0 a1 a2 a3 a4 a5 a6 a7 a8 a9 k, LeO (vary_change.f k a0 a1 a2 a3 a4 a5 a6 a7 a8 a9) (vary_change.f (k + 1) a0 a1 a2 a3 a4 a5 a6 a7 a8 a9):=by
 intro a0 a1 a2 a3 a4 a5 a6 a7 a8 a9 k
 unfold vary_change.f
 repeat' first
   | (with_reducible exact product_Check.mono _ _ _ _ _ _ _ _)
   | (with_reducible exact product_Value.mono _ _ _ _ _ _ _ _ _ _)
   | (with_reducible exact LeO.refl _)
   | (with_reducible exact LeO.none _)
   | (with_reducible refine LeO.ite ?_ ?_)
   | (with_reducible refine LeO.bind ?_ (fun _=>?_))
   | exact product_Check.mono _ _ _ _ _ _ _ _
   | exact product_Value.mono _ _ _ _ _ _ _ _ _ _
   | exact LeO.none _
   | refine LeO.ite ?_ ?_
   | refine LeO.bind ?_ (fun _=>?_)
set_option maxHeartbeats 8000000 in
set_option maxRecDepth 100000 in
theorem vary_change.calls (k : Nat) (a0_0 : ByteArray) (a0_1 : Int) (a0_2 : Int) (a0_3 : Int) (a0_4 : Int) (a0_5 : Int) (a0_6 : Bool) (a1 : Int) (a2 : Int) (a3 : Int) (r1 : Int) (r2 : Int) (w : World) (h : vary_change.f k a0_0 a0_1 a0_2 a0_3 a0_4 a0_5 a0_6 a1 a2 a3 = some (r1, r2)) :
  Calls Try.prog 21 #[.agg #[.string a0_0, .int .i64 a0_1, .int .i64 a0_2, .int .i64 a0_3, .int .i64 a0_4, .int .i64 a0_5, .bool a0_6], .int .i64 a1, .int .i64 a2, .int .i64 a3] w fun e w'=>e = .returned (.tuple #[.int .i64 r1, .int .i64 r2]) ∧ Below w.heap.size w w':=by
 have hu23:=Try.underlying23
 have HB:=Aside0.mk (Below.refl w.heap.size w)
 have H : ((product_Check.f k a0_0 a0_1 a0_2 a0_3 a0_4 a0_5 a0_6).bind fun t113=>(if t113 = 0 then ((vary_price.f a2).bind fun t114=>(if t114 = true then ((vary_price.f a3).bind fun t115=>(if t115 = true then ((product_Value.f k a0_0 a0_1 a0_2 a0_3 a0_4 a0_5 a0_6 (wrap64 (a3 - a2)) a1).bind fun bt116=>(some (bt116.1, bt116.2))) else (some (0, 17)))) else (some (0, 17)))) else (some (0, t113)))) = some (r1, r2):=h
 clear h
 replace H:=Option.bind_eq_some_iff.mp H
 obtain ⟨t113, A50, H⟩:=H
 replace H : (if t113 = 0 then ((vary_price.f a2).bind fun t114=>(if t114 = true then ((vary_price.f a3).bind fun t115=>(if t115 = true then ((product_Value.f k a0_0 a0_1 a0_2 a0_3 a0_4 a0_5 a0_6 (wrap64 (a3 - a2)) a1).bind fun bt116=>(some (bt116.1, bt116.2))) else (some (0, 17)))) else (some (0, 17)))) else (some (0, t113))) = some (r1, r2):=H
 have A5:=Aside0.mk A50
 clear A50
 by_cases c6 : t113 = 0
 ·rw [if_pos c6] at H
  have c6b0 : (t113 == 0) = true:=beq_iff_eq.mpr c6
  have c6b1 : (t113 != 0) = false:=bne_eq_false_iff_eq.mpr c6
  clear c6
  replace H:=Option.bind_eq_some_iff.mp H
  obtain ⟨t114, A70, H⟩:=H
  replace H : (if t114 = true then ((vary_price.f a3).bind fun t115=>(if t115 = true then ((product_Value.f k a0_0 a0_1 a0_2 a0_3 a0_4 a0_5 a0_6 (wrap64 (a3 - a2)) a1).bind fun bt116=>(some (bt116.1, bt116.2))) else (some (0, 17)))) else (some (0, 17))) = some (r1, r2):=H
  have A7:=Aside0.mk A70
  clear A70
  by_cases c8 : t114 = true
  ·subst c8
   have H1 : ((vary_price.f a3).bind fun t115=>(if t115 = true then ((product_Value.f k a0_0 a0_1 a0_2 a0_3 a0_4 a0_5 a0_6 (wrap64 (a3 - a2)) a1).bind fun bt116=>(some (bt116.1, bt116.2))) else (some (0, 17)))) = some (r1, r2):=by rw [if_pos rfl] at H;exact H
   clear H
   have H:=H1
   clear H1
   replace H:=Option.bind_eq_some_iff.mp H
   obtain ⟨t115, A90, H⟩:=H
   replace H : (if t115 = true then ((product_Value.f k a0_0 a0_1 a0_2 a0_3 a0_4 a0_5 a0_6 (wrap64 (a3 - a2)) a1).bind fun bt116=>(some (bt116.1, bt116.2))) else (some (0, 17))) = some (r1, r2):=H
   have A9:=Aside0.mk A90
   clear A90
   by_cases c10 : t115 = true
   ·subst c10
    have H1 : ((product_Value.f k a0_0 a0_1 a0_2 a0_3 a0_4 a0_5 a0_6 (wrap64 (a3 - a2)) a1).bind fun bt116=>(some (bt116.1, bt116.2))) = some (r1, r2):=by rw [if_pos rfl] at H;exact H
    clear H
    have H:=H1
    clear H1
    replace H:=Option.bind_eq_some_iff.mp H
    obtain ⟨⟨t116, t117⟩, A110, H⟩:=H
    replace H : (some (t116, t117)) = some (r1, r2):=H
    have A11:=Aside0.mk A110
    clear A110
    simp only [Option.some.injEq, Prod.mk.injEq] at H
    obtain ⟨rfl, rfl⟩:=H
    go_enter Try.func21, Try.ntmps21
    go_wp2_with (first | ((with_reducible refine gate_dst (N:=4) rfl ?_);refine box_event ?hg (N:=4) ?hd (cs:=#[.string a0_0, .int .i64 a0_1, .int .i64 a0_2, .int .i64 a0_3, .int .i64 a0_4, .int .i64 a0_5, .bool a0_6]) (t:=23) ?hr ?_;(case hd=>rfl);(case hg=>rfl);(case hr=>first | (go_simp;done) | (go_simp;rfl));intro gb112 hg w12 hbox hb;have n0_:=Aside0.mk (below_step (by repeat (first | (with_reducible first | exact HB.out | apply below_alloc | apply pw_below_drewN | apply below_drew1) | exact HB.out)) hb);have n1_:=Aside0.mk (hbox);have n2_:=Aside0.mk ((by rw [hg];exact (below_size (by repeat (first | (with_reducible first | exact HB.out | apply below_alloc | apply pw_below_drewN | apply below_drew1) | exact HB.out))) : w.heap.size ≤ gb112));have n3_:=Aside0.mk ((by rw [hg];exact (below_size (by repeat (first | (with_reducible first | exact HB.out | apply below_alloc | apply pw_below_drewN | apply below_drew1) | exact HB.out))) : w.heap.size ≤ gb112));clear HB;have HB:=n0_;have BK112:=n1_;have GW112:=n2_;have GE112:=n3_;clear n0_ n1_ n2_ n3_ hb hbox hg;have hcz13_0 : w12.cell? ⟨gb112, 0, none⟩ = some (.string a0_0):=(blk_cell BK112.out 0).trans rfl;have hcz13_1 : w12.cell? ⟨gb112, 1, none⟩ = some (.int .i64 a0_1):=(blk_cell BK112.out 1).trans rfl;have hcz13_2 : w12.cell? ⟨gb112, 2, none⟩ = some (.int .i64 a0_2):=(blk_cell BK112.out 2).trans rfl;have hcz13_3 : w12.cell? ⟨gb112, 3, none⟩ = some (.int .i64 a0_3):=(blk_cell BK112.out 3).trans rfl;have hcz13_4 : w12.cell? ⟨gb112, 4, none⟩ = some (.int .i64 a0_4):=(blk_cell BK112.out 4).trans rfl;have hcz13_5 : w12.cell? ⟨gb112, 5, none⟩ = some (.int .i64 a0_5):=(blk_cell BK112.out 5).trans rfl;have hcz13_6 : w12.cell? ⟨gb112, 6, none⟩ = some (.bool a0_6):=(blk_cell BK112.out 6).trans rfl;have hfz13_0:=blk_frozen BK112.out 0;have hfz13_1:=blk_frozen BK112.out 1;have hfz13_2:=blk_frozen BK112.out 2;have hfz13_3:=blk_frozen BK112.out 3;have hfz13_4:=blk_frozen BK112.out 4;have hfz13_5:=blk_frozen BK112.out 5;have hfz13_6:=blk_frozen BK112.out 6) | ((with_reducible refine gate_callee (f:=6) rfl ?_);refine goesL_ (some 12) rfl rfl Try.func6 (by kernel_rfl) rfl #[.agg #[.string a0_0, .int .i64 a0_1, .int .i64 a0_2, .int .i64 a0_3, .int .i64 a0_4, .int .i64 a0_5, .bool a0_6]] rfl (by (try simp only [List.map_toArray, List.map_cons, List.map_nil]);first | done | rfl | (simp only [List.length_drop, List.length_take];rfl)) ?_;(with_reducible refine (product_Check.calls k a0_0 a0_1 a0_2 a0_3 a0_4 a0_5 a0_6 t113 _ A5.out).mono ?_);rintro e w14 ⟨rfl, hb⟩;refine ⟨_, rfl, ?_⟩;have n0_:=Aside0.mk (blk_below (g:=gb112) (o:=.cells #[.string a0_0, .int .i64 a0_1, .int .i64 a0_2, .int .i64 a0_3, .int .i64 a0_4, .int .i64 a0_5, .bool a0_6] 23 (0, 0)) (by (with_reducible repeat (first | refine blk_drewN ?_ _ | refine blk_drew ?_ | refine blk_alloc ?_ _));exact BK112.out) hb);have n1_:=Aside0.mk (below_step (by repeat (first | (with_reducible first | exact HB.out | apply below_alloc | apply pw_below_drewN | apply below_drew1 | refine below_set ?_ GE112.out) | exact HB.out)) hb);clear BK112 HB;have BK112:=n0_;have HB:=n1_;clear n0_ n1_;(try clear hb);(try clear hb2);(try clear hk);(try clear hi)) | ((with_reducible refine gate_callee (f:=35) rfl ?_);refine goesL_ (some 17) rfl rfl Try.func35 (by kernel_rfl) rfl #[.int .i64 a2] rfl (by (try simp only [List.map_toArray, List.map_cons, List.map_nil]);first | done | rfl | (simp only [List.length_drop, List.length_take];rfl)) ?_;(with_reducible refine (vary_price.calls a2 true _ A7.out).mono ?_);rintro e w' ⟨rfl, ⟨nd, rfl⟩⟩;refine ⟨_, rfl, ?_⟩) | (go_at_call 35;(with_reducible refine (vary_price.calls a3 true _ A9.out).mono ?_);rintro e w' ⟨rfl, ⟨nd, rfl⟩⟩;have hcz15_0 : w14.cell? ⟨gb112, 0, none⟩ = some (.string a0_0):=(blk_cell BK112.out 0).trans rfl;have hcz15_1 : w14.cell? ⟨gb112, 1, none⟩ = some (.int .i64 a0_1):=(blk_cell BK112.out 1).trans rfl;have hcz15_2 : w14.cell? ⟨gb112, 2, none⟩ = some (.int .i64 a0_2):=(blk_cell BK112.out 2).trans rfl;have hcz15_3 : w14.cell? ⟨gb112, 3, none⟩ = some (.int .i64 a0_3):=(blk_cell BK112.out 3).trans rfl;have hcz15_4 : w14.cell? ⟨gb112, 4, none⟩ = some (.int .i64 a0_4):=(blk_cell BK112.out 4).trans rfl;have hcz15_5 : w14.cell? ⟨gb112, 5, none⟩ = some (.int .i64 a0_5):=(blk_cell BK112.out 5).trans rfl;have hcz15_6 : w14.cell? ⟨gb112, 6, none⟩ = some (.bool a0_6):=(blk_cell BK112.out 6).trans rfl;have hfz15_0:=blk_frozen BK112.out 0;have hfz15_1:=blk_frozen BK112.out 1;have hfz15_2:=blk_frozen BK112.out 2;have hfz15_3:=blk_frozen BK112.out 3;have hfz15_4:=blk_frozen BK112.out 4;have hfz15_5:=blk_frozen BK112.out 5;have hfz15_6:=blk_frozen BK112.out 6) | ((with_reducible refine gate_callee (f:=7) rfl ?_);refine goesL_ (some 29) rfl rfl Try.func7 (by kernel_rfl) rfl #[.agg #[.string a0_0, .int .i64 a0_1, .int .i64 a0_2, .int .i64 a0_3, .int .i64 a0_4, .int .i64 a0_5, .bool a0_6], .int .i64 (wrap64 (a3 - a2)), .int .i64 a1] rfl (by (try simp only [List.map_toArray, List.map_cons, List.map_nil]);first | done | rfl | (simp only [List.length_drop, List.length_take];rfl)) ?_;(with_reducible refine (product_Value.calls k a0_0 a0_1 a0_2 a0_3 a0_4 a0_5 a0_6 (wrap64 (a3 - a2)) a1 t116 t117 _ A11.out).mono ?_);rintro e w16 ⟨rfl, hb⟩;refine ⟨_, rfl, ?_⟩;have n0_:=Aside0.mk (blk_below (g:=gb112) (o:=.cells #[.string a0_0, .int .i64 a0_1, .int .i64 a0_2, .int .i64 a0_3, .int .i64 a0_4, .int .i64 a0_5, .bool a0_6] 23 (0, 0)) (by (with_reducible repeat (first | refine blk_drewN ?_ _ | refine blk_drew ?_ | refine blk_alloc ?_ _));exact BK112.out) hb);have n1_:=Aside0.mk (below_step (by repeat (first | (with_reducible first | exact HB.out | apply below_alloc | apply pw_below_drewN | apply below_drew1 | refine below_set ?_ GE112.out) | exact HB.out)) hb);clear BK112 HB;have BK112:=n0_;have HB:=n1_;clear n0_ n1_;(try clear hb);(try clear hb2);(try clear hk);(try clear hi)))
    go_ret2
    exact ⟨by first | rfl | (simp [errW_none, errW_some] <;> rfl) | (simp [*, errW_none, errW_some] <;> rfl), by repeat (first | (with_reducible first | exact HB.out | apply below_alloc | apply pw_below_drewN | apply below_drew1 | refine below_set ?_ GE112.out) | exact HB.out)⟩
   ·replace c10:=Bool.eq_false_iff.mpr c10
    subst c10
    have H1 : (some (0, 17)) = some (r1, r2):=by rw [if_neg (show ¬ (false = true) by decide)] at H;exact H
    clear H
    have H:=H1
    clear H1
    simp only [Option.some.injEq, Prod.mk.injEq] at H
    obtain ⟨rfl, rfl⟩:=H
    go_enter Try.func21, Try.ntmps21
    go_wp2_with (first | ((with_reducible refine gate_dst (N:=4) rfl ?_);refine box_event ?hg (N:=4) ?hd (cs:=#[.string a0_0, .int .i64 a0_1, .int .i64 a0_2, .int .i64 a0_3, .int .i64 a0_4, .int .i64 a0_5, .bool a0_6]) (t:=23) ?hr ?_;(case hd=>rfl);(case hg=>rfl);(case hr=>first | (go_simp;done) | (go_simp;rfl));intro gb112 hg w17 hbox hb;have n0_:=Aside0.mk (below_step (by repeat (first | (with_reducible first | exact HB.out | apply below_alloc | apply pw_below_drewN | apply below_drew1) | exact HB.out)) hb);have n1_:=Aside0.mk (hbox);have n2_:=Aside0.mk ((by rw [hg];exact (below_size (by repeat (first | (with_reducible first | exact HB.out | apply below_alloc | apply pw_below_drewN | apply below_drew1) | exact HB.out))) : w.heap.size ≤ gb112));have n3_:=Aside0.mk ((by rw [hg];exact (below_size (by repeat (first | (with_reducible first | exact HB.out | apply below_alloc | apply pw_below_drewN | apply below_drew1) | exact HB.out))) : w.heap.size ≤ gb112));clear HB;have HB:=n0_;have BK112:=n1_;have GW112:=n2_;have GE112:=n3_;clear n0_ n1_ n2_ n3_ hb hbox hg;have hcz18_0 : w17.cell? ⟨gb112, 0, none⟩ = some (.string a0_0):=(blk_cell BK112.out 0).trans rfl;have hcz18_1 : w17.cell? ⟨gb112, 1, none⟩ = some (.int .i64 a0_1):=(blk_cell BK112.out 1).trans rfl;have hcz18_2 : w17.cell? ⟨gb112, 2, none⟩ = some (.int .i64 a0_2):=(blk_cell BK112.out 2).trans rfl;have hcz18_3 : w17.cell? ⟨gb112, 3, none⟩ = some (.int .i64 a0_3):=(blk_cell BK112.out 3).trans rfl;have hcz18_4 : w17.cell? ⟨gb112, 4, none⟩ = some (.int .i64 a0_4):=(blk_cell BK112.out 4).trans rfl;have hcz18_5 : w17.cell? ⟨gb112, 5, none⟩ = some (.int .i64 a0_5):=(blk_cell BK112.out 5).trans rfl;have hcz18_6 : w17.cell? ⟨gb112, 6, none⟩ = some (.bool a0_6):=(blk_cell BK112.out 6).trans rfl;have hfz18_0:=blk_frozen BK112.out 0;have hfz18_1:=blk_frozen BK112.out 1;have hfz18_2:=blk_frozen BK112.out 2;have hfz18_3:=blk_frozen BK112.out 3;have hfz18_4:=blk_frozen BK112.out 4;have hfz18_5:=blk_frozen BK112.out 5;have hfz18_6:=blk_frozen BK112.out 6) | ((with_reducible refine gate_callee (f:=6) rfl ?_);refine goesL_ (some 12) rfl rfl Try.func6 (by kernel_rfl) rfl #[.agg #[.string a0_0, .int .i64 a0_1, .int .i64 a0_2, .int .i64 a0_3, .int .i64 a0_4, .int .i64 a0_5, .bool a0_6]] rfl (by (try simp only [List.map_toArray, List.map_cons, List.map_nil]);first | done | rfl | (simp only [List.length_drop, List.length_take];rfl)) ?_;(with_reducible refine (product_Check.calls k a0_0 a0_1 a0_2 a0_3 a0_4 a0_5 a0_6 t113 _ A5.out).mono ?_);rintro e w19 ⟨rfl, hb⟩;refine ⟨_, rfl, ?_⟩;have n0_:=Aside0.mk (blk_below (g:=gb112) (o:=.cells #[.string a0_0, .int .i64 a0_1, .int .i64 a0_2, .int .i64 a0_3, .int .i64 a0_4, .int .i64 a0_5, .bool a0_6] 23 (0, 0)) (by (with_reducible repeat (first | refine blk_drewN ?_ _ | refine blk_drew ?_ | refine blk_alloc ?_ _));exact BK112.out) hb);have n1_:=Aside0.mk (below_step (by repeat (first | (with_reducible first | exact HB.out | apply below_alloc | apply pw_below_drewN | apply below_drew1 | refine below_set ?_ GE112.out) | exact HB.out)) hb);clear BK112 HB;have BK112:=n0_;have HB:=n1_;clear n0_ n1_;(try clear hb);(try clear hb2);(try clear hk);(try clear hi)) | ((with_reducible refine gate_callee (f:=35) rfl ?_);refine goesL_ (some 17) rfl rfl Try.func35 (by kernel_rfl) rfl #[.int .i64 a2] rfl (by (try simp only [List.map_toArray, List.map_cons, List.map_nil]);first | done | rfl | (simp only [List.length_drop, List.length_take];rfl)) ?_;(with_reducible refine (vary_price.calls a2 true _ A7.out).mono ?_);rintro e w' ⟨rfl, ⟨nd, rfl⟩⟩;refine ⟨_, rfl, ?_⟩) | (go_at_call 35;(with_reducible refine (vary_price.calls a3 false _ A9.out).mono ?_);rintro e w' ⟨rfl, ⟨nd, rfl⟩⟩))
    go_ret2
    exact ⟨by first | rfl | (simp [errW_none, errW_some] <;> rfl) | (simp [*, errW_none, errW_some] <;> rfl), by repeat (first | (with_reducible first | exact HB.out | apply below_alloc | apply pw_below_drewN | apply below_drew1 | refine below_set ?_ GE112.out) | exact HB.out)⟩
  ·replace c8:=Bool.eq_false_iff.mpr c8
   subst c8
   have H1 : (some (0, 17)) = some (r1, r2):=by rw [if_neg (show ¬ (false = true) by decide)] at H;exact H
   clear H
   have H:=H1
   clear H1
   simp only [Option.some.injEq, Prod.mk.injEq] at H
   obtain ⟨rfl, rfl⟩:=H
   go_enter Try.func21, Try.ntmps21
   go_wp2_with (first | ((with_reducible refine gate_dst (N:=4) rfl ?_);refine box_event ?hg (N:=4) ?hd (cs:=#[.string a0_0, .int .i64 a0_1, .int .i64 a0_2, .int .i64 a0_3, .int .i64 a0_4, .int .i64 a0_5, .bool a0_6]) (t:=23) ?hr ?_;(case hd=>rfl);(case hg=>rfl);(case hr=>first | (go_simp;done) | (go_simp;rfl));intro gb112 hg w20 hbox hb;have n0_:=Aside0.mk (below_step (by repeat (first | (with_reducible first | exact HB.out | apply below_alloc | apply pw_below_drewN | apply below_drew1) | exact HB.out)) hb);have n1_:=Aside0.mk (hbox);have n2_:=Aside0.mk ((by rw [hg];exact (below_size (by repeat (first | (with_reducible first | exact HB.out | apply below_alloc | apply pw_below_drewN | apply below_drew1) | exact HB.out))) : w.heap.size ≤ gb112));have n3_:=Aside0.mk ((by rw [hg];exact (below_size (by repeat (first | (with_reducible first | exact HB.out | apply below_alloc | apply pw_below_drewN | apply below_drew1) | exact HB.out))) : w.heap.size ≤ gb112));clear HB;have HB:=n0_;have BK112:=n1_;have GW112:=n2_;have GE112:=n3_;clear n0_ n1_ n2_ n3_ hb hbox hg;have hcz21_0 : w20.cell? ⟨gb112, 0, none⟩ = some (.string a0_0):=(blk_cell BK112.out 0).trans rfl;have hcz21_1 : w20.cell? ⟨gb112, 1, none⟩ = some (.int .i64 a0_1):=(blk_cell BK112.out 1).trans rfl;have hcz21_2 : w20.cell? ⟨gb112, 2, none⟩ = some (.int .i64 a0_2):=(blk_cell BK112.out 2).trans rfl;have hcz21_3 : w20.cell? ⟨gb112, 3, none⟩ = some (.int .i64 a0_3):=(blk_cell BK112.out 3).trans rfl;have hcz21_4 : w20.cell? ⟨gb112, 4, none⟩ = some (.int .i64 a0_4):=(blk_cell BK112.out 4).trans rfl;have hcz21_5 : w20.cell? ⟨gb112, 5, none⟩ = some (.int .i64 a0_5):=(blk_cell BK112.out 5).trans rfl;have hcz21_6 : w20.cell? ⟨gb112, 6, none⟩ = some (.bool a0_6):=(blk_cell BK112.out 6).trans rfl;have hfz21_0:=blk_frozen BK112.out 0;have hfz21_1:=blk_frozen BK112.out 1;have hfz21_2:=blk_frozen BK112.out 2;have hfz21_3:=blk_frozen BK112.out 3;have hfz21_4:=blk_frozen BK112.out 4;have hfz21_5:=blk_frozen BK112.out 5;have hfz21_6:=blk_frozen BK112.out 6) | ((with_reducible refine gate_callee (f:=6) rfl ?_);refine goesL_ (some 12) rfl rfl Try.func6 (by kernel_rfl) rfl #[.agg #[.string a0_0, .int .i64 a0_1, .int .i64 a0_2, .int .i64 a0_3, .int .i64 a0_4, .int .i64 a0_5, .bool a0_6]] rfl (by (try simp only [List.map_toArray, List.map_cons, List.map_nil]);first | done | rfl | (simp only [List.length_drop, List.length_take];rfl)) ?_;(with_reducible refine (product_Check.calls k a0_0 a0_1 a0_2 a0_3 a0_4 a0_5 a0_6 t113 _ A5.out).mono ?_);rintro e w22 ⟨rfl, hb⟩;refine ⟨_, rfl, ?_⟩;have n0_:=Aside0.mk (blk_below (g:=gb112) (o:=.cells #[.string a0_0, .int .i64 a0_1, .int .i64 a0_2, .int .i64 a0_3, .int .i64 a0_4, .int .i64 a0_5, .bool a0_6] 23 (0, 0)) (by (with_reducible repeat (first | refine blk_drewN ?_ _ | refine blk_drew ?_ | refine blk_alloc ?_ _));exact BK112.out) hb);have n1_:=Aside0.mk (below_step (by repeat (first | (with_reducible first | exact HB.out | apply below_alloc | apply pw_below_drewN | apply below_drew1 | refine below_set ?_ GE112.out) | exact HB.out)) hb);clear BK112 HB;have BK112:=n0_;have HB:=n1_;clear n0_ n1_;(try clear hb);(try clear hb2);(try clear hk);(try clear hi)) | ((with_reducible refine gate_callee (f:=35) rfl ?_);refine goesL_ (some 17) rfl rfl Try.func35 (by kernel_rfl) rfl #[.int .i64 a2] rfl (by (try simp only [List.map_toArray, List.map_cons, List.map_nil]);first | done | rfl | (simp only [List.length_drop, List.length_take];rfl)) ?_;(with_reducible refine (vary_price.calls a2 false _ A7.out).mono ?_);rintro e w' ⟨rfl, ⟨nd, rfl⟩⟩;refine ⟨_, rfl, ?_⟩))
   go_ret2
   exact ⟨by first | rfl | (simp [errW_none, errW_some] <;> rfl) | (simp [*, errW_none, errW_some] <;> rfl), by repeat (first | (with_reducible first | exact HB.out | apply below_alloc | apply pw_below_drewN | apply below_drew1 | refine below_set ?_ GE112.out) | exact HB.out)⟩
 ·rw [if_neg c6] at H
  have c6b0 : (t113 == 0) = false:=beq_eq_false_iff_ne.mpr c6
  have c6b1 : (t113 != 0) = true:=bne_iff_ne.mpr c6
  simp only [Option.some.injEq, Prod.mk.injEq] at H
  obtain ⟨rfl, rfl⟩:=H
  go_enter Try.func21, Try.ntmps21
  go_wp2_with (first | ((with_reducible refine gate_dst (N:=4) rfl ?_);refine box_event ?hg (N:=4) ?hd (cs:=#[.string a0_0, .int .i64 a0_1, .int .i64 a0_2, .int .i64 a0_3, .int .i64 a0_4, .int .i64 a0_5, .bool a0_6]) (t:=23) ?hr ?_;(case hd=>rfl);(case hg=>rfl);(case hr=>first | (go_simp;done) | (go_simp;rfl));intro gb112 hg w23 hbox hb;have n0_:=Aside0.mk (below_step (by repeat (first | (with_reducible first | exact HB.out | apply below_alloc | apply pw_below_drewN | apply below_drew1) | exact HB.out)) hb);have n1_:=Aside0.mk (hbox);have n2_:=Aside0.mk ((by rw [hg];exact (below_size (by repeat (first | (with_reducible first | exact HB.out | apply below_alloc | apply pw_below_drewN | apply below_drew1) | exact HB.out))) : w.heap.size ≤ gb112));have n3_:=Aside0.mk ((by rw [hg];exact (below_size (by repeat (first | (with_reducible first | exact HB.out | apply below_alloc | apply pw_below_drewN | apply below_drew1) | exact HB.out))) : w.heap.size ≤ gb112));clear HB;have HB:=n0_;have BK112:=n1_;have GW112:=n2_;have GE112:=n3_;clear n0_ n1_ n2_ n3_ hb hbox hg;have hcz24_0 : w23.cell? ⟨gb112, 0, none⟩ = some (.string a0_0):=(blk_cell BK112.out 0).trans rfl;have hcz24_1 : w23.cell? ⟨gb112, 1, none⟩ = some (.int .i64 a0_1):=(blk_cell BK112.out 1).trans rfl;have hcz24_2 : w23.cell? ⟨gb112, 2, none⟩ = some (.int .i64 a0_2):=(blk_cell BK112.out 2).trans rfl;have hcz24_3 : w23.cell? ⟨gb112, 3, none⟩ = some (.int .i64 a0_3):=(blk_cell BK112.out 3).trans rfl;have hcz24_4 : w23.cell? ⟨gb112, 4, none⟩ = some (.int .i64 a0_4):=(blk_cell BK112.out 4).trans rfl;have hcz24_5 : w23.cell? ⟨gb112, 5, none⟩ = some (.int .i64 a0_5):=(blk_cell BK112.out 5).trans rfl;have hcz24_6 : w23.cell? ⟨gb112, 6, none⟩ = some (.bool a0_6):=(blk_cell BK112.out 6).trans rfl;have hfz24_0:=blk_frozen BK112.out 0;have hfz24_1:=blk_frozen BK112.out 1;have hfz24_2:=blk_frozen BK112.out 2;have hfz24_3:=blk_frozen BK112.out 3;have hfz24_4:=blk_frozen BK112.out 4;have hfz24_5:=blk_frozen BK112.out 5;have hfz24_6:=blk_frozen BK112.out 6) | ((with_reducible refine gate_callee (f:=6) rfl ?_);refine goesL_ (some 12) rfl rfl Try.func6 (by kernel_rfl) rfl #[.agg #[.string a0_0, .int .i64 a0_1, .int .i64 a0_2, .int .i64 a0_3, .int .i64 a0_4, .int .i64 a0_5, .bool a0_6]] rfl (by (try simp only [List.map_toArray, List.map_cons, List.map_nil]);first | done | rfl | (simp only [List.length_drop, List.length_take];rfl)) ?_;(with_reducible refine (product_Check.calls k a0_0 a0_1 a0_2 a0_3 a0_4 a0_5 a0_6 t113 _ A5.out).mono ?_);rintro e w25 ⟨rfl, hb⟩;refine ⟨_, rfl, ?_⟩;have n0_:=Aside0.mk (blk_below (g:=gb112) (o:=.cells #[.string a0_0, .int .i64 a0_1, .int .i64 a0_2, .int .i64 a0_3, .int .i64 a0_4, .int .i64 a0_5, .bool a0_6] 23 (0, 0)) (by (with_reducible repeat (first | refine blk_drewN ?_ _ | refine blk_drew ?_ | refine blk_alloc ?_ _));exact BK112.out) hb);have n1_:=Aside0.mk (below_step (by repeat (first | (with_reducible first | exact HB.out | apply below_alloc | apply pw_below_drewN | apply below_drew1 | refine below_set ?_ GE112.out) | exact HB.out)) hb);clear BK112 HB;have BK112:=n0_;have HB:=n1_;clear n0_ n1_;(try clear hb);(try clear hb2);(try clear hk);(try clear hi)))
  go_ret2
  exact ⟨by first | rfl | (simp [errW_none, errW_some] <;> rfl) | (simp [*, errW_none, errW_some] <;> rfl), by repeat (first | (with_reducible first | exact HB.out | apply below_alloc | apply pw_below_drewN | apply below_drew1 | refine below_set ?_ GE112.out) | exact HB.out)⟩

/-! ### vary_Carried: function 10 -/
def vary_Carried.f (k : Nat) (a0_0 : ByteArray) (a0_1 : Int) (a0_2 : Int) (a0_3 : Int) (a0_4 : Int) (a0_5 : Int) (a0_6 : Bool) (a1 : Int) (a2 : Int) (a3 : Int) : Option (Int × Int):=(vary_change.f k a0_0 a0_1 a0_2 a0_3 a0_4 a0_5 a0_6 a1 a2 a3).bind fun bt119=>(some (bt119.1, bt119.2))
theorem vary_Carried.mono : ∀ a0 a1 a2 a3 a4 a5 a6 a7 a8 a9 k, LeO (vary_Carried.f k a0 a1 a2 a3 a4 a5 a6 a7 a8 a9) (vary_Carried.f (k + 1) a0 a1 a2 a3 a4 a5 a6 a7 a8 a9):=by
 intro a0 a1 a2 a3 a4 a5 a6 a7 a8 a9 k
 unfold vary_Carried.f
 repeat' first
   | (with_reducible exact vary_change.mono _ _ _ _ _ _ _ _ _ _ _)
   | (with_reducible exact LeO.refl _)
   | (with_reducible exact LeO.none _)
   | (with_reducible refine LeO.ite ?_ ?_)
   | (with_reducible refine LeO.bind ?_ (fun _=>?_))
   | exact vary_change.mono _ _ _ _ _ _ _ _ _ _ _
   | exact LeO.none _
   | refine LeO.ite ?_ ?_
   | refine LeO.bind ?_ (fun _=>?_)
set_option maxHeartbeats 8000000 in
set_option maxRecDepth 100000 in
theorem vary_Carried.calls (k : Nat) (a0_0 : ByteArray) (a0_1 : Int) (a0_2 : Int) (a0_3 : Int) (a0_4 : Int) (a0_5 : Int) (a0_6 : Bool) (a1 : Int) (a2 : Int) (a3 : Int) (r1 : Int) (r2 : Int) (w : World) (h : vary_Carried.f k a0_0 a0_1 a0_2 a0_3 a0_4 a0_5 a0_6 a1 a2 a3 = some (r1, r2)) :
  Calls Try.prog 10 #[.agg #[.string a0_0, .int .i64 a0_1, .int .i64 a0_2, .int .i64 a0_3, .int .i64 a0_4, .int .i64 a0_5, .bool a0_6], .int .i64 a1, .int .i64 a2, .int .i64 a3] w fun e w'=>e = .returned (.tuple #[.int .i64 r1, .int .i64 r2]) ∧ Below w.heap.size w w':=by
 have hu23:=Try.underlying23
 have HB:=Aside0.mk (Below.refl w.heap.size w)
 have H : ((vary_change.f k a0_0 a0_1 a0_2 a0_3 a0_4 a0_5 a0_6 a1 a2 a3).bind fun bt119=>(some (bt119.1, bt119.2))) = some (r1, r2):=h
 clear h
 replace H:=Option.bind_eq_some_iff.mp H
 obtain ⟨⟨t119, t120⟩, A50, H⟩:=H
 replace H : (some (t119, t120)) = some (r1, r2):=H
 have A5:=Aside0.mk A50
 clear A50
 simp only [Option.some.injEq, Prod.mk.injEq] at H
 obtain ⟨rfl, rfl⟩:=H
 go_enter Try.func10, Try.ntmps10
 go_wp2_with (first | ((with_reducible refine gate_dst (N:=4) rfl ?_);refine box_event ?hg (N:=4) ?hd (cs:=#[.string a0_0, .int .i64 a0_1, .int .i64 a0_2, .int .i64 a0_3, .int .i64 a0_4, .int .i64 a0_5, .bool a0_6]) (t:=23) ?hr ?_;(case hd=>rfl);(case hg=>rfl);(case hr=>first | (go_simp;done) | (go_simp;rfl));intro gb118 hg w6 hbox hb;have n0_:=Aside0.mk (below_step (by repeat (first | (with_reducible first | exact HB.out | apply below_alloc | apply pw_below_drewN | apply below_drew1) | exact HB.out)) hb);have n1_:=Aside0.mk (hbox);have n2_:=Aside0.mk ((by rw [hg];exact (below_size (by repeat (first | (with_reducible first | exact HB.out | apply below_alloc | apply pw_below_drewN | apply below_drew1) | exact HB.out))) : w.heap.size ≤ gb118));have n3_:=Aside0.mk ((by rw [hg];exact (below_size (by repeat (first | (with_reducible first | exact HB.out | apply below_alloc | apply pw_below_drewN | apply below_drew1) | exact HB.out))) : w.heap.size ≤ gb118));clear HB;have HB:=n0_;have BK118:=n1_;have GW118:=n2_;have GE118:=n3_;clear n0_ n1_ n2_ n3_ hb hbox hg;have hcz7_0 : w6.cell? ⟨gb118, 0, none⟩ = some (.string a0_0):=(blk_cell BK118.out 0).trans rfl;have hcz7_1 : w6.cell? ⟨gb118, 1, none⟩ = some (.int .i64 a0_1):=(blk_cell BK118.out 1).trans rfl;have hcz7_2 : w6.cell? ⟨gb118, 2, none⟩ = some (.int .i64 a0_2):=(blk_cell BK118.out 2).trans rfl;have hcz7_3 : w6.cell? ⟨gb118, 3, none⟩ = some (.int .i64 a0_3):=(blk_cell BK118.out 3).trans rfl;have hcz7_4 : w6.cell? ⟨gb118, 4, none⟩ = some (.int .i64 a0_4):=(blk_cell BK118.out 4).trans rfl;have hcz7_5 : w6.cell? ⟨gb118, 5, none⟩ = some (.int .i64 a0_5):=(blk_cell BK118.out 5).trans rfl;have hcz7_6 : w6.cell? ⟨gb118, 6, none⟩ = some (.bool a0_6):=(blk_cell BK118.out 6).trans rfl;have hfz7_0:=blk_frozen BK118.out 0;have hfz7_1:=blk_frozen BK118.out 1;have hfz7_2:=blk_frozen BK118.out 2;have hfz7_3:=blk_frozen BK118.out 3;have hfz7_4:=blk_frozen BK118.out 4;have hfz7_5:=blk_frozen BK118.out 5;have hfz7_6:=blk_frozen BK118.out 6) | ((with_reducible refine gate_callee (f:=21) rfl ?_);refine goesL_ (some 14) rfl rfl Try.func21 (by kernel_rfl) rfl #[.agg #[.string a0_0, .int .i64 a0_1, .int .i64 a0_2, .int .i64 a0_3, .int .i64 a0_4, .int .i64 a0_5, .bool a0_6], .int .i64 a1, .int .i64 a2, .int .i64 a3] rfl (by (try simp only [List.map_toArray, List.map_cons, List.map_nil]);first | done | rfl | (simp only [List.length_drop, List.length_take];rfl)) ?_;(with_reducible refine (vary_change.calls k a0_0 a0_1 a0_2 a0_3 a0_4 a0_5 a0_6 a1 a2 a3 t119 t120 _ A5.out).mono ?_);rintro e w8 ⟨rfl, hb⟩;refine ⟨_, rfl, ?_⟩;have n0_:=Aside0.mk (blk_below (g:=gb118) (o:=.cells #[.string a0_0, .int .i64 a0_1, .int .i64 a0_2, .int .i64 a0_3, .int .i64 a0_4, .int .i64 a0_5, .bool a0_6] 23 (0, 0)) (by (with_reducible repeat (first | refine blk_drewN ?_ _ | refine blk_drew ?_ | refine blk_alloc ?_ _));exact BK118.out) hb);have n1_:=Aside0.mk (below_step (by repeat (first | (with_reducible first | exact HB.out | apply below_alloc | apply pw_below_drewN | apply below_drew1 | refine below_set ?_ GE118.out) | exact HB.out)) hb);clear BK118 HB;have BK118:=n0_;have HB:=n1_;clear n0_ n1_;(try clear hb);(try clear hb2);(try clear hk);(try clear hi)))
 go_ret2
 exact ⟨by first | rfl | (simp [errW_none, errW_some] <;> rfl) | (simp [*, errW_none, errW_some] <;> rfl), by repeat (first | (with_reducible first | exact HB.out | apply below_alloc | apply pw_below_drewN | apply below_drew1 | refine below_set ?_ GE118.out) | exact HB.out)⟩

/-! ### contangotop_goes10: function 4 -/
def contangotop_goes10.f (k : Nat)  : Option (Bool):=(vary_Carried.f k (⟨#[111, 105, 108]⟩ : ByteArray) 0 100 1 0 1000 false 3 50 47).bind fun bt121=>(if bt121.1 = (-900) then (some (bt121.2 == 0)) else (none))
theorem contangotop_goes10.mono : ∀ k, LeO (contangotop_goes10.f k ) (contangotop_goes10.f (k + 1) ):=by
 intro  k
 unfold contangotop_goes10.f
 repeat' first
   | (with_reducible exact vary_Carried.mono _ _ _ _ _ _ _ _ _ _ _)
   | (with_reducible exact LeO.refl _)
   | (with_reducible exact LeO.none _)
   | (with_reducible refine LeO.ite ?_ ?_)
   | (with_reducible refine LeO.bind ?_ (fun _=>?_))
   | exact vary_Carried.mono _ _ _ _ _ _ _ _ _ _ _
   | exact LeO.none _
   | refine LeO.ite ?_ ?_
   | refine LeO.bind ?_ (fun _=>?_)
set_option maxHeartbeats 8000000 in
set_option maxRecDepth 100000 in
theorem contangotop_goes10.calls (k : Nat)  (r : Bool) (w : World) (h : contangotop_goes10.f k  = some r) :
  Calls Try.prog 4 #[] w fun e w'=>e = .returned (.bool r) ∧ Below w.heap.size w w':=by
 have hu23:=Try.underlying23
 have HB:=Aside0.mk (Below.refl w.heap.size w)
 have H : ((vary_Carried.f k (⟨#[111, 105, 108]⟩ : ByteArray) 0 100 1 0 1000 false 3 50 47).bind fun bt121=>(if bt121.1 = (-900) then (some (bt121.2 == 0)) else (none))) = some r:=h
 clear h
 replace H:=Option.bind_eq_some_iff.mp H
 obtain ⟨⟨t121, t122⟩, A10, H⟩:=H
 replace H : (if t121 = (-900) then (some (t122 == 0)) else (none)) = some r:=H
 have A1:=Aside0.mk A10
 clear A10
 by_cases c2 : t121 = (-900)
 ·rw [if_pos c2] at H
  have c2b0 : (t121 == (-900)) = true:=beq_iff_eq.mpr c2
  have c2b1 : (t121 != (-900)) = false:=bne_eq_false_iff_eq.mpr c2
  clear c2
  obtain rfl:=Option.some.inj H
  go_enter Try.func4, Try.ntmps4
  go_wp2_with (first | ((with_reducible refine gate_callee (f:=10) rfl ?_);refine goesL_ (some 5) rfl rfl Try.func10 (by kernel_rfl) rfl #[.agg #[.string (⟨#[111, 105, 108]⟩ : ByteArray), .int .i64 0, .int .i64 100, .int .i64 1, .int .i64 0, .int .i64 1000, .bool false], .int .i64 3, .int .i64 50, .int .i64 47] rfl (by (try simp only [List.map_toArray, List.map_cons, List.map_nil]);first | done | rfl | (simp only [List.length_drop, List.length_take];rfl)) ?_;(with_reducible refine (vary_Carried.calls k (⟨#[111, 105, 108]⟩ : ByteArray) 0 100 1 0 1000 false 3 50 47 t121 t122 _ A1.out).mono ?_);rintro e w3 ⟨rfl, hb⟩;refine ⟨_, rfl, ?_⟩;have n0_:=Aside0.mk (below_step (by repeat (first | (with_reducible first | exact HB.out | apply below_alloc | apply pw_below_drewN | apply below_drew1) | exact HB.out)) hb);clear HB;have HB:=n0_;clear n0_;(try clear hb);(try clear hb2);(try clear hk);(try clear hi)))
  go_ret
  exact ⟨by first | rfl | (simp [errW_none, errW_some] <;> rfl) | (simp [*, errW_none, errW_some] <;> rfl), by repeat (first | (with_reducible first | exact HB.out | apply below_alloc | apply pw_below_drewN | apply below_drew1) | exact HB.out)⟩
 ·rw [if_neg c2] at H
  exact absurd H (by simp)

/-! ### giveup_lots: function 22 -/
def giveup_lots.f (a0 : Int) : Option (Bool):=if a0 ≥ 1 then (some (decide (a0 ≤ 1048576))) else (some false)
set_option maxHeartbeats 8000000 in
set_option maxRecDepth 100000 in
theorem giveup_lots.calls (a0 : Int) (r : Bool) (w : World) (h : giveup_lots.f a0 = some r) :
  Calls Try.prog 22 #[.int .i64 a0] w fun e w'=>e = .returned (.bool r) ∧ Drawn0 w w':=by
 have H : (if a0 ≥ 1 then (some (decide (a0 ≤ 1048576))) else (some false)) = some r:=h
 clear h
 by_cases c2 : a0 ≥ 1
 ·rw [if_pos c2] at H
  have c2b0 : decide (1 ≤ a0) = true:=decide_eq_true c2
  clear c2
  obtain rfl:=Option.some.inj H
  go_enter Try.func22, Try.ntmps22
  go_wp2
  go_ret
  exact ⟨by first | rfl | (simp;done) | (simp [*];done), by repeat (first | exact Drawn0.refl _ | apply Drawn0.step)⟩
 ·rw [if_neg c2] at H
  have c2b0 : decide (1 ≤ a0) = false:=decide_eq_false c2
  clear c2
  obtain rfl:=Option.some.inj H
  go_enter Try.func22, Try.ntmps22
  go_wp2
  go_ret
  exact ⟨by first | rfl | (simp;done) | (simp [*];done), by repeat (first | exact Drawn0.refl _ | apply Drawn0.step)⟩

/-! ### giveup_Average: function 11 -/
theorem serA (d : Nat) (w : World) (x0 y0 : ByteArray) (x1 y1 : Int) (x2 y2 : Int) (x3 y3 : Int) :
  (Op.equalIn (d + 2) 37 (.agg #[.string x0, .int .i64 x1, .int .i64 x2, .int .i64 x3]) (.agg #[.string y0, .int .i64 y1, .int .i64 y2, .int .i64 y3])).run Try.prog w = .ok (x0.toList == y0.toList && (x1 == y1 && (x2 == y2 && (x3 == y3)))) w:=by
 refine eqA_of Try.underlying37 (by kernel_rfl) ?_
 refine eqf_cons (by rfl) (by go_simp;rfl) (by go_simp;rfl) (by go_simp) ?_
 refine eqf_cons (by rfl) (by go_simp;rfl) (by go_simp;rfl) (by go_simp) ?_
 refine eqf_cons (by rfl) (by go_simp;rfl) (by go_simp;rfl) (by go_simp) ?_
 exact eqf_last (by rfl) (by go_simp;rfl) (by go_simp;rfl) (by go_simp)
attribute [local go_sem high] serA
def sEq (a b : S37) : Bool:=a.f0.toList == b.f0.toList && (a.f1 == b.f1 && (a.f2 == b.f2 && (a.f3 == b.f3)))
def lotsA (n : Int) : Bool:=decide (1 ≤ n) && decide (n ≤ 1048576)
theorem lotsA_val (n : Int) : giveup_lots.f n = some (lotsA n):=by
 unfold giveup_lots.f lotsA
 by_cases h : n ≥ 1
 ·rw [if_pos h, decide_eq_true (show 1 ≤ n from h)];rfl
 ·rw [if_neg h, decide_eq_false (show ¬ 1 ≤ n from h)];rfl
theorem lotsA_range (n : Int) (h : lotsA n = true) : 1 ≤ n ∧ n ≤ 1048576:=by
 unfold lotsA at h;simpa using h
def pricB (n : Int) : Bool:=decide (-16777216 ≤ n) && decide (n ≤ 16777216)
theorem pricB_range (n : Int) (h : pricB n = true) : -16777216 ≤ n ∧ n ≤ 16777216:=by
 unfold pricB at h;simpa using h
def sumT : List S41 → Int
 | []=>0
 | t :: l=>t.f4 + sumT l
def costT : List S41 → Int
 | []=>0
 | t :: l=>t.f5 * t.f4 + costT l
def avgEnd (qty sum tick : Int) : Int × Int × Int:=(wrap64 (Int.tdiv (wrap64 (sum - sum % (qty * tick))) qty), sum % (qty * tick), 0)
def avgV (l : List S41) (tick : Int) : Int × Int × Int:=if tick < 1 ∨ tick > 16777216 then (0, 0, 16) else if l.length = 0 ∨ l.length > 1024 then (0, 0, 8) else if l.all (fun t=>sEq t.f3 (rd_T41 l 0).f3) = true then (if l.all (fun t=>lotsA t.f4) = true then (if l.all (fun t=>pricB t.f5) = true then avgEnd (sumT l) (costT l) tick else (0, 0, 17)) else (0, 0, 18)) else (0, 0, 19)
def giveup_Average.f (l0 : List S41) (a1 : Int) : Option (Int × Int × Int):=some (avgV l0 a1)
theorem drop_T41 (l : List S41) (i : Nat) (h : i < l.length) : l.drop i = rd_T41 l (i : Int) :: l.drop (i + 1):=by
 rw [List.drop_eq_getElem_cons h]
 unfold rd_T41
 rw [Int.toNat_natCast, List.getD_eq_getElem?_getD, List.getElem?_eq_getElem h];rfl
theorem mem_T41 (l : List S41) (i : Nat) (h : i < l.length) : rd_T41 l (i : Int) ∈ l:=by
 unfold rd_T41
 rw [Int.toNat_natCast, List.getD_eq_getElem?_getD, List.getElem?_eq_getElem h]
 exact List.getElem_mem _
set_option maxHeartbeats 16000000 in
set_option maxRecDepth 100000 in
theorem avg_main (A0 : Option Addr) (c0 : Nat) (l : List S41) (tick r1 r2 r3 : Int) (w : World) (hr0 : Kd.C k41 w A0 l.length l) (hc0 : l.length ≤ c0) (ht1 : 1 ≤ tick) (ht2 : tick ≤ 16777216) (hl1 : 1 ≤ l.length) (hl : l.length ≤ 1024)
  (hr : (if l.all (fun t=>sEq t.f3 (rd_T41 l 0).f3) = true then (if l.all (fun t=>lotsA t.f4) = true then (if l.all (fun t=>pricB t.f5) = true then avgEnd (sumT l) (costT l) tick else (0, 0, 17)) else (0, 0, 18)) else (0, 0, 19)) = (r1, r2, r3)) :
  Calls Try.prog 11 #[.slice A0 l.length c0, .int .i64 tick] w fun e w'=>e = .returned (.tuple #[.int .i64 r1, .int .i64 r2, .int .i64 r3]) ∧ Below w.heap.size w w':=by
 have d1 : decide (tick < 1) = false:=decide_eq_false (by omega)
 have d2 : decide (16777216 < tick) = false:=decide_eq_false (by omega)
 have e1 : (l.length == 0) = false:=beq_eq_false_iff_ne.2 (by omega)
 have e2 : ((l.length : Int) == 0) = false:=beq_eq_false_iff_ne.2 (by omega)
 have e3 : decide (1024 < (l.length : Int)) = false:=decide_eq_false (by omega)
 have e4 : decide (1024 < l.length) = false:=decide_eq_false (by omega)
 have HR:=Aside0.mk hr0
 obtain ⟨ad0, ea, hz0, hz1, hz2, hz3, hz4, hz5, hz6, hz7, hz8, hz9, hz10, hz11, hz12⟩:=at_T41 hr0 0 (by omega) (by omega)
 cases ea
 have HZ3:=Aside0.mk (show w.cell? ⟨ad0.block, ad0.off + 3, none⟩ = some (.string (rd_T41 l 0).f3.f0) from by simpa [Addr.add] using hz3)
 have HZ4:=Aside0.mk (show w.cell? ⟨ad0.block, ad0.off + 4, none⟩ = some (.int .i64 (rd_T41 l 0).f3.f1) from by simpa [Addr.add] using hz4)
 have HZ5:=Aside0.mk (show w.cell? ⟨ad0.block, ad0.off + 5, none⟩ = some (.int .i64 (rd_T41 l 0).f3.f2) from by simpa [Addr.add] using hz5)
 have HZ6:=Aside0.mk (show w.cell? ⟨ad0.block, ad0.off + 6, none⟩ = some (.int .i64 (rd_T41 l 0).f3.f3) from by simpa [Addr.add] using hz6)
 clear hz0 hz1 hz2 hz3 hz4 hz5 hz6 hz7 hz8 hz9 hz10 hz11 hz12
 generalize (rd_T41 l 0).f3 = s0 at *
 have HRES:=Aside0.mk hr
 clear hr0 hr
 go_enter Try.func11, Try.ntmps11
 go_wp2_with fail
 go_loopw [34] (fun v34 wr=>∃ i : Nat, i ≤ l.length ∧ v34 = .int .i64 (i : Int) ∧ Aside0 ((l.take i).all (fun t=>sEq t.f3 s0) = true) ∧ Aside0 (Below w.heap.size w wr)) (fun v34 _=>l.length - (intOf v34).toNat)
 case atStart=>exact ⟨0, by omega, rfl, ⟨rfl⟩, ⟨Below.refl _ _⟩⟩
 case round =>
  obtain ⟨i, hi, rfl, HP, HB⟩:=hrel
  by_cases hlt : i < l.length
  ·obtain ⟨ad, ex, hx0, hx1, hx2, hx3, hx4, hx5, hx6, hx7, hx8, hx9, hx10, hx11, hx12⟩:=at_T41 (Kd.C_below HR.out HB.out) (i : Int) (by omega) (by omega)
   cases ex
   simp only [Int.toNat_natCast] at hx0 hx1 hx2 hx3 hx4 hx5 hx6 hx7 hx8 hx9 hx10 hx11 hx12
   have hlti : (i : Int) < (l.length : Int):=by omega
   have hmem:=mem_T41 l i hlt
   have htk : (l.take (i + 1)).all (fun t=>sEq t.f3 s0) = ((l.take i).all (fun t=>sEq t.f3 s0) && sEq (rd_T41 l (i : Int)).f3 s0):=by
    rw [List.take_add_one, List.all_append, List.getElem?_eq_getElem hlt]
    unfold rd_T41
    rw [Int.toNat_natCast, List.getD_eq_getElem?_getD, List.getElem?_eq_getElem hlt]
    simp
   have HTK:=Aside0.mk htk
   have HMEM:=Aside0.mk hmem
   clear htk hmem
   generalize rd_T41 l (i : Int) = p at *
   go_wp2_with fail
   have hb3 : (wr.alloc (.cells #[.int .i64 p.f0, .int .i64 p.f1, .int .i64 p.f2, .string p.f3.f0, .int .i64 p.f3.f1, .int .i64 p.f3.f2, .int .i64 p.f3.f3, .int .i64 p.f4, .int .i64 p.f5, .string p.f6.f0, .string p.f6.f1, .string p.f7.f0, .string p.f7.f1] 41)).drew.cell? ⟨wr.heap.size, 3, none⟩ = some (.string p.f3.f0):=(blk_cell (blk_drew (blk_new wr (.cells #[.int .i64 p.f0, .int .i64 p.f1, .int .i64 p.f2, .string p.f3.f0, .int .i64 p.f3.f1, .int .i64 p.f3.f2, .int .i64 p.f3.f3, .int .i64 p.f4, .int .i64 p.f5, .string p.f6.f0, .string p.f6.f1, .string p.f7.f0, .string p.f7.f1] 41))) 3).trans rfl
   have hb4 : (wr.alloc (.cells #[.int .i64 p.f0, .int .i64 p.f1, .int .i64 p.f2, .string p.f3.f0, .int .i64 p.f3.f1, .int .i64 p.f3.f2, .int .i64 p.f3.f3, .int .i64 p.f4, .int .i64 p.f5, .string p.f6.f0, .string p.f6.f1, .string p.f7.f0, .string p.f7.f1] 41)).drew.cell? ⟨wr.heap.size, 4, none⟩ = some (.int .i64 p.f3.f1):=(blk_cell (blk_drew (blk_new wr (.cells #[.int .i64 p.f0, .int .i64 p.f1, .int .i64 p.f2, .string p.f3.f0, .int .i64 p.f3.f1, .int .i64 p.f3.f2, .int .i64 p.f3.f3, .int .i64 p.f4, .int .i64 p.f5, .string p.f6.f0, .string p.f6.f1, .string p.f7.f0, .string p.f7.f1] 41))) 4).trans rfl
   have hb5 : (wr.alloc (.cells #[.int .i64 p.f0, .int .i64 p.f1, .int .i64 p.f2, .string p.f3.f0, .int .i64 p.f3.f1, .int .i64 p.f3.f2, .int .i64 p.f3.f3, .int .i64 p.f4, .int .i64 p.f5, .string p.f6.f0, .string p.f6.f1, .string p.f7.f0, .string p.f7.f1] 41)).drew.cell? ⟨wr.heap.size, 5, none⟩ = some (.int .i64 p.f3.f2):=(blk_cell (blk_drew (blk_new wr (.cells #[.int .i64 p.f0, .int .i64 p.f1, .int .i64 p.f2, .string p.f3.f0, .int .i64 p.f3.f1, .int .i64 p.f3.f2, .int .i64 p.f3.f3, .int .i64 p.f4, .int .i64 p.f5, .string p.f6.f0, .string p.f6.f1, .string p.f7.f0, .string p.f7.f1] 41))) 5).trans rfl
   have hb6 : (wr.alloc (.cells #[.int .i64 p.f0, .int .i64 p.f1, .int .i64 p.f2, .string p.f3.f0, .int .i64 p.f3.f1, .int .i64 p.f3.f2, .int .i64 p.f3.f3, .int .i64 p.f4, .int .i64 p.f5, .string p.f6.f0, .string p.f6.f1, .string p.f7.f0, .string p.f7.f1] 41)).drew.cell? ⟨wr.heap.size, 6, none⟩ = some (.int .i64 p.f3.f3):=(blk_cell (blk_drew (blk_new wr (.cells #[.int .i64 p.f0, .int .i64 p.f1, .int .i64 p.f2, .string p.f3.f0, .int .i64 p.f3.f1, .int .i64 p.f3.f2, .int .i64 p.f3.f3, .int .i64 p.f4, .int .i64 p.f5, .string p.f6.f0, .string p.f6.f1, .string p.f7.f0, .string p.f7.f1] 41))) 6).trans rfl
   have hy3 : (wr.alloc (.cells #[.int .i64 p.f0, .int .i64 p.f1, .int .i64 p.f2, .string p.f3.f0, .int .i64 p.f3.f1, .int .i64 p.f3.f2, .int .i64 p.f3.f3, .int .i64 p.f4, .int .i64 p.f5, .string p.f6.f0, .string p.f6.f1, .string p.f7.f0, .string p.f7.f1] 41)).drew.cell? ⟨ad0.block, ad0.off + 3, none⟩ = some (.string s0.f0):=((below_drew (below_alloc HB.out _)).cell (World.block_lt_of_cell? _ _ HZ3.out)).trans HZ3.out
   have hy4 : (wr.alloc (.cells #[.int .i64 p.f0, .int .i64 p.f1, .int .i64 p.f2, .string p.f3.f0, .int .i64 p.f3.f1, .int .i64 p.f3.f2, .int .i64 p.f3.f3, .int .i64 p.f4, .int .i64 p.f5, .string p.f6.f0, .string p.f6.f1, .string p.f7.f0, .string p.f7.f1] 41)).drew.cell? ⟨ad0.block, ad0.off + 4, none⟩ = some (.int .i64 s0.f1):=((below_drew (below_alloc HB.out _)).cell (World.block_lt_of_cell? _ _ HZ4.out)).trans HZ4.out
   have hy5 : (wr.alloc (.cells #[.int .i64 p.f0, .int .i64 p.f1, .int .i64 p.f2, .string p.f3.f0, .int .i64 p.f3.f1, .int .i64 p.f3.f2, .int .i64 p.f3.f3, .int .i64 p.f4, .int .i64 p.f5, .string p.f6.f0, .string p.f6.f1, .string p.f7.f0, .string p.f7.f1] 41)).drew.cell? ⟨ad0.block, ad0.off + 5, none⟩ = some (.int .i64 s0.f2):=((below_drew (below_alloc HB.out _)).cell (World.block_lt_of_cell? _ _ HZ5.out)).trans HZ5.out
   have hy6 : (wr.alloc (.cells #[.int .i64 p.f0, .int .i64 p.f1, .int .i64 p.f2, .string p.f3.f0, .int .i64 p.f3.f1, .int .i64 p.f3.f2, .int .i64 p.f3.f3, .int .i64 p.f4, .int .i64 p.f5, .string p.f6.f0, .string p.f6.f1, .string p.f7.f0, .string p.f7.f1] 41)).drew.cell? ⟨ad0.block, ad0.off + 6, none⟩ = some (.int .i64 s0.f3):=((below_drew (below_alloc HB.out _)).cell (World.block_lt_of_cell? _ _ HZ6.out)).trans HZ6.out
   have HB2:=Aside0.mk (below_drew (below_alloc HB.out (.cells #[.int .i64 p.f0, .int .i64 p.f1, .int .i64 p.f2, .string p.f3.f0, .int .i64 p.f3.f1, .int .i64 p.f3.f2, .int .i64 p.f3.f3, .int .i64 p.f4, .int .i64 p.f5, .string p.f6.f0, .string p.f6.f1, .string p.f7.f0, .string p.f7.f1] 41)))
   cases hs : sEq p.f3 s0 with
   | true =>
    have hq:=hs
    unfold sEq at hq
    have hq2 : (!(p.f3.f0.toList == s0.f0.toList) || (!(p.f3.f1 == s0.f1) || (!(p.f3.f2 == s0.f2) || !(p.f3.f3 == s0.f3)))) = false:=by
     revert hq;cases (p.f3.f0.toList == s0.f0.toList) <;> cases (p.f3.f1 == s0.f1) <;> cases (p.f3.f2 == s0.f2) <;> cases (p.f3.f3 == s0.f3) <;> simp
    go_region
    all_goals go_wp2_with fail
    all_goals go_roundw
    case measure=>show _ < _;simp [intOf];omega
    case rel=>exact ⟨i + 1, by omega, by go_num, ⟨by rw [HTK.out, HP.out, hs];rfl⟩, HB2⟩
   | false =>
    have hq:=hs
    unfold sEq at hq
    have hq2 : (!(p.f3.f0.toList == s0.f0.toList) || (!(p.f3.f1 == s0.f1) || (!(p.f3.f2 == s0.f2) || !(p.f3.f3 == s0.f3)))) = true:=by
     revert hq;cases (p.f3.f0.toList == s0.f0.toList) <;> cases (p.f3.f1 == s0.f1) <;> cases (p.f3.f2 == s0.f2) <;> cases (p.f3.f3 == s0.f3) <;> simp
    have hnot : ¬ (l.all (fun t=>sEq t.f3 s0) = true):=fun ha=>by
     have:=List.all_eq_true.1 ha p HMEM.out
     rw [hs] at this;cases this
    have hr:=HRES.out
    rw [if_neg hnot] at hr
    simp only [Prod.mk.injEq] at hr
    obtain ⟨rfl, rfl, rfl⟩:=hr
    go_region
    all_goals go_wp2_with fail
    all_goals refine bodyPost_ret (v:=.tuple #[.int .i64 0, .int .i64 0, .int .i64 19]) (by simp [results, Try.results11, go_sem]) rfl ?_
    all_goals exact ⟨rfl, HB2.out⟩
  ·obtain rfl : i = l.length:=by omega
   have hp:=HP.out
   rw [List.take_length] at hp
   have hr:=HRES.out
   rw [if_pos hp] at hr
   have HRES2:=Aside0.mk hr
   clear hp HP hr HRES
   go_wp2_with fail
   go_loopw [48] (fun v48 wr=>∃ i : Nat, i ≤ l.length ∧ v48 = .int .i64 (i : Int) ∧ Aside0 ((l.take i).all (fun t=>lotsA t.f4) = true) ∧ Aside0 (Below w.heap.size w wr)) (fun v48 _=>l.length - (intOf v48).toNat)
   case atStart=>exact ⟨0, by omega, rfl, ⟨rfl⟩, HB⟩
   case round =>
    clear HB
    obtain ⟨i, hi, rfl, HP, HB⟩:=hrel
    by_cases hlt : i < l.length
    ·obtain ⟨ad, ex, hx0, hx1, hx2, hx3, hx4, hx5, hx6, hx7, hx8, hx9, hx10, hx11, hx12⟩:=at_T41 (Kd.C_below HR.out HB.out) (i : Int) (by omega) (by omega)
     cases ex
     simp only [Int.toNat_natCast] at hx0 hx1 hx2 hx3 hx4 hx5 hx6 hx7 hx8 hx9 hx10 hx11 hx12
     have hlti : (i : Int) < (l.length : Int):=by omega
     have hmem:=mem_T41 l i hlt
     have htk : (l.take (i + 1)).all (fun t=>lotsA t.f4) = ((l.take i).all (fun t=>lotsA t.f4) && lotsA (rd_T41 l (i : Int)).f4):=by
      rw [List.take_add_one, List.all_append, List.getElem?_eq_getElem hlt]
      unfold rd_T41
      rw [Int.toNat_natCast, List.getD_eq_getElem?_getD, List.getElem?_eq_getElem hlt]
      simp
     have HTK:=Aside0.mk htk
     have HMEM:=Aside0.mk hmem
     clear htk hmem
     generalize rd_T41 l (i : Int) = p at *
     have HV:=Aside0.mk (lotsA_val p.f4)
     cases hs : lotsA p.f4 with
     | true =>
      rw [hs] at HV
      go_wp2_with (go_at_call 22;(with_reducible refine (giveup_lots.calls p.f4 true _ HV.out).mono ?_);rintro e w2 ⟨rfl, hd⟩;have HB2:=Aside0.mk (below_step (below_alloc HB.out _) hd.below);clear hd)
      go_roundw
      case measure=>show _ < _;simp [intOf];omega
      case rel=>exact ⟨i + 1, by omega, by go_num, ⟨by rw [HTK.out, HP.out, hs];rfl⟩, HB2⟩
     | false =>
      rw [hs] at HV
      have hnot : ¬ (l.all (fun t=>lotsA t.f4) = true):=fun ha=>by
       have:=List.all_eq_true.1 ha p HMEM.out
       rw [hs] at this;cases this
      have hr:=HRES2.out
      rw [if_neg hnot] at hr
      simp only [Prod.mk.injEq] at hr
      obtain ⟨rfl, rfl, rfl⟩:=hr
      go_wp2_with (go_at_call 22;(with_reducible refine (giveup_lots.calls p.f4 false _ HV.out).mono ?_);rintro e w2 ⟨rfl, hd⟩;have HB2:=Aside0.mk (below_step (below_alloc HB.out _) hd.below);clear hd)
      refine bodyPost_ret (v:=.tuple #[.int .i64 0, .int .i64 0, .int .i64 18]) (by simp [results, Try.results11, go_sem]) rfl ?_
      exact ⟨rfl, HB2.out⟩
    ·obtain rfl : i = l.length:=by omega
     have hp:=HP.out
     rw [List.take_length] at hp
     have hr:=HRES2.out
     rw [if_pos hp] at hr
     have HLOTS:=Aside0.mk hp
     have HRES3:=Aside0.mk hr
     clear hp HP hr HRES2
     go_wp2_with fail
     go_loopw [11, 12, 59] (fun v11 v12 v59 wr=>∃ (i : Nat) (q c : Int), i ≤ l.length ∧ v59 = .int .i64 (i : Int) ∧ v11 = .int .i64 q ∧ v12 = .int .i64 c ∧ 0 ≤ q ∧ q ≤ 1048576 * i ∧ (i : Int) ≤ q ∧ -17592186044416 * i ≤ c ∧ c ≤ 17592186044416 * i ∧ Aside0 (q + sumT (l.drop i) = sumT l) ∧ Aside0 (c + costT (l.drop i) = costT l) ∧ Aside0 ((l.take i).all (fun t=>pricB t.f5) = true) ∧ Aside0 (Below w.heap.size w wr)) (fun _ _ v59 _=>l.length - (intOf v59).toNat)
     case atStart=>exact ⟨0, 0, 0, by omega, rfl, rfl, rfl, by omega, by omega, by omega, by omega, by omega, ⟨by rw [List.drop_zero];omega⟩, ⟨by rw [List.drop_zero];omega⟩, ⟨rfl⟩, HB⟩
     case round =>
      clear HB
      obtain ⟨i, q, c, hi, rfl, rfl, rfl, hq0, hq1, hq2, hc0', hc1, HQ, HC, HP, HB⟩:=hrel
      by_cases hlt : i < l.length
      ·obtain ⟨ad, ex, hx0, hx1, hx2, hx3, hx4, hx5, hx6, hx7, hx8, hx9, hx10, hx11, hx12⟩:=at_T41 (Kd.C_below HR.out HB.out) (i : Int) (by omega) (by omega)
       cases ex
       simp only [Int.toNat_natCast] at hx0 hx1 hx2 hx3 hx4 hx5 hx6 hx7 hx8 hx9 hx10 hx11 hx12
       have hlti : (i : Int) < (l.length : Int):=by omega
       have hmem:=mem_T41 l i hlt
       have htk : (l.take (i + 1)).all (fun t=>pricB t.f5) = ((l.take i).all (fun t=>pricB t.f5) && pricB (rd_T41 l (i : Int)).f5):=by
        rw [List.take_add_one, List.all_append, List.getElem?_eq_getElem hlt]
        unfold rd_T41
        rw [Int.toNat_natCast, List.getD_eq_getElem?_getD, List.getElem?_eq_getElem hlt]
        simp
       have hq3:=HQ.out
       have hc3:=HC.out
       rw [drop_T41 l i hlt] at hq3 hc3
       simp only [sumT, costT] at hq3 hc3
       obtain ⟨hf1, hf2⟩:=lotsA_range _ (by have:=List.all_eq_true.1 HLOTS.out _ hmem;exact this)
       have HTK:=Aside0.mk htk
       have HMEM:=Aside0.mk hmem
       have HQ3:=Aside0.mk hq3
       have HC3:=Aside0.mk hc3
       clear htk hmem hq3 hc3 HQ HC
       generalize rd_T41 l (i : Int) = p at *
       cases hs : pricB p.f5 with
       | true =>
        obtain ⟨hp1, hp2⟩:=pricB_range _ hs
        have k1 : decide (p.f5 < -16777216) = false:=decide_eq_false (by omega)
        have k2 : decide (16777216 < p.f5) = false:=decide_eq_false (by omega)
        have m1 : p.f5 * p.f4 ≤ 17592186044416:=by
         have:=Int.mul_le_mul_of_nonneg_right hp2 (show 0 ≤ p.f4 by omega)
         have:=Int.mul_le_mul_of_nonneg_left hf2 (show (0 : Int) ≤ 16777216 by decide)
         omega
        have m2 : -17592186044416 ≤ p.f5 * p.f4:=by
         have:=Int.mul_le_mul_of_nonneg_right hp1 (show 0 ≤ p.f4 by omega)
         have:=Int.mul_le_mul_of_nonneg_left hf2 (show (0 : Int) ≤ 16777216 by decide)
         omega
        go_wp2_with fail
        go_roundw
        case measure=>show _ < _;simp [intOf];omega
        case rel=>exact ⟨i + 1, q + p.f4, c + p.f5 * p.f4, by omega, by go_num, rfl, rfl, by omega, by omega, by omega, by omega, by omega, ⟨by rw [← HQ3.out];omega⟩, ⟨by rw [← HC3.out];omega⟩, ⟨by rw [HTK.out, HP.out, hs];rfl⟩, ⟨below_alloc HB.out _⟩⟩
       | false =>
        have hnot : ¬ (l.all (fun t=>pricB t.f5) = true):=fun ha=>by
         have:=List.all_eq_true.1 ha p HMEM.out
         rw [hs] at this;cases this
        have hr:=HRES3.out
        rw [if_neg hnot] at hr
        simp only [Prod.mk.injEq] at hr
        obtain ⟨rfl, rfl, rfl⟩:=hr
        by_cases k : p.f5 < -16777216
        ·have k1 : decide (p.f5 < -16777216) = true:=decide_eq_true k
         go_wp2_with fail
         refine bodyPost_ret (v:=.tuple #[.int .i64 0, .int .i64 0, .int .i64 17]) (by simp [results, Try.results11, go_sem]) rfl ?_
         exact ⟨rfl, below_alloc HB.out _⟩
        ·have k1 : decide (p.f5 < -16777216) = false:=decide_eq_false k
         have k2 : decide (16777216 < p.f5) = true:=decide_eq_true (by
          unfold pricB at hs
          simp only [Bool.and_eq_false_iff, decide_eq_false_iff_not] at hs
          omega)
         go_wp2_with fail
         refine bodyPost_ret (v:=.tuple #[.int .i64 0, .int .i64 0, .int .i64 17]) (by simp [results, Try.results11, go_sem]) rfl ?_
         exact ⟨rfl, below_alloc HB.out _⟩
      ·obtain rfl : i = l.length:=by omega
       have hp:=HP.out
       rw [List.take_length] at hp
       have hr:=HRES3.out
       rw [if_pos hp] at hr
       have hq3:=HQ.out
       have hc3:=HC.out
       rw [List.drop_length] at hq3 hc3
       simp only [sumT, costT, Int.add_zero] at hq3 hc3
       subst hq3
       subst hc3
       have HRES4:=Aside0.mk hr
       clear hp HP hr HRES3 HQ HC HLOTS
       have hqa : sumT l ≤ 1073741824:=by omega
       have hqb : 1 ≤ sumT l:=by omega
       have hca : costT l ≤ 18014398509481984:=by omega
       have hcb : -18014398509481984 ≤ costT l:=by omega
       generalize sumT l = q at *
       generalize costT l = c at *
       have s1 : q * tick ≤ 18014398509481984:=by
        have:=Int.mul_le_mul_of_nonneg_right hqa (show 0 ≤ tick by omega)
        omega
       have s2 : 1 ≤ q * tick:=by
        have:=Int.mul_le_mul_of_nonneg_right hqb (show 0 ≤ tick by omega)
        omega
       go_upto_region 27 with fail
       have hfin:=HRES4.out
       unfold avgEnd at hfin
       clear HRES4
       generalize q * tick = st at *
       have hm1 : Int.tmod c st < st:=Int.tmod_lt_of_pos c (by omega)
       have hm2 : -st < Int.tmod c st:=Int.lt_tmod_of_pos c (by omega)
       have hn1 : (st == 0) = false:=beq_eq_false_iff_ne.2 (by omega)
       have hn2 : ¬ st = 0:=by omega
       have hn3 : (q == 0) = false:=beq_eq_false_iff_ne.2 (by omega)
       have hn4 : ¬ q = 0:=by omega
       have hre : Int.tmod c st % st = c % st:=by
        have:=Int.tmod_add_mul_tdiv c st
        have e : Int.tmod c st = c + st * (-(Int.tdiv c st)):=by rw [Int.mul_neg];omega
        rw [e, Int.add_mul_emod_self_left]
       simp only [Prod.mk.injEq] at hfin
       obtain ⟨rfl, rfl, rfl⟩:=hfin
       go_wp2_with fail
       refine bodyPost_ret (v:=.tuple #[.int .i64 (wrap64 (Int.tdiv (wrap64 (c - c % st)) q)), .int .i64 (c % st), .int .i64 0]) (by simp [results, Try.results11, go_sem, hre]) rfl ?_
       exact ⟨rfl, HB.out⟩
theorem giveup_Average.calls (A0 : Option Addr) (c0 : Nat) (l0 : List S41) (a1 r1 r2 r3 : Int) (w : World) (hr0 : Kd.C k41 w A0 l0.length l0) (hc0 : l0.length ≤ c0) (h : giveup_Average.f l0 a1 = some (r1, r2, r3)) :
  Calls Try.prog 11 #[.slice A0 l0.length c0, .int .i64 a1] w fun e w'=>e = .returned (.tuple #[.int .i64 r1, .int .i64 r2, .int .i64 r3]) ∧ Below w.heap.size w w':=by
 have h:=Option.some.inj h
 unfold avgV at h
 by_cases h1 : a1 < 1 ∨ a1 > 16777216
 ·rw [if_pos h1] at h
  simp only [Prod.mk.injEq] at h
  obtain ⟨rfl, rfl, rfl⟩:=h
  by_cases k : a1 < 1
  ·have k1 : decide (a1 < 1) = true:=decide_eq_true k
   go_enter Try.func11, Try.ntmps11
   go_wp2_with fail
   refine bodyPost_ret (v:=.tuple #[.int .i64 0, .int .i64 0, .int .i64 16]) (by simp [results, Try.results11, go_sem]) rfl ?_
   exact ⟨rfl, Below.refl _ _⟩
  ·have k1 : decide (a1 < 1) = false:=decide_eq_false k
   have k2 : decide (16777216 < a1) = true:=decide_eq_true (by omega)
   go_enter Try.func11, Try.ntmps11
   go_wp2_with fail
   refine bodyPost_ret (v:=.tuple #[.int .i64 0, .int .i64 0, .int .i64 16]) (by simp [results, Try.results11, go_sem]) rfl ?_
   exact ⟨rfl, Below.refl _ _⟩
 ·rw [if_neg h1] at h
  by_cases h2 : l0.length = 0 ∨ l0.length > 1024
  ·rw [if_pos h2] at h
   simp only [Prod.mk.injEq] at h
   obtain ⟨rfl, rfl, rfl⟩:=h
   have k1 : decide (a1 < 1) = false:=decide_eq_false (by omega)
   have k2 : decide (16777216 < a1) = false:=decide_eq_false (by omega)
   clear hr0
   generalize l0.length = n at *
   by_cases k : n = 0
   ·subst k
    go_enter Try.func11, Try.ntmps11
    go_wp2_with fail
    refine bodyPost_ret (v:=.tuple #[.int .i64 0, .int .i64 0, .int .i64 8]) (by simp [results, Try.results11, go_sem]) rfl ?_
    exact ⟨rfl, Below.refl _ _⟩
   ·have e1 : (n == 0) = false:=beq_eq_false_iff_ne.2 k
    have e2 : ((n : Int) == 0) = false:=beq_eq_false_iff_ne.2 (by omega)
    have e3 : decide (1024 < (n : Int)) = true:=decide_eq_true (by omega)
    have e4 : decide (1024 < n) = true:=decide_eq_true (by omega)
    go_enter Try.func11, Try.ntmps11
    go_wp2_with fail
    refine bodyPost_ret (v:=.tuple #[.int .i64 0, .int .i64 0, .int .i64 8]) (by simp [results, Try.results11, go_sem]) rfl ?_
    exact ⟨rfl, Below.refl _ _⟩
  ·rw [if_neg h2] at h
   exact avg_main A0 c0 l0 a1 r1 r2 r3 w hr0 hc0 (by omega) (by omega) (by omega) (by omega) h

-- NOT PRINTED: function 23 (giveup_parted_1)

-- NOT PRINTED: function 25 (giveup_parted_2)

/-! ### giveup_shares_qty: function 26 -/
def giveup_shares_qty.l0 : Nat → Int → List (S43) → Int → Int → Option (Int)
 | 0, _, _, _, _=>none
 | k + 1, x2, x5, x6, x7=>if x7 < x6 then (if 0 ≤ x7 then (if x7 < (x5.length : Int) then (giveup_shares_qty.l0 k (wrap64 (x2 + ((rd_T43 x5 x7).f1))) x5 x6 (wrap64 (x7 + 1))) else (none)) else (none)) else (some x2)
def giveup_shares_qty.f (k : Nat) (l0 : List (S43)) : Option (Int):=giveup_shares_qty.l0 k 0 l0 (l0.length : Int) 0
theorem giveup_shares_qty.mono_l : ∀ k, (∀ y0 y1 y2 y3, LeO (giveup_shares_qty.l0 k y0 y1 y2 y3) (giveup_shares_qty.l0 (k + 1) y0 y1 y2 y3))
 | 0=>fun _ _ _ _ r h=>by simp [giveup_shares_qty.l0] at h
 | k + 1=>by
  have ih0:=giveup_shares_qty.mono_l k
  ·intro y0 y1 y2 y3
   unfold giveup_shares_qty.l0
   repeat' first
   | (with_reducible exact ih0 _ _ _ _)
   | (with_reducible exact LeO.refl _)
   | (with_reducible exact LeO.none _)
   | (with_reducible refine LeO.ite ?_ ?_)
   | (with_reducible refine LeO.bind ?_ (fun _=>?_))
   | exact ih0 _ _ _ _
   | exact LeO.none _
   | refine LeO.ite ?_ ?_
   | refine LeO.bind ?_ (fun _=>?_)
theorem giveup_shares_qty.mono : ∀ a0 k, LeO (giveup_shares_qty.f k a0) (giveup_shares_qty.f (k + 1) a0):=by
 intro a0 k
 have ih0:=giveup_shares_qty.mono_l k
 unfold giveup_shares_qty.f
 repeat' first
   | (with_reducible exact ih0 _ _ _ _)
   | (with_reducible exact LeO.refl _)
   | (with_reducible exact LeO.none _)
   | (with_reducible refine LeO.ite ?_ ?_)
   | (with_reducible refine LeO.bind ?_ (fun _=>?_))
   | exact ih0 _ _ _ _
   | exact LeO.none _
   | refine LeO.ite ?_ ?_
   | refine LeO.bind ?_ (fun _=>?_)
set_option maxHeartbeats 8000000 in
set_option maxRecDepth 100000 in
theorem giveup_shares_qty.calls (k : Nat) (A0 : Option Addr) (c0 : Nat) (l0 : List (S43)) (r : Int) (w : World) (hr0 : Kd.C k43 w A0 l0.length l0) (hc0 : l0.length ≤ c0) (h : giveup_shares_qty.f k l0 = some r) :
  Calls Try.prog 26 #[.slice A0 l0.length c0] w fun e w'=>e = .returned (.int .i64 r) ∧ Below w.heap.size w w':=by
 have hu43:=Try.underlying43
 have HR0:=Aside0.mk hr0
 have HC0:=Aside0.mk hc0
 clear hr0 hc0
 have HB:=Aside0.mk (Below.refl w.heap.size w)
 have H : (giveup_shares_qty.l0 k 0 l0 (l0.length : Int) 0) = some r:=h
 clear h
 have H':=Aside0.mk H
 clear H
 go_enter Try.func26, Try.ntmps26
 go_wp2
 go_loopg [2, 7] k (fun kq v2 v7 w'=>∃ (x2_1 : Int) (x7_1 : Int), v2 = .int .i64 x2_1 ∧ v7 = .int .i64 x7_1 ∧ Aside0 (giveup_shares_qty.l0 kq x2_1 l0 (l0.length : Int) x7_1 = some r) ∧ Aside0 (kq ≤ k) ∧ Aside0 (Below w.heap.size w w'))
 case atStart=>exact ⟨(0), (0), (by first | rfl | (simp;done) | (simp [*];done)), (by first | rfl | (simp;done) | (simp [*];done)), H', ⟨Nat.le_refl _⟩, ⟨by repeat (first | (with_reducible first | exact HB.out | apply below_alloc | apply pw_below_drewN | apply below_drew1) | exact HB.out)⟩⟩
 case round =>
  clear H'
  obtain ⟨x2_1, x7_1, rfl, rfl, HA, HK1, HB⟩:=hrel
  cases gk with
  | zero=>exact absurd HA.out (by simp [giveup_shares_qty.l0])
  | succ k1 =>
   have H:=HA.out
   clear HA
   simp only [giveup_shares_qty.l0] at H
   by_cases c2 : x7_1 < (l0.length : Int)
   ·rw [if_pos c2] at H
    have c2b0 : decide (x7_1 < (l0.length : Int)) = true:=decide_eq_true c2
    clear c2
    by_cases c3 : 0 ≤ x7_1
    ·rw [if_pos c3] at H
     have c3b0 : decide (0 ≤ x7_1) = true:=decide_eq_true c3
     clear c3
     by_cases c4 : x7_1 < (l0.length : Int)
     ·rw [if_pos c4] at H
      have c4b0 : decide (x7_1 < (l0.length : Int)) = true:=decide_eq_true c4
      clear c4
      have H':=Aside0.mk H
      clear H
      have p123 : 0 ≤ (x7_1 : Int):=of_decide_eq_true (by first | (with_reducible assumption) | assumption)
      have q123 : x7_1 < (l0.length : Int):=of_decide_eq_true (by first | (with_reducible assumption) | assumption)
      obtain ⟨ad123, e123, hx123_0, hx123_1, hx123_2⟩:=at_T43 HR0.out x7_1 p123 q123
      cases e123
      replace hx123_0:=(HB.out.cell (World.block_lt_of_cell? w _ hx123_0)).trans hx123_0
      replace hx123_1:=(HB.out.cell (World.block_lt_of_cell? w _ hx123_1)).trans hx123_1
      replace hx123_2:=(HB.out.cell (World.block_lt_of_cell? w _ hx123_2)).trans hx123_2
      replace p123:=eq_true p123
      replace q123:=eq_true q123
      go_wp2_with (first | ((with_reducible refine gate_dst (N:=4) rfl ?_);refine box_event ?hg (N:=4) ?hd (cs:=#[.string (⟨#[]⟩ : ByteArray), .string (⟨#[]⟩ : ByteArray), .int .i64 0]) (t:=43) ?hr ?_;(case hd=>rfl);(case hg=>rfl);(case hr=>first | (go_simp;done) | (go_simp;rfl));intro gb124 hg w5 hbox hb;have n0_:=Aside0.mk (below_step (by repeat (first | (with_reducible first | exact HB.out | apply below_alloc | apply pw_below_drewN | apply below_drew1) | exact HB.out)) hb);have n1_:=Aside0.mk (hbox);have n2_:=Aside0.mk ((by rw [hg];exact (below_size (by repeat (first | (with_reducible first | exact HB.out | apply below_alloc | apply pw_below_drewN | apply below_drew1) | exact HB.out))) : w.heap.size ≤ gb124));have n3_:=Aside0.mk ((by rw [hg];exact (below_size (by repeat (first | (with_reducible first | exact HB.out | apply below_alloc | apply pw_below_drewN | apply below_drew1) | exact HB.out))) : w.heap.size ≤ gb124));clear HB;have HB:=n0_;have BK124:=n1_;have GW124:=n2_;have GE124:=n3_;clear n0_ n1_ n2_ n3_ hb hbox hg;have hcz6_0 : w5.cell? ⟨gb124, 0, none⟩ = some (.string (⟨#[]⟩ : ByteArray)):=(blk_cell BK124.out 0).trans rfl;have hcz6_1 : w5.cell? ⟨gb124, 1, none⟩ = some (.string (⟨#[]⟩ : ByteArray)):=(blk_cell BK124.out 1).trans rfl;have hcz6_2 : w5.cell? ⟨gb124, 2, none⟩ = some (.int .i64 0):=(blk_cell BK124.out 2).trans rfl;have hfz6_0:=blk_frozen BK124.out 0;have hfz6_1:=blk_frozen BK124.out 1;have hfz6_2:=blk_frozen BK124.out 2))
      go_roundg k1
      case measure=>have:=HK1.out;omega
      case rel=>exact ⟨(wrap64 (x2_1 + ((rd_T43 l0 x7_1).f1))), (wrap64 (x7_1 + 1)), (by first | rfl | (simp;done) | (simp [*];done)), (by first | rfl | (simp;done) | (simp [*];done)), H', ⟨by have:=HK1.out;omega⟩, ⟨by repeat (first | (with_reducible first | exact HB.out | apply below_alloc | apply pw_below_drewN | apply below_drew1 | refine below_set ?_ GE124.out) | exact HB.out)⟩⟩
     ·rw [if_neg c4] at H
      exact absurd H (by simp)
    ·rw [if_neg c3] at H
     exact absurd H (by simp)
   ·rw [if_neg c2] at H
    have c2b0 : decide (x7_1 < (l0.length : Int)) = false:=decide_eq_false c2
    clear c2
    obtain rfl:=Option.some.inj H
    go_wp2
    go_ret
    exact ⟨by first | rfl | (simp [errW_none, errW_some] <;> rfl) | (simp [*, errW_none, errW_some] <;> rfl), by repeat (first | (with_reducible first | exact HB.out | apply below_alloc | apply pw_below_drewN | apply below_drew1) | exact HB.out)⟩

-- NOT PRINTED: function 28 (giveup_all)

-- NOT PRINTED: function 27 (giveup_parted_3)

end Go.Proofs.Ytlcadahihcefnaa.PTopAverage
