/- Laid for this claim by a program of this session's (wip/mkprint.py, wip/ext.py); not trusted: Lean checks it. -/
import Derived.Test.YtpifobhpijnehaaPNovateFlatx0
import Derived.Test.YtpifobhpijnehaaPNovateFlatx3
import Derived.Test.YtpifobhpijnehaaPNovateFlatx4
namespace Go.Proofs.Ytpifobhpijnehaa.PNovateFlat
open Go.RowKit Go.Proofs.YtpifobhpijnehaaW.PrintWords Go.Proofs.YtpifobhpijnehaaW.PrintLast Go.Proofs.YtpifobhpijnehaaW.PrintMore
attribute [local go_sem] max2_int min2_int max_two min_two max_three min_three max_four min_four   -- for this text's walks alone
set_option linter.unusedVariables false
set_option linter.unusedSimpArgs false

/-! ### product_Value: function 27 -/
def product_Value.f (k : Nat) (a0_0 : ByteArray) (a0_1 : Int) (a0_2 : Int) (a0_3 : Int) (a0_4 : Int) (a0_5 : Int) (a0_6 : Bool) (a1 : Int) (a2 : Int) : Option (Int × Int) := (product_Check.f k a0_0 a0_1 a0_2 a0_3 a0_4 a0_5 a0_6).bind fun t109 => (if t109 = 0 then ((product_within.f a1 33554432).bind fun t110 => (if t110 = true then ((product_within.f a2 1048576).bind fun t111 => (if t111 = true then (some (wrap64 ((wrap64 (a1 * a0_2)) * a2), 0)) else (some (0, 18)))) else (some (0, 17)))) else (some (0, t109)))
theorem product_Value.mono : ∀ a0 a1 a2 a3 a4 a5 a6 a7 a8 k, LeO (product_Value.f k a0 a1 a2 a3 a4 a5 a6 a7 a8) (product_Value.f (k + 1) a0 a1 a2 a3 a4 a5 a6 a7 a8) := by
  intro a0 a1 a2 a3 a4 a5 a6 a7 a8 k
  unfold product_Value.f
  repeat' first
      | (with_reducible exact product_Check.mono _ _ _ _ _ _ _ _)
      | (with_reducible exact LeO.refl _)
      | (with_reducible exact LeO.none _)
      | (with_reducible refine LeO.ite ?_ ?_)
      | (with_reducible refine LeO.bind ?_ (fun _ => ?_))
      | exact product_Check.mono _ _ _ _ _ _ _ _
      | exact LeO.none _
      | refine LeO.ite ?_ ?_
      | refine LeO.bind ?_ (fun _ => ?_)
set_option maxHeartbeats 8000000 in
set_option maxRecDepth 100000 in
theorem product_Value.calls (k : Nat) (a0_0 : ByteArray) (a0_1 : Int) (a0_2 : Int) (a0_3 : Int) (a0_4 : Int) (a0_5 : Int) (a0_6 : Bool) (a1 : Int) (a2 : Int) (r1 : Int) (r2 : Int) (w : World) (h : product_Value.f k a0_0 a0_1 a0_2 a0_3 a0_4 a0_5 a0_6 a1 a2 = some (r1, r2)) :
    Calls Try.prog 27 #[.agg #[.string a0_0, .int .i64 a0_1, .int .i64 a0_2, .int .i64 a0_3, .int .i64 a0_4, .int .i64 a0_5, .bool a0_6], .int .i64 a1, .int .i64 a2] w fun e w' => e = .returned (.tuple #[.int .i64 r1, .int .i64 r2]) ∧ Below w.heap.size w w' := by
  have hu26 := Try.underlying26
  have HB := Aside0.mk (Below.refl w.heap.size w)
  have H : ((product_Check.f k a0_0 a0_1 a0_2 a0_3 a0_4 a0_5 a0_6).bind fun t109 => (if t109 = 0 then ((product_within.f a1 33554432).bind fun t110 => (if t110 = true then ((product_within.f a2 1048576).bind fun t111 => (if t111 = true then (some (wrap64 ((wrap64 (a1 * a0_2)) * a2), 0)) else (some (0, 18)))) else (some (0, 17)))) else (some (0, t109)))) = some (r1, r2) := h
  clear h
  replace H := Option.bind_eq_some_iff.mp H
  obtain ⟨t109, A40, H⟩ := H
  replace H : (if t109 = 0 then ((product_within.f a1 33554432).bind fun t110 => (if t110 = true then ((product_within.f a2 1048576).bind fun t111 => (if t111 = true then (some (wrap64 ((wrap64 (a1 * a0_2)) * a2), 0)) else (some (0, 18)))) else (some (0, 17)))) else (some (0, t109))) = some (r1, r2) := H
  have A4 := Aside0.mk A40
  clear A40
  by_cases c5 : t109 = 0
  · rw [if_pos c5] at H
    have c5b0 : (t109 == 0) = true := beq_iff_eq.mpr c5
    have c5b1 : (t109 != 0) = false := bne_eq_false_iff_eq.mpr c5
    clear c5
    replace H := Option.bind_eq_some_iff.mp H
    obtain ⟨t110, A60, H⟩ := H
    replace H : (if t110 = true then ((product_within.f a2 1048576).bind fun t111 => (if t111 = true then (some (wrap64 ((wrap64 (a1 * a0_2)) * a2), 0)) else (some (0, 18)))) else (some (0, 17))) = some (r1, r2) := H
    have A6 := Aside0.mk A60
    clear A60
    by_cases c7 : t110 = true
    · subst c7
      have H1 : ((product_within.f a2 1048576).bind fun t111 => (if t111 = true then (some (wrap64 ((wrap64 (a1 * a0_2)) * a2), 0)) else (some (0, 18)))) = some (r1, r2) := by rw [if_pos rfl] at H; exact H
      clear H
      have H := H1
      clear H1
      replace H := Option.bind_eq_some_iff.mp H
      obtain ⟨t111, A80, H⟩ := H
      replace H : (if t111 = true then (some (wrap64 ((wrap64 (a1 * a0_2)) * a2), 0)) else (some (0, 18))) = some (r1, r2) := H
      have A8 := Aside0.mk A80
      clear A80
      by_cases c9 : t111 = true
      · subst c9
        have H1 : (some (wrap64 ((wrap64 (a1 * a0_2)) * a2), 0)) = some (r1, r2) := by rw [if_pos rfl] at H; exact H
        clear H
        have H := H1
        clear H1
        simp only [Option.some.injEq, Prod.mk.injEq] at H
        obtain ⟨rfl, rfl⟩ := H
        go_enter Try.func27, Try.ntmps27
        go_wp2_with (first | ((with_reducible refine gate_dst (N := 3) rfl ?_); refine box_event ?hg (N := 3) ?hd (cs := #[.string a0_0, .int .i64 a0_1, .int .i64 a0_2, .int .i64 a0_3, .int .i64 a0_4, .int .i64 a0_5, .bool a0_6]) (t := 26) ?hr ?_; (case hd => rfl); (case hg => rfl); (case hr => first | (go_simp; done) | (go_simp; rfl)); intro gb108 hg w10 hbox hb; have n0_ := Aside0.mk (below_step (by repeat (first | (with_reducible first | exact HB.out | apply below_alloc | apply pw_below_drewN | apply below_drew1) | exact HB.out)) hb); have n1_ := Aside0.mk (hbox); have n2_ := Aside0.mk ((by rw [hg]; exact (below_size (by repeat (first | (with_reducible first | exact HB.out | apply below_alloc | apply pw_below_drewN | apply below_drew1) | exact HB.out))) : w.heap.size ≤ gb108)); have n3_ := Aside0.mk ((by rw [hg]; exact (below_size (by repeat (first | (with_reducible first | exact HB.out | apply below_alloc | apply pw_below_drewN | apply below_drew1) | exact HB.out))) : w.heap.size ≤ gb108)); clear HB; have HB := n0_; have BK108 := n1_; have GW108 := n2_; have GE108 := n3_; clear n0_ n1_ n2_ n3_; clear hb hbox hg; have hcz11_0 : w10.cell? ⟨gb108, 0, none⟩ = some (.string a0_0) := (blk_cell BK108.out 0).trans rfl; have hcz11_1 : w10.cell? ⟨gb108, 1, none⟩ = some (.int .i64 a0_1) := (blk_cell BK108.out 1).trans rfl; have hcz11_2 : w10.cell? ⟨gb108, 2, none⟩ = some (.int .i64 a0_2) := (blk_cell BK108.out 2).trans rfl; have hcz11_3 : w10.cell? ⟨gb108, 3, none⟩ = some (.int .i64 a0_3) := (blk_cell BK108.out 3).trans rfl; have hcz11_4 : w10.cell? ⟨gb108, 4, none⟩ = some (.int .i64 a0_4) := (blk_cell BK108.out 4).trans rfl; have hcz11_5 : w10.cell? ⟨gb108, 5, none⟩ = some (.int .i64 a0_5) := (blk_cell BK108.out 5).trans rfl; have hcz11_6 : w10.cell? ⟨gb108, 6, none⟩ = some (.bool a0_6) := (blk_cell BK108.out 6).trans rfl; have hfz11_0 := blk_frozen BK108.out 0; have hfz11_1 := blk_frozen BK108.out 1; have hfz11_2 := blk_frozen BK108.out 2; have hfz11_3 := blk_frozen BK108.out 3; have hfz11_4 := blk_frozen BK108.out 4; have hfz11_5 := blk_frozen BK108.out 5; have hfz11_6 := blk_frozen BK108.out 6) | ((with_reducible refine gate_callee (f := 39) rfl ?_); refine goesL_ (some 10) rfl rfl Try.func39 (by kernel_rfl) rfl #[.agg #[.string a0_0, .int .i64 a0_1, .int .i64 a0_2, .int .i64 a0_3, .int .i64 a0_4, .int .i64 a0_5, .bool a0_6]] rfl (by (try simp only [List.map_toArray, List.map_cons, List.map_nil]); first | done | rfl | (simp only [List.length_drop, List.length_take]; rfl)) ?_; (with_reducible refine (product_Check.calls k a0_0 a0_1 a0_2 a0_3 a0_4 a0_5 a0_6 t109 _ A4.out).mono ?_); rintro e w12 ⟨rfl, hb⟩; refine ⟨_, rfl, ?_⟩; have n0_ := Aside0.mk (blk_below (g := gb108) (o := .cells #[.string a0_0, .int .i64 a0_1, .int .i64 a0_2, .int .i64 a0_3, .int .i64 a0_4, .int .i64 a0_5, .bool a0_6] 26 (0, 0)) (by (with_reducible repeat (first | refine blk_drewN ?_ _ | refine blk_drew ?_ | refine blk_alloc ?_ _)); exact BK108.out) hb); have n1_ := Aside0.mk (below_step (by repeat (first | (with_reducible first | exact HB.out | apply below_alloc | apply pw_below_drewN | apply below_drew1 | refine below_set ?_ GE108.out) | exact HB.out)) hb); clear BK108; clear HB; have BK108 := n0_; have HB := n1_; clear n0_ n1_; (try clear hb); (try clear hb2); (try clear hk); (try clear hi)) | ((with_reducible refine gate_callee (f := 40) rfl ?_); refine goesL_ (some 15) rfl rfl Try.func40 (by kernel_rfl) rfl #[.int .i64 a1, .int .i64 33554432] rfl (by (try simp only [List.map_toArray, List.map_cons, List.map_nil]); first | done | rfl | (simp only [List.length_drop, List.length_take]; rfl)) ?_; (with_reducible refine (product_within.calls a1 33554432 true _ A6.out).mono ?_); rintro e w' ⟨rfl, ⟨nd, rfl⟩⟩; refine ⟨_, rfl, ?_⟩) | ((with_reducible refine gate_callee (f := 40) rfl ?_); refine goesL_ (some 18) rfl rfl Try.func40 (by kernel_rfl) rfl #[.int .i64 a2, .int .i64 1048576] rfl (by (try simp only [List.map_toArray, List.map_cons, List.map_nil]); first | done | rfl | (simp only [List.length_drop, List.length_take]; rfl)) ?_; (with_reducible refine (product_within.calls a2 1048576 true _ A8.out).mono ?_); rintro e w' ⟨rfl, ⟨nd, rfl⟩⟩; refine ⟨_, rfl, ?_⟩; have hcz13_0 : w12.cell? ⟨gb108, 0, none⟩ = some (.string a0_0) := (blk_cell BK108.out 0).trans rfl; have hcz13_1 : w12.cell? ⟨gb108, 1, none⟩ = some (.int .i64 a0_1) := (blk_cell BK108.out 1).trans rfl; have hcz13_2 : w12.cell? ⟨gb108, 2, none⟩ = some (.int .i64 a0_2) := (blk_cell BK108.out 2).trans rfl; have hcz13_3 : w12.cell? ⟨gb108, 3, none⟩ = some (.int .i64 a0_3) := (blk_cell BK108.out 3).trans rfl; have hcz13_4 : w12.cell? ⟨gb108, 4, none⟩ = some (.int .i64 a0_4) := (blk_cell BK108.out 4).trans rfl; have hcz13_5 : w12.cell? ⟨gb108, 5, none⟩ = some (.int .i64 a0_5) := (blk_cell BK108.out 5).trans rfl; have hcz13_6 : w12.cell? ⟨gb108, 6, none⟩ = some (.bool a0_6) := (blk_cell BK108.out 6).trans rfl; have hfz13_0 := blk_frozen BK108.out 0; have hfz13_1 := blk_frozen BK108.out 1; have hfz13_2 := blk_frozen BK108.out 2; have hfz13_3 := blk_frozen BK108.out 3; have hfz13_4 := blk_frozen BK108.out 4; have hfz13_5 := blk_frozen BK108.out 5; have hfz13_6 := blk_frozen BK108.out 6))
        go_ret2
        exact ⟨by first | rfl | (simp [errW_none, errW_some] <;> rfl) | (simp [*, errW_none, errW_some] <;> rfl), by repeat (first | (with_reducible first | exact HB.out | apply below_alloc | apply pw_below_drewN | apply below_drew1 | refine below_set ?_ GE108.out) | exact HB.out)⟩
      · replace c9 := Bool.eq_false_iff.mpr c9
        subst c9
        have H1 : (some (0, 18)) = some (r1, r2) := by rw [if_neg (show ¬ (false = true) by decide)] at H; exact H
        clear H
        have H := H1
        clear H1
        simp only [Option.some.injEq, Prod.mk.injEq] at H
        obtain ⟨rfl, rfl⟩ := H
        go_enter Try.func27, Try.ntmps27
        go_wp2_with (first | ((with_reducible refine gate_dst (N := 3) rfl ?_); refine box_event ?hg (N := 3) ?hd (cs := #[.string a0_0, .int .i64 a0_1, .int .i64 a0_2, .int .i64 a0_3, .int .i64 a0_4, .int .i64 a0_5, .bool a0_6]) (t := 26) ?hr ?_; (case hd => rfl); (case hg => rfl); (case hr => first | (go_simp; done) | (go_simp; rfl)); intro gb108 hg w14 hbox hb; have n0_ := Aside0.mk (below_step (by repeat (first | (with_reducible first | exact HB.out | apply below_alloc | apply pw_below_drewN | apply below_drew1) | exact HB.out)) hb); have n1_ := Aside0.mk (hbox); have n2_ := Aside0.mk ((by rw [hg]; exact (below_size (by repeat (first | (with_reducible first | exact HB.out | apply below_alloc | apply pw_below_drewN | apply below_drew1) | exact HB.out))) : w.heap.size ≤ gb108)); have n3_ := Aside0.mk ((by rw [hg]; exact (below_size (by repeat (first | (with_reducible first | exact HB.out | apply below_alloc | apply pw_below_drewN | apply below_drew1) | exact HB.out))) : w.heap.size ≤ gb108)); clear HB; have HB := n0_; have BK108 := n1_; have GW108 := n2_; have GE108 := n3_; clear n0_ n1_ n2_ n3_; clear hb hbox hg; have hcz15_0 : w14.cell? ⟨gb108, 0, none⟩ = some (.string a0_0) := (blk_cell BK108.out 0).trans rfl; have hcz15_1 : w14.cell? ⟨gb108, 1, none⟩ = some (.int .i64 a0_1) := (blk_cell BK108.out 1).trans rfl; have hcz15_2 : w14.cell? ⟨gb108, 2, none⟩ = some (.int .i64 a0_2) := (blk_cell BK108.out 2).trans rfl; have hcz15_3 : w14.cell? ⟨gb108, 3, none⟩ = some (.int .i64 a0_3) := (blk_cell BK108.out 3).trans rfl; have hcz15_4 : w14.cell? ⟨gb108, 4, none⟩ = some (.int .i64 a0_4) := (blk_cell BK108.out 4).trans rfl; have hcz15_5 : w14.cell? ⟨gb108, 5, none⟩ = some (.int .i64 a0_5) := (blk_cell BK108.out 5).trans rfl; have hcz15_6 : w14.cell? ⟨gb108, 6, none⟩ = some (.bool a0_6) := (blk_cell BK108.out 6).trans rfl; have hfz15_0 := blk_frozen BK108.out 0; have hfz15_1 := blk_frozen BK108.out 1; have hfz15_2 := blk_frozen BK108.out 2; have hfz15_3 := blk_frozen BK108.out 3; have hfz15_4 := blk_frozen BK108.out 4; have hfz15_5 := blk_frozen BK108.out 5; have hfz15_6 := blk_frozen BK108.out 6) | ((with_reducible refine gate_callee (f := 39) rfl ?_); refine goesL_ (some 10) rfl rfl Try.func39 (by kernel_rfl) rfl #[.agg #[.string a0_0, .int .i64 a0_1, .int .i64 a0_2, .int .i64 a0_3, .int .i64 a0_4, .int .i64 a0_5, .bool a0_6]] rfl (by (try simp only [List.map_toArray, List.map_cons, List.map_nil]); first | done | rfl | (simp only [List.length_drop, List.length_take]; rfl)) ?_; (with_reducible refine (product_Check.calls k a0_0 a0_1 a0_2 a0_3 a0_4 a0_5 a0_6 t109 _ A4.out).mono ?_); rintro e w16 ⟨rfl, hb⟩; refine ⟨_, rfl, ?_⟩; have n0_ := Aside0.mk (blk_below (g := gb108) (o := .cells #[.string a0_0, .int .i64 a0_1, .int .i64 a0_2, .int .i64 a0_3, .int .i64 a0_4, .int .i64 a0_5, .bool a0_6] 26 (0, 0)) (by (with_reducible repeat (first | refine blk_drewN ?_ _ | refine blk_drew ?_ | refine blk_alloc ?_ _)); exact BK108.out) hb); have n1_ := Aside0.mk (below_step (by repeat (first | (with_reducible first | exact HB.out | apply below_alloc | apply pw_below_drewN | apply below_drew1 | refine below_set ?_ GE108.out) | exact HB.out)) hb); clear BK108; clear HB; have BK108 := n0_; have HB := n1_; clear n0_ n1_; (try clear hb); (try clear hb2); (try clear hk); (try clear hi)) | ((with_reducible refine gate_callee (f := 40) rfl ?_); refine goesL_ (some 15) rfl rfl Try.func40 (by kernel_rfl) rfl #[.int .i64 a1, .int .i64 33554432] rfl (by (try simp only [List.map_toArray, List.map_cons, List.map_nil]); first | done | rfl | (simp only [List.length_drop, List.length_take]; rfl)) ?_; (with_reducible refine (product_within.calls a1 33554432 true _ A6.out).mono ?_); rintro e w' ⟨rfl, ⟨nd, rfl⟩⟩; refine ⟨_, rfl, ?_⟩) | ((with_reducible refine gate_callee (f := 40) rfl ?_); refine goesL_ (some 18) rfl rfl Try.func40 (by kernel_rfl) rfl #[.int .i64 a2, .int .i64 1048576] rfl (by (try simp only [List.map_toArray, List.map_cons, List.map_nil]); first | done | rfl | (simp only [List.length_drop, List.length_take]; rfl)) ?_; (with_reducible refine (product_within.calls a2 1048576 false _ A8.out).mono ?_); rintro e w' ⟨rfl, ⟨nd, rfl⟩⟩; refine ⟨_, rfl, ?_⟩))
        go_ret2
        exact ⟨by first | rfl | (simp [errW_none, errW_some] <;> rfl) | (simp [*, errW_none, errW_some] <;> rfl), by repeat (first | (with_reducible first | exact HB.out | apply below_alloc | apply pw_below_drewN | apply below_drew1 | refine below_set ?_ GE108.out) | exact HB.out)⟩
    · replace c7 := Bool.eq_false_iff.mpr c7
      subst c7
      have H1 : (some (0, 17)) = some (r1, r2) := by rw [if_neg (show ¬ (false = true) by decide)] at H; exact H
      clear H
      have H := H1
      clear H1
      simp only [Option.some.injEq, Prod.mk.injEq] at H
      obtain ⟨rfl, rfl⟩ := H
      go_enter Try.func27, Try.ntmps27
      go_wp2_with (first | ((with_reducible refine gate_dst (N := 3) rfl ?_); refine box_event ?hg (N := 3) ?hd (cs := #[.string a0_0, .int .i64 a0_1, .int .i64 a0_2, .int .i64 a0_3, .int .i64 a0_4, .int .i64 a0_5, .bool a0_6]) (t := 26) ?hr ?_; (case hd => rfl); (case hg => rfl); (case hr => first | (go_simp; done) | (go_simp; rfl)); intro gb108 hg w17 hbox hb; have n0_ := Aside0.mk (below_step (by repeat (first | (with_reducible first | exact HB.out | apply below_alloc | apply pw_below_drewN | apply below_drew1) | exact HB.out)) hb); have n1_ := Aside0.mk (hbox); have n2_ := Aside0.mk ((by rw [hg]; exact (below_size (by repeat (first | (with_reducible first | exact HB.out | apply below_alloc | apply pw_below_drewN | apply below_drew1) | exact HB.out))) : w.heap.size ≤ gb108)); have n3_ := Aside0.mk ((by rw [hg]; exact (below_size (by repeat (first | (with_reducible first | exact HB.out | apply below_alloc | apply pw_below_drewN | apply below_drew1) | exact HB.out))) : w.heap.size ≤ gb108)); clear HB; have HB := n0_; have BK108 := n1_; have GW108 := n2_; have GE108 := n3_; clear n0_ n1_ n2_ n3_; clear hb hbox hg; have hcz18_0 : w17.cell? ⟨gb108, 0, none⟩ = some (.string a0_0) := (blk_cell BK108.out 0).trans rfl; have hcz18_1 : w17.cell? ⟨gb108, 1, none⟩ = some (.int .i64 a0_1) := (blk_cell BK108.out 1).trans rfl; have hcz18_2 : w17.cell? ⟨gb108, 2, none⟩ = some (.int .i64 a0_2) := (blk_cell BK108.out 2).trans rfl; have hcz18_3 : w17.cell? ⟨gb108, 3, none⟩ = some (.int .i64 a0_3) := (blk_cell BK108.out 3).trans rfl; have hcz18_4 : w17.cell? ⟨gb108, 4, none⟩ = some (.int .i64 a0_4) := (blk_cell BK108.out 4).trans rfl; have hcz18_5 : w17.cell? ⟨gb108, 5, none⟩ = some (.int .i64 a0_5) := (blk_cell BK108.out 5).trans rfl; have hcz18_6 : w17.cell? ⟨gb108, 6, none⟩ = some (.bool a0_6) := (blk_cell BK108.out 6).trans rfl; have hfz18_0 := blk_frozen BK108.out 0; have hfz18_1 := blk_frozen BK108.out 1; have hfz18_2 := blk_frozen BK108.out 2; have hfz18_3 := blk_frozen BK108.out 3; have hfz18_4 := blk_frozen BK108.out 4; have hfz18_5 := blk_frozen BK108.out 5; have hfz18_6 := blk_frozen BK108.out 6) | ((with_reducible refine gate_callee (f := 39) rfl ?_); refine goesL_ (some 10) rfl rfl Try.func39 (by kernel_rfl) rfl #[.agg #[.string a0_0, .int .i64 a0_1, .int .i64 a0_2, .int .i64 a0_3, .int .i64 a0_4, .int .i64 a0_5, .bool a0_6]] rfl (by (try simp only [List.map_toArray, List.map_cons, List.map_nil]); first | done | rfl | (simp only [List.length_drop, List.length_take]; rfl)) ?_; (with_reducible refine (product_Check.calls k a0_0 a0_1 a0_2 a0_3 a0_4 a0_5 a0_6 t109 _ A4.out).mono ?_); rintro e w19 ⟨rfl, hb⟩; refine ⟨_, rfl, ?_⟩; have n0_ := Aside0.mk (blk_below (g := gb108) (o := .cells #[.string a0_0, .int .i64 a0_1, .int .i64 a0_2, .int .i64 a0_3, .int .i64 a0_4, .int .i64 a0_5, .bool a0_6] 26 (0, 0)) (by (with_reducible repeat (first | refine blk_drewN ?_ _ | refine blk_drew ?_ | refine blk_alloc ?_ _)); exact BK108.out) hb); have n1_ := Aside0.mk (below_step (by repeat (first | (with_reducible first | exact HB.out | apply below_alloc | apply pw_below_drewN | apply below_drew1 | refine below_set ?_ GE108.out) | exact HB.out)) hb); clear BK108; clear HB; have BK108 := n0_; have HB := n1_; clear n0_ n1_; (try clear hb); (try clear hb2); (try clear hk); (try clear hi)) | ((with_reducible refine gate_callee (f := 40) rfl ?_); refine goesL_ (some 15) rfl rfl Try.func40 (by kernel_rfl) rfl #[.int .i64 a1, .int .i64 33554432] rfl (by (try simp only [List.map_toArray, List.map_cons, List.map_nil]); first | done | rfl | (simp only [List.length_drop, List.length_take]; rfl)) ?_; (with_reducible refine (product_within.calls a1 33554432 false _ A6.out).mono ?_); rintro e w' ⟨rfl, ⟨nd, rfl⟩⟩; refine ⟨_, rfl, ?_⟩))
      go_ret2
      exact ⟨by first | rfl | (simp [errW_none, errW_some] <;> rfl) | (simp [*, errW_none, errW_some] <;> rfl), by repeat (first | (with_reducible first | exact HB.out | apply below_alloc | apply pw_below_drewN | apply below_drew1 | refine below_set ?_ GE108.out) | exact HB.out)⟩
  · rw [if_neg c5] at H
    have c5b0 : (t109 == 0) = false := beq_eq_false_iff_ne.mpr c5
    have c5b1 : (t109 != 0) = true := bne_iff_ne.mpr c5
    simp only [Option.some.injEq, Prod.mk.injEq] at H
    obtain ⟨rfl, rfl⟩ := H
    go_enter Try.func27, Try.ntmps27
    go_wp2_with (first | ((with_reducible refine gate_dst (N := 3) rfl ?_); refine box_event ?hg (N := 3) ?hd (cs := #[.string a0_0, .int .i64 a0_1, .int .i64 a0_2, .int .i64 a0_3, .int .i64 a0_4, .int .i64 a0_5, .bool a0_6]) (t := 26) ?hr ?_; (case hd => rfl); (case hg => rfl); (case hr => first | (go_simp; done) | (go_simp; rfl)); intro gb108 hg w20 hbox hb; have n0_ := Aside0.mk (below_step (by repeat (first | (with_reducible first | exact HB.out | apply below_alloc | apply pw_below_drewN | apply below_drew1) | exact HB.out)) hb); have n1_ := Aside0.mk (hbox); have n2_ := Aside0.mk ((by rw [hg]; exact (below_size (by repeat (first | (with_reducible first | exact HB.out | apply below_alloc | apply pw_below_drewN | apply below_drew1) | exact HB.out))) : w.heap.size ≤ gb108)); have n3_ := Aside0.mk ((by rw [hg]; exact (below_size (by repeat (first | (with_reducible first | exact HB.out | apply below_alloc | apply pw_below_drewN | apply below_drew1) | exact HB.out))) : w.heap.size ≤ gb108)); clear HB; have HB := n0_; have BK108 := n1_; have GW108 := n2_; have GE108 := n3_; clear n0_ n1_ n2_ n3_; clear hb hbox hg; have hcz21_0 : w20.cell? ⟨gb108, 0, none⟩ = some (.string a0_0) := (blk_cell BK108.out 0).trans rfl; have hcz21_1 : w20.cell? ⟨gb108, 1, none⟩ = some (.int .i64 a0_1) := (blk_cell BK108.out 1).trans rfl; have hcz21_2 : w20.cell? ⟨gb108, 2, none⟩ = some (.int .i64 a0_2) := (blk_cell BK108.out 2).trans rfl; have hcz21_3 : w20.cell? ⟨gb108, 3, none⟩ = some (.int .i64 a0_3) := (blk_cell BK108.out 3).trans rfl; have hcz21_4 : w20.cell? ⟨gb108, 4, none⟩ = some (.int .i64 a0_4) := (blk_cell BK108.out 4).trans rfl; have hcz21_5 : w20.cell? ⟨gb108, 5, none⟩ = some (.int .i64 a0_5) := (blk_cell BK108.out 5).trans rfl; have hcz21_6 : w20.cell? ⟨gb108, 6, none⟩ = some (.bool a0_6) := (blk_cell BK108.out 6).trans rfl; have hfz21_0 := blk_frozen BK108.out 0; have hfz21_1 := blk_frozen BK108.out 1; have hfz21_2 := blk_frozen BK108.out 2; have hfz21_3 := blk_frozen BK108.out 3; have hfz21_4 := blk_frozen BK108.out 4; have hfz21_5 := blk_frozen BK108.out 5; have hfz21_6 := blk_frozen BK108.out 6) | ((with_reducible refine gate_callee (f := 39) rfl ?_); refine goesL_ (some 10) rfl rfl Try.func39 (by kernel_rfl) rfl #[.agg #[.string a0_0, .int .i64 a0_1, .int .i64 a0_2, .int .i64 a0_3, .int .i64 a0_4, .int .i64 a0_5, .bool a0_6]] rfl (by (try simp only [List.map_toArray, List.map_cons, List.map_nil]); first | done | rfl | (simp only [List.length_drop, List.length_take]; rfl)) ?_; (with_reducible refine (product_Check.calls k a0_0 a0_1 a0_2 a0_3 a0_4 a0_5 a0_6 t109 _ A4.out).mono ?_); rintro e w22 ⟨rfl, hb⟩; refine ⟨_, rfl, ?_⟩; have n0_ := Aside0.mk (blk_below (g := gb108) (o := .cells #[.string a0_0, .int .i64 a0_1, .int .i64 a0_2, .int .i64 a0_3, .int .i64 a0_4, .int .i64 a0_5, .bool a0_6] 26 (0, 0)) (by (with_reducible repeat (first | refine blk_drewN ?_ _ | refine blk_drew ?_ | refine blk_alloc ?_ _)); exact BK108.out) hb); have n1_ := Aside0.mk (below_step (by repeat (first | (with_reducible first | exact HB.out | apply below_alloc | apply pw_below_drewN | apply below_drew1 | refine below_set ?_ GE108.out) | exact HB.out)) hb); clear BK108; clear HB; have BK108 := n0_; have HB := n1_; clear n0_ n1_; (try clear hb); (try clear hb2); (try clear hk); (try clear hi)))
    go_ret2
    exact ⟨by first | rfl | (simp [errW_none, errW_some] <;> rfl) | (simp [*, errW_none, errW_some] <;> rfl), by repeat (first | (with_reducible first | exact HB.out | apply below_alloc | apply pw_below_drewN | apply below_drew1 | refine below_set ?_ GE108.out) | exact HB.out)⟩

/-! ### cents_Fits: function 41 -/
def cents_Fits.f (a0 : Int) : Option (Bool) := if a0 ≥ (-1152921504606846976) then (some (decide (a0 ≤ 1152921504606846976))) else (some false)
set_option maxHeartbeats 8000000 in
set_option maxRecDepth 100000 in
theorem cents_Fits.calls (a0 : Int) (r : Bool) (w : World) (h : cents_Fits.f a0 = some r) :
    Calls Try.prog 41 #[.int .i64 a0] w fun e w' => e = .returned (.bool r) ∧ Drawn0 w w' := by
  have H : (if a0 ≥ (-1152921504606846976) then (some (decide (a0 ≤ 1152921504606846976))) else (some false)) = some r := h
  clear h
  by_cases c2 : a0 ≥ (-1152921504606846976)
  · rw [if_pos c2] at H
    have c2b0 : decide ((-1152921504606846976) ≤ a0) = true := decide_eq_true c2
    clear c2
    obtain rfl := Option.some.inj H
    go_enter Try.func41, Try.ntmps41
    go_wp2
    go_ret
    exact ⟨by first | rfl | (simp; done) | (simp [*]; done), by repeat (first | exact Drawn0.refl _ | apply Drawn0.step)⟩
  · rw [if_neg c2] at H
    have c2b0 : decide ((-1152921504606846976) ≤ a0) = false := decide_eq_false c2
    clear c2
    obtain rfl := Option.some.inj H
    go_enter Try.func41, Try.ntmps41
    go_wp2
    go_ret
    exact ⟨by first | rfl | (simp; done) | (simp [*]; done), by repeat (first | exact Drawn0.refl _ | apply Drawn0.step)⟩

/-! ### cents_fitting: function 42 -/
def cents_fitting.f (a0 : Int) : Option (Int × Int) := (cents_Fits.f a0).bind fun t112 => (if t112 = true then (some (a0, 0)) else (some (0, 3)))
set_option maxHeartbeats 8000000 in
set_option maxRecDepth 100000 in
theorem cents_fitting.calls (a0 : Int) (r1 : Int) (r2 : Int) (w : World) (h : cents_fitting.f a0 = some (r1, r2)) :
    Calls Try.prog 42 #[.int .i64 a0] w fun e w' => e = .returned (.tuple #[.int .i64 r1, .int .i64 r2]) ∧ Drawn0 w w' := by
  have H : ((cents_Fits.f a0).bind fun t112 => (if t112 = true then (some (a0, 0)) else (some (0, 3)))) = some (r1, r2) := h
  clear h
  replace H := Option.bind_eq_some_iff.mp H
  obtain ⟨t112, A20, H⟩ := H
  replace H : (if t112 = true then (some (a0, 0)) else (some (0, 3))) = some (r1, r2) := H
  have A2 := Aside0.mk A20
  clear A20
  by_cases c3 : t112 = true
  · subst c3
    have H1 : (some (a0, 0)) = some (r1, r2) := by rw [if_pos rfl] at H; exact H
    clear H
    have H := H1
    clear H1
    simp only [Option.some.injEq, Prod.mk.injEq] at H
    obtain ⟨rfl, rfl⟩ := H
    go_enter Try.func42, Try.ntmps42
    go_wp2_with (first | ((with_reducible refine gate_callee (f := 41) rfl ?_); refine goesL_ (some 5) rfl rfl Try.func41 (by kernel_rfl) rfl #[.int .i64 a0] rfl (by (try simp only [List.map_toArray, List.map_cons, List.map_nil]); first | done | rfl | (simp only [List.length_drop, List.length_take]; rfl)) ?_; (with_reducible refine (cents_Fits.calls a0 true _ A2.out).mono ?_); rintro e w' ⟨rfl, ⟨nd, rfl⟩⟩; refine ⟨_, rfl, ?_⟩))
    go_ret2
    exact ⟨by first | rfl | (simp; done) | (simp [*]; done), by repeat (first | exact Drawn0.refl _ | apply Drawn0.step)⟩
  · replace c3 := Bool.eq_false_iff.mpr c3
    subst c3
    have H1 : (some (0, 3)) = some (r1, r2) := by rw [if_neg (show ¬ (false = true) by decide)] at H; exact H
    clear H
    have H := H1
    clear H1
    simp only [Option.some.injEq, Prod.mk.injEq] at H
    obtain ⟨rfl, rfl⟩ := H
    go_enter Try.func42, Try.ntmps42
    go_wp2_with (first | ((with_reducible refine gate_callee (f := 41) rfl ?_); refine goesL_ (some 5) rfl rfl Try.func41 (by kernel_rfl) rfl #[.int .i64 a0] rfl (by (try simp only [List.map_toArray, List.map_cons, List.map_nil]); first | done | rfl | (simp only [List.length_drop, List.length_take]; rfl)) ?_; (with_reducible refine (cents_Fits.calls a0 false _ A2.out).mono ?_); rintro e w' ⟨rfl, ⟨nd, rfl⟩⟩; refine ⟨_, rfl, ?_⟩))
    go_ret2
    exact ⟨by first | rfl | (simp; done) | (simp [*]; done), by repeat (first | exact Drawn0.refl _ | apply Drawn0.step)⟩

/-! ### cents_Sum: function 28 -/
def cents_Sum.l0 : Nat → List Int → Int → Int → Int → Int → Option (Int × Int)
  | 0, _, _, _, _, _ => none
  | k + 1, x0, x4, x5, x9, x10 => if x10 < x9 then (if 0 ≤ x10 then (if x10 < (x0.length : Int) then ((cents_Fits.f (rd x0 x10)).bind fun t114 => (if t114 = true then (cents_Sum.l0 k x0 (wrap64 (x4 + ((rd x0 x10) / 4294967296))) (wrap64 (x5 + (Go.bits .and .i64 (rd x0 x10) 4294967295))) x9 (wrap64 (x10 + 1))) else (some (0, 2)))) else (none)) else (none)) else (if (wrap64 (x4 + (x5 / 4294967296))) < (-268435456) then (some (0, 3)) else (if (wrap64 (x4 + (x5 / 4294967296))) > 268435456 then (some (0, 3)) else ((cents_fitting.f (wrap64 ((wrap64 ((wrap64 (x4 + (x5 / 4294967296))) * 4294967296)) + (Go.bits .and .i64 x5 4294967295)))).bind fun bt117 => (some (bt117.1, bt117.2)))))
def cents_Sum.f (k : Nat) (l0 : List Int) : Option (Int × Int) := cents_Sum.l0 k l0 0 0 (l0.length : Int) 0
theorem cents_Sum.mono_l : ∀ k, (∀ y0 y1 y2 y3 y4, LeO (cents_Sum.l0 k y0 y1 y2 y3 y4) (cents_Sum.l0 (k + 1) y0 y1 y2 y3 y4))
  | 0 => fun _ _ _ _ _ r h => by simp [cents_Sum.l0] at h
  | k + 1 => by
    have ih0 := cents_Sum.mono_l k
    · intro y0 y1 y2 y3 y4
      unfold cents_Sum.l0
      repeat' first
      | (with_reducible exact ih0 _ _ _ _ _)
      | (with_reducible exact LeO.refl _)
      | (with_reducible exact LeO.none _)
      | (with_reducible refine LeO.ite ?_ ?_)
      | (with_reducible refine LeO.bind ?_ (fun _ => ?_))
      | exact ih0 _ _ _ _ _
      | exact LeO.none _
      | refine LeO.ite ?_ ?_
      | refine LeO.bind ?_ (fun _ => ?_)
theorem cents_Sum.mono : ∀ a0 k, LeO (cents_Sum.f k a0) (cents_Sum.f (k + 1) a0) := by
  intro a0 k
  have ih0 := cents_Sum.mono_l k
  unfold cents_Sum.f
  repeat' first
      | (with_reducible exact ih0 _ _ _ _ _)
      | (with_reducible exact LeO.refl _)
      | (with_reducible exact LeO.none _)
      | (with_reducible refine LeO.ite ?_ ?_)
      | (with_reducible refine LeO.bind ?_ (fun _ => ?_))
      | exact ih0 _ _ _ _ _
      | exact LeO.none _
      | refine LeO.ite ?_ ?_
      | refine LeO.bind ?_ (fun _ => ?_)
set_option maxHeartbeats 8000000 in
set_option maxRecDepth 100000 in
theorem cents_Sum.calls (k : Nat) (A0 : Option Addr) (c0 : Nat) (l0 : List Int) (r1 : Int) (r2 : Int) (w : World) (hr0 : Kd.C (Kd.int .i64) w A0 l0.length l0) (hc0 : l0.length ≤ c0) (h : cents_Sum.f k l0 = some (r1, r2)) :
    Calls Try.prog 28 #[.slice A0 l0.length c0] w fun e w' => e = .returned (.tuple #[.int .i64 r1, .int .i64 r2]) ∧ Drawn0 w w' := by
  have HR0 := Aside0.mk hr0
  have HC0 := Aside0.mk hc0
  clear hr0 hc0
  have H : (cents_Sum.l0 k l0 0 0 (l0.length : Int) 0) = some (r1, r2) := h
  clear h
  have H' := Aside0.mk H
  clear H
  go_enter Try.func28, Try.ntmps28
  go_wp2
  go_loopg [4, 5, 10] k (fun kq v4 v5 v10 w' => ∃ (x4_1 : Int) (x5_1 : Int) (x10_1 : Int), v4 = .int .i64 x4_1 ∧ v5 = .int .i64 x5_1 ∧ v10 = .int .i64 x10_1 ∧ Aside0 (cents_Sum.l0 kq l0 x4_1 x5_1 (l0.length : Int) x10_1 = some (r1, r2)) ∧ Aside0 (kq ≤ k) ∧ Drawn0 w w')
  case atStart => exact ⟨(0), (0), (0), (by first | rfl | (simp; done) | (simp [*]; done)), (by first | rfl | (simp; done) | (simp [*]; done)), (by first | rfl | (simp; done) | (simp [*]; done)), H', ⟨Nat.le_refl _⟩, by repeat (first | exact Drawn0.refl _ | apply Drawn0.step)⟩
  case round =>
    clear H'
    obtain ⟨x4_1, x5_1, x10_1, rfl, rfl, rfl, HA, HK1, ⟨m1, rfl⟩⟩ := hrel
    cases gk with
    | zero => exact absurd HA.out (by simp [cents_Sum.l0])
    | succ k1 =>
      have H := HA.out
      clear HA
      simp only [cents_Sum.l0] at H
      by_cases c2 : x10_1 < (l0.length : Int)
      · rw [if_pos c2] at H
        have c2b0 : decide (x10_1 < (l0.length : Int)) = true := decide_eq_true c2
        clear c2
        by_cases c3 : 0 ≤ x10_1
        · rw [if_pos c3] at H
          have c3b0 : decide (0 ≤ x10_1) = true := decide_eq_true c3
          clear c3
          by_cases c4 : x10_1 < (l0.length : Int)
          · rw [if_pos c4] at H
            have c4b0 : decide (x10_1 < (l0.length : Int)) = true := decide_eq_true c4
            clear c4
            replace H := Option.bind_eq_some_iff.mp H
            obtain ⟨t114, A50, H⟩ := H
            replace H : (if t114 = true then (cents_Sum.l0 k1 l0 (wrap64 (x4_1 + ((rd l0 x10_1) / 4294967296))) (wrap64 (x5_1 + (Go.bits .and .i64 (rd l0 x10_1) 4294967295))) (l0.length : Int) (wrap64 (x10_1 + 1))) else (some (0, 2))) = some (r1, r2) := H
            have A5 := Aside0.mk A50
            clear A50
            by_cases c6 : t114 = true
            · subst c6
              have H1 : (cents_Sum.l0 k1 l0 (wrap64 (x4_1 + ((rd l0 x10_1) / 4294967296))) (wrap64 (x5_1 + (Go.bits .and .i64 (rd l0 x10_1) 4294967295))) (l0.length : Int) (wrap64 (x10_1 + 1))) = some (r1, r2) := by rw [if_pos rfl] at H; exact H
              clear H
              have H := H1
              clear H1
              have H' := Aside0.mk H
              clear H
              have p113 : 0 ≤ (x10_1 : Int) := of_decide_eq_true (by first | (with_reducible assumption) | assumption)
              have q113 : x10_1 < (l0.length : Int) := of_decide_eq_true (by first | (with_reducible assumption) | assumption)
              obtain ⟨ad113, e113, hx113_0⟩ := Kd.at_int HR0.out x10_1 p113 q113
              cases e113
              replace p113 := eq_true p113
              replace q113 := eq_true q113
              go_wp2_with (first | ((with_reducible refine gate_callee (f := 41) rfl ?_); refine goesL_ (some 17) rfl rfl Try.func41 (by kernel_rfl) rfl #[.int .i64 (rd l0 x10_1)] rfl (by (try simp only [List.map_toArray, List.map_cons, List.map_nil]); first | done | rfl | (simp only [List.length_drop, List.length_take]; rfl)) ?_; (with_reducible refine (cents_Fits.calls (rd l0 x10_1) true _ A5.out).mono ?_); rintro e w' ⟨rfl, ⟨nd, rfl⟩⟩; refine ⟨_, rfl, ?_⟩; have p115 : 0 ≤ (x10_1 : Int) := of_decide_eq_true (by first | (with_reducible assumption) | assumption); have q115 : x10_1 < (l0.length : Int) := of_decide_eq_true (by first | (with_reducible assumption) | assumption); obtain ⟨ad115, e115, hx115_0⟩ := Kd.at_int HR0.out x10_1 p115 q115; obtain rfl : ad113 = ad115 := (by injection e115); replace p115 := eq_true p115; replace q115 := eq_true q115; have p116 : 0 ≤ (x10_1 : Int) := of_decide_eq_true (by first | (with_reducible assumption) | assumption); have q116 : x10_1 < (l0.length : Int) := of_decide_eq_true (by first | (with_reducible assumption) | assumption); obtain ⟨ad116, e116, hx116_0⟩ := Kd.at_int HR0.out x10_1 p116 q116; obtain rfl : ad113 = ad116 := (by injection e116); replace p116 := eq_true p116; replace q116 := eq_true q116))
              go_roundg k1
              case measure => have := HK1.out; omega
              case rel => exact ⟨(wrap64 (x4_1 + ((rd l0 x10_1) / 4294967296))), (wrap64 (x5_1 + (Go.bits .and .i64 (rd l0 x10_1) 4294967295))), (wrap64 (x10_1 + 1)), (by first | rfl | (simp; done) | (simp [*]; done)), (by first | rfl | (simp; done) | (simp [*]; done)), (by first | rfl | (simp; done) | (simp [*]; done)), H', ⟨by have := HK1.out; omega⟩, by repeat (first | exact Drawn0.refl _ | apply Drawn0.step)⟩
            · replace c6 := Bool.eq_false_iff.mpr c6
              subst c6
              have H1 : (some (0, 2)) = some (r1, r2) := by rw [if_neg (show ¬ (false = true) by decide)] at H; exact H
              clear H
              have H := H1
              clear H1
              simp only [Option.some.injEq, Prod.mk.injEq] at H
              obtain ⟨rfl, rfl⟩ := H
              have p113 : 0 ≤ (x10_1 : Int) := of_decide_eq_true (by first | (with_reducible assumption) | assumption)
              have q113 : x10_1 < (l0.length : Int) := of_decide_eq_true (by first | (with_reducible assumption) | assumption)
              obtain ⟨ad113, e113, hx113_0⟩ := Kd.at_int HR0.out x10_1 p113 q113
              cases e113
              replace p113 := eq_true p113
              replace q113 := eq_true q113
              go_wp2_with (first | ((with_reducible refine gate_callee (f := 41) rfl ?_); refine goesL_ (some 17) rfl rfl Try.func41 (by kernel_rfl) rfl #[.int .i64 (rd l0 x10_1)] rfl (by (try simp only [List.map_toArray, List.map_cons, List.map_nil]); first | done | rfl | (simp only [List.length_drop, List.length_take]; rfl)) ?_; (with_reducible refine (cents_Fits.calls (rd l0 x10_1) false _ A5.out).mono ?_); rintro e w' ⟨rfl, ⟨nd, rfl⟩⟩; refine ⟨_, rfl, ?_⟩))
              go_ret2
              exact ⟨by first | rfl | (simp; done) | (simp [*]; done), by repeat (first | exact Drawn0.refl _ | apply Drawn0.step)⟩
          · rw [if_neg c4] at H
            exact absurd H (by simp)
        · rw [if_neg c3] at H
          exact absurd H (by simp)
      · rw [if_neg c2] at H
        have c2b0 : decide (x10_1 < (l0.length : Int)) = false := decide_eq_false c2
        clear c2
        by_cases c7 : (wrap64 (x4_1 + (x5_1 / 4294967296))) < (-268435456)
        · rw [if_pos c7] at H
          have c7b0 : decide ((wrap64 (x4_1 + (x5_1 / 4294967296))) < (-268435456)) = true := decide_eq_true c7
          clear c7
          simp only [Option.some.injEq, Prod.mk.injEq] at H
          obtain ⟨rfl, rfl⟩ := H
          go_wp2
          go_ret2
          exact ⟨by first | rfl | (simp; done) | (simp [*]; done), by repeat (first | exact Drawn0.refl _ | apply Drawn0.step)⟩
        · rw [if_neg c7] at H
          have c7b0 : decide ((wrap64 (x4_1 + (x5_1 / 4294967296))) < (-268435456)) = false := decide_eq_false c7
          clear c7
          by_cases c8 : (wrap64 (x4_1 + (x5_1 / 4294967296))) > 268435456
          · rw [if_pos c8] at H
            have c8b0 : decide (268435456 < (wrap64 (x4_1 + (x5_1 / 4294967296)))) = true := decide_eq_true c8
            clear c8
            simp only [Option.some.injEq, Prod.mk.injEq] at H
            obtain ⟨rfl, rfl⟩ := H
            go_wp2
            go_ret2
            exact ⟨by first | rfl | (simp; done) | (simp [*]; done), by repeat (first | exact Drawn0.refl _ | apply Drawn0.step)⟩
          · rw [if_neg c8] at H
            have c8b0 : decide (268435456 < (wrap64 (x4_1 + (x5_1 / 4294967296)))) = false := decide_eq_false c8
            clear c8
            replace H := Option.bind_eq_some_iff.mp H
            obtain ⟨⟨t117, t118⟩, A90, H⟩ := H
            replace H : (some (t117, t118)) = some (r1, r2) := H
            have A9 := Aside0.mk A90
            clear A90
            simp only [Option.some.injEq, Prod.mk.injEq] at H
            obtain ⟨rfl, rfl⟩ := H
            go_wp2_with (first | ((with_reducible refine gate_callee (f := 42) rfl ?_); refine goesL_ (some 52) rfl rfl Try.func42 (by kernel_rfl) rfl #[.int .i64 (wrap64 ((wrap64 ((wrap64 (x4_1 + (x5_1 / 4294967296))) * 4294967296)) + (Go.bits .and .i64 x5_1 4294967295)))] rfl (by (try simp only [List.map_toArray, List.map_cons, List.map_nil]); first | done | rfl | (simp only [List.length_drop, List.length_take]; rfl)) ?_; (with_reducible refine (cents_fitting.calls (wrap64 ((wrap64 ((wrap64 (x4_1 + (x5_1 / 4294967296))) * 4294967296)) + (Go.bits .and .i64 x5_1 4294967295))) t117 t118 _ A9.out).mono ?_); rintro e w' ⟨rfl, ⟨nd, rfl⟩⟩; refine ⟨_, rfl, ?_⟩))
            go_ret2
            exact ⟨by first | rfl | (simp; done) | (simp [*]; done), by repeat (first | exact Drawn0.refl _ | apply Drawn0.step)⟩

/-! ### novate_Cost: function 9 -/
attribute [local go_sem high] accA serA
theorem infoInt : (Try.prog.info? 3).map (fun i => (i.zero, i.size, i.bytes)) = some (some (.int .i64 0), 1, 8) := by kernel_rfl
def costGo (k : Nat) (a2_0 : ByteArray) (a2_1 : Int) (a2_2 : Int) (a2_3 : Int) (a2_4 : Int) (a2_5 : Int) (a2_6 : Bool) : List Int → List S41 → Option (Int × Int)
  | ws, [] => cents_Sum.f k ws
  | ws, x :: l => (product_Value.f k a2_0 a2_1 a2_2 a2_3 a2_4 a2_5 a2_6 x.f3 x.f2).bind fun v => if v.2 = 0 then costGo k a2_0 a2_1 a2_2 a2_3 a2_4 a2_5 a2_6 (ws ++ [v.1]) l else some (0, v.2)
def novate_Cost.f (k : Nat) (l0 : List (S41)) (a1_0 : ByteArray) (a1_1 : ByteArray) (a2_0 : ByteArray) (a2_1 : Int) (a2_2 : Int) (a2_3 : Int) (a2_4 : Int) (a2_5 : Int) (a2_6 : Bool) (a3_0 : ByteArray) (a3_1 : Int) (a3_2 : Int) (a3_3 : Int) : Option (Int × Int) := if (askV (ownB ⟨a1_0, a1_1⟩ ⟨a3_0, a3_1, a3_2, a3_3⟩) l0).2 = 0 then costGo k a2_0 a2_1 a2_2 a2_3 a2_4 a2_5 a2_6 [] (askV (ownB ⟨a1_0, a1_1⟩ ⟨a3_0, a3_1, a3_2, a3_3⟩) l0).1 else some (0, (askV (ownB ⟨a1_0, a1_1⟩ ⟨a3_0, a3_1, a3_2, a3_3⟩) l0).2)
theorem costGo_mono (k : Nat) (a2_0 : ByteArray) (a2_1 : Int) (a2_2 : Int) (a2_3 : Int) (a2_4 : Int) (a2_5 : Int) (a2_6 : Bool) : ∀ (l : List S41) (ws : List Int), LeO (costGo k a2_0 a2_1 a2_2 a2_3 a2_4 a2_5 a2_6 ws l) (costGo (k + 1) a2_0 a2_1 a2_2 a2_3 a2_4 a2_5 a2_6 ws l) := by
  intro l
  induction l with
  | nil => intro ws; exact cents_Sum.mono _ _
  | cons x l ih => intro ws; exact LeO.bind (product_Value.mono _ _ _ _ _ _ _ _ _ _) fun v => LeO.ite (ih _) (LeO.refl _)
theorem novate_Cost.mono : ∀ a0 a1 a2 a3 a4 a5 a6 a7 a8 a9 a10 a11 a12 a13 k, LeO (novate_Cost.f k a0 a1 a2 a3 a4 a5 a6 a7 a8 a9 a10 a11 a12 a13) (novate_Cost.f (k + 1) a0 a1 a2 a3 a4 a5 a6 a7 a8 a9 a10 a11 a12 a13) := by
  intro a0 a1 a2 a3 a4 a5 a6 a7 a8 a9 a10 a11 a12 a13 k
  unfold novate_Cost.f
  exact LeO.ite (costGo_mono _ _ _ _ _ _ _ _ _ _) (LeO.refl _)
set_option maxHeartbeats 8000000 in
set_option maxRecDepth 100000 in
theorem novate_Cost.calls (k : Nat) (A0 : Option Addr) (c0 : Nat) (l0 : List (S41)) (a1_0 : ByteArray) (a1_1 : ByteArray) (a2_0 : ByteArray) (a2_1 : Int) (a2_2 : Int) (a2_3 : Int) (a2_4 : Int) (a2_5 : Int) (a2_6 : Bool) (a3_0 : ByteArray) (a3_1 : Int) (a3_2 : Int) (a3_3 : Int) (r1 : Int) (r2 : Int) (w : World) (hr0 : Kd.C k41 w A0 l0.length l0) (hc0 : l0.length ≤ c0) (h : novate_Cost.f k l0 a1_0 a1_1 a2_0 a2_1 a2_2 a2_3 a2_4 a2_5 a2_6 a3_0 a3_1 a3_2 a3_3 = some (r1, r2)) :
    Calls Try.prog 9 #[.slice A0 l0.length c0, .agg #[.string a1_0, .string a1_1], .agg #[.string a2_0, .int .i64 a2_1, .int .i64 a2_2, .int .i64 a2_3, .int .i64 a2_4, .int .i64 a2_5, .bool a2_6], .agg #[.string a3_0, .int .i64 a3_1, .int .i64 a3_2, .int .i64 a3_3]] w fun e w' => e = .returned (.tuple #[.int .i64 r1, .int .i64 r2]) ∧ Below w.heap.size w w' := by
  have hu41 := Try.underlying41
  unfold novate_Cost.f at h
  have hv := askV_in (ownB ⟨a1_0, a1_1⟩ ⟨a3_0, a3_1, a3_2, a3_3⟩) l0
  obtain ⟨xs, e0, hav⟩ : ∃ xs e0, askV (ownB ⟨a1_0, a1_1⟩ ⟨a3_0, a3_1, a3_2, a3_3⟩) l0 = (xs, e0) := ⟨_, _, rfl⟩
  rw [hav] at h hv
  have hxl := hv.1
  clear hv
  simp only at h hxl
  have hcall : ∀ (W : World) (g1 g2 : Nat), Below w.heap.size w W → W.heap[g1]? = some (.cells #[.string a1_0, .string a1_1] 24 (0, 0)) → W.heap[g2]? = some (.cells #[.string a3_0, .int .i64 a3_1, .int .i64 a3_2, .int .i64 a3_3] 28 (0, 0)) → Calls Try.prog 25 #[.slice A0 l0.length c0, .func (.func 38) #[] #[.pointer (some ⟨g1, 0, none⟩), .pointer (some ⟨g2, 0, none⟩)]] W fun e w' => ∃ v0_ : Value, e = .returned (.tuple #[v0_, .int .i64 e0]) ∧ Kd.R k41 41 w' W.heap.size (fun _ => True) v0_ xs ∧ Below W.heap.size W w' :=
    fun W g1 g2 hB h1 h2 => asked_any (ownB ⟨a1_0, a1_1⟩ ⟨a3_0, a3_1, a3_2, a3_3⟩) _ _ A0 c0 l0 W (Kd.C_below hr0 hB) hc0 xs e0 hav (fun _ _ => rfl) (fun W' x hB' => own1_any ⟨a1_0, a1_1⟩ ⟨a3_0, a3_1, a3_2, a3_3⟩ x g1 g2 W' (blk_below h1 hB') (blk_below h2 hB'))
  have HCALL := Aside0.mk hcall
  clear hcall hav hr0
  by_cases he : e0 = 0
  · subst he
    rw [if_pos rfl] at h
    have HRES := Aside0.mk h
    have HXL := Aside0.mk hxl
    clear h hxl
    go_enter Try.func9, Try.ntmps9
    go_wp2_with fail
    refine (own_any ⟨a1_0, a1_1⟩ ⟨a3_0, a3_1, a3_2, a3_3⟩ _).mono ?_
    rintro e w2 ⟨g1, g2, rfl, h1, h2, hb⟩
    have hp0 : (((w.alloc (.cells #[.string a1_0, .string a1_1] 24)).alloc (.cells #[.string a2_0, .int .i64 a2_1, .int .i64 a2_2, .int .i64 a2_3, .int .i64 a2_4, .int .i64 a2_5, .bool a2_6] 26)).alloc (.cells #[.string a3_0, .int .i64 a3_1, .int .i64 a3_2, .int .i64 a3_3] 28)).heap[w.heap.size + 1]? = some (.cells #[.string a2_0, .int .i64 a2_1, .int .i64 a2_2, .int .i64 a2_3, .int .i64 a2_4, .int .i64 a2_5, .bool a2_6] 26 (0, 0)) := by
      refine blk_alloc ?_ _
      rw [show w.heap.size + 1 = (w.alloc (.cells #[.string a1_0, .string a1_1] 24)).heap.size by simp]
      exact blk_new _ _
    have HP := Aside0.mk (blk_below hp0 hb)
    clear hp0
    have HB := Aside0.mk (below_step (below_alloc (below_alloc (below_alloc (Below.refl w.heap.size w) _) _) _) hb)
    have H1 := Aside0.mk h1
    have H2 := Aside0.mk h2
    clear hb h1 h2
    go_wp2_with fail
    refine (HCALL.out w2 g1 g2 HB.out H1.out H2.out).mono ?_
    rintro e w3 ⟨v0, rfl, hR, hb⟩
    have HP3 := Aside0.mk (blk_below HP.out hb)
    have HB3 := Aside0.mk (below_step HB.out hb)
    obtain ⟨A, c, rfl⟩ := Kd.R_slice hR
    have HC := Aside0.mk (Kd.R_lower hR (below_size HB.out))
    clear HB HCALL H1 H2 hb hR HP
    go_wp2_with fail
    generalize w.heap.size + 1 = gp at *
    go_loopw [11, 29] (fun v11 v29 wr => ∃ (i : Nat) (ws : List Int), i ≤ xs.length ∧ ws.length ≤ i ∧ v29 = .int .i64 (i : Int) ∧ Aside0 (costGo k a2_0 a2_1 a2_2 a2_3 a2_4 a2_5 a2_6 ws (xs.drop i) = some (r1, r2)) ∧ Aside0 (Kd.R (Kd.int .i64) 3 wr w.heap.size (fun _ => True) v11 ws) ∧ Aside0 (Below w.heap.size w wr) ∧ Aside0 (Kd.R k41 41 wr w.heap.size (fun _ => True) (.slice A xs.length c) xs) ∧ Aside0 (wr.heap[gp]? = some (.cells #[.string a2_0, .int .i64 a2_1, .int .i64 a2_2, .int .i64 a2_3, .int .i64 a2_4, .int .i64 a2_5, .bool a2_6] 26 (0, 0)))) (fun _ v29 _ => xs.length - (intOf v29).toNat)
    case atStart => exact ⟨0, [], by omega, by simp, rfl, ⟨by rw [List.drop_zero]; exact HRES.out⟩, ⟨Kd.R_nil _ _ _ _ _⟩, HB3, HC, HP3⟩
    case round =>
      clear HRES HB3 HC HP3
      obtain ⟨i, ws, hi, hxl, rfl, HRES, HO, HB, HC, HP⟩ := hrel
      by_cases hlt : i < xs.length
      · obtain ⟨ad, ex, hx0, hx1, hx2, hx3, hx4, hx5, hx6, hx7, hx8⟩ := at_T41 (Kd.R_reads' HC.out).2.2 (i : Int) (by omega) (by omega)
        cases ex
        simp only [Int.toNat_natCast] at hx0 hx1 hx2 hx3 hx4 hx5 hx6 hx7 hx8
        have hlti : (i : Int) < (xs.length : Int) := by omega
        have hres := HRES.out
        rw [drop_T41 xs i hlt, costGo, Option.bind_eq_some_iff] at hres
        generalize rd_T41 xs (i : Int) = x at *
        obtain ⟨⟨n, e1⟩, hv1, hv2⟩ := hres
        simp only at hv2
        have HV1 := Aside0.mk hv1
        clear HRES hv1
        have hz0 : (wr.alloc (.cells #[.string x.f0.f0, .string x.f0.f1, .string x.f1.f0, .int .i64 x.f1.f1, .int .i64 x.f1.f2, .int .i64 x.f1.f3, .int .i64 x.f2, .int .i64 x.f3, .int .i64 x.f4] 41)).cell? ⟨gp, 0, none⟩ = some (.string a2_0) := (blk_cell (blk_alloc HP.out _) 0).trans rfl
        have hz1 : (wr.alloc (.cells #[.string x.f0.f0, .string x.f0.f1, .string x.f1.f0, .int .i64 x.f1.f1, .int .i64 x.f1.f2, .int .i64 x.f1.f3, .int .i64 x.f2, .int .i64 x.f3, .int .i64 x.f4] 41)).cell? ⟨gp, 1, none⟩ = some (.int .i64 a2_1) := (blk_cell (blk_alloc HP.out _) 1).trans rfl
        have hz2 : (wr.alloc (.cells #[.string x.f0.f0, .string x.f0.f1, .string x.f1.f0, .int .i64 x.f1.f1, .int .i64 x.f1.f2, .int .i64 x.f1.f3, .int .i64 x.f2, .int .i64 x.f3, .int .i64 x.f4] 41)).cell? ⟨gp, 2, none⟩ = some (.int .i64 a2_2) := (blk_cell (blk_alloc HP.out _) 2).trans rfl
        have hz3 : (wr.alloc (.cells #[.string x.f0.f0, .string x.f0.f1, .string x.f1.f0, .int .i64 x.f1.f1, .int .i64 x.f1.f2, .int .i64 x.f1.f3, .int .i64 x.f2, .int .i64 x.f3, .int .i64 x.f4] 41)).cell? ⟨gp, 3, none⟩ = some (.int .i64 a2_3) := (blk_cell (blk_alloc HP.out _) 3).trans rfl
        have hz4 : (wr.alloc (.cells #[.string x.f0.f0, .string x.f0.f1, .string x.f1.f0, .int .i64 x.f1.f1, .int .i64 x.f1.f2, .int .i64 x.f1.f3, .int .i64 x.f2, .int .i64 x.f3, .int .i64 x.f4] 41)).cell? ⟨gp, 4, none⟩ = some (.int .i64 a2_4) := (blk_cell (blk_alloc HP.out _) 4).trans rfl
        have hz5 : (wr.alloc (.cells #[.string x.f0.f0, .string x.f0.f1, .string x.f1.f0, .int .i64 x.f1.f1, .int .i64 x.f1.f2, .int .i64 x.f1.f3, .int .i64 x.f2, .int .i64 x.f3, .int .i64 x.f4] 41)).cell? ⟨gp, 5, none⟩ = some (.int .i64 a2_5) := (blk_cell (blk_alloc HP.out _) 5).trans rfl
        have hz6 : (wr.alloc (.cells #[.string x.f0.f0, .string x.f0.f1, .string x.f1.f0, .int .i64 x.f1.f1, .int .i64 x.f1.f2, .int .i64 x.f1.f3, .int .i64 x.f2, .int .i64 x.f3, .int .i64 x.f4] 41)).cell? ⟨gp, 6, none⟩ = some (.bool a2_6) := (blk_cell (blk_alloc HP.out _) 6).trans rfl
        have hlp := blk_lt HP.out
        have hn1 : gp ≠ wr.heap.size := by omega
        have hn1' : wr.heap.size ≠ gp := by omega
        go_wp2_with fail
        refine (product_Value.calls k a2_0 a2_1 a2_2 a2_3 a2_4 a2_5 a2_6 x.f3 x.f2 n e1 _ HV1.out).mono ?_
        rintro e w4 ⟨rfl, hb⟩
        have hb' := below_step (below_alloc (Below.refl wr.heap.size wr) _) hb
        have HB4 := Aside0.mk (below_step HB.out hb')
        have HO4 := Aside0.mk (Kd.R_below HO.out hb')
        have HC4 := Aside0.mk (Kd.R_below HC.out hb')
        have HP4 := Aside0.mk (blk_below HP.out hb')
        clear HB HO HC HP hb hb' hz0 hz1 hz2 hz3 hz4 hz5 hz6 hx0 hx1 hx2 hx3 hx4 hx5 hx6 hx7 hx8 HV1
        by_cases he : e1 = 0
        · subst he
          rw [if_pos rfl] at hv2
          have HRES2 := Aside0.mk hv2
          have HXL4 := HXL
          have hxl4 := HXL.out
          clear hv2
          go_wp2_with ((with_reducible refine gate_builtin (b := .append) (xs := #[.tmp 45, .tmp 47]) rfl ?_); (try (refine gate_guard (by rfl) ?_; dsimp only)); at_builtin; refine Kd.R_append (Kd.int .i64) (w0 := w) w.heap.size rfl (.tmp 45) (.tmp 47) 62 3 (.int .i64 0) 8 rfl Try.underlying62 infoInt rfl (by decide) (by omega) u11 ws n [.int .i64 n] (fun _ => True) (fun _ => False) rfl (by first | (go_simp; done) | (go_simp; rfl)) ?aP (fun _ hk => hk.elim) ?aF ?aO ?aB ?aS ?aL ?_; (case aP => exact rfl); (case aF => intro k_ hk; trivial); (case aO => exact HO4.out); (case aB => exact HB4.out); (case aS => exact below_size HB4.out); (case aL => have := HXL4.out; omega); intro v164 w28 ho hb hg hat; have n1_ := Aside0.mk hb; have n2_ := Aside0.mk ho; have n3_ := Aside0.mk (Kd.R_over HC4.out HO4.out (by decide) hg); have n4_ := Aside0.mk (blk_grown HP4.out hg (Kd.R_ne HO4.out HP4.out (by decide))); clear ho hb hg hat)
          go_roundw
          case measure => show _ < _; simp [intOf]; omega
          case rel => exact ⟨i + 1, ws ++ [n], by omega, by rw [List.length_append]; simp; omega, by go_num, HRES2, n2_, n1_, n3_, n4_⟩
        · rw [if_neg he] at hv2
          simp only [Option.some.injEq, Prod.mk.injEq] at hv2
          obtain ⟨rfl, rfl⟩ := hv2
          have hne : (e1 != 0) = true := bne_iff_ne.2 he
          go_wp2_with fail
          go_ret2
          exact ⟨rfl, HB4.out⟩
      · obtain rfl : i = xs.length := by omega
        have hres := HRES.out
        rw [List.drop_length, costGo] at hres
        have HS := Aside0.mk hres
        obtain ⟨A2, c2, rfl, hxc2, hC2⟩ := Kd.R_reads HO.out
        have HC2 := Aside0.mk hC2
        clear hres hC2 HO HRES
        go_wp2_with fail
        refine (cents_Sum.calls k _ c2 ws r1 r2 wr HC2.out hxc2 HS.out).mono ?_
        rintro e w4 ⟨rfl, hd⟩
        have HB4 := Aside0.mk (below_step HB.out hd.below)
        clear hd
        go_wp2_with fail
        go_ret2
        exact ⟨rfl, HB4.out⟩
  · rw [if_neg he] at h
    simp only [Option.some.injEq, Prod.mk.injEq] at h
    obtain ⟨rfl, rfl⟩ := h
    have hne : (e0 != 0) = true := bne_iff_ne.2 he
    go_enter Try.func9, Try.ntmps9
    go_wp2_with fail
    refine (own_any ⟨a1_0, a1_1⟩ ⟨a3_0, a3_1, a3_2, a3_3⟩ _).mono ?_
    rintro e w2 ⟨g1, g2, rfl, h1, h2, hb⟩
    have HB := Aside0.mk (below_step (below_alloc (below_alloc (below_alloc (Below.refl w.heap.size w) _) _) _) hb)
    have H1 := Aside0.mk h1
    have H2 := Aside0.mk h2
    clear hb h1 h2
    go_wp2_with fail
    refine (HCALL.out w2 g1 g2 HB.out H1.out H2.out).mono ?_
    rintro e w3 ⟨v0, rfl, hR, hb⟩
    have HB3 := Aside0.mk (below_step HB.out hb)
    clear HB HCALL H1 H2 hb hR
    go_wp2_with fail
    go_ret2
    exact ⟨rfl, HB3.out⟩

/-! ### novate_made: function 32 -/
def boughtV (t : S39) : S41 := ⟨t.f6, t.f3, t.f4, t.f5, t.f0⟩
def soldV (t : S39) : S41 := ⟨t.f7, t.f3, wrap64 (-t.f4), t.f5, t.f0⟩
def dealV (t : S39) : Value := .agg #[.int .i64 t.f0, .int .i64 t.f1, .int .i64 t.f2, .string t.f3.f0, .int .i64 t.f3.f1, .int .i64 t.f3.f2, .int .i64 t.f3.f3, .int .i64 t.f4, .int .i64 t.f5, .string t.f6.f0, .string t.f6.f1, .string t.f7.f0, .string t.f7.f1]
set_option maxHeartbeats 4000000 in
set_option maxRecDepth 100000 in
theorem bought_any (t : S39) (w : World) : Calls Try.prog 33 #[.agg #[.int .i64 t.f0, .int .i64 t.f1, .int .i64 t.f2, .string t.f3.f0, .int .i64 t.f3.f1, .int .i64 t.f3.f2, .int .i64 t.f3.f3, .int .i64 t.f4, .int .i64 t.f5, .string t.f6.f0, .string t.f6.f1, .string t.f7.f0, .string t.f7.f1]] w fun e w' => e = .returned (.agg #[.string t.f6.f0, .string t.f6.f1, .string t.f3.f0, .int .i64 t.f3.f1, .int .i64 t.f3.f2, .int .i64 t.f3.f3, .int .i64 t.f4, .int .i64 t.f5, .int .i64 t.f0]) ∧ Below w.heap.size w w' := by
  go_enter Try.func33, Try.ntmps33
  go_wp2_with fail
  refine bodyPost_ret (results_cell_row rfl _ _ (w.heap.size + 1) 41 #[.string t.f6.f0, .string t.f6.f1, .string t.f3.f0, .int .i64 t.f3.f1, .int .i64 t.f3.f2, .int .i64 t.f3.f3, .int .i64 t.f4, .int .i64 t.f5, .int .i64 t.f0] (0, 0) _ rfl (by rw [show w.heap.size + 1 = (w.alloc (.cells #[.int .i64 t.f0, .int .i64 t.f1, .int .i64 t.f2, .string t.f3.f0, .int .i64 t.f3.f1, .int .i64 t.f3.f2, .int .i64 t.f3.f3, .int .i64 t.f4, .int .i64 t.f5, .string t.f6.f0, .string t.f6.f1, .string t.f7.f0, .string t.f7.f1] 69)).heap.size by simp]; exact blk_new _ _) Try.underlying41 rfl (by kernel_rfl)) rfl ?_
  exact ⟨rfl, by repeat (first | exact Below.refl _ _ | apply below_drew1 | apply below_alloc)⟩
set_option maxHeartbeats 4000000 in
set_option maxRecDepth 100000 in
theorem sold_any (t : S39) (w : World) : Calls Try.prog 34 #[.agg #[.int .i64 t.f0, .int .i64 t.f1, .int .i64 t.f2, .string t.f3.f0, .int .i64 t.f3.f1, .int .i64 t.f3.f2, .int .i64 t.f3.f3, .int .i64 t.f4, .int .i64 t.f5, .string t.f6.f0, .string t.f6.f1, .string t.f7.f0, .string t.f7.f1]] w fun e w' => e = .returned (.agg #[.string t.f7.f0, .string t.f7.f1, .string t.f3.f0, .int .i64 t.f3.f1, .int .i64 t.f3.f2, .int .i64 t.f3.f3, .int .i64 (wrap64 (-t.f4)), .int .i64 t.f5, .int .i64 t.f0]) ∧ Below w.heap.size w w' := by
  go_enter Try.func34, Try.ntmps34
  go_wp2_with fail
  refine bodyPost_ret (results_cell_row rfl _ _ (w.heap.size + 1) 41 #[.string t.f7.f0, .string t.f7.f1, .string t.f3.f0, .int .i64 t.f3.f1, .int .i64 t.f3.f2, .int .i64 t.f3.f3, .int .i64 (wrap64 (-t.f4)), .int .i64 t.f5, .int .i64 t.f0] (0, 0) _ rfl (by rw [show w.heap.size + 1 = (w.alloc (.cells #[.int .i64 t.f0, .int .i64 t.f1, .int .i64 t.f2, .string t.f3.f0, .int .i64 t.f3.f1, .int .i64 t.f3.f2, .int .i64 t.f3.f3, .int .i64 t.f4, .int .i64 t.f5, .string t.f6.f0, .string t.f6.f1, .string t.f7.f0, .string t.f7.f1] 69)).heap.size by simp]; exact blk_new _ _) Try.underlying41 rfl (by kernel_rfl)) rfl ?_
  exact ⟨rfl, by repeat (first | exact Below.refl _ _ | apply below_drew1 | apply below_alloc)⟩
theorem infoLegM : (Try.prog.info? 41).map (fun i => (i.zero, i.size, i.bytes)) = some (some (.agg #[(.string ⟨#[]⟩), (.string ⟨#[]⟩), (.string ⟨#[]⟩), (.int .i64 0), (.int .i64 0), (.int .i64 0), (.int .i64 0), (.int .i64 0), (.int .i64 0)]), 9, 96) := by kernel_rfl
set_option maxHeartbeats 8000000 in
set_option maxRecDepth 100000 in
theorem made_any (t : S39) (g : Nat) (w : World) (hg : w.heap[g]? = some (.cells #[(.func (.func 33) #[.agg #[.int .i64 t.f0, .int .i64 t.f1, .int .i64 t.f2, .string t.f3.f0, .int .i64 t.f3.f1, .int .i64 t.f3.f2, .int .i64 t.f3.f3, .int .i64 t.f4, .int .i64 t.f5, .string t.f6.f0, .string t.f6.f1, .string t.f7.f0, .string t.f7.f1]] #[]), (.func (.func 34) #[.agg #[.int .i64 t.f0, .int .i64 t.f1, .int .i64 t.f2, .string t.f3.f0, .int .i64 t.f3.f1, .int .i64 t.f3.f2, .int .i64 t.f3.f3, .int .i64 t.f4, .int .i64 t.f5, .string t.f6.f0, .string t.f6.f1, .string t.f7.f0, .string t.f7.f1]] #[])] 71 (0, 0))) :
    Calls Try.prog 32 #[.slice (some ⟨g, 0, none⟩) 2 2] w fun e w' => ∃ v0_ : Value, e = .returned v0_ ∧ Kd.R k41 41 w' w.heap.size (fun _ => True) v0_ [boughtV t, soldV t] ∧ Below w.heap.size w w' := by
  have h0 : w.cell? ⟨g, 0, none⟩ = some (.func (.func 33) #[.agg #[.int .i64 t.f0, .int .i64 t.f1, .int .i64 t.f2, .string t.f3.f0, .int .i64 t.f3.f1, .int .i64 t.f3.f2, .int .i64 t.f3.f3, .int .i64 t.f4, .int .i64 t.f5, .string t.f6.f0, .string t.f6.f1, .string t.f7.f0, .string t.f7.f1]] #[]) := (blk_cell hg 0).trans rfl
  have hg0 := blk_lt hg
  have HG := Aside0.mk hg
  clear hg
  go_enter Try.func32, Try.ntmps32
  go_wp2_with fail
  refine wp_loop_rounds 3 ?_
  rw [rounds_succ]
  go_wp2_with fail
  refine (bought_any t w).mono ?_
  rintro e w2 ⟨rfl, hb2⟩
  have HB2 := Aside0.mk hb2
  have HG2 := Aside0.mk (blk_below HG.out hb2)
  clear hb2 h0
  go_wp2_with ((with_reducible refine gate_builtin (b := .append) (xs := #[.tmp 11, .tmp 14]) rfl ?_); (try (refine gate_guard (by rfl) ?_; dsimp only)); at_builtin; refine Kd.R_append k41 (w0 := w) w.heap.size rfl (.tmp 11) (.tmp 14) 22 41 (.agg #[(.string ⟨#[]⟩), (.string ⟨#[]⟩), (.string ⟨#[]⟩), (.int .i64 0), (.int .i64 0), (.int .i64 0), (.int .i64 0), (.int .i64 0), (.int .i64 0)]) 96 rfl Try.underlying22 infoLegM rfl (by decide) (by omega) (.slice none 0 0) [] (boughtV t) [.string t.f6.f0, .string t.f6.f1, .string t.f3.f0, .int .i64 t.f3.f1, .int .i64 t.f3.f2, .int .i64 t.f3.f3, .int .i64 t.f4, .int .i64 t.f5, .int .i64 t.f0] (fun _ => True) (fun _ => False) rfl (by first | (go_simp; done) | (go_simp; rfl)) ?aP (fun _ hk => hk.elim) ?aF ?aO ?aB ?aS ?aL ?_; (case aP => exact k41_mkM _ _ _ (boughtV t)); (case aF => intro k_ hk; trivial); (case aO => exact Kd.R_nil _ _ _ _ _); (case aB => exact HB2.out); (case aS => exact below_size HB2.out); (case aL => simp); intro v164 w28 ho hb hg hat; have HB3 := Aside0.mk hb; have HO3 := Aside0.mk ho; have HG3 := Aside0.mk (blk_grown HG2.out hg (by simp [Value.ownBlock])); clear ho hb hg hat)
  rw [rounds_succ]
  have h1 : w28.cell? ⟨g, 1, none⟩ = some (.func (.func 34) #[.agg #[.int .i64 t.f0, .int .i64 t.f1, .int .i64 t.f2, .string t.f3.f0, .int .i64 t.f3.f1, .int .i64 t.f3.f2, .int .i64 t.f3.f3, .int .i64 t.f4, .int .i64 t.f5, .string t.f6.f0, .string t.f6.f1, .string t.f7.f0, .string t.f7.f1]] #[]) := (blk_cell HG3.out 1).trans rfl
  clear HG HG2 HB2
  go_wp2_with fail
  refine (sold_any t w28).mono ?_
  rintro e w3 ⟨rfl, hb3⟩
  have HB4 := Aside0.mk (below_step HB3.out hb3)
  have HO4 := Aside0.mk (Kd.R_below HO3.out hb3)
  clear hb3 h1 HO3 HB3
  go_wp2_with ((with_reducible refine gate_builtin (b := .append) (xs := #[.tmp 11, .tmp 14]) rfl ?_); (try (refine gate_guard (by rfl) ?_; dsimp only)); at_builtin; refine Kd.R_append k41 (w0 := w) w.heap.size rfl (.tmp 11) (.tmp 14) 22 41 (.agg #[(.string ⟨#[]⟩), (.string ⟨#[]⟩), (.string ⟨#[]⟩), (.int .i64 0), (.int .i64 0), (.int .i64 0), (.int .i64 0), (.int .i64 0), (.int .i64 0)]) 96 rfl Try.underlying22 infoLegM rfl (by decide) (by omega) v164 [boughtV t] (soldV t) [.string t.f7.f0, .string t.f7.f1, .string t.f3.f0, .int .i64 t.f3.f1, .int .i64 t.f3.f2, .int .i64 t.f3.f3, .int .i64 (wrap64 (-t.f4)), .int .i64 t.f5, .int .i64 t.f0] (fun _ => True) (fun _ => False) rfl (by first | (go_simp; done) | (go_simp; rfl)) ?aP (fun _ hk => hk.elim) ?aF ?aO ?aB ?aS ?aL ?_; (case aP => exact k41_mkM _ _ _ (soldV t)); (case aF => intro k_ hk; trivial); (case aO => exact HO4.out); (case aB => exact HB4.out); (case aS => exact below_size HB4.out); (case aL => simp); intro v164 w28 ho hb hg hat; have HB5 := Aside0.mk hb; have HO5 := Aside0.mk ho; clear ho hb hg hat)
  rw [rounds_succ]
  go_wp2_with fail
  go_ret
  exact ⟨_, rfl, HO5.out, HB5.out⟩

/-! ### novate_All: function 13 -/
def allV (l : List S39) : List S41 := l.flatMap (fun t => [boughtV t, soldV t])
def allGo : List S41 → List S39 → List S41
  | xs, [] => xs
  | xs, t :: l => allGo (xs ++ [boughtV t, soldV t]) l
theorem allGo_val : ∀ (l : List S39) (xs : List S41), allGo xs l = xs ++ allV l
  | [], xs => by simp [allGo, allV]
  | t :: l, xs => by rw [allGo, allGo_val l]; simp [allV]
theorem drop_T39 (l : List S39) (i : Nat) (h : i < l.length) : l.drop i = rd_T39 l (i : Int) :: l.drop (i + 1) := by
  rw [List.drop_eq_getElem_cons h]
  congr 1
  unfold rd_T39
  rw [Int.toNat_natCast, List.getD_eq_getElem?_getD, List.getElem?_eq_getElem h]; rfl
theorem k41_KM (w : World) (base : Nat) (ok : Nat → Prop) (x : S41) (cs : List Value) (h : k41.K w x cs) : k41.M w base ok x cs := by
  rw [k41_open h]; exact k41_mkM _ _ _ x
def novate_All.f (l0 : List (S39)) : Option ((List (S41))) := if l0.length ≤ 1048576 then some (allV l0) else none
set_option maxHeartbeats 16000000 in
set_option maxRecDepth 100000 in
theorem novate_All.calls (A0 : Option Addr) (c0 : Nat) (l0 : List (S39)) (r : List (S41)) (w : World) (hr0 : Kd.C k39 w A0 l0.length l0) (hc0 : l0.length ≤ c0) (h : novate_All.f l0 = some r) :
    Calls Try.prog 13 #[.slice A0 l0.length c0] w fun e w' => ∃ v0_ : Value, e = .returned v0_ ∧ Kd.R k41 41 w' w.heap.size (fun _ => True) v0_ r ∧ Below w.heap.size w w' := by
  have hu41 := Try.underlying41
  have hu39 := Try.underlying39
  have hu69 := Try.underlying69
  have hmf : ∀ (fn : Fn) (first cap : Array Value) (w : World), (Instr.makeFunc fn first cap).run Try.prog w = .ok (.func fn first cap) w := fun _ _ _ _ => rfl
  unfold novate_All.f at h
  have hlen : l0.length ≤ 1048576 := by
    by_cases k : l0.length ≤ 1048576
    · exact k
    · rw [if_neg k] at h; cases h
  rw [if_pos hlen] at h
  have h := Option.some.inj h
  have h2 : allGo [] l0 = r := by rw [allGo_val, List.nil_append]; exact h
  have HRES := Aside0.mk h2
  have HR := Aside0.mk hr0
  clear h h2 hr0
  go_enter Try.func13, Try.ntmps13
  go_wp2_with fail
  go_loopw [2, 8] (fun v2 v8 wr => ∃ (i : Nat) (xs : List S41), i ≤ l0.length ∧ xs.length = 2 * i ∧ v8 = .int .i64 (i : Int) ∧ Aside0 (allGo xs (l0.drop i) = r) ∧ Aside0 (Kd.R k41 41 wr w.heap.size (fun _ => True) v2 xs) ∧ Aside0 (Below w.heap.size w wr)) (fun _ v8 _ => l0.length - (intOf v8).toNat)
  case atStart => exact ⟨0, [], by omega, rfl, rfl, ⟨by rw [List.drop_zero]; exact HRES.out⟩, ⟨Kd.R_nil _ _ _ _ _⟩, ⟨Below.refl _ _⟩⟩
  case round =>
    clear HRES
    obtain ⟨i, xs, hi, hxl, rfl, HRES, HO, HB⟩ := hrel
    by_cases hlt : i < l0.length
    · obtain ⟨ad, ex, hx0, hx1, hx2, hx3, hx4, hx5, hx6, hx7, hx8, hx9, hx10, hx11, hx12⟩ := at_T39 (Kd.C_below HR.out HB.out) (i : Int) (by omega) (by omega)
      cases ex
      simp only [Int.toNat_natCast] at hx0 hx1 hx2 hx3 hx4 hx5 hx6 hx7 hx8 hx9 hx10 hx11 hx12
      have hlti : (i : Int) < (l0.length : Int) := by omega
      have hres := HRES.out
      rw [drop_T39 l0 i hlt, allGo] at hres
      generalize rd_T39 l0 (i : Int) = t at *
      have HRES2 := Aside0.mk hres
      clear hres HRES
      go_wp2_with fail
      have hnw : ((((wr.alloc (.cells #[.int .i64 t.f0, .int .i64 t.f1, .int .i64 t.f2, .string t.f3.f0, .int .i64 t.f3.f1, .int .i64 t.f3.f2, .int .i64 t.f3.f3, .int .i64 t.f4, .int .i64 t.f5, .string t.f6.f0, .string t.f6.f1, .string t.f7.f0, .string t.f7.f1] 39)).alloc (.cells #[.int .i64 t.f0, .int .i64 t.f1, .int .i64 t.f2, .string t.f3.f0, .int .i64 t.f3.f1, .int .i64 t.f3.f2, .int .i64 t.f3.f3, .int .i64 t.f4, .int .i64 t.f5, .string t.f6.f0, .string t.f6.f1, .string t.f7.f0, .string t.f7.f1] 69))).alloc (.cells #[(.func (.func 33) #[.agg #[.int .i64 t.f0, .int .i64 t.f1, .int .i64 t.f2, .string t.f3.f0, .int .i64 t.f3.f1, .int .i64 t.f3.f2, .int .i64 t.f3.f3, .int .i64 t.f4, .int .i64 t.f5, .string t.f6.f0, .string t.f6.f1, .string t.f7.f0, .string t.f7.f1]] #[]), (.func (.func 34) #[.agg #[.int .i64 t.f0, .int .i64 t.f1, .int .i64 t.f2, .string t.f3.f0, .int .i64 t.f3.f1, .int .i64 t.f3.f2, .int .i64 t.f3.f3, .int .i64 t.f4, .int .i64 t.f5, .string t.f6.f0, .string t.f6.f1, .string t.f7.f0, .string t.f7.f1]] #[])] 71)).heap[wr.heap.size + 1 + 1]? = some (.cells #[(.func (.func 33) #[.agg #[.int .i64 t.f0, .int .i64 t.f1, .int .i64 t.f2, .string t.f3.f0, .int .i64 t.f3.f1, .int .i64 t.f3.f2, .int .i64 t.f3.f3, .int .i64 t.f4, .int .i64 t.f5, .string t.f6.f0, .string t.f6.f1, .string t.f7.f0, .string t.f7.f1]] #[]), (.func (.func 34) #[.agg #[.int .i64 t.f0, .int .i64 t.f1, .int .i64 t.f2, .string t.f3.f0, .int .i64 t.f3.f1, .int .i64 t.f3.f2, .int .i64 t.f3.f3, .int .i64 t.f4, .int .i64 t.f5, .string t.f6.f0, .string t.f6.f1, .string t.f7.f0, .string t.f7.f1]] #[])] 71 (0, 0)) := by
        rw [show wr.heap.size + 1 + 1 = (((wr.alloc (.cells #[.int .i64 t.f0, .int .i64 t.f1, .int .i64 t.f2, .string t.f3.f0, .int .i64 t.f3.f1, .int .i64 t.f3.f2, .int .i64 t.f3.f3, .int .i64 t.f4, .int .i64 t.f5, .string t.f6.f0, .string t.f6.f1, .string t.f7.f0, .string t.f7.f1] 39)).alloc (.cells #[.int .i64 t.f0, .int .i64 t.f1, .int .i64 t.f2, .string t.f3.f0, .int .i64 t.f3.f1, .int .i64 t.f3.f2, .int .i64 t.f3.f3, .int .i64 t.f4, .int .i64 t.f5, .string t.f6.f0, .string t.f6.f1, .string t.f7.f0, .string t.f7.f1] 69))).heap.size by simp]; exact blk_new _ _
      have hbw : Below wr.heap.size wr ((((wr.alloc (.cells #[.int .i64 t.f0, .int .i64 t.f1, .int .i64 t.f2, .string t.f3.f0, .int .i64 t.f3.f1, .int .i64 t.f3.f2, .int .i64 t.f3.f3, .int .i64 t.f4, .int .i64 t.f5, .string t.f6.f0, .string t.f6.f1, .string t.f7.f0, .string t.f7.f1] 39)).alloc (.cells #[.int .i64 t.f0, .int .i64 t.f1, .int .i64 t.f2, .string t.f3.f0, .int .i64 t.f3.f1, .int .i64 t.f3.f2, .int .i64 t.f3.f3, .int .i64 t.f4, .int .i64 t.f5, .string t.f6.f0, .string t.f6.f1, .string t.f7.f0, .string t.f7.f1] 69))).alloc (.cells #[(.func (.func 33) #[.agg #[.int .i64 t.f0, .int .i64 t.f1, .int .i64 t.f2, .string t.f3.f0, .int .i64 t.f3.f1, .int .i64 t.f3.f2, .int .i64 t.f3.f3, .int .i64 t.f4, .int .i64 t.f5, .string t.f6.f0, .string t.f6.f1, .string t.f7.f0, .string t.f7.f1]] #[]), (.func (.func 34) #[.agg #[.int .i64 t.f0, .int .i64 t.f1, .int .i64 t.f2, .string t.f3.f0, .int .i64 t.f3.f1, .int .i64 t.f3.f2, .int .i64 t.f3.f3, .int .i64 t.f4, .int .i64 t.f5, .string t.f6.f0, .string t.f6.f1, .string t.f7.f0, .string t.f7.f1]] #[])] 71)) := below_alloc (below_alloc (below_alloc (Below.refl _ _) _) _) _
      generalize ((((wr.alloc (.cells #[.int .i64 t.f0, .int .i64 t.f1, .int .i64 t.f2, .string t.f3.f0, .int .i64 t.f3.f1, .int .i64 t.f3.f2, .int .i64 t.f3.f3, .int .i64 t.f4, .int .i64 t.f5, .string t.f6.f0, .string t.f6.f1, .string t.f7.f0, .string t.f7.f1] 39)).alloc (.cells #[.int .i64 t.f0, .int .i64 t.f1, .int .i64 t.f2, .string t.f3.f0, .int .i64 t.f3.f1, .int .i64 t.f3.f2, .int .i64 t.f3.f3, .int .i64 t.f4, .int .i64 t.f5, .string t.f6.f0, .string t.f6.f1, .string t.f7.f0, .string t.f7.f1] 69))).alloc (.cells #[(.func (.func 33) #[.agg #[.int .i64 t.f0, .int .i64 t.f1, .int .i64 t.f2, .string t.f3.f0, .int .i64 t.f3.f1, .int .i64 t.f3.f2, .int .i64 t.f3.f3, .int .i64 t.f4, .int .i64 t.f5, .string t.f6.f0, .string t.f6.f1, .string t.f7.f0, .string t.f7.f1]] #[]), (.func (.func 34) #[.agg #[.int .i64 t.f0, .int .i64 t.f1, .int .i64 t.f2, .string t.f3.f0, .int .i64 t.f3.f1, .int .i64 t.f3.f2, .int .i64 t.f3.f3, .int .i64 t.f4, .int .i64 t.f5, .string t.f6.f0, .string t.f6.f1, .string t.f7.f0, .string t.f7.f1]] #[])] 71)) = w5 at *
      refine (made_any t _ w5 hnw).mono ?_
      rintro e w6 ⟨v1, rfl, hR, hb6⟩
      have hb7 := below_step hbw hb6
      have HO6 := Aside0.mk (Kd.R_below HO.out hb7)
      have HB6 := Aside0.mk (below_step HB.out hb7)
      obtain ⟨A1, c1, rfl, hc1, hC1⟩ := Kd.R_reads hR
      have HC1 := Aside0.mk hC1
      clear hnw hbw hb6 hb7 hR hC1 HO HB
      go_wp2_with ((with_reducible refine gate_builtin (b := .append) (xs := #[.tmp 14, .tmp 20]) rfl ?_); (try (refine gate_guard (by rfl) ?_; dsimp only)); at_builtin; refine Kd.R_append_rows k41 (Rr := k41.K w6) (w0 := w) w.heap.size rfl (.tmp 14) (.tmp 20) 22 41 (.agg #[(.string ⟨#[]⟩), (.string ⟨#[]⟩), (.string ⟨#[]⟩), (.int .i64 0), (.int .i64 0), (.int .i64 0), (.int .i64 0), (.int .i64 0), (.int .i64 0)]) 96 rfl Try.underlying22 infoLegM rfl (by decide) (by omega) u2 xs [boughtV t, soldV t] A1 _ c1 (fun _ => True) (fun _ => False) rfl rfl ?aO ?aR (fun x cs h => k41_KM _ _ _ x cs h) (fun _ h => h.elim) ?aF ?aB ?aS ?aL ?_; (case aR => exact HC1.out); (case aB => exact HB6.out); (case aF => exact (fun _ _ => trivial)); (case aO => exact HO6.out); (case aS => exact below_size HB6.out); (case aL => first | omega | (simp only [List.length_cons, List.length_nil]; omega)); intro v164 w28 ho hb hg hat; have HB8 := Aside0.mk hb; have HO8 := Aside0.mk ho; clear ho hb hg hat)
      go_roundw
      case measure => show _ < _; simp [intOf]; omega
      case rel => exact ⟨i + 1, xs ++ [boughtV t, soldV t], by omega, by simp; omega, by go_num, HRES2, HO8, HB8⟩
    · obtain rfl : i = l0.length := by omega
      have hres := HRES.out
      rw [List.drop_length, allGo] at hres
      subst hres
      go_wp2_with fail
      go_ret
      exact ⟨_, rfl, HO.out, HB.out⟩

-- NOT PRINTED: function 37 (novate_Flat_1)

end Go.Proofs.Ytpifobhpijnehaa.PNovateFlat
