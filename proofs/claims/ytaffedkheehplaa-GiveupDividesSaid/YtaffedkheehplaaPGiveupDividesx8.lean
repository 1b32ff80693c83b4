/- Laid for this claim by a program of this session's (wip/mkprint.py, wip/ext.py); not trusted: Lean checks it. -/
import Derived.Test.YtaffedkheehplaaPGiveupDividesx0
import Derived.Test.YtaffedkheehplaaPGiveupDividesx2
import Derived.Test.YtaffedkheehplaaPGiveupDividesx4
import Derived.Test.YtaffedkheehplaaPGiveupDividesx6
import Derived.Test.YtaffedkheehplaaPGiveupDividesx7
namespace Go.Proofs.Ytaffedkheehplaa.PGiveupDivides
open Go.RowKit Go.Proofs.YtaffedkheehplaaW.PrintWords Go.Proofs.YtaffedkheehplaaW.PrintLast Go.Proofs.YtaffedkheehplaaW.PrintMore
attribute [local go_sem] max2_int min2_int max_two min_two max_three min_three max_four min_four   -- for this text's walks alone
set_option linter.unusedVariables false
set_option linter.unusedSimpArgs false

attribute [local go_sem high] eqA42
/-! ### contangoref14_Divide: function 17 -/
attribute [local go_sem high] accA
def rdivE (t : S42) (b : Bool) (l : List S44) (first : Int) : Option (List S42 × Int) :=
  if l.length ≤ 1024 then some (if first < 1 ∨ first > 1152921504606846976 - (l.length : Int) + 1 then ([], 2) else divGo t b first 0 [] l) else none
def contangoref14_Divide.f (k : Nat) (a0_0 : Int) (a0_1 : Int) (a0_2 : Int) (a0_3 : ByteArray) (a0_4 : Int) (a0_5 : Int) (a0_6 : Int) (a0_7 : Int) (a0_8 : Int) (a0_9 : ByteArray) (a0_10 : ByteArray) (a0_11 : ByteArray) (a0_12 : ByteArray) (a1 : Bool) (l2 : List (S44)) (a3 : Int) : Option ((List (S42)) × Int) := (contangoref14_Check.f k a0_0 a0_1 a0_2 a0_3 a0_4 a0_5 a0_6 a0_7 a0_8 a0_9 a0_10 a0_11 a0_12 l2).bind fun e => if e = 0 then rdivE ⟨a0_0, a0_1, a0_2, ⟨a0_3, a0_4, a0_5, a0_6⟩, a0_7, a0_8, ⟨a0_9, a0_10⟩, ⟨a0_11, a0_12⟩⟩ a1 l2 a3 else some ([], e)
theorem contangoref14_Divide.mono : ∀ a0 a1 a2 a3 a4 a5 a6 a7 a8 a9 a10 a11 a12 a13 a14 a15 k, LeO (contangoref14_Divide.f k a0 a1 a2 a3 a4 a5 a6 a7 a8 a9 a10 a11 a12 a13 a14 a15) (contangoref14_Divide.f (k + 1) a0 a1 a2 a3 a4 a5 a6 a7 a8 a9 a10 a11 a12 a13 a14 a15) := by
  intro a0 a1 a2 a3 a4 a5 a6 a7 a8 a9 a10 a11 a12 a13 a14 a15 k
  unfold contangoref14_Divide.f
  exact LeO.bind (contangoref14_Check.mono _ _ _ _ _ _ _ _ _ _ _ _ _ _ _) fun e => LeO.refl _
set_option maxHeartbeats 16000000 in
set_option maxRecDepth 100000 in
theorem rdg_true (k : Nat) (t : S42) (A2 : Option Addr) (c2 : Nat) (l : List (S44)) (a3 : Int) (r1 : List (S42)) (r2 : Int) (w : World) (hr2 : Kd.C k44 w A2 l.length l) (hc2 : l.length ≤ c2) (hp0 : contangoref14_Check.f k t.f0 t.f1 t.f2 t.f3.f0 t.f3.f1 t.f3.f2 t.f3.f3 t.f4 t.f5 t.f6.f0 t.f6.f1 t.f7.f0 t.f7.f1 l = some 0) (h1 : 1 ≤ a3) (h2 : a3 ≤ 1152921504606846976 - (l.length : Int) + 1) (hlen : l.length ≤ 1024) (h : divGo t true a3 0 [] l = (r1, r2)) :
    Calls Try.prog 17 #[.agg #[.int .i64 t.f0, .int .i64 t.f1, .int .i64 t.f2, .string t.f3.f0, .int .i64 t.f3.f1, .int .i64 t.f3.f2, .int .i64 t.f3.f3, .int .i64 t.f4, .int .i64 t.f5, .string t.f6.f0, .string t.f6.f1, .string t.f7.f0, .string t.f7.f1], .bool true, .slice A2 l.length c2, .int .i64 a3] w fun e w' => ∃ v0_ : Value, e = .returned (.tuple #[v0_, .int .i64 r2]) ∧ Kd.R k42 42 w' w.heap.size (fun _ => True) v0_ r1 ∧ Below w.heap.size w w' := by
  have hu42 := Try.underlying42
  have hu40 := Try.underlying40
  have d1 : decide (a3 < 1) = false := decide_eq_false (by omega)
  have d2 : decide (1152921504606846976 - (l.length : Int) + 1 < a3) = false := decide_eq_false (by omega)
  have HR := Aside0.mk hr2
  have HCHK := Aside0.mk hp0
  have HRES := Aside0.mk h
  have HC2 := Aside0.mk hc2
  clear hr2 h hp0 hc2
  go_enter Try.func17, Try.ntmps17
  go_wp2_with fail
  refine (contangoref14_Check.calls k t.f0 t.f1 t.f2 t.f3.f0 t.f3.f1 t.f3.f2 t.f3.f3 t.f4 t.f5 t.f6.f0 t.f6.f1 t.f7.f0 t.f7.f1 A2 c2 l 0 _ (Kd.C_alloc HR.out _) HC2.out HCHK.out).mono ?_
  rintro e w2 ⟨rfl, hd⟩
  have HB := Aside0.mk (below_step (below_alloc (Below.refl w.heap.size w) _) hd)
  have HT := Aside0.mk (blk_below (blk_new w (.cells #[.int .i64 t.f0, .int .i64 t.f1, .int .i64 t.f2, .string t.f3.f0, .int .i64 t.f3.f1, .int .i64 t.f3.f2, .int .i64 t.f3.f3, .int .i64 t.f4, .int .i64 t.f5, .string t.f6.f0, .string t.f6.f1, .string t.f7.f0, .string t.f7.f1] 42 (0, 0))) hd)
  clear hd
  go_wp2_with fail
  go_loopw [11, 12] (fun v11 v12 wr => ∃ (i : Nat) (xs : List S42), i ≤ l.length ∧ xs.length = i ∧ v12 = .int .i64 (i : Int) ∧ Aside0 (divGo t true a3 i xs (l.drop i) = (r1, r2)) ∧ Aside0 (Kd.R k42 42 wr w.heap.size (fun k_ => k_ ≠ w.heap.size) v11 xs) ∧ Aside0 (wr.heap[w.heap.size]? = some (.cells #[.int .i64 t.f0, .int .i64 t.f1, .int .i64 t.f2, .string t.f3.f0, .int .i64 t.f3.f1, .int .i64 t.f3.f2, .int .i64 t.f3.f3, .int .i64 t.f4, .int .i64 t.f5, .string t.f6.f0, .string t.f6.f1, .string t.f7.f0, .string t.f7.f1] 42 (0, 0))) ∧ Aside0 (Below w.heap.size w wr)) (fun _ v12 _ => l.length - (intOf v12).toNat)
  case atStart => exact ⟨0, [], by omega, rfl, rfl, ⟨by rw [List.drop_zero]; exact HRES.out⟩, ⟨Kd.R_nil _ _ _ _ _⟩, HT, HB⟩
  case round =>
    clear HB HT HRES
    obtain ⟨i, xs, hi, hxl, rfl, HRES, HO, HT, HB⟩ := hrel
    by_cases hlt : i < l.length
    · obtain ⟨ad, ex, hx0, hx1, hx2⟩ := at_T44 (Kd.C_below HR.out HB.out) (i : Int) (by omega) (by omega)
      cases ex
      simp only [Int.toNat_natCast] at hx0 hx1 hx2
      have hlti : (i : Int) < (l.length : Int) := by omega
      have hres := HRES.out
      rw [drop_T44 l i hlt, divGo] at hres
      generalize rd_T44 l (i : Int) = p at *
      have hz0 : wr.cell? ⟨w.heap.size, 0, none⟩ = some (.int .i64 t.f0) := (blk_cell HT.out 0).trans rfl
      have hz1 : wr.cell? ⟨w.heap.size, 1, none⟩ = some (.int .i64 t.f1) := (blk_cell HT.out 1).trans rfl
      have hz2 : wr.cell? ⟨w.heap.size, 2, none⟩ = some (.int .i64 t.f2) := (blk_cell HT.out 2).trans rfl
      have hz3 : wr.cell? ⟨w.heap.size, 3, none⟩ = some (.string t.f3.f0) := (blk_cell HT.out 3).trans rfl
      have hz4 : wr.cell? ⟨w.heap.size, 4, none⟩ = some (.int .i64 t.f3.f1) := (blk_cell HT.out 4).trans rfl
      have hz5 : wr.cell? ⟨w.heap.size, 5, none⟩ = some (.int .i64 t.f3.f2) := (blk_cell HT.out 5).trans rfl
      have hz6 : wr.cell? ⟨w.heap.size, 6, none⟩ = some (.int .i64 t.f3.f3) := (blk_cell HT.out 6).trans rfl
      have hz7 : wr.cell? ⟨w.heap.size, 7, none⟩ = some (.int .i64 t.f4) := (blk_cell HT.out 7).trans rfl
      have hz8 : wr.cell? ⟨w.heap.size, 8, none⟩ = some (.int .i64 t.f5) := (blk_cell HT.out 8).trans rfl
      have hz9 : wr.cell? ⟨w.heap.size, 9, none⟩ = some (.string t.f6.f0) := (blk_cell HT.out 9).trans rfl
      have hz10 : wr.cell? ⟨w.heap.size, 10, none⟩ = some (.string t.f6.f1) := (blk_cell HT.out 10).trans rfl
      have hz11 : wr.cell? ⟨w.heap.size, 11, none⟩ = some (.string t.f7.f0) := (blk_cell HT.out 11).trans rfl
      have hz12 : wr.cell? ⟨w.heap.size, 12, none⟩ = some (.string t.f7.f1) := (blk_cell HT.out 12).trans rfl
      have hba := below_alloc (Below.refl wr.heap.size wr) (.cells #[.int .i64 (a3 + (i : Int)), .int .i64 t.f1, .int .i64 t.f2, .string t.f3.f0, .int .i64 t.f3.f1, .int .i64 t.f3.f2, .int .i64 t.f3.f3, .int .i64 t.f4, .int .i64 t.f5, .string t.f6.f0, .string t.f6.f1, .string t.f7.f0, .string t.f7.f1] 42)
      have hbb := below_alloc (Below.refl wr.heap.size wr) (.cells #[.int .i64 (a3 + (i : Int)), .int .i64 t.f1, .int .i64 t.f2, .string t.f3.f0, .int .i64 t.f3.f1, .int .i64 t.f3.f2, .int .i64 t.f3.f3, .int .i64 p.f1, .int .i64 t.f5, .string t.f6.f0, .string t.f6.f1, .string t.f7.f0, .string t.f7.f1] 42)
      have hxA2 := (hba.cell (World.block_lt_of_cell? wr _ hx2)).trans hx2
      have hxB0 := (hbb.cell (World.block_lt_of_cell? wr _ hx0)).trans hx0
      have hxB1 := (hbb.cell (World.block_lt_of_cell? wr _ hx1)).trans hx1
      clear hba hbb
      have hlt0 := blk_lt HT.out
      have hn0 : w.heap.size ≠ wr.heap.size := by omega
      have hn0' : wr.heap.size ≠ w.heap.size := by omega
      have hq11 : (wr.alloc (.cells #[.int .i64 (a3 + (i : Int)), .int .i64 t.f1, .int .i64 t.f2, .string t.f3.f0, .int .i64 t.f3.f1, .int .i64 t.f3.f2, .int .i64 t.f3.f3, .int .i64 p.f1, .int .i64 t.f5, .string p.f0.f0, .string p.f0.f1, .string t.f7.f0, .string t.f7.f1] 42)).cell? ⟨w.heap.size, 11, none⟩ = some (.string t.f7.f0) := (blk_cell (blk_alloc HT.out _) 11).trans rfl
      have hq12 : (wr.alloc (.cells #[.int .i64 (a3 + (i : Int)), .int .i64 t.f1, .int .i64 t.f2, .string t.f3.f0, .int .i64 t.f3.f1, .int .i64 t.f3.f2, .int .i64 t.f3.f3, .int .i64 p.f1, .int .i64 t.f5, .string p.f0.f0, .string p.f0.f1, .string t.f7.f0, .string t.f7.f1] 42)).cell? ⟨w.heap.size, 12, none⟩ = some (.string t.f7.f1) := (blk_cell (blk_alloc HT.out _) 12).trans rfl
      by_cases hc : accEq p.f0 (otherT t true) = true
      · rw [if_pos hc] at hres
        simp only [Prod.mk.injEq] at hres
        obtain ⟨rfl, rfl⟩ := hres
        have hc' : (p.f0.f0.toList == t.f7.f0.toList && (p.f0.f1.toList == t.f7.f1.toList)) = true := hc
        go_wp2_with fail
        go_ret2
        exact ⟨_, rfl, Kd.R_nil _ _ _ _ _, by repeat (first | exact HB.out | apply below_drew1 | apply below_alloc)⟩
      · rw [if_neg hc] at hres
        have hc' : (p.f0.f0.toList == t.f7.f0.toList && (p.f0.f1.toList == t.f7.f1.toList)) = false := Bool.eq_false_iff.2 hc
        have HRES2 := Aside0.mk hres
        clear hres HRES
        go_upto_region 18 with fail
        obtain ⟨W5, hW5⟩ : ∃ W5 : World, W5 = (wr.alloc (.cells #[.int .i64 (a3 + (i : Int)), .int .i64 t.f1, .int .i64 t.f2, .string t.f3.f0, .int .i64 t.f3.f1, .int .i64 t.f3.f2, .int .i64 t.f3.f3, .int .i64 p.f1, .int .i64 t.f5, .string p.f0.f0, .string p.f0.f1, .string t.f7.f0, .string t.f7.f1] 42)) := ⟨_, rfl⟩
        rw [← hW5]
        have hb5 : Below wr.heap.size wr W5 := by rw [hW5]; exact below_alloc (Below.refl _ _) _
        have hx5 : W5.heap[wr.heap.size]? = some (.cells #[.int .i64 (a3 + (i : Int)), .int .i64 t.f1, .int .i64 t.f2, .string t.f3.f0, .int .i64 t.f3.f1, .int .i64 t.f3.f2, .int .i64 t.f3.f3, .int .i64 p.f1, .int .i64 t.f5, .string p.f0.f0, .string p.f0.f1, .string t.f7.f0, .string t.f7.f1] 42 (0, 0)) := by rw [hW5]; exact blk_new _ _
        have ht5 := Aside0.mk (blk_below HT.out hb5)
        have ho5 := Aside0.mk (Kd.R_below HO.out hb5)
        have HB5 := Aside0.mk (below_step HB.out hb5)
        have hs5 : w.heap.size ≤ W5.heap.size := below_size HB5.out
        generalize wr.heap.size = gw at *
        have hx5_0 : W5.cell? ⟨gw, 0, none⟩ = some (.int .i64 (a3 + (i : Int))) := (blk_cell hx5 0).trans rfl
        have hx5_1 : W5.cell? ⟨gw, 1, none⟩ = some (.int .i64 t.f1) := (blk_cell hx5 1).trans rfl
        have hx5_2 : W5.cell? ⟨gw, 2, none⟩ = some (.int .i64 t.f2) := (blk_cell hx5 2).trans rfl
        have hx5_3 : W5.cell? ⟨gw, 3, none⟩ = some (.string t.f3.f0) := (blk_cell hx5 3).trans rfl
        have hx5_4 : W5.cell? ⟨gw, 4, none⟩ = some (.int .i64 t.f3.f1) := (blk_cell hx5 4).trans rfl
        have hx5_5 : W5.cell? ⟨gw, 5, none⟩ = some (.int .i64 t.f3.f2) := (blk_cell hx5 5).trans rfl
        have hx5_6 : W5.cell? ⟨gw, 6, none⟩ = some (.int .i64 t.f3.f3) := (blk_cell hx5 6).trans rfl
        have hx5_7 : W5.cell? ⟨gw, 7, none⟩ = some (.int .i64 p.f1) := (blk_cell hx5 7).trans rfl
        have hx5_8 : W5.cell? ⟨gw, 8, none⟩ = some (.int .i64 t.f5) := (blk_cell hx5 8).trans rfl
        have hx5_9 : W5.cell? ⟨gw, 9, none⟩ = some (.string p.f0.f0) := (blk_cell hx5 9).trans rfl
        have hx5_10 : W5.cell? ⟨gw, 10, none⟩ = some (.string p.f0.f1) := (blk_cell hx5 10).trans rfl
        have hx5_11 : W5.cell? ⟨gw, 11, none⟩ = some (.string t.f7.f0) := (blk_cell hx5 11).trans rfl
        have hx5_12 : W5.cell? ⟨gw, 12, none⟩ = some (.string t.f7.f1) := (blk_cell hx5 12).trans rfl
        clear hx5 hb5 hW5 HT HO HB
        go_wp2_with ((with_reducible refine gate_builtin (b := .append) (xs := #[.tmp 79, .tmp 81]) rfl ?_); (try (refine gate_guard (by rfl) ?_; dsimp only)); at_builtin; refine Kd.R_append k42 (w0 := w) w.heap.size rfl (.tmp 79) (.tmp 81) 22 42 (.agg #[(.int .i64 0), (.int .i64 0), (.int .i64 0), (.string ⟨#[]⟩), (.int .i64 0), (.int .i64 0), (.int .i64 0), (.int .i64 0), (.int .i64 0), (.string ⟨#[]⟩), (.string ⟨#[]⟩), (.string ⟨#[]⟩), (.string ⟨#[]⟩)]) 144 rfl Try.underlying22 info42 rfl (by decide) (by omega) u11 xs (mkT t true (a3 + (i : Int)) p) [.int .i64 (a3 + (i : Int)), .int .i64 t.f1, .int .i64 t.f2, .string t.f3.f0, .int .i64 t.f3.f1, .int .i64 t.f3.f2, .int .i64 t.f3.f3, .int .i64 p.f1, .int .i64 t.f5, .string p.f0.f0, .string p.f0.f1, .string t.f7.f0, .string t.f7.f1] (fun k_ => k_ ≠ w.heap.size) (fun _ => False) rfl (by first | (go_simp; done) | (go_simp; rfl)) ?aP (fun _ hk => hk.elim) ?aF ?aO ?aB ?aS ?aL ?_; (case aP => exact k42_mkM _ _ _ (mkT t true (a3 + (i : Int)) p)); (case aF => intro k_ hk; have := blk_lt ht5.out; omega); (case aO => exact ho5.out); (case aB => exact HB5.out); (case aS => exact hs5); (case aL => omega); intro v164 w28 ho hb hg hat; have n0_ := Aside0.mk (blk_grown ht5.out hg (Kd.R_away ho5.out (fun _ hk => hk))); have n1_ := Aside0.mk hb; have n2_ := Aside0.mk ho; clear ho hb hg hat)
        go_roundw
        case measure => show _ < _; simp [intOf]; omega
        case rel => exact ⟨i + 1, xs ++ [(mkT t true (a3 + (i : Int)) p)], by omega, by rw [List.length_append]; simp; omega, by go_num, HRES2, n2_, n0_, n1_⟩
    · obtain rfl : i = l.length := by omega
      have hres := HRES.out
      rw [List.drop_length, divGo] at hres
      simp only [Prod.mk.injEq] at hres
      obtain ⟨rfl, rfl⟩ := hres
      go_wp2_with fail
      go_ret2
      exact ⟨_, rfl, Kd.R_mono HO.out (fun _ _ => trivial), HB.out⟩
set_option maxHeartbeats 16000000 in
set_option maxRecDepth 100000 in
theorem rdg_false (k : Nat) (t : S42) (A2 : Option Addr) (c2 : Nat) (l : List (S44)) (a3 : Int) (r1 : List (S42)) (r2 : Int) (w : World) (hr2 : Kd.C k44 w A2 l.length l) (hc2 : l.length ≤ c2) (hp0 : contangoref14_Check.f k t.f0 t.f1 t.f2 t.f3.f0 t.f3.f1 t.f3.f2 t.f3.f3 t.f4 t.f5 t.f6.f0 t.f6.f1 t.f7.f0 t.f7.f1 l = some 0) (h1 : 1 ≤ a3) (h2 : a3 ≤ 1152921504606846976 - (l.length : Int) + 1) (hlen : l.length ≤ 1024) (h : divGo t false a3 0 [] l = (r1, r2)) :
    Calls Try.prog 17 #[.agg #[.int .i64 t.f0, .int .i64 t.f1, .int .i64 t.f2, .string t.f3.f0, .int .i64 t.f3.f1, .int .i64 t.f3.f2, .int .i64 t.f3.f3, .int .i64 t.f4, .int .i64 t.f5, .string t.f6.f0, .string t.f6.f1, .string t.f7.f0, .string t.f7.f1], .bool false, .slice A2 l.length c2, .int .i64 a3] w fun e w' => ∃ v0_ : Value, e = .returned (.tuple #[v0_, .int .i64 r2]) ∧ Kd.R k42 42 w' w.heap.size (fun _ => True) v0_ r1 ∧ Below w.heap.size w w' := by
  have hu42 := Try.underlying42
  have hu40 := Try.underlying40
  have d1 : decide (a3 < 1) = false := decide_eq_false (by omega)
  have d2 : decide (1152921504606846976 - (l.length : Int) + 1 < a3) = false := decide_eq_false (by omega)
  have HR := Aside0.mk hr2
  have HCHK := Aside0.mk hp0
  have HRES := Aside0.mk h
  have HC2 := Aside0.mk hc2
  clear hr2 h hp0 hc2
  go_enter Try.func17, Try.ntmps17
  go_wp2_with fail
  refine (contangoref14_Check.calls k t.f0 t.f1 t.f2 t.f3.f0 t.f3.f1 t.f3.f2 t.f3.f3 t.f4 t.f5 t.f6.f0 t.f6.f1 t.f7.f0 t.f7.f1 A2 c2 l 0 _ (Kd.C_alloc HR.out _) HC2.out HCHK.out).mono ?_
  rintro e w2 ⟨rfl, hd⟩
  have HB := Aside0.mk (below_step (below_alloc (Below.refl w.heap.size w) _) hd)
  have HT := Aside0.mk (blk_below (blk_new w (.cells #[.int .i64 t.f0, .int .i64 t.f1, .int .i64 t.f2, .string t.f3.f0, .int .i64 t.f3.f1, .int .i64 t.f3.f2, .int .i64 t.f3.f3, .int .i64 t.f4, .int .i64 t.f5, .string t.f6.f0, .string t.f6.f1, .string t.f7.f0, .string t.f7.f1] 42 (0, 0))) hd)
  clear hd
  go_wp2_with fail
  go_loopw [11, 12] (fun v11 v12 wr => ∃ (i : Nat) (xs : List S42), i ≤ l.length ∧ xs.length = i ∧ v12 = .int .i64 (i : Int) ∧ Aside0 (divGo t false a3 i xs (l.drop i) = (r1, r2)) ∧ Aside0 (Kd.R k42 42 wr w.heap.size (fun k_ => k_ ≠ w.heap.size) v11 xs) ∧ Aside0 (wr.heap[w.heap.size]? = some (.cells #[.int .i64 t.f0, .int .i64 t.f1, .int .i64 t.f2, .string t.f3.f0, .int .i64 t.f3.f1, .int .i64 t.f3.f2, .int .i64 t.f3.f3, .int .i64 t.f4, .int .i64 t.f5, .string t.f6.f0, .string t.f6.f1, .string t.f7.f0, .string t.f7.f1] 42 (0, 0))) ∧ Aside0 (Below w.heap.size w wr)) (fun _ v12 _ => l.length - (intOf v12).toNat)
  case atStart => exact ⟨0, [], by omega, rfl, rfl, ⟨by rw [List.drop_zero]; exact HRES.out⟩, ⟨Kd.R_nil _ _ _ _ _⟩, HT, HB⟩
  case round =>
    clear HB HT HRES
    obtain ⟨i, xs, hi, hxl, rfl, HRES, HO, HT, HB⟩ := hrel
    by_cases hlt : i < l.length
    · obtain ⟨ad, ex, hx0, hx1, hx2⟩ := at_T44 (Kd.C_below HR.out HB.out) (i : Int) (by omega) (by omega)
      cases ex
      simp only [Int.toNat_natCast] at hx0 hx1 hx2
      have hlti : (i : Int) < (l.length : Int) := by omega
      have hres := HRES.out
      rw [drop_T44 l i hlt, divGo] at hres
      generalize rd_T44 l (i : Int) = p at *
      have hz0 : wr.cell? ⟨w.heap.size, 0, none⟩ = some (.int .i64 t.f0) := (blk_cell HT.out 0).trans rfl
      have hz1 : wr.cell? ⟨w.heap.size, 1, none⟩ = some (.int .i64 t.f1) := (blk_cell HT.out 1).trans rfl
      have hz2 : wr.cell? ⟨w.heap.size, 2, none⟩ = some (.int .i64 t.f2) := (blk_cell HT.out 2).trans rfl
      have hz3 : wr.cell? ⟨w.heap.size, 3, none⟩ = some (.string t.f3.f0) := (blk_cell HT.out 3).trans rfl
      have hz4 : wr.cell? ⟨w.heap.size, 4, none⟩ = some (.int .i64 t.f3.f1) := (blk_cell HT.out 4).trans rfl
      have hz5 : wr.cell? ⟨w.heap.size, 5, none⟩ = some (.int .i64 t.f3.f2) := (blk_cell HT.out 5).trans rfl
      have hz6 : wr.cell? ⟨w.heap.size, 6, none⟩ = some (.int .i64 t.f3.f3) := (blk_cell HT.out 6).trans rfl
      have hz7 : wr.cell? ⟨w.heap.size, 7, none⟩ = some (.int .i64 t.f4) := (blk_cell HT.out 7).trans rfl
      have hz8 : wr.cell? ⟨w.heap.size, 8, none⟩ = some (.int .i64 t.f5) := (blk_cell HT.out 8).trans rfl
      have hz9 : wr.cell? ⟨w.heap.size, 9, none⟩ = some (.string t.f6.f0) := (blk_cell HT.out 9).trans rfl
      have hz10 : wr.cell? ⟨w.heap.size, 10, none⟩ = some (.string t.f6.f1) := (blk_cell HT.out 10).trans rfl
      have hz11 : wr.cell? ⟨w.heap.size, 11, none⟩ = some (.string t.f7.f0) := (blk_cell HT.out 11).trans rfl
      have hz12 : wr.cell? ⟨w.heap.size, 12, none⟩ = some (.string t.f7.f1) := (blk_cell HT.out 12).trans rfl
      have hba := below_alloc (Below.refl wr.heap.size wr) (.cells #[.int .i64 (a3 + (i : Int)), .int .i64 t.f1, .int .i64 t.f2, .string t.f3.f0, .int .i64 t.f3.f1, .int .i64 t.f3.f2, .int .i64 t.f3.f3, .int .i64 t.f4, .int .i64 t.f5, .string t.f6.f0, .string t.f6.f1, .string t.f7.f0, .string t.f7.f1] 42)
      have hbb := below_alloc (Below.refl wr.heap.size wr) (.cells #[.int .i64 (a3 + (i : Int)), .int .i64 t.f1, .int .i64 t.f2, .string t.f3.f0, .int .i64 t.f3.f1, .int .i64 t.f3.f2, .int .i64 t.f3.f3, .int .i64 p.f1, .int .i64 t.f5, .string t.f6.f0, .string t.f6.f1, .string t.f7.f0, .string t.f7.f1] 42)
      have hxA2 := (hba.cell (World.block_lt_of_cell? wr _ hx2)).trans hx2
      have hxB0 := (hbb.cell (World.block_lt_of_cell? wr _ hx0)).trans hx0
      have hxB1 := (hbb.cell (World.block_lt_of_cell? wr _ hx1)).trans hx1
      clear hba hbb
      have hlt0 := blk_lt HT.out
      have hn0 : w.heap.size ≠ wr.heap.size := by omega
      have hn0' : wr.heap.size ≠ w.heap.size := by omega
      have hq9 : (wr.alloc (.cells #[.int .i64 (a3 + (i : Int)), .int .i64 t.f1, .int .i64 t.f2, .string t.f3.f0, .int .i64 t.f3.f1, .int .i64 t.f3.f2, .int .i64 t.f3.f3, .int .i64 p.f1, .int .i64 t.f5, .string t.f6.f0, .string t.f6.f1, .string p.f0.f0, .string p.f0.f1] 42)).cell? ⟨w.heap.size, 9, none⟩ = some (.string t.f6.f0) := (blk_cell (blk_alloc HT.out _) 9).trans rfl
      have hq10 : (wr.alloc (.cells #[.int .i64 (a3 + (i : Int)), .int .i64 t.f1, .int .i64 t.f2, .string t.f3.f0, .int .i64 t.f3.f1, .int .i64 t.f3.f2, .int .i64 t.f3.f3, .int .i64 p.f1, .int .i64 t.f5, .string t.f6.f0, .string t.f6.f1, .string p.f0.f0, .string p.f0.f1] 42)).cell? ⟨w.heap.size, 10, none⟩ = some (.string t.f6.f1) := (blk_cell (blk_alloc HT.out _) 10).trans rfl
      by_cases hc : accEq p.f0 (otherT t false) = true
      · rw [if_pos hc] at hres
        simp only [Prod.mk.injEq] at hres
        obtain ⟨rfl, rfl⟩ := hres
        have hc' : (p.f0.f0.toList == t.f6.f0.toList && (p.f0.f1.toList == t.f6.f1.toList)) = true := hc
        go_wp2_with fail
        go_ret2
        exact ⟨_, rfl, Kd.R_nil _ _ _ _ _, by repeat (first | exact HB.out | apply below_drew1 | apply below_alloc)⟩
      · rw [if_neg hc] at hres
        have hc' : (p.f0.f0.toList == t.f6.f0.toList && (p.f0.f1.toList == t.f6.f1.toList)) = false := Bool.eq_false_iff.2 hc
        have HRES2 := Aside0.mk hres
        clear hres HRES
        go_upto_region 18 with fail
        obtain ⟨W5, hW5⟩ : ∃ W5 : World, W5 = (wr.alloc (.cells #[.int .i64 (a3 + (i : Int)), .int .i64 t.f1, .int .i64 t.f2, .string t.f3.f0, .int .i64 t.f3.f1, .int .i64 t.f3.f2, .int .i64 t.f3.f3, .int .i64 p.f1, .int .i64 t.f5, .string t.f6.f0, .string t.f6.f1, .string p.f0.f0, .string p.f0.f1] 42)) := ⟨_, rfl⟩
        rw [← hW5]
        have hb5 : Below wr.heap.size wr W5 := by rw [hW5]; exact below_alloc (Below.refl _ _) _
        have hx5 : W5.heap[wr.heap.size]? = some (.cells #[.int .i64 (a3 + (i : Int)), .int .i64 t.f1, .int .i64 t.f2, .string t.f3.f0, .int .i64 t.f3.f1, .int .i64 t.f3.f2, .int .i64 t.f3.f3, .int .i64 p.f1, .int .i64 t.f5, .string t.f6.f0, .string t.f6.f1, .string p.f0.f0, .string p.f0.f1] 42 (0, 0)) := by rw [hW5]; exact blk_new _ _
        have ht5 := Aside0.mk (blk_below HT.out hb5)
        have ho5 := Aside0.mk (Kd.R_below HO.out hb5)
        have HB5 := Aside0.mk (below_step HB.out hb5)
        have hs5 : w.heap.size ≤ W5.heap.size := below_size HB5.out
        generalize wr.heap.size = gw at *
        have hx5_0 : W5.cell? ⟨gw, 0, none⟩ = some (.int .i64 (a3 + (i : Int))) := (blk_cell hx5 0).trans rfl
        have hx5_1 : W5.cell? ⟨gw, 1, none⟩ = some (.int .i64 t.f1) := (blk_cell hx5 1).trans rfl
        have hx5_2 : W5.cell? ⟨gw, 2, none⟩ = some (.int .i64 t.f2) := (blk_cell hx5 2).trans rfl
        have hx5_3 : W5.cell? ⟨gw, 3, none⟩ = some (.string t.f3.f0) := (blk_cell hx5 3).trans rfl
        have hx5_4 : W5.cell? ⟨gw, 4, none⟩ = some (.int .i64 t.f3.f1) := (blk_cell hx5 4).trans rfl
        have hx5_5 : W5.cell? ⟨gw, 5, none⟩ = some (.int .i64 t.f3.f2) := (blk_cell hx5 5).trans rfl
        have hx5_6 : W5.cell? ⟨gw, 6, none⟩ = some (.int .i64 t.f3.f3) := (blk_cell hx5 6).trans rfl
        have hx5_7 : W5.cell? ⟨gw, 7, none⟩ = some (.int .i64 p.f1) := (blk_cell hx5 7).trans rfl
        have hx5_8 : W5.cell? ⟨gw, 8, none⟩ = some (.int .i64 t.f5) := (blk_cell hx5 8).trans rfl
        have hx5_9 : W5.cell? ⟨gw, 9, none⟩ = some (.string t.f6.f0) := (blk_cell hx5 9).trans rfl
        have hx5_10 : W5.cell? ⟨gw, 10, none⟩ = some (.string t.f6.f1) := (blk_cell hx5 10).trans rfl
        have hx5_11 : W5.cell? ⟨gw, 11, none⟩ = some (.string p.f0.f0) := (blk_cell hx5 11).trans rfl
        have hx5_12 : W5.cell? ⟨gw, 12, none⟩ = some (.string p.f0.f1) := (blk_cell hx5 12).trans rfl
        clear hx5 hb5 hW5 HT HO HB
        go_wp2_with ((with_reducible refine gate_builtin (b := .append) (xs := #[.tmp 79, .tmp 81]) rfl ?_); (try (refine gate_guard (by rfl) ?_; dsimp only)); at_builtin; refine Kd.R_append k42 (w0 := w) w.heap.size rfl (.tmp 79) (.tmp 81) 22 42 (.agg #[(.int .i64 0), (.int .i64 0), (.int .i64 0), (.string ⟨#[]⟩), (.int .i64 0), (.int .i64 0), (.int .i64 0), (.int .i64 0), (.int .i64 0), (.string ⟨#[]⟩), (.string ⟨#[]⟩), (.string ⟨#[]⟩), (.string ⟨#[]⟩)]) 144 rfl Try.underlying22 info42 rfl (by decide) (by omega) u11 xs (mkT t false (a3 + (i : Int)) p) [.int .i64 (a3 + (i : Int)), .int .i64 t.f1, .int .i64 t.f2, .string t.f3.f0, .int .i64 t.f3.f1, .int .i64 t.f3.f2, .int .i64 t.f3.f3, .int .i64 p.f1, .int .i64 t.f5, .string t.f6.f0, .string t.f6.f1, .string p.f0.f0, .string p.f0.f1] (fun k_ => k_ ≠ w.heap.size) (fun _ => False) rfl (by first | (go_simp; done) | (go_simp; rfl)) ?aP (fun _ hk => hk.elim) ?aF ?aO ?aB ?aS ?aL ?_; (case aP => exact k42_mkM _ _ _ (mkT t false (a3 + (i : Int)) p)); (case aF => intro k_ hk; have := blk_lt ht5.out; omega); (case aO => exact ho5.out); (case aB => exact HB5.out); (case aS => exact hs5); (case aL => omega); intro v164 w28 ho hb hg hat; have n0_ := Aside0.mk (blk_grown ht5.out hg (Kd.R_away ho5.out (fun _ hk => hk))); have n1_ := Aside0.mk hb; have n2_ := Aside0.mk ho; clear ho hb hg hat)
        go_roundw
        case measure => show _ < _; simp [intOf]; omega
        case rel => exact ⟨i + 1, xs ++ [(mkT t false (a3 + (i : Int)) p)], by omega, by rw [List.length_append]; simp; omega, by go_num, HRES2, n2_, n0_, n1_⟩
    · obtain rfl : i = l.length := by omega
      have hres := HRES.out
      rw [List.drop_length, divGo] at hres
      simp only [Prod.mk.injEq] at hres
      obtain ⟨rfl, rfl⟩ := hres
      go_wp2_with fail
      go_ret2
      exact ⟨_, rfl, Kd.R_mono HO.out (fun _ _ => trivial), HB.out⟩
set_option maxHeartbeats 16000000 in
set_option maxRecDepth 100000 in
theorem contangoref14_Divide.calls (k : Nat) (a0_0 : Int) (a0_1 : Int) (a0_2 : Int) (a0_3 : ByteArray) (a0_4 : Int) (a0_5 : Int) (a0_6 : Int) (a0_7 : Int) (a0_8 : Int) (a0_9 : ByteArray) (a0_10 : ByteArray) (a0_11 : ByteArray) (a0_12 : ByteArray) (a1 : Bool) (A2 : Option Addr) (c2 : Nat) (l2 : List (S44)) (a3 : Int) (r1 : List (S42)) (r2 : Int) (w : World) (hr2 : Kd.C k44 w A2 l2.length l2) (hc2 : l2.length ≤ c2) (h : contangoref14_Divide.f k a0_0 a0_1 a0_2 a0_3 a0_4 a0_5 a0_6 a0_7 a0_8 a0_9 a0_10 a0_11 a0_12 a1 l2 a3 = some (r1, r2)) :
    Calls Try.prog 17 #[.agg #[.int .i64 a0_0, .int .i64 a0_1, .int .i64 a0_2, .string a0_3, .int .i64 a0_4, .int .i64 a0_5, .int .i64 a0_6, .int .i64 a0_7, .int .i64 a0_8, .string a0_9, .string a0_10, .string a0_11, .string a0_12], .bool a1, .slice A2 l2.length c2, .int .i64 a3] w fun e w' => ∃ v0_ : Value, e = .returned (.tuple #[v0_, .int .i64 r2]) ∧ Kd.R k42 42 w' w.heap.size (fun _ => True) v0_ r1 ∧ Below w.heap.size w w' := by
  have hu42 := Try.underlying42
  have hu40 := Try.underlying40
  unfold contangoref14_Divide.f at h
  rw [Option.bind_eq_some_iff] at h
  obtain ⟨e0, hck, h⟩ := h
  by_cases he : e0 = 0
  · subst he
    rw [if_pos rfl] at h
    unfold rdivE at h
    have hlen : l2.length ≤ 1024 := by
      by_cases q : l2.length ≤ 1024
      · exact q
      · rw [if_neg q] at h; cases h
    rw [if_pos hlen] at h
    have h := Option.some.inj h
    by_cases q : a3 < 1 ∨ a3 > 1152921504606846976 - (l2.length : Int) + 1
    · rw [if_pos q] at h
      simp only [Prod.mk.injEq] at h
      obtain ⟨rfl, rfl⟩ := h
      by_cases k1 : a3 < 1
      · have d1 : decide (a3 < 1) = true := decide_eq_true k1
        go_enter Try.func17, Try.ntmps17
        go_wp2_with fail
        refine (contangoref14_Check.calls k a0_0 a0_1 a0_2 a0_3 a0_4 a0_5 a0_6 a0_7 a0_8 a0_9 a0_10 a0_11 a0_12 A2 c2 l2 0 _ (Kd.C_alloc hr2 _) hc2 hck).mono ?_
        rintro e w2 ⟨rfl, hd⟩
        have HB := Aside0.mk (below_step (below_alloc (Below.refl w.heap.size w) _) hd)
        clear hd
        go_wp2_with fail
        go_ret2
        exact ⟨_, rfl, Kd.R_nil _ _ _ _ _, HB.out⟩
      · have d1 : decide (a3 < 1) = false := decide_eq_false k1
        have d2 : decide (1152921504606846976 - (l2.length : Int) + 1 < a3) = true := decide_eq_true (by omega)
        go_enter Try.func17, Try.ntmps17
        go_wp2_with fail
        refine (contangoref14_Check.calls k a0_0 a0_1 a0_2 a0_3 a0_4 a0_5 a0_6 a0_7 a0_8 a0_9 a0_10 a0_11 a0_12 A2 c2 l2 0 _ (Kd.C_alloc hr2 _) hc2 hck).mono ?_
        rintro e w2 ⟨rfl, hd⟩
        have HB := Aside0.mk (below_step (below_alloc (Below.refl w.heap.size w) _) hd)
        clear hd
        go_wp2_with fail
        go_ret2
        exact ⟨_, rfl, Kd.R_nil _ _ _ _ _, HB.out⟩
    · rw [if_neg q] at h
      cases a1 with
      | true => exact rdg_true k (⟨a0_0, a0_1, a0_2, ⟨a0_3, a0_4, a0_5, a0_6⟩, a0_7, a0_8, ⟨a0_9, a0_10⟩, ⟨a0_11, a0_12⟩⟩ : S42) A2 c2 l2 a3 r1 r2 w hr2 hc2 hck (by omega) (by omega) hlen h
      | false => exact rdg_false k (⟨a0_0, a0_1, a0_2, ⟨a0_3, a0_4, a0_5, a0_6⟩, a0_7, a0_8, ⟨a0_9, a0_10⟩, ⟨a0_11, a0_12⟩⟩ : S42) A2 c2 l2 a3 r1 r2 w hr2 hc2 hck (by omega) (by omega) hlen h
  · rw [if_neg he] at h
    simp only [Option.some.injEq, Prod.mk.injEq] at h
    obtain ⟨rfl, rfl⟩ := h
    have hne : (e0 != 0) = true := bne_iff_ne.mpr he
    go_enter Try.func17, Try.ntmps17
    go_wp2_with fail
    refine (contangoref14_Check.calls k a0_0 a0_1 a0_2 a0_3 a0_4 a0_5 a0_6 a0_7 a0_8 a0_9 a0_10 a0_11 a0_12 A2 c2 l2 e0 _ (Kd.C_alloc hr2 _) hc2 hck).mono ?_
    rintro e w2 ⟨rfl, hd⟩
    have HB := Aside0.mk (below_step (below_alloc (Below.refl w.heap.size w) _) hd)
    clear hd
    go_wp2_with fail
    go_ret2
    exact ⟨_, rfl, Kd.R_nil _ _ _ _ _, HB.out⟩

/-! ### contangoref14_Same: function 18 -/
def contangoref14_Same.l0 : Nat → List (S42) → List (S42) → Int → Option (Bool)
  | 0, _, _, _ => none
  | k + 1, x0, x1, x5 => if x5 < (x0.length : Int) then (if 0 ≤ x5 then (if x5 < (x1.length : Int) then (if (!(((rd_T42 x0 x5).f0) == ((rd_T42 x1 x5).f0)) || (!(((rd_T42 x0 x5).f1) == ((rd_T42 x1 x5).f1)) || (!(((rd_T42 x0 x5).f2) == ((rd_T42 x1 x5).f2)) || ((!((((rd_T42 x0 x5).f3.f0).toList) == (((rd_T42 x1 x5).f3.f0).toList)) || (!(((rd_T42 x0 x5).f3.f1) == ((rd_T42 x1 x5).f3.f1)) || (!(((rd_T42 x0 x5).f3.f2) == ((rd_T42 x1 x5).f3.f2)) || (!(((rd_T42 x0 x5).f3.f3) == ((rd_T42 x1 x5).f3.f3)))))) || (!(((rd_T42 x0 x5).f4) == ((rd_T42 x1 x5).f4)) || (!(((rd_T42 x0 x5).f5) == ((rd_T42 x1 x5).f5)) || ((!((((rd_T42 x0 x5).f6.f0).toList) == (((rd_T42 x1 x5).f6.f0).toList)) || (!((((rd_T42 x0 x5).f6.f1).toList) == (((rd_T42 x1 x5).f6.f1).toList)))) || ((!((((rd_T42 x0 x5).f7.f0).toList) == (((rd_T42 x1 x5).f7.f0).toList)) || (!((((rd_T42 x0 x5).f7.f1).toList) == (((rd_T42 x1 x5).f7.f1).toList)))))))))))) = true then (some false) else (contangoref14_Same.l0 k x0 x1 (wrap64 (x5 + 1)))) else (none)) else (none)) else (some true)
def contangoref14_Same.f (k : Nat) (l0 : List (S42)) (l1 : List (S42)) : Option (Bool) := if (l0.length : Int) = (l1.length : Int) then (contangoref14_Same.l0 k l0 l1 0) else (some false)
theorem contangoref14_Same.mono_l : ∀ k, (∀ y0 y1 y2, LeO (contangoref14_Same.l0 k y0 y1 y2) (contangoref14_Same.l0 (k + 1) y0 y1 y2))
  | 0 => fun _ _ _ r h => by simp [contangoref14_Same.l0] at h
  | k + 1 => by
    have ih0 := contangoref14_Same.mono_l k
    · intro y0 y1 y2
      unfold contangoref14_Same.l0
      repeat' first
      | (with_reducible exact ih0 _ _ _)
      | (with_reducible exact LeO.refl _)
      | (with_reducible exact LeO.none _)
      | (with_reducible refine LeO.ite ?_ ?_)
      | (with_reducible refine LeO.bind ?_ (fun _ => ?_))
      | exact ih0 _ _ _
      | exact LeO.none _
      | refine LeO.ite ?_ ?_
      | refine LeO.bind ?_ (fun _ => ?_)
theorem contangoref14_Same.mono : ∀ a0 a1 k, LeO (contangoref14_Same.f k a0 a1) (contangoref14_Same.f (k + 1) a0 a1) := by
  intro a0 a1 k
  have ih0 := contangoref14_Same.mono_l k
  unfold contangoref14_Same.f
  repeat' first
      | (with_reducible exact ih0 _ _ _)
      | (with_reducible exact LeO.refl _)
      | (with_reducible exact LeO.none _)
      | (with_reducible refine LeO.ite ?_ ?_)
      | (with_reducible refine LeO.bind ?_ (fun _ => ?_))
      | exact ih0 _ _ _
      | exact LeO.none _
      | refine LeO.ite ?_ ?_
      | refine LeO.bind ?_ (fun _ => ?_)
set_option maxHeartbeats 8000000 in
set_option maxRecDepth 100000 in
theorem contangoref14_Same.calls (k : Nat) (A0 : Option Addr) (c0 : Nat) (l0 : List (S42)) (A1 : Option Addr) (c1 : Nat) (l1 : List (S42)) (r : Bool) (w : World) (hr0 : Kd.C k42 w A0 l0.length l0) (hc0 : l0.length ≤ c0) (hr1 : Kd.C k42 w A1 l1.length l1) (hc1 : l1.length ≤ c1) (h : contangoref14_Same.f k l0 l1 = some r) :
    Calls Try.prog 18 #[.slice A0 l0.length c0, .slice A1 l1.length c1] w fun e w' => e = .returned (.bool r) ∧ Drawn0 w w' := by
  have hu42 := Try.underlying42
  have HR0 := Aside0.mk hr0
  have HC0 := Aside0.mk hc0
  clear hr0 hc0
  have HR1 := Aside0.mk hr1
  have HC1 := Aside0.mk hc1
  clear hr1 hc1
  have H : (if (l0.length : Int) = (l1.length : Int) then (contangoref14_Same.l0 k l0 l1 0) else (some false)) = some r := h
  clear h
  by_cases c3 : (l0.length : Int) = (l1.length : Int)
  · rw [if_pos c3] at H
    have c3b0 : ((l0.length : Int) == (l1.length : Int)) = true := beq_iff_eq.mpr c3
    have c3b1 : ((l0.length : Int) != (l1.length : Int)) = false := bne_eq_false_iff_eq.mpr c3
    have c3b2 : (l0.length == l1.length) = true := by first | simpa using c3 | (simp at c3 ⊢; omega)
    clear c3
    have H' := Aside0.mk H
    clear H
    go_enter Try.func18, Try.ntmps18
    go_wp2
    repeat (go_quiet (fail); try go_wp2)
    go_loopg [5] k (fun kq v5 w' => ∃ (x5_1 : Int), v5 = .int .i64 x5_1 ∧ Aside0 (contangoref14_Same.l0 kq l0 l1 x5_1 = some r) ∧ Aside0 (kq ≤ k) ∧ Drawn0 w w')
    case atStart => exact ⟨(0), (by first | rfl | (simp; done) | (simp [*]; done)), H', ⟨Nat.le_refl _⟩, by repeat (first | exact Drawn0.refl _ | apply Drawn0.step)⟩
    case round =>
      clear H'
      try clear c1
      try clear p2
      try clear c3
      try clear c3b0
      try clear c3b1
      try clear c3b2
      obtain ⟨x5_1, rfl, HA, HK1, ⟨m1, rfl⟩⟩ := hrel
      cases gk with
      | zero => exact absurd HA.out (by simp [contangoref14_Same.l0])
      | succ k1 =>
        have H := HA.out
        clear HA
        simp only [contangoref14_Same.l0] at H
        by_cases c4 : x5_1 < (l0.length : Int)
        · rw [if_pos c4] at H
          have c4b0 : decide (x5_1 < (l0.length : Int)) = true := decide_eq_true c4
          clear c4
          by_cases c5 : 0 ≤ x5_1
          · rw [if_pos c5] at H
            have c5b0 : decide (0 ≤ x5_1) = true := decide_eq_true c5
            clear c5
            by_cases c6 : x5_1 < (l1.length : Int)
            · rw [if_pos c6] at H
              have c6b0 : decide (x5_1 < (l1.length : Int)) = true := decide_eq_true c6
              clear c6
              by_cases c7 : (!(((rd_T42 l0 x5_1).f0) == ((rd_T42 l1 x5_1).f0)) || (!(((rd_T42 l0 x5_1).f1) == ((rd_T42 l1 x5_1).f1)) || (!(((rd_T42 l0 x5_1).f2) == ((rd_T42 l1 x5_1).f2)) || ((!((((rd_T42 l0 x5_1).f3.f0).toList) == (((rd_T42 l1 x5_1).f3.f0).toList)) || (!(((rd_T42 l0 x5_1).f3.f1) == ((rd_T42 l1 x5_1).f3.f1)) || (!(((rd_T42 l0 x5_1).f3.f2) == ((rd_T42 l1 x5_1).f3.f2)) || (!(((rd_T42 l0 x5_1).f3.f3) == ((rd_T42 l1 x5_1).f3.f3)))))) || (!(((rd_T42 l0 x5_1).f4) == ((rd_T42 l1 x5_1).f4)) || (!(((rd_T42 l0 x5_1).f5) == ((rd_T42 l1 x5_1).f5)) || ((!((((rd_T42 l0 x5_1).f6.f0).toList) == (((rd_T42 l1 x5_1).f6.f0).toList)) || (!((((rd_T42 l0 x5_1).f6.f1).toList) == (((rd_T42 l1 x5_1).f6.f1).toList)))) || ((!((((rd_T42 l0 x5_1).f7.f0).toList) == (((rd_T42 l1 x5_1).f7.f0).toList)) || (!((((rd_T42 l0 x5_1).f7.f1).toList) == (((rd_T42 l1 x5_1).f7.f1).toList)))))))))))) = true
              · rw [if_pos c7] at H
                have c7b0 : (!(((rd_T42 l0 x5_1).f0) == ((rd_T42 l1 x5_1).f0)) || (!(((rd_T42 l0 x5_1).f1) == ((rd_T42 l1 x5_1).f1)) || (!(((rd_T42 l0 x5_1).f2) == ((rd_T42 l1 x5_1).f2)) || ((!((((rd_T42 l0 x5_1).f3.f0).toList) == (((rd_T42 l1 x5_1).f3.f0).toList)) || (!(((rd_T42 l0 x5_1).f3.f1) == ((rd_T42 l1 x5_1).f3.f1)) || (!(((rd_T42 l0 x5_1).f3.f2) == ((rd_T42 l1 x5_1).f3.f2)) || (!(((rd_T42 l0 x5_1).f3.f3) == ((rd_T42 l1 x5_1).f3.f3)))))) || (!(((rd_T42 l0 x5_1).f4) == ((rd_T42 l1 x5_1).f4)) || (!(((rd_T42 l0 x5_1).f5) == ((rd_T42 l1 x5_1).f5)) || ((!((((rd_T42 l0 x5_1).f6.f0).toList) == (((rd_T42 l1 x5_1).f6.f0).toList)) || (!((((rd_T42 l0 x5_1).f6.f1).toList) == (((rd_T42 l1 x5_1).f6.f1).toList)))) || ((!((((rd_T42 l0 x5_1).f7.f0).toList) == (((rd_T42 l1 x5_1).f7.f0).toList)) || (!((((rd_T42 l0 x5_1).f7.f1).toList) == (((rd_T42 l1 x5_1).f7.f1).toList)))))))))))) = true := c7
                clear c7
                obtain rfl := Option.some.inj H
                have p152 : 0 ≤ (x5_1 : Int) := of_decide_eq_true (by first | (with_reducible assumption) | assumption)
                have q152 : x5_1 < (l0.length : Int) := of_decide_eq_true (by first | (with_reducible assumption) | assumption)
                obtain ⟨ad152, e152, hx152_0, hx152_1, hx152_2, hx152_3, hx152_4, hx152_5, hx152_6, hx152_7, hx152_8, hx152_9, hx152_10, hx152_11, hx152_12⟩ := at_T42 HR0.out x5_1 p152 q152
                cases e152
                replace p152 := eq_true p152
                replace q152 := eq_true q152
                have p153 : 0 ≤ (x5_1 : Int) := of_decide_eq_true (by first | (with_reducible assumption) | assumption)
                have q153 : x5_1 < (l1.length : Int) := of_decide_eq_true (by first | (with_reducible assumption) | assumption)
                obtain ⟨ad153, e153, hx153_0, hx153_1, hx153_2, hx153_3, hx153_4, hx153_5, hx153_6, hx153_7, hx153_8, hx153_9, hx153_10, hx153_11, hx153_12⟩ := at_T42 HR1.out x5_1 p153 q153
                cases e153
                replace p153 := eq_true p153
                replace q153 := eq_true q153
                go_wp2
                repeat (go_quiet (fail); try go_wp2)
                go_ret
                exact ⟨by first | rfl | (simp; done) | (simp [*]; done), by repeat (first | exact Drawn0.refl _ | apply Drawn0.step)⟩
              · rw [if_neg c7] at H
                have c7b0 : (!(((rd_T42 l0 x5_1).f0) == ((rd_T42 l1 x5_1).f0)) || (!(((rd_T42 l0 x5_1).f1) == ((rd_T42 l1 x5_1).f1)) || (!(((rd_T42 l0 x5_1).f2) == ((rd_T42 l1 x5_1).f2)) || ((!((((rd_T42 l0 x5_1).f3.f0).toList) == (((rd_T42 l1 x5_1).f3.f0).toList)) || (!(((rd_T42 l0 x5_1).f3.f1) == ((rd_T42 l1 x5_1).f3.f1)) || (!(((rd_T42 l0 x5_1).f3.f2) == ((rd_T42 l1 x5_1).f3.f2)) || (!(((rd_T42 l0 x5_1).f3.f3) == ((rd_T42 l1 x5_1).f3.f3)))))) || (!(((rd_T42 l0 x5_1).f4) == ((rd_T42 l1 x5_1).f4)) || (!(((rd_T42 l0 x5_1).f5) == ((rd_T42 l1 x5_1).f5)) || ((!((((rd_T42 l0 x5_1).f6.f0).toList) == (((rd_T42 l1 x5_1).f6.f0).toList)) || (!((((rd_T42 l0 x5_1).f6.f1).toList) == (((rd_T42 l1 x5_1).f6.f1).toList)))) || ((!((((rd_T42 l0 x5_1).f7.f0).toList) == (((rd_T42 l1 x5_1).f7.f0).toList)) || (!((((rd_T42 l0 x5_1).f7.f1).toList) == (((rd_T42 l1 x5_1).f7.f1).toList)))))))))))) = false := by simpa using c7
                clear c7
                have H' := Aside0.mk H
                clear H
                have p152 : 0 ≤ (x5_1 : Int) := of_decide_eq_true (by first | (with_reducible assumption) | assumption)
                have q152 : x5_1 < (l0.length : Int) := of_decide_eq_true (by first | (with_reducible assumption) | assumption)
                obtain ⟨ad152, e152, hx152_0, hx152_1, hx152_2, hx152_3, hx152_4, hx152_5, hx152_6, hx152_7, hx152_8, hx152_9, hx152_10, hx152_11, hx152_12⟩ := at_T42 HR0.out x5_1 p152 q152
                cases e152
                replace p152 := eq_true p152
                replace q152 := eq_true q152
                have p153 : 0 ≤ (x5_1 : Int) := of_decide_eq_true (by first | (with_reducible assumption) | assumption)
                have q153 : x5_1 < (l1.length : Int) := of_decide_eq_true (by first | (with_reducible assumption) | assumption)
                obtain ⟨ad153, e153, hx153_0, hx153_1, hx153_2, hx153_3, hx153_4, hx153_5, hx153_6, hx153_7, hx153_8, hx153_9, hx153_10, hx153_11, hx153_12⟩ := at_T42 HR1.out x5_1 p153 q153
                cases e153
                replace p153 := eq_true p153
                replace q153 := eq_true q153
                go_wp2
                repeat (go_quiet (fail); try go_wp2)
                go_roundg k1
                case measure => have := HK1.out; omega
                case rel => exact ⟨(wrap64 (x5_1 + 1)), (by first | rfl | (simp; done) | (simp [*]; done)), H', ⟨by have := HK1.out; omega⟩, by repeat (first | exact Drawn0.refl _ | apply Drawn0.step)⟩
            · rw [if_neg c6] at H
              exact absurd H (by simp)
          · rw [if_neg c5] at H
            exact absurd H (by simp)
        · rw [if_neg c4] at H
          have c4b0 : decide (x5_1 < (l0.length : Int)) = false := decide_eq_false c4
          clear c4
          obtain rfl := Option.some.inj H
          go_wp2
          repeat (go_quiet (fail); try go_wp2)
          go_ret
          exact ⟨by first | rfl | (simp; done) | (simp [*]; done), by repeat (first | exact Drawn0.refl _ | apply Drawn0.step)⟩
  · rw [if_neg c3] at H
    have c3b0 : ((l0.length : Int) == (l1.length : Int)) = false := beq_eq_false_iff_ne.mpr c3
    have c3b1 : ((l0.length : Int) != (l1.length : Int)) = true := bne_iff_ne.mpr c3
    have c3b2 : (l0.length == l1.length) = false := by first | simpa using c3 | (simp at c3 ⊢; omega)
    obtain rfl := Option.some.inj H
    go_enter Try.func18, Try.ntmps18
    go_wp2
    repeat (go_quiet (fail); try go_wp2)
    go_ret
    exact ⟨by first | rfl | (simp; done) | (simp [*]; done), by repeat (first | exact Drawn0.refl _ | apply Drawn0.step)⟩

/-! ### contangolaw14_GiveupDivides: function 6 -/
def contangolaw14_GiveupDivides.f (k : Nat) (a0_0 : Int) (a0_1 : Int) (a0_2 : Int) (a0_3 : ByteArray) (a0_4 : Int) (a0_5 : Int) (a0_6 : Int) (a0_7 : Int) (a0_8 : Int) (a0_9 : ByteArray) (a0_10 : ByteArray) (a0_11 : ByteArray) (a0_12 : ByteArray) (l1 : List (S44)) (a2_0 : Int) (a2_1 : Int) : Option (Bool) := if (l1.length : Int) > 1100 then ((contangolaw14_goes.f k).bind fun t156 => (some t156)) else ((giveup_Divide.f a0_0 a0_1 a0_2 a0_3 a0_4 a0_5 a0_6 a0_7 a0_8 a0_9 a0_10 a0_11 a0_12 ((Int.tmod a2_0 2) == 0) l1 a2_1).bind fun bt157 => ((contangoref14_Divide.f k a0_0 a0_1 a0_2 a0_3 a0_4 a0_5 a0_6 a0_7 a0_8 a0_9 a0_10 a0_11 a0_12 ((Int.tmod a2_0 2) == 0) l1 a2_1).bind fun bt161 => ((contangoref14_Same.f k bt157.1 bt161.1).bind fun t165 => (if t165 = true then (if bt157.2 = bt161.2 then ((giveup_Check.f a0_0 a0_1 a0_2 a0_3 a0_4 a0_5 a0_6 a0_7 a0_8 a0_9 a0_10 a0_11 a0_12 l1).bind fun t166 => ((contangoref14_Check.f k a0_0 a0_1 a0_2 a0_3 a0_4 a0_5 a0_6 a0_7 a0_8 a0_9 a0_10 a0_11 a0_12 l1).bind fun t167 => (if t166 = t167 then ((contangolaw14_goes.f k).bind fun t168 => (some t168)) else (none)))) else (none)) else (none)))))
theorem contangolaw14_GiveupDivides.mono : ∀ a0 a1 a2 a3 a4 a5 a6 a7 a8 a9 a10 a11 a12 a13 a14 a15 k, LeO (contangolaw14_GiveupDivides.f k a0 a1 a2 a3 a4 a5 a6 a7 a8 a9 a10 a11 a12 a13 a14 a15) (contangolaw14_GiveupDivides.f (k + 1) a0 a1 a2 a3 a4 a5 a6 a7 a8 a9 a10 a11 a12 a13 a14 a15) := by
  intro a0 a1 a2 a3 a4 a5 a6 a7 a8 a9 a10 a11 a12 a13 a14 a15 k
  unfold contangolaw14_GiveupDivides.f
  repeat' first
      | (with_reducible exact contangolaw14_goes.mono _)
      | (with_reducible exact contangoref14_Check.mono _ _ _ _ _ _ _ _ _ _ _ _ _ _ _)
      | (with_reducible exact contangoref14_Divide.mono _ _ _ _ _ _ _ _ _ _ _ _ _ _ _ _ _)
      | (with_reducible exact contangoref14_Same.mono _ _ _)
      | (with_reducible exact LeO.refl _)
      | (with_reducible exact LeO.none _)
      | (with_reducible refine LeO.ite ?_ ?_)
      | (with_reducible refine LeO.bind ?_ (fun _ => ?_))
      | exact contangolaw14_goes.mono _
      | exact contangoref14_Check.mono _ _ _ _ _ _ _ _ _ _ _ _ _ _ _
      | exact contangoref14_Divide.mono _ _ _ _ _ _ _ _ _ _ _ _ _ _ _ _ _
      | exact contangoref14_Same.mono _ _ _
      | exact LeO.none _
      | refine LeO.ite ?_ ?_
      | refine LeO.bind ?_ (fun _ => ?_)
def contangolaw14_GiveupDivides.T6 : Bool × List (List Nat × List Nat) := (true, [([], []), ([], []), ([0, 1], [0, 1]), ([2, 2], [2]), ([3], [3]), ([3], [3]), ([4, 5, 3], [3, 4, 5]), ([3, 6], [3, 6]), ([7, 3], [7]), ([8], [8]), ([8], [8]), ([9, 10, 8, 8], [8, 9, 10]), ([8], [8]), ([8], [8]), ([12, 13, 11, 8], [8, 12, 13]), ([11, 14, 8], [8, 11, 14]), ([8, 15], [8, 15]), ([16, 14], [16]), ([17, 17], [17]), ([17, 18], [17, 18]), ([19, 18, 0, 1, 2, 3, 4, 5, 6, 7, 8, 9, 10, 11, 12, 13, 14, 15, 16, 17, 18, 19], [19])])
def contangolaw14_GiveupDivides.B6 : List Nat := [0, 0, 3, 7, 15, 15, 63, 127, 255, 511, 511, 2047, 511, 511, 16383, 32767, 65535, 131071, 262143, 524287, 1048575]
theorem contangolaw14_GiveupDivides.tab6 : rtab .any (opsOf Try.f6 6) = contangolaw14_GiveupDivides.T6 := by kernel_rfl
theorem contangolaw14_GiveupDivides.bits6 : waitsOk contangolaw14_GiveupDivides.T6.2 contangolaw14_GiveupDivides.B6 = true := by kernel_rfl
set_option maxHeartbeats 8000000 in
set_option maxRecDepth 100000 in
theorem contangolaw14_GiveupDivides.calls (k : Nat) (a0_0 : Int) (a0_1 : Int) (a0_2 : Int) (a0_3 : ByteArray) (a0_4 : Int) (a0_5 : Int) (a0_6 : Int) (a0_7 : Int) (a0_8 : Int) (a0_9 : ByteArray) (a0_10 : ByteArray) (a0_11 : ByteArray) (a0_12 : ByteArray) (A1 : Option Addr) (c1 : Nat) (l1 : List (S44)) (a2_0 : Int) (a2_1 : Int) (r : Bool) (w : World) (hr1 : Kd.C k44 w A1 l1.length l1) (hc1 : l1.length ≤ c1) (h : contangolaw14_GiveupDivides.f k a0_0 a0_1 a0_2 a0_3 a0_4 a0_5 a0_6 a0_7 a0_8 a0_9 a0_10 a0_11 a0_12 l1 a2_0 a2_1 = some r) :
    Calls Try.prog 6 #[.agg #[.int .i64 a0_0, .int .i64 a0_1, .int .i64 a0_2, .string a0_3, .int .i64 a0_4, .int .i64 a0_5, .int .i64 a0_6, .int .i64 a0_7, .int .i64 a0_8, .string a0_9, .string a0_10, .string a0_11, .string a0_12], .slice A1 l1.length c1, .agg #[.int .i64 a2_0, .int .i64 a2_1]] w fun e w' => e = .returned (.bool r) ∧ Below w.heap.size w w' := by
  have hu42 := Try.underlying42
  have hu48 := Try.underlying48
  have HR1 := Aside0.mk hr1
  have HC1 := Aside0.mk hc1
  clear hr1 hc1
  have HB := Aside0.mk (Below.refl w.heap.size w)
  have H : (if (l1.length : Int) > 1100 then ((contangolaw14_goes.f k).bind fun t156 => (some t156)) else ((giveup_Divide.f a0_0 a0_1 a0_2 a0_3 a0_4 a0_5 a0_6 a0_7 a0_8 a0_9 a0_10 a0_11 a0_12 ((Int.tmod a2_0 2) == 0) l1 a2_1).bind fun bt157 => ((contangoref14_Divide.f k a0_0 a0_1 a0_2 a0_3 a0_4 a0_5 a0_6 a0_7 a0_8 a0_9 a0_10 a0_11 a0_12 ((Int.tmod a2_0 2) == 0) l1 a2_1).bind fun bt161 => ((contangoref14_Same.f k bt157.1 bt161.1).bind fun t165 => (if t165 = true then (if bt157.2 = bt161.2 then ((giveup_Check.f a0_0 a0_1 a0_2 a0_3 a0_4 a0_5 a0_6 a0_7 a0_8 a0_9 a0_10 a0_11 a0_12 l1).bind fun t166 => ((contangoref14_Check.f k a0_0 a0_1 a0_2 a0_3 a0_4 a0_5 a0_6 a0_7 a0_8 a0_9 a0_10 a0_11 a0_12 l1).bind fun t167 => (if t166 = t167 then ((contangolaw14_goes.f k).bind fun t168 => (some t168)) else (none)))) else (none)) else (none)))))) = some r := h
  clear h
  by_cases c4 : (l1.length : Int) > 1100
  · rw [if_pos c4] at H
    have c4b0 : decide (1100 < (l1.length : Int)) = true := decide_eq_true c4
    have c4b1 : decide (1100 < l1.length) = true := decide_eq_true (by omega)
    clear c4
    replace H := Option.bind_eq_some_iff.mp H
    obtain ⟨t156, A50, H⟩ := H
    replace H : (some t156) = some r := H
    have A5 := Aside0.mk A50
    clear A50
    obtain rfl := Option.some.inj H
    go_enter Try.func6, Try.ntmps6
    go_wp2_with (first | ((with_reducible refine gate_dst (N := 3) rfl ?_); refine box_event ?hg (N := 3) ?hd (cs := #[.int .i64 a0_0, .int .i64 a0_1, .int .i64 a0_2, .string a0_3, .int .i64 a0_4, .int .i64 a0_5, .int .i64 a0_6, .int .i64 a0_7, .int .i64 a0_8, .string a0_9, .string a0_10, .string a0_11, .string a0_12]) (t := 42) ?hr ?_; (case hd => rfl); (case hg => rfl); (case hr => first | (go_simp; done) | (go_simp; rfl)); intro gb154 hg w6 hbox hb; have n0_ := Aside0.mk (below_step (by repeat (first | (with_reducible first | exact HB.out | apply below_alloc | apply pw_below_drewN | apply below_drew1) | exact HB.out)) hb); have n1_ := Aside0.mk (hbox); have n2_ := Aside0.mk ((by rw [hg]; exact (below_size (by repeat (first | (with_reducible first | exact HB.out | apply below_alloc | apply pw_below_drewN | apply below_drew1) | exact HB.out))) : w.heap.size ≤ gb154)); have n3_ := Aside0.mk ((by rw [hg]; exact (below_size (by repeat (first | (with_reducible first | exact HB.out | apply below_alloc | apply pw_below_drewN | apply below_drew1) | exact HB.out))) : w.heap.size ≤ gb154)); clear HB; have HB := n0_; have BK154 := n1_; have GW154 := n2_; have GE154 := n3_; clear n0_ n1_ n2_ n3_; clear hb hbox hg) | ((with_reducible refine gate_dst (N := 5) rfl ?_); refine box_event ?hg (N := 5) ?hd (cs := #[.int .i64 a2_0, .int .i64 a2_1]) (t := 48) ?hr ?_; (case hd => rfl); (case hg => rfl); (case hr => first | (go_simp; done) | (go_simp; rfl)); intro gb155 hg w7 hbox hb; have n0_ := Aside0.mk (blk_below (g := gb154) (o := .cells #[.int .i64 a0_0, .int .i64 a0_1, .int .i64 a0_2, .string a0_3, .int .i64 a0_4, .int .i64 a0_5, .int .i64 a0_6, .int .i64 a0_7, .int .i64 a0_8, .string a0_9, .string a0_10, .string a0_11, .string a0_12] 42 (0, 0)) (by (with_reducible repeat (first | refine blk_drewN ?_ _ | refine blk_drew ?_ | refine blk_alloc ?_ _)); exact BK154.out) hb); have n1_ := Aside0.mk (below_step (by repeat (first | (with_reducible first | exact HB.out | apply below_alloc | apply pw_below_drewN | apply below_drew1 | refine below_set ?_ GE154.out) | exact HB.out)) hb); have n2_ := Aside0.mk (hbox); have n3_ := Aside0.mk ((by rw [hg]; exact (below_size (by repeat (first | (with_reducible first | exact HB.out | apply below_alloc | apply pw_below_drewN | apply below_drew1 | refine below_set ?_ GE154.out) | exact HB.out))) : w.heap.size ≤ gb155)); have n4_ := Aside0.mk ((by rw [hg]; exact (below_size (by repeat (first | (with_reducible first | exact HB.out | apply below_alloc | apply pw_below_drewN | apply below_drew1 | refine below_set ?_ GE154.out) | exact HB.out))) : w.heap.size ≤ gb155)); have n5_ := Aside0.mk ((by rw [hg]; exact Nat.ne_of_lt (blk_lt (g := gb154) (o := .cells #[.int .i64 a0_0, .int .i64 a0_1, .int .i64 a0_2, .string a0_3, .int .i64 a0_4, .int .i64 a0_5, .int .i64 a0_6, .int .i64 a0_7, .int .i64 a0_8, .string a0_9, .string a0_10, .string a0_11, .string a0_12] 42 (0, 0)) (by (with_reducible repeat (first | refine blk_drewN ?_ _ | refine blk_drew ?_ | refine blk_alloc ?_ _)); exact BK154.out)) : gb154 ≠ gb155)); have n6_ := Aside0.mk ((by rw [hg]; exact Nat.ne_of_gt (blk_lt (g := gb154) (o := .cells #[.int .i64 a0_0, .int .i64 a0_1, .int .i64 a0_2, .string a0_3, .int .i64 a0_4, .int .i64 a0_5, .int .i64 a0_6, .int .i64 a0_7, .int .i64 a0_8, .string a0_9, .string a0_10, .string a0_11, .string a0_12] 42 (0, 0)) (by (with_reducible repeat (first | refine blk_drewN ?_ _ | refine blk_drew ?_ | refine blk_alloc ?_ _)); exact BK154.out)) : gb155 ≠ gb154)); clear BK154; clear HB; have BK154 := n0_; have HB := n1_; have BK155 := n2_; have GW155 := n3_; have GE155 := n4_; have NB154_155 := n5_; have NB155_154 := n6_; clear n0_ n1_ n2_ n3_ n4_ n5_ n6_; clear hb hbox hg) | ((with_reducible refine gate_callee (f := 8) rfl ?_); refine goesL_ (some 15) rfl rfl Try.func8 (by kernel_rfl) rfl #[] rfl (by (try simp only [List.map_toArray, List.map_cons, List.map_nil]); first | done | rfl | (simp only [List.length_drop, List.length_take]; rfl)) ?_; (with_reducible refine (contangolaw14_goes.calls k  t156 _ A5.out).mono ?_); rintro e w8 ⟨rfl, hb⟩; refine ⟨_, rfl, ?_⟩; have n0_ := Aside0.mk (blk_below (g := gb154) (o := .cells #[.int .i64 a0_0, .int .i64 a0_1, .int .i64 a0_2, .string a0_3, .int .i64 a0_4, .int .i64 a0_5, .int .i64 a0_6, .int .i64 a0_7, .int .i64 a0_8, .string a0_9, .string a0_10, .string a0_11, .string a0_12] 42 (0, 0)) (by (with_reducible repeat (first | refine blk_drewN ?_ _ | refine blk_drew ?_ | refine blk_alloc ?_ _)); exact BK154.out) hb); have n1_ := Aside0.mk (blk_below (g := gb155) (o := .cells #[.int .i64 a2_0, .int .i64 a2_1] 48 (0, 0)) (by (with_reducible repeat (first | refine blk_drewN ?_ _ | refine blk_drew ?_ | refine blk_alloc ?_ _)); exact BK155.out) hb); have n2_ := Aside0.mk (below_step (by repeat (first | (with_reducible first | exact HB.out | apply below_alloc | apply pw_below_drewN | apply below_drew1 | refine below_set ?_ GE154.out | refine below_set ?_ GE155.out) | exact HB.out)) hb); clear BK154; clear BK155; clear HB; have BK154 := n0_; have BK155 := n1_; have HB := n2_; clear n0_ n1_ n2_; (try clear hb); (try clear hb2); (try clear hk); (try clear hi)))
    go_ret
    exact ⟨by first | rfl | (simp [errW_none, errW_some] <;> rfl) | (simp [*, errW_none, errW_some] <;> rfl), by repeat (first | (with_reducible first | exact HB.out | apply below_alloc | apply pw_below_drewN | apply below_drew1 | refine below_set ?_ GE154.out | refine below_set ?_ GE155.out) | exact HB.out)⟩
  · rw [if_neg c4] at H
    have c4b0 : decide (1100 < (l1.length : Int)) = false := decide_eq_false c4
    have c4b1 : decide (1100 < l1.length) = false := decide_eq_false (by omega)
    clear c4
    replace H := Option.bind_eq_some_iff.mp H
    obtain ⟨⟨t157, t160⟩, A90, H⟩ := H
    replace H : ((contangoref14_Divide.f k a0_0 a0_1 a0_2 a0_3 a0_4 a0_5 a0_6 a0_7 a0_8 a0_9 a0_10 a0_11 a0_12 ((Int.tmod a2_0 2) == 0) l1 a2_1).bind fun bt161 => ((contangoref14_Same.f k t157 bt161.1).bind fun t165 => (if t165 = true then (if t160 = bt161.2 then ((giveup_Check.f a0_0 a0_1 a0_2 a0_3 a0_4 a0_5 a0_6 a0_7 a0_8 a0_9 a0_10 a0_11 a0_12 l1).bind fun t166 => ((contangoref14_Check.f k a0_0 a0_1 a0_2 a0_3 a0_4 a0_5 a0_6 a0_7 a0_8 a0_9 a0_10 a0_11 a0_12 l1).bind fun t167 => (if t166 = t167 then ((contangolaw14_goes.f k).bind fun t168 => (some t168)) else (none)))) else (none)) else (none)))) = some r := H
    have A9 := Aside0.mk A90
    clear A90
    replace H := Option.bind_eq_some_iff.mp H
    obtain ⟨⟨t161, t164⟩, A100, H⟩ := H
    replace H : ((contangoref14_Same.f k t157 t161).bind fun t165 => (if t165 = true then (if t160 = t164 then ((giveup_Check.f a0_0 a0_1 a0_2 a0_3 a0_4 a0_5 a0_6 a0_7 a0_8 a0_9 a0_10 a0_11 a0_12 l1).bind fun t166 => ((contangoref14_Check.f k a0_0 a0_1 a0_2 a0_3 a0_4 a0_5 a0_6 a0_7 a0_8 a0_9 a0_10 a0_11 a0_12 l1).bind fun t167 => (if t166 = t167 then ((contangolaw14_goes.f k).bind fun t168 => (some t168)) else (none)))) else (none)) else (none))) = some r := H
    have A10 := Aside0.mk A100
    clear A100
    replace H := Option.bind_eq_some_iff.mp H
    obtain ⟨t165, A110, H⟩ := H
    replace H : (if t165 = true then (if t160 = t164 then ((giveup_Check.f a0_0 a0_1 a0_2 a0_3 a0_4 a0_5 a0_6 a0_7 a0_8 a0_9 a0_10 a0_11 a0_12 l1).bind fun t166 => ((contangoref14_Check.f k a0_0 a0_1 a0_2 a0_3 a0_4 a0_5 a0_6 a0_7 a0_8 a0_9 a0_10 a0_11 a0_12 l1).bind fun t167 => (if t166 = t167 then ((contangolaw14_goes.f k).bind fun t168 => (some t168)) else (none)))) else (none)) else (none)) = some r := H
    have A11 := Aside0.mk A110
    clear A110
    by_cases c12 : t165 = true
    · subst c12
      have H1 : (if t160 = t164 then ((giveup_Check.f a0_0 a0_1 a0_2 a0_3 a0_4 a0_5 a0_6 a0_7 a0_8 a0_9 a0_10 a0_11 a0_12 l1).bind fun t166 => ((contangoref14_Check.f k a0_0 a0_1 a0_2 a0_3 a0_4 a0_5 a0_6 a0_7 a0_8 a0_9 a0_10 a0_11 a0_12 l1).bind fun t167 => (if t166 = t167 then ((contangolaw14_goes.f k).bind fun t168 => (some t168)) else (none)))) else (none)) = some r := by rw [if_pos rfl] at H; exact H
      clear H
      have H := H1
      clear H1
      by_cases c13 : t160 = t164
      · rw [if_pos c13] at H
        have c13b0 : (t160 == t164) = true := beq_iff_eq.mpr c13
        have c13b1 : (t160 != t164) = false := bne_eq_false_iff_eq.mpr c13
        clear c13
        replace H := Option.bind_eq_some_iff.mp H
        obtain ⟨t166, A140, H⟩ := H
        replace H : ((contangoref14_Check.f k a0_0 a0_1 a0_2 a0_3 a0_4 a0_5 a0_6 a0_7 a0_8 a0_9 a0_10 a0_11 a0_12 l1).bind fun t167 => (if t166 = t167 then ((contangolaw14_goes.f k).bind fun t168 => (some t168)) else (none))) = some r := H
        have A14 := Aside0.mk A140
        clear A140
        replace H := Option.bind_eq_some_iff.mp H
        obtain ⟨t167, A150, H⟩ := H
        replace H : (if t166 = t167 then ((contangolaw14_goes.f k).bind fun t168 => (some t168)) else (none)) = some r := H
        have A15 := Aside0.mk A150
        clear A150
        by_cases c16 : t166 = t167
        · rw [if_pos c16] at H
          have c16b0 : (t166 == t167) = true := beq_iff_eq.mpr c16
          have c16b1 : (t166 != t167) = false := bne_eq_false_iff_eq.mpr c16
          clear c16
          replace H := Option.bind_eq_some_iff.mp H
          obtain ⟨t168, A170, H⟩ := H
          replace H : (some t168) = some r := H
          have A17 := Aside0.mk A170
          clear A170
          obtain rfl := Option.some.inj H
          go_enter Try.func6, Try.ntmps6
          try go_wp2_with (first | ((with_reducible refine gate_dst (N := 3) rfl ?_); refine box_event ?hg (N := 3) ?hd (cs := #[.int .i64 a0_0, .int .i64 a0_1, .int .i64 a0_2, .string a0_3, .int .i64 a0_4, .int .i64 a0_5, .int .i64 a0_6, .int .i64 a0_7, .int .i64 a0_8, .string a0_9, .string a0_10, .string a0_11, .string a0_12]) (t := 42) ?hr ?_; (case hd => rfl); (case hg => rfl); (case hr => first | (go_simp; done) | (go_simp; rfl)); intro gb154 hg w18 hbox hb; have n0_ := Aside0.mk (below_step (by repeat (first | (with_reducible first | exact HB.out | apply below_alloc | apply pw_below_drewN | apply below_drew1) | exact HB.out)) hb); have n1_ := Aside0.mk (hbox); have n2_ := Aside0.mk ((by rw [hg]; exact (below_size (by repeat (first | (with_reducible first | exact HB.out | apply below_alloc | apply pw_below_drewN | apply below_drew1) | exact HB.out))) : w.heap.size ≤ gb154)); have n3_ := Aside0.mk ((by rw [hg]; exact (below_size (by repeat (first | (with_reducible first | exact HB.out | apply below_alloc | apply pw_below_drewN | apply below_drew1) | exact HB.out))) : w.heap.size ≤ gb154)); clear HB; have HB := n0_; have BK154 := n1_; have GW154 := n2_; have GE154 := n3_; clear n0_ n1_ n2_ n3_; clear hb hbox hg) | ((with_reducible refine gate_dst (N := 5) rfl ?_); refine box_event ?hg (N := 5) ?hd (cs := #[.int .i64 a2_0, .int .i64 a2_1]) (t := 48) ?hr ?_; (case hd => rfl); (case hg => rfl); (case hr => first | (go_simp; done) | (go_simp; rfl)); intro gb155 hg w19 hbox hb; have n0_ := Aside0.mk (blk_below (g := gb154) (o := .cells #[.int .i64 a0_0, .int .i64 a0_1, .int .i64 a0_2, .string a0_3, .int .i64 a0_4, .int .i64 a0_5, .int .i64 a0_6, .int .i64 a0_7, .int .i64 a0_8, .string a0_9, .string a0_10, .string a0_11, .string a0_12] 42 (0, 0)) (by (with_reducible repeat (first | refine blk_drewN ?_ _ | refine blk_drew ?_ | refine blk_alloc ?_ _)); exact BK154.out) hb); have n1_ := Aside0.mk (below_step (by repeat (first | (with_reducible first | exact HB.out | apply below_alloc | apply pw_below_drewN | apply below_drew1 | refine below_set ?_ GE154.out) | exact HB.out)) hb); have n2_ := Aside0.mk (hbox); have n3_ := Aside0.mk ((by rw [hg]; exact (below_size (by repeat (first | (with_reducible first | exact HB.out | apply below_alloc | apply pw_below_drewN | apply below_drew1 | refine below_set ?_ GE154.out) | exact HB.out))) : w.heap.size ≤ gb155)); have n4_ := Aside0.mk ((by rw [hg]; exact (below_size (by repeat (first | (with_reducible first | exact HB.out | apply below_alloc | apply pw_below_drewN | apply below_drew1 | refine below_set ?_ GE154.out) | exact HB.out))) : w.heap.size ≤ gb155)); have n5_ := Aside0.mk ((by rw [hg]; exact Nat.ne_of_lt (blk_lt (g := gb154) (o := .cells #[.int .i64 a0_0, .int .i64 a0_1, .int .i64 a0_2, .string a0_3, .int .i64 a0_4, .int .i64 a0_5, .int .i64 a0_6, .int .i64 a0_7, .int .i64 a0_8, .string a0_9, .string a0_10, .string a0_11, .string a0_12] 42 (0, 0)) (by (with_reducible repeat (first | refine blk_drewN ?_ _ | refine blk_drew ?_ | refine blk_alloc ?_ _)); exact BK154.out)) : gb154 ≠ gb155)); have n6_ := Aside0.mk ((by rw [hg]; exact Nat.ne_of_gt (blk_lt (g := gb154) (o := .cells #[.int .i64 a0_0, .int .i64 a0_1, .int .i64 a0_2, .string a0_3, .int .i64 a0_4, .int .i64 a0_5, .int .i64 a0_6, .int .i64 a0_7, .int .i64 a0_8, .string a0_9, .string a0_10, .string a0_11, .string a0_12] 42 (0, 0)) (by (with_reducible repeat (first | refine blk_drewN ?_ _ | refine blk_drew ?_ | refine blk_alloc ?_ _)); exact BK154.out)) : gb155 ≠ gb154)); clear BK154; clear HB; have BK154 := n0_; have HB := n1_; have BK155 := n2_; have GW155 := n3_; have GE155 := n4_; have NB154_155 := n5_; have NB155_154 := n6_; clear n0_ n1_ n2_ n3_ n4_ n5_ n6_; clear hb hbox hg; have hnb20 := NB155_154.out; have hnc20 := NB154_155.out; have hcz21_0 : w19.cell? ⟨gb155, 0, none⟩ = some (.int .i64 a2_0) := (blk_cell BK155.out 0).trans rfl; have hcz21_1 : w19.cell? ⟨gb155, 1, none⟩ = some (.int .i64 a2_1) := (blk_cell BK155.out 1).trans rfl; have hfz21_0 := blk_frozen BK155.out 0; have hfz21_1 := blk_frozen BK155.out 1; have hcz22_0 : w19.cell? ⟨gb154, 0, none⟩ = some (.int .i64 a0_0) := (blk_cell BK154.out 0).trans rfl; have hcz22_1 : w19.cell? ⟨gb154, 1, none⟩ = some (.int .i64 a0_1) := (blk_cell BK154.out 1).trans rfl; have hcz22_2 : w19.cell? ⟨gb154, 2, none⟩ = some (.int .i64 a0_2) := (blk_cell BK154.out 2).trans rfl; have hcz22_3 : w19.cell? ⟨gb154, 3, none⟩ = some (.string a0_3) := (blk_cell BK154.out 3).trans rfl; have hcz22_4 : w19.cell? ⟨gb154, 4, none⟩ = some (.int .i64 a0_4) := (blk_cell BK154.out 4).trans rfl; have hcz22_5 : w19.cell? ⟨gb154, 5, none⟩ = some (.int .i64 a0_5) := (blk_cell BK154.out 5).trans rfl; have hcz22_6 : w19.cell? ⟨gb154, 6, none⟩ = some (.int .i64 a0_6) := (blk_cell BK154.out 6).trans rfl; have hcz22_7 : w19.cell? ⟨gb154, 7, none⟩ = some (.int .i64 a0_7) := (blk_cell BK154.out 7).trans rfl; have hcz22_8 : w19.cell? ⟨gb154, 8, none⟩ = some (.int .i64 a0_8) := (blk_cell BK154.out 8).trans rfl; have hcz22_9 : w19.cell? ⟨gb154, 9, none⟩ = some (.string a0_9) := (blk_cell BK154.out 9).trans rfl; have hcz22_10 : w19.cell? ⟨gb154, 10, none⟩ = some (.string a0_10) := (blk_cell BK154.out 10).trans rfl; have hcz22_11 : w19.cell? ⟨gb154, 11, none⟩ = some (.string a0_11) := (blk_cell BK154.out 11).trans rfl; have hcz22_12 : w19.cell? ⟨gb154, 12, none⟩ = some (.string a0_12) := (blk_cell BK154.out 12).trans rfl; have hfz22_0 := blk_frozen BK154.out 0; have hfz22_1 := blk_frozen BK154.out 1; have hfz22_2 := blk_frozen BK154.out 2; have hfz22_3 := blk_frozen BK154.out 3; have hfz22_4 := blk_frozen BK154.out 4; have hfz22_5 := blk_frozen BK154.out 5; have hfz22_6 := blk_frozen BK154.out 6; have hfz22_7 := blk_frozen BK154.out 7; have hfz22_8 := blk_frozen BK154.out 8; have hfz22_9 := blk_frozen BK154.out 9; have hfz22_10 := blk_frozen BK154.out 10; have hfz22_11 := blk_frozen BK154.out 11; have hfz22_12 := blk_frozen BK154.out 12) | ((with_reducible refine gate_callee (f := 16) rfl ?_); refine goesL_ (some 26) rfl rfl Try.func16 (by kernel_rfl) rfl #[.agg #[.int .i64 a0_0, .int .i64 a0_1, .int .i64 a0_2, .string a0_3, .int .i64 a0_4, .int .i64 a0_5, .int .i64 a0_6, .int .i64 a0_7, .int .i64 a0_8, .string a0_9, .string a0_10, .string a0_11, .string a0_12], .bool ((Int.tmod a2_0 2) == 0), .slice A1 l1.length c1, .int .i64 a2_1] rfl (by (try simp only [List.map_toArray, List.map_cons, List.map_nil]); first | done | rfl | (simp only [List.length_drop, List.length_take]; rfl)) ?_; (with_reducible refine (giveup_Divide.calls a0_0 a0_1 a0_2 a0_3 a0_4 a0_5 a0_6 a0_7 a0_8 a0_9 a0_10 a0_11 a0_12 ((Int.tmod a2_0 2) == 0) _ _ l1 a2_1 t157 t160 _ ?side1 ?side2 A9.out).mono ?_); (case side1 => repeat (first | exact (Kd.C_below HR1.out HB.out) | (with_reducible refine Kd.C_alloc ?_ _) | (with_reducible refine Kd.C_drewN ?_ _) | (with_reducible refine Kd.C_drew ?_))); (case side2 => exact HC1.out); rintro e w23 ⟨v158, rfl, ho0, hb⟩; refine ⟨_, rfl, ?_⟩; have n0_ := Aside0.mk (Kd.R_lower (Kd.R_newB ho0 (g := gb154) (o := .cells #[.int .i64 a0_0, .int .i64 a0_1, .int .i64 a0_2, .string a0_3, .int .i64 a0_4, .int .i64 a0_5, .int .i64 a0_6, .int .i64 a0_7, .int .i64 a0_8, .string a0_9, .string a0_10, .string a0_11, .string a0_12] 42 (0, 0)) (by (with_reducible repeat (first | refine blk_drewN ?_ _ | refine blk_drew ?_ | refine blk_alloc ?_ _)); exact BK154.out)) (below_size (by repeat (first | (with_reducible first | exact HB.out | apply below_alloc | apply pw_below_drewN | apply below_drew1 | refine below_set ?_ GE154.out | refine below_set ?_ GE155.out) | exact HB.out)))); have n1_ := Aside0.mk (blk_below (g := gb154) (o := .cells #[.int .i64 a0_0, .int .i64 a0_1, .int .i64 a0_2, .string a0_3, .int .i64 a0_4, .int .i64 a0_5, .int .i64 a0_6, .int .i64 a0_7, .int .i64 a0_8, .string a0_9, .string a0_10, .string a0_11, .string a0_12] 42 (0, 0)) (by (with_reducible repeat (first | refine blk_drewN ?_ _ | refine blk_drew ?_ | refine blk_alloc ?_ _)); exact BK154.out) hb); have n2_ := Aside0.mk (blk_below (g := gb155) (o := .cells #[.int .i64 a2_0, .int .i64 a2_1] 48 (0, 0)) (by (with_reducible repeat (first | refine blk_drewN ?_ _ | refine blk_drew ?_ | refine blk_alloc ?_ _)); exact BK155.out) hb); have n3_ := Aside0.mk (below_step (by repeat (first | (with_reducible first | exact HB.out | apply below_alloc | apply pw_below_drewN | apply below_drew1 | refine below_set ?_ GE154.out | refine below_set ?_ GE155.out) | exact HB.out)) hb); clear BK154; clear BK155; clear HB; have HO159 := n0_; have BK154 := n1_; have BK155 := n2_; have HB := n3_; clear n0_ n1_ n2_ n3_; (try clear hb); (try clear hb2); (try clear hk); (try clear hi); (try clear ho0); have hcz24_0 : w23.cell? ⟨gb154, 0, none⟩ = some (.int .i64 a0_0) := (blk_cell BK154.out 0).trans rfl; have hcz24_1 : w23.cell? ⟨gb154, 1, none⟩ = some (.int .i64 a0_1) := (blk_cell BK154.out 1).trans rfl; have hcz24_2 : w23.cell? ⟨gb154, 2, none⟩ = some (.int .i64 a0_2) := (blk_cell BK154.out 2).trans rfl; have hcz24_3 : w23.cell? ⟨gb154, 3, none⟩ = some (.string a0_3) := (blk_cell BK154.out 3).trans rfl; have hcz24_4 : w23.cell? ⟨gb154, 4, none⟩ = some (.int .i64 a0_4) := (blk_cell BK154.out 4).trans rfl; have hcz24_5 : w23.cell? ⟨gb154, 5, none⟩ = some (.int .i64 a0_5) := (blk_cell BK154.out 5).trans rfl; have hcz24_6 : w23.cell? ⟨gb154, 6, none⟩ = some (.int .i64 a0_6) := (blk_cell BK154.out 6).trans rfl; have hcz24_7 : w23.cell? ⟨gb154, 7, none⟩ = some (.int .i64 a0_7) := (blk_cell BK154.out 7).trans rfl; have hcz24_8 : w23.cell? ⟨gb154, 8, none⟩ = some (.int .i64 a0_8) := (blk_cell BK154.out 8).trans rfl; have hcz24_9 : w23.cell? ⟨gb154, 9, none⟩ = some (.string a0_9) := (blk_cell BK154.out 9).trans rfl; have hcz24_10 : w23.cell? ⟨gb154, 10, none⟩ = some (.string a0_10) := (blk_cell BK154.out 10).trans rfl; have hcz24_11 : w23.cell? ⟨gb154, 11, none⟩ = some (.string a0_11) := (blk_cell BK154.out 11).trans rfl; have hcz24_12 : w23.cell? ⟨gb154, 12, none⟩ = some (.string a0_12) := (blk_cell BK154.out 12).trans rfl; have hfz24_0 := blk_frozen BK154.out 0; have hfz24_1 := blk_frozen BK154.out 1; have hfz24_2 := blk_frozen BK154.out 2; have hfz24_3 := blk_frozen BK154.out 3; have hfz24_4 := blk_frozen BK154.out 4; have hfz24_5 := blk_frozen BK154.out 5; have hfz24_6 := blk_frozen BK154.out 6; have hfz24_7 := blk_frozen BK154.out 7; have hfz24_8 := blk_frozen BK154.out 8; have hfz24_9 := blk_frozen BK154.out 9; have hfz24_10 := blk_frozen BK154.out 10; have hfz24_11 := blk_frozen BK154.out 11; have hfz24_12 := blk_frozen BK154.out 12; have hcz25_0 : w23.cell? ⟨gb155, 0, none⟩ = some (.int .i64 a2_0) := (blk_cell BK155.out 0).trans rfl; have hcz25_1 : w23.cell? ⟨gb155, 1, none⟩ = some (.int .i64 a2_1) := (blk_cell BK155.out 1).trans rfl; have hfz25_0 := blk_frozen BK155.out 0; have hfz25_1 := blk_frozen BK155.out 1) | ((with_reducible refine gate_callee (f := 17) rfl ?_); refine goesL_ (some 35) rfl rfl Try.func17 (by kernel_rfl) rfl #[.agg #[.int .i64 a0_0, .int .i64 a0_1, .int .i64 a0_2, .string a0_3, .int .i64 a0_4, .int .i64 a0_5, .int .i64 a0_6, .int .i64 a0_7, .int .i64 a0_8, .string a0_9, .string a0_10, .string a0_11, .string a0_12], .bool ((Int.tmod a2_0 2) == 0), .slice A1 l1.length c1, .int .i64 a2_1] rfl (by (try simp only [List.map_toArray, List.map_cons, List.map_nil]); first | done | rfl | (simp only [List.length_drop, List.length_take]; rfl)) ?_; (with_reducible refine (contangoref14_Divide.calls k a0_0 a0_1 a0_2 a0_3 a0_4 a0_5 a0_6 a0_7 a0_8 a0_9 a0_10 a0_11 a0_12 ((Int.tmod a2_0 2) == 0) _ _ l1 a2_1 t161 t164 _ ?side1 ?side2 A10.out).mono ?_); (case side1 => repeat (first | exact (Kd.C_below HR1.out HB.out) | (with_reducible refine Kd.C_alloc ?_ _) | (with_reducible refine Kd.C_drewN ?_ _) | (with_reducible refine Kd.C_drew ?_))); (case side2 => exact HC1.out); rintro e w26 ⟨v162, rfl, ho0, hb⟩; refine ⟨_, rfl, ?_⟩; have n0_ := Aside0.mk (Kd.R_elder' (by (with_reducible repeat (first | apply Kd.R_alloc | apply Kd.R_drewN | apply Kd.R_drew)); exact HO159.out) (Kd.R_base ho0) hb); have n1_ := Aside0.mk (Kd.R_lower (Kd.R_newB (Kd.R_new' ho0 (Kd.R_lt (by (with_reducible repeat (first | apply Kd.R_alloc | apply Kd.R_drewN | apply Kd.R_drew)); exact HO159.out))) (g := gb154) (o := .cells #[.int .i64 a0_0, .int .i64 a0_1, .int .i64 a0_2, .string a0_3, .int .i64 a0_4, .int .i64 a0_5, .int .i64 a0_6, .int .i64 a0_7, .int .i64 a0_8, .string a0_9, .string a0_10, .string a0_11, .string a0_12] 42 (0, 0)) (by (with_reducible repeat (first | refine blk_drewN ?_ _ | refine blk_drew ?_ | refine blk_alloc ?_ _)); exact BK154.out)) (below_size (by repeat (first | (with_reducible first | exact HB.out | apply below_alloc | apply pw_below_drewN | apply below_drew1 | refine below_set ?_ GE154.out | refine below_set ?_ GE155.out) | exact HB.out)))); have n2_ := Aside0.mk (blk_below (g := gb154) (o := .cells #[.int .i64 a0_0, .int .i64 a0_1, .int .i64 a0_2, .string a0_3, .int .i64 a0_4, .int .i64 a0_5, .int .i64 a0_6, .int .i64 a0_7, .int .i64 a0_8, .string a0_9, .string a0_10, .string a0_11, .string a0_12] 42 (0, 0)) (by (with_reducible repeat (first | refine blk_drewN ?_ _ | refine blk_drew ?_ | refine blk_alloc ?_ _)); exact BK154.out) hb); have n3_ := Aside0.mk (blk_below (g := gb155) (o := .cells #[.int .i64 a2_0, .int .i64 a2_1] 48 (0, 0)) (by (with_reducible repeat (first | refine blk_drewN ?_ _ | refine blk_drew ?_ | refine blk_alloc ?_ _)); exact BK155.out) hb); have n4_ := Aside0.mk (below_step (by repeat (first | (with_reducible first | exact HB.out | apply below_alloc | apply pw_below_drewN | apply below_drew1 | refine below_set ?_ GE154.out | refine below_set ?_ GE155.out) | exact HB.out)) hb); clear HO159; clear BK154; clear BK155; clear HB; have HO159 := n0_; have HO163 := n1_; have BK154 := n2_; have BK155 := n3_; have HB := n4_; clear n0_ n1_ n2_ n3_ n4_; (try clear hb); (try clear hb2); (try clear hk); (try clear hi); (try clear ho0)))
          have n0_ := Aside0.mk (Kd.R_drew HO159.out)
          have n1_ := Aside0.mk (Kd.R_drew HO163.out)
          have n2_ := Aside0.mk (blk_drew BK154.out)
          have n3_ := Aside0.mk (blk_drew BK155.out)
          have n4_ := Aside0.mk (below_drew1 HB.out)
          clear HO159
          clear HO163
          clear BK154
          clear BK155
          clear HB
          have HO159 := n0_
          have HO163 := n1_
          have BK154 := n2_
          have BK155 := n3_
          have HB := n4_
          clear n0_ n1_ n2_ n3_ n4_
          obtain ⟨Ao28, co28, eo28⟩ := Kd.R_slice HO159.out
          (first | subst eo28 | (injection eo28 with f1_ f2_ f3_; have f4_ := f1_.symm; have f5_ := f3_.symm; clear f1_ f2_ f3_; subst f4_; subst f5_))
          obtain ⟨Ao29, co29, eo29⟩ := Kd.R_slice HO163.out
          (first | subst eo29 | (injection eo29 with f1_ f2_ f3_; have f4_ := f1_.symm; have f5_ := f3_.symm; clear f1_ f2_ f3_; subst f4_; subst f5_))
          refine start_ (n := 21) (S := fun w' => w'.cell? ⟨gb154, 0, none⟩ = some (.int .i64 a0_0) ∧ w'.cell? ⟨gb154, 1, none⟩ = some (.int .i64 a0_1) ∧ w'.cell? ⟨gb154, 2, none⟩ = some (.int .i64 a0_2) ∧ w'.cell? ⟨gb154, 3, none⟩ = some (.string a0_3) ∧ w'.cell? ⟨gb154, 4, none⟩ = some (.int .i64 a0_4) ∧ w'.cell? ⟨gb154, 5, none⟩ = some (.int .i64 a0_5) ∧ w'.cell? ⟨gb154, 6, none⟩ = some (.int .i64 a0_6) ∧ w'.cell? ⟨gb154, 7, none⟩ = some (.int .i64 a0_7) ∧ w'.cell? ⟨gb154, 8, none⟩ = some (.int .i64 a0_8) ∧ w'.cell? ⟨gb154, 9, none⟩ = some (.string a0_9) ∧ w'.cell? ⟨gb154, 10, none⟩ = some (.string a0_10) ∧ w'.cell? ⟨gb154, 11, none⟩ = some (.string a0_11) ∧ w'.cell? ⟨gb154, 12, none⟩ = some (.string a0_12)) (ds := []) #[false, false, false, false, false, false, false, false, false, false, false, false, false, false, false, false, false, false, false, false, false] (by kernel_rfl) rfl rfl ⟨(blk_cell BK154.out 0).trans rfl, (blk_cell BK154.out 1).trans rfl, (blk_cell BK154.out 2).trans rfl, (blk_cell BK154.out 3).trans rfl, (blk_cell BK154.out 4).trans rfl, (blk_cell BK154.out 5).trans rfl, (blk_cell BK154.out 6).trans rfl, (blk_cell BK154.out 7).trans rfl, (blk_cell BK154.out 8).trans rfl, (blk_cell BK154.out 9).trans rfl, (blk_cell BK154.out 10).trans rfl, (blk_cell BK154.out 11).trans rfl, (blk_cell BK154.out 12).trans rfl⟩ (fun hHeld => ?_); refine with_tabW contangolaw14_GiveupDivides.tab6 contangolaw14_GiveupDivides.bits6 (fun HT_ HW_ => ?_)
          generalize w26.drew = w27 at HO159 HO163 BK154 BK155 HB hHeld ⊢
          refine pure_ (i := 0) (N := some 38) (v := ?_) (a' := ?_) #[true, false, false, false, false, false, false, false, false, false, false, false, false, false, false, false, false, false, false, false, false] rfl rfl (any_of HT_.out (by kernel_rfl)) (fun _ _ _ h => h) (Or.inl ⟨by rfl, ?_⟩) ?_ ?_
          rotate_left
          · intro w'
            go_simp
            with_reducible rfl
          rotate_left
          · simp only [Act.put, List.setIfInBounds_toArray, List.set_cons_zero, List.set_cons_succ, i64_w, i32_w]
            rfl
          refine pure_ (i := 1) (N := some 39) (v := ?_) (a' := ?_) #[true, true, false, false, false, false, false, false, false, false, false, false, false, false, false, false, false, false, false, false, false] rfl rfl (any_of HT_.out (by kernel_rfl)) (fun _ _ _ h => h) (Or.inl ⟨by rfl, ?_⟩) ?_ ?_
          rotate_left
          · intro w'
            go_simp
            with_reducible rfl
          rotate_left
          · simp only [Act.put, List.setIfInBounds_toArray, List.set_cons_zero, List.set_cons_succ, i64_w, i32_w]
            rfl
          refine one_ (i := 2) (N := some 40) #[true, true, true, false, false, false, false, false, false, false, false, false, false, false, false, false, false, false, false, false, false] rfl rfl (one_of HT_.out (by kernel_rfl)) (by decide) (fun K hK => ?_)
          refine goes_ Try.func18 (by kernel_rfl) rfl #[.slice Ao28 t157.length co28, .slice Ao29 t161.length co29] (by rfl) rfl rfl (by (try simp only [List.map_toArray, List.map_cons, List.map_nil]); first | done | rfl | (simp only [List.length_drop, List.length_take]; rfl)) ?_
          with_reducible refine (contangoref14_Same.calls k _ _ t157 _ _ t161 true _ ?side1 ?side2 ?side3 ?side4 A11.out).mono ?_
          (case side1 => repeat (first | exact (Kd.R_reads' HO159.out).2.2 | (with_reducible refine Kd.C_alloc ?_ _) | (with_reducible refine Kd.C_drewN ?_ _) | (with_reducible refine Kd.C_drew ?_)))
          (case side2 => exact (Kd.R_reads' HO159.out).2.1)
          (case side3 => repeat (first | exact (Kd.R_reads' HO163.out).2.2 | (with_reducible refine Kd.C_alloc ?_ _) | (with_reducible refine Kd.C_drewN ?_ _) | (with_reducible refine Kd.C_drew ?_)))
          (case side4 => exact (Kd.R_reads' HO163.out).2.1)
          rintro e w' ⟨rfl, ⟨nd, rfl⟩⟩
          refine ⟨_, rfl, ?_⟩
          refine hK.out _ _ ⟨(blk_cell BK154.out 0).trans rfl, (blk_cell BK154.out 1).trans rfl, (blk_cell BK154.out 2).trans rfl, (blk_cell BK154.out 3).trans rfl, (blk_cell BK154.out 4).trans rfl, (blk_cell BK154.out 5).trans rfl, (blk_cell BK154.out 6).trans rfl, (blk_cell BK154.out 7).trans rfl, (blk_cell BK154.out 8).trans rfl, (blk_cell BK154.out 9).trans rfl, (blk_cell BK154.out 10).trans rfl, (blk_cell BK154.out 11).trans rfl, (blk_cell BK154.out 12).trans rfl⟩ (fun hHeld => ?_)
          clear hK K
          refine norm_ (a' := ?_) ?_ ?_
          rotate_left
          · show Act.put _ (some 40) _ = _
            simp only [Act.put, List.setIfInBounds_toArray, List.set_cons_zero, List.set_cons_succ, i64_w, i32_w]
            rfl
          refine pure_ (i := 3) (N := some 41) (v := ?_) (a' := ?_) #[true, true, true, true, false, false, false, false, false, false, false, false, false, false, false, false, false, false, false, false, false] rfl rfl (any_of HT_.out (by kernel_rfl)) (fun _ _ _ h => h) (Or.inl ⟨by rfl, ?_⟩) ?_ ?_
          rotate_left
          · intro w'
            go_simp
            with_reducible rfl
          rotate_left
          · simp only [Act.put, List.setIfInBounds_toArray, List.set_cons_zero, List.set_cons_succ, i64_w, i32_w]
            rfl
          refine pure_ (i := 4) (N := some 42) (v := ?_) (a' := ?_) #[true, true, true, true, true, false, false, false, false, false, false, false, false, false, false, false, false, false, false, false, false] rfl rfl (any_of HT_.out (by kernel_rfl)) (fun _ _ _ h => h) (Or.inl ⟨by rfl, ?_⟩) ?_ ?_
          rotate_left
          · intro w'
            go_simp
            with_reducible rfl
          rotate_left
          · simp only [Act.put, List.setIfInBounds_toArray, List.set_cons_zero, List.set_cons_succ, i64_w, i32_w]
            rfl
          refine pure_ (i := 5) (N := some 43) (v := ?_) (a' := ?_) #[true, true, true, true, true, true, false, false, false, false, false, false, false, false, false, false, false, false, false, false, false] rfl rfl (any_of HT_.out (by kernel_rfl)) (fun _ _ _ h => h) (Or.inl ⟨by rfl, ?_⟩) ?_ ?_
          rotate_left
          · intro w'
            go_simp
            with_reducible rfl
          rotate_left
          · simp only [Act.put, List.setIfInBounds_toArray, List.set_cons_zero, List.set_cons_succ, i64_w, i32_w]
            rfl
          refine pure_ (i := 6) (N := some 44) (v := ?_) (a' := ?_) #[true, true, true, true, true, true, true, false, false, false, false, false, false, false, false, false, false, false, false, false, false] rfl rfl (any_of HT_.out (by kernel_rfl)) (fun _ _ _ h => h) (Or.inl ⟨by rfl, ?_⟩) ?_ ?_
          rotate_left
          · intro w'
            go_simp
            with_reducible rfl
          rotate_left
          · simp only [Act.put, List.setIfInBounds_toArray, List.set_cons_zero, List.set_cons_succ, i64_w, i32_w]
            rfl
          refine pure_ (i := 7) (N := some 45) (v := ?_) (a' := ?_) #[true, true, true, true, true, true, true, true, false, false, false, false, false, false, false, false, false, false, false, false, false] rfl rfl (any_of HT_.out (by kernel_rfl)) (fun _ _ _ h => h) (Or.inl ⟨by rfl, ?_⟩) ?_ ?_
          rotate_left
          · intro w'
            go_simp
            with_reducible rfl
          rotate_left
          · simp only [Act.put, List.setIfInBounds_toArray, List.set_cons_zero, List.set_cons_succ, i64_w, i32_w]
            rfl
          refine pure_ (i := 8) (N := some 46) (v := ?_) (a' := ?_) #[true, true, true, true, true, true, true, true, true, false, false, false, false, false, false, false, false, false, false, false, false] rfl rfl (any_of HT_.out (by kernel_rfl)) (fun _ _ _ h => h) (Or.inl ⟨by rfl, ?_⟩) ?_ ?_
          rotate_left
          · intro w'
            go_simp
            with_reducible rfl
          rotate_left
          · simp only [Act.put, List.setIfInBounds_toArray, List.set_cons_zero, List.set_cons_succ, i64_w, i32_w]
            rfl
          refine pure_ (i := 10) (N := some 48) (v := ?_) (a' := ?_) #[true, true, true, true, true, true, true, true, true, false, true, false, false, false, false, false, false, false, false, false, false] rfl rfl (any_of HT_.out (by kernel_rfl)) (fun _ _ _ h => h) (Or.inl ⟨by rfl, ?_⟩) ?_ ?_
          rotate_left
          · intro w'
            go_simp
            with_reducible rfl
          rotate_left
          · simp only [Act.put, List.setIfInBounds_toArray, List.set_cons_zero, List.set_cons_succ, i64_w, i32_w]
            rfl
          refine pure_ (i := 13) (N := some 51) (v := ?_) (a' := ?_) #[true, true, true, true, true, true, true, true, true, false, true, false, false, true, false, false, false, false, false, false, false] rfl rfl (any_of HT_.out (by kernel_rfl)) (fun _ _ _ h => h) (Or.inl ⟨by rfl, ?_⟩) ?_ ?_
          rotate_left
          · intro w'
            go_simp
            with_reducible rfl
          rotate_left
          · simp only [Act.put, List.setIfInBounds_toArray, List.set_cons_zero, List.set_cons_succ, i64_w, i32_w]
            rfl
          refine take_ (i := 9) (N := some 47) (v := ?_) (a' := ?_) #[true, true, true, true, true, true, true, true, true, true, true, false, false, true, false, false, false, false, false, false, false] rfl rfl (take_ofW HT_.out HW_.out (by kernel_rfl)) (fun _ _ _ h => h) (Or.inl ⟨by rfl, ?_⟩) hHeld ?_ ?_
          rotate_left
          · rintro w' ⟨s0, s1, s2, s3, s4, s5, s6, s7, s8, s9, s10, s11, s12⟩
            go_simp
            with_reducible rfl
          rotate_left
          · simp only [Act.put, List.setIfInBounds_toArray, List.set_cons_zero, List.set_cons_succ, i64_w, i32_w]
            rfl
          refine take_ (i := 12) (N := some 50) (v := ?_) (a' := ?_) #[true, true, true, true, true, true, true, true, true, true, true, false, true, true, false, false, false, false, false, false, false] rfl rfl (take_ofW HT_.out HW_.out (by kernel_rfl)) (fun _ _ _ h => h) (Or.inl ⟨by rfl, ?_⟩) hHeld ?_ ?_
          rotate_left
          · rintro w' ⟨s0, s1, s2, s3, s4, s5, s6, s7, s8, s9, s10, s11, s12⟩
            go_simp
            with_reducible rfl
          rotate_left
          · simp only [Act.put, List.setIfInBounds_toArray, List.set_cons_zero, List.set_cons_succ, i64_w, i32_w]
            rfl
          refine one_ (i := 11) (N := some 49) #[true, true, true, true, true, true, true, true, true, true, true, true, true, true, false, false, false, false, false, false, false] rfl rfl (one_of HT_.out (by kernel_rfl)) (by decide) (fun K hK => ?_)
          refine goes_ Try.func19 (by kernel_rfl) rfl #[.agg #[.int .i64 a0_0, .int .i64 a0_1, .int .i64 a0_2, .string a0_3, .int .i64 a0_4, .int .i64 a0_5, .int .i64 a0_6, .int .i64 a0_7, .int .i64 a0_8, .string a0_9, .string a0_10, .string a0_11, .string a0_12], .slice A1 l1.length c1] (by rfl) rfl rfl (by (try simp only [List.map_toArray, List.map_cons, List.map_nil]); first | done | rfl | (simp only [List.length_drop, List.length_take]; rfl)) ?_
          with_reducible refine (giveup_Check.calls a0_0 a0_1 a0_2 a0_3 a0_4 a0_5 a0_6 a0_7 a0_8 a0_9 a0_10 a0_11 a0_12 _ _ l1 t166 _ ?side1 ?side2 A14.out).mono ?_
          (case side1 => repeat (first | exact (Kd.C_below HR1.out (by repeat (first | (with_reducible first | exact HB.out | apply below_alloc | apply pw_below_drewN | apply below_drew1 | refine below_set ?_ GE154.out | refine below_set ?_ GE155.out) | exact HB.out))) | (with_reducible refine Kd.C_alloc ?_ _) | (with_reducible refine Kd.C_drewN ?_ _) | (with_reducible refine Kd.C_drew ?_)))
          (case side2 => exact HC1.out)
          rintro e w30 ⟨rfl, hb⟩
          refine ⟨_, rfl, ?_⟩
          have n0_ := Aside0.mk (Kd.R_below (by (with_reducible repeat (first | apply Kd.R_alloc | apply Kd.R_drewN | apply Kd.R_drew)); exact HO159.out) hb)
          have n1_ := Aside0.mk (Kd.R_below (by (with_reducible repeat (first | apply Kd.R_alloc | apply Kd.R_drewN | apply Kd.R_drew)); exact HO163.out) hb)
          have n2_ := Aside0.mk (blk_below (g := gb154) (o := .cells #[.int .i64 a0_0, .int .i64 a0_1, .int .i64 a0_2, .string a0_3, .int .i64 a0_4, .int .i64 a0_5, .int .i64 a0_6, .int .i64 a0_7, .int .i64 a0_8, .string a0_9, .string a0_10, .string a0_11, .string a0_12] 42 (0, 0)) (by (with_reducible repeat (first | refine blk_drewN ?_ _ | refine blk_drew ?_ | refine blk_alloc ?_ _)); exact BK154.out) hb)
          have n3_ := Aside0.mk (blk_below (g := gb155) (o := .cells #[.int .i64 a2_0, .int .i64 a2_1] 48 (0, 0)) (by (with_reducible repeat (first | refine blk_drewN ?_ _ | refine blk_drew ?_ | refine blk_alloc ?_ _)); exact BK155.out) hb)
          have n4_ := Aside0.mk (below_step (by repeat (first | (with_reducible first | exact HB.out | apply below_alloc | apply pw_below_drewN | apply below_drew1 | refine below_set ?_ GE154.out | refine below_set ?_ GE155.out) | exact HB.out)) hb)
          clear HO159
          clear HO163
          clear BK154
          clear BK155
          clear HB
          have HO159 := n0_
          have HO163 := n1_
          have BK154 := n2_
          have BK155 := n3_
          have HB := n4_
          clear n0_ n1_ n2_ n3_ n4_
          (try clear hb)
          (try clear hb2)
          (try clear hk)
          (try clear hi)
          refine hK.out _ _ ⟨(blk_cell BK154.out 0).trans rfl, (blk_cell BK154.out 1).trans rfl, (blk_cell BK154.out 2).trans rfl, (blk_cell BK154.out 3).trans rfl, (blk_cell BK154.out 4).trans rfl, (blk_cell BK154.out 5).trans rfl, (blk_cell BK154.out 6).trans rfl, (blk_cell BK154.out 7).trans rfl, (blk_cell BK154.out 8).trans rfl, (blk_cell BK154.out 9).trans rfl, (blk_cell BK154.out 10).trans rfl, (blk_cell BK154.out 11).trans rfl, (blk_cell BK154.out 12).trans rfl⟩ (fun hHeld => ?_)
          clear hK K
          refine norm_ (a' := ?_) ?_ ?_
          rotate_left
          · show Act.put _ (some 49) _ = _
            simp only [Act.put, List.setIfInBounds_toArray, List.set_cons_zero, List.set_cons_succ, i64_w, i32_w]
            rfl
          refine one_ (i := 14) (N := some 52) #[true, true, true, true, true, true, true, true, true, true, true, true, true, true, true, false, false, false, false, false, false] rfl rfl (one_of HT_.out (by kernel_rfl)) (by decide) (fun K hK => ?_)
          refine goes_ Try.func20 (by kernel_rfl) rfl #[.agg #[.int .i64 a0_0, .int .i64 a0_1, .int .i64 a0_2, .string a0_3, .int .i64 a0_4, .int .i64 a0_5, .int .i64 a0_6, .int .i64 a0_7, .int .i64 a0_8, .string a0_9, .string a0_10, .string a0_11, .string a0_12], .slice A1 l1.length c1] (by rfl) rfl rfl (by (try simp only [List.map_toArray, List.map_cons, List.map_nil]); first | done | rfl | (simp only [List.length_drop, List.length_take]; rfl)) ?_
          with_reducible refine (contangoref14_Check.calls k a0_0 a0_1 a0_2 a0_3 a0_4 a0_5 a0_6 a0_7 a0_8 a0_9 a0_10 a0_11 a0_12 _ _ l1 t167 _ ?side1 ?side2 A15.out).mono ?_
          (case side1 => repeat (first | exact (Kd.C_below HR1.out HB.out) | (with_reducible refine Kd.C_alloc ?_ _) | (with_reducible refine Kd.C_drewN ?_ _) | (with_reducible refine Kd.C_drew ?_)))
          (case side2 => exact HC1.out)
          rintro e w31 ⟨rfl, hb⟩
          refine ⟨_, rfl, ?_⟩
          have n0_ := Aside0.mk (Kd.R_below (by (with_reducible repeat (first | apply Kd.R_alloc | apply Kd.R_drewN | apply Kd.R_drew)); exact HO159.out) hb)
          have n1_ := Aside0.mk (Kd.R_below (by (with_reducible repeat (first | apply Kd.R_alloc | apply Kd.R_drewN | apply Kd.R_drew)); exact HO163.out) hb)
          have n2_ := Aside0.mk (blk_below (g := gb154) (o := .cells #[.int .i64 a0_0, .int .i64 a0_1, .int .i64 a0_2, .string a0_3, .int .i64 a0_4, .int .i64 a0_5, .int .i64 a0_6, .int .i64 a0_7, .int .i64 a0_8, .string a0_9, .string a0_10, .string a0_11, .string a0_12] 42 (0, 0)) (by (with_reducible repeat (first | refine blk_drewN ?_ _ | refine blk_drew ?_ | refine blk_alloc ?_ _)); exact BK154.out) hb)
          have n3_ := Aside0.mk (blk_below (g := gb155) (o := .cells #[.int .i64 a2_0, .int .i64 a2_1] 48 (0, 0)) (by (with_reducible repeat (first | refine blk_drewN ?_ _ | refine blk_drew ?_ | refine blk_alloc ?_ _)); exact BK155.out) hb)
          have n4_ := Aside0.mk (below_step (by repeat (first | (with_reducible first | exact HB.out | apply below_alloc | apply pw_below_drewN | apply below_drew1 | refine below_set ?_ GE154.out | refine below_set ?_ GE155.out) | exact HB.out)) hb)
          clear HO159
          clear HO163
          clear BK154
          clear BK155
          clear HB
          have HO159 := n0_
          have HO163 := n1_
          have BK154 := n2_
          have BK155 := n3_
          have HB := n4_
          clear n0_ n1_ n2_ n3_ n4_
          (try clear hb)
          (try clear hb2)
          (try clear hk)
          (try clear hi)
          refine hK.out _ _ ⟨(blk_cell BK154.out 0).trans rfl, (blk_cell BK154.out 1).trans rfl, (blk_cell BK154.out 2).trans rfl, (blk_cell BK154.out 3).trans rfl, (blk_cell BK154.out 4).trans rfl, (blk_cell BK154.out 5).trans rfl, (blk_cell BK154.out 6).trans rfl, (blk_cell BK154.out 7).trans rfl, (blk_cell BK154.out 8).trans rfl, (blk_cell BK154.out 9).trans rfl, (blk_cell BK154.out 10).trans rfl, (blk_cell BK154.out 11).trans rfl, (blk_cell BK154.out 12).trans rfl⟩ (fun hHeld => ?_)
          clear hK K
          refine norm_ (a' := ?_) ?_ ?_
          rotate_left
          · show Act.put _ (some 52) _ = _
            simp only [Act.put, List.setIfInBounds_toArray, List.set_cons_zero, List.set_cons_succ, i64_w, i32_w]
            rfl
          refine pure_ (i := 15) (N := some 53) (v := ?_) (a' := ?_) #[true, true, true, true, true, true, true, true, true, true, true, true, true, true, true, true, false, false, false, false, false] rfl rfl (any_of HT_.out (by kernel_rfl)) (fun _ _ _ h => h) (Or.inl ⟨by rfl, ?_⟩) ?_ ?_
          rotate_left
          · intro w'
            go_simp
            with_reducible rfl
          rotate_left
          · simp only [Act.put, List.setIfInBounds_toArray, List.set_cons_zero, List.set_cons_succ, i64_w, i32_w]
            rfl
          refine pure_ (i := 16) (N := some 54) (v := ?_) (a' := ?_) #[true, true, true, true, true, true, true, true, true, true, true, true, true, true, true, true, true, false, false, false, false] rfl rfl (any_of HT_.out (by kernel_rfl)) (fun _ _ _ h => h) (Or.inl ⟨by rfl, ?_⟩) ?_ ?_
          rotate_left
          · intro w'
            go_simp
            with_reducible rfl
          rotate_left
          · simp only [Act.put, List.setIfInBounds_toArray, List.set_cons_zero, List.set_cons_succ, i64_w, i32_w]
            rfl
          refine pure_ (i := 17) (N := some 55) (v := ?_) (a' := ?_) #[true, true, true, true, true, true, true, true, true, true, true, true, true, true, true, true, true, true, false, false, false] rfl rfl (any_of HT_.out (by kernel_rfl)) (fun _ _ _ h => h) (Or.inl ⟨by rfl, ?_⟩) ?_ ?_
          rotate_left
          · intro w'
            go_simp
            with_reducible rfl
          rotate_left
          · simp only [Act.put, List.setIfInBounds_toArray, List.set_cons_zero, List.set_cons_succ, i64_w, i32_w]
            rfl
          refine one_ (i := 18) (N := some 56) #[true, true, true, true, true, true, true, true, true, true, true, true, true, true, true, true, true, true, true, false, false] rfl rfl (one_of HT_.out (by kernel_rfl)) (by decide) (fun K hK => ?_)
          refine goes_ Try.func8 (by kernel_rfl) rfl #[] (by rfl) rfl rfl (by (try simp only [List.map_toArray, List.map_cons, List.map_nil]); first | done | rfl | (simp only [List.length_drop, List.length_take]; rfl)) ?_
          with_reducible refine (contangolaw14_goes.calls k  t168 _ A17.out).mono ?_
          rintro e w32 ⟨rfl, hb⟩
          refine ⟨_, rfl, ?_⟩
          have n0_ := Aside0.mk (Kd.R_below (by (with_reducible repeat (first | apply Kd.R_alloc | apply Kd.R_drewN | apply Kd.R_drew)); exact HO159.out) hb)
          have n1_ := Aside0.mk (Kd.R_below (by (with_reducible repeat (first | apply Kd.R_alloc | apply Kd.R_drewN | apply Kd.R_drew)); exact HO163.out) hb)
          have n2_ := Aside0.mk (blk_below (g := gb154) (o := .cells #[.int .i64 a0_0, .int .i64 a0_1, .int .i64 a0_2, .string a0_3, .int .i64 a0_4, .int .i64 a0_5, .int .i64 a0_6, .int .i64 a0_7, .int .i64 a0_8, .string a0_9, .string a0_10, .string a0_11, .string a0_12] 42 (0, 0)) (by (with_reducible repeat (first | refine blk_drewN ?_ _ | refine blk_drew ?_ | refine blk_alloc ?_ _)); exact BK154.out) hb)
          have n3_ := Aside0.mk (blk_below (g := gb155) (o := .cells #[.int .i64 a2_0, .int .i64 a2_1] 48 (0, 0)) (by (with_reducible repeat (first | refine blk_drewN ?_ _ | refine blk_drew ?_ | refine blk_alloc ?_ _)); exact BK155.out) hb)
          have n4_ := Aside0.mk (below_step (by repeat (first | (with_reducible first | exact HB.out | apply below_alloc | apply pw_below_drewN | apply below_drew1 | refine below_set ?_ GE154.out | refine below_set ?_ GE155.out) | exact HB.out)) hb)
          clear HO159
          clear HO163
          clear BK154
          clear BK155
          clear HB
          have HO159 := n0_
          have HO163 := n1_
          have BK154 := n2_
          have BK155 := n3_
          have HB := n4_
          clear n0_ n1_ n2_ n3_ n4_
          (try clear hb)
          (try clear hb2)
          (try clear hk)
          (try clear hi)
          refine hK.out _ _ ⟨(blk_cell BK154.out 0).trans rfl, (blk_cell BK154.out 1).trans rfl, (blk_cell BK154.out 2).trans rfl, (blk_cell BK154.out 3).trans rfl, (blk_cell BK154.out 4).trans rfl, (blk_cell BK154.out 5).trans rfl, (blk_cell BK154.out 6).trans rfl, (blk_cell BK154.out 7).trans rfl, (blk_cell BK154.out 8).trans rfl, (blk_cell BK154.out 9).trans rfl, (blk_cell BK154.out 10).trans rfl, (blk_cell BK154.out 11).trans rfl, (blk_cell BK154.out 12).trans rfl⟩ (fun hHeld => ?_)
          clear hK K
          refine norm_ (a' := ?_) ?_ ?_
          rotate_left
          · show Act.put _ (some 56) _ = _
            simp only [Act.put, List.setIfInBounds_toArray, List.set_cons_zero, List.set_cons_succ, i64_w, i32_w]
            rfl
          refine pure_ (i := 19) (N := some 57) (v := ?_) (a' := ?_) #[true, true, true, true, true, true, true, true, true, true, true, true, true, true, true, true, true, true, true, true, false] rfl rfl (any_of HT_.out (by kernel_rfl)) (fun _ _ _ h => h) (Or.inl ⟨by rfl, ?_⟩) ?_ ?_
          rotate_left
          · intro w'
            go_simp
            with_reducible rfl
          rotate_left
          · simp only [Act.put, List.setIfInBounds_toArray, List.set_cons_zero, List.set_cons_succ, i64_w, i32_w]
            rfl
          refine pure_ (i := 20) (N := some 6) (v := ?_) (a' := ?_) #[true, true, true, true, true, true, true, true, true, true, true, true, true, true, true, true, true, true, true, true, true] rfl rfl (any_of HT_.out (by kernel_rfl)) (fun _ _ _ h => h) (Or.inl ⟨by rfl, ?_⟩) ?_ ?_
          rotate_left
          · intro w'
            go_simp
            with_reducible rfl
          rotate_left
          · simp only [Act.put, List.setIfInBounds_toArray, List.set_cons_zero, List.set_cons_succ, i64_w, i32_w]
            rfl
          refine done_ (done_of HT_.out (by kernel_rfl)) ?_
          try go_wp2
          go_ret
          exact ⟨by first | rfl | (simp [errW_none, errW_some] <;> rfl) | (simp [*, errW_none, errW_some] <;> rfl), by repeat (first | (with_reducible first | exact HB.out | apply below_alloc | apply pw_below_drewN | apply below_drew1 | refine below_set ?_ GE154.out | refine below_set ?_ GE155.out) | exact HB.out)⟩
        · rw [if_neg c16] at H
          have c16b0 : (t166 == t167) = false := beq_eq_false_iff_ne.mpr c16
          have c16b1 : (t166 != t167) = true := bne_iff_ne.mpr c16
          exact absurd H (by simp)
      · rw [if_neg c13] at H
        have c13b0 : (t160 == t164) = false := beq_eq_false_iff_ne.mpr c13
        have c13b1 : (t160 != t164) = true := bne_iff_ne.mpr c13
        exact absurd H (by simp)
    · replace c12 := Bool.eq_false_iff.mpr c12
      subst c12
      have H1 : (none) = some r := by rw [if_neg (show ¬ (false = true) by decide)] at H; exact H
      clear H
      have H := H1
      clear H1
      exact absurd H (by simp)

end Go.Proofs.Ytaffedkheehplaa.PGiveupDivides
