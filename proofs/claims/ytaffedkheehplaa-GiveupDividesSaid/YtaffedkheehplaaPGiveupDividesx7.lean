/- Laid for this claim by a program of this session's (wip/mkprint.py, wip/ext.py); not trusted: Lean checks it. -/
import Derived.Test.YtaffedkheehplaaPGiveupDividesx0
import Derived.Test.YtaffedkheehplaaPGiveupDividesx1
import Derived.Test.YtaffedkheehplaaPGiveupDividesx4
import Derived.Test.YtaffedkheehplaaPGiveupDividesx6
namespace Go.Proofs.Ytaffedkheehplaa.PGiveupDivides
open Go.RowKit Go.Proofs.YtaffedkheehplaaW.PrintWords Go.Proofs.YtaffedkheehplaaW.PrintLast Go.Proofs.YtaffedkheehplaaW.PrintMore
attribute [local go_sem] max2_int min2_int max_two min_two max_three min_three max_four min_four   -- for this text's walks alone
set_option linter.unusedVariables false
set_option linter.unusedSimpArgs false

attribute [local go_sem high] eqA40
/-! ### giveup_Divide: function 16 -/
attribute [local go_sem high] accA
def otherT (t : S42) (b : Bool) : S40 := if b = true then t.f7 else t.f6
def mkT (t : S42) (b : Bool) (id : Int) (p : S44) : S42 := if b = true then ⟨id, t.f1, t.f2, t.f3, p.f1, t.f5, p.f0, t.f7⟩ else ⟨id, t.f1, t.f2, t.f3, p.f1, t.f5, t.f6, p.f0⟩
def divGo (t : S42) (b : Bool) (first : Int) : Nat → List S42 → List S44 → List S42 × Int
  | _, xs, [] => (xs, 0)
  | i, xs, p :: l => if accEq p.f0 (otherT t b) = true then ([], 21) else divGo t b first (i + 1) (xs ++ [mkT t b (first + (i : Int)) p]) l
def divV (t : S42) (b : Bool) (l : List S44) (first : Int) : List S42 × Int :=
  if partV t.f4 l = 0 then (if first < 1 ∨ first > 1152921504606846976 - (l.length : Int) + 1 then ([], 2) else divGo t b first 0 [] l) else ([], partV t.f4 l)
def giveup_Divide.f (a0_0 : Int) (a0_1 : Int) (a0_2 : Int) (a0_3 : ByteArray) (a0_4 : Int) (a0_5 : Int) (a0_6 : Int) (a0_7 : Int) (a0_8 : Int) (a0_9 : ByteArray) (a0_10 : ByteArray) (a0_11 : ByteArray) (a0_12 : ByteArray) (a1 : Bool) (l2 : List (S44)) (a3 : Int) : Option ((List (S42)) × Int) := some (divV ⟨a0_0, a0_1, a0_2, ⟨a0_3, a0_4, a0_5, a0_6⟩, a0_7, a0_8, ⟨a0_9, a0_10⟩, ⟨a0_11, a0_12⟩⟩ a1 l2 a3)

set_option maxHeartbeats 16000000 in
set_option maxRecDepth 100000 in
theorem div_true (t : S42) (A2 : Option Addr) (c2 : Nat) (l : List (S44)) (a3 : Int) (r1 : List (S42)) (r2 : Int) (w : World) (hr2 : Kd.C k44 w A2 l.length l) (hc2 : l.length ≤ c2) (hp0 : partV t.f4 l = 0) (h1 : 1 ≤ a3) (h2 : a3 ≤ 1152921504606846976 - (l.length : Int) + 1) (hlen : l.length ≤ 1024) (h : divGo t true a3 0 [] l = (r1, r2)) :
    Calls Try.prog 16 #[.agg #[.int .i64 t.f0, .int .i64 t.f1, .int .i64 t.f2, .string t.f3.f0, .int .i64 t.f3.f1, .int .i64 t.f3.f2, .int .i64 t.f3.f3, .int .i64 t.f4, .int .i64 t.f5, .string t.f6.f0, .string t.f6.f1, .string t.f7.f0, .string t.f7.f1], .bool true, .slice A2 l.length c2, .int .i64 a3] w fun e w' => ∃ v0_ : Value, e = .returned (.tuple #[v0_, .int .i64 r2]) ∧ Kd.R k42 42 w' w.heap.size (fun _ => True) v0_ r1 ∧ Below w.heap.size w w' := by
  have hu42 := Try.underlying42
  have hu40 := Try.underlying40
  have d1 : decide (a3 < 1) = false := decide_eq_false (by omega)
  have d2 : decide (1152921504606846976 - (l.length : Int) + 1 < a3) = false := decide_eq_false (by omega)
  have HR := Aside0.mk hr2
  have HCHK := Aside0.mk (show giveup_Check.f t.f0 t.f1 t.f2 t.f3.f0 t.f3.f1 t.f3.f2 t.f3.f3 t.f4 t.f5 t.f6.f0 t.f6.f1 t.f7.f0 t.f7.f1 l = some 0 from by unfold giveup_Check.f giveup_parted.f; rw [hp0]; rfl)
  have HRES := Aside0.mk h
  have HC2 := Aside0.mk hc2
  clear hr2 h hp0 hc2
  go_enter Try.func16, Try.ntmps16
  go_wp2_with fail
  refine (giveup_Check.calls t.f0 t.f1 t.f2 t.f3.f0 t.f3.f1 t.f3.f2 t.f3.f3 t.f4 t.f5 t.f6.f0 t.f6.f1 t.f7.f0 t.f7.f1 A2 c2 l 0 _ (Kd.C_alloc HR.out _) HC2.out HCHK.out).mono ?_
  rintro e w2 ⟨rfl, hd⟩
  have HB := Aside0.mk (below_step (below_alloc (Below.refl w.heap.size w) _) hd)
  have HT := Aside0.mk (blk_below (blk_new w (.cells #[.int .i64 t.f0, .int .i64 t.f1, .int .i64 t.f2, .string t.f3.f0, .int .i64 t.f3.f1, .int .i64 t.f3.f2, .int .i64 t.f3.f3, .int .i64 t.f4, .int .i64 t.f5, .string t.f6.f0, .string t.f6.f1, .string t.f7.f0, .string t.f7.f1] 42 (0, 0))) hd)
  clear hd
  go_wp2_with fail
  go_loopw [8, 33] (fun v8 v33 wr => ∃ (i : Nat) (xs : List S42), i ≤ l.length ∧ xs.length = i ∧ v33 = .int .i64 (i : Int) ∧ Aside0 (divGo t true a3 i xs (l.drop i) = (r1, r2)) ∧ Aside0 (Kd.R k42 42 wr w.heap.size (fun k_ => k_ ≠ w.heap.size) v8 xs) ∧ Aside0 (wr.heap[w.heap.size]? = some (.cells #[.int .i64 t.f0, .int .i64 t.f1, .int .i64 t.f2, .string t.f3.f0, .int .i64 t.f3.f1, .int .i64 t.f3.f2, .int .i64 t.f3.f3, .int .i64 t.f4, .int .i64 t.f5, .string t.f6.f0, .string t.f6.f1, .string t.f7.f0, .string t.f7.f1] 42 (0, 0))) ∧ Aside0 (Below w.heap.size w wr)) (fun _ v33 _ => l.length - (intOf v33).toNat)
  case atStart => exact ⟨0, [], by omega, rfl, rfl, ⟨by rw [List.drop_zero]; exact HRES.out⟩, ⟨Kd.R_nil _ _ _ _ _⟩, HT, HB⟩
  case round =>
    clear HB HT HRES
    obtain ⟨i, xs, hi, hxl, rfl, HRES, HO, HT, HB⟩ := hrel
    have HB0 := HB
    by_cases hlt : i < l.length
    · obtain ⟨ad, ex, hx0, hx1, hx2⟩ := at_T44 (Kd.C_below HR.out HB.out) (i : Int) (by omega) (by omega)
      cases ex
      simp only [Int.toNat_natCast] at hx0 hx1 hx2
      have hlti : (i : Int) < (l.length : Int) := by omega
      have hres := HRES.out
      rw [drop_T44 l i hlt, divGo] at hres
      generalize rd_T44 l (i : Int) = p at *
      have hz0 : wr.cell? ⟨w.heap.size, 0, none⟩ = some (.int .i64 t.f0) := (blk_cell HT.out 0).trans rfl
      have hz1 : wr.cell? ⟨w.heap.size, 1, none⟩ = some (.int .i64 t.f1) := (blk_cell HT.out 1).trans rfl
      have hz2 : wr.cell? ⟨w.heap.size, 2, none⟩ = some (.int .i64 t.f2) := (blk_cell HT.out 2).trans rfl
      have hz3 : wr.cell? ⟨w.heap.size, 3, none⟩ = some (.string t.f3.f0) := (blk_cell HT.out 3).trans rfl
      have hz4 : wr.cell? ⟨w.heap.size, 4, none⟩ = some (.int .i64 t.f3.f1) := (blk_cell HT.out 4).trans rfl
      have hz5 : wr.cell? ⟨w.heap.size, 5, none⟩ = some (.int .i64 t.f3.f2) := (blk_cell HT.out 5).trans rfl
      have hz6 : wr.cell? ⟨w.heap.size, 6, none⟩ = some (.int .i64 t.f3.f3) := (blk_cell HT.out 6).trans rfl
      have hz7 : wr.cell? ⟨w.heap.size, 7, none⟩ = some (.int .i64 t.f4) := (blk_cell HT.out 7).trans rfl
      have hz8 : wr.cell? ⟨w.heap.size, 8, none⟩ = some (.int .i64 t.f5) := (blk_cell HT.out 8).trans rfl
      have hz9 : wr.cell? ⟨w.heap.size, 9, none⟩ = some (.string t.f6.f0) := (blk_cell HT.out 9).trans rfl
      have hz10 : wr.cell? ⟨w.heap.size, 10, none⟩ = some (.string t.f6.f1) := (blk_cell HT.out 10).trans rfl
      have hz11 : wr.cell? ⟨w.heap.size, 11, none⟩ = some (.string t.f7.f0) := (blk_cell HT.out 11).trans rfl
      have hz12 : wr.cell? ⟨w.heap.size, 12, none⟩ = some (.string t.f7.f1) := (blk_cell HT.out 12).trans rfl
      have hlt0 := blk_lt HT.out
      have hn0 : w.heap.size ≠ wr.heap.size := by omega
      have hn0' : wr.heap.size ≠ w.heap.size := by omega
      have hn1 : w.heap.size ≠ wr.heap.size + 1 := by omega
      have hn1' : wr.heap.size + 1 ≠ w.heap.size := by omega
      have hn2 : w.heap.size ≠ wr.heap.size + 1 + 1 := by omega
      have hn2' : wr.heap.size + 1 + 1 ≠ w.heap.size := by omega
      have hq11 : (((wr.alloc (.cells #[.string p.f0.f0, .string p.f0.f1, .int .i64 p.f1] 44)).alloc (.cells #[.int .i64 (a3 + (i : Int)), .int .i64 t.f1, .int .i64 t.f2, .string t.f3.f0, .int .i64 t.f3.f1, .int .i64 t.f3.f2, .int .i64 t.f3.f3, .int .i64 p.f1, .int .i64 t.f5, .string t.f6.f0, .string t.f6.f1, .string t.f7.f0, .string t.f7.f1] 42)).alloc (.cells #[.string ⟨#[]⟩, .string ⟨#[]⟩] 40)).cell? ⟨w.heap.size, 11, none⟩ = some (.string t.f7.f0) := (blk_cell (blk_alloc (blk_alloc (blk_alloc HT.out _) _) _) 11).trans rfl
      have hq12 : (((wr.alloc (.cells #[.string p.f0.f0, .string p.f0.f1, .int .i64 p.f1] 44)).alloc (.cells #[.int .i64 (a3 + (i : Int)), .int .i64 t.f1, .int .i64 t.f2, .string t.f3.f0, .int .i64 t.f3.f1, .int .i64 t.f3.f2, .int .i64 t.f3.f3, .int .i64 p.f1, .int .i64 t.f5, .string t.f6.f0, .string t.f6.f1, .string t.f7.f0, .string t.f7.f1] 42)).alloc (.cells #[.string ⟨#[]⟩, .string ⟨#[]⟩] 40)).cell? ⟨w.heap.size, 12, none⟩ = some (.string t.f7.f1) := (blk_cell (blk_alloc (blk_alloc (blk_alloc HT.out _) _) _) 12).trans rfl
      have hq9 : (((wr.alloc (.cells #[.string p.f0.f0, .string p.f0.f1, .int .i64 p.f1] 44)).alloc (.cells #[.int .i64 (a3 + (i : Int)), .int .i64 t.f1, .int .i64 t.f2, .string t.f3.f0, .int .i64 t.f3.f1, .int .i64 t.f3.f2, .int .i64 t.f3.f3, .int .i64 p.f1, .int .i64 t.f5, .string t.f6.f0, .string t.f6.f1, .string t.f7.f0, .string t.f7.f1] 42)).alloc (.cells #[.string t.f7.f0, .string t.f7.f1] 40)).cell? ⟨w.heap.size, 9, none⟩ = some (.string t.f6.f0) := (blk_cell (blk_alloc (blk_alloc (blk_alloc HT.out _) _) _) 9).trans rfl
      have hq10 : (((wr.alloc (.cells #[.string p.f0.f0, .string p.f0.f1, .int .i64 p.f1] 44)).alloc (.cells #[.int .i64 (a3 + (i : Int)), .int .i64 t.f1, .int .i64 t.f2, .string t.f3.f0, .int .i64 t.f3.f1, .int .i64 t.f3.f2, .int .i64 t.f3.f3, .int .i64 p.f1, .int .i64 t.f5, .string t.f6.f0, .string t.f6.f1, .string t.f7.f0, .string t.f7.f1] 42)).alloc (.cells #[.string t.f7.f0, .string t.f7.f1] 40)).cell? ⟨w.heap.size, 10, none⟩ = some (.string t.f6.f1) := (blk_cell (blk_alloc (blk_alloc (blk_alloc HT.out _) _) _) 10).trans rfl
      have hn3 : w.heap.size ≠ wr.heap.size + 2 := by omega
      have hn3' : wr.heap.size + 2 ≠ w.heap.size := by omega
      by_cases hc : accEq p.f0 (otherT t true) = true
      · rw [if_pos hc] at hres
        simp only [Prod.mk.injEq] at hres
        obtain ⟨rfl, rfl⟩ := hres
        have hc' : (p.f0.f0.toList == t.f7.f0.toList && (p.f0.f1.toList == t.f7.f1.toList)) = true := hc
        go_wp2_with fail
        go_region
        go_wp2_with fail
        go_region
        go_wp2_with fail
        go_ret2
        exact ⟨_, rfl, Kd.R_nil _ _ _ _ _, by repeat (first | exact HB.out | apply below_drew1 | apply below_alloc)⟩
      · rw [if_neg hc] at hres
        have hc' : (p.f0.f0.toList == t.f7.f0.toList && (p.f0.f1.toList == t.f7.f1.toList)) = false := Bool.eq_false_iff.2 hc
        have HRES2 := Aside0.mk hres
        clear hres HRES
        go_wp2_with fail
        go_region
        go_wp2_with fail
        go_region
        go_upto_region 17 with fail
        obtain ⟨W5, hW5⟩ : ∃ W5 : World, W5 = (((wr.alloc (.cells #[.string p.f0.f0, .string p.f0.f1, .int .i64 p.f1] 44)).alloc (.cells #[.int .i64 (a3 + (i : Int)), .int .i64 t.f1, .int .i64 t.f2, .string t.f3.f0, .int .i64 t.f3.f1, .int .i64 t.f3.f2, .int .i64 t.f3.f3, .int .i64 p.f1, .int .i64 t.f5, .string p.f0.f0, .string p.f0.f1, .string t.f7.f0, .string t.f7.f1] 42)).alloc (.cells #[.string t.f7.f0, .string t.f7.f1] 40)).drew.drew := ⟨_, rfl⟩
        rw [← hW5]
        have hb5 : Below wr.heap.size wr W5 := by rw [hW5]; exact below_drew1 (below_drew1 (below_alloc (below_alloc (below_alloc (Below.refl _ _) _) _) _))
        have hx5 : W5.heap[wr.heap.size + 1]? = some (.cells #[.int .i64 (a3 + (i : Int)), .int .i64 t.f1, .int .i64 t.f2, .string t.f3.f0, .int .i64 t.f3.f1, .int .i64 t.f3.f2, .int .i64 t.f3.f3, .int .i64 p.f1, .int .i64 t.f5, .string p.f0.f0, .string p.f0.f1, .string t.f7.f0, .string t.f7.f1] 42 (0, 0)) := by
          rw [hW5]
          exact blk_drew (blk_drew (blk_alloc (by rw [show wr.heap.size + 1 = (wr.alloc (.cells #[.string p.f0.f0, .string p.f0.f1, .int .i64 p.f1] 44)).heap.size by simp]; exact blk_new _ _) _))
        have ht5 := Aside0.mk (blk_below HT.out hb5)
        have ho5 := Aside0.mk (Kd.R_below HO.out hb5)
        have HB5 := Aside0.mk (below_step HB.out hb5)
        have hs5 : w.heap.size ≤ W5.heap.size := below_size HB5.out
        have hx5_0 : W5.cell? ⟨wr.heap.size + 1, 0, none⟩ = some (.int .i64 (a3 + (i : Int))) := (blk_cell hx5 0).trans rfl
        have hx5_1 : W5.cell? ⟨wr.heap.size + 1, 1, none⟩ = some (.int .i64 t.f1) := (blk_cell hx5 1).trans rfl
        have hx5_2 : W5.cell? ⟨wr.heap.size + 1, 2, none⟩ = some (.int .i64 t.f2) := (blk_cell hx5 2).trans rfl
        have hx5_3 : W5.cell? ⟨wr.heap.size + 1, 3, none⟩ = some (.string t.f3.f0) := (blk_cell hx5 3).trans rfl
        have hx5_4 : W5.cell? ⟨wr.heap.size + 1, 4, none⟩ = some (.int .i64 t.f3.f1) := (blk_cell hx5 4).trans rfl
        have hx5_5 : W5.cell? ⟨wr.heap.size + 1, 5, none⟩ = some (.int .i64 t.f3.f2) := (blk_cell hx5 5).trans rfl
        have hx5_6 : W5.cell? ⟨wr.heap.size + 1, 6, none⟩ = some (.int .i64 t.f3.f3) := (blk_cell hx5 6).trans rfl
        have hx5_7 : W5.cell? ⟨wr.heap.size + 1, 7, none⟩ = some (.int .i64 p.f1) := (blk_cell hx5 7).trans rfl
        have hx5_8 : W5.cell? ⟨wr.heap.size + 1, 8, none⟩ = some (.int .i64 t.f5) := (blk_cell hx5 8).trans rfl
        have hx5_9 : W5.cell? ⟨wr.heap.size + 1, 9, none⟩ = some (.string p.f0.f0) := (blk_cell hx5 9).trans rfl
        have hx5_10 : W5.cell? ⟨wr.heap.size + 1, 10, none⟩ = some (.string p.f0.f1) := (blk_cell hx5 10).trans rfl
        have hx5_11 : W5.cell? ⟨wr.heap.size + 1, 11, none⟩ = some (.string t.f7.f0) := (blk_cell hx5 11).trans rfl
        have hx5_12 : W5.cell? ⟨wr.heap.size + 1, 12, none⟩ = some (.string t.f7.f1) := (blk_cell hx5 12).trans rfl
        clear hx5 hb5 hW5 HT HO HB
        generalize wr.heap.size = gw at *
        go_wp2_with ((with_reducible refine gate_builtin (b := .append) (xs := #[.tmp 62, .tmp 64]) rfl ?_); (try (refine gate_guard (by rfl) ?_; dsimp only)); at_builtin; refine Kd.R_append k42 (w0 := w) w.heap.size rfl (.tmp 62) (.tmp 64) 22 42 (.agg #[(.int .i64 0), (.int .i64 0), (.int .i64 0), (.string ⟨#[]⟩), (.int .i64 0), (.int .i64 0), (.int .i64 0), (.int .i64 0), (.int .i64 0), (.string ⟨#[]⟩), (.string ⟨#[]⟩), (.string ⟨#[]⟩), (.string ⟨#[]⟩)]) 144 rfl Try.underlying22 info42 rfl (by decide) (by omega) u8 xs (mkT t true (a3 + (i : Int)) p) [.int .i64 (a3 + (i : Int)), .int .i64 t.f1, .int .i64 t.f2, .string t.f3.f0, .int .i64 t.f3.f1, .int .i64 t.f3.f2, .int .i64 t.f3.f3, .int .i64 p.f1, .int .i64 t.f5, .string p.f0.f0, .string p.f0.f1, .string t.f7.f0, .string t.f7.f1] (fun k_ => k_ ≠ w.heap.size) (fun _ => False) rfl (by first | (go_simp; done) | (go_simp; rfl)) ?aP (fun _ hk => hk.elim) ?aF ?aO ?aB ?aS ?aL ?_; (case aP => exact k42_mkM _ _ _ (mkT t true (a3 + (i : Int)) p)); (case aF => intro k_ hk; have := blk_lt ht5.out; omega); (case aO => exact ho5.out); (case aB => exact HB5.out); (case aS => exact hs5); (case aL => omega); intro v164 w28 ho hb hg hat; have n0_ := Aside0.mk (blk_grown ht5.out hg (Kd.R_away ho5.out (fun _ hk => hk))); have n1_ := Aside0.mk hb; have n2_ := Aside0.mk ho; clear ho hb hg hat)
        go_roundw
        case measure => show _ < _; simp [intOf]; omega
        case rel => exact ⟨i + 1, xs ++ [(mkT t true (a3 + (i : Int)) p)], by omega, by rw [List.length_append]; simp; omega, by go_num, HRES2, n2_, n0_, n1_⟩
    · obtain rfl : i = l.length := by omega
      have hres := HRES.out
      rw [List.drop_length, divGo] at hres
      simp only [Prod.mk.injEq] at hres
      obtain ⟨rfl, rfl⟩ := hres
      go_wp2_with fail
      go_ret2
      exact ⟨_, rfl, Kd.R_mono HO.out (fun _ _ => trivial), HB.out⟩

set_option maxHeartbeats 16000000 in
set_option maxRecDepth 100000 in
theorem div_false (t : S42) (A2 : Option Addr) (c2 : Nat) (l : List (S44)) (a3 : Int) (r1 : List (S42)) (r2 : Int) (w : World) (hr2 : Kd.C k44 w A2 l.length l) (hc2 : l.length ≤ c2) (hp0 : partV t.f4 l = 0) (h1 : 1 ≤ a3) (h2 : a3 ≤ 1152921504606846976 - (l.length : Int) + 1) (hlen : l.length ≤ 1024) (h : divGo t false a3 0 [] l = (r1, r2)) :
    Calls Try.prog 16 #[.agg #[.int .i64 t.f0, .int .i64 t.f1, .int .i64 t.f2, .string t.f3.f0, .int .i64 t.f3.f1, .int .i64 t.f3.f2, .int .i64 t.f3.f3, .int .i64 t.f4, .int .i64 t.f5, .string t.f6.f0, .string t.f6.f1, .string t.f7.f0, .string t.f7.f1], .bool false, .slice A2 l.length c2, .int .i64 a3] w fun e w' => ∃ v0_ : Value, e = .returned (.tuple #[v0_, .int .i64 r2]) ∧ Kd.R k42 42 w' w.heap.size (fun _ => True) v0_ r1 ∧ Below w.heap.size w w' := by
  have hu42 := Try.underlying42
  have hu40 := Try.underlying40
  have d1 : decide (a3 < 1) = false := decide_eq_false (by omega)
  have d2 : decide (1152921504606846976 - (l.length : Int) + 1 < a3) = false := decide_eq_false (by omega)
  have HR := Aside0.mk hr2
  have HCHK := Aside0.mk (show giveup_Check.f t.f0 t.f1 t.f2 t.f3.f0 t.f3.f1 t.f3.f2 t.f3.f3 t.f4 t.f5 t.f6.f0 t.f6.f1 t.f7.f0 t.f7.f1 l = some 0 from by unfold giveup_Check.f giveup_parted.f; rw [hp0]; rfl)
  have HRES := Aside0.mk h
  have HC2 := Aside0.mk hc2
  clear hr2 h hp0 hc2
  go_enter Try.func16, Try.ntmps16
  go_wp2_with fail
  refine (giveup_Check.calls t.f0 t.f1 t.f2 t.f3.f0 t.f3.f1 t.f3.f2 t.f3.f3 t.f4 t.f5 t.f6.f0 t.f6.f1 t.f7.f0 t.f7.f1 A2 c2 l 0 _ (Kd.C_alloc HR.out _) HC2.out HCHK.out).mono ?_
  rintro e w2 ⟨rfl, hd⟩
  have HB := Aside0.mk (below_step (below_alloc (Below.refl w.heap.size w) _) hd)
  have HT := Aside0.mk (blk_below (blk_new w (.cells #[.int .i64 t.f0, .int .i64 t.f1, .int .i64 t.f2, .string t.f3.f0, .int .i64 t.f3.f1, .int .i64 t.f3.f2, .int .i64 t.f3.f3, .int .i64 t.f4, .int .i64 t.f5, .string t.f6.f0, .string t.f6.f1, .string t.f7.f0, .string t.f7.f1] 42 (0, 0))) hd)
  clear hd
  go_wp2_with fail
  go_loopw [8, 33] (fun v8 v33 wr => ∃ (i : Nat) (xs : List S42), i ≤ l.length ∧ xs.length = i ∧ v33 = .int .i64 (i : Int) ∧ Aside0 (divGo t false a3 i xs (l.drop i) = (r1, r2)) ∧ Aside0 (Kd.R k42 42 wr w.heap.size (fun k_ => k_ ≠ w.heap.size) v8 xs) ∧ Aside0 (wr.heap[w.heap.size]? = some (.cells #[.int .i64 t.f0, .int .i64 t.f1, .int .i64 t.f2, .string t.f3.f0, .int .i64 t.f3.f1, .int .i64 t.f3.f2, .int .i64 t.f3.f3, .int .i64 t.f4, .int .i64 t.f5, .string t.f6.f0, .string t.f6.f1, .string t.f7.f0, .string t.f7.f1] 42 (0, 0))) ∧ Aside0 (Below w.heap.size w wr)) (fun _ v33 _ => l.length - (intOf v33).toNat)
  case atStart => exact ⟨0, [], by omega, rfl, rfl, ⟨by rw [List.drop_zero]; exact HRES.out⟩, ⟨Kd.R_nil _ _ _ _ _⟩, HT, HB⟩
  case round =>
    clear HB HT HRES
    obtain ⟨i, xs, hi, hxl, rfl, HRES, HO, HT, HB⟩ := hrel
    have HB0 := HB
    by_cases hlt : i < l.length
    · obtain ⟨ad, ex, hx0, hx1, hx2⟩ := at_T44 (Kd.C_below HR.out HB.out) (i : Int) (by omega) (by omega)
      cases ex
      simp only [Int.toNat_natCast] at hx0 hx1 hx2
      have hlti : (i : Int) < (l.length : Int) := by omega
      have hres := HRES.out
      rw [drop_T44 l i hlt, divGo] at hres
      generalize rd_T44 l (i : Int) = p at *
      have hz0 : wr.cell? ⟨w.heap.size, 0, none⟩ = some (.int .i64 t.f0) := (blk_cell HT.out 0).trans rfl
      have hz1 : wr.cell? ⟨w.heap.size, 1, none⟩ = some (.int .i64 t.f1) := (blk_cell HT.out 1).trans rfl
      have hz2 : wr.cell? ⟨w.heap.size, 2, none⟩ = some (.int .i64 t.f2) := (blk_cell HT.out 2).trans rfl
      have hz3 : wr.cell? ⟨w.heap.size, 3, none⟩ = some (.string t.f3.f0) := (blk_cell HT.out 3).trans rfl
      have hz4 : wr.cell? ⟨w.heap.size, 4, none⟩ = some (.int .i64 t.f3.f1) := (blk_cell HT.out 4).trans rfl
      have hz5 : wr.cell? ⟨w.heap.size, 5, none⟩ = some (.int .i64 t.f3.f2) := (blk_cell HT.out 5).trans rfl
      have hz6 : wr.cell? ⟨w.heap.size, 6, none⟩ = some (.int .i64 t.f3.f3) := (blk_cell HT.out 6).trans rfl
      have hz7 : wr.cell? ⟨w.heap.size, 7, none⟩ = some (.int .i64 t.f4) := (blk_cell HT.out 7).trans rfl
      have hz8 : wr.cell? ⟨w.heap.size, 8, none⟩ = some (.int .i64 t.f5) := (blk_cell HT.out 8).trans rfl
      have hz9 : wr.cell? ⟨w.heap.size, 9, none⟩ = some (.string t.f6.f0) := (blk_cell HT.out 9).trans rfl
      have hz10 : wr.cell? ⟨w.heap.size, 10, none⟩ = some (.string t.f6.f1) := (blk_cell HT.out 10).trans rfl
      have hz11 : wr.cell? ⟨w.heap.size, 11, none⟩ = some (.string t.f7.f0) := (blk_cell HT.out 11).trans rfl
      have hz12 : wr.cell? ⟨w.heap.size, 12, none⟩ = some (.string t.f7.f1) := (blk_cell HT.out 12).trans rfl
      have hlt0 := blk_lt HT.out
      have hn0 : w.heap.size ≠ wr.heap.size := by omega
      have hn0' : wr.heap.size ≠ w.heap.size := by omega
      have hn1 : w.heap.size ≠ wr.heap.size + 1 := by omega
      have hn1' : wr.heap.size + 1 ≠ w.heap.size := by omega
      have hn2 : w.heap.size ≠ wr.heap.size + 1 + 1 := by omega
      have hn2' : wr.heap.size + 1 + 1 ≠ w.heap.size := by omega
      have hq11 : (((wr.alloc (.cells #[.string p.f0.f0, .string p.f0.f1, .int .i64 p.f1] 44)).alloc (.cells #[.int .i64 (a3 + (i : Int)), .int .i64 t.f1, .int .i64 t.f2, .string t.f3.f0, .int .i64 t.f3.f1, .int .i64 t.f3.f2, .int .i64 t.f3.f3, .int .i64 p.f1, .int .i64 t.f5, .string t.f6.f0, .string t.f6.f1, .string t.f7.f0, .string t.f7.f1] 42)).alloc (.cells #[.string ⟨#[]⟩, .string ⟨#[]⟩] 40)).cell? ⟨w.heap.size, 11, none⟩ = some (.string t.f7.f0) := (blk_cell (blk_alloc (blk_alloc (blk_alloc HT.out _) _) _) 11).trans rfl
      have hq12 : (((wr.alloc (.cells #[.string p.f0.f0, .string p.f0.f1, .int .i64 p.f1] 44)).alloc (.cells #[.int .i64 (a3 + (i : Int)), .int .i64 t.f1, .int .i64 t.f2, .string t.f3.f0, .int .i64 t.f3.f1, .int .i64 t.f3.f2, .int .i64 t.f3.f3, .int .i64 p.f1, .int .i64 t.f5, .string t.f6.f0, .string t.f6.f1, .string t.f7.f0, .string t.f7.f1] 42)).alloc (.cells #[.string ⟨#[]⟩, .string ⟨#[]⟩] 40)).cell? ⟨w.heap.size, 12, none⟩ = some (.string t.f7.f1) := (blk_cell (blk_alloc (blk_alloc (blk_alloc HT.out _) _) _) 12).trans rfl
      have hq9 : (((wr.alloc (.cells #[.string p.f0.f0, .string p.f0.f1, .int .i64 p.f1] 44)).alloc (.cells #[.int .i64 (a3 + (i : Int)), .int .i64 t.f1, .int .i64 t.f2, .string t.f3.f0, .int .i64 t.f3.f1, .int .i64 t.f3.f2, .int .i64 t.f3.f3, .int .i64 p.f1, .int .i64 t.f5, .string t.f6.f0, .string t.f6.f1, .string t.f7.f0, .string t.f7.f1] 42)).alloc (.cells #[.string t.f7.f0, .string t.f7.f1] 40)).cell? ⟨w.heap.size, 9, none⟩ = some (.string t.f6.f0) := (blk_cell (blk_alloc (blk_alloc (blk_alloc HT.out _) _) _) 9).trans rfl
      have hq10 : (((wr.alloc (.cells #[.string p.f0.f0, .string p.f0.f1, .int .i64 p.f1] 44)).alloc (.cells #[.int .i64 (a3 + (i : Int)), .int .i64 t.f1, .int .i64 t.f2, .string t.f3.f0, .int .i64 t.f3.f1, .int .i64 t.f3.f2, .int .i64 t.f3.f3, .int .i64 p.f1, .int .i64 t.f5, .string t.f6.f0, .string t.f6.f1, .string t.f7.f0, .string t.f7.f1] 42)).alloc (.cells #[.string t.f7.f0, .string t.f7.f1] 40)).cell? ⟨w.heap.size, 10, none⟩ = some (.string t.f6.f1) := (blk_cell (blk_alloc (blk_alloc (blk_alloc HT.out _) _) _) 10).trans rfl
      have hn3 : w.heap.size ≠ wr.heap.size + 2 := by omega
      have hn3' : wr.heap.size + 2 ≠ w.heap.size := by omega
      by_cases hc : accEq p.f0 (otherT t false) = true
      · rw [if_pos hc] at hres
        simp only [Prod.mk.injEq] at hres
        obtain ⟨rfl, rfl⟩ := hres
        have hc' : (p.f0.f0.toList == t.f6.f0.toList && (p.f0.f1.toList == t.f6.f1.toList)) = true := hc
        go_wp2_with fail
        go_region
        go_wp2_with fail
        go_region
        go_wp2_with fail
        go_region
        go_wp2_with fail
        go_ret2
        exact ⟨_, rfl, Kd.R_nil _ _ _ _ _, by repeat (first | exact HB.out | apply below_drew1 | apply below_alloc)⟩
      · rw [if_neg hc] at hres
        have hc' : (p.f0.f0.toList == t.f6.f0.toList && (p.f0.f1.toList == t.f6.f1.toList)) = false := Bool.eq_false_iff.2 hc
        have HRES2 := Aside0.mk hres
        clear hres HRES
        go_wp2_with fail
        go_region
        go_wp2_with fail
        go_region
        go_wp2_with fail
        go_region
        go_upto_region 17 with fail
        obtain ⟨W5, hW5⟩ : ∃ W5 : World, W5 = (((wr.alloc (.cells #[.string p.f0.f0, .string p.f0.f1, .int .i64 p.f1] 44)).alloc (.cells #[.int .i64 (a3 + (i : Int)), .int .i64 t.f1, .int .i64 t.f2, .string t.f3.f0, .int .i64 t.f3.f1, .int .i64 t.f3.f2, .int .i64 t.f3.f3, .int .i64 p.f1, .int .i64 t.f5, .string t.f6.f0, .string t.f6.f1, .string p.f0.f0, .string p.f0.f1] 42)).alloc (.cells #[.string t.f6.f0, .string t.f6.f1] 40)).drew.drew.drew := ⟨_, rfl⟩
        rw [← hW5]
        have hb5 : Below wr.heap.size wr W5 := by rw [hW5]; exact below_drew1 (below_drew1 (below_drew1 (below_alloc (below_alloc (below_alloc (Below.refl _ _) _) _) _)))
        have hx5 : W5.heap[wr.heap.size + 1]? = some (.cells #[.int .i64 (a3 + (i : Int)), .int .i64 t.f1, .int .i64 t.f2, .string t.f3.f0, .int .i64 t.f3.f1, .int .i64 t.f3.f2, .int .i64 t.f3.f3, .int .i64 p.f1, .int .i64 t.f5, .string t.f6.f0, .string t.f6.f1, .string p.f0.f0, .string p.f0.f1] 42 (0, 0)) := by
          rw [hW5]
          exact blk_drew (blk_drew (blk_drew (blk_alloc (by rw [show wr.heap.size + 1 = (wr.alloc (.cells #[.string p.f0.f0, .string p.f0.f1, .int .i64 p.f1] 44)).heap.size by simp]; exact blk_new _ _) _)))
        have ht5 := Aside0.mk (blk_below HT.out hb5)
        have ho5 := Aside0.mk (Kd.R_below HO.out hb5)
        have HB5 := Aside0.mk (below_step HB.out hb5)
        have hs5 : w.heap.size ≤ W5.heap.size := below_size HB5.out
        have hx5_0 : W5.cell? ⟨wr.heap.size + 1, 0, none⟩ = some (.int .i64 (a3 + (i : Int))) := (blk_cell hx5 0).trans rfl
        have hx5_1 : W5.cell? ⟨wr.heap.size + 1, 1, none⟩ = some (.int .i64 t.f1) := (blk_cell hx5 1).trans rfl
        have hx5_2 : W5.cell? ⟨wr.heap.size + 1, 2, none⟩ = some (.int .i64 t.f2) := (blk_cell hx5 2).trans rfl
        have hx5_3 : W5.cell? ⟨wr.heap.size + 1, 3, none⟩ = some (.string t.f3.f0) := (blk_cell hx5 3).trans rfl
        have hx5_4 : W5.cell? ⟨wr.heap.size + 1, 4, none⟩ = some (.int .i64 t.f3.f1) := (blk_cell hx5 4).trans rfl
        have hx5_5 : W5.cell? ⟨wr.heap.size + 1, 5, none⟩ = some (.int .i64 t.f3.f2) := (blk_cell hx5 5).trans rfl
        have hx5_6 : W5.cell? ⟨wr.heap.size + 1, 6, none⟩ = some (.int .i64 t.f3.f3) := (blk_cell hx5 6).trans rfl
        have hx5_7 : W5.cell? ⟨wr.heap.size + 1, 7, none⟩ = some (.int .i64 p.f1) := (blk_cell hx5 7).trans rfl
        have hx5_8 : W5.cell? ⟨wr.heap.size + 1, 8, none⟩ = some (.int .i64 t.f5) := (blk_cell hx5 8).trans rfl
        have hx5_9 : W5.cell? ⟨wr.heap.size + 1, 9, none⟩ = some (.string t.f6.f0) := (blk_cell hx5 9).trans rfl
        have hx5_10 : W5.cell? ⟨wr.heap.size + 1, 10, none⟩ = some (.string t.f6.f1) := (blk_cell hx5 10).trans rfl
        have hx5_11 : W5.cell? ⟨wr.heap.size + 1, 11, none⟩ = some (.string p.f0.f0) := (blk_cell hx5 11).trans rfl
        have hx5_12 : W5.cell? ⟨wr.heap.size + 1, 12, none⟩ = some (.string p.f0.f1) := (blk_cell hx5 12).trans rfl
        clear hx5 hb5 hW5 HT HO HB
        generalize wr.heap.size = gw at *
        go_wp2_with ((with_reducible refine gate_builtin (b := .append) (xs := #[.tmp 62, .tmp 64]) rfl ?_); (try (refine gate_guard (by rfl) ?_; dsimp only)); at_builtin; refine Kd.R_append k42 (w0 := w) w.heap.size rfl (.tmp 62) (.tmp 64) 22 42 (.agg #[(.int .i64 0), (.int .i64 0), (.int .i64 0), (.string ⟨#[]⟩), (.int .i64 0), (.int .i64 0), (.int .i64 0), (.int .i64 0), (.int .i64 0), (.string ⟨#[]⟩), (.string ⟨#[]⟩), (.string ⟨#[]⟩), (.string ⟨#[]⟩)]) 144 rfl Try.underlying22 info42 rfl (by decide) (by omega) u8 xs (mkT t false (a3 + (i : Int)) p) [.int .i64 (a3 + (i : Int)), .int .i64 t.f1, .int .i64 t.f2, .string t.f3.f0, .int .i64 t.f3.f1, .int .i64 t.f3.f2, .int .i64 t.f3.f3, .int .i64 p.f1, .int .i64 t.f5, .string t.f6.f0, .string t.f6.f1, .string p.f0.f0, .string p.f0.f1] (fun k_ => k_ ≠ w.heap.size) (fun _ => False) rfl (by first | (go_simp; done) | (go_simp; rfl)) ?aP (fun _ hk => hk.elim) ?aF ?aO ?aB ?aS ?aL ?_; (case aP => exact k42_mkM _ _ _ (mkT t false (a3 + (i : Int)) p)); (case aF => intro k_ hk; have := blk_lt ht5.out; omega); (case aO => exact ho5.out); (case aB => exact HB5.out); (case aS => exact hs5); (case aL => omega); intro v164 w28 ho hb hg hat; have n0_ := Aside0.mk (blk_grown ht5.out hg (Kd.R_away ho5.out (fun _ hk => hk))); have n1_ := Aside0.mk hb; have n2_ := Aside0.mk ho; clear ho hb hg hat)
        go_roundw
        case measure => show _ < _; simp [intOf]; omega
        case rel => exact ⟨i + 1, xs ++ [(mkT t false (a3 + (i : Int)) p)], by omega, by rw [List.length_append]; simp; omega, by go_num, HRES2, n2_, n0_, n1_⟩
    · obtain rfl : i = l.length := by omega
      have hres := HRES.out
      rw [List.drop_length, divGo] at hres
      simp only [Prod.mk.injEq] at hres
      obtain ⟨rfl, rfl⟩ := hres
      go_wp2_with fail
      go_ret2
      exact ⟨_, rfl, Kd.R_mono HO.out (fun _ _ => trivial), HB.out⟩

set_option maxHeartbeats 16000000 in
set_option maxRecDepth 100000 in
theorem giveup_Divide.calls (a0_0 : Int) (a0_1 : Int) (a0_2 : Int) (a0_3 : ByteArray) (a0_4 : Int) (a0_5 : Int) (a0_6 : Int) (a0_7 : Int) (a0_8 : Int) (a0_9 : ByteArray) (a0_10 : ByteArray) (a0_11 : ByteArray) (a0_12 : ByteArray) (a1 : Bool) (A2 : Option Addr) (c2 : Nat) (l2 : List (S44)) (a3 : Int) (r1 : List (S42)) (r2 : Int) (w : World) (hr2 : Kd.C k44 w A2 l2.length l2) (hc2 : l2.length ≤ c2) (h : giveup_Divide.f a0_0 a0_1 a0_2 a0_3 a0_4 a0_5 a0_6 a0_7 a0_8 a0_9 a0_10 a0_11 a0_12 a1 l2 a3 = some (r1, r2)) :
    Calls Try.prog 16 #[.agg #[.int .i64 a0_0, .int .i64 a0_1, .int .i64 a0_2, .string a0_3, .int .i64 a0_4, .int .i64 a0_5, .int .i64 a0_6, .int .i64 a0_7, .int .i64 a0_8, .string a0_9, .string a0_10, .string a0_11, .string a0_12], .bool a1, .slice A2 l2.length c2, .int .i64 a3] w fun e w' => ∃ v0_ : Value, e = .returned (.tuple #[v0_, .int .i64 r2]) ∧ Kd.R k42 42 w' w.heap.size (fun _ => True) v0_ r1 ∧ Below w.heap.size w w' := by
  have hu42 := Try.underlying42
  have hu40 := Try.underlying40
  unfold giveup_Divide.f divV at h
  simp only [Option.some.injEq] at h
  by_cases hp0 : partV a0_7 l2 = 0
  · rw [if_pos hp0] at h
    have hlen : l2.length ≤ 1024 := by
      unfold partV at hp0
      by_cases k : l2.length = 0 ∨ l2.length > 1024
      · rw [if_pos k] at hp0; exact absurd hp0 (by decide)
      · omega
    have hchk : giveup_Check.f a0_0 a0_1 a0_2 a0_3 a0_4 a0_5 a0_6 a0_7 a0_8 a0_9 a0_10 a0_11 a0_12 l2 = some 0 := by unfold giveup_Check.f giveup_parted.f; rw [hp0]; rfl
    by_cases k : a3 < 1 ∨ a3 > 1152921504606846976 - (l2.length : Int) + 1
    · rw [if_pos k] at h
      simp only [Prod.mk.injEq] at h
      obtain ⟨rfl, rfl⟩ := h
      by_cases k1 : a3 < 1
      · have d1 : decide (a3 < 1) = true := decide_eq_true k1
        go_enter Try.func16, Try.ntmps16
        go_wp2_with fail
        refine (giveup_Check.calls a0_0 a0_1 a0_2 a0_3 a0_4 a0_5 a0_6 a0_7 a0_8 a0_9 a0_10 a0_11 a0_12 A2 c2 l2 0 _ (Kd.C_alloc hr2 _) hc2 hchk).mono ?_
        rintro e w2 ⟨rfl, hd⟩
        have HB := Aside0.mk (below_step (below_alloc (Below.refl w.heap.size w) _) hd)
        clear hd
        go_wp2_with fail
        go_ret2
        exact ⟨_, rfl, Kd.R_nil _ _ _ _ _, HB.out⟩
      · have d1 : decide (a3 < 1) = false := decide_eq_false k1
        have d2 : decide (1152921504606846976 - (l2.length : Int) + 1 < a3) = true := decide_eq_true (by omega)
        go_enter Try.func16, Try.ntmps16
        go_wp2_with fail
        refine (giveup_Check.calls a0_0 a0_1 a0_2 a0_3 a0_4 a0_5 a0_6 a0_7 a0_8 a0_9 a0_10 a0_11 a0_12 A2 c2 l2 0 _ (Kd.C_alloc hr2 _) hc2 hchk).mono ?_
        rintro e w2 ⟨rfl, hd⟩
        have HB := Aside0.mk (below_step (below_alloc (Below.refl w.heap.size w) _) hd)
        clear hd
        go_wp2_with fail
        go_ret2
        exact ⟨_, rfl, Kd.R_nil _ _ _ _ _, HB.out⟩
    · rw [if_neg k] at h
      cases a1 with
      | true => exact div_true (⟨a0_0, a0_1, a0_2, ⟨a0_3, a0_4, a0_5, a0_6⟩, a0_7, a0_8, ⟨a0_9, a0_10⟩, ⟨a0_11, a0_12⟩⟩ : S42) A2 c2 l2 a3 r1 r2 w hr2 hc2 hp0 (by omega) (by omega) hlen h
      | false => exact div_false (⟨a0_0, a0_1, a0_2, ⟨a0_3, a0_4, a0_5, a0_6⟩, a0_7, a0_8, ⟨a0_9, a0_10⟩, ⟨a0_11, a0_12⟩⟩ : S42) A2 c2 l2 a3 r1 r2 w hr2 hc2 hp0 (by omega) (by omega) hlen h
  · rw [if_neg hp0] at h
    simp only [Prod.mk.injEq] at h
    obtain ⟨rfl, rfl⟩ := h
    have hne : (partV a0_7 l2 != 0) = true := bne_iff_ne.mpr hp0
    have hchk : giveup_Check.f a0_0 a0_1 a0_2 a0_3 a0_4 a0_5 a0_6 a0_7 a0_8 a0_9 a0_10 a0_11 a0_12 l2 = some (partV a0_7 l2) := by unfold giveup_Check.f giveup_parted.f; rfl
    generalize partV a0_7 l2 = r2 at *
    go_enter Try.func16, Try.ntmps16
    go_wp2_with fail
    refine (giveup_Check.calls a0_0 a0_1 a0_2 a0_3 a0_4 a0_5 a0_6 a0_7 a0_8 a0_9 a0_10 a0_11 a0_12 A2 c2 l2 r2 _ (Kd.C_alloc hr2 _) hc2 hchk).mono ?_
    rintro e w2 ⟨rfl, hd⟩
    have HB := Aside0.mk (below_step (below_alloc (Below.refl w.heap.size w) _) hd)
    clear hd
    go_wp2_with fail
    go_ret2
    exact ⟨_, rfl, Kd.R_nil _ _ _ _ _, HB.out⟩

/-! ### contangoref14_lots: function 26 -/
mutual
def contangoref14_lots.j0 : Nat → Int → List (S44) → Bool → Option (Int)
  | 0, _, _, _ => none
  | k + 1, x0, x1, x16 => if x16 = true then (some 8) else (contangoref14_lots.l0 k x0 x1 0 0)
def contangoref14_lots.l0 : Nat → Int → List (S44) → Int → Int → Option (Int)
  | 0, _, _, _, _ => none
  | k + 1, x0, x1, x5, x6 => if x6 < (x1.length : Int) then (if 0 ≤ x6 then (if ((rd_T44 x1 x6).f1) < 1 then (some 18) else (if ((rd_T44 x1 x6).f1) > 1048576 then (some 18) else (contangoref14_lots.l0 k x0 x1 (wrap64 (x5 + ((rd_T44 x1 x6).f1))) (wrap64 (x6 + 1))))) else (none)) else (if x5 = x0 then (contangoref14_lots.l1 k x1 0) else (some 18))
def contangoref14_lots.l1 : Nat → List (S44) → Int → Option (Int)
  | 0, _, _ => none
  | k + 1, x1, x7 => if x7 < (x1.length : Int) then (contangoref14_lots.l2 k x1 x7 0) else (some 0)
def contangoref14_lots.l2 : Nat → List (S44) → Int → Int → Option (Int)
  | 0, _, _, _ => none
  | k + 1, x1, x7, x8 => if x8 < x7 then (if 0 ≤ x8 then (if x8 < (x1.length : Int) then (if 0 ≤ x7 then (if x7 < (x1.length : Int) then (if ((((rd_T44 x1 x8).f0.f0).toList) == (((rd_T44 x1 x7).f0.f0).toList) && ((((rd_T44 x1 x8).f0.f1).toList) == (((rd_T44 x1 x7).f0.f1).toList))) = true then (some 21) else (contangoref14_lots.l2 k x1 x7 (wrap64 (x8 + 1)))) else (none)) else (none)) else (none)) else (none)) else (contangoref14_lots.l1 k x1 (wrap64 (x7 + 1)))
end
def contangoref14_lots.f (k : Nat) (a0 : Int) (l1 : List (S44)) : Option (Int) := if (l1.length : Int) = 0 then (contangoref14_lots.j0 k a0 l1 true) else (contangoref14_lots.j0 k a0 l1 (decide ((l1.length : Int) > 1024)))
theorem contangoref14_lots.mono_l : ∀ k, (∀ y0 y1 y2, LeO (contangoref14_lots.j0 k y0 y1 y2) (contangoref14_lots.j0 (k + 1) y0 y1 y2)) ∧ (∀ y0 y1 y2 y3, LeO (contangoref14_lots.l0 k y0 y1 y2 y3) (contangoref14_lots.l0 (k + 1) y0 y1 y2 y3)) ∧ (∀ y0 y1, LeO (contangoref14_lots.l1 k y0 y1) (contangoref14_lots.l1 (k + 1) y0 y1)) ∧ (∀ y0 y1 y2, LeO (contangoref14_lots.l2 k y0 y1 y2) (contangoref14_lots.l2 (k + 1) y0 y1 y2))
  | 0 => ⟨fun _ _ _ r h => by simp [contangoref14_lots.j0] at h, fun _ _ _ _ r h => by simp [contangoref14_lots.l0] at h, fun _ _ r h => by simp [contangoref14_lots.l1] at h, fun _ _ _ r h => by simp [contangoref14_lots.l2] at h⟩
  | k + 1 => by
    obtain ⟨ih0, ih1, ih2, ih3⟩ := contangoref14_lots.mono_l k
    refine ⟨?_, ?_, ?_, ?_⟩
    · intro y0 y1 y2
      unfold contangoref14_lots.j0
      repeat' first
      | (with_reducible exact ih0 _ _ _)
      | (with_reducible exact ih1 _ _ _ _)
      | (with_reducible exact ih2 _ _)
      | (with_reducible exact ih3 _ _ _)
      | (with_reducible exact LeO.refl _)
      | (with_reducible exact LeO.none _)
      | (with_reducible refine LeO.ite ?_ ?_)
      | (with_reducible refine LeO.bind ?_ (fun _ => ?_))
      | exact ih0 _ _ _
      | exact ih1 _ _ _ _
      | exact ih2 _ _
      | exact ih3 _ _ _
      | exact LeO.none _
      | refine LeO.ite ?_ ?_
      | refine LeO.bind ?_ (fun _ => ?_)
    · intro y0 y1 y2 y3
      unfold contangoref14_lots.l0
      repeat' first
      | (with_reducible exact ih0 _ _ _)
      | (with_reducible exact ih1 _ _ _ _)
      | (with_reducible exact ih2 _ _)
      | (with_reducible exact ih3 _ _ _)
      | (with_reducible exact LeO.refl _)
      | (with_reducible exact LeO.none _)
      | (with_reducible refine LeO.ite ?_ ?_)
      | (with_reducible refine LeO.bind ?_ (fun _ => ?_))
      | exact ih0 _ _ _
      | exact ih1 _ _ _ _
      | exact ih2 _ _
      | exact ih3 _ _ _
      | exact LeO.none _
      | refine LeO.ite ?_ ?_
      | refine LeO.bind ?_ (fun _ => ?_)
    · intro y0 y1
      unfold contangoref14_lots.l1
      repeat' first
      | (with_reducible exact ih0 _ _ _)
      | (with_reducible exact ih1 _ _ _ _)
      | (with_reducible exact ih2 _ _)
      | (with_reducible exact ih3 _ _ _)
      | (with_reducible exact LeO.refl _)
      | (with_reducible exact LeO.none _)
      | (with_reducible refine LeO.ite ?_ ?_)
      | (with_reducible refine LeO.bind ?_ (fun _ => ?_))
      | exact ih0 _ _ _
      | exact ih1 _ _ _ _
      | exact ih2 _ _
      | exact ih3 _ _ _
      | exact LeO.none _
      | refine LeO.ite ?_ ?_
      | refine LeO.bind ?_ (fun _ => ?_)
    · intro y0 y1 y2
      unfold contangoref14_lots.l2
      repeat' first
      | (with_reducible exact ih0 _ _ _)
      | (with_reducible exact ih1 _ _ _ _)
      | (with_reducible exact ih2 _ _)
      | (with_reducible exact ih3 _ _ _)
      | (with_reducible exact LeO.refl _)
      | (with_reducible exact LeO.none _)
      | (with_reducible refine LeO.ite ?_ ?_)
      | (with_reducible refine LeO.bind ?_ (fun _ => ?_))
      | exact ih0 _ _ _
      | exact ih1 _ _ _ _
      | exact ih2 _ _
      | exact ih3 _ _ _
      | exact LeO.none _
      | refine LeO.ite ?_ ?_
      | refine LeO.bind ?_ (fun _ => ?_)
theorem contangoref14_lots.mono : ∀ a0 a1 k, LeO (contangoref14_lots.f k a0 a1) (contangoref14_lots.f (k + 1) a0 a1) := by
  intro a0 a1 k
  obtain ⟨ih0, ih1, ih2, ih3⟩ := contangoref14_lots.mono_l k
  unfold contangoref14_lots.f
  repeat' first
      | (with_reducible exact ih0 _ _ _)
      | (with_reducible exact ih1 _ _ _ _)
      | (with_reducible exact ih2 _ _)
      | (with_reducible exact ih3 _ _ _)
      | (with_reducible exact LeO.refl _)
      | (with_reducible exact LeO.none _)
      | (with_reducible refine LeO.ite ?_ ?_)
      | (with_reducible refine LeO.bind ?_ (fun _ => ?_))
      | exact ih0 _ _ _
      | exact ih1 _ _ _ _
      | exact ih2 _ _
      | exact ih3 _ _ _
      | exact LeO.none _
      | refine LeO.ite ?_ ?_
      | refine LeO.bind ?_ (fun _ => ?_)
set_option maxHeartbeats 8000000 in
set_option maxRecDepth 100000 in
theorem contangoref14_lots.calls (k : Nat) (a0 : Int) (A1 : Option Addr) (c1 : Nat) (l1 : List (S44)) (r : Int) (w : World) (hr1 : Kd.C k44 w A1 l1.length l1) (hc1 : l1.length ≤ c1) (h : contangoref14_lots.f k a0 l1 = some r) :
    Calls Try.prog 26 #[.int .i64 a0, .slice A1 l1.length c1] w fun e w' => e = .returned (.int .i64 r) ∧ Drawn0 w w' := by
  have hu40 := Try.underlying40
  have HR1 := Aside0.mk hr1
  have HC1 := Aside0.mk hc1
  clear hr1 hc1
  have H : (if (l1.length : Int) = 0 then (contangoref14_lots.j0 k a0 l1 true) else (contangoref14_lots.j0 k a0 l1 (decide ((l1.length : Int) > 1024)))) = some r := h
  clear h
  have HC3 := Aside0.mk H
  clear H
  go_enter Try.func26, Try.ntmps26
  go_upto_region 1 with (fail)
  repeat (go_quiet (fail); go_upto_region 1 with (fail))
  go_cut [16] (fun v16 wc => ∃ (kq : Nat) (x16_2 : Bool), v16 = .bool x16_2 ∧ Aside0 (contangoref14_lots.j0 kq a0 l1 x16_2 = some r) ∧ Aside0 (kq ≤ k) ∧ Drawn0 w wc)
  case first =>
    have H := HC3.out
    clear HC3
    by_cases c4 : (l1.length : Int) = 0
    · rw [if_pos c4] at H
      have c4b0 : ((l1.length : Int) == 0) = true := beq_iff_eq.mpr c4
      have c4b1 : ((l1.length : Int) != 0) = false := bne_eq_false_iff_eq.mpr c4
      clear c4
      (first | rw [c4b0] | (simp only [i64_w, i32_w]; rw [c4b0]) | rw [c4b1] | skip)
      have H' := Aside0.mk H
      clear H
      go_wp2
      repeat (go_quiet (fail); try go_wp2)
      go_meet
      case rel => exact ⟨_, (true), (by first | rfl | (simp; done) | (simp [*]; done)), H', ⟨by first | omega | exact Nat.le_refl _⟩, by repeat (first | exact Drawn0.refl _ | apply Drawn0.step)⟩
    · rw [if_neg c4] at H
      have c4b0 : ((l1.length : Int) == 0) = false := beq_eq_false_iff_ne.mpr c4
      have c4b1 : ((l1.length : Int) != 0) = true := bne_iff_ne.mpr c4
      have c4b2 : ¬ (l1 = []) := fun h_ => c4 (by rw [h_]; rfl)
      (first | rw [c4b0] | (simp only [i64_w, i32_w]; rw [c4b0]) | rw [c4b1] | rw [c4b2] | skip)
      have H' := Aside0.mk H
      clear H
      go_wp2
      repeat (go_quiet (fail); try go_wp2)
      go_meet
      case rel => exact ⟨_, (decide ((l1.length : Int) > 1024)), (by first | rfl | (simp; done) | (simp [*]; done)), H', ⟨by first | omega | exact Nat.le_refl _⟩, by repeat (first | exact Drawn0.refl _ | apply Drawn0.step)⟩
  case rest =>
    clear HC3
    try clear c1
    try clear c2
    try clear p2
    try clear c4
    try clear c4b0
    try clear c4b1
    try clear c4b2
    obtain ⟨kq, x16_2, rfl, HA, HJ2, ⟨mc2, rfl⟩⟩ := hcut
    cases kq with
    | zero => exact absurd HA.out (by simp [contangoref14_lots.j0])
    | succ kj2 =>
      have H := HA.out
      clear HA
      simp only [contangoref14_lots.j0] at H
      by_cases c5 : x16_2 = true
      · subst c5
        have H1 : (some 8) = some r := by rw [if_pos rfl] at H; exact H
        clear H
        have H := H1
        clear H1
        obtain rfl := Option.some.inj H
        go_wp2
        repeat (go_quiet (fail); try go_wp2)
        go_ret
        exact ⟨by first | rfl | (simp; done) | (simp [*]; done), by repeat (first | exact Drawn0.refl _ | apply Drawn0.step)⟩
      · replace c5 := Bool.eq_false_iff.mpr c5
        subst c5
        have H1 : (contangoref14_lots.l0 kj2 a0 l1 0 0) = some r := by rw [if_neg (show ¬ (false = true) by decide)] at H; exact H
        clear H
        have H := H1
        clear H1
        have H' := Aside0.mk H
        clear H
        go_wp2
        repeat (go_quiet (fail); try go_wp2)
        go_loopg [5, 6] kj2 (fun kq v5 v6 w' => ∃ (x5_2 : Int) (x6_2 : Int), v5 = .int .i64 x5_2 ∧ v6 = .int .i64 x6_2 ∧ Aside0 (contangoref14_lots.l0 kq a0 l1 x5_2 x6_2 = some r) ∧ Aside0 (kq ≤ kj2) ∧ Drawn0 w w')
        case atStart => exact ⟨(0), (0), (by first | rfl | (simp; done) | (simp [*]; done)), (by first | rfl | (simp; done) | (simp [*]; done)), H', ⟨Nat.le_refl _⟩, by repeat (first | exact Drawn0.refl _ | apply Drawn0.step)⟩
        case round =>
          clear H'
          try clear c1
          try clear c2
          try clear p2
          try clear c4
          try clear c4b0
          try clear c4b1
          try clear c4b2
          try clear c5
          try clear p2
          obtain ⟨x5_2, x6_2, rfl, rfl, HA, HK2, ⟨m2, rfl⟩⟩ := hrel
          cases gk with
          | zero => exact absurd HA.out (by simp [contangoref14_lots.l0])
          | succ k2 =>
            have H := HA.out
            clear HA
            simp only [contangoref14_lots.l0] at H
            by_cases c6 : x6_2 < (l1.length : Int)
            · rw [if_pos c6] at H
              have c6b0 : decide (x6_2 < (l1.length : Int)) = true := decide_eq_true c6
              clear c6
              by_cases c7 : 0 ≤ x6_2
              · rw [if_pos c7] at H
                have c7b0 : decide (0 ≤ x6_2) = true := decide_eq_true c7
                clear c7
                by_cases c8 : ((rd_T44 l1 x6_2).f1) < 1
                · rw [if_pos c8] at H
                  have c8b0 : decide (((rd_T44 l1 x6_2).f1) < 1) = true := decide_eq_true c8
                  clear c8
                  obtain rfl := Option.some.inj H
                  have p145 : 0 ≤ (x6_2 : Int) := of_decide_eq_true (by first | (with_reducible assumption) | assumption)
                  have q145 : x6_2 < (l1.length : Int) := of_decide_eq_true (by first | (with_reducible assumption) | assumption)
                  obtain ⟨ad145, e145, hx145_0, hx145_1, hx145_2⟩ := at_T44 HR1.out x6_2 p145 q145
                  cases e145
                  replace p145 := eq_true p145
                  replace q145 := eq_true q145
                  go_wp2
                  repeat (go_quiet (fail); try go_wp2)
                  go_ret
                  exact ⟨by first | rfl | (simp; done) | (simp [*]; done), by repeat (first | exact Drawn0.refl _ | apply Drawn0.step)⟩
                · rw [if_neg c8] at H
                  have c8b0 : decide (((rd_T44 l1 x6_2).f1) < 1) = false := decide_eq_false c8
                  clear c8
                  by_cases c9 : ((rd_T44 l1 x6_2).f1) > 1048576
                  · rw [if_pos c9] at H
                    have c9b0 : decide (1048576 < ((rd_T44 l1 x6_2).f1)) = true := decide_eq_true c9
                    clear c9
                    obtain rfl := Option.some.inj H
                    have p145 : 0 ≤ (x6_2 : Int) := of_decide_eq_true (by first | (with_reducible assumption) | assumption)
                    have q145 : x6_2 < (l1.length : Int) := of_decide_eq_true (by first | (with_reducible assumption) | assumption)
                    obtain ⟨ad145, e145, hx145_0, hx145_1, hx145_2⟩ := at_T44 HR1.out x6_2 p145 q145
                    cases e145
                    replace p145 := eq_true p145
                    replace q145 := eq_true q145
                    have p146 : 0 ≤ (x6_2 : Int) := of_decide_eq_true (by first | (with_reducible assumption) | assumption)
                    have q146 : x6_2 < (l1.length : Int) := of_decide_eq_true (by first | (with_reducible assumption) | assumption)
                    obtain ⟨ad146, e146, hx146_0, hx146_1, hx146_2⟩ := at_T44 HR1.out x6_2 p146 q146
                    obtain rfl : ad145 = ad146 := (by injection e146)
                    replace p146 := eq_true p146
                    replace q146 := eq_true q146
                    go_wp2
                    repeat (go_quiet (fail); try go_wp2)
                    go_ret
                    exact ⟨by first | rfl | (simp; done) | (simp [*]; done), by repeat (first | exact Drawn0.refl _ | apply Drawn0.step)⟩
                  · rw [if_neg c9] at H
                    have c9b0 : decide (1048576 < ((rd_T44 l1 x6_2).f1)) = false := decide_eq_false c9
                    clear c9
                    have H' := Aside0.mk H
                    clear H
                    have p145 : 0 ≤ (x6_2 : Int) := of_decide_eq_true (by first | (with_reducible assumption) | assumption)
                    have q145 : x6_2 < (l1.length : Int) := of_decide_eq_true (by first | (with_reducible assumption) | assumption)
                    obtain ⟨ad145, e145, hx145_0, hx145_1, hx145_2⟩ := at_T44 HR1.out x6_2 p145 q145
                    cases e145
                    replace p145 := eq_true p145
                    replace q145 := eq_true q145
                    have p146 : 0 ≤ (x6_2 : Int) := of_decide_eq_true (by first | (with_reducible assumption) | assumption)
                    have q146 : x6_2 < (l1.length : Int) := of_decide_eq_true (by first | (with_reducible assumption) | assumption)
                    obtain ⟨ad146, e146, hx146_0, hx146_1, hx146_2⟩ := at_T44 HR1.out x6_2 p146 q146
                    obtain rfl : ad145 = ad146 := (by injection e146)
                    replace p146 := eq_true p146
                    replace q146 := eq_true q146
                    have p147 : 0 ≤ (x6_2 : Int) := of_decide_eq_true (by first | (with_reducible assumption) | assumption)
                    have q147 : x6_2 < (l1.length : Int) := of_decide_eq_true (by first | (with_reducible assumption) | assumption)
                    obtain ⟨ad147, e147, hx147_0, hx147_1, hx147_2⟩ := at_T44 HR1.out x6_2 p147 q147
                    obtain rfl : ad145 = ad147 := (by injection e147)
                    replace p147 := eq_true p147
                    replace q147 := eq_true q147
                    go_wp2
                    repeat (go_quiet (fail); try go_wp2)
                    go_roundg k2
                    case measure => have := HJ2.out; have := HK2.out; omega
                    case rel => exact ⟨(wrap64 (x5_2 + ((rd_T44 l1 x6_2).f1))), (wrap64 (x6_2 + 1)), (by first | rfl | (simp; done) | (simp [*]; done)), (by first | rfl | (simp; done) | (simp [*]; done)), H', ⟨by have := HJ2.out; have := HK2.out; omega⟩, by repeat (first | exact Drawn0.refl _ | apply Drawn0.step)⟩
              · rw [if_neg c7] at H
                exact absurd H (by simp)
            · rw [if_neg c6] at H
              have c6b0 : decide (x6_2 < (l1.length : Int)) = false := decide_eq_false c6
              clear c6
              by_cases c10 : x5_2 = a0
              · rw [if_pos c10] at H
                have c10b0 : (x5_2 == a0) = true := beq_iff_eq.mpr c10
                have c10b1 : (x5_2 != a0) = false := bne_eq_false_iff_eq.mpr c10
                clear c10
                have H' := Aside0.mk H
                clear H
                go_wp2
                repeat (go_quiet (fail); try go_wp2)
                go_loopg [7] k2 (fun kq v7 w' => ∃ (x7_3 : Int), v7 = .int .i64 x7_3 ∧ Aside0 (contangoref14_lots.l1 kq l1 x7_3 = some r) ∧ Aside0 (kq ≤ k2) ∧ Drawn0 w w')
                case atStart => exact ⟨(0), (by first | rfl | (simp; done) | (simp [*]; done)), H', ⟨Nat.le_refl _⟩, by repeat (first | exact Drawn0.refl _ | apply Drawn0.step)⟩
                case round =>
                  clear H'
                  try clear c1
                  try clear p1
                  try clear q1
                  try clear hx1
                  try clear c2
                  try clear p2
                  try clear c4
                  try clear c4b0
                  try clear c4b1
                  try clear c4b2
                  try clear c5
                  try clear c6
                  try clear c6b0
                  try clear p6
                  try clear c7
                  try clear c7b0
                  try clear c8
                  try clear c8b0
                  try clear c9
                  try clear c9b0
                  try clear c10
                  try clear c10b0
                  try clear c10b1
                  try clear hx145_0
                  try clear hx145_1
                  try clear hx145_2
                  try clear hx146_0
                  try clear hx146_1
                  try clear hx146_2
                  try clear hx147_0
                  try clear hx147_1
                  try clear hx147_2
                  try clear p145
                  try clear p146
                  try clear p147
                  try clear p2
                  try clear q145
                  try clear q146
                  try clear q147
                  obtain ⟨x7_3, rfl, HA, HK3, ⟨m3, rfl⟩⟩ := hrel
                  cases gk with
                  | zero => exact absurd HA.out (by simp [contangoref14_lots.l1])
                  | succ k3 =>
                    have H := HA.out
                    clear HA
                    simp only [contangoref14_lots.l1] at H
                    by_cases c11 : x7_3 < (l1.length : Int)
                    · rw [if_pos c11] at H
                      have c11b0 : decide (x7_3 < (l1.length : Int)) = true := decide_eq_true c11
                      clear c11
                      have H' := Aside0.mk H
                      clear H
                      go_wp2
                      repeat (go_quiet (fail); try go_wp2)
                      go_loopg [8] k3 (fun kq v8 w' => ∃ (x8_4 : Int), v8 = .int .i64 x8_4 ∧ Aside0 (contangoref14_lots.l2 kq l1 x7_3 x8_4 = some r) ∧ Aside0 (kq ≤ k3) ∧ Drawn0 w w')
                      case atStart => exact ⟨(0), (by first | rfl | (simp; done) | (simp [*]; done)), H', ⟨Nat.le_refl _⟩, by repeat (first | exact Drawn0.refl _ | apply Drawn0.step)⟩
                      case round =>
                        clear H'
                        try clear c1
                        try clear p1
                        try clear q1
                        try clear hx1
                        try clear c2
                        try clear p2
                        try clear c4
                        try clear c4b0
                        try clear c4b1
                        try clear c4b2
                        try clear c5
                        try clear c6
                        try clear c6b0
                        try clear p6
                        try clear c7
                        try clear c7b0
                        try clear c8
                        try clear c8b0
                        try clear c9
                        try clear c9b0
                        try clear c10
                        try clear c10b0
                        try clear c10b1
                        try clear c11
                        try clear c11b0
                        try clear hx145_0
                        try clear hx145_1
                        try clear hx145_2
                        try clear hx146_0
                        try clear hx146_1
                        try clear hx146_2
                        try clear hx147_0
                        try clear hx147_1
                        try clear hx147_2
                        try clear p1
                        try clear p145
                        try clear p146
                        try clear p147
                        try clear p2
                        try clear p6
                        try clear q1
                        try clear q145
                        try clear q146
                        try clear q147
                        obtain ⟨x8_4, rfl, HA, HK4, ⟨m4, rfl⟩⟩ := hrel
                        cases gk with
                        | zero => exact absurd HA.out (by simp [contangoref14_lots.l2])
                        | succ k4 =>
                          have H := HA.out
                          clear HA
                          simp only [contangoref14_lots.l2] at H
                          by_cases c12 : x8_4 < x7_3
                          · rw [if_pos c12] at H
                            have c12b0 : decide (x8_4 < x7_3) = true := decide_eq_true c12
                            clear c12
                            by_cases c13 : 0 ≤ x8_4
                            · rw [if_pos c13] at H
                              have c13b0 : decide (0 ≤ x8_4) = true := decide_eq_true c13
                              clear c13
                              by_cases c14 : x8_4 < (l1.length : Int)
                              · rw [if_pos c14] at H
                                have c14b0 : decide (x8_4 < (l1.length : Int)) = true := decide_eq_true c14
                                clear c14
                                by_cases c15 : 0 ≤ x7_3
                                · rw [if_pos c15] at H
                                  have c15b0 : decide (0 ≤ x7_3) = true := decide_eq_true c15
                                  clear c15
                                  by_cases c16 : x7_3 < (l1.length : Int)
                                  · rw [if_pos c16] at H
                                    have c16b0 : decide (x7_3 < (l1.length : Int)) = true := decide_eq_true c16
                                    clear c16
                                    by_cases c17 : ((((rd_T44 l1 x8_4).f0.f0).toList) == (((rd_T44 l1 x7_3).f0.f0).toList) && ((((rd_T44 l1 x8_4).f0.f1).toList) == (((rd_T44 l1 x7_3).f0.f1).toList))) = true
                                    · rw [if_pos c17] at H
                                      have c17b0 : ((((rd_T44 l1 x8_4).f0.f0).toList) == (((rd_T44 l1 x7_3).f0.f0).toList) && ((((rd_T44 l1 x8_4).f0.f1).toList) == (((rd_T44 l1 x7_3).f0.f1).toList))) = true := c17
                                      (try (have c17b1 : decide ((((rd_T44 l1 x8_4).f0.f0).toList) = (((rd_T44 l1 x7_3).f0.f0).toList) && ((((rd_T44 l1 x8_4).f0.f1).toList) == (((rd_T44 l1 x7_3).f0.f1).toList))) = true := by simpa using c17))
                                      (try (have c17b2 : ((((rd_T44 l1 x8_4).f0.f0).toList) == (((rd_T44 l1 x7_3).f0.f0).toList) && ((((rd_T44 l1 x8_4).f0.f1).toList) == (((rd_T44 l1 x7_3).f0.f1).toList))) = true := by simpa using c17))
                                      clear c17
                                      obtain rfl := Option.some.inj H
                                      have p148 : 0 ≤ (x8_4 : Int) := of_decide_eq_true (by first | (with_reducible assumption) | assumption)
                                      have q148 : x8_4 < (l1.length : Int) := of_decide_eq_true (by first | (with_reducible assumption) | assumption)
                                      obtain ⟨ad148, e148, hx148_0, hx148_1, hx148_2⟩ := at_T44 HR1.out x8_4 p148 q148
                                      cases e148
                                      replace p148 := eq_true p148
                                      replace q148 := eq_true q148
                                      have p149 : 0 ≤ (x7_3 : Int) := of_decide_eq_true (by first | (with_reducible assumption) | assumption)
                                      have q149 : x7_3 < (l1.length : Int) := of_decide_eq_true (by first | (with_reducible assumption) | assumption)
                                      obtain ⟨ad149, e149, hx149_0, hx149_1, hx149_2⟩ := at_T44 HR1.out x7_3 p149 q149
                                      obtain rfl : ad148 = ad149 := (by injection e149)
                                      replace p149 := eq_true p149
                                      replace q149 := eq_true q149
                                      go_wp2
                                      repeat (go_quiet (fail); try go_wp2)
                                      go_ret
                                      exact ⟨by first | rfl | (simp; done) | (simp [*]; done), by repeat (first | exact Drawn0.refl _ | apply Drawn0.step)⟩
                                    · rw [if_neg c17] at H
                                      have c17b0 : ((((rd_T44 l1 x8_4).f0.f0).toList) == (((rd_T44 l1 x7_3).f0.f0).toList) && ((((rd_T44 l1 x8_4).f0.f1).toList) == (((rd_T44 l1 x7_3).f0.f1).toList))) = false := by simpa using c17
                                      (try (have c17b1 : decide ((((rd_T44 l1 x8_4).f0.f0).toList) = (((rd_T44 l1 x7_3).f0.f0).toList) && ((((rd_T44 l1 x8_4).f0.f1).toList) == (((rd_T44 l1 x7_3).f0.f1).toList))) = false := by simpa using c17))
                                      (try (have c17b2 : ((((rd_T44 l1 x8_4).f0.f0).toList) == (((rd_T44 l1 x7_3).f0.f0).toList) && ((((rd_T44 l1 x8_4).f0.f1).toList) == (((rd_T44 l1 x7_3).f0.f1).toList))) = false := by simpa using c17))
                                      (try (have c17b3 : ¬ ((((rd_T44 l1 x8_4).f0.f0).toList) = (((rd_T44 l1 x7_3).f0.f0).toList) && ((((rd_T44 l1 x8_4).f0.f1).toList) == (((rd_T44 l1 x7_3).f0.f1).toList))) := by simpa using c17))
                                      clear c17
                                      have H' := Aside0.mk H
                                      clear H
                                      have p148 : 0 ≤ (x8_4 : Int) := of_decide_eq_true (by first | (with_reducible assumption) | assumption)
                                      have q148 : x8_4 < (l1.length : Int) := of_decide_eq_true (by first | (with_reducible assumption) | assumption)
                                      obtain ⟨ad148, e148, hx148_0, hx148_1, hx148_2⟩ := at_T44 HR1.out x8_4 p148 q148
                                      cases e148
                                      replace p148 := eq_true p148
                                      replace q148 := eq_true q148
                                      have p149 : 0 ≤ (x7_3 : Int) := of_decide_eq_true (by first | (with_reducible assumption) | assumption)
                                      have q149 : x7_3 < (l1.length : Int) := of_decide_eq_true (by first | (with_reducible assumption) | assumption)
                                      obtain ⟨ad149, e149, hx149_0, hx149_1, hx149_2⟩ := at_T44 HR1.out x7_3 p149 q149
                                      obtain rfl : ad148 = ad149 := (by injection e149)
                                      replace p149 := eq_true p149
                                      replace q149 := eq_true q149
                                      go_wp2
                                      repeat (go_quiet (fail); try go_wp2)
                                      go_roundg k4
                                      case measure => have := HJ2.out; have := HK2.out; have := HK3.out; have := HK4.out; omega
                                      case rel => exact ⟨(wrap64 (x8_4 + 1)), (by first | rfl | (simp; done) | (simp [*]; done)), H', ⟨by have := HJ2.out; have := HK2.out; have := HK3.out; have := HK4.out; omega⟩, by repeat (first | exact Drawn0.refl _ | apply Drawn0.step)⟩
                                  · rw [if_neg c16] at H
                                    exact absurd H (by simp)
                                · rw [if_neg c15] at H
                                  exact absurd H (by simp)
                              · rw [if_neg c14] at H
                                exact absurd H (by simp)
                            · rw [if_neg c13] at H
                              exact absurd H (by simp)
                          · rw [if_neg c12] at H
                            have c12b0 : decide (x8_4 < x7_3) = false := decide_eq_false c12
                            clear c12
                            have H' := Aside0.mk H
                            clear H
                            go_wp2
                            repeat (go_quiet (fail); try go_wp2)
                            go_roundg k4
                            case measure => have := HJ2.out; have := HK2.out; have := HK3.out; have := HK4.out; omega
                            case rel => exact ⟨(wrap64 (x7_3 + 1)), (by first | rfl | (simp; done) | (simp [*]; done)), H', ⟨by have := HJ2.out; have := HK2.out; have := HK3.out; have := HK4.out; omega⟩, by repeat (first | exact Drawn0.refl _ | apply Drawn0.step)⟩
                    · rw [if_neg c11] at H
                      have c11b0 : decide (x7_3 < (l1.length : Int)) = false := decide_eq_false c11
                      clear c11
                      obtain rfl := Option.some.inj H
                      go_wp2
                      repeat (go_quiet (fail); try go_wp2)
                      go_ret
                      exact ⟨by first | rfl | (simp; done) | (simp [*]; done), by repeat (first | exact Drawn0.refl _ | apply Drawn0.step)⟩
              · rw [if_neg c10] at H
                have c10b0 : (x5_2 == a0) = false := beq_eq_false_iff_ne.mpr c10
                have c10b1 : (x5_2 != a0) = true := bne_iff_ne.mpr c10
                obtain rfl := Option.some.inj H
                go_wp2
                repeat (go_quiet (fail); try go_wp2)
                go_ret
                exact ⟨by first | rfl | (simp; done) | (simp [*]; done), by repeat (first | exact Drawn0.refl _ | apply Drawn0.step)⟩

/-! ### contangoref14_Check: function 20 -/
def contangoref14_Check.f (k : Nat) (a0_0 : Int) (a0_1 : Int) (a0_2 : Int) (a0_3 : ByteArray) (a0_4 : Int) (a0_5 : Int) (a0_6 : Int) (a0_7 : Int) (a0_8 : Int) (a0_9 : ByteArray) (a0_10 : ByteArray) (a0_11 : ByteArray) (a0_12 : ByteArray) (l1 : List (S44)) : Option (Int) := (contangoref14_lots.f k a0_7 l1).bind fun t151 => (some t151)
theorem contangoref14_Check.mono : ∀ a0 a1 a2 a3 a4 a5 a6 a7 a8 a9 a10 a11 a12 a13 k, LeO (contangoref14_Check.f k a0 a1 a2 a3 a4 a5 a6 a7 a8 a9 a10 a11 a12 a13) (contangoref14_Check.f (k + 1) a0 a1 a2 a3 a4 a5 a6 a7 a8 a9 a10 a11 a12 a13) := by
  intro a0 a1 a2 a3 a4 a5 a6 a7 a8 a9 a10 a11 a12 a13 k
  unfold contangoref14_Check.f
  repeat' first
      | (with_reducible exact contangoref14_lots.mono _ _ _)
      | (with_reducible exact LeO.refl _)
      | (with_reducible exact LeO.none _)
      | (with_reducible refine LeO.ite ?_ ?_)
      | (with_reducible refine LeO.bind ?_ (fun _ => ?_))
      | exact contangoref14_lots.mono _ _ _
      | exact LeO.none _
      | refine LeO.ite ?_ ?_
      | refine LeO.bind ?_ (fun _ => ?_)
set_option maxHeartbeats 8000000 in
set_option maxRecDepth 100000 in
theorem contangoref14_Check.calls (k : Nat) (a0_0 : Int) (a0_1 : Int) (a0_2 : Int) (a0_3 : ByteArray) (a0_4 : Int) (a0_5 : Int) (a0_6 : Int) (a0_7 : Int) (a0_8 : Int) (a0_9 : ByteArray) (a0_10 : ByteArray) (a0_11 : ByteArray) (a0_12 : ByteArray) (A1 : Option Addr) (c1 : Nat) (l1 : List (S44)) (r : Int) (w : World) (hr1 : Kd.C k44 w A1 l1.length l1) (hc1 : l1.length ≤ c1) (h : contangoref14_Check.f k a0_0 a0_1 a0_2 a0_3 a0_4 a0_5 a0_6 a0_7 a0_8 a0_9 a0_10 a0_11 a0_12 l1 = some r) :
    Calls Try.prog 20 #[.agg #[.int .i64 a0_0, .int .i64 a0_1, .int .i64 a0_2, .string a0_3, .int .i64 a0_4, .int .i64 a0_5, .int .i64 a0_6, .int .i64 a0_7, .int .i64 a0_8, .string a0_9, .string a0_10, .string a0_11, .string a0_12], .slice A1 l1.length c1] w fun e w' => e = .returned (.int .i64 r) ∧ Below w.heap.size w w' := by
  have hu42 := Try.underlying42
  have HR1 := Aside0.mk hr1
  have HC1 := Aside0.mk hc1
  clear hr1 hc1
  have HB := Aside0.mk (Below.refl w.heap.size w)
  have H : ((contangoref14_lots.f k a0_7 l1).bind fun t151 => (some t151)) = some r := h
  clear h
  replace H := Option.bind_eq_some_iff.mp H
  obtain ⟨t151, A30, H⟩ := H
  replace H : (some t151) = some r := H
  have A3 := Aside0.mk A30
  clear A30
  obtain rfl := Option.some.inj H
  go_enter Try.func20, Try.ntmps20
  go_wp2_with (first | ((with_reducible refine gate_dst (N := 2) rfl ?_); refine box_event ?hg (N := 2) ?hd (cs := #[.int .i64 a0_0, .int .i64 a0_1, .int .i64 a0_2, .string a0_3, .int .i64 a0_4, .int .i64 a0_5, .int .i64 a0_6, .int .i64 a0_7, .int .i64 a0_8, .string a0_9, .string a0_10, .string a0_11, .string a0_12]) (t := 42) ?hr ?_; (case hd => rfl); (case hg => rfl); (case hr => first | (go_simp; done) | (go_simp; rfl)); intro gb150 hg w4 hbox hb; have n0_ := Aside0.mk (below_step (by repeat (first | (with_reducible first | exact HB.out | apply below_alloc | apply pw_below_drewN | apply below_drew1) | exact HB.out)) hb); have n1_ := Aside0.mk (hbox); have n2_ := Aside0.mk ((by rw [hg]; exact (below_size (by repeat (first | (with_reducible first | exact HB.out | apply below_alloc | apply pw_below_drewN | apply below_drew1) | exact HB.out))) : w.heap.size ≤ gb150)); have n3_ := Aside0.mk ((by rw [hg]; exact (below_size (by repeat (first | (with_reducible first | exact HB.out | apply below_alloc | apply pw_below_drewN | apply below_drew1) | exact HB.out))) : w.heap.size ≤ gb150)); clear HB; have HB := n0_; have BK150 := n1_; have GW150 := n2_; have GE150 := n3_; clear n0_ n1_ n2_ n3_; clear hb hbox hg; have hcz5_0 : w4.cell? ⟨gb150, 0, none⟩ = some (.int .i64 a0_0) := (blk_cell BK150.out 0).trans rfl; have hcz5_1 : w4.cell? ⟨gb150, 1, none⟩ = some (.int .i64 a0_1) := (blk_cell BK150.out 1).trans rfl; have hcz5_2 : w4.cell? ⟨gb150, 2, none⟩ = some (.int .i64 a0_2) := (blk_cell BK150.out 2).trans rfl; have hcz5_3 : w4.cell? ⟨gb150, 3, none⟩ = some (.string a0_3) := (blk_cell BK150.out 3).trans rfl; have hcz5_4 : w4.cell? ⟨gb150, 4, none⟩ = some (.int .i64 a0_4) := (blk_cell BK150.out 4).trans rfl; have hcz5_5 : w4.cell? ⟨gb150, 5, none⟩ = some (.int .i64 a0_5) := (blk_cell BK150.out 5).trans rfl; have hcz5_6 : w4.cell? ⟨gb150, 6, none⟩ = some (.int .i64 a0_6) := (blk_cell BK150.out 6).trans rfl; have hcz5_7 : w4.cell? ⟨gb150, 7, none⟩ = some (.int .i64 a0_7) := (blk_cell BK150.out 7).trans rfl; have hcz5_8 : w4.cell? ⟨gb150, 8, none⟩ = some (.int .i64 a0_8) := (blk_cell BK150.out 8).trans rfl; have hcz5_9 : w4.cell? ⟨gb150, 9, none⟩ = some (.string a0_9) := (blk_cell BK150.out 9).trans rfl; have hcz5_10 : w4.cell? ⟨gb150, 10, none⟩ = some (.string a0_10) := (blk_cell BK150.out 10).trans rfl; have hcz5_11 : w4.cell? ⟨gb150, 11, none⟩ = some (.string a0_11) := (blk_cell BK150.out 11).trans rfl; have hcz5_12 : w4.cell? ⟨gb150, 12, none⟩ = some (.string a0_12) := (blk_cell BK150.out 12).trans rfl; have hfz5_0 := blk_frozen BK150.out 0; have hfz5_1 := blk_frozen BK150.out 1; have hfz5_2 := blk_frozen BK150.out 2; have hfz5_3 := blk_frozen BK150.out 3; have hfz5_4 := blk_frozen BK150.out 4; have hfz5_5 := blk_frozen BK150.out 5; have hfz5_6 := blk_frozen BK150.out 6; have hfz5_7 := blk_frozen BK150.out 7; have hfz5_8 := blk_frozen BK150.out 8; have hfz5_9 := blk_frozen BK150.out 9; have hfz5_10 := blk_frozen BK150.out 10; have hfz5_11 := blk_frozen BK150.out 11; have hfz5_12 := blk_frozen BK150.out 12) | ((with_reducible refine gate_callee (f := 26) rfl ?_); refine goesL_ (some 8) rfl rfl Try.func26 (by kernel_rfl) rfl #[.int .i64 a0_7, .slice A1 l1.length c1] rfl (by (try simp only [List.map_toArray, List.map_cons, List.map_nil]); first | done | rfl | (simp only [List.length_drop, List.length_take]; rfl)) ?_; (with_reducible refine (contangoref14_lots.calls k a0_7 _ _ l1 t151 _ ?side1 ?side2 A3.out).mono ?_); (case side1 => repeat (first | exact (Kd.C_below HR1.out HB.out) | (with_reducible refine Kd.C_alloc ?_ _) | (with_reducible refine Kd.C_drewN ?_ _) | (with_reducible refine Kd.C_drew ?_))); (case side2 => exact HC1.out); rintro e w' ⟨rfl, ⟨nd, rfl⟩⟩; refine ⟨_, rfl, ?_⟩))
  go_ret
  exact ⟨by first | rfl | (simp [errW_none, errW_some] <;> rfl) | (simp [*, errW_none, errW_some] <;> rfl), by repeat (first | (with_reducible first | exact HB.out | apply below_alloc | apply pw_below_drewN | apply below_drew1 | refine below_set ?_ GE150.out) | exact HB.out)⟩

end Go.Proofs.Ytaffedkheehplaa.PGiveupDivides
