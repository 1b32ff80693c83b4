/- Laid for this claim by a program of this session's (wip/mkprint.py, wip/ext.py); not trusted: Lean checks it. -/
import Derived.Test.YtaffedkheehplaaPGiveupKeepsx0
import Derived.Test.YtaffedkheehplaaPGiveupKeepsx1
import Derived.Test.YtaffedkheehplaaPGiveupKeepsx2
import Derived.Test.YtaffedkheehplaaPGiveupKeepsx4
namespace Go.Proofs.Ytaffedkheehplaa.PGiveupKeeps
open Go.RowKit Go.Proofs.YtaffedkheehplaaW.PrintWords Go.Proofs.YtaffedkheehplaaW.PrintLast Go.Proofs.YtaffedkheehplaaW.PrintMore
attribute [local go_sem] max2_int min2_int max_two min_two max_three min_three max_four min_four   -- for this text's walks alone
set_option linter.unusedVariables false
set_option linter.unusedSimpArgs false

/-! ### giveup_Divide: function 16 -/
attribute [local go_sem high] accA
def otherT (t : S42) (b : Bool) : S40 := if b = true then t.f7 else t.f6
def mkT (t : S42) (b : Bool) (id : Int) (p : S44) : S42 := if b = true then ⟨id, t.f1, t.f2, t.f3, p.f1, t.f5, p.f0, t.f7⟩ else ⟨id, t.f1, t.f2, t.f3, p.f1, t.f5, t.f6, p.f0⟩
def divGo (t : S42) (b : Bool) (first : Int) : Nat → List S42 → List S44 → List S42 × Int
  | _, xs, [] => (xs, 0)
  | i, xs, p :: l => if accEq p.f0 (otherT t b) = true then ([], 21) else divGo t b first (i + 1) (xs ++ [mkT t b (first + (i : Int)) p]) l
def divV (t : S42) (b : Bool) (l : List S44) (first : Int) : List S42 × Int :=
  if partV t.f4 l = 0 then (if first < 1 ∨ first > 1152921504606846976 - (l.length : Int) + 1 then ([], 2) else divGo t b first 0 [] l) else ([], partV t.f4 l)
def giveup_Divide.f (a0_0 : Int) (a0_1 : Int) (a0_2 : Int) (a0_3 : ByteArray) (a0_4 : Int) (a0_5 : Int) (a0_6 : Int) (a0_7 : Int) (a0_8 : Int) (a0_9 : ByteArray) (a0_10 : ByteArray) (a0_11 : ByteArray) (a0_12 : ByteArray) (a1 : Bool) (l2 : List (S44)) (a3 : Int) : Option ((List (S42)) × Int) := some (divV ⟨a0_0, a0_1, a0_2, ⟨a0_3, a0_4, a0_5, a0_6⟩, a0_7, a0_8, ⟨a0_9, a0_10⟩, ⟨a0_11, a0_12⟩⟩ a1 l2 a3)

set_option maxHeartbeats 16000000 in
set_option maxRecDepth 100000 in
theorem div_true (t : S42) (A2 : Option Addr) (c2 : Nat) (l : List (S44)) (a3 : Int) (r1 : List (S42)) (r2 : Int) (w : World) (hr2 : Kd.C k44 w A2 l.length l) (hc2 : l.length ≤ c2) (hp0 : partV t.f4 l = 0) (h1 : 1 ≤ a3) (h2 : a3 ≤ 1152921504606846976 - (l.length : Int) + 1) (hlen : l.length ≤ 1024) (h : divGo t true a3 0 [] l = (r1, r2)) :
    Calls Try.prog 16 #[.agg #[.int .i64 t.f0, .int .i64 t.f1, .int .i64 t.f2, .string t.f3.f0, .int .i64 t.f3.f1, .int .i64 t.f3.f2, .int .i64 t.f3.f3, .int .i64 t.f4, .int .i64 t.f5, .string t.f6.f0, .string t.f6.f1, .string t.f7.f0, .string t.f7.f1], .bool true, .slice A2 l.length c2, .int .i64 a3] w fun e w' => ∃ v0_ : Value, e = .returned (.tuple #[v0_, .int .i64 r2]) ∧ Kd.R k42 42 w' w.heap.size (fun _ => True) v0_ r1 ∧ Below w.heap.size w w' := by
  have hu42 := Try.underlying42
  have hu40 := Try.underlying40
  have d1 : decide (a3 < 1) = false := decide_eq_false (by omega)
  have d2 : decide (1152921504606846976 - (l.length : Int) + 1 < a3) = false := decide_eq_false (by omega)
  have HR := Aside0.mk hr2
  have HCHK := Aside0.mk (show giveup_Check.f t.f0 t.f1 t.f2 t.f3.f0 t.f3.f1 t.f3.f2 t.f3.f3 t.f4 t.f5 t.f6.f0 t.f6.f1 t.f7.f0 t.f7.f1 l = some 0 from by unfold giveup_Check.f giveup_parted.f; rw [hp0]; rfl)
  have HRES := Aside0.mk h
  have HC2 := Aside0.mk hc2
  clear hr2 h hp0 hc2
  go_enter Try.func16, Try.ntmps16
  go_wp2_with fail
  refine (giveup_Check.calls t.f0 t.f1 t.f2 t.f3.f0 t.f3.f1 t.f3.f2 t.f3.f3 t.f4 t.f5 t.f6.f0 t.f6.f1 t.f7.f0 t.f7.f1 A2 c2 l 0 _ (Kd.C_alloc HR.out _) HC2.out HCHK.out).mono ?_
  rintro e w2 ⟨rfl, hd⟩
  have HB := Aside0.mk (below_step (below_alloc (Below.refl w.heap.size w) _) hd)
  have HT := Aside0.mk (blk_below (blk_new w (.cells #[.int .i64 t.f0, .int .i64 t.f1, .int .i64 t.f2, .string t.f3.f0, .int .i64 t.f3.f1, .int .i64 t.f3.f2, .int .i64 t.f3.f3, .int .i64 t.f4, .int .i64 t.f5, .string t.f6.f0, .string t.f6.f1, .string t.f7.f0, .string t.f7.f1] 42 (0, 0))) hd)
  clear hd
  go_wp2_with fail
  go_loopw [8, 33] (fun v8 v33 wr => ∃ (i : Nat) (xs : List S42), i ≤ l.length ∧ xs.length = i ∧ v33 = .int .i64 (i : Int) ∧ Aside0 (divGo t true a3 i xs (l.drop i) = (r1, r2)) ∧ Aside0 (Kd.R k42 42 wr w.heap.size (fun k_ => k_ ≠ w.heap.size) v8 xs) ∧ Aside0 (wr.heap[w.heap.size]? = some (.cells #[.int .i64 t.f0, .int .i64 t.f1, .int .i64 t.f2, .string t.f3.f0, .int .i64 t.f3.f1, .int .i64 t.f3.f2, .int .i64 t.f3.f3, .int .i64 t.f4, .int .i64 t.f5, .string t.f6.f0, .string t.f6.f1, .string t.f7.f0, .string t.f7.f1] 42 (0, 0))) ∧ Aside0 (Below w.heap.size w wr)) (fun _ v33 _ => l.length - (intOf v33).toNat)
  case atStart => exact ⟨0, [], by omega, rfl, rfl, ⟨by rw [List.drop_zero]; exact HRES.out⟩, ⟨Kd.R_nil _ _ _ _ _⟩, HT, HB⟩
  case round =>
    clear HB HT HRES
    obtain ⟨i, xs, hi, hxl, rfl, HRES, HO, HT, HB⟩ := hrel
    have HB0 := HB
    by_cases hlt : i < l.length
    · obtain ⟨ad, ex, hx0, hx1, hx2⟩ := at_T44 (Kd.C_below HR.out HB.out) (i : Int) (by omega) (by omega)
      cases ex
      simp only [Int.toNat_natCast] at hx0 hx1 hx2
      have hlti : (i : Int) < (l.length : Int) := by omega
      have hres := HRES.out
      rw [drop_T44 l i hlt, divGo] at hres
      generalize rd_T44 l (i : Int) = p at *
      have hz0 : wr.cell? ⟨w.heap.size, 0, none⟩ = some (.int .i64 t.f0) := (blk_cell HT.out 0).trans rfl
      have hz1 : wr.cell? ⟨w.heap.size, 1, none⟩ = some (.int .i64 t.f1) := (blk_cell HT.out 1).trans rfl
      have hz2 : wr.cell? ⟨w.heap.size, 2, none⟩ = some (.int .i64 t.f2) := (blk_cell HT.out 2).trans rfl
      have hz3 : wr.cell? ⟨w.heap.size, 3, none⟩ = some (.string t.f3.f0) := (blk_cell HT.out 3).trans rfl
      have hz4 : wr.cell? ⟨w.heap.size, 4, none⟩ = some (.int .i64 t.f3.f1) := (blk_cell HT.out 4).trans rfl
      have hz5 : wr.cell? ⟨w.heap.size, 5, none⟩ = some (.int .i64 t.f3.f2) := (blk_cell HT.out 5).trans rfl
      have hz6 : wr.cell? ⟨w.heap.size, 6, none⟩ = some (.int .i64 t.f3.f3) := (blk_cell HT.out 6).trans rfl
      have hz7 : wr.cell? ⟨w.heap.size, 7, none⟩ = some (.int .i64 t.f4) := (blk_cell HT.out 7).trans rfl
      have hz8 : wr.cell? ⟨w.heap.size, 8, none⟩ = some (.int .i64 t.f5) := (blk_cell HT.out 8).trans rfl
      have hz9 : wr.cell? ⟨w.heap.size, 9, none⟩ = some (.string t.f6.f0) := (blk_cell HT.out 9).trans rfl
      have hz10 : wr.cell? ⟨w.heap.size, 10, none⟩ = some (.string t.f6.f1) := (blk_cell HT.out 10).trans rfl
      have hz11 : wr.cell? ⟨w.heap.size, 11, none⟩ = some (.string t.f7.f0) := (blk_cell HT.out 11).trans rfl
      have hz12 : wr.cell? ⟨w.heap.size, 12, none⟩ = some (.string t.f7.f1) := (blk_cell HT.out 12).trans rfl
      have hlt0 := blk_lt HT.out
      have hn0 : w.heap.size ≠ wr.heap.size := by omega
      have hn0' : wr.heap.size ≠ w.heap.size := by omega
      have hn1 : w.heap.size ≠ wr.heap.size + 1 := by omega
      have hn1' : wr.heap.size + 1 ≠ w.heap.size := by omega
      have hn2 : w.heap.size ≠ wr.heap.size + 1 + 1 := by omega
      have hn2' : wr.heap.size + 1 + 1 ≠ w.heap.size := by omega
      have hq11 : (((wr.alloc (.cells #[.string p.f0.f0, .string p.f0.f1, .int .i64 p.f1] 44)).alloc (.cells #[.int .i64 (a3 + (i : Int)), .int .i64 t.f1, .int .i64 t.f2, .string t.f3.f0, .int .i64 t.f3.f1, .int .i64 t.f3.f2, .int .i64 t.f3.f3, .int .i64 p.f1, .int .i64 t.f5, .string t.f6.f0, .string t.f6.f1, .string t.f7.f0, .string t.f7.f1] 42)).alloc (.cells #[.string ⟨#[]⟩, .string ⟨#[]⟩] 40)).cell? ⟨w.heap.size, 11, none⟩ = some (.string t.f7.f0) := (blk_cell (blk_alloc (blk_alloc (blk_alloc HT.out _) _) _) 11).trans rfl
      have hq12 : (((wr.alloc (.cells #[.string p.f0.f0, .string p.f0.f1, .int .i64 p.f1] 44)).alloc (.cells #[.int .i64 (a3 + (i : Int)), .int .i64 t.f1, .int .i64 t.f2, .string t.f3.f0, .int .i64 t.f3.f1, .int .i64 t.f3.f2, .int .i64 t.f3.f3, .int .i64 p.f1, .int .i64 t.f5, .string t.f6.f0, .string t.f6.f1, .string t.f7.f0, .string t.f7.f1] 42)).alloc (.cells #[.string ⟨#[]⟩, .string ⟨#[]⟩] 40)).cell? ⟨w.heap.size, 12, none⟩ = some (.string t.f7.f1) := (blk_cell (blk_alloc (blk_alloc (blk_alloc HT.out _) _) _) 12).trans rfl
      have hq9 : (((wr.alloc (.cells #[.string p.f0.f0, .string p.f0.f1, .int .i64 p.f1] 44)).alloc (.cells #[.int .i64 (a3 + (i : Int)), .int .i64 t.f1, .int .i64 t.f2, .string t.f3.f0, .int .i64 t.f3.f1, .int .i64 t.f3.f2, .int .i64 t.f3.f3, .int .i64 p.f1, .int .i64 t.f5, .string t.f6.f0, .string t.f6.f1, .string t.f7.f0, .string t.f7.f1] 42)).alloc (.cells #[.string t.f7.f0, .string t.f7.f1] 40)).cell? ⟨w.heap.size, 9, none⟩ = some (.string t.f6.f0) := (blk_cell (blk_alloc (blk_alloc (blk_alloc HT.out _) _) _) 9).trans rfl
      have hq10 : (((wr.alloc (.cells #[.string p.f0.f0, .string p.f0.f1, .int .i64 p.f1] 44)).alloc (.cells #[.int .i64 (a3 + (i : Int)), .int .i64 t.f1, .int .i64 t.f2, .string t.f3.f0, .int .i64 t.f3.f1, .int .i64 t.f3.f2, .int .i64 t.f3.f3, .int .i64 p.f1, .int .i64 t.f5, .string t.f6.f0, .string t.f6.f1, .string t.f7.f0, .string t.f7.f1] 42)).alloc (.cells #[.string t.f7.f0, .string t.f7.f1] 40)).cell? ⟨w.heap.size, 10, none⟩ = some (.string t.f6.f1) := (blk_cell (blk_alloc (blk_alloc (blk_alloc HT.out _) _) _) 10).trans rfl
      have hn3 : w.heap.size ≠ wr.heap.size + 2 := by omega
      have hn3' : wr.heap.size + 2 ≠ w.heap.size := by omega
      by_cases hc : accEq p.f0 (otherT t true) = true
      · rw [if_pos hc] at hres
        simp only [Prod.mk.injEq] at hres
        obtain ⟨rfl, rfl⟩ := hres
        have hc' : (p.f0.f0.toList == t.f7.f0.toList && (p.f0.f1.toList == t.f7.f1.toList)) = true := hc
        go_wp2_with fail
        go_region
        go_wp2_with fail
        go_region
        go_wp2_with fail
        go_ret2
        exact ⟨_, rfl, Kd.R_nil _ _ _ _ _, by repeat (first | exact HB.out | apply below_drew1 | apply below_alloc)⟩
      · rw [if_neg hc] at hres
        have hc' : (p.f0.f0.toList == t.f7.f0.toList && (p.f0.f1.toList == t.f7.f1.toList)) = false := Bool.eq_false_iff.2 hc
        have HRES2 := Aside0.mk hres
        clear hres HRES
        go_wp2_with fail
        go_region
        go_wp2_with fail
        go_region
        go_upto_region 17 with fail
        obtain ⟨W5, hW5⟩ : ∃ W5 : World, W5 = (((wr.alloc (.cells #[.string p.f0.f0, .string p.f0.f1, .int .i64 p.f1] 44)).alloc (.cells #[.int .i64 (a3 + (i : Int)), .int .i64 t.f1, .int .i64 t.f2, .string t.f3.f0, .int .i64 t.f3.f1, .int .i64 t.f3.f2, .int .i64 t.f3.f3, .int .i64 p.f1, .int .i64 t.f5, .string p.f0.f0, .string p.f0.f1, .string t.f7.f0, .string t.f7.f1] 42)).alloc (.cells #[.string t.f7.f0, .string t.f7.f1] 40)).drew.drew := ⟨_, rfl⟩
        rw [← hW5]
        have hb5 : Below wr.heap.size wr W5 := by rw [hW5]; exact below_drew1 (below_drew1 (below_alloc (below_alloc (below_alloc (Below.refl _ _) _) _) _))
        have hx5 : W5.heap[wr.heap.size + 1]? = some (.cells #[.int .i64 (a3 + (i : Int)), .int .i64 t.f1, .int .i64 t.f2, .string t.f3.f0, .int .i64 t.f3.f1, .int .i64 t.f3.f2, .int .i64 t.f3.f3, .int .i64 p.f1, .int .i64 t.f5, .string p.f0.f0, .string p.f0.f1, .string t.f7.f0, .string t.f7.f1] 42 (0, 0)) := by
          rw [hW5]
          exact blk_drew (blk_drew (blk_alloc (by rw [show wr.heap.size + 1 = (wr.alloc (.cells #[.string p.f0.f0, .string p.f0.f1, .int .i64 p.f1] 44)).heap.size by simp]; exact blk_new _ _) _))
        have ht5 := Aside0.mk (blk_below HT.out hb5)
        have ho5 := Aside0.mk (Kd.R_below HO.out hb5)
        have HB5 := Aside0.mk (below_step HB.out hb5)
        have hs5 : w.heap.size ≤ W5.heap.size := below_size HB5.out
        have hx5_0 : W5.cell? ⟨wr.heap.size + 1, 0, none⟩ = some (.int .i64 (a3 + (i : Int))) := (blk_cell hx5 0).trans rfl
        have hx5_1 : W5.cell? ⟨wr.heap.size + 1, 1, none⟩ = some (.int .i64 t.f1) := (blk_cell hx5 1).trans rfl
        have hx5_2 : W5.cell? ⟨wr.heap.size + 1, 2, none⟩ = some (.int .i64 t.f2) := (blk_cell hx5 2).trans rfl
        have hx5_3 : W5.cell? ⟨wr.heap.size + 1, 3, none⟩ = some (.string t.f3.f0) := (blk_cell hx5 3).trans rfl
        have hx5_4 : W5.cell? ⟨wr.heap.size + 1, 4, none⟩ = some (.int .i64 t.f3.f1) := (blk_cell hx5 4).trans rfl
        have hx5_5 : W5.cell? ⟨wr.heap.size + 1, 5, none⟩ = some (.int .i64 t.f3.f2) := (blk_cell hx5 5).trans rfl
        have hx5_6 : W5.cell? ⟨wr.heap.size + 1, 6, none⟩ = some (.int .i64 t.f3.f3) := (blk_cell hx5 6).trans rfl
        have hx5_7 : W5.cell? ⟨wr.heap.size + 1, 7, none⟩ = some (.int .i64 p.f1) := (blk_cell hx5 7).trans rfl
        have hx5_8 : W5.cell? ⟨wr.heap.size + 1, 8, none⟩ = some (.int .i64 t.f5) := (blk_cell hx5 8).trans rfl
        have hx5_9 : W5.cell? ⟨wr.heap.size + 1, 9, none⟩ = some (.string p.f0.f0) := (blk_cell hx5 9).trans rfl
        have hx5_10 : W5.cell? ⟨wr.heap.size + 1, 10, none⟩ = some (.string p.f0.f1) := (blk_cell hx5 10).trans rfl
        have hx5_11 : W5.cell? ⟨wr.heap.size + 1, 11, none⟩ = some (.string t.f7.f0) := (blk_cell hx5 11).trans rfl
        have hx5_12 : W5.cell? ⟨wr.heap.size + 1, 12, none⟩ = some (.string t.f7.f1) := (blk_cell hx5 12).trans rfl
        clear hx5 hb5 hW5 HT HO HB
        generalize wr.heap.size = gw at *
        go_wp2_with ((with_reducible refine gate_builtin (b := .append) (xs := #[.tmp 62, .tmp 64]) rfl ?_); (try (refine gate_guard (by rfl) ?_; dsimp only)); at_builtin; refine Kd.R_append k42 (w0 := w) w.heap.size rfl (.tmp 62) (.tmp 64) 22 42 (.agg #[(.int .i64 0), (.int .i64 0), (.int .i64 0), (.string ⟨#[]⟩), (.int .i64 0), (.int .i64 0), (.int .i64 0), (.int .i64 0), (.int .i64 0), (.string ⟨#[]⟩), (.string ⟨#[]⟩), (.string ⟨#[]⟩), (.string ⟨#[]⟩)]) 144 rfl Try.underlying22 info42 rfl (by decide) (by omega) u8 xs (mkT t true (a3 + (i : Int)) p) [.int .i64 (a3 + (i : Int)), .int .i64 t.f1, .int .i64 t.f2, .string t.f3.f0, .int .i64 t.f3.f1, .int .i64 t.f3.f2, .int .i64 t.f3.f3, .int .i64 p.f1, .int .i64 t.f5, .string p.f0.f0, .string p.f0.f1, .string t.f7.f0, .string t.f7.f1] (fun k_ => k_ ≠ w.heap.size) (fun _ => False) rfl (by first | (go_simp; done) | (go_simp; rfl)) ?aP (fun _ hk => hk.elim) ?aF ?aO ?aB ?aS ?aL ?_; (case aP => exact k42_mkM _ _ _ (mkT t true (a3 + (i : Int)) p)); (case aF => intro k_ hk; have := blk_lt ht5.out; omega); (case aO => exact ho5.out); (case aB => exact HB5.out); (case aS => exact hs5); (case aL => omega); intro v164 w28 ho hb hg hat; have n0_ := Aside0.mk (blk_grown ht5.out hg (Kd.R_away ho5.out (fun _ hk => hk))); have n1_ := Aside0.mk hb; have n2_ := Aside0.mk ho; clear ho hb hg hat)
        go_roundw
        case measure => show _ < _; simp [intOf]; omega
        case rel => exact ⟨i + 1, xs ++ [(mkT t true (a3 + (i : Int)) p)], by omega, by rw [List.length_append]; simp; omega, by go_num, HRES2, n2_, n0_, n1_⟩
    · obtain rfl : i = l.length := by omega
      have hres := HRES.out
      rw [List.drop_length, divGo] at hres
      simp only [Prod.mk.injEq] at hres
      obtain ⟨rfl, rfl⟩ := hres
      go_wp2_with fail
      go_ret2
      exact ⟨_, rfl, Kd.R_mono HO.out (fun _ _ => trivial), HB.out⟩

set_option maxHeartbeats 16000000 in
set_option maxRecDepth 100000 in
theorem div_false (t : S42) (A2 : Option Addr) (c2 : Nat) (l : List (S44)) (a3 : Int) (r1 : List (S42)) (r2 : Int) (w : World) (hr2 : Kd.C k44 w A2 l.length l) (hc2 : l.length ≤ c2) (hp0 : partV t.f4 l = 0) (h1 : 1 ≤ a3) (h2 : a3 ≤ 1152921504606846976 - (l.length : Int) + 1) (hlen : l.length ≤ 1024) (h : divGo t false a3 0 [] l = (r1, r2)) :
    Calls Try.prog 16 #[.agg #[.int .i64 t.f0, .int .i64 t.f1, .int .i64 t.f2, .string t.f3.f0, .int .i64 t.f3.f1, .int .i64 t.f3.f2, .int .i64 t.f3.f3, .int .i64 t.f4, .int .i64 t.f5, .string t.f6.f0, .string t.f6.f1, .string t.f7.f0, .string t.f7.f1], .bool false, .slice A2 l.length c2, .int .i64 a3] w fun e w' => ∃ v0_ : Value, e = .returned (.tuple #[v0_, .int .i64 r2]) ∧ Kd.R k42 42 w' w.heap.size (fun _ => True) v0_ r1 ∧ Below w.heap.size w w' := by
  have hu42 := Try.underlying42
  have hu40 := Try.underlying40
  have d1 : decide (a3 < 1) = false := decide_eq_false (by omega)
  have d2 : decide (1152921504606846976 - (l.length : Int) + 1 < a3) = false := decide_eq_false (by omega)
  have HR := Aside0.mk hr2
  have HCHK := Aside0.mk (show giveup_Check.f t.f0 t.f1 t.f2 t.f3.f0 t.f3.f1 t.f3.f2 t.f3.f3 t.f4 t.f5 t.f6.f0 t.f6.f1 t.f7.f0 t.f7.f1 l = some 0 from by unfold giveup_Check.f giveup_parted.f; rw [hp0]; rfl)
  have HRES := Aside0.mk h
  have HC2 := Aside0.mk hc2
  clear hr2 h hp0 hc2
  go_enter Try.func16, Try.ntmps16
  go_wp2_with fail
  refine (giveup_Check.calls t.f0 t.f1 t.f2 t.f3.f0 t.f3.f1 t.f3.f2 t.f3.f3 t.f4 t.f5 t.f6.f0 t.f6.f1 t.f7.f0 t.f7.f1 A2 c2 l 0 _ (Kd.C_alloc HR.out _) HC2.out HCHK.out).mono ?_
  rintro e w2 ⟨rfl, hd⟩
  have HB := Aside0.mk (below_step (below_alloc (Below.refl w.heap.size w) _) hd)
  have HT := Aside0.mk (blk_below (blk_new w (.cells #[.int .i64 t.f0, .int .i64 t.f1, .int .i64 t.f2, .string t.f3.f0, .int .i64 t.f3.f1, .int .i64 t.f3.f2, .int .i64 t.f3.f3, .int .i64 t.f4, .int .i64 t.f5, .string t.f6.f0, .string t.f6.f1, .string t.f7.f0, .string t.f7.f1] 42 (0, 0))) hd)
  clear hd
  go_wp2_with fail
  go_loopw [8, 33] (fun v8 v33 wr => ∃ (i : Nat) (xs : List S42), i ≤ l.length ∧ xs.length = i ∧ v33 = .int .i64 (i : Int) ∧ Aside0 (divGo t false a3 i xs (l.drop i) = (r1, r2)) ∧ Aside0 (Kd.R k42 42 wr w.heap.size (fun k_ => k_ ≠ w.heap.size) v8 xs) ∧ Aside0 (wr.heap[w.heap.size]? = some (.cells #[.int .i64 t.f0, .int .i64 t.f1, .int .i64 t.f2, .string t.f3.f0, .int .i64 t.f3.f1, .int .i64 t.f3.f2, .int .i64 t.f3.f3, .int .i64 t.f4, .int .i64 t.f5, .string t.f6.f0, .string t.f6.f1, .string t.f7.f0, .string t.f7.f1] 42 (0, 0))) ∧ Aside0 (Below w.heap.size w wr)) (fun _ v33 _ => l.length - (intOf v33).toNat)
  case atStart => exact ⟨0, [], by omega, rfl, rfl, ⟨by rw [List.drop_zero]; exact HRES.out⟩, ⟨Kd.R_nil _ _ _ _ _⟩, HT, HB⟩
  case round =>
    clear HB HT HRES
    obtain ⟨i, xs, hi, hxl, rfl, HRES, HO, HT, HB⟩ := hrel
    have HB0 := HB
    by_cases hlt : i < l.length
    · obtain ⟨ad, ex, hx0, hx1, hx2⟩ := at_T44 (Kd.C_below HR.out HB.out) (i : Int) (by omega) (by omega)
      cases ex
      simp only [Int.toNat_natCast] at hx0 hx1 hx2
      have hlti : (i : Int) < (l.length : Int) := by omega
      have hres := HRES.out
      rw [drop_T44 l i hlt, divGo] at hres
      generalize rd_T44 l (i : Int) = p at *
      have hz0 : wr.cell? ⟨w.heap.size, 0, none⟩ = some (.int .i64 t.f0) := (blk_cell HT.out 0).trans rfl
      have hz1 : wr.cell? ⟨w.heap.size, 1, none⟩ = some (.int .i64 t.f1) := (blk_cell HT.out 1).trans rfl
      have hz2 : wr.cell? ⟨w.heap.size, 2, none⟩ = some (.int .i64 t.f2) := (blk_cell HT.out 2).trans rfl
      have hz3 : wr.cell? ⟨w.heap.size, 3, none⟩ = some (.string t.f3.f0) := (blk_cell HT.out 3).trans rfl
      have hz4 : wr.cell? ⟨w.heap.size, 4, none⟩ = some (.int .i64 t.f3.f1) := (blk_cell HT.out 4).trans rfl
      have hz5 : wr.cell? ⟨w.heap.size, 5, none⟩ = some (.int .i64 t.f3.f2) := (blk_cell HT.out 5).trans rfl
      have hz6 : wr.cell? ⟨w.heap.size, 6, none⟩ = some (.int .i64 t.f3.f3) := (blk_cell HT.out 6).trans rfl
      have hz7 : wr.cell? ⟨w.heap.size, 7, none⟩ = some (.int .i64 t.f4) := (blk_cell HT.out 7).trans rfl
      have hz8 : wr.cell? ⟨w.heap.size, 8, none⟩ = some (.int .i64 t.f5) := (blk_cell HT.out 8).trans rfl
      have hz9 : wr.cell? ⟨w.heap.size, 9, none⟩ = some (.string t.f6.f0) := (blk_cell HT.out 9).trans rfl
      have hz10 : wr.cell? ⟨w.heap.size, 10, none⟩ = some (.string t.f6.f1) := (blk_cell HT.out 10).trans rfl
      have hz11 : wr.cell? ⟨w.heap.size, 11, none⟩ = some (.string t.f7.f0) := (blk_cell HT.out 11).trans rfl
      have hz12 : wr.cell? ⟨w.heap.size, 12, none⟩ = some (.string t.f7.f1) := (blk_cell HT.out 12).trans rfl
      have hlt0 := blk_lt HT.out
      have hn0 : w.heap.size ≠ wr.heap.size := by omega
      have hn0' : wr.heap.size ≠ w.heap.size := by omega
      have hn1 : w.heap.size ≠ wr.heap.size + 1 := by omega
      have hn1' : wr.heap.size + 1 ≠ w.heap.size := by omega
      have hn2 : w.heap.size ≠ wr.heap.size + 1 + 1 := by omega
      have hn2' : wr.heap.size + 1 + 1 ≠ w.heap.size := by omega
      have hq11 : (((wr.alloc (.cells #[.string p.f0.f0, .string p.f0.f1, .int .i64 p.f1] 44)).alloc (.cells #[.int .i64 (a3 + (i : Int)), .int .i64 t.f1, .int .i64 t.f2, .string t.f3.f0, .int .i64 t.f3.f1, .int .i64 t.f3.f2, .int .i64 t.f3.f3, .int .i64 p.f1, .int .i64 t.f5, .string t.f6.f0, .string t.f6.f1, .string t.f7.f0, .string t.f7.f1] 42)).alloc (.cells #[.string ⟨#[]⟩, .string ⟨#[]⟩] 40)).cell? ⟨w.heap.size, 11, none⟩ = some (.string t.f7.f0) := (blk_cell (blk_alloc (blk_alloc (blk_alloc HT.out _) _) _) 11).trans rfl
      have hq12 : (((wr.alloc (.cells #[.string p.f0.f0, .string p.f0.f1, .int .i64 p.f1] 44)).alloc (.cells #[.int .i64 (a3 + (i : Int)), .int .i64 t.f1, .int .i64 t.f2, .string t.f3.f0, .int .i64 t.f3.f1, .int .i64 t.f3.f2, .int .i64 t.f3.f3, .int .i64 p.f1, .int .i64 t.f5, .string t.f6.f0, .string t.f6.f1, .string t.f7.f0, .string t.f7.f1] 42)).alloc (.cells #[.string ⟨#[]⟩, .string ⟨#[]⟩] 40)).cell? ⟨w.heap.size, 12, none⟩ = some (.string t.f7.f1) := (blk_cell (blk_alloc (blk_alloc (blk_alloc HT.out _) _) _) 12).trans rfl
      have hq9 : (((wr.alloc (.cells #[.string p.f0.f0, .string p.f0.f1, .int .i64 p.f1] 44)).alloc (.cells #[.int .i64 (a3 + (i : Int)), .int .i64 t.f1, .int .i64 t.f2, .string t.f3.f0, .int .i64 t.f3.f1, .int .i64 t.f3.f2, .int .i64 t.f3.f3, .int .i64 p.f1, .int .i64 t.f5, .string t.f6.f0, .string t.f6.f1, .string t.f7.f0, .string t.f7.f1] 42)).alloc (.cells #[.string t.f7.f0, .string t.f7.f1] 40)).cell? ⟨w.heap.size, 9, none⟩ = some (.string t.f6.f0) := (blk_cell (blk_alloc (blk_alloc (blk_alloc HT.out _) _) _) 9).trans rfl
      have hq10 : (((wr.alloc (.cells #[.string p.f0.f0, .string p.f0.f1, .int .i64 p.f1] 44)).alloc (.cells #[.int .i64 (a3 + (i : Int)), .int .i64 t.f1, .int .i64 t.f2, .string t.f3.f0, .int .i64 t.f3.f1, .int .i64 t.f3.f2, .int .i64 t.f3.f3, .int .i64 p.f1, .int .i64 t.f5, .string t.f6.f0, .string t.f6.f1, .string t.f7.f0, .string t.f7.f1] 42)).alloc (.cells #[.string t.f7.f0, .string t.f7.f1] 40)).cell? ⟨w.heap.size, 10, none⟩ = some (.string t.f6.f1) := (blk_cell (blk_alloc (blk_alloc (blk_alloc HT.out _) _) _) 10).trans rfl
      have hn3 : w.heap.size ≠ wr.heap.size + 2 := by omega
      have hn3' : wr.heap.size + 2 ≠ w.heap.size := by omega
      by_cases hc : accEq p.f0 (otherT t false) = true
      · rw [if_pos hc] at hres
        simp only [Prod.mk.injEq] at hres
        obtain ⟨rfl, rfl⟩ := hres
        have hc' : (p.f0.f0.toList == t.f6.f0.toList && (p.f0.f1.toList == t.f6.f1.toList)) = true := hc
        go_wp2_with fail
        go_region
        go_wp2_with fail
        go_region
        go_wp2_with fail
        go_region
        go_wp2_with fail
        go_ret2
        exact ⟨_, rfl, Kd.R_nil _ _ _ _ _, by repeat (first | exact HB.out | apply below_drew1 | apply below_alloc)⟩
      · rw [if_neg hc] at hres
        have hc' : (p.f0.f0.toList == t.f6.f0.toList && (p.f0.f1.toList == t.f6.f1.toList)) = false := Bool.eq_false_iff.2 hc
        have HRES2 := Aside0.mk hres
        clear hres HRES
        go_wp2_with fail
        go_region
        go_wp2_with fail
        go_region
        go_wp2_with fail
        go_region
        go_upto_region 17 with fail
        obtain ⟨W5, hW5⟩ : ∃ W5 : World, W5 = (((wr.alloc (.cells #[.string p.f0.f0, .string p.f0.f1, .int .i64 p.f1] 44)).alloc (.cells #[.int .i64 (a3 + (i : Int)), .int .i64 t.f1, .int .i64 t.f2, .string t.f3.f0, .int .i64 t.f3.f1, .int .i64 t.f3.f2, .int .i64 t.f3.f3, .int .i64 p.f1, .int .i64 t.f5, .string t.f6.f0, .string t.f6.f1, .string p.f0.f0, .string p.f0.f1] 42)).alloc (.cells #[.string t.f6.f0, .string t.f6.f1] 40)).drew.drew.drew := ⟨_, rfl⟩
        rw [← hW5]
        have hb5 : Below wr.heap.size wr W5 := by rw [hW5]; exact below_drew1 (below_drew1 (below_drew1 (below_alloc (below_alloc (below_alloc (Below.refl _ _) _) _) _)))
        have hx5 : W5.heap[wr.heap.size + 1]? = some (.cells #[.int .i64 (a3 + (i : Int)), .int .i64 t.f1, .int .i64 t.f2, .string t.f3.f0, .int .i64 t.f3.f1, .int .i64 t.f3.f2, .int .i64 t.f3.f3, .int .i64 p.f1, .int .i64 t.f5, .string t.f6.f0, .string t.f6.f1, .string p.f0.f0, .string p.f0.f1] 42 (0, 0)) := by
          rw [hW5]
          exact blk_drew (blk_drew (blk_drew (blk_alloc (by rw [show wr.heap.size + 1 = (wr.alloc (.cells #[.string p.f0.f0, .string p.f0.f1, .int .i64 p.f1] 44)).heap.size by simp]; exact blk_new _ _) _)))
        have ht5 := Aside0.mk (blk_below HT.out hb5)
        have ho5 := Aside0.mk (Kd.R_below HO.out hb5)
        have HB5 := Aside0.mk (below_step HB.out hb5)
        have hs5 : w.heap.size ≤ W5.heap.size := below_size HB5.out
        have hx5_0 : W5.cell? ⟨wr.heap.size + 1, 0, none⟩ = some (.int .i64 (a3 + (i : Int))) := (blk_cell hx5 0).trans rfl
        have hx5_1 : W5.cell? ⟨wr.heap.size + 1, 1, none⟩ = some (.int .i64 t.f1) := (blk_cell hx5 1).trans rfl
        have hx5_2 : W5.cell? ⟨wr.heap.size + 1, 2, none⟩ = some (.int .i64 t.f2) := (blk_cell hx5 2).trans rfl
        have hx5_3 : W5.cell? ⟨wr.heap.size + 1, 3, none⟩ = some (.string t.f3.f0) := (blk_cell hx5 3).trans rfl
        have hx5_4 : W5.cell? ⟨wr.heap.size + 1, 4, none⟩ = some (.int .i64 t.f3.f1) := (blk_cell hx5 4).trans rfl
        have hx5_5 : W5.cell? ⟨wr.heap.size + 1, 5, none⟩ = some (.int .i64 t.f3.f2) := (blk_cell hx5 5).trans rfl
        have hx5_6 : W5.cell? ⟨wr.heap.size + 1, 6, none⟩ = some (.int .i64 t.f3.f3) := (blk_cell hx5 6).trans rfl
        have hx5_7 : W5.cell? ⟨wr.heap.size + 1, 7, none⟩ = some (.int .i64 p.f1) := (blk_cell hx5 7).trans rfl
        have hx5_8 : W5.cell? ⟨wr.heap.size + 1, 8, none⟩ = some (.int .i64 t.f5) := (blk_cell hx5 8).trans rfl
        have hx5_9 : W5.cell? ⟨wr.heap.size + 1, 9, none⟩ = some (.string t.f6.f0) := (blk_cell hx5 9).trans rfl
        have hx5_10 : W5.cell? ⟨wr.heap.size + 1, 10, none⟩ = some (.string t.f6.f1) := (blk_cell hx5 10).trans rfl
        have hx5_11 : W5.cell? ⟨wr.heap.size + 1, 11, none⟩ = some (.string p.f0.f0) := (blk_cell hx5 11).trans rfl
        have hx5_12 : W5.cell? ⟨wr.heap.size + 1, 12, none⟩ = some (.string p.f0.f1) := (blk_cell hx5 12).trans rfl
        clear hx5 hb5 hW5 HT HO HB
        generalize wr.heap.size = gw at *
        go_wp2_with ((with_reducible refine gate_builtin (b := .append) (xs := #[.tmp 62, .tmp 64]) rfl ?_); (try (refine gate_guard (by rfl) ?_; dsimp only)); at_builtin; refine Kd.R_append k42 (w0 := w) w.heap.size rfl (.tmp 62) (.tmp 64) 22 42 (.agg #[(.int .i64 0), (.int .i64 0), (.int .i64 0), (.string ⟨#[]⟩), (.int .i64 0), (.int .i64 0), (.int .i64 0), (.int .i64 0), (.int .i64 0), (.string ⟨#[]⟩), (.string ⟨#[]⟩), (.string ⟨#[]⟩), (.string ⟨#[]⟩)]) 144 rfl Try.underlying22 info42 rfl (by decide) (by omega) u8 xs (mkT t false (a3 + (i : Int)) p) [.int .i64 (a3 + (i : Int)), .int .i64 t.f1, .int .i64 t.f2, .string t.f3.f0, .int .i64 t.f3.f1, .int .i64 t.f3.f2, .int .i64 t.f3.f3, .int .i64 p.f1, .int .i64 t.f5, .string t.f6.f0, .string t.f6.f1, .string p.f0.f0, .string p.f0.f1] (fun k_ => k_ ≠ w.heap.size) (fun _ => False) rfl (by first | (go_simp; done) | (go_simp; rfl)) ?aP (fun _ hk => hk.elim) ?aF ?aO ?aB ?aS ?aL ?_; (case aP => exact k42_mkM _ _ _ (mkT t false (a3 + (i : Int)) p)); (case aF => intro k_ hk; have := blk_lt ht5.out; omega); (case aO => exact ho5.out); (case aB => exact HB5.out); (case aS => exact hs5); (case aL => omega); intro v164 w28 ho hb hg hat; have n0_ := Aside0.mk (blk_grown ht5.out hg (Kd.R_away ho5.out (fun _ hk => hk))); have n1_ := Aside0.mk hb; have n2_ := Aside0.mk ho; clear ho hb hg hat)
        go_roundw
        case measure => show _ < _; simp [intOf]; omega
        case rel => exact ⟨i + 1, xs ++ [(mkT t false (a3 + (i : Int)) p)], by omega, by rw [List.length_append]; simp; omega, by go_num, HRES2, n2_, n0_, n1_⟩
    · obtain rfl : i = l.length := by omega
      have hres := HRES.out
      rw [List.drop_length, divGo] at hres
      simp only [Prod.mk.injEq] at hres
      obtain ⟨rfl, rfl⟩ := hres
      go_wp2_with fail
      go_ret2
      exact ⟨_, rfl, Kd.R_mono HO.out (fun _ _ => trivial), HB.out⟩

set_option maxHeartbeats 16000000 in
set_option maxRecDepth 100000 in
theorem giveup_Divide.calls (a0_0 : Int) (a0_1 : Int) (a0_2 : Int) (a0_3 : ByteArray) (a0_4 : Int) (a0_5 : Int) (a0_6 : Int) (a0_7 : Int) (a0_8 : Int) (a0_9 : ByteArray) (a0_10 : ByteArray) (a0_11 : ByteArray) (a0_12 : ByteArray) (a1 : Bool) (A2 : Option Addr) (c2 : Nat) (l2 : List (S44)) (a3 : Int) (r1 : List (S42)) (r2 : Int) (w : World) (hr2 : Kd.C k44 w A2 l2.length l2) (hc2 : l2.length ≤ c2) (h : giveup_Divide.f a0_0 a0_1 a0_2 a0_3 a0_4 a0_5 a0_6 a0_7 a0_8 a0_9 a0_10 a0_11 a0_12 a1 l2 a3 = some (r1, r2)) :
    Calls Try.prog 16 #[.agg #[.int .i64 a0_0, .int .i64 a0_1, .int .i64 a0_2, .string a0_3, .int .i64 a0_4, .int .i64 a0_5, .int .i64 a0_6, .int .i64 a0_7, .int .i64 a0_8, .string a0_9, .string a0_10, .string a0_11, .string a0_12], .bool a1, .slice A2 l2.length c2, .int .i64 a3] w fun e w' => ∃ v0_ : Value, e = .returned (.tuple #[v0_, .int .i64 r2]) ∧ Kd.R k42 42 w' w.heap.size (fun _ => True) v0_ r1 ∧ Below w.heap.size w w' := by
  have hu42 := Try.underlying42
  have hu40 := Try.underlying40
  unfold giveup_Divide.f divV at h
  simp only [Option.some.injEq] at h
  by_cases hp0 : partV a0_7 l2 = 0
  · rw [if_pos hp0] at h
    have hlen : l2.length ≤ 1024 := by
      unfold partV at hp0
      by_cases k : l2.length = 0 ∨ l2.length > 1024
      · rw [if_pos k] at hp0; exact absurd hp0 (by decide)
      · omega
    have hchk : giveup_Check.f a0_0 a0_1 a0_2 a0_3 a0_4 a0_5 a0_6 a0_7 a0_8 a0_9 a0_10 a0_11 a0_12 l2 = some 0 := by unfold giveup_Check.f giveup_parted.f; rw [hp0]; rfl
    by_cases k : a3 < 1 ∨ a3 > 1152921504606846976 - (l2.length : Int) + 1
    · rw [if_pos k] at h
      simp only [Prod.mk.injEq] at h
      obtain ⟨rfl, rfl⟩ := h
      by_cases k1 : a3 < 1
      · have d1 : decide (a3 < 1) = true := decide_eq_true k1
        go_enter Try.func16, Try.ntmps16
        go_wp2_with fail
        refine (giveup_Check.calls a0_0 a0_1 a0_2 a0_3 a0_4 a0_5 a0_6 a0_7 a0_8 a0_9 a0_10 a0_11 a0_12 A2 c2 l2 0 _ (Kd.C_alloc hr2 _) hc2 hchk).mono ?_
        rintro e w2 ⟨rfl, hd⟩
        have HB := Aside0.mk (below_step (below_alloc (Below.refl w.heap.size w) _) hd)
        clear hd
        go_wp2_with fail
        go_ret2
        exact ⟨_, rfl, Kd.R_nil _ _ _ _ _, HB.out⟩
      · have d1 : decide (a3 < 1) = false := decide_eq_false k1
        have d2 : decide (1152921504606846976 - (l2.length : Int) + 1 < a3) = true := decide_eq_true (by omega)
        go_enter Try.func16, Try.ntmps16
        go_wp2_with fail
        refine (giveup_Check.calls a0_0 a0_1 a0_2 a0_3 a0_4 a0_5 a0_6 a0_7 a0_8 a0_9 a0_10 a0_11 a0_12 A2 c2 l2 0 _ (Kd.C_alloc hr2 _) hc2 hchk).mono ?_
        rintro e w2 ⟨rfl, hd⟩
        have HB := Aside0.mk (below_step (below_alloc (Below.refl w.heap.size w) _) hd)
        clear hd
        go_wp2_with fail
        go_ret2
        exact ⟨_, rfl, Kd.R_nil _ _ _ _ _, HB.out⟩
    · rw [if_neg k] at h
      cases a1 with
      | true => exact div_true (⟨a0_0, a0_1, a0_2, ⟨a0_3, a0_4, a0_5, a0_6⟩, a0_7, a0_8, ⟨a0_9, a0_10⟩, ⟨a0_11, a0_12⟩⟩ : S42) A2 c2 l2 a3 r1 r2 w hr2 hc2 hp0 (by omega) (by omega) hlen h
      | false => exact div_false (⟨a0_0, a0_1, a0_2, ⟨a0_3, a0_4, a0_5, a0_6⟩, a0_7, a0_8, ⟨a0_9, a0_10⟩, ⟨a0_11, a0_12⟩⟩ : S42) A2 c2 l2 a3 r1 r2 w hr2 hc2 hp0 (by omega) (by omega) hlen h
  · rw [if_neg hp0] at h
    simp only [Prod.mk.injEq] at h
    obtain ⟨rfl, rfl⟩ := h
    have hne : (partV a0_7 l2 != 0) = true := bne_iff_ne.mpr hp0
    have hchk : giveup_Check.f a0_0 a0_1 a0_2 a0_3 a0_4 a0_5 a0_6 a0_7 a0_8 a0_9 a0_10 a0_11 a0_12 l2 = some (partV a0_7 l2) := by unfold giveup_Check.f giveup_parted.f; rfl
    generalize partV a0_7 l2 = r2 at *
    go_enter Try.func16, Try.ntmps16
    go_wp2_with fail
    refine (giveup_Check.calls a0_0 a0_1 a0_2 a0_3 a0_4 a0_5 a0_6 a0_7 a0_8 a0_9 a0_10 a0_11 a0_12 A2 c2 l2 r2 _ (Kd.C_alloc hr2 _) hc2 hchk).mono ?_
    rintro e w2 ⟨rfl, hd⟩
    have HB := Aside0.mk (below_step (below_alloc (Below.refl w.heap.size w) _) hd)
    clear hd
    go_wp2_with fail
    go_ret2
    exact ⟨_, rfl, Kd.R_nil _ _ _ _ _, HB.out⟩

/-! ### contangolaw14_GiveupKeeps: function 7 -/
attribute [local go_sem high] accA serA
theorem kp_part_len (q : Int) (parts : List S44) (h : partV q parts = 0) : 1 ≤ parts.length ∧ parts.length ≤ 1024 := by
  unfold partV at h
  by_cases h1 : parts.length = 0 ∨ parts.length > 1024
  · rw [if_pos h1] at h; exact absurd h (by decide)
  · omega
def kp_divL (t : S42) (b : Bool) (first : Int) : Nat → List S44 → List S42
  | _, [] => []
  | i, p :: l => mkT t b (first + (i : Int)) p :: kp_divL t b first (i + 1) l
theorem kp_divGo_ok (t : S42) (b : Bool) (first : Int) : ∀ (l : List S44) (i : Nat) (xs : List S42), (divGo t b first i xs l).2 = 0 → (divGo t b first i xs l).1 = xs ++ kp_divL t b first i l := by
  intro l
  induction l with
  | nil => intro i xs _; simp [divGo, kp_divL]
  | cons p l ih =>
    intro i xs h
    rw [divGo] at h ⊢
    by_cases hc : accEq p.f0 (otherT t b) = true
    · rw [if_pos hc] at h; exact absurd h (by decide)
    · rw [if_neg hc] at h ⊢
      rw [ih _ _ h, kp_divL, List.append_assoc]; rfl
theorem kp_divL_len (t : S42) (b : Bool) (first : Int) : ∀ (l : List S44) (i : Nat), (kp_divL t b first i l).length = l.length := by
  intro l
  induction l with
  | nil => intro i; rfl
  | cons p l ih => intro i; simp [kp_divL, ih]
theorem kp_divL_get (t : S42) (b : Bool) (first : Int) : ∀ (l : List S44) (i j : Nat), j < l.length → rd_T42 (kp_divL t b first i l) (j : Int) = mkT t b (first + ((i + j : Nat) : Int)) (rd_T44 l (j : Int)) := by
  intro l
  induction l with
  | nil => intro i j h; exact absurd h (by simp)
  | cons p l ih =>
    intro i j h
    cases j with
    | zero => rfl
    | succ j =>
      have := ih (i + 1) j (by simp at h; omega)
      rw [show i + 1 + j = i + (j + 1) by omega] at this
      exact this
theorem kp_divGo_no (t : S42) (b : Bool) (first : Int) : ∀ (l : List S44) (i : Nat) (xs : List S42), (divGo t b first i xs l).2 ≠ 0 → (divGo t b first i xs l).1 = [] := by
  intro l
  induction l with
  | nil => intro i xs h; exact absurd rfl h
  | cons p l ih =>
    intro i xs h
    rw [divGo] at h ⊢
    by_cases hc : accEq p.f0 (otherT t b) = true
    · rw [if_pos hc]
    · rw [if_neg hc] at h ⊢
      exact ih _ _ h
theorem kp_divV_no (t : S42) (b : Bool) (l : List S44) (first : Int) (h : (divV t b l first).2 ≠ 0) : (divV t b l first).1 = [] := by
  unfold divV at h ⊢
  by_cases hp : partV t.f4 l = 0
  · rw [if_pos hp] at h ⊢
    by_cases hf : first < 1 ∨ first > 1152921504606846976 - (l.length : Int) + 1
    · rw [if_pos hf]
    · rw [if_neg hf] at h ⊢
      exact kp_divGo_no _ _ _ _ _ _ h
  · rw [if_neg hp]
theorem kp_divV_ok (t : S42) (b : Bool) (l : List S44) (first : Int) (h : (divV t b l first).2 = 0) : (divV t b l first).1 = kp_divL t b first 0 l ∧ partV t.f4 l = 0 ∧ 1 ≤ first ∧ first ≤ 1152921504606846976 - (l.length : Int) + 1 := by
  unfold divV at h ⊢
  by_cases hp : partV t.f4 l = 0
  · rw [if_pos hp] at h ⊢
    by_cases hf : first < 1 ∨ first > 1152921504606846976 - (l.length : Int) + 1
    · rw [if_pos hf] at h; exact absurd h (by decide)
    · rw [if_neg hf] at h ⊢
      exact ⟨by rw [kp_divGo_ok _ _ _ _ _ _ h]; rfl, hp, by omega, by omega⟩
  · rw [if_neg hp] at h; exact absurd h hp
theorem kp_part_all (q : Int) (l : List S44) (h : partV q l = 0) : l.all (fun p => lotsB p.f1) = true ∧ sumQ l = q := by
  have hl := kp_part_len _ _ h
  unfold partV at h
  rw [if_neg (by omega)] at h
  by_cases k1 : l.all (fun p => lotsB p.f1) = true
  · rw [if_pos k1] at h
    by_cases k2 : sumQ l = q
    · exact ⟨k1, k2⟩
    · rw [if_neg k2] at h; exact absurd h (by decide)
  · rw [if_neg k1] at h; exact absurd h (by decide)
theorem kp_mem_T44 (l : List S44) (i : Nat) (h : i < l.length) : rd_T44 l (i : Int) ∈ l := by
  unfold rd_T44
  rw [Int.toNat_natCast, List.getD_eq_getElem?_getD, List.getElem?_eq_getElem h]
  exact List.getElem_mem _
set_option maxHeartbeats 16000000 in
set_option maxRecDepth 100000 in
theorem keeps_true (k : Nat) (t : S42) (A1 : Option Addr) (c1 : Nat) (l1 : List (S44)) (a2_0 a2_1 : Int) (r : Bool) (w : World) (hr1 : Kd.C k44 w A1 l1.length l1) (hc1 : l1.length ≤ c1) (he : (divV t true l1 a2_1).2 = 0) (hb : ((Int.tmod a2_0 2) == 0) = true) (hl0 : ¬ (l1.length : Int) > 1100) (h : contangolaw14_goes.f k = some r) :
    Calls Try.prog 7 #[.agg #[.int .i64 t.f0, .int .i64 t.f1, .int .i64 t.f2, .string t.f3.f0, .int .i64 t.f3.f1, .int .i64 t.f3.f2, .int .i64 t.f3.f3, .int .i64 t.f4, .int .i64 t.f5, .string t.f6.f0, .string t.f6.f1, .string t.f7.f0, .string t.f7.f1], .slice A1 l1.length c1, .agg #[.int .i64 a2_0, .int .i64 a2_1]] w fun e w' => e = .returned (.bool r) ∧ Below w.heap.size w w' := by
  have hu42 := Try.underlying42
  have hu40 := Try.underlying40
  have hu38 := Try.underlying38
  obtain ⟨hd1, hd2, hd3, hd4⟩ := kp_divV_ok t true l1 a2_1 he
  have hpl := kp_part_len _ _ hd2
  have hpa := kp_part_all _ _ hd2
  have d0 : decide ((1100 : Int) < (l1.length : Int)) = false := decide_eq_false hl0
  have hdv : giveup_Divide.f t.f0 t.f1 t.f2 t.f3.f0 t.f3.f1 t.f3.f2 t.f3.f3 t.f4 t.f5 t.f6.f0 t.f6.f1 t.f7.f0 t.f7.f1 true l1 a2_1 = some (kp_divL t true a2_1 0 l1, 0) := by
    unfold giveup_Divide.f
    rw [show divV (⟨t.f0, t.f1, t.f2, ⟨t.f3.f0, t.f3.f1, t.f3.f2, t.f3.f3⟩, t.f4, t.f5, ⟨t.f6.f0, t.f6.f1⟩, ⟨t.f7.f0, t.f7.f1⟩⟩ : S42) true l1 a2_1 = (kp_divL t true a2_1 0 l1, 0) from Prod.ext hd1 he]
  have hdl := kp_divL_len t true a2_1 l1 0
  have HGET := Aside0.mk (fun j hj => kp_divL_get t true a2_1 l1 0 j hj)
  generalize kp_divL t true a2_1 0 l1 = l at *
  have HDV := Aside0.mk hdv
  have HPA := Aside0.mk hpa
  have HR := Aside0.mk hr1
  have HC1 := Aside0.mk hc1
  have HG := Aside0.mk h
  have HQ0 : Aside0 (0 + sumQ (l1.drop 0) = t.f4) := ⟨by rw [List.drop_zero, Int.zero_add]; exact hpa.2⟩
  clear hd1 hd2 hdv hpa hr1 hc1 h he hl0
  go_enter Try.func7, Try.ntmps7
  go_wp2_with fail
  have hw1 : ((w.alloc (.cells #[.int .i64 t.f0, .int .i64 t.f1, .int .i64 t.f2, .string t.f3.f0, .int .i64 t.f3.f1, .int .i64 t.f3.f2, .int .i64 t.f3.f3, .int .i64 t.f4, .int .i64 t.f5, .string t.f6.f0, .string t.f6.f1, .string t.f7.f0, .string t.f7.f1] 42)).alloc (.cells #[.int .i64 a2_0, .int .i64 a2_1] 48)).heap[w.heap.size + 1]? = some (.cells #[.int .i64 a2_0, .int .i64 a2_1] 48 (0, 0)) := by
    rw [show w.heap.size + 1 = (w.alloc (.cells #[.int .i64 t.f0, .int .i64 t.f1, .int .i64 t.f2, .string t.f3.f0, .int .i64 t.f3.f1, .int .i64 t.f3.f2, .int .i64 t.f3.f3, .int .i64 t.f4, .int .i64 t.f5, .string t.f6.f0, .string t.f6.f1, .string t.f7.f0, .string t.f7.f1] 42)).heap.size by simp]; exact blk_new _ _
  have hw0 : ((w.alloc (.cells #[.int .i64 t.f0, .int .i64 t.f1, .int .i64 t.f2, .string t.f3.f0, .int .i64 t.f3.f1, .int .i64 t.f3.f2, .int .i64 t.f3.f3, .int .i64 t.f4, .int .i64 t.f5, .string t.f6.f0, .string t.f6.f1, .string t.f7.f0, .string t.f7.f1] 42)).alloc (.cells #[.int .i64 a2_0, .int .i64 a2_1] 48)).heap[w.heap.size]? = some (.cells #[.int .i64 t.f0, .int .i64 t.f1, .int .i64 t.f2, .string t.f3.f0, .int .i64 t.f3.f1, .int .i64 t.f3.f2, .int .i64 t.f3.f3, .int .i64 t.f4, .int .i64 t.f5, .string t.f6.f0, .string t.f6.f1, .string t.f7.f0, .string t.f7.f1] 42 (0, 0)) := blk_alloc (blk_new _ _) _
  have hbw : Below w.heap.size w ((w.alloc (.cells #[.int .i64 t.f0, .int .i64 t.f1, .int .i64 t.f2, .string t.f3.f0, .int .i64 t.f3.f1, .int .i64 t.f3.f2, .int .i64 t.f3.f3, .int .i64 t.f4, .int .i64 t.f5, .string t.f6.f0, .string t.f6.f1, .string t.f7.f0, .string t.f7.f1] 42)).alloc (.cells #[.int .i64 a2_0, .int .i64 a2_1] 48)) := below_alloc (below_alloc (Below.refl _ _) _) _
  refine (giveup_Divide.calls t.f0 t.f1 t.f2 t.f3.f0 t.f3.f1 t.f3.f2 t.f3.f3 t.f4 t.f5 t.f6.f0 t.f6.f1 t.f7.f0 t.f7.f1 true A1 c1 l1 a2_1 l 0 _ (Kd.C_below HR.out hbw) HC1.out HDV.out).mono ?_
  rintro e w2 ⟨v0, rfl, hR, hb2⟩
  have HB := Aside0.mk (below_step hbw hb2)
  have HT := Aside0.mk (blk_below hw0 hb2)
  have HA := Aside0.mk (blk_below hw1 hb2)
  obtain ⟨A, c, rfl, hlc, hC⟩ := Kd.R_reads hR
  have HL := Aside0.mk hC
  clear hw1 hw0 hbw hb2 hR hC HDV
  go_wp2_with fail
  go_loopw [10, 11] (fun v10 v11 wr => ∃ (i : Nat) (q : Int), i ≤ l1.length ∧ 0 ≤ q ∧ q ≤ 1048576 * i ∧ v10 = .int .i64 q ∧ v11 = .int .i64 (i : Int) ∧ Aside0 (q + sumQ (l1.drop i) = t.f4) ∧ Aside0 (Kd.C k42 wr A l.length l) ∧ Aside0 (wr.heap[w.heap.size]? = some (.cells #[.int .i64 t.f0, .int .i64 t.f1, .int .i64 t.f2, .string t.f3.f0, .int .i64 t.f3.f1, .int .i64 t.f3.f2, .int .i64 t.f3.f3, .int .i64 t.f4, .int .i64 t.f5, .string t.f6.f0, .string t.f6.f1, .string t.f7.f0, .string t.f7.f1] 42 (0, 0))) ∧ Aside0 (wr.heap[w.heap.size + 1]? = some (.cells #[.int .i64 a2_0, .int .i64 a2_1] 48 (0, 0))) ∧ Aside0 (Below w.heap.size w wr)) (fun _ v11 _ => l1.length - (intOf v11).toNat)
  case atStart => exact ⟨0, 0, by omega, by omega, by omega, rfl, rfl, HQ0, HL, HT, HA, HB⟩
  case round =>
    clear HB HT HA HL HQ0
    obtain ⟨i, q, hi, hq0, hq1, rfl, rfl, HQ, HL, HT, HA, HB⟩ := hrel
    by_cases hlt : i < l1.length
    · obtain ⟨ad, ex, hx0, hx1, hx2, hx3, hx4, hx5, hx6, hx7, hx8, hx9, hx10, hx11, hx12⟩ := at_T42 HL.out (i : Int) (by omega) (by omega)
      cases ex
      obtain ⟨ap, ex, hp0, hp1, hp2⟩ := at_T44 (Kd.C_below HR.out HB.out) (i : Int) (by omega) (by omega)
      cases ex
      have hget := HGET.out i hlt
      rw [Nat.zero_add] at hget
      rw [hget] at hx0 hx1 hx2 hx3 hx4 hx5 hx6 hx7 hx8 hx9 hx10 hx11 hx12
      have hpr := HPA.out.1
      have hqs := HQ.out
      rw [drop_T44 l1 i hlt, sumQ] at hqs
      have hp := lots_range _ (by have := List.all_eq_true.1 hpr _ (kp_mem_T44 l1 i hlt); exact this)
      simp only [Int.toNat_natCast] at hx0 hx1 hx2 hx3 hx4 hx5 hx6 hx7 hx8 hx9 hx10 hx11 hx12 hp0 hp1 hp2
      have hlti : (i : Int) < (l1.length : Int) := by omega
      have hlti2 : (i : Int) < (l.length : Int) := by omega
      have hge : decide ((l1.length : Int) ≤ (i : Int)) = false := decide_eq_false (by omega)
      generalize rd_T44 l1 (i : Int) = p at *
      have HQ2 : Aside0 ((q + p.f1) + sumQ (l1.drop (i + 1)) = t.f4) := ⟨by omega⟩
      clear HQ hqs hget hpr
      simp only [mkT, if_true, Bool.false_eq_true, if_false] at hx0 hx1 hx2 hx3 hx4 hx5 hx6 hx7 hx8 hx9 hx10 hx11 hx12
      have hz0 : (wr.alloc (.cells #[.int .i64 (a2_1 + (i : Int)), .int .i64 t.f1, .int .i64 t.f2, .string t.f3.f0, .int .i64 t.f3.f1, .int .i64 t.f3.f2, .int .i64 t.f3.f3, .int .i64 p.f1, .int .i64 t.f5, .string p.f0.f0, .string p.f0.f1, .string t.f7.f0, .string t.f7.f1] 42)).cell? ⟨w.heap.size, 0, none⟩ = some (.int .i64 t.f0) := (blk_cell (blk_alloc HT.out _) 0).trans rfl
      have hz1 : (wr.alloc (.cells #[.int .i64 (a2_1 + (i : Int)), .int .i64 t.f1, .int .i64 t.f2, .string t.f3.f0, .int .i64 t.f3.f1, .int .i64 t.f3.f2, .int .i64 t.f3.f3, .int .i64 p.f1, .int .i64 t.f5, .string p.f0.f0, .string p.f0.f1, .string t.f7.f0, .string t.f7.f1] 42)).cell? ⟨w.heap.size, 1, none⟩ = some (.int .i64 t.f1) := (blk_cell (blk_alloc HT.out _) 1).trans rfl
      have hz2 : (wr.alloc (.cells #[.int .i64 (a2_1 + (i : Int)), .int .i64 t.f1, .int .i64 t.f2, .string t.f3.f0, .int .i64 t.f3.f1, .int .i64 t.f3.f2, .int .i64 t.f3.f3, .int .i64 p.f1, .int .i64 t.f5, .string p.f0.f0, .string p.f0.f1, .string t.f7.f0, .string t.f7.f1] 42)).cell? ⟨w.heap.size, 2, none⟩ = some (.int .i64 t.f2) := (blk_cell (blk_alloc HT.out _) 2).trans rfl
      have hz3 : (wr.alloc (.cells #[.int .i64 (a2_1 + (i : Int)), .int .i64 t.f1, .int .i64 t.f2, .string t.f3.f0, .int .i64 t.f3.f1, .int .i64 t.f3.f2, .int .i64 t.f3.f3, .int .i64 p.f1, .int .i64 t.f5, .string p.f0.f0, .string p.f0.f1, .string t.f7.f0, .string t.f7.f1] 42)).cell? ⟨w.heap.size, 3, none⟩ = some (.string t.f3.f0) := (blk_cell (blk_alloc HT.out _) 3).trans rfl
      have hz4 : (wr.alloc (.cells #[.int .i64 (a2_1 + (i : Int)), .int .i64 t.f1, .int .i64 t.f2, .string t.f3.f0, .int .i64 t.f3.f1, .int .i64 t.f3.f2, .int .i64 t.f3.f3, .int .i64 p.f1, .int .i64 t.f5, .string p.f0.f0, .string p.f0.f1, .string t.f7.f0, .string t.f7.f1] 42)).cell? ⟨w.heap.size, 4, none⟩ = some (.int .i64 t.f3.f1) := (blk_cell (blk_alloc HT.out _) 4).trans rfl
      have hz5 : (wr.alloc (.cells #[.int .i64 (a2_1 + (i : Int)), .int .i64 t.f1, .int .i64 t.f2, .string t.f3.f0, .int .i64 t.f3.f1, .int .i64 t.f3.f2, .int .i64 t.f3.f3, .int .i64 p.f1, .int .i64 t.f5, .string p.f0.f0, .string p.f0.f1, .string t.f7.f0, .string t.f7.f1] 42)).cell? ⟨w.heap.size, 5, none⟩ = some (.int .i64 t.f3.f2) := (blk_cell (blk_alloc HT.out _) 5).trans rfl
      have hz6 : (wr.alloc (.cells #[.int .i64 (a2_1 + (i : Int)), .int .i64 t.f1, .int .i64 t.f2, .string t.f3.f0, .int .i64 t.f3.f1, .int .i64 t.f3.f2, .int .i64 t.f3.f3, .int .i64 p.f1, .int .i64 t.f5, .string p.f0.f0, .string p.f0.f1, .string t.f7.f0, .string t.f7.f1] 42)).cell? ⟨w.heap.size, 6, none⟩ = some (.int .i64 t.f3.f3) := (blk_cell (blk_alloc HT.out _) 6).trans rfl
      have hz7 : (wr.alloc (.cells #[.int .i64 (a2_1 + (i : Int)), .int .i64 t.f1, .int .i64 t.f2, .string t.f3.f0, .int .i64 t.f3.f1, .int .i64 t.f3.f2, .int .i64 t.f3.f3, .int .i64 p.f1, .int .i64 t.f5, .string p.f0.f0, .string p.f0.f1, .string t.f7.f0, .string t.f7.f1] 42)).cell? ⟨w.heap.size, 7, none⟩ = some (.int .i64 t.f4) := (blk_cell (blk_alloc HT.out _) 7).trans rfl
      have hz8 : (wr.alloc (.cells #[.int .i64 (a2_1 + (i : Int)), .int .i64 t.f1, .int .i64 t.f2, .string t.f3.f0, .int .i64 t.f3.f1, .int .i64 t.f3.f2, .int .i64 t.f3.f3, .int .i64 p.f1, .int .i64 t.f5, .string p.f0.f0, .string p.f0.f1, .string t.f7.f0, .string t.f7.f1] 42)).cell? ⟨w.heap.size, 8, none⟩ = some (.int .i64 t.f5) := (blk_cell (blk_alloc HT.out _) 8).trans rfl
      have hz9 : (wr.alloc (.cells #[.int .i64 (a2_1 + (i : Int)), .int .i64 t.f1, .int .i64 t.f2, .string t.f3.f0, .int .i64 t.f3.f1, .int .i64 t.f3.f2, .int .i64 t.f3.f3, .int .i64 p.f1, .int .i64 t.f5, .string p.f0.f0, .string p.f0.f1, .string t.f7.f0, .string t.f7.f1] 42)).cell? ⟨w.heap.size, 9, none⟩ = some (.string t.f6.f0) := (blk_cell (blk_alloc HT.out _) 9).trans rfl
      have hz10 : (wr.alloc (.cells #[.int .i64 (a2_1 + (i : Int)), .int .i64 t.f1, .int .i64 t.f2, .string t.f3.f0, .int .i64 t.f3.f1, .int .i64 t.f3.f2, .int .i64 t.f3.f3, .int .i64 p.f1, .int .i64 t.f5, .string p.f0.f0, .string p.f0.f1, .string t.f7.f0, .string t.f7.f1] 42)).cell? ⟨w.heap.size, 10, none⟩ = some (.string t.f6.f1) := (blk_cell (blk_alloc HT.out _) 10).trans rfl
      have hz11 : (wr.alloc (.cells #[.int .i64 (a2_1 + (i : Int)), .int .i64 t.f1, .int .i64 t.f2, .string t.f3.f0, .int .i64 t.f3.f1, .int .i64 t.f3.f2, .int .i64 t.f3.f3, .int .i64 p.f1, .int .i64 t.f5, .string p.f0.f0, .string p.f0.f1, .string t.f7.f0, .string t.f7.f1] 42)).cell? ⟨w.heap.size, 11, none⟩ = some (.string t.f7.f0) := (blk_cell (blk_alloc HT.out _) 11).trans rfl
      have hz12 : (wr.alloc (.cells #[.int .i64 (a2_1 + (i : Int)), .int .i64 t.f1, .int .i64 t.f2, .string t.f3.f0, .int .i64 t.f3.f1, .int .i64 t.f3.f2, .int .i64 t.f3.f3, .int .i64 p.f1, .int .i64 t.f5, .string p.f0.f0, .string p.f0.f1, .string t.f7.f0, .string t.f7.f1] 42)).cell? ⟨w.heap.size, 12, none⟩ = some (.string t.f7.f1) := (blk_cell (blk_alloc HT.out _) 12).trans rfl
      have ha1 : (wr.alloc (.cells #[.int .i64 (a2_1 + (i : Int)), .int .i64 t.f1, .int .i64 t.f2, .string t.f3.f0, .int .i64 t.f3.f1, .int .i64 t.f3.f2, .int .i64 t.f3.f3, .int .i64 p.f1, .int .i64 t.f5, .string p.f0.f0, .string p.f0.f1, .string t.f7.f0, .string t.f7.f1] 42)).cell? ⟨w.heap.size + 1, 1, none⟩ = some (.int .i64 a2_1) := (blk_cell (blk_alloc HA.out _) 1).trans rfl
      have hba := below_alloc (Below.refl wr.heap.size wr) (.cells #[.int .i64 (a2_1 + (i : Int)), .int .i64 t.f1, .int .i64 t.f2, .string t.f3.f0, .int .i64 t.f3.f1, .int .i64 t.f3.f2, .int .i64 t.f3.f3, .int .i64 p.f1, .int .i64 t.f5, .string p.f0.f0, .string p.f0.f1, .string t.f7.f0, .string t.f7.f1] 42)
      have hpa0 := (hba.cell (World.block_lt_of_cell? wr _ hp0)).trans hp0
      have hpa1 := (hba.cell (World.block_lt_of_cell? wr _ hp1)).trans hp1
      have hlt0 := blk_lt HT.out
      have hlt1 := blk_lt HA.out
      have hn0 : w.heap.size ≠ wr.heap.size := by omega
      have hn0' : wr.heap.size ≠ w.heap.size := by omega
      have hn1 : w.heap.size + 1 ≠ wr.heap.size := by omega
      have hn1' : wr.heap.size ≠ w.heap.size + 1 := by omega
      have hsub : (a2_1 + (i : Int)) - a2_1 = (i : Int) := by omega
      clear hba
      go_wp2_with fail
      go_quiet (fail)
      go_wp2_with fail
      have hbd : ∀ (o : Obj) (n : Nat), Below wr.heap.size wr ((wr.alloc o).drewN n) := fun o n => pw_below_drewN (below_alloc (Below.refl _ _) _) _
      refine ⟨⟨i + 1, q + p.f1, by omega, by omega, by omega, rfl, by go_num, HQ2, ⟨Kd.C_below HL.out (hbd _ _)⟩, ⟨blk_below HT.out (hbd _ _)⟩, ⟨blk_below HA.out (hbd _ _)⟩, ⟨below_step HB.out (hbd _ _)⟩⟩, ?_⟩
      show _ < _; simp [intOf]; omega
    · obtain rfl : i = l1.length := by omega
      have hqs := HQ.out
      rw [List.drop_length] at hqs
      simp only [sumQ, Int.add_zero] at hqs
      have hll : (l.length : Int) = (l1.length : Int) := by omega
      have hz4 : wr.cell? ⟨w.heap.size, 7, none⟩ = some (.int .i64 t.f4) := (blk_cell HT.out 7).trans rfl
      rw [← hqs] at hz4
      go_wp2_with fail
      refine (contangolaw14_goes.calls k r wr HG.out).mono ?_
      rintro e w4 ⟨rfl, hb⟩
      have HB4 := Aside0.mk (below_step HB.out hb)
      clear hb
      go_wp2_with fail
      go_ret
      exact ⟨rfl, HB4.out⟩
set_option maxHeartbeats 16000000 in
set_option maxRecDepth 100000 in
theorem keeps_false (k : Nat) (t : S42) (A1 : Option Addr) (c1 : Nat) (l1 : List (S44)) (a2_0 a2_1 : Int) (r : Bool) (w : World) (hr1 : Kd.C k44 w A1 l1.length l1) (hc1 : l1.length ≤ c1) (he : (divV t false l1 a2_1).2 = 0) (hb : ((Int.tmod a2_0 2) == 0) = false) (hl0 : ¬ (l1.length : Int) > 1100) (h : contangolaw14_goes.f k = some r) :
    Calls Try.prog 7 #[.agg #[.int .i64 t.f0, .int .i64 t.f1, .int .i64 t.f2, .string t.f3.f0, .int .i64 t.f3.f1, .int .i64 t.f3.f2, .int .i64 t.f3.f3, .int .i64 t.f4, .int .i64 t.f5, .string t.f6.f0, .string t.f6.f1, .string t.f7.f0, .string t.f7.f1], .slice A1 l1.length c1, .agg #[.int .i64 a2_0, .int .i64 a2_1]] w fun e w' => e = .returned (.bool r) ∧ Below w.heap.size w w' := by
  have hu42 := Try.underlying42
  have hu40 := Try.underlying40
  have hu38 := Try.underlying38
  obtain ⟨hd1, hd2, hd3, hd4⟩ := kp_divV_ok t false l1 a2_1 he
  have hpl := kp_part_len _ _ hd2
  have hpa := kp_part_all _ _ hd2
  have d0 : decide ((1100 : Int) < (l1.length : Int)) = false := decide_eq_false hl0
  have hdv : giveup_Divide.f t.f0 t.f1 t.f2 t.f3.f0 t.f3.f1 t.f3.f2 t.f3.f3 t.f4 t.f5 t.f6.f0 t.f6.f1 t.f7.f0 t.f7.f1 false l1 a2_1 = some (kp_divL t false a2_1 0 l1, 0) := by
    unfold giveup_Divide.f
    rw [show divV (⟨t.f0, t.f1, t.f2, ⟨t.f3.f0, t.f3.f1, t.f3.f2, t.f3.f3⟩, t.f4, t.f5, ⟨t.f6.f0, t.f6.f1⟩, ⟨t.f7.f0, t.f7.f1⟩⟩ : S42) false l1 a2_1 = (kp_divL t false a2_1 0 l1, 0) from Prod.ext hd1 he]
  have hdl := kp_divL_len t false a2_1 l1 0
  have HGET := Aside0.mk (fun j hj => kp_divL_get t false a2_1 l1 0 j hj)
  generalize kp_divL t false a2_1 0 l1 = l at *
  have HDV := Aside0.mk hdv
  have HPA := Aside0.mk hpa
  have HR := Aside0.mk hr1
  have HC1 := Aside0.mk hc1
  have HG := Aside0.mk h
  have HQ0 : Aside0 (0 + sumQ (l1.drop 0) = t.f4) := ⟨by rw [List.drop_zero, Int.zero_add]; exact hpa.2⟩
  clear hd1 hd2 hdv hpa hr1 hc1 h he hl0
  go_enter Try.func7, Try.ntmps7
  go_wp2_with fail
  have hw1 : ((w.alloc (.cells #[.int .i64 t.f0, .int .i64 t.f1, .int .i64 t.f2, .string t.f3.f0, .int .i64 t.f3.f1, .int .i64 t.f3.f2, .int .i64 t.f3.f3, .int .i64 t.f4, .int .i64 t.f5, .string t.f6.f0, .string t.f6.f1, .string t.f7.f0, .string t.f7.f1] 42)).alloc (.cells #[.int .i64 a2_0, .int .i64 a2_1] 48)).heap[w.heap.size + 1]? = some (.cells #[.int .i64 a2_0, .int .i64 a2_1] 48 (0, 0)) := by
    rw [show w.heap.size + 1 = (w.alloc (.cells #[.int .i64 t.f0, .int .i64 t.f1, .int .i64 t.f2, .string t.f3.f0, .int .i64 t.f3.f1, .int .i64 t.f3.f2, .int .i64 t.f3.f3, .int .i64 t.f4, .int .i64 t.f5, .string t.f6.f0, .string t.f6.f1, .string t.f7.f0, .string t.f7.f1] 42)).heap.size by simp]; exact blk_new _ _
  have hw0 : ((w.alloc (.cells #[.int .i64 t.f0, .int .i64 t.f1, .int .i64 t.f2, .string t.f3.f0, .int .i64 t.f3.f1, .int .i64 t.f3.f2, .int .i64 t.f3.f3, .int .i64 t.f4, .int .i64 t.f5, .string t.f6.f0, .string t.f6.f1, .string t.f7.f0, .string t.f7.f1] 42)).alloc (.cells #[.int .i64 a2_0, .int .i64 a2_1] 48)).heap[w.heap.size]? = some (.cells #[.int .i64 t.f0, .int .i64 t.f1, .int .i64 t.f2, .string t.f3.f0, .int .i64 t.f3.f1, .int .i64 t.f3.f2, .int .i64 t.f3.f3, .int .i64 t.f4, .int .i64 t.f5, .string t.f6.f0, .string t.f6.f1, .string t.f7.f0, .string t.f7.f1] 42 (0, 0)) := blk_alloc (blk_new _ _) _
  have hbw : Below w.heap.size w ((w.alloc (.cells #[.int .i64 t.f0, .int .i64 t.f1, .int .i64 t.f2, .string t.f3.f0, .int .i64 t.f3.f1, .int .i64 t.f3.f2, .int .i64 t.f3.f3, .int .i64 t.f4, .int .i64 t.f5, .string t.f6.f0, .string t.f6.f1, .string t.f7.f0, .string t.f7.f1] 42)).alloc (.cells #[.int .i64 a2_0, .int .i64 a2_1] 48)) := below_alloc (below_alloc (Below.refl _ _) _) _
  refine (giveup_Divide.calls t.f0 t.f1 t.f2 t.f3.f0 t.f3.f1 t.f3.f2 t.f3.f3 t.f4 t.f5 t.f6.f0 t.f6.f1 t.f7.f0 t.f7.f1 false A1 c1 l1 a2_1 l 0 _ (Kd.C_below HR.out hbw) HC1.out HDV.out).mono ?_
  rintro e w2 ⟨v0, rfl, hR, hb2⟩
  have HB := Aside0.mk (below_step hbw hb2)
  have HT := Aside0.mk (blk_below hw0 hb2)
  have HA := Aside0.mk (blk_below hw1 hb2)
  obtain ⟨A, c, rfl, hlc, hC⟩ := Kd.R_reads hR
  have HL := Aside0.mk hC
  clear hw1 hw0 hbw hb2 hR hC HDV
  go_wp2_with fail
  go_loopw [10, 11] (fun v10 v11 wr => ∃ (i : Nat) (q : Int), i ≤ l1.length ∧ 0 ≤ q ∧ q ≤ 1048576 * i ∧ v10 = .int .i64 q ∧ v11 = .int .i64 (i : Int) ∧ Aside0 (q + sumQ (l1.drop i) = t.f4) ∧ Aside0 (Kd.C k42 wr A l.length l) ∧ Aside0 (wr.heap[w.heap.size]? = some (.cells #[.int .i64 t.f0, .int .i64 t.f1, .int .i64 t.f2, .string t.f3.f0, .int .i64 t.f3.f1, .int .i64 t.f3.f2, .int .i64 t.f3.f3, .int .i64 t.f4, .int .i64 t.f5, .string t.f6.f0, .string t.f6.f1, .string t.f7.f0, .string t.f7.f1] 42 (0, 0))) ∧ Aside0 (wr.heap[w.heap.size + 1]? = some (.cells #[.int .i64 a2_0, .int .i64 a2_1] 48 (0, 0))) ∧ Aside0 (Below w.heap.size w wr)) (fun _ v11 _ => l1.length - (intOf v11).toNat)
  case atStart => exact ⟨0, 0, by omega, by omega, by omega, rfl, rfl, HQ0, HL, HT, HA, HB⟩
  case round =>
    clear HB HT HA HL HQ0
    obtain ⟨i, q, hi, hq0, hq1, rfl, rfl, HQ, HL, HT, HA, HB⟩ := hrel
    by_cases hlt : i < l1.length
    · obtain ⟨ad, ex, hx0, hx1, hx2, hx3, hx4, hx5, hx6, hx7, hx8, hx9, hx10, hx11, hx12⟩ := at_T42 HL.out (i : Int) (by omega) (by omega)
      cases ex
      obtain ⟨ap, ex, hp0, hp1, hp2⟩ := at_T44 (Kd.C_below HR.out HB.out) (i : Int) (by omega) (by omega)
      cases ex
      have hget := HGET.out i hlt
      rw [Nat.zero_add] at hget
      rw [hget] at hx0 hx1 hx2 hx3 hx4 hx5 hx6 hx7 hx8 hx9 hx10 hx11 hx12
      have hpr := HPA.out.1
      have hqs := HQ.out
      rw [drop_T44 l1 i hlt, sumQ] at hqs
      have hp := lots_range _ (by have := List.all_eq_true.1 hpr _ (kp_mem_T44 l1 i hlt); exact this)
      simp only [Int.toNat_natCast] at hx0 hx1 hx2 hx3 hx4 hx5 hx6 hx7 hx8 hx9 hx10 hx11 hx12 hp0 hp1 hp2
      have hlti : (i : Int) < (l1.length : Int) := by omega
      have hlti2 : (i : Int) < (l.length : Int) := by omega
      have hge : decide ((l1.length : Int) ≤ (i : Int)) = false := decide_eq_false (by omega)
      generalize rd_T44 l1 (i : Int) = p at *
      have HQ2 : Aside0 ((q + p.f1) + sumQ (l1.drop (i + 1)) = t.f4) := ⟨by omega⟩
      clear HQ hqs hget hpr
      simp only [mkT, if_true, Bool.false_eq_true, if_false] at hx0 hx1 hx2 hx3 hx4 hx5 hx6 hx7 hx8 hx9 hx10 hx11 hx12
      have hz0 : (wr.alloc (.cells #[.int .i64 (a2_1 + (i : Int)), .int .i64 t.f1, .int .i64 t.f2, .string t.f3.f0, .int .i64 t.f3.f1, .int .i64 t.f3.f2, .int .i64 t.f3.f3, .int .i64 p.f1, .int .i64 t.f5, .string t.f6.f0, .string t.f6.f1, .string p.f0.f0, .string p.f0.f1] 42)).cell? ⟨w.heap.size, 0, none⟩ = some (.int .i64 t.f0) := (blk_cell (blk_alloc HT.out _) 0).trans rfl
      have hz1 : (wr.alloc (.cells #[.int .i64 (a2_1 + (i : Int)), .int .i64 t.f1, .int .i64 t.f2, .string t.f3.f0, .int .i64 t.f3.f1, .int .i64 t.f3.f2, .int .i64 t.f3.f3, .int .i64 p.f1, .int .i64 t.f5, .string t.f6.f0, .string t.f6.f1, .string p.f0.f0, .string p.f0.f1] 42)).cell? ⟨w.heap.size, 1, none⟩ = some (.int .i64 t.f1) := (blk_cell (blk_alloc HT.out _) 1).trans rfl
      have hz2 : (wr.alloc (.cells #[.int .i64 (a2_1 + (i : Int)), .int .i64 t.f1, .int .i64 t.f2, .string t.f3.f0, .int .i64 t.f3.f1, .int .i64 t.f3.f2, .int .i64 t.f3.f3, .int .i64 p.f1, .int .i64 t.f5, .string t.f6.f0, .string t.f6.f1, .string p.f0.f0, .string p.f0.f1] 42)).cell? ⟨w.heap.size, 2, none⟩ = some (.int .i64 t.f2) := (blk_cell (blk_alloc HT.out _) 2).trans rfl
      have hz3 : (wr.alloc (.cells #[.int .i64 (a2_1 + (i : Int)), .int .i64 t.f1, .int .i64 t.f2, .string t.f3.f0, .int .i64 t.f3.f1, .int .i64 t.f3.f2, .int .i64 t.f3.f3, .int .i64 p.f1, .int .i64 t.f5, .string t.f6.f0, .string t.f6.f1, .string p.f0.f0, .string p.f0.f1] 42)).cell? ⟨w.heap.size, 3, none⟩ = some (.string t.f3.f0) := (blk_cell (blk_alloc HT.out _) 3).trans rfl
      have hz4 : (wr.alloc (.cells #[.int .i64 (a2_1 + (i : Int)), .int .i64 t.f1, .int .i64 t.f2, .string t.f3.f0, .int .i64 t.f3.f1, .int .i64 t.f3.f2, .int .i64 t.f3.f3, .int .i64 p.f1, .int .i64 t.f5, .string t.f6.f0, .string t.f6.f1, .string p.f0.f0, .string p.f0.f1] 42)).cell? ⟨w.heap.size, 4, none⟩ = some (.int .i64 t.f3.f1) := (blk_cell (blk_alloc HT.out _) 4).trans rfl
      have hz5 : (wr.alloc (.cells #[.int .i64 (a2_1 + (i : Int)), .int .i64 t.f1, .int .i64 t.f2, .string t.f3.f0, .int .i64 t.f3.f1, .int .i64 t.f3.f2, .int .i64 t.f3.f3, .int .i64 p.f1, .int .i64 t.f5, .string t.f6.f0, .string t.f6.f1, .string p.f0.f0, .string p.f0.f1] 42)).cell? ⟨w.heap.size, 5, none⟩ = some (.int .i64 t.f3.f2) := (blk_cell (blk_alloc HT.out _) 5).trans rfl
      have hz6 : (wr.alloc (.cells #[.int .i64 (a2_1 + (i : Int)), .int .i64 t.f1, .int .i64 t.f2, .string t.f3.f0, .int .i64 t.f3.f1, .int .i64 t.f3.f2, .int .i64 t.f3.f3, .int .i64 p.f1, .int .i64 t.f5, .string t.f6.f0, .string t.f6.f1, .string p.f0.f0, .string p.f0.f1] 42)).cell? ⟨w.heap.size, 6, none⟩ = some (.int .i64 t.f3.f3) := (blk_cell (blk_alloc HT.out _) 6).trans rfl
      have hz7 : (wr.alloc (.cells #[.int .i64 (a2_1 + (i : Int)), .int .i64 t.f1, .int .i64 t.f2, .string t.f3.f0, .int .i64 t.f3.f1, .int .i64 t.f3.f2, .int .i64 t.f3.f3, .int .i64 p.f1, .int .i64 t.f5, .string t.f6.f0, .string t.f6.f1, .string p.f0.f0, .string p.f0.f1] 42)).cell? ⟨w.heap.size, 7, none⟩ = some (.int .i64 t.f4) := (blk_cell (blk_alloc HT.out _) 7).trans rfl
      have hz8 : (wr.alloc (.cells #[.int .i64 (a2_1 + (i : Int)), .int .i64 t.f1, .int .i64 t.f2, .string t.f3.f0, .int .i64 t.f3.f1, .int .i64 t.f3.f2, .int .i64 t.f3.f3, .int .i64 p.f1, .int .i64 t.f5, .string t.f6.f0, .string t.f6.f1, .string p.f0.f0, .string p.f0.f1] 42)).cell? ⟨w.heap.size, 8, none⟩ = some (.int .i64 t.f5) := (blk_cell (blk_alloc HT.out _) 8).trans rfl
      have hz9 : (wr.alloc (.cells #[.int .i64 (a2_1 + (i : Int)), .int .i64 t.f1, .int .i64 t.f2, .string t.f3.f0, .int .i64 t.f3.f1, .int .i64 t.f3.f2, .int .i64 t.f3.f3, .int .i64 p.f1, .int .i64 t.f5, .string t.f6.f0, .string t.f6.f1, .string p.f0.f0, .string p.f0.f1] 42)).cell? ⟨w.heap.size, 9, none⟩ = some (.string t.f6.f0) := (blk_cell (blk_alloc HT.out _) 9).trans rfl
      have hz10 : (wr.alloc (.cells #[.int .i64 (a2_1 + (i : Int)), .int .i64 t.f1, .int .i64 t.f2, .string t.f3.f0, .int .i64 t.f3.f1, .int .i64 t.f3.f2, .int .i64 t.f3.f3, .int .i64 p.f1, .int .i64 t.f5, .string t.f6.f0, .string t.f6.f1, .string p.f0.f0, .string p.f0.f1] 42)).cell? ⟨w.heap.size, 10, none⟩ = some (.string t.f6.f1) := (blk_cell (blk_alloc HT.out _) 10).trans rfl
      have hz11 : (wr.alloc (.cells #[.int .i64 (a2_1 + (i : Int)), .int .i64 t.f1, .int .i64 t.f2, .string t.f3.f0, .int .i64 t.f3.f1, .int .i64 t.f3.f2, .int .i64 t.f3.f3, .int .i64 p.f1, .int .i64 t.f5, .string t.f6.f0, .string t.f6.f1, .string p.f0.f0, .string p.f0.f1] 42)).cell? ⟨w.heap.size, 11, none⟩ = some (.string t.f7.f0) := (blk_cell (blk_alloc HT.out _) 11).trans rfl
      have hz12 : (wr.alloc (.cells #[.int .i64 (a2_1 + (i : Int)), .int .i64 t.f1, .int .i64 t.f2, .string t.f3.f0, .int .i64 t.f3.f1, .int .i64 t.f3.f2, .int .i64 t.f3.f3, .int .i64 p.f1, .int .i64 t.f5, .string t.f6.f0, .string t.f6.f1, .string p.f0.f0, .string p.f0.f1] 42)).cell? ⟨w.heap.size, 12, none⟩ = some (.string t.f7.f1) := (blk_cell (blk_alloc HT.out _) 12).trans rfl
      have ha1 : (wr.alloc (.cells #[.int .i64 (a2_1 + (i : Int)), .int .i64 t.f1, .int .i64 t.f2, .string t.f3.f0, .int .i64 t.f3.f1, .int .i64 t.f3.f2, .int .i64 t.f3.f3, .int .i64 p.f1, .int .i64 t.f5, .string t.f6.f0, .string t.f6.f1, .string p.f0.f0, .string p.f0.f1] 42)).cell? ⟨w.heap.size + 1, 1, none⟩ = some (.int .i64 a2_1) := (blk_cell (blk_alloc HA.out _) 1).trans rfl
      have hba := below_alloc (Below.refl wr.heap.size wr) (.cells #[.int .i64 (a2_1 + (i : Int)), .int .i64 t.f1, .int .i64 t.f2, .string t.f3.f0, .int .i64 t.f3.f1, .int .i64 t.f3.f2, .int .i64 t.f3.f3, .int .i64 p.f1, .int .i64 t.f5, .string t.f6.f0, .string t.f6.f1, .string p.f0.f0, .string p.f0.f1] 42)
      have hpa0 := (hba.cell (World.block_lt_of_cell? wr _ hp0)).trans hp0
      have hpa1 := (hba.cell (World.block_lt_of_cell? wr _ hp1)).trans hp1
      have hlt0 := blk_lt HT.out
      have hlt1 := blk_lt HA.out
      have hn0 : w.heap.size ≠ wr.heap.size := by omega
      have hn0' : wr.heap.size ≠ w.heap.size := by omega
      have hn1 : w.heap.size + 1 ≠ wr.heap.size := by omega
      have hn1' : wr.heap.size ≠ w.heap.size + 1 := by omega
      have hsub : (a2_1 + (i : Int)) - a2_1 = (i : Int) := by omega
      clear hba
      go_wp2_with fail
      go_quiet (fail)
      go_wp2_with fail
      have hbd : ∀ (o : Obj) (n : Nat), Below wr.heap.size wr ((wr.alloc o).drewN n) := fun o n => pw_below_drewN (below_alloc (Below.refl _ _) _) _
      refine ⟨⟨i + 1, q + p.f1, by omega, by omega, by omega, rfl, by go_num, HQ2, ⟨Kd.C_below HL.out (hbd _ _)⟩, ⟨blk_below HT.out (hbd _ _)⟩, ⟨blk_below HA.out (hbd _ _)⟩, ⟨below_step HB.out (hbd _ _)⟩⟩, ?_⟩
      show _ < _; simp [intOf]; omega
    · obtain rfl : i = l1.length := by omega
      have hqs := HQ.out
      rw [List.drop_length] at hqs
      simp only [sumQ, Int.add_zero] at hqs
      have hll : (l.length : Int) = (l1.length : Int) := by omega
      have hz4 : wr.cell? ⟨w.heap.size, 7, none⟩ = some (.int .i64 t.f4) := (blk_cell HT.out 7).trans rfl
      rw [← hqs] at hz4
      go_wp2_with fail
      refine (contangolaw14_goes.calls k r wr HG.out).mono ?_
      rintro e w4 ⟨rfl, hb⟩
      have HB4 := Aside0.mk (below_step HB.out hb)
      clear hb
      go_wp2_with fail
      go_ret
      exact ⟨rfl, HB4.out⟩
def contangolaw14_GiveupKeeps.f (k : Nat) (a0_0 : Int) (a0_1 : Int) (a0_2 : Int) (a0_3 : ByteArray) (a0_4 : Int) (a0_5 : Int) (a0_6 : Int) (a0_7 : Int) (a0_8 : Int) (a0_9 : ByteArray) (a0_10 : ByteArray) (a0_11 : ByteArray) (a0_12 : ByteArray) (l1 : List (S44)) (a2_0 : Int) (a2_1 : Int) : Option (Bool) := contangolaw14_goes.f k
theorem contangolaw14_GiveupKeeps.mono : ∀ a0 a1 a2 a3 a4 a5 a6 a7 a8 a9 a10 a11 a12 a13 a14 a15 k, LeO (contangolaw14_GiveupKeeps.f k a0 a1 a2 a3 a4 a5 a6 a7 a8 a9 a10 a11 a12 a13 a14 a15) (contangolaw14_GiveupKeeps.f (k + 1) a0 a1 a2 a3 a4 a5 a6 a7 a8 a9 a10 a11 a12 a13 a14 a15) := fun _ _ _ _ _ _ _ _ _ _ _ _ _ _ _ _ k => contangolaw14_goes.mono k
set_option maxHeartbeats 16000000 in
set_option maxRecDepth 100000 in
theorem contangolaw14_GiveupKeeps.calls (k : Nat) (a0_0 : Int) (a0_1 : Int) (a0_2 : Int) (a0_3 : ByteArray) (a0_4 : Int) (a0_5 : Int) (a0_6 : Int) (a0_7 : Int) (a0_8 : Int) (a0_9 : ByteArray) (a0_10 : ByteArray) (a0_11 : ByteArray) (a0_12 : ByteArray) (A1 : Option Addr) (c1 : Nat) (l1 : List (S44)) (a2_0 : Int) (a2_1 : Int) (r : Bool) (w : World) (hr1 : Kd.C k44 w A1 l1.length l1) (hc1 : l1.length ≤ c1) (h : contangolaw14_GiveupKeeps.f k a0_0 a0_1 a0_2 a0_3 a0_4 a0_5 a0_6 a0_7 a0_8 a0_9 a0_10 a0_11 a0_12 l1 a2_0 a2_1 = some r) :
    Calls Try.prog 7 #[.agg #[.int .i64 a0_0, .int .i64 a0_1, .int .i64 a0_2, .string a0_3, .int .i64 a0_4, .int .i64 a0_5, .int .i64 a0_6, .int .i64 a0_7, .int .i64 a0_8, .string a0_9, .string a0_10, .string a0_11, .string a0_12], .slice A1 l1.length c1, .agg #[.int .i64 a2_0, .int .i64 a2_1]] w fun e w' => e = .returned (.bool r) ∧ Below w.heap.size w w' := by
  have hu42 := Try.underlying42
  unfold contangolaw14_GiveupKeeps.f at h
  by_cases hl0 : (l1.length : Int) > 1100
  · have d0 : decide ((1100 : Int) < (l1.length : Int)) = true := decide_eq_true hl0
    go_enter Try.func7, Try.ntmps7
    go_wp2_with fail
    refine (contangolaw14_goes.calls k r _ h).mono ?_
    rintro e w4 ⟨rfl, hb⟩
    have HB4 := Aside0.mk (below_step (below_alloc (below_alloc (Below.refl w.heap.size w) _) _) hb)
    clear hb
    go_wp2_with fail
    go_ret
    exact ⟨rfl, HB4.out⟩
  have d0 : decide ((1100 : Int) < (l1.length : Int)) = false := decide_eq_false hl0
  cases hb : ((Int.tmod a2_0 2) == 0) with
  | true =>
    by_cases he : (divV (⟨a0_0, a0_1, a0_2, ⟨a0_3, a0_4, a0_5, a0_6⟩, a0_7, a0_8, ⟨a0_9, a0_10⟩, ⟨a0_11, a0_12⟩⟩ : S42) true l1 a2_1).2 = 0
    · exact keeps_true k (⟨a0_0, a0_1, a0_2, ⟨a0_3, a0_4, a0_5, a0_6⟩, a0_7, a0_8, ⟨a0_9, a0_10⟩, ⟨a0_11, a0_12⟩⟩ : S42) A1 c1 l1 a2_0 a2_1 r w hr1 hc1 he hb hl0 h
    · have hno := kp_divV_no (⟨a0_0, a0_1, a0_2, ⟨a0_3, a0_4, a0_5, a0_6⟩, a0_7, a0_8, ⟨a0_9, a0_10⟩, ⟨a0_11, a0_12⟩⟩ : S42) true l1 a2_1 he
      have hdv : giveup_Divide.f a0_0 a0_1 a0_2 a0_3 a0_4 a0_5 a0_6 a0_7 a0_8 a0_9 a0_10 a0_11 a0_12 true l1 a2_1 = some ([], (divV (⟨a0_0, a0_1, a0_2, ⟨a0_3, a0_4, a0_5, a0_6⟩, a0_7, a0_8, ⟨a0_9, a0_10⟩, ⟨a0_11, a0_12⟩⟩ : S42) true l1 a2_1).2) := by
        unfold giveup_Divide.f
        rw [← hno]
      have hne : ((divV (⟨a0_0, a0_1, a0_2, ⟨a0_3, a0_4, a0_5, a0_6⟩, a0_7, a0_8, ⟨a0_9, a0_10⟩, ⟨a0_11, a0_12⟩⟩ : S42) true l1 a2_1).2 != 0) = true := bne_iff_ne.mpr he
      generalize (divV (⟨a0_0, a0_1, a0_2, ⟨a0_3, a0_4, a0_5, a0_6⟩, a0_7, a0_8, ⟨a0_9, a0_10⟩, ⟨a0_11, a0_12⟩⟩ : S42) true l1 a2_1).2 = e0 at *
      clear hno he
      go_enter Try.func7, Try.ntmps7
      go_wp2_with fail
      refine (giveup_Divide.calls a0_0 a0_1 a0_2 a0_3 a0_4 a0_5 a0_6 a0_7 a0_8 a0_9 a0_10 a0_11 a0_12 true A1 c1 l1 a2_1 [] e0 _ (Kd.C_below hr1 (below_alloc (below_alloc (Below.refl _ _) _) _)) hc1 hdv).mono ?_
      rintro e w2 ⟨v0, rfl, hR, hb2⟩
      have HB := Aside0.mk (below_step (below_alloc (below_alloc (Below.refl w.heap.size w) _) _) hb2)
      obtain ⟨A, c, rfl, hlc, hC⟩ := Kd.R_reads hR
      clear hb2 hR hC
      go_wp2_with fail
      refine (contangolaw14_goes.calls k r w2 h).mono ?_
      rintro e w4 ⟨rfl, hb⟩
      have HB4 := Aside0.mk (below_step HB.out hb)
      clear hb
      go_wp2_with fail
      go_ret
      exact ⟨rfl, HB4.out⟩
  | false =>
    by_cases he : (divV (⟨a0_0, a0_1, a0_2, ⟨a0_3, a0_4, a0_5, a0_6⟩, a0_7, a0_8, ⟨a0_9, a0_10⟩, ⟨a0_11, a0_12⟩⟩ : S42) false l1 a2_1).2 = 0
    · exact keeps_false k (⟨a0_0, a0_1, a0_2, ⟨a0_3, a0_4, a0_5, a0_6⟩, a0_7, a0_8, ⟨a0_9, a0_10⟩, ⟨a0_11, a0_12⟩⟩ : S42) A1 c1 l1 a2_0 a2_1 r w hr1 hc1 he hb hl0 h
    · have hno := kp_divV_no (⟨a0_0, a0_1, a0_2, ⟨a0_3, a0_4, a0_5, a0_6⟩, a0_7, a0_8, ⟨a0_9, a0_10⟩, ⟨a0_11, a0_12⟩⟩ : S42) false l1 a2_1 he
      have hdv : giveup_Divide.f a0_0 a0_1 a0_2 a0_3 a0_4 a0_5 a0_6 a0_7 a0_8 a0_9 a0_10 a0_11 a0_12 false l1 a2_1 = some ([], (divV (⟨a0_0, a0_1, a0_2, ⟨a0_3, a0_4, a0_5, a0_6⟩, a0_7, a0_8, ⟨a0_9, a0_10⟩, ⟨a0_11, a0_12⟩⟩ : S42) false l1 a2_1).2) := by
        unfold giveup_Divide.f
        rw [← hno]
      have hne : ((divV (⟨a0_0, a0_1, a0_2, ⟨a0_3, a0_4, a0_5, a0_6⟩, a0_7, a0_8, ⟨a0_9, a0_10⟩, ⟨a0_11, a0_12⟩⟩ : S42) false l1 a2_1).2 != 0) = true := bne_iff_ne.mpr he
      generalize (divV (⟨a0_0, a0_1, a0_2, ⟨a0_3, a0_4, a0_5, a0_6⟩, a0_7, a0_8, ⟨a0_9, a0_10⟩, ⟨a0_11, a0_12⟩⟩ : S42) false l1 a2_1).2 = e0 at *
      clear hno he
      go_enter Try.func7, Try.ntmps7
      go_wp2_with fail
      refine (giveup_Divide.calls a0_0 a0_1 a0_2 a0_3 a0_4 a0_5 a0_6 a0_7 a0_8 a0_9 a0_10 a0_11 a0_12 false A1 c1 l1 a2_1 [] e0 _ (Kd.C_below hr1 (below_alloc (below_alloc (Below.refl _ _) _) _)) hc1 hdv).mono ?_
      rintro e w2 ⟨v0, rfl, hR, hb2⟩
      have HB := Aside0.mk (below_step (below_alloc (below_alloc (Below.refl w.heap.size w) _) _) hb2)
      obtain ⟨A, c, rfl, hlc, hC⟩ := Kd.R_reads hR
      clear hb2 hR hC
      go_wp2_with fail
      refine (contangolaw14_goes.calls k r w2 h).mono ?_
      rintro e w4 ⟨rfl, hb⟩
      have HB4 := Aside0.mk (below_step HB.out hb)
      clear hb
      go_wp2_with fail
      go_ret
      exact ⟨rfl, HB4.out⟩

end Go.Proofs.Ytaffedkheehplaa.PGiveupKeeps
