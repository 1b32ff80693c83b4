/- Laid for this claim by a program of this session's (wip/mkprint.py, wip/ext.py); not trusted: Lean checks it. -/
import Derived.Test.YtaffedkheehplaaPGiveupDividesx0
namespace Go.Proofs.Ytaffedkheehplaa.PGiveupDivides
open Go.RowKit Go.Proofs.YtaffedkheehplaaW.PrintWords Go.Proofs.YtaffedkheehplaaW.PrintLast Go.Proofs.YtaffedkheehplaaW.PrintMore
attribute [local go_sem] max2_int min2_int max_two min_two max_three min_three max_four min_four   -- for this text's walks alone
set_option linter.unusedVariables false
set_option linter.unusedSimpArgs false

/-! ### giveup_lots: function 21 -/
def giveup_lots.f (a0 : Int) : Option (Bool) := if a0 ≥ 1 then (some (decide (a0 ≤ 1048576))) else (some false)
set_option maxHeartbeats 8000000 in
set_option maxRecDepth 100000 in
theorem giveup_lots.calls (a0 : Int) (r : Bool) (w : World) (h : giveup_lots.f a0 = some r) :
    Calls Try.prog 21 #[.int .i64 a0] w fun e w' => e = .returned (.bool r) ∧ Drawn0 w w' := by
  have H : (if a0 ≥ 1 then (some (decide (a0 ≤ 1048576))) else (some false)) = some r := h
  clear h
  by_cases c2 : a0 ≥ 1
  · rw [if_pos c2] at H
    have c2b0 : decide (1 ≤ a0) = true := decide_eq_true c2
    clear c2
    obtain rfl := Option.some.inj H
    go_enter Try.func21, Try.ntmps21
    go_wp2
    go_ret
    exact ⟨by first | rfl | (simp; done) | (simp [*]; done), by repeat (first | exact Drawn0.refl _ | apply Drawn0.step)⟩
  · rw [if_neg c2] at H
    have c2b0 : decide (1 ≤ a0) = false := decide_eq_false c2
    clear c2
    obtain rfl := Option.some.inj H
    go_enter Try.func21, Try.ntmps21
    go_wp2
    go_ret
    exact ⟨by first | rfl | (simp; done) | (simp [*]; done), by repeat (first | exact Drawn0.refl _ | apply Drawn0.step)⟩

/-! ### giveup_Average: function 9 -/
theorem serA (d : Nat) (w : World) (x0 y0 : ByteArray) (x1 y1 : Int) (x2 y2 : Int) (x3 y3 : Int) :
    (Op.equalIn (d + 2) 38 (.agg #[.string x0, .int .i64 x1, .int .i64 x2, .int .i64 x3]) (.agg #[.string y0, .int .i64 y1, .int .i64 y2, .int .i64 y3])).run Try.prog w = .ok (x0.toList == y0.toList && (x1 == y1 && (x2 == y2 && (x3 == y3)))) w := by
  refine eqA_of Try.underlying38 (by kernel_rfl) ?_
  refine eqf_cons (by rfl) (by go_simp; rfl) (by go_simp; rfl) (by go_simp) ?_
  refine eqf_cons (by rfl) (by go_simp; rfl) (by go_simp; rfl) (by go_simp) ?_
  refine eqf_cons (by rfl) (by go_simp; rfl) (by go_simp; rfl) (by go_simp) ?_
  exact eqf_last (by rfl) (by go_simp; rfl) (by go_simp; rfl) (by go_simp)
attribute [local go_sem high] serA
def sEq (a b : S38) : Bool := a.f0.toList == b.f0.toList && (a.f1 == b.f1 && (a.f2 == b.f2 && (a.f3 == b.f3)))
def lotsA (n : Int) : Bool := decide (1 ≤ n) && decide (n ≤ 1048576)
theorem lotsA_val (n : Int) : giveup_lots.f n = some (lotsA n) := by
  unfold giveup_lots.f lotsA
  by_cases h : n ≥ 1
  · rw [if_pos h, decide_eq_true (show 1 ≤ n from h)]; rfl
  · rw [if_neg h, decide_eq_false (show ¬ 1 ≤ n from h)]; rfl
theorem lotsA_range (n : Int) (h : lotsA n = true) : 1 ≤ n ∧ n ≤ 1048576 := by
  unfold lotsA at h; simpa using h
def pricB (n : Int) : Bool := decide (-16777216 ≤ n) && decide (n ≤ 16777216)
theorem pricB_range (n : Int) (h : pricB n = true) : -16777216 ≤ n ∧ n ≤ 16777216 := by
  unfold pricB at h; simpa using h
def sumT : List S42 → Int
  | [] => 0
  | t :: l => t.f4 + sumT l
def costT : List S42 → Int
  | [] => 0
  | t :: l => t.f5 * t.f4 + costT l
def avgEnd (qty sum tick : Int) : Int × Int × Int := (wrap64 (Int.tdiv (wrap64 (sum - sum % (qty * tick))) qty), sum % (qty * tick), 0)
def avgV (l : List S42) (tick : Int) : Int × Int × Int := if tick < 1 ∨ tick > 16777216 then (0, 0, 16) else if l.length = 0 ∨ l.length > 1024 then (0, 0, 8) else if l.all (fun t => sEq t.f3 (rd_T42 l 0).f3) = true then (if l.all (fun t => lotsA t.f4) = true then (if l.all (fun t => pricB t.f5) = true then avgEnd (sumT l) (costT l) tick else (0, 0, 17)) else (0, 0, 18)) else (0, 0, 19)
def giveup_Average.f (l0 : List S42) (a1 : Int) : Option (Int × Int × Int) := some (avgV l0 a1)
theorem drop_T42 (l : List S42) (i : Nat) (h : i < l.length) : l.drop i = rd_T42 l (i : Int) :: l.drop (i + 1) := by
  rw [List.drop_eq_getElem_cons h]
  unfold rd_T42
  rw [Int.toNat_natCast, List.getD_eq_getElem?_getD, List.getElem?_eq_getElem h]; rfl
theorem mem_T42 (l : List S42) (i : Nat) (h : i < l.length) : rd_T42 l (i : Int) ∈ l := by
  unfold rd_T42
  rw [Int.toNat_natCast, List.getD_eq_getElem?_getD, List.getElem?_eq_getElem h]
  exact List.getElem_mem _
set_option maxHeartbeats 16000000 in
set_option maxRecDepth 100000 in
theorem avg_main (A0 : Option Addr) (c0 : Nat) (l : List S42) (tick r1 r2 r3 : Int) (w : World) (hr0 : Kd.C k42 w A0 l.length l) (hc0 : l.length ≤ c0) (ht1 : 1 ≤ tick) (ht2 : tick ≤ 16777216) (hl1 : 1 ≤ l.length) (hl : l.length ≤ 1024)
    (hr : (if l.all (fun t => sEq t.f3 (rd_T42 l 0).f3) = true then (if l.all (fun t => lotsA t.f4) = true then (if l.all (fun t => pricB t.f5) = true then avgEnd (sumT l) (costT l) tick else (0, 0, 17)) else (0, 0, 18)) else (0, 0, 19)) = (r1, r2, r3)) :
    Calls Try.prog 9 #[.slice A0 l.length c0, .int .i64 tick] w fun e w' => e = .returned (.tuple #[.int .i64 r1, .int .i64 r2, .int .i64 r3]) ∧ Below w.heap.size w w' := by
  have d1 : decide (tick < 1) = false := decide_eq_false (by omega)
  have d2 : decide (16777216 < tick) = false := decide_eq_false (by omega)
  have e1 : (l.length == 0) = false := beq_eq_false_iff_ne.2 (by omega)
  have e2 : ((l.length : Int) == 0) = false := beq_eq_false_iff_ne.2 (by omega)
  have e3 : decide (1024 < (l.length : Int)) = false := decide_eq_false (by omega)
  have e4 : decide (1024 < l.length) = false := decide_eq_false (by omega)
  have HR := Aside0.mk hr0
  obtain ⟨ad0, ea, hz0, hz1, hz2, hz3, hz4, hz5, hz6, hz7, hz8, hz9, hz10, hz11, hz12⟩ := at_T42 hr0 0 (by omega) (by omega)
  cases ea
  have HZ3 := Aside0.mk (show w.cell? ⟨ad0.block, ad0.off + 3, none⟩ = some (.string (rd_T42 l 0).f3.f0) from by simpa [Addr.add] using hz3)
  have HZ4 := Aside0.mk (show w.cell? ⟨ad0.block, ad0.off + 4, none⟩ = some (.int .i64 (rd_T42 l 0).f3.f1) from by simpa [Addr.add] using hz4)
  have HZ5 := Aside0.mk (show w.cell? ⟨ad0.block, ad0.off + 5, none⟩ = some (.int .i64 (rd_T42 l 0).f3.f2) from by simpa [Addr.add] using hz5)
  have HZ6 := Aside0.mk (show w.cell? ⟨ad0.block, ad0.off + 6, none⟩ = some (.int .i64 (rd_T42 l 0).f3.f3) from by simpa [Addr.add] using hz6)
  clear hz0 hz1 hz2 hz3 hz4 hz5 hz6 hz7 hz8 hz9 hz10 hz11 hz12
  generalize (rd_T42 l 0).f3 = s0 at *
  have HRES := Aside0.mk hr
  clear hr0 hr
  go_enter Try.func9, Try.ntmps9
  go_wp2_with fail
  go_loopw [34] (fun v34 wr => ∃ i : Nat, i ≤ l.length ∧ v34 = .int .i64 (i : Int) ∧ Aside0 ((l.take i).all (fun t => sEq t.f3 s0) = true) ∧ Aside0 (Below w.heap.size w wr)) (fun v34 _ => l.length - (intOf v34).toNat)
  case atStart => exact ⟨0, by omega, rfl, ⟨rfl⟩, ⟨Below.refl _ _⟩⟩
  case round =>
    obtain ⟨i, hi, rfl, HP, HB⟩ := hrel
    by_cases hlt : i < l.length
    · obtain ⟨ad, ex, hx0, hx1, hx2, hx3, hx4, hx5, hx6, hx7, hx8, hx9, hx10, hx11, hx12⟩ := at_T42 (Kd.C_below HR.out HB.out) (i : Int) (by omega) (by omega)
      cases ex
      simp only [Int.toNat_natCast] at hx0 hx1 hx2 hx3 hx4 hx5 hx6 hx7 hx8 hx9 hx10 hx11 hx12
      have hlti : (i : Int) < (l.length : Int) := by omega
      have hmem := mem_T42 l i hlt
      have htk : (l.take (i + 1)).all (fun t => sEq t.f3 s0) = ((l.take i).all (fun t => sEq t.f3 s0) && sEq (rd_T42 l (i : Int)).f3 s0) := by
        rw [List.take_add_one, List.all_append, List.getElem?_eq_getElem hlt]
        unfold rd_T42
        rw [Int.toNat_natCast, List.getD_eq_getElem?_getD, List.getElem?_eq_getElem hlt]
        simp
      have HTK := Aside0.mk htk
      have HMEM := Aside0.mk hmem
      clear htk hmem
      generalize rd_T42 l (i : Int) = p at *
      go_wp2_with fail
      have hb3 : (wr.alloc (.cells #[.int .i64 p.f0, .int .i64 p.f1, .int .i64 p.f2, .string p.f3.f0, .int .i64 p.f3.f1, .int .i64 p.f3.f2, .int .i64 p.f3.f3, .int .i64 p.f4, .int .i64 p.f5, .string p.f6.f0, .string p.f6.f1, .string p.f7.f0, .string p.f7.f1] 42)).drew.cell? ⟨wr.heap.size, 3, none⟩ = some (.string p.f3.f0) := (blk_cell (blk_drew (blk_new wr (.cells #[.int .i64 p.f0, .int .i64 p.f1, .int .i64 p.f2, .string p.f3.f0, .int .i64 p.f3.f1, .int .i64 p.f3.f2, .int .i64 p.f3.f3, .int .i64 p.f4, .int .i64 p.f5, .string p.f6.f0, .string p.f6.f1, .string p.f7.f0, .string p.f7.f1] 42))) 3).trans rfl
      have hb4 : (wr.alloc (.cells #[.int .i64 p.f0, .int .i64 p.f1, .int .i64 p.f2, .string p.f3.f0, .int .i64 p.f3.f1, .int .i64 p.f3.f2, .int .i64 p.f3.f3, .int .i64 p.f4, .int .i64 p.f5, .string p.f6.f0, .string p.f6.f1, .string p.f7.f0, .string p.f7.f1] 42)).drew.cell? ⟨wr.heap.size, 4, none⟩ = some (.int .i64 p.f3.f1) := (blk_cell (blk_drew (blk_new wr (.cells #[.int .i64 p.f0, .int .i64 p.f1, .int .i64 p.f2, .string p.f3.f0, .int .i64 p.f3.f1, .int .i64 p.f3.f2, .int .i64 p.f3.f3, .int .i64 p.f4, .int .i64 p.f5, .string p.f6.f0, .string p.f6.f1, .string p.f7.f0, .string p.f7.f1] 42))) 4).trans rfl
      have hb5 : (wr.alloc (.cells #[.int .i64 p.f0, .int .i64 p.f1, .int .i64 p.f2, .string p.f3.f0, .int .i64 p.f3.f1, .int .i64 p.f3.f2, .int .i64 p.f3.f3, .int .i64 p.f4, .int .i64 p.f5, .string p.f6.f0, .string p.f6.f1, .string p.f7.f0, .string p.f7.f1] 42)).drew.cell? ⟨wr.heap.size, 5, none⟩ = some (.int .i64 p.f3.f2) := (blk_cell (blk_drew (blk_new wr (.cells #[.int .i64 p.f0, .int .i64 p.f1, .int .i64 p.f2, .string p.f3.f0, .int .i64 p.f3.f1, .int .i64 p.f3.f2, .int .i64 p.f3.f3, .int .i64 p.f4, .int .i64 p.f5, .string p.f6.f0, .string p.f6.f1, .string p.f7.f0, .string p.f7.f1] 42))) 5).trans rfl
      have hb6 : (wr.alloc (.cells #[.int .i64 p.f0, .int .i64 p.f1, .int .i64 p.f2, .string p.f3.f0, .int .i64 p.f3.f1, .int .i64 p.f3.f2, .int .i64 p.f3.f3, .int .i64 p.f4, .int .i64 p.f5, .string p.f6.f0, .string p.f6.f1, .string p.f7.f0, .string p.f7.f1] 42)).drew.cell? ⟨wr.heap.size, 6, none⟩ = some (.int .i64 p.f3.f3) := (blk_cell (blk_drew (blk_new wr (.cells #[.int .i64 p.f0, .int .i64 p.f1, .int .i64 p.f2, .string p.f3.f0, .int .i64 p.f3.f1, .int .i64 p.f3.f2, .int .i64 p.f3.f3, .int .i64 p.f4, .int .i64 p.f5, .string p.f6.f0, .string p.f6.f1, .string p.f7.f0, .string p.f7.f1] 42))) 6).trans rfl
      have hy3 : (wr.alloc (.cells #[.int .i64 p.f0, .int .i64 p.f1, .int .i64 p.f2, .string p.f3.f0, .int .i64 p.f3.f1, .int .i64 p.f3.f2, .int .i64 p.f3.f3, .int .i64 p.f4, .int .i64 p.f5, .string p.f6.f0, .string p.f6.f1, .string p.f7.f0, .string p.f7.f1] 42)).drew.cell? ⟨ad0.block, ad0.off + 3, none⟩ = some (.string s0.f0) := ((below_drew (below_alloc HB.out _)).cell (World.block_lt_of_cell? _ _ HZ3.out)).trans HZ3.out
      have hy4 : (wr.alloc (.cells #[.int .i64 p.f0, .int .i64 p.f1, .int .i64 p.f2, .string p.f3.f0, .int .i64 p.f3.f1, .int .i64 p.f3.f2, .int .i64 p.f3.f3, .int .i64 p.f4, .int .i64 p.f5, .string p.f6.f0, .string p.f6.f1, .string p.f7.f0, .string p.f7.f1] 42)).drew.cell? ⟨ad0.block, ad0.off + 4, none⟩ = some (.int .i64 s0.f1) := ((below_drew (below_alloc HB.out _)).cell (World.block_lt_of_cell? _ _ HZ4.out)).trans HZ4.out
      have hy5 : (wr.alloc (.cells #[.int .i64 p.f0, .int .i64 p.f1, .int .i64 p.f2, .string p.f3.f0, .int .i64 p.f3.f1, .int .i64 p.f3.f2, .int .i64 p.f3.f3, .int .i64 p.f4, .int .i64 p.f5, .string p.f6.f0, .string p.f6.f1, .string p.f7.f0, .string p.f7.f1] 42)).drew.cell? ⟨ad0.block, ad0.off + 5, none⟩ = some (.int .i64 s0.f2) := ((below_drew (below_alloc HB.out _)).cell (World.block_lt_of_cell? _ _ HZ5.out)).trans HZ5.out
      have hy6 : (wr.alloc (.cells #[.int .i64 p.f0, .int .i64 p.f1, .int .i64 p.f2, .string p.f3.f0, .int .i64 p.f3.f1, .int .i64 p.f3.f2, .int .i64 p.f3.f3, .int .i64 p.f4, .int .i64 p.f5, .string p.f6.f0, .string p.f6.f1, .string p.f7.f0, .string p.f7.f1] 42)).drew.cell? ⟨ad0.block, ad0.off + 6, none⟩ = some (.int .i64 s0.f3) := ((below_drew (below_alloc HB.out _)).cell (World.block_lt_of_cell? _ _ HZ6.out)).trans HZ6.out
      have HB2 := Aside0.mk (below_drew (below_alloc HB.out (.cells #[.int .i64 p.f0, .int .i64 p.f1, .int .i64 p.f2, .string p.f3.f0, .int .i64 p.f3.f1, .int .i64 p.f3.f2, .int .i64 p.f3.f3, .int .i64 p.f4, .int .i64 p.f5, .string p.f6.f0, .string p.f6.f1, .string p.f7.f0, .string p.f7.f1] 42)))
      cases hs : sEq p.f3 s0 with
      | true =>
        have hq := hs
        unfold sEq at hq
        have hq2 : (!(p.f3.f0.toList == s0.f0.toList) || (!(p.f3.f1 == s0.f1) || (!(p.f3.f2 == s0.f2) || !(p.f3.f3 == s0.f3)))) = false := by
          revert hq; cases (p.f3.f0.toList == s0.f0.toList) <;> cases (p.f3.f1 == s0.f1) <;> cases (p.f3.f2 == s0.f2) <;> cases (p.f3.f3 == s0.f3) <;> simp
        go_region
        all_goals go_wp2_with fail
        all_goals go_roundw
        case measure => show _ < _; simp [intOf]; omega
        case rel => exact ⟨i + 1, by omega, by go_num, ⟨by rw [HTK.out, HP.out, hs]; rfl⟩, HB2⟩
      | false =>
        have hq := hs
        unfold sEq at hq
        have hq2 : (!(p.f3.f0.toList == s0.f0.toList) || (!(p.f3.f1 == s0.f1) || (!(p.f3.f2 == s0.f2) || !(p.f3.f3 == s0.f3)))) = true := by
          revert hq; cases (p.f3.f0.toList == s0.f0.toList) <;> cases (p.f3.f1 == s0.f1) <;> cases (p.f3.f2 == s0.f2) <;> cases (p.f3.f3 == s0.f3) <;> simp
        have hnot : ¬ (l.all (fun t => sEq t.f3 s0) = true) := fun ha => by
          have := List.all_eq_true.1 ha p HMEM.out
          rw [hs] at this; cases this
        have hr := HRES.out
        rw [if_neg hnot] at hr
        simp only [Prod.mk.injEq] at hr
        obtain ⟨rfl, rfl, rfl⟩ := hr
        go_region
        all_goals go_wp2_with fail
        all_goals refine bodyPost_ret (v := .tuple #[.int .i64 0, .int .i64 0, .int .i64 19]) (by simp [results, Try.results9, go_sem]) rfl ?_
        all_goals exact ⟨rfl, HB2.out⟩
    · obtain rfl : i = l.length := by omega
      have hp := HP.out
      rw [List.take_length] at hp
      have hr := HRES.out
      rw [if_pos hp] at hr
      have HRES2 := Aside0.mk hr
      clear hp HP hr HRES
      go_wp2_with fail
      go_loopw [48] (fun v48 wr => ∃ i : Nat, i ≤ l.length ∧ v48 = .int .i64 (i : Int) ∧ Aside0 ((l.take i).all (fun t => lotsA t.f4) = true) ∧ Aside0 (Below w.heap.size w wr)) (fun v48 _ => l.length - (intOf v48).toNat)
      case atStart => exact ⟨0, by omega, rfl, ⟨rfl⟩, HB⟩
      case round =>
        clear HB
        obtain ⟨i, hi, rfl, HP, HB⟩ := hrel
        by_cases hlt : i < l.length
        · obtain ⟨ad, ex, hx0, hx1, hx2, hx3, hx4, hx5, hx6, hx7, hx8, hx9, hx10, hx11, hx12⟩ := at_T42 (Kd.C_below HR.out HB.out) (i : Int) (by omega) (by omega)
          cases ex
          simp only [Int.toNat_natCast] at hx0 hx1 hx2 hx3 hx4 hx5 hx6 hx7 hx8 hx9 hx10 hx11 hx12
          have hlti : (i : Int) < (l.length : Int) := by omega
          have hmem := mem_T42 l i hlt
          have htk : (l.take (i + 1)).all (fun t => lotsA t.f4) = ((l.take i).all (fun t => lotsA t.f4) && lotsA (rd_T42 l (i : Int)).f4) := by
            rw [List.take_add_one, List.all_append, List.getElem?_eq_getElem hlt]
            unfold rd_T42
            rw [Int.toNat_natCast, List.getD_eq_getElem?_getD, List.getElem?_eq_getElem hlt]
            simp
          have HTK := Aside0.mk htk
          have HMEM := Aside0.mk hmem
          clear htk hmem
          generalize rd_T42 l (i : Int) = p at *
          have HV := Aside0.mk (lotsA_val p.f4)
          cases hs : lotsA p.f4 with
          | true =>
            rw [hs] at HV
            go_wp2_with (go_at_call 21; (with_reducible refine (giveup_lots.calls p.f4 true _ HV.out).mono ?_); rintro e w2 ⟨rfl, hd⟩; have HB2 := Aside0.mk (below_step (below_alloc HB.out _) hd.below); clear hd)
            go_roundw
            case measure => show _ < _; simp [intOf]; omega
            case rel => exact ⟨i + 1, by omega, by go_num, ⟨by rw [HTK.out, HP.out, hs]; rfl⟩, HB2⟩
          | false =>
            rw [hs] at HV
            have hnot : ¬ (l.all (fun t => lotsA t.f4) = true) := fun ha => by
              have := List.all_eq_true.1 ha p HMEM.out
              rw [hs] at this; cases this
            have hr := HRES2.out
            rw [if_neg hnot] at hr
            simp only [Prod.mk.injEq] at hr
            obtain ⟨rfl, rfl, rfl⟩ := hr
            go_wp2_with (go_at_call 21; (with_reducible refine (giveup_lots.calls p.f4 false _ HV.out).mono ?_); rintro e w2 ⟨rfl, hd⟩; have HB2 := Aside0.mk (below_step (below_alloc HB.out _) hd.below); clear hd)
            refine bodyPost_ret (v := .tuple #[.int .i64 0, .int .i64 0, .int .i64 18]) (by simp [results, Try.results9, go_sem]) rfl ?_
            exact ⟨rfl, HB2.out⟩
        · obtain rfl : i = l.length := by omega
          have hp := HP.out
          rw [List.take_length] at hp
          have hr := HRES2.out
          rw [if_pos hp] at hr
          have HLOTS := Aside0.mk hp
          have HRES3 := Aside0.mk hr
          clear hp HP hr HRES2
          go_wp2_with fail
          go_loopw [11, 12, 59] (fun v11 v12 v59 wr => ∃ (i : Nat) (q c : Int), i ≤ l.length ∧ v59 = .int .i64 (i : Int) ∧ v11 = .int .i64 q ∧ v12 = .int .i64 c ∧ 0 ≤ q ∧ q ≤ 1048576 * i ∧ (i : Int) ≤ q ∧ -17592186044416 * i ≤ c ∧ c ≤ 17592186044416 * i ∧ Aside0 (q + sumT (l.drop i) = sumT l) ∧ Aside0 (c + costT (l.drop i) = costT l) ∧ Aside0 ((l.take i).all (fun t => pricB t.f5) = true) ∧ Aside0 (Below w.heap.size w wr)) (fun _ _ v59 _ => l.length - (intOf v59).toNat)
          case atStart => exact ⟨0, 0, 0, by omega, rfl, rfl, rfl, by omega, by omega, by omega, by omega, by omega, ⟨by rw [List.drop_zero]; omega⟩, ⟨by rw [List.drop_zero]; omega⟩, ⟨rfl⟩, HB⟩
          case round =>
            clear HB
            obtain ⟨i, q, c, hi, rfl, rfl, rfl, hq0, hq1, hq2, hc0', hc1, HQ, HC, HP, HB⟩ := hrel
            by_cases hlt : i < l.length
            · obtain ⟨ad, ex, hx0, hx1, hx2, hx3, hx4, hx5, hx6, hx7, hx8, hx9, hx10, hx11, hx12⟩ := at_T42 (Kd.C_below HR.out HB.out) (i : Int) (by omega) (by omega)
              cases ex
              simp only [Int.toNat_natCast] at hx0 hx1 hx2 hx3 hx4 hx5 hx6 hx7 hx8 hx9 hx10 hx11 hx12
              have hlti : (i : Int) < (l.length : Int) := by omega
              have hmem := mem_T42 l i hlt
              have htk : (l.take (i + 1)).all (fun t => pricB t.f5) = ((l.take i).all (fun t => pricB t.f5) && pricB (rd_T42 l (i : Int)).f5) := by
                rw [List.take_add_one, List.all_append, List.getElem?_eq_getElem hlt]
                unfold rd_T42
                rw [Int.toNat_natCast, List.getD_eq_getElem?_getD, List.getElem?_eq_getElem hlt]
                simp
              have hq3 := HQ.out
              have hc3 := HC.out
              rw [drop_T42 l i hlt] at hq3 hc3
              simp only [sumT, costT] at hq3 hc3
              obtain ⟨hf1, hf2⟩ := lotsA_range _ (by have := List.all_eq_true.1 HLOTS.out _ hmem; exact this)
              have HTK := Aside0.mk htk
              have HMEM := Aside0.mk hmem
              have HQ3 := Aside0.mk hq3
              have HC3 := Aside0.mk hc3
              clear htk hmem hq3 hc3 HQ HC
              generalize rd_T42 l (i : Int) = p at *
              cases hs : pricB p.f5 with
              | true =>
                obtain ⟨hp1, hp2⟩ := pricB_range _ hs
                have k1 : decide (p.f5 < -16777216) = false := decide_eq_false (by omega)
                have k2 : decide (16777216 < p.f5) = false := decide_eq_false (by omega)
                have m1 : p.f5 * p.f4 ≤ 17592186044416 := by
                  have := Int.mul_le_mul_of_nonneg_right hp2 (show 0 ≤ p.f4 by omega)
                  have := Int.mul_le_mul_of_nonneg_left hf2 (show (0 : Int) ≤ 16777216 by decide)
                  omega
                have m2 : -17592186044416 ≤ p.f5 * p.f4 := by
                  have := Int.mul_le_mul_of_nonneg_right hp1 (show 0 ≤ p.f4 by omega)
                  have := Int.mul_le_mul_of_nonneg_left hf2 (show (0 : Int) ≤ 16777216 by decide)
                  omega
                go_wp2_with fail
                go_roundw
                case measure => show _ < _; simp [intOf]; omega
                case rel => exact ⟨i + 1, q + p.f4, c + p.f5 * p.f4, by omega, by go_num, rfl, rfl, by omega, by omega, by omega, by omega, by omega, ⟨by rw [← HQ3.out]; omega⟩, ⟨by rw [← HC3.out]; omega⟩, ⟨by rw [HTK.out, HP.out, hs]; rfl⟩, ⟨below_alloc HB.out _⟩⟩
              | false =>
                have hnot : ¬ (l.all (fun t => pricB t.f5) = true) := fun ha => by
                  have := List.all_eq_true.1 ha p HMEM.out
                  rw [hs] at this; cases this
                have hr := HRES3.out
                rw [if_neg hnot] at hr
                simp only [Prod.mk.injEq] at hr
                obtain ⟨rfl, rfl, rfl⟩ := hr
                by_cases k : p.f5 < -16777216
                · have k1 : decide (p.f5 < -16777216) = true := decide_eq_true k
                  go_wp2_with fail
                  refine bodyPost_ret (v := .tuple #[.int .i64 0, .int .i64 0, .int .i64 17]) (by simp [results, Try.results9, go_sem]) rfl ?_
                  exact ⟨rfl, below_alloc HB.out _⟩
                · have k1 : decide (p.f5 < -16777216) = false := decide_eq_false k
                  have k2 : decide (16777216 < p.f5) = true := decide_eq_true (by
                    unfold pricB at hs
                    simp only [Bool.and_eq_false_iff, decide_eq_false_iff_not] at hs
                    omega)
                  go_wp2_with fail
                  refine bodyPost_ret (v := .tuple #[.int .i64 0, .int .i64 0, .int .i64 17]) (by simp [results, Try.results9, go_sem]) rfl ?_
                  exact ⟨rfl, below_alloc HB.out _⟩
            · obtain rfl : i = l.length := by omega
              have hp := HP.out
              rw [List.take_length] at hp
              have hr := HRES3.out
              rw [if_pos hp] at hr
              have hq3 := HQ.out
              have hc3 := HC.out
              rw [List.drop_length] at hq3 hc3
              simp only [sumT, costT, Int.add_zero] at hq3 hc3
              subst hq3
              subst hc3
              have HRES4 := Aside0.mk hr
              clear hp HP hr HRES3 HQ HC HLOTS
              have hqa : sumT l ≤ 1073741824 := by omega
              have hqb : 1 ≤ sumT l := by omega
              have hca : costT l ≤ 18014398509481984 := by omega
              have hcb : -18014398509481984 ≤ costT l := by omega
              generalize sumT l = q at *
              generalize costT l = c at *
              have s1 : q * tick ≤ 18014398509481984 := by
                have := Int.mul_le_mul_of_nonneg_right hqa (show 0 ≤ tick by omega)
                omega
              have s2 : 1 ≤ q * tick := by
                have := Int.mul_le_mul_of_nonneg_right hqb (show 0 ≤ tick by omega)
                omega
              go_upto_region 27 with fail
              have hfin := HRES4.out
              unfold avgEnd at hfin
              clear HRES4
              generalize q * tick = st at *
              have hm1 : Int.tmod c st < st := Int.tmod_lt_of_pos c (by omega)
              have hm2 : -st < Int.tmod c st := Int.lt_tmod_of_pos c (by omega)
              have hn1 : (st == 0) = false := beq_eq_false_iff_ne.2 (by omega)
              have hn2 : ¬ st = 0 := by omega
              have hn3 : (q == 0) = false := beq_eq_false_iff_ne.2 (by omega)
              have hn4 : ¬ q = 0 := by omega
              have hre : Int.tmod c st % st = c % st := by
                have := Int.tmod_add_mul_tdiv c st
                have e : Int.tmod c st = c + st * (-(Int.tdiv c st)) := by rw [Int.mul_neg]; omega
                rw [e, Int.add_mul_emod_self_left]
              simp only [Prod.mk.injEq] at hfin
              obtain ⟨rfl, rfl, rfl⟩ := hfin
              go_wp2_with fail
              refine bodyPost_ret (v := .tuple #[.int .i64 (wrap64 (Int.tdiv (wrap64 (c - c % st)) q)), .int .i64 (c % st), .int .i64 0]) (by simp [results, Try.results9, go_sem, hre]) rfl ?_
              exact ⟨rfl, HB.out⟩
theorem giveup_Average.calls (A0 : Option Addr) (c0 : Nat) (l0 : List S42) (a1 r1 r2 r3 : Int) (w : World) (hr0 : Kd.C k42 w A0 l0.length l0) (hc0 : l0.length ≤ c0) (h : giveup_Average.f l0 a1 = some (r1, r2, r3)) :
    Calls Try.prog 9 #[.slice A0 l0.length c0, .int .i64 a1] w fun e w' => e = .returned (.tuple #[.int .i64 r1, .int .i64 r2, .int .i64 r3]) ∧ Below w.heap.size w w' := by
  have h := Option.some.inj h
  unfold avgV at h
  by_cases h1 : a1 < 1 ∨ a1 > 16777216
  · rw [if_pos h1] at h
    simp only [Prod.mk.injEq] at h
    obtain ⟨rfl, rfl, rfl⟩ := h
    by_cases k : a1 < 1
    · have k1 : decide (a1 < 1) = true := decide_eq_true k
      go_enter Try.func9, Try.ntmps9
      go_wp2_with fail
      refine bodyPost_ret (v := .tuple #[.int .i64 0, .int .i64 0, .int .i64 16]) (by simp [results, Try.results9, go_sem]) rfl ?_
      exact ⟨rfl, Below.refl _ _⟩
    · have k1 : decide (a1 < 1) = false := decide_eq_false k
      have k2 : decide (16777216 < a1) = true := decide_eq_true (by omega)
      go_enter Try.func9, Try.ntmps9
      go_wp2_with fail
      refine bodyPost_ret (v := .tuple #[.int .i64 0, .int .i64 0, .int .i64 16]) (by simp [results, Try.results9, go_sem]) rfl ?_
      exact ⟨rfl, Below.refl _ _⟩
  · rw [if_neg h1] at h
    by_cases h2 : l0.length = 0 ∨ l0.length > 1024
    · rw [if_pos h2] at h
      simp only [Prod.mk.injEq] at h
      obtain ⟨rfl, rfl, rfl⟩ := h
      have k1 : decide (a1 < 1) = false := decide_eq_false (by omega)
      have k2 : decide (16777216 < a1) = false := decide_eq_false (by omega)
      clear hr0
      generalize l0.length = n at *
      by_cases k : n = 0
      · subst k
        go_enter Try.func9, Try.ntmps9
        go_wp2_with fail
        refine bodyPost_ret (v := .tuple #[.int .i64 0, .int .i64 0, .int .i64 8]) (by simp [results, Try.results9, go_sem]) rfl ?_
        exact ⟨rfl, Below.refl _ _⟩
      · have e1 : (n == 0) = false := beq_eq_false_iff_ne.2 k
        have e2 : ((n : Int) == 0) = false := beq_eq_false_iff_ne.2 (by omega)
        have e3 : decide (1024 < (n : Int)) = true := decide_eq_true (by omega)
        have e4 : decide (1024 < n) = true := decide_eq_true (by omega)
        go_enter Try.func9, Try.ntmps9
        go_wp2_with fail
        refine bodyPost_ret (v := .tuple #[.int .i64 0, .int .i64 0, .int .i64 8]) (by simp [results, Try.results9, go_sem]) rfl ?_
        exact ⟨rfl, Below.refl _ _⟩
    · rw [if_neg h2] at h
      exact avg_main A0 c0 l0 a1 r1 r2 r3 w hr0 hc0 (by omega) (by omega) (by omega) (by omega) h

-- NOT PRINTED: function 28 (giveup_parted_1)

-- NOT PRINTED: function 30 (giveup_parted_2)

/-! ### giveup_shares_qty: function 31 -/
def giveup_shares_qty.l0 : Nat → Int → List (S44) → Int → Int → Option (Int)
  | 0, _, _, _, _ => none
  | k + 1, x2, x5, x6, x7 => if x7 < x6 then (if 0 ≤ x7 then (if x7 < (x5.length : Int) then (giveup_shares_qty.l0 k (wrap64 (x2 + ((rd_T44 x5 x7).f1))) x5 x6 (wrap64 (x7 + 1))) else (none)) else (none)) else (some x2)
def giveup_shares_qty.f (k : Nat) (l0 : List (S44)) : Option (Int) := giveup_shares_qty.l0 k 0 l0 (l0.length : Int) 0
theorem giveup_shares_qty.mono_l : ∀ k, (∀ y0 y1 y2 y3, LeO (giveup_shares_qty.l0 k y0 y1 y2 y3) (giveup_shares_qty.l0 (k + 1) y0 y1 y2 y3))
  | 0 => fun _ _ _ _ r h => by simp [giveup_shares_qty.l0] at h
  | k + 1 => by
    have ih0 := giveup_shares_qty.mono_l k
    · intro y0 y1 y2 y3
      unfold giveup_shares_qty.l0
      repeat' first
      | (with_reducible exact ih0 _ _ _ _)
      | (with_reducible exact LeO.refl _)
      | (with_reducible exact LeO.none _)
      | (with_reducible refine LeO.ite ?_ ?_)
      | (with_reducible refine LeO.bind ?_ (fun _ => ?_))
      | exact ih0 _ _ _ _
      | exact LeO.none _
      | refine LeO.ite ?_ ?_
      | refine LeO.bind ?_ (fun _ => ?_)
theorem giveup_shares_qty.mono : ∀ a0 k, LeO (giveup_shares_qty.f k a0) (giveup_shares_qty.f (k + 1) a0) := by
  intro a0 k
  have ih0 := giveup_shares_qty.mono_l k
  unfold giveup_shares_qty.f
  repeat' first
      | (with_reducible exact ih0 _ _ _ _)
      | (with_reducible exact LeO.refl _)
      | (with_reducible exact LeO.none _)
      | (with_reducible refine LeO.ite ?_ ?_)
      | (with_reducible refine LeO.bind ?_ (fun _ => ?_))
      | exact ih0 _ _ _ _
      | exact LeO.none _
      | refine LeO.ite ?_ ?_
      | refine LeO.bind ?_ (fun _ => ?_)
set_option maxHeartbeats 8000000 in
set_option maxRecDepth 100000 in
theorem giveup_shares_qty.calls (k : Nat) (A0 : Option Addr) (c0 : Nat) (l0 : List (S44)) (r : Int) (w : World) (hr0 : Kd.C k44 w A0 l0.length l0) (hc0 : l0.length ≤ c0) (h : giveup_shares_qty.f k l0 = some r) :
    Calls Try.prog 31 #[.slice A0 l0.length c0] w fun e w' => e = .returned (.int .i64 r) ∧ Below w.heap.size w w' := by
  have hu44 := Try.underlying44
  have HR0 := Aside0.mk hr0
  have HC0 := Aside0.mk hc0
  clear hr0 hc0
  have HB := Aside0.mk (Below.refl w.heap.size w)
  have H : (giveup_shares_qty.l0 k 0 l0 (l0.length : Int) 0) = some r := h
  clear h
  have H' := Aside0.mk H
  clear H
  go_enter Try.func31, Try.ntmps31
  go_wp2
  go_loopg [2, 7] k (fun kq v2 v7 w' => ∃ (x2_1 : Int) (x7_1 : Int), v2 = .int .i64 x2_1 ∧ v7 = .int .i64 x7_1 ∧ Aside0 (giveup_shares_qty.l0 kq x2_1 l0 (l0.length : Int) x7_1 = some r) ∧ Aside0 (kq ≤ k) ∧ Aside0 (Below w.heap.size w w'))
  case atStart => exact ⟨(0), (0), (by first | rfl | (simp; done) | (simp [*]; done)), (by first | rfl | (simp; done) | (simp [*]; done)), H', ⟨Nat.le_refl _⟩, ⟨by repeat (first | (with_reducible first | exact HB.out | apply below_alloc | apply pw_below_drewN | apply below_drew1) | exact HB.out)⟩⟩
  case round =>
    clear H'
    obtain ⟨x2_1, x7_1, rfl, rfl, HA, HK1, HB⟩ := hrel
    cases gk with
    | zero => exact absurd HA.out (by simp [giveup_shares_qty.l0])
    | succ k1 =>
      have H := HA.out
      clear HA
      simp only [giveup_shares_qty.l0] at H
      by_cases c2 : x7_1 < (l0.length : Int)
      · rw [if_pos c2] at H
        have c2b0 : decide (x7_1 < (l0.length : Int)) = true := decide_eq_true c2
        clear c2
        by_cases c3 : 0 ≤ x7_1
        · rw [if_pos c3] at H
          have c3b0 : decide (0 ≤ x7_1) = true := decide_eq_true c3
          clear c3
          by_cases c4 : x7_1 < (l0.length : Int)
          · rw [if_pos c4] at H
            have c4b0 : decide (x7_1 < (l0.length : Int)) = true := decide_eq_true c4
            clear c4
            have H' := Aside0.mk H
            clear H
            have p101 : 0 ≤ (x7_1 : Int) := of_decide_eq_true (by first | (with_reducible assumption) | assumption)
            have q101 : x7_1 < (l0.length : Int) := of_decide_eq_true (by first | (with_reducible assumption) | assumption)
            obtain ⟨ad101, e101, hx101_0, hx101_1, hx101_2⟩ := at_T44 HR0.out x7_1 p101 q101
            cases e101
            replace hx101_0 := (HB.out.cell (World.block_lt_of_cell? w _ hx101_0)).trans hx101_0
            replace hx101_1 := (HB.out.cell (World.block_lt_of_cell? w _ hx101_1)).trans hx101_1
            replace hx101_2 := (HB.out.cell (World.block_lt_of_cell? w _ hx101_2)).trans hx101_2
            replace p101 := eq_true p101
            replace q101 := eq_true q101
            go_wp2_with (first | ((with_reducible refine gate_dst (N := 4) rfl ?_); refine box_event ?hg (N := 4) ?hd (cs := #[.string (⟨#[]⟩ : ByteArray), .string (⟨#[]⟩ : ByteArray), .int .i64 0]) (t := 44) ?hr ?_; (case hd => rfl); (case hg => rfl); (case hr => first | (go_simp; done) | (go_simp; rfl)); intro gb102 hg w5 hbox hb; have n0_ := Aside0.mk (below_step (by repeat (first | (with_reducible first | exact HB.out | apply below_alloc | apply pw_below_drewN | apply below_drew1) | exact HB.out)) hb); have n1_ := Aside0.mk (hbox); have n2_ := Aside0.mk ((by rw [hg]; exact (below_size (by repeat (first | (with_reducible first | exact HB.out | apply below_alloc | apply pw_below_drewN | apply below_drew1) | exact HB.out))) : w.heap.size ≤ gb102)); have n3_ := Aside0.mk ((by rw [hg]; exact (below_size (by repeat (first | (with_reducible first | exact HB.out | apply below_alloc | apply pw_below_drewN | apply below_drew1) | exact HB.out))) : w.heap.size ≤ gb102)); clear HB; have HB := n0_; have BK102 := n1_; have GW102 := n2_; have GE102 := n3_; clear n0_ n1_ n2_ n3_; clear hb hbox hg; have hcz6_0 : w5.cell? ⟨gb102, 0, none⟩ = some (.string (⟨#[]⟩ : ByteArray)) := (blk_cell BK102.out 0).trans rfl; have hcz6_1 : w5.cell? ⟨gb102, 1, none⟩ = some (.string (⟨#[]⟩ : ByteArray)) := (blk_cell BK102.out 1).trans rfl; have hcz6_2 : w5.cell? ⟨gb102, 2, none⟩ = some (.int .i64 0) := (blk_cell BK102.out 2).trans rfl; have hfz6_0 := blk_frozen BK102.out 0; have hfz6_1 := blk_frozen BK102.out 1; have hfz6_2 := blk_frozen BK102.out 2))
            go_roundg k1
            case measure => have := HK1.out; omega
            case rel => exact ⟨(wrap64 (x2_1 + ((rd_T44 l0 x7_1).f1))), (wrap64 (x7_1 + 1)), (by first | rfl | (simp; done) | (simp [*]; done)), (by first | rfl | (simp; done) | (simp [*]; done)), H', ⟨by have := HK1.out; omega⟩, ⟨by repeat (first | (with_reducible first | exact HB.out | apply below_alloc | apply pw_below_drewN | apply below_drew1 | refine below_set ?_ GE102.out) | exact HB.out)⟩⟩
          · rw [if_neg c4] at H
            exact absurd H (by simp)
        · rw [if_neg c3] at H
          exact absurd H (by simp)
      · rw [if_neg c2] at H
        have c2b0 : decide (x7_1 < (l0.length : Int)) = false := decide_eq_false c2
        clear c2
        obtain rfl := Option.some.inj H
        go_wp2
        go_ret
        exact ⟨by first | rfl | (simp [errW_none, errW_some] <;> rfl) | (simp [*, errW_none, errW_some] <;> rfl), by repeat (first | (with_reducible first | exact HB.out | apply below_alloc | apply pw_below_drewN | apply below_drew1) | exact HB.out)⟩

-- NOT PRINTED: function 33 (giveup_all)

-- NOT PRINTED: function 32 (giveup_parted_3)

end Go.Proofs.Ytaffedkheehplaa.PGiveupDivides
