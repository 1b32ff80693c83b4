/- Proved: the law 'TopAverage' answers true for every input, and each argument reads behind the call as it read before: the given statement, without a condition of ours. -/
/- Laid for this claim by a program of this session's (wip/ext.py, rowx); not trusted: Lean checks it. -/
import Derived.Test.YtlcadahihcefnaaRows
import Derived.Test.YtlcadahihcefnaaPTopAveragex8
import Derived.Test.YtlcadahihcefnaaPureTopAverage
import Derived.WalkKit
import Derived.ProofKit
import Derived.OpenShut
import Derived.ShutString
import Derived.ChangeOld
import Derived.Below
import Derived.SizedLaws
import Derived.Lib.SmallJoins
import Derived.Deep.Slices
namespace Go.Proofs.Ytlcadahihcefnaa.topAverage
open Go.ChangeShapes Go.WideShapes Go.ChangeAt Go.RowKit Go.Joins
open Go.ChangeMaps (open_string shut_string)
open Go.Proofs.Ytlcadahihcefnaa.PTopAverage Go.Proofs.YtlcadahihcefnaaW.PrintWords Go.Proofs.YtlcadahihcefnaaW.PrintLast Go.Proofs.YtlcadahihcefnaaW.PrintMore
set_option linter.unusedVariables false
theorem own : ownKnob Try.prog.godebug = none := by kernel_rfl
theorem laidOut : laidOutB Try.prog = true := by kernel_rfl
/-- what cells read as, by a kind: down from the form's own reading -/
def Opens {α : Type} (d : Kd α) (t : TypeId) (wf : α → Prop) : Prop :=
  ∀ {H : Type} {enc : TypeId × Value → H} {W : World} {n : Nat} {cs : List Value} {y : DataW H × List MemPlace}, DataW.trod enc Try.prog W 0 (fun _ => true) true n t cs = some y → ∃ x : α, d.K W x cs ∧ wf x
theorem opens_slice {α : Type} {d : Kd α} {wf : α → Prop} {t e : TypeId} (z : α) (ht : Try.prog.underlying t = some (.slice e)) (hc : Try.prog.cellsOf e = d.sz) (hd : Opens d e wf) : Opens (Kd.slice e d) t (fun xs => xs.length ≤ maxLen ∧ ∀ x ∈ xs, wf x) := by
  intro H enc W n cs y h
  haveI : Inhabited α := ⟨z⟩
  rcases Go.Deep.open_slice ht h with ⟨rfl, _⟩ | ⟨a, len, cap, m, k, D, Pl, rfl, _, hl, hm, hmm, _, hx⟩
  · exact ⟨[], ⟨none, 0, rfl, Nat.le_refl _, Kd.C_nil _ _⟩, Nat.zero_le _, by simp⟩
  · simp only [if_true] at hmm
    subst hmm
    obtain ⟨f, hf⟩ := Go.Deep.choose_lt (n := len) (p := fun i x => ∃ cs', W.cells? 0 (a.add (i * Try.prog.cellsOf e)) (Try.prog.cellsOf e) = some cs' ∧ d.K W x cs' ∧ wf x) (fun i hi => by
      obtain ⟨cs', h1, h2⟩ := hx i (by omega)
      obtain ⟨x, hk, hw⟩ := hd h2
      exact ⟨x, cs', h1, hk, hw⟩)
    have hll : ((List.range len).map f).length = len := by simp
    refine ⟨(List.range len).map f, ⟨some a, m, by rw [hll], by rw [hll]; exact hl, ?_⟩, by rw [hll]; exact Nat.le_trans hl hm, ?_⟩
    · refine ⟨rfl, by rw [hll]; exact Nat.le_trans hl hm, fun _ => ⟨a, rfl, fun j p hj => ?_⟩⟩
      have hj' : j < len := by
        have := (List.getElem?_eq_some_iff.1 hj).1
        omega
      have hp : f j = p := by simpa [hj'] using hj
      subst hp
      obtain ⟨cs', h1, hk, _⟩ := hf j hj'
      refine ⟨cs', d.K_len hk, hk, fun i u hu => ?_⟩
      obtain ⟨_, hlc, hcell⟩ := World.cells?_some h1
      have hi : i < Try.prog.cellsOf e := by
        have := (List.getElem?_eq_some_iff.1 hu).1
        omega
      have := hcell i hi
      rw [hu, Go.Deep.add_add, hc] at this
      exact this
    · intro x hx'
      obtain ⟨i, hi, rfl⟩ := List.mem_map.1 hx'
      obtain ⟨_, _, _, hw⟩ := hf i (List.mem_range.1 hi)
      exact hw
theorem op_9 : Opens Kd.string 9 (fun x_ : ByteArray => x_.size ≤ maxLen) := fun h => by
  obtain ⟨a, e, _, hw⟩ := DataW.trod_string Try.underlying9 h
  exact ⟨a, e, hw⟩
theorem op_3 : Opens (Kd.int .i64) 3 (fun x_ : Int => (Lit.int .i64 x_).wf = true) := fun h => by
  obtain ⟨a, e, _, hw⟩ := DataW.trod_int Try.underlying3 h
  exact ⟨a, e, hw⟩
theorem op_4 : Opens Kd.bool 4 (fun x_ : Bool => True) := fun h => by
  obtain ⟨a, e, _⟩ := DataW.trod_bool Try.underlying4 h
  exact ⟨a, e, trivial⟩
theorem cells_23 : ∀ (cs : List Value), cs.length = 7 → ∃ c0 c1 c2 c3 c4 c5 c6, cs = [c0, c1, c2, c3, c4, c5, c6] := by
  intro cs h
  match cs, h with
  | [c0, c1, c2, c3, c4, c5, c6], _ => exact ⟨c0, c1, c2, c3, c4, c5, c6, rfl⟩
structure S23 where
  f0 : ByteArray
  f1 : Int
  f2 : Int
  f3 : Int
  f4 : Int
  f5 : Int
  f6 : Bool
def k23 : Kd S23 := Kd.iso (Kd.pair Kd.string (Kd.pair (Kd.int .i64) (Kd.pair (Kd.int .i64) (Kd.pair (Kd.int .i64) (Kd.pair (Kd.int .i64) (Kd.pair (Kd.int .i64) Kd.bool)))))) (fun x : S23 => (x.f0, x.f1, x.f2, x.f3, x.f4, x.f5, x.f6))
theorem k23_open {w : World} {x : S23} {cs : List Value} (h : k23.K w x cs) : cs = [.string x.f0, .int .i64 x.f1, .int .i64 x.f2, .int .i64 x.f3, .int .i64 x.f4, .int .i64 x.f5, .bool x.f6] := by
  obtain ⟨_, _, rfl, rfl, ⟨_, _, rfl, rfl, ⟨_, _, rfl, rfl, ⟨_, _, rfl, rfl, ⟨_, _, rfl, rfl, ⟨_, _, rfl, rfl, rfl⟩⟩⟩⟩⟩⟩ := h
  exact rfl
theorem op_23 : Opens k23 23 (fun x_ : S23 => x_.f0.size ≤ maxLen ∧ (Lit.int .i64 x_.f1).wf = true ∧ (Lit.int .i64 x_.f2).wf = true ∧ (Lit.int .i64 x_.f3).wf = true ∧ (Lit.int .i64 x_.f4).wf = true ∧ (Lit.int .i64 x_.f5).wf = true) := fun h => by
  obtain ⟨xs, m, _, _, hl, hxl, hf⟩ := DataW.trod_struct Try.underlying23 h
  have hc : Try.prog.cellsOf 23 = 7 := by kernel_rfl
  have hc3 : Try.prog.cellsOf 3 = 1 := by kernel_rfl
  have hc4 : Try.prog.cellsOf 4 = 1 := by kernel_rfl
  have hc9 : Try.prog.cellsOf 9 = 1 := by kernel_rfl
  obtain ⟨c0, c1, c2, c3, c4, c5, c6, rfl⟩ := cells_23 _ (hl.trans hc)
  have g0 := hf 0 _ rfl
  obtain ⟨y0, e0⟩ : ∃ y, xs[0]? = some y := ⟨_, List.getElem?_eq_getElem (by rw [hxl]; decide)⟩
  rw [e0] at g0
  simp [hc9] at g0
  obtain ⟨x0, k0, w0⟩ := op_9 g0
  have g1 := hf 1 _ rfl
  obtain ⟨y1, e1⟩ : ∃ y, xs[1]? = some y := ⟨_, List.getElem?_eq_getElem (by rw [hxl]; decide)⟩
  rw [e1] at g1
  simp [hc3] at g1
  obtain ⟨x1, k1, w1⟩ := op_3 g1
  have g2 := hf 2 _ rfl
  obtain ⟨y2, e2⟩ : ∃ y, xs[2]? = some y := ⟨_, List.getElem?_eq_getElem (by rw [hxl]; decide)⟩
  rw [e2] at g2
  simp [hc3] at g2
  obtain ⟨x2, k2, w2⟩ := op_3 g2
  have g3 := hf 3 _ rfl
  obtain ⟨y3, e3⟩ : ∃ y, xs[3]? = some y := ⟨_, List.getElem?_eq_getElem (by rw [hxl]; decide)⟩
  rw [e3] at g3
  simp [hc3] at g3
  obtain ⟨x3, k3, w3⟩ := op_3 g3
  have g4 := hf 4 _ rfl
  obtain ⟨y4, e4⟩ : ∃ y, xs[4]? = some y := ⟨_, List.getElem?_eq_getElem (by rw [hxl]; decide)⟩
  rw [e4] at g4
  simp [hc3] at g4
  obtain ⟨x4, k4, w4⟩ := op_3 g4
  have g5 := hf 5 _ rfl
  obtain ⟨y5, e5⟩ : ∃ y, xs[5]? = some y := ⟨_, List.getElem?_eq_getElem (by rw [hxl]; decide)⟩
  rw [e5] at g5
  simp [hc3] at g5
  obtain ⟨x5, k5, w5⟩ := op_3 g5
  have g6 := hf 6 _ rfl
  obtain ⟨y6, e6⟩ : ∃ y, xs[6]? = some y := ⟨_, List.getElem?_eq_getElem (by rw [hxl]; decide)⟩
  rw [e6] at g6
  simp [hc4] at g6
  obtain ⟨x6, k6, w6⟩ := op_4 g6
  refine ⟨⟨x0, x1, x2, x3, x4, x5, x6⟩, ⟨[c0], [c1, c2, c3, c4, c5, c6], rfl, k0, ⟨[c1], [c2, c3, c4, c5, c6], rfl, k1, ⟨[c2], [c3, c4, c5, c6], rfl, k2, ⟨[c3], [c4, c5, c6], rfl, k3, ⟨[c4], [c5, c6], rfl, k4, ⟨[c5], [c6], rfl, k5, k6⟩⟩⟩⟩⟩⟩, ?_⟩
  exact ⟨w0, w1, w2, w3, w4, w5⟩
theorem cells_37 : ∀ (cs : List Value), cs.length = 4 → ∃ c0 c1 c2 c3, cs = [c0, c1, c2, c3] := by
  intro cs h
  match cs, h with
  | [c0, c1, c2, c3], _ => exact ⟨c0, c1, c2, c3, rfl⟩
theorem op_37 : Opens k37 37 (fun x_ : S37 => x_.f0.size ≤ maxLen ∧ (Lit.int .i64 x_.f1).wf = true ∧ (Lit.int .i64 x_.f2).wf = true ∧ (Lit.int .i64 x_.f3).wf = true) := fun h => by
  obtain ⟨xs, m, _, _, hl, hxl, hf⟩ := DataW.trod_struct Try.underlying37 h
  have hc : Try.prog.cellsOf 37 = 4 := by kernel_rfl
  have hc3 : Try.prog.cellsOf 3 = 1 := by kernel_rfl
  have hc9 : Try.prog.cellsOf 9 = 1 := by kernel_rfl
  obtain ⟨c0, c1, c2, c3, rfl⟩ := cells_37 _ (hl.trans hc)
  have g0 := hf 0 _ rfl
  obtain ⟨y0, e0⟩ : ∃ y, xs[0]? = some y := ⟨_, List.getElem?_eq_getElem (by rw [hxl]; decide)⟩
  rw [e0] at g0
  simp [hc9] at g0
  obtain ⟨x0, k0, w0⟩ := op_9 g0
  have g1 := hf 1 _ rfl
  obtain ⟨y1, e1⟩ : ∃ y, xs[1]? = some y := ⟨_, List.getElem?_eq_getElem (by rw [hxl]; decide)⟩
  rw [e1] at g1
  simp [hc3] at g1
  obtain ⟨x1, k1, w1⟩ := op_3 g1
  have g2 := hf 2 _ rfl
  obtain ⟨y2, e2⟩ : ∃ y, xs[2]? = some y := ⟨_, List.getElem?_eq_getElem (by rw [hxl]; decide)⟩
  rw [e2] at g2
  simp [hc3] at g2
  obtain ⟨x2, k2, w2⟩ := op_3 g2
  have g3 := hf 3 _ rfl
  obtain ⟨y3, e3⟩ : ∃ y, xs[3]? = some y := ⟨_, List.getElem?_eq_getElem (by rw [hxl]; decide)⟩
  rw [e3] at g3
  simp [hc3] at g3
  obtain ⟨x3, k3, w3⟩ := op_3 g3
  refine ⟨⟨x0, x1, x2, x3⟩, ⟨[c0], [c1, c2, c3], rfl, k0, ⟨[c1], [c2, c3], rfl, k1, ⟨[c2], [c3], rfl, k2, k3⟩⟩⟩, ?_⟩
  exact ⟨w0, w1, w2, w3⟩
theorem cells_39 : ∀ (cs : List Value), cs.length = 2 → ∃ c0 c1, cs = [c0, c1] := by
  intro cs h
  match cs, h with
  | [c0, c1], _ => exact ⟨c0, c1, rfl⟩
theorem op_39 : Opens k39 39 (fun x_ : S39 => x_.f0.size ≤ maxLen ∧ x_.f1.size ≤ maxLen) := fun h => by
  obtain ⟨xs, m, _, _, hl, hxl, hf⟩ := DataW.trod_struct Try.underlying39 h
  have hc : Try.prog.cellsOf 39 = 2 := by kernel_rfl
  have hc9 : Try.prog.cellsOf 9 = 1 := by kernel_rfl
  obtain ⟨c0, c1, rfl⟩ := cells_39 _ (hl.trans hc)
  have g0 := hf 0 _ rfl
  obtain ⟨y0, e0⟩ : ∃ y, xs[0]? = some y := ⟨_, List.getElem?_eq_getElem (by rw [hxl]; decide)⟩
  rw [e0] at g0
  simp [hc9] at g0
  obtain ⟨x0, k0, w0⟩ := op_9 g0
  have g1 := hf 1 _ rfl
  obtain ⟨y1, e1⟩ : ∃ y, xs[1]? = some y := ⟨_, List.getElem?_eq_getElem (by rw [hxl]; decide)⟩
  rw [e1] at g1
  simp [hc9] at g1
  obtain ⟨x1, k1, w1⟩ := op_9 g1
  refine ⟨⟨x0, x1⟩, ⟨[c0], [c1], rfl, k0, k1⟩, ?_⟩
  exact ⟨w0, w1⟩
theorem cells_41 : ∀ (cs : List Value), cs.length = 13 → ∃ c0 c1 c2 c3 c4 c5 c6 c7 c8 c9 c10 c11 c12, cs = [c0, c1, c2, c3, c4, c5, c6, c7, c8, c9, c10, c11, c12] := by
  intro cs h
  match cs, h with
  | [c0, c1, c2, c3, c4, c5, c6, c7, c8, c9, c10, c11, c12], _ => exact ⟨c0, c1, c2, c3, c4, c5, c6, c7, c8, c9, c10, c11, c12, rfl⟩
theorem op_41 : Opens k41 41 (fun x_ : S41 => (Lit.int .i64 x_.f0).wf = true ∧ (Lit.int .i64 x_.f1).wf = true ∧ (Lit.int .i64 x_.f2).wf = true ∧ x_.f3.f0.size ≤ maxLen ∧ (Lit.int .i64 x_.f3.f1).wf = true ∧ (Lit.int .i64 x_.f3.f2).wf = true ∧ (Lit.int .i64 x_.f3.f3).wf = true ∧ (Lit.int .i64 x_.f4).wf = true ∧ (Lit.int .i64 x_.f5).wf = true ∧ x_.f6.f0.size ≤ maxLen ∧ x_.f6.f1.size ≤ maxLen ∧ x_.f7.f0.size ≤ maxLen ∧ x_.f7.f1.size ≤ maxLen) := fun h => by
  obtain ⟨xs, m, _, _, hl, hxl, hf⟩ := DataW.trod_struct Try.underlying41 h
  have hc : Try.prog.cellsOf 41 = 13 := by kernel_rfl
  have hc3 : Try.prog.cellsOf 3 = 1 := by kernel_rfl
  have hc37 : Try.prog.cellsOf 37 = 4 := by kernel_rfl
  have hc39 : Try.prog.cellsOf 39 = 2 := by kernel_rfl
  obtain ⟨c0, c1, c2, c3, c4, c5, c6, c7, c8, c9, c10, c11, c12, rfl⟩ := cells_41 _ (hl.trans hc)
  have g0 := hf 0 _ rfl
  obtain ⟨y0, e0⟩ : ∃ y, xs[0]? = some y := ⟨_, List.getElem?_eq_getElem (by rw [hxl]; decide)⟩
  rw [e0] at g0
  simp [hc3] at g0
  obtain ⟨x0, k0, w0⟩ := op_3 g0
  have g1 := hf 1 _ rfl
  obtain ⟨y1, e1⟩ : ∃ y, xs[1]? = some y := ⟨_, List.getElem?_eq_getElem (by rw [hxl]; decide)⟩
  rw [e1] at g1
  simp [hc3] at g1
  obtain ⟨x1, k1, w1⟩ := op_3 g1
  have g2 := hf 2 _ rfl
  obtain ⟨y2, e2⟩ : ∃ y, xs[2]? = some y := ⟨_, List.getElem?_eq_getElem (by rw [hxl]; decide)⟩
  rw [e2] at g2
  simp [hc3] at g2
  obtain ⟨x2, k2, w2⟩ := op_3 g2
  have g3 := hf 3 _ rfl
  obtain ⟨y3, e3⟩ : ∃ y, xs[3]? = some y := ⟨_, List.getElem?_eq_getElem (by rw [hxl]; decide)⟩
  rw [e3] at g3
  simp [hc37] at g3
  obtain ⟨x3, k3, w3⟩ := op_37 g3
  have g4 := hf 4 _ rfl
  obtain ⟨y4, e4⟩ : ∃ y, xs[4]? = some y := ⟨_, List.getElem?_eq_getElem (by rw [hxl]; decide)⟩
  rw [e4] at g4
  simp [hc3] at g4
  obtain ⟨x4, k4, w4⟩ := op_3 g4
  have g5 := hf 5 _ rfl
  obtain ⟨y5, e5⟩ : ∃ y, xs[5]? = some y := ⟨_, List.getElem?_eq_getElem (by rw [hxl]; decide)⟩
  rw [e5] at g5
  simp [hc3] at g5
  obtain ⟨x5, k5, w5⟩ := op_3 g5
  have g6 := hf 6 _ rfl
  obtain ⟨y6, e6⟩ : ∃ y, xs[6]? = some y := ⟨_, List.getElem?_eq_getElem (by rw [hxl]; decide)⟩
  rw [e6] at g6
  simp [hc39] at g6
  obtain ⟨x6, k6, w6⟩ := op_39 g6
  have g7 := hf 7 _ rfl
  obtain ⟨y7, e7⟩ : ∃ y, xs[7]? = some y := ⟨_, List.getElem?_eq_getElem (by rw [hxl]; decide)⟩
  rw [e7] at g7
  simp [hc39] at g7
  obtain ⟨x7, k7, w7⟩ := op_39 g7
  refine ⟨⟨x0, x1, x2, x3, x4, x5, x6, x7⟩, ⟨[c0], [c1, c2, c3, c4, c5, c6, c7, c8, c9, c10, c11, c12], rfl, k0, ⟨[c1], [c2, c3, c4, c5, c6, c7, c8, c9, c10, c11, c12], rfl, k1, ⟨[c2], [c3, c4, c5, c6, c7, c8, c9, c10, c11, c12], rfl, k2, ⟨[c3, c4, c5, c6], [c7, c8, c9, c10, c11, c12], rfl, k3, ⟨[c7], [c8, c9, c10, c11, c12], rfl, k4, ⟨[c8], [c9, c10, c11, c12], rfl, k5, ⟨[c9, c10], [c11, c12], rfl, k6, k7⟩⟩⟩⟩⟩⟩⟩, ?_⟩
  exact ⟨w0, w1, w2, w3.1, w3.2.1, w3.2.2.1, w3.2.2.2, w4, w5, w6.1, w6.2, w7.1, w7.2⟩
theorem op_24 : Opens (Kd.slice 41 k41) 24 (fun x_ : List (S41) => x_.length ≤ maxLen ∧ (∀ x0 ∈ x_, (Lit.int .i64 x0.f0).wf = true ∧ (Lit.int .i64 x0.f1).wf = true ∧ (Lit.int .i64 x0.f2).wf = true ∧ x0.f3.f0.size ≤ maxLen ∧ (Lit.int .i64 x0.f3.f1).wf = true ∧ (Lit.int .i64 x0.f3.f2).wf = true ∧ (Lit.int .i64 x0.f3.f3).wf = true ∧ (Lit.int .i64 x0.f4).wf = true ∧ (Lit.int .i64 x0.f5).wf = true ∧ x0.f6.f0.size ≤ maxLen ∧ x0.f6.f1.size ≤ maxLen ∧ x0.f7.f0.size ≤ maxLen ∧ x0.f7.f1.size ≤ maxLen)) := fun h => by
  obtain ⟨x, hk, h1, h2⟩ := opens_slice z41 Try.underlying24 (by kernel_rfl) op_41 h
  exact ⟨x, hk, h1, h2⟩
theorem cells_43 : ∀ (cs : List Value), cs.length = 3 → ∃ c0 c1 c2, cs = [c0, c1, c2] := by
  intro cs h
  match cs, h with
  | [c0, c1, c2], _ => exact ⟨c0, c1, c2, rfl⟩
theorem op_43 : Opens k43 43 (fun x_ : S43 => x_.f0.f0.size ≤ maxLen ∧ x_.f0.f1.size ≤ maxLen ∧ (Lit.int .i64 x_.f1).wf = true) := fun h => by
  obtain ⟨xs, m, _, _, hl, hxl, hf⟩ := DataW.trod_struct Try.underlying43 h
  have hc : Try.prog.cellsOf 43 = 3 := by kernel_rfl
  have hc3 : Try.prog.cellsOf 3 = 1 := by kernel_rfl
  have hc39 : Try.prog.cellsOf 39 = 2 := by kernel_rfl
  obtain ⟨c0, c1, c2, rfl⟩ := cells_43 _ (hl.trans hc)
  have g0 := hf 0 _ rfl
  obtain ⟨y0, e0⟩ : ∃ y, xs[0]? = some y := ⟨_, List.getElem?_eq_getElem (by rw [hxl]; decide)⟩
  rw [e0] at g0
  simp [hc39] at g0
  obtain ⟨x0, k0, w0⟩ := op_39 g0
  have g1 := hf 1 _ rfl
  obtain ⟨y1, e1⟩ : ∃ y, xs[1]? = some y := ⟨_, List.getElem?_eq_getElem (by rw [hxl]; decide)⟩
  rw [e1] at g1
  simp [hc3] at g1
  obtain ⟨x1, k1, w1⟩ := op_3 g1
  refine ⟨⟨x0, x1⟩, ⟨[c0, c1], [c2], rfl, k0, k1⟩, ?_⟩
  exact ⟨w0.1, w0.2, w1⟩
theorem op_25 : Opens (Kd.slice 43 k43) 25 (fun x_ : List (S43) => x_.length ≤ maxLen ∧ (∀ x0 ∈ x_, x0.f0.f0.size ≤ maxLen ∧ x0.f0.f1.size ≤ maxLen ∧ (Lit.int .i64 x0.f1).wf = true)) := fun h => by
  obtain ⟨x, hk, h1, h2⟩ := opens_slice z43 Try.underlying25 (by kernel_rfl) op_43 h
  exact ⟨x, hk, h1, h2⟩
theorem cells_27 : ∀ (cs : List Value), cs.length = 2 → ∃ c0 c1, cs = [c0, c1] := by
  intro cs h
  match cs, h with
  | [c0, c1], _ => exact ⟨c0, c1, rfl⟩
structure S27 where
  f0 : Int
  f1 : List S43
def k27 : Kd S27 := Kd.iso (Kd.pair (Kd.int .i64) (Kd.slice 43 k43)) (fun x : S27 => (x.f0, x.f1))
theorem k27_open {w : World} {x : S27} {cs : List Value} (h : k27.K w x cs) : ∃ A1 c1, cs = [.int .i64 x.f0, .slice A1 x.f1.length c1] ∧ x.f1.length ≤ c1 ∧ Kd.C k43 w A1 x.f1.length x.f1 := by
  obtain ⟨_, _, rfl, rfl, ⟨A1, c1, rfl, l1, g1⟩⟩ := h
  exact ⟨A1, c1, rfl, l1, g1⟩
theorem op_27 : Opens k27 27 (fun x_ : S27 => (Lit.int .i64 x_.f0).wf = true ∧ x_.f1.length ≤ maxLen ∧ (∀ x0 ∈ x_.f1, x0.f0.f0.size ≤ maxLen ∧ x0.f0.f1.size ≤ maxLen ∧ (Lit.int .i64 x0.f1).wf = true)) := fun h => by
  obtain ⟨xs, m, _, _, hl, hxl, hf⟩ := DataW.trod_struct Try.underlying27 h
  have hc : Try.prog.cellsOf 27 = 2 := by kernel_rfl
  have hc3 : Try.prog.cellsOf 3 = 1 := by kernel_rfl
  have hc25 : Try.prog.cellsOf 25 = 1 := by kernel_rfl
  obtain ⟨c0, c1, rfl⟩ := cells_27 _ (hl.trans hc)
  have g0 := hf 0 _ rfl
  obtain ⟨y0, e0⟩ : ∃ y, xs[0]? = some y := ⟨_, List.getElem?_eq_getElem (by rw [hxl]; decide)⟩
  rw [e0] at g0
  simp [hc3] at g0
  obtain ⟨x0, k0, w0⟩ := op_3 g0
  have g1 := hf 1 _ rfl
  obtain ⟨y1, e1⟩ : ∃ y, xs[1]? = some y := ⟨_, List.getElem?_eq_getElem (by rw [hxl]; decide)⟩
  rw [e1] at g1
  simp [hc25] at g1
  obtain ⟨x1, k1, w1⟩ := op_25 g1
  refine ⟨⟨x0, x1⟩, ⟨[c0], [c1], rfl, k0, k1⟩, ?_⟩
  exact ⟨w0, w1.1, w1.2⟩
set_option maxRecDepth 100000 in
theorem lifted (os : Os) (started : os.Started) (H : Type) (enc : TypeId × Value → H) :
    ReturnsInHanded {} Try.checked os 3 .any (Rows.topAverageSpec.pre6 enc Try.prog Try.f3 Rows.topAverageRow.domain false) (Rows.topAverageSpec.post enc Try.prog Try.f3 false true false false) := by
  refine returnsInHanded_of_change_sized (C := Try.checked) own started (by kernel_rfl) Try.func3
    (ChangeSpec.witness6 (enc := enc) (C := Try.checked) false ⟨#[], #[.agg #[.string ByteArray.empty, .int .i64 0, .int .i64 0, .int .i64 0, .int .i64 0, .int .i64 0, .bool false], .slice none 0 0, .agg #[.int .i64 0, .slice none 0 0]], []⟩ 8 (by kernel_rfl) (by kernel_rfl) (by kernel_rfl) (by kernel_rfl)) ?_
  intro W base args ds gs before hval0 hW hcnd hsz0 _
  have hval : ∀ (j : Nat) t v, Try.f3.params[j]? = some t → args[j]? = some v → Value.okWide Try.prog W .any base t v := hval0
  have hW' := hW
  obtain ⟨p, q, hA0, hV, rfl, hfz, hnd⟩ := hW
  have hA : DataW.TrodAll enc Try.prog W 0 (fun _ => true) true Try.f3.params.toList args.toList ds p := hA0
  rw [Try.params3] at hA hval
  obtain ⟨v0, vs0, d0, ds0, p0, q0, hargs, rfl, rfl, h0, r0⟩ := trodAll_cons hA
  obtain ⟨v1, vs1, d1, ds1, p1, q1, rfl, rfl, rfl, h1, r1⟩ := trodAll_cons r0
  obtain ⟨v2, vs2, d2, ds2, p2, q2, rfl, rfl, rfl, h2, r2⟩ := trodAll_cons r1
  obtain ⟨rfl, rfl, rfl⟩ := trodAll_nil r2
  obtain rfl : args = #[v0, v1, v2] := by cases args; simp_all
  obtain ⟨rfl, rfl⟩ := trodVars_none hV
  have k0 := h0
  have lt0 : ∀ x ∈ p0, x.block < W.heap.size := by obtain ⟨m, hm⟩ := k0; exact DataW.trod_lt m _ _ _ hm
  obtain ⟨fu0, hf0⟩ := h0
  obtain ⟨cs0, rfl, _⟩ := okWide_struct Try.underlying23 (hval 0 23 v0 rfl rfl)
  obtain ⟨x0, hK0, hw0⟩ := op_23 hf0
  obtain he0 := k23_open hK0
  have hcs0 : cs0 = #[.string x0.f0, .int .i64 x0.f1, .int .i64 x0.f2, .int .i64 x0.f3, .int .i64 x0.f4, .int .i64 x0.f5, .bool x0.f6] := by cases cs0; simpa [Value.cells] using he0
  subst hcs0
  have k1 := h1
  have lt1 : ∀ x ∈ p1, x.block < W.heap.size := by obtain ⟨m, hm⟩ := k1; exact DataW.trod_lt m _ _ _ hm
  obtain ⟨fu1, hf1⟩ := h1
  obtain ⟨A1, len1, cap1, rfl⟩ := okWide_slice Try.underlying24 (hval 1 24 v1 rfl rfl)
  obtain ⟨l1, ⟨A_, c_, hcs, hc1, hC1⟩, hw1⟩ := op_24 (by simpa [Value.cells] using hf1)
  obtain ⟨rfl, rfl, rfl⟩ := Value.slice.inj (List.head_eq_of_cons_eq hcs)
  have k2 := h2
  have lt2 : ∀ x ∈ p2, x.block < W.heap.size := by obtain ⟨m, hm⟩ := k2; exact DataW.trod_lt m _ _ _ hm
  obtain ⟨fu2, hf2⟩ := h2
  obtain ⟨cs2, rfl, _⟩ := okWide_struct Try.underlying27 (hval 2 27 v2 rfl rfl)
  obtain ⟨x2, hK2, hw2⟩ := op_27 hf2
  obtain ⟨A2_1, c2_1, he2, l2_1, g2_1⟩ := k27_open hK2
  have hcs2 : cs2 = #[.int .i64 x2.f0, .slice A2_1 x2.f1.length c2_1] := by cases cs2; simpa [Value.cells] using he2
  subst hcs2
  clear hA0 hval0 hsz0
  obtain ⟨k, hp⟩ := Pure.TopAverage x0.f0 x0.f1 x0.f2 x0.f3 x0.f4 x0.f5 x0.f6 l1 x2.f0 x2.f1 hw0.1 hw0.2.1 hw0.2.2.1 hw0.2.2.2.1 hw0.2.2.2.2.1 hw0.2.2.2.2.2 hw1.1 hw1.2 hw2.1 hw2.2.1 hw2.2.2
  refine (contangotop_TopAverage.calls k x0.f0 x0.f1 x0.f2 x0.f3 x0.f4 x0.f5 x0.f6 _ _ l1 x2.f0 _ _ x2.f1 true W hC1 hc1 g2_1 l2_1 hp).mono ?_
  rintro e W' ⟨rfl, bel0⟩
  have bel : Below W.heap.size W W' := bel0
  exact ⟨_, rfl, _, _, _, [], _, [], hW', trodAll_mk1 (shut_bool Try.underlying4 _), (trodAll_cons_mk (Below.trod laidOut (by kernel_rfl) (of_decide_eq_true (by kernel_rfl)) k0 bel lt0) (trodAll_cons_mk (Below.trod laidOut (by kernel_rfl) (of_decide_eq_true (by kernel_rfl)) k1 bel lt1) (trodAll_cons_mk (Below.trod laidOut (by kernel_rfl) (of_decide_eq_true (by kernel_rfl)) k2 bel lt2) trodAll_mk0))), rfl, bel.frame _, fun h => by cases h⟩
theorem over : Rows.topAverageRow.holds Try.pinned (OpenSpec.ofChange Rows.topAverageSpec) :=
  OpenClaim.holds_of_wide 3 Try.f3 rfl rfl rfl rfl rfl rfl rfl ⟨rfl, rfl, rfl, rfl, rfl⟩ rfl rfl rfl rfl rfl (by kernel_rfl) Try.func3 (by kernel_rfl)
    (of_decide_eq_true (by kernel_rfl)) (by unfold Func.isWrapper; first | (rw [if_pos (by decide +kernel)]; kernel_rfl) | (rw [if_neg (by decide +kernel)]; exact ⟨rfl, rfl⟩))
    (fun os started H enc _ => lifted os started H enc)
theorem proved : Rows.TopAverageSaid := over
#print axioms proved
end Go.Proofs.Ytlcadahihcefnaa.topAverage
namespace Go.Proofs.Ytlcadahihcefnaa
/-- The row, under a short name, for the claim. -/
theorem topAverage_holds : Rows.TopAverageSaid := topAverage.proved
end Go.Proofs.Ytlcadahihcefnaa
