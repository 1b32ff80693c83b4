/- Proved: the law 'TopTogether' answers true for every input, and each argument reads behind the call as it read before: the given statement, without a condition of ours. -/
/- Laid for this claim by a program of this session's (wip/ext.py, rowx); not trusted: Lean checks it. -/
import Derived.Test.YthlnecmpakfdmaaRows
import Derived.Test.YthlnecmpakfdmaaPTopTogetherx8
import Derived.Test.YthlnecmpakfdmaaPureTopTogether
import Derived.WalkKit
import Derived.ProofKit
import Derived.OpenShut
import Derived.ShutString
import Derived.ChangeOld
import Derived.Below
import Derived.SizedLaws
import Derived.Lib.SmallJoins
import Derived.Deep.Slices
namespace Go.Proofs.Ythlnecmpakfdmaa.topTogether
open Go.ChangeShapes Go.WideShapes Go.ChangeAt Go.RowKit Go.Joins
open Go.ChangeMaps (open_string shut_string)
open Go.Proofs.Ythlnecmpakfdmaa.PTopTogether Go.Proofs.YthlnecmpakfdmaaW.PrintWords Go.Proofs.YthlnecmpakfdmaaW.PrintLast Go.Proofs.YthlnecmpakfdmaaW.PrintMore
set_option linter.unusedVariables false
theorem own : ownKnob Try.prog.godebug = none := by kernel_rfl
theorem laidOut : laidOutB Try.prog = true := by kernel_rfl
/-- what cells read as, by a kind: down from the form's own reading -/
def Opens {α : Type} (d : Kd α) (t : TypeId) (wf : α → Prop) : Prop :=
  ∀ {H : Type} {enc : TypeId × Value → H} {W : World} {n : Nat} {cs : List Value} {y : DataW H × List MemPlace}, DataW.trod enc Try.prog W 0 (fun _ => true) true n t cs = some y → ∃ x : α, d.K W x cs ∧ wf x
theorem opens_slice {α : Type} {d : Kd α} {wf : α → Prop} {t e : TypeId} (z : α) (ht : Try.prog.underlying t = some (.slice e)) (hc : Try.prog.cellsOf e = d.sz) (hd : Opens d e wf) : Opens (Kd.slice e d) t (fun xs => xs.length ≤ maxLen ∧ ∀ x ∈ xs, wf x) := by
  intro H enc W n cs y h
  haveI : Inhabited α := ⟨z⟩
  rcases Go.Deep.open_slice ht h with ⟨rfl, _⟩ | ⟨a, len, cap, m, k, D, Pl, rfl, _, hl, hm, hmm, _, hx⟩
  · exact ⟨[], ⟨none, 0, rfl, Nat.le_refl _, Kd.C_nil _ _⟩, Nat.zero_le _, by simp⟩
  · simp only [if_true] at hmm
    subst hmm
    obtain ⟨f, hf⟩ := Go.Deep.choose_lt (n := len) (p := fun i x => ∃ cs', W.cells? 0 (a.add (i * Try.prog.cellsOf e)) (Try.prog.cellsOf e) = some cs' ∧ d.K W x cs' ∧ wf x) (fun i hi => by
      obtain ⟨cs', h1, h2⟩ := hx i (by omega)
      obtain ⟨x, hk, hw⟩ := hd h2
      exact ⟨x, cs', h1, hk, hw⟩)
    have hll : ((List.range len).map f).length = len := by simp
    refine ⟨(List.range len).map f, ⟨some a, m, by rw [hll], by rw [hll]; exact hl, ?_⟩, by rw [hll]; exact Nat.le_trans hl hm, ?_⟩
    · refine ⟨rfl, by rw [hll]; exact Nat.le_trans hl hm, fun _ => ⟨a, rfl, fun j p hj => ?_⟩⟩
      have hj' : j < len := by
        have := (List.getElem?_eq_some_iff.1 hj).1
        omega
      have hp : f j = p := by simpa [hj'] using hj
      subst hp
      obtain ⟨cs', h1, hk, _⟩ := hf j hj'
      refine ⟨cs', d.K_len hk, hk, fun i u hu => ?_⟩
      obtain ⟨_, hlc, hcell⟩ := World.cells?_some h1
      have hi : i < Try.prog.cellsOf e := by
        have := (List.getElem?_eq_some_iff.1 hu).1
        omega
      have := hcell i hi
      rw [hu, Go.Deep.add_add, hc] at this
      exact this
    · intro x hx'
      obtain ⟨i, hi, rfl⟩ := List.mem_map.1 hx'
      obtain ⟨_, _, _, hw⟩ := hf i (List.mem_range.1 hi)
      exact hw
theorem op_9 : Opens Kd.string 9 (fun x_ : ByteArray => x_.size ≤ maxLen) := fun h => by
  obtain ⟨a, e, _, hw⟩ := DataW.trod_string Try.underlying9 h
  exact ⟨a, e, hw⟩
theorem op_3 : Opens (Kd.int .i64) 3 (fun x_ : Int => (Lit.int .i64 x_).wf = true) := fun h => by
  obtain ⟨a, e, _, hw⟩ := DataW.trod_int Try.underlying3 h
  exact ⟨a, e, hw⟩
theorem cells_35 : ∀ (cs : List Value), cs.length = 4 → ∃ c0 c1 c2 c3, cs = [c0, c1, c2, c3] := by
  intro cs h
  match cs, h with
  | [c0, c1, c2, c3], _ => exact ⟨c0, c1, c2, c3, rfl⟩
theorem op_35 : Opens k35 35 (fun x_ : S35 => x_.f0.size ≤ maxLen ∧ (Lit.int .i64 x_.f1).wf = true ∧ (Lit.int .i64 x_.f2).wf = true ∧ (Lit.int .i64 x_.f3).wf = true) := fun h => by
  obtain ⟨xs, m, _, _, hl, hxl, hf⟩ := DataW.trod_struct Try.underlying35 h
  have hc : Try.prog.cellsOf 35 = 4 := by kernel_rfl
  have hc3 : Try.prog.cellsOf 3 = 1 := by kernel_rfl
  have hc9 : Try.prog.cellsOf 9 = 1 := by kernel_rfl
  obtain ⟨c0, c1, c2, c3, rfl⟩ := cells_35 _ (hl.trans hc)
  have g0 := hf 0 _ rfl
  obtain ⟨y0, e0⟩ : ∃ y, xs[0]? = some y := ⟨_, List.getElem?_eq_getElem (by rw [hxl]; decide)⟩
  rw [e0] at g0
  simp [hc9] at g0
  obtain ⟨x0, k0, w0⟩ := op_9 g0
  have g1 := hf 1 _ rfl
  obtain ⟨y1, e1⟩ : ∃ y, xs[1]? = some y := ⟨_, List.getElem?_eq_getElem (by rw [hxl]; decide)⟩
  rw [e1] at g1
  simp [hc3] at g1
  obtain ⟨x1, k1, w1⟩ := op_3 g1
  have g2 := hf 2 _ rfl
  obtain ⟨y2, e2⟩ : ∃ y, xs[2]? = some y := ⟨_, List.getElem?_eq_getElem (by rw [hxl]; decide)⟩
  rw [e2] at g2
  simp [hc3] at g2
  obtain ⟨x2, k2, w2⟩ := op_3 g2
  have g3 := hf 3 _ rfl
  obtain ⟨y3, e3⟩ : ∃ y, xs[3]? = some y := ⟨_, List.getElem?_eq_getElem (by rw [hxl]; decide)⟩
  rw [e3] at g3
  simp [hc3] at g3
  obtain ⟨x3, k3, w3⟩ := op_3 g3
  refine ⟨⟨x0, x1, x2, x3⟩, ⟨[c0], [c1, c2, c3], rfl, k0, ⟨[c1], [c2, c3], rfl, k1, ⟨[c2], [c3], rfl, k2, k3⟩⟩⟩, ?_⟩
  exact ⟨w0, w1, w2, w3⟩
theorem cells_37 : ∀ (cs : List Value), cs.length = 6 → ∃ c0 c1 c2 c3 c4 c5, cs = [c0, c1, c2, c3, c4, c5] := by
  intro cs h
  match cs, h with
  | [c0, c1, c2, c3, c4, c5], _ => exact ⟨c0, c1, c2, c3, c4, c5, rfl⟩
theorem op_37 : Opens k37 37 (fun x_ : S37 => x_.f0.f0.size ≤ maxLen ∧ (Lit.int .i64 x_.f0.f1).wf = true ∧ (Lit.int .i64 x_.f0.f2).wf = true ∧ (Lit.int .i64 x_.f0.f3).wf = true ∧ (Lit.int .i64 x_.f1).wf = true ∧ (Lit.int .i64 x_.f2).wf = true) := fun h => by
  obtain ⟨xs, m, _, _, hl, hxl, hf⟩ := DataW.trod_struct Try.underlying37 h
  have hc : Try.prog.cellsOf 37 = 6 := by kernel_rfl
  have hc3 : Try.prog.cellsOf 3 = 1 := by kernel_rfl
  have hc35 : Try.prog.cellsOf 35 = 4 := by kernel_rfl
  obtain ⟨c0, c1, c2, c3, c4, c5, rfl⟩ := cells_37 _ (hl.trans hc)
  have g0 := hf 0 _ rfl
  obtain ⟨y0, e0⟩ : ∃ y, xs[0]? = some y := ⟨_, List.getElem?_eq_getElem (by rw [hxl]; decide)⟩
  rw [e0] at g0
  simp [hc35] at g0
  obtain ⟨x0, k0, w0⟩ := op_35 g0
  have g1 := hf 1 _ rfl
  obtain ⟨y1, e1⟩ : ∃ y, xs[1]? = some y := ⟨_, List.getElem?_eq_getElem (by rw [hxl]; decide)⟩
  rw [e1] at g1
  simp [hc3] at g1
  obtain ⟨x1, k1, w1⟩ := op_3 g1
  have g2 := hf 2 _ rfl
  obtain ⟨y2, e2⟩ : ∃ y, xs[2]? = some y := ⟨_, List.getElem?_eq_getElem (by rw [hxl]; decide)⟩
  rw [e2] at g2
  simp [hc3] at g2
  obtain ⟨x2, k2, w2⟩ := op_3 g2
  refine ⟨⟨x0, x1, x2⟩, ⟨[c0, c1, c2, c3], [c4, c5], rfl, k0, ⟨[c4], [c5], rfl, k1, k2⟩⟩, ?_⟩
  exact ⟨w0.1, w0.2.1, w0.2.2.1, w0.2.2.2, w1, w2⟩
theorem op_22 : Opens (Kd.slice 37 k37) 22 (fun x_ : List (S37) => x_.length ≤ maxLen ∧ (∀ x0 ∈ x_, x0.f0.f0.size ≤ maxLen ∧ (Lit.int .i64 x0.f0.f1).wf = true ∧ (Lit.int .i64 x0.f0.f2).wf = true ∧ (Lit.int .i64 x0.f0.f3).wf = true ∧ (Lit.int .i64 x0.f1).wf = true ∧ (Lit.int .i64 x0.f2).wf = true)) := fun h => by
  obtain ⟨x, hk, h1, h2⟩ := opens_slice z37 Try.underlying22 (by kernel_rfl) op_37 h
  exact ⟨x, hk, h1, h2⟩
theorem op_40 : Opens (Kd.slice 3 (Kd.int .i64)) 40 (fun x_ : List Int => x_.length ≤ maxLen ∧ (∀ x0 ∈ x_, (Lit.int .i64 x0).wf = true)) := fun h => by
  obtain ⟨x, hk, h1, h2⟩ := opens_slice 0 Try.underlying40 (by kernel_rfl) op_3 h
  exact ⟨x, hk, h1, h2⟩
theorem cells_42 : ∀ (cs : List Value), cs.length = 6 → ∃ c0 c1 c2 c3 c4 c5, cs = [c0, c1, c2, c3, c4, c5] := by
  intro cs h
  match cs, h with
  | [c0, c1, c2, c3, c4, c5], _ => exact ⟨c0, c1, c2, c3, c4, c5, rfl⟩
theorem op_42 : Opens k42 42 (fun x_ : S42 => x_.f0.f0.size ≤ maxLen ∧ (Lit.int .i64 x_.f0.f1).wf = true ∧ (Lit.int .i64 x_.f0.f2).wf = true ∧ (Lit.int .i64 x_.f0.f3).wf = true ∧ x_.f1.length ≤ maxLen ∧ (∀ x0 ∈ x_.f1, (Lit.int .i64 x0).wf = true) ∧ (Lit.int .i64 x_.f2).wf = true) := fun h => by
  obtain ⟨xs, m, _, _, hl, hxl, hf⟩ := DataW.trod_struct Try.underlying42 h
  have hc : Try.prog.cellsOf 42 = 6 := by kernel_rfl
  have hc3 : Try.prog.cellsOf 3 = 1 := by kernel_rfl
  have hc35 : Try.prog.cellsOf 35 = 4 := by kernel_rfl
  have hc40 : Try.prog.cellsOf 40 = 1 := by kernel_rfl
  obtain ⟨c0, c1, c2, c3, c4, c5, rfl⟩ := cells_42 _ (hl.trans hc)
  have g0 := hf 0 _ rfl
  obtain ⟨y0, e0⟩ : ∃ y, xs[0]? = some y := ⟨_, List.getElem?_eq_getElem (by rw [hxl]; decide)⟩
  rw [e0] at g0
  simp [hc35] at g0
  obtain ⟨x0, k0, w0⟩ := op_35 g0
  have g1 := hf 1 _ rfl
  obtain ⟨y1, e1⟩ : ∃ y, xs[1]? = some y := ⟨_, List.getElem?_eq_getElem (by rw [hxl]; decide)⟩
  rw [e1] at g1
  simp [hc40] at g1
  obtain ⟨x1, k1, w1⟩ := op_40 g1
  have g2 := hf 2 _ rfl
  obtain ⟨y2, e2⟩ : ∃ y, xs[2]? = some y := ⟨_, List.getElem?_eq_getElem (by rw [hxl]; decide)⟩
  rw [e2] at g2
  simp [hc3] at g2
  obtain ⟨x2, k2, w2⟩ := op_3 g2
  refine ⟨⟨x0, x1, x2⟩, ⟨[c0, c1, c2, c3], [c4, c5], rfl, k0, ⟨[c4], [c5], rfl, k1, k2⟩⟩, ?_⟩
  exact ⟨w0.1, w0.2.1, w0.2.2.1, w0.2.2.2, w1.1, w1.2, w2⟩
theorem op_23 : Opens (Kd.slice 42 k42) 23 (fun x_ : List (S42) => x_.length ≤ maxLen ∧ (∀ x0 ∈ x_, x0.f0.f0.size ≤ maxLen ∧ (Lit.int .i64 x0.f0.f1).wf = true ∧ (Lit.int .i64 x0.f0.f2).wf = true ∧ (Lit.int .i64 x0.f0.f3).wf = true ∧ x0.f1.length ≤ maxLen ∧ (∀ x1 ∈ x0.f1, (Lit.int .i64 x1).wf = true) ∧ (Lit.int .i64 x0.f2).wf = true)) := fun h => by
  obtain ⟨x, hk, h1, h2⟩ := opens_slice z42 Try.underlying23 (by kernel_rfl) op_42 h
  exact ⟨x, hk, h1, h2⟩
set_option maxRecDepth 100000 in
theorem lifted (os : Os) (started : os.Started) (H : Type) (enc : TypeId × Value → H) :
    ReturnsInHanded {} Try.checked os 3 .any (Rows.topTogetherSpec.pre6 enc Try.prog Try.f3 Rows.topTogetherRow.domain false) (Rows.topTogetherSpec.post enc Try.prog Try.f3 false true false false) := by
  refine returnsInHanded_of_change_sized (C := Try.checked) own started (by kernel_rfl) Try.func3
    (ChangeSpec.witness6 (enc := enc) (C := Try.checked) false ⟨#[], #[.slice none 0 0, .slice none 0 0, .slice none 0 0], []⟩ 8 (by kernel_rfl) (by kernel_rfl) (by kernel_rfl) (by kernel_rfl)) ?_
  intro W base args ds gs before hval0 hW hcnd hsz0 _
  have hval : ∀ (j : Nat) t v, Try.f3.params[j]? = some t → args[j]? = some v → Value.okWide Try.prog W .any base t v := hval0
  have hW' := hW
  obtain ⟨p, q, hA0, hV, rfl, hfz, hnd⟩ := hW
  have hA : DataW.TrodAll enc Try.prog W 0 (fun _ => true) true Try.f3.params.toList args.toList ds p := hA0
  rw [Try.params3] at hA hval
  obtain ⟨v0, vs0, d0, ds0, p0, q0, hargs, rfl, rfl, h0, r0⟩ := trodAll_cons hA
  obtain ⟨v1, vs1, d1, ds1, p1, q1, rfl, rfl, rfl, h1, r1⟩ := trodAll_cons r0
  obtain ⟨v2, vs2, d2, ds2, p2, q2, rfl, rfl, rfl, h2, r2⟩ := trodAll_cons r1
  obtain ⟨rfl, rfl, rfl⟩ := trodAll_nil r2
  obtain rfl : args = #[v0, v1, v2] := by cases args; simp_all
  obtain ⟨rfl, rfl⟩ := trodVars_none hV
  have k0 := h0
  have lt0 : ∀ x ∈ p0, x.block < W.heap.size := by obtain ⟨m, hm⟩ := k0; exact DataW.trod_lt m _ _ _ hm
  obtain ⟨fu0, hf0⟩ := h0
  obtain ⟨A0, len0, cap0, rfl⟩ := okWide_slice Try.underlying22 (hval 0 22 v0 rfl rfl)
  obtain ⟨l0, ⟨A_, c_, hcs, hc0, hC0⟩, hw0⟩ := op_22 (by simpa [Value.cells] using hf0)
  obtain ⟨rfl, rfl, rfl⟩ := Value.slice.inj (List.head_eq_of_cons_eq hcs)
  have k1 := h1
  have lt1 : ∀ x ∈ p1, x.block < W.heap.size := by obtain ⟨m, hm⟩ := k1; exact DataW.trod_lt m _ _ _ hm
  obtain ⟨fu1, hf1⟩ := h1
  obtain ⟨A1, len1, cap1, rfl⟩ := okWide_slice Try.underlying22 (hval 1 22 v1 rfl rfl)
  obtain ⟨l1, ⟨A_, c_, hcs, hc1, hC1⟩, hw1⟩ := op_22 (by simpa [Value.cells] using hf1)
  obtain ⟨rfl, rfl, rfl⟩ := Value.slice.inj (List.head_eq_of_cons_eq hcs)
  have k2 := h2
  have lt2 : ∀ x ∈ p2, x.block < W.heap.size := by obtain ⟨m, hm⟩ := k2; exact DataW.trod_lt m _ _ _ hm
  obtain ⟨fu2, hf2⟩ := h2
  obtain ⟨A2, len2, cap2, rfl⟩ := okWide_slice Try.underlying23 (hval 2 23 v2 rfl rfl)
  obtain ⟨l2, ⟨A_, c_, hcs, hc2, hC2⟩, hw2⟩ := op_23 (by simpa [Value.cells] using hf2)
  obtain ⟨rfl, rfl, rfl⟩ := Value.slice.inj (List.head_eq_of_cons_eq hcs)
  clear hA0 hval0 hsz0
  obtain ⟨k, hp⟩ := Pure.TopTogether l0 l1 l2 hw0.1 hw0.2 hw1.1 hw1.2 hw2.1 hw2.2
  refine (contangotop_TopTogether.calls k _ _ l0 _ _ l1 _ _ l2 true W hC0 hc0 hC1 hc1 hC2 hc2 hp).mono ?_
  rintro e W' ⟨rfl, bel0⟩
  have bel : Below W.heap.size W W' := bel0
  exact ⟨_, rfl, _, _, _, [], _, [], hW', trodAll_mk1 (shut_bool Try.underlying4 _), (trodAll_cons_mk (Below.trod laidOut (by kernel_rfl) (of_decide_eq_true (by kernel_rfl)) k0 bel lt0) (trodAll_cons_mk (Below.trod laidOut (by kernel_rfl) (of_decide_eq_true (by kernel_rfl)) k1 bel lt1) (trodAll_cons_mk (Below.trod laidOut (by kernel_rfl) (of_decide_eq_true (by kernel_rfl)) k2 bel lt2) trodAll_mk0))), rfl, bel.frame _, fun h => by cases h⟩
theorem over : Rows.topTogetherRow.holds Try.pinned (OpenSpec.ofChange Rows.topTogetherSpec) :=
  OpenClaim.holds_of_wide 3 Try.f3 rfl rfl rfl rfl rfl rfl rfl ⟨rfl, rfl, rfl, rfl, rfl⟩ rfl rfl rfl rfl rfl (by kernel_rfl) Try.func3 (by kernel_rfl)
    (of_decide_eq_true (by kernel_rfl)) (by unfold Func.isWrapper; first | (rw [if_pos (by decide +kernel)]; kernel_rfl) | (rw [if_neg (by decide +kernel)]; exact ⟨rfl, rfl⟩))
    (fun os started H enc _ => lifted os started H enc)
theorem proved : Rows.TopTogetherSaid := over
#print axioms proved
end Go.Proofs.Ythlnecmpakfdmaa.topTogether
namespace Go.Proofs.Ythlnecmpakfdmaa
/-- The row, under a short name, for the claim. -/
theorem topTogether_holds : Rows.TopTogetherSaid := topTogether.proved
end Go.Proofs.Ythlnecmpakfdmaa
