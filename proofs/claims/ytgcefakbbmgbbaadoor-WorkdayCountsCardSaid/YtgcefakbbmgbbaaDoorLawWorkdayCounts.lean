/- Proved: the law 'WorkdayCounts' answers true for every input, and each argument reads behind the call as it read before: the given tied card, without a condition of ours: the listed package variable date.long begins as the program's text lays it (the card ties it). -/
/- Laid for this claim by a program of this session's (wip/ext.py, rowx); not trusted: Lean checks it. -/
import Derived.Test.YtgcefakbbmgbbaaDoorRows
import Derived.Test.YtgcefakbbmgbbaaDoorPWorkdayCountsx4
import Derived.Test.YtgcefakbbmgbbaaDoorPureWorkdayCounts
import Derived.WalkKit
import Derived.ProofKit
import Derived.OpenShut
import Derived.ShutString
import Derived.ChangeOld
import Derived.Below
import Derived.SizedLaws
import Derived.Test.YtgcefakbbmgbbaaDoorCards
import Derived.Test.YtgcefakbbmgbbaaDoorTie
import Derived.LaidMore
import Derived.Lay
import Derived.SevenTiedAt
import Derived.Stop.Joined
import Derived.Lib.SmallJoins
import Derived.Deep.Slices
namespace Go.Proofs.YtgcefakbbmgbbaaDoor.workdayCounts
open Go.ChangeShapes Go.WideShapes Go.ChangeAt Go.RowKit Go.Joins
open Go.ChangeMaps (open_string shut_string)
open Go.Proofs.YtgcefakbbmgbbaaDoor.PWorkdayCounts Go.Proofs.YtgcefakbbmgbbaaDoorW.PrintWords Go.Proofs.YtgcefakbbmgbbaaDoorW.PrintLast Go.Proofs.YtgcefakbbmgbbaaDoorW.PrintMore
set_option linter.unusedVariables false
theorem own : ownKnob Tryd.prog.godebug = none := by kernel_rfl
theorem laidOut : laidOutB Tryd.prog = true := by kernel_rfl
/-- what cells read as, by a kind: down from the form's own reading -/
def Opens {α : Type} (d : Kd α) (t : TypeId) (wf : α → Prop) : Prop :=
  ∀ {H : Type} {enc : TypeId × Value → H} {W : World} {n : Nat} {cs : List Value} {y : DataW H × List MemPlace}, DataW.trod enc Tryd.prog W 0 (fun _ => true) true n t cs = some y → ∃ x : α, d.K W x cs ∧ wf x
theorem opens_slice {α : Type} {d : Kd α} {wf : α → Prop} {t e : TypeId} (z : α) (ht : Tryd.prog.underlying t = some (.slice e)) (hc : Tryd.prog.cellsOf e = d.sz) (hd : Opens d e wf) : Opens (Kd.slice e d) t (fun xs => xs.length ≤ maxLen ∧ ∀ x ∈ xs, wf x) := by
  intro H enc W n cs y h
  haveI : Inhabited α := ⟨z⟩
  rcases Go.Deep.open_slice ht h with ⟨rfl, _⟩ | ⟨a, len, cap, m, k, D, Pl, rfl, _, hl, hm, hmm, _, hx⟩
  · exact ⟨[], ⟨none, 0, rfl, Nat.le_refl _, Kd.C_nil _ _⟩, Nat.zero_le _, by simp⟩
  · simp only [if_true] at hmm
    subst hmm
    obtain ⟨f, hf⟩ := Go.Deep.choose_lt (n := len) (p := fun i x => ∃ cs', W.cells? 0 (a.add (i * Tryd.prog.cellsOf e)) (Tryd.prog.cellsOf e) = some cs' ∧ d.K W x cs' ∧ wf x) (fun i hi => by
      obtain ⟨cs', h1, h2⟩ := hx i (by omega)
      obtain ⟨x, hk, hw⟩ := hd h2
      exact ⟨x, cs', h1, hk, hw⟩)
    have hll : ((List.range len).map f).length = len := by simp
    refine ⟨(List.range len).map f, ⟨some a, m, by rw [hll], by rw [hll]; exact hl, ?_⟩, by rw [hll]; exact Nat.le_trans hl hm, ?_⟩
    · refine ⟨rfl, by rw [hll]; exact Nat.le_trans hl hm, fun _ => ⟨a, rfl, fun j p hj => ?_⟩⟩
      have hj' : j < len := by
        have := (List.getElem?_eq_some_iff.1 hj).1
        omega
      have hp : f j = p := by simpa [hj'] using hj
      subst hp
      obtain ⟨cs', h1, hk, _⟩ := hf j hj'
      refine ⟨cs', d.K_len hk, hk, fun i u hu => ?_⟩
      obtain ⟨_, hlc, hcell⟩ := World.cells?_some h1
      have hi : i < Tryd.prog.cellsOf e := by
        have := (List.getElem?_eq_some_iff.1 hu).1
        omega
      have := hcell i hi
      rw [hu, Go.Deep.add_add, hc] at this
      exact this
    · intro x hx'
      obtain ⟨i, hi, rfl⟩ := List.mem_map.1 hx'
      obtain ⟨_, _, _, hw⟩ := hf i (List.mem_range.1 hi)
      exact hw
theorem op_3 : Opens (Kd.int .i64) 3 (fun x_ : Int => (Lit.int .i64 x_).wf = true) := fun h => by
  obtain ⟨a, e, _, hw⟩ := DataW.trod_int Tryd.underlying3 h
  exact ⟨a, e, hw⟩
theorem op_22 : Opens (Kd.slice 3 (Kd.int .i64)) 22 (fun x_ : List Int => x_.length ≤ maxLen ∧ (∀ x0 ∈ x_, (Lit.int .i64 x0).wf = true)) := fun h => by
  obtain ⟨x, hk, h1, h2⟩ := opens_slice 0 Tryd.underlying22 (by kernel_rfl) op_3 h
  exact ⟨x, hk, h1, h2⟩
structure S41 where
  f0 : Int
  f1 : Int
  f2 : Int
def k41 : Kd S41 := Kd.iso (Kd.pair (Kd.int .i64) (Kd.pair (Kd.int .i64) (Kd.int .i64))) (fun x : S41 => (x.f0, x.f1, x.f2))
theorem k41_open {w : World} {x : S41} {cs : List Value} (h : k41.K w x cs) : cs = [.int .i64 x.f0, .int .i64 x.f1, .int .i64 x.f2] := by
  obtain ⟨_, _, rfl, rfl, ⟨_, _, rfl, rfl, rfl⟩⟩ := h
  exact rfl
theorem cells_41 : ∀ (cs : List Value), cs.length = 3 → ∃ c0 c1 c2, cs = [c0, c1, c2] := by
  intro cs h
  match cs, h with
  | [c0, c1, c2], _ => exact ⟨c0, c1, c2, rfl⟩
theorem op_41 : Opens k41 41 (fun x_ : S41 => (Lit.int .i64 x_.f0).wf = true ∧ (Lit.int .i64 x_.f1).wf = true ∧ (Lit.int .i64 x_.f2).wf = true) := fun h => by
  obtain ⟨xs, m, _, _, hl, hxl, hf⟩ := DataW.trod_array Tryd.underlying41 h
  have hc : Tryd.prog.cellsOf 41 = 3 := by kernel_rfl
  have hc3 : Tryd.prog.cellsOf 3 = 1 := by kernel_rfl
  obtain ⟨c0, c1, c2, rfl⟩ := cells_41 _ (hl.trans hc)
  have g0 := hf 0 (by omega)
  obtain ⟨y0, e0⟩ : ∃ y, xs[0]? = some y := ⟨_, List.getElem?_eq_getElem (by rw [hxl]; decide)⟩
  rw [e0] at g0
  simp [hc3] at g0
  obtain ⟨x0, k0, w0⟩ := op_3 g0
  have g1 := hf 1 (by omega)
  obtain ⟨y1, e1⟩ : ∃ y, xs[1]? = some y := ⟨_, List.getElem?_eq_getElem (by rw [hxl]; decide)⟩
  rw [e1] at g1
  simp [hc3] at g1
  obtain ⟨x1, k1, w1⟩ := op_3 g1
  have g2 := hf 2 (by omega)
  obtain ⟨y2, e2⟩ : ∃ y, xs[2]? = some y := ⟨_, List.getElem?_eq_getElem (by rw [hxl]; decide)⟩
  rw [e2] at g2
  simp [hc3] at g2
  obtain ⟨x2, k2, w2⟩ := op_3 g2
  refine ⟨⟨x0, x1, x2⟩, ⟨[c0], [c1, c2], rfl, k0, ⟨[c1], [c2], rfl, k1, k2⟩⟩, ?_⟩
  exact ⟨w0, w1, w2⟩
theorem op_5 : Opens (Kd.int .u8) 5 (fun x_ : Int => (Lit.int .u8 x_).wf = true) := fun h => by
  obtain ⟨a, e, _, hw⟩ := DataW.trod_int Tryd.underlying5 h
  exact ⟨a, e, hw⟩
def longZ : List Int := [0, 31, 28, 31, 30, 31, 30, 31, 31, 30, 31, 30, 31]
/-- what the condition on the laid variable gives: its thirteen cells -/
theorem long_at {W : World} (h : laidMetH Tryd.prog [("contango/date.long", Rows.laid_contango_date_long)] W) : PWorkdayCounts.LongAt W := by
  rw [MakeChecks.laidMetH_plain _ _ _ (by kernel_rfl)] at h
  obtain ⟨ps, ⟨g, t, cs, fuel, p, q, hg, ht, hv, hd, _, _⟩, _, _⟩ := h
  obtain rfl := Option.some.inj ((show Tryd.prog.globalNamed "contango/date.long" = some 0 by kernel_rfl).symm.trans hg)
  obtain rfl := Option.some.inj ((show (Tryd.prog.globals[0]?).map (·.type) = some 59 by kernel_rfl).symm.trans ht)
  obtain ⟨xs, m, _, ex, _, hl, hel⟩ := DataW.trod_array Tryd.underlying59 hd
  have c3 : Tryd.prog.cellsOf 3 = 1 := by kernel_rfl
  intro r hr
  show W.cell? ⟨0, r, none⟩ = some (.int .i64 (longZ.getD r 0))
  have hE := hel r hr
  rw [c3, Nat.mul_one, List.getElem?_eq_getElem (by omega)] at hE
  obtain ⟨z, e1, e2, _⟩ := DataW.trod_int Tryd.underlying3 hE
  have hlen : longZ.length = 13 := by kernel_rfl
  have e3 : (xs.map (·.1)) = longZ.map fun n => .lit (.int .i64 n) := (DataW.agg.inj (Prod.mk.inj ex).1).symm
  have e4 : (xs.map (·.1))[r]? = (longZ.map fun n => (DataW.lit (.int .i64 n) : DataW Unit))[r]? := by rw [e3]
  rw [List.getElem?_map, List.getElem?_map, List.getElem?_eq_getElem (by omega : r < xs.length), List.getElem?_eq_getElem (by omega : r < longZ.length), e2] at e4
  have hz : z = longZ.getD r 0 := by
    simp only [Option.map_some, Option.some.injEq, DataW.lit.injEq, Lit.int.injEq, true_and] at e4
    rw [e4, List.getD, List.getElem?_eq_getElem (by omega : r < longZ.length)]; rfl
  rw [World.var?_cell hg hv r, ← hz]
  have : cs.toList[r]? = some (.int .i64 z) := by
    have h0 : ((cs.toList.drop r).take 1)[0]? = some (.int .i64 z) := by rw [e1]; rfl
    simpa using h0
  simpa using this
set_option maxRecDepth 100000 in
theorem lifted (os : Os) (started : os.Started) (H : Type) (enc : TypeId × Value → H) :
    ReturnsInHanded {} Tryd.checked os 7 .any (fun w args => (Rows.workdayCountsSpec.pre enc Tryd.prog Tryd.f7 Rows.workdayCountsRow.domain false w args ∧ laidMetH Tryd.prog [("contango/date.long", Rows.laid_contango_date_long)] w) ∧ sizedMet enc Tryd.prog Tryd.f7 (OpenSpec.ofChange Rows.workdayCountsSpec) false w args) (Rows.workdayCountsSpec.post enc Tryd.prog Tryd.f7 false true false false) := by
  refine returnsInHanded_of_change_and (C := Tryd.checked) (X := fun w _ => laidMetH Tryd.prog [("contango/date.long", Rows.laid_contango_date_long)] w) (fun _ _ _ hh h => h.of_heap hh) own started (by kernel_rfl) Tryd.func7
    (ChangeSpec.witness_shaped (enc := enc) (C := Tryd.checked) (os := os) (X := fun w _ => laidMetH Tryd.prog [("contango/date.long", Rows.laid_contango_date_long)] w) false (World.laidAll Tryd.prog os [("contango/date.long", Rows.laid_contango_date_long)]) #[.slice none 0 0, .agg #[.int .i64 0, .int .i64 0, .int .i64 0], .int .u8 0] 8 (World.laidAll_os _ _ _)
      (World.shaped_of_ZipB (by kernel_rfl) (by kernel_rfl)) (by kernel_rfl) (by kernel_rfl) (by kernel_rfl)
      (by rw [MakeChecks.laidMetH_plain _ _ _ (by kernel_rfl)]; exact laidMet_laidAll _ (by kernel_rfl) (by kernel_rfl))) ?_
  intro W base args ds gs before hval0 hW hcnd hsz0 hL _
  have hval : ∀ (j : Nat) t v, Tryd.f7.params[j]? = some t → args[j]? = some v → Value.okWide Tryd.prog W .any base t v := hval0
  have hW' := hW
  obtain ⟨p, q, hA0, hV, rfl, hfz, hnd⟩ := hW
  have hA : DataW.TrodAll enc Tryd.prog W 0 (fun _ => true) true Tryd.f7.params.toList args.toList ds p := hA0
  rw [Tryd.params7] at hA hval
  obtain ⟨v0, vs0, d0, ds0, p0, q0, hargs, rfl, rfl, h0, r0⟩ := trodAll_cons hA
  obtain ⟨v1, vs1, d1, ds1, p1, q1, rfl, rfl, rfl, h1, r1⟩ := trodAll_cons r0
  obtain ⟨v2, vs2, d2, ds2, p2, q2, rfl, rfl, rfl, h2, r2⟩ := trodAll_cons r1
  obtain ⟨rfl, rfl, rfl⟩ := trodAll_nil r2
  obtain rfl : args = #[v0, v1, v2] := by cases args; simp_all
  obtain ⟨rfl, rfl⟩ := trodVars_none hV
  have k0 := h0
  have lt0 : ∀ x ∈ p0, x.block < W.heap.size := by obtain ⟨m, hm⟩ := k0; exact DataW.trod_lt m _ _ _ hm
  obtain ⟨fu0, hf0⟩ := h0
  obtain ⟨A0, len0, cap0, rfl⟩ := okWide_slice Tryd.underlying22 (hval 0 22 v0 rfl rfl)
  obtain ⟨l0, ⟨A_, c_, hcs, hc0, hC0⟩, hw0⟩ := op_22 (by simpa [Value.cells] using hf0)
  obtain ⟨rfl, rfl, rfl⟩ := Value.slice.inj (List.head_eq_of_cons_eq hcs)
  have k1 := h1
  have lt1 : ∀ x ∈ p1, x.block < W.heap.size := by obtain ⟨m, hm⟩ := k1; exact DataW.trod_lt m _ _ _ hm
  obtain ⟨fu1, hf1⟩ := h1
  have hva1 := (hval 1 41 v1 rfl rfl)
  simp only [Value.okWide, Tryd.underlying41] at hva1
  obtain ⟨cs1, rfl, _, _⟩ := hva1
  obtain ⟨x1, hK1, hw1⟩ := op_41 hf1
  obtain he1 := k41_open hK1
  have hcs1 : cs1 = #[.int .i64 x1.f0, .int .i64 x1.f1, .int .i64 x1.f2] := by cases cs1; simpa [Value.cells] using he1
  subst hcs1
  obtain ⟨a2, rfl, rfl, rfl, w2⟩ := open_int Tryd.underlying5 (hval 2 5 v2 rfl rfl) h2
  clear hA0 hval0 hsz0
  obtain ⟨k, hp⟩ := Pure.WorkdayCounts l0 x1.f0 x1.f1 x1.f2 a2 hw0.1 hw0.2 hw1.1 hw1.2.1 hw1.2.2 w2
  refine (contangolaw06_WorkdayCounts.calls k _ _ l0 x1.f0 x1.f1 x1.f2 a2 true W (long_at hL) hC0 hc0 hp).mono ?_
  rintro e W' ⟨rfl, bel0⟩
  have bel : Below W.heap.size W W' := bel0
  exact ⟨_, rfl, _, _, _, [], _, [], hW', trodAll_mk1 (shut_bool Tryd.underlying4 _), (trodAll_cons_mk (Below.trod laidOut (by kernel_rfl) (of_decide_eq_true (by kernel_rfl)) k0 bel lt0) (trodAll_cons_mk (Below.trod laidOut (by kernel_rfl) (of_decide_eq_true (by kernel_rfl)) k1 bel lt1) (trodAll_cons_mk (shut_int Tryd.underlying5 w2) trodAll_mk0))), rfl, bel.frame _, fun h => by cases h⟩
theorem over : Rows.workdayCountsRow.holds Tryd.pinned (OpenSpec.ofChange Rows.workdayCountsSpec) :=
  OpenClaim.holds_of_wide 7 Tryd.f7 rfl rfl rfl rfl rfl rfl rfl ⟨rfl, rfl, rfl, rfl, rfl⟩ rfl rfl rfl rfl rfl (by kernel_rfl) Tryd.func7 (by kernel_rfl)
    (of_decide_eq_true (by kernel_rfl)) (by unfold Func.isWrapper; first | (rw [if_pos (by decide +kernel)]; kernel_rfl) | (rw [if_neg (by decide +kernel)]; exact ⟨rfl, rfl⟩))
    (fun os started H enc _ => lifted os started H enc)
theorem proved : Rows.WorkdayCountsCardSaid :=
  Claim7.holds_tied_plain_at .later [] [.data] true (true, "6ffebd566e6fd7d1519d32b661fd19c623668c4a908a8723af1af77733c186da") false over (fun _ h => by cases h) (by kernel_rfl) (fun _ h => by cases h) workdayCounts_row_tie rfl ⟨rfl, rfl⟩ (by kernel_rfl) rfl
    (fun f fn hf hfn => by
      obtain rfl : f = 7 := Option.some.inj ((show Tryd.prog.funcNamed "contango/contangolaw06.WorkdayCounts" = some 7 by kernel_rfl).symm.trans hf) |>.symm
      obtain rfl : fn = Tryd.f7 := (Option.some.inj (Tryd.func7.symm.trans hfn)).symm
      exact ⟨by kernel_rfl, fun j t ht => by
        rw [Tryd.params7] at ht
        have hm : t ∈ [22, 41, 5] := by simpa using Array.mem_of_getElem? ht
        have hall : ([22, 41, 5].all fun u => !Tryd.prog.wantsStandIn u) = true := by kernel_rfl
        exact (show Tryd.prog.wantsStandIn t = false by simpa using List.all_eq_true.1 hall t hm)⟩)
    (by kernel_rfl)
#print axioms proved
end Go.Proofs.YtgcefakbbmgbbaaDoor.workdayCounts
namespace Go.Proofs.YtgcefakbbmgbbaaDoor
/-- The row, under a short name, for the claim. -/
theorem workdayCounts_holds : Rows.WorkdayCountsCardSaid := workdayCounts.proved
end Go.Proofs.YtgcefakbbmgbbaaDoor
