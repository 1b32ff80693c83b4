/- Laid for this claim by a program of this session's (wip/mkprint.py, wip/ext.py); not trusted: Lean checks it. -/
import Derived.Test.YtmhlajgeihjaeaaDoorPDateParsesx0
import Derived.Test.YtmhlajgeihjaeaaDoorPDateParsesx1
namespace Go.Proofs.YtmhlajgeihjaeaaDoor.PDateParses
open Go.RowKit Go.Proofs.YtmhlajgeihjaeaaDoorW.PrintWords Go.Proofs.YtmhlajgeihjaeaaDoorW.PrintLast Go.Proofs.YtmhlajgeihjaeaaDoorW.PrintMore
attribute [local go_sem] max2_int min2_int max_two min_two max_three min_three max_four min_four   -- for this text's walks alone
set_option linter.unusedVariables false
set_option linter.unusedSimpArgs false

/-! ### date_Print: function 20 -/
def rowP (y m d : Int) (p3 p6 p9 : Bool) : List Int :=
  [if p3 = true then 48 else 48 + y / 1000, if p3 = true then 48 else 48 + y / 100 % 10, if p3 = true then 48 else 48 + y / 10 % 10, if p3 = true then 48 else 48 + y % 10, 45,
   if p6 = true then 48 else 48 + m / 10, if p6 = true then 48 else 48 + m % 10, 45, if p9 = true then 48 else 48 + d / 10, if p9 = true then 48 else 48 + d % 10]
def toB (l : List Int) : ByteArray := ⟨(l.map fun n => UInt8.ofNat n.toNat).toArray⟩
def printB (t : Int × Int × Int) : ByteArray := toB (rowP t.1 t.2.1 t.2.2 false false false)
def date_Print.f (a0 : Int) : Option ByteArray := some (if a0 < 0 ∨ a0 > 73048 then (⟨#[]⟩ : ByteArray) else printB (splitV a0))
def pd : Nat → List Int → Nat → Int → List Int
  | 0, l, _, _ => l
  | f + 1, l, i, n => if 0 < n then pd f (l.set i (48 + n % 10)) (i - 1) (n / 10) else l
theorem pd_y (y m d : Int) (p6 p9 : Bool) (h : 1000 ≤ y) (h2 : y ≤ 9999) : pd 4 (rowP y m d true p6 p9) 3 y = rowP y m d false p6 p9 := by
  have e1 : 0 < y := by omega
  have e2 : 0 < y / 10 := by omega
  have e3 : 0 < y / 10 / 10 := by omega
  have e4 : 0 < y / 10 / 10 / 10 := by omega
  have q1 : y / 10 / 10 / 10 % 10 = y / 1000 := by omega
  have q2 : y / 10 / 10 % 10 = y / 100 % 10 := by omega
  simp only [pd, if_pos e1, if_pos e2, if_pos e3, if_pos e4]
  simp [rowP, q1, q2]
theorem pd_m (y m d : Int) (p3 p9 : Bool) (h : 1 ≤ m) (h2 : m ≤ 99) : pd 2 (rowP y m d p3 true p9) 6 m = rowP y m d p3 false p9 := by
  have e1 : 0 < m := by omega
  by_cases e2 : 0 < m / 10
  · have q1 : m / 10 % 10 = m / 10 := by omega
    simp only [pd, if_pos e1, if_pos e2]
    simp [rowP, q1]
  · have q1 : m / 10 = 0 := by omega
    simp only [pd, if_pos e1, if_neg e2]
    simp [rowP, q1]
theorem pd_d (y m d : Int) (p3 p6 : Bool) (h : 1 ≤ d) (h2 : d ≤ 99) : pd 2 (rowP y m d p3 p6 true) 9 d = rowP y m d p3 p6 false := by
  have e1 : 0 < d := by omega
  by_cases e2 : 0 < d / 10
  · have q1 : d / 10 % 10 = d / 10 := by omega
    simp only [pd, if_pos e1, if_pos e2]
    simp [rowP, q1]
  · have q1 : d / 10 = 0 := by omega
    simp only [pd, if_pos e1, if_neg e2]
    simp [rowP, q1]
theorem rowP_len (y m d : Int) (p3 p6 p9 : Bool) : (rowP y m d p3 p6 p9).length = 10 := rfl
theorem mk_cell {w : World} {g : Nat} {t : TypeId} {cs : Array Value} {fr : Nat × Nat} (h : w.heap[g]? = some (.cells cs t fr)) (i : Nat) : w.cell? ⟨g, i, none⟩ = cs[i]? := cell_of_row w g i cs t fr h
theorem mk_frozen {w : World} {g : Nat} {t : TypeId} {cs : Array Value} (h : w.heap[g]? = some (.cells cs t (10, 11))) (i : Nat) (hi : i < 10) : w.frozen? ⟨g, i, none⟩ = false := by
  simp [World.frozen?, h]; omega
theorem mk_set {w : World} {g : Nat} {t : TypeId} {cs : Array Value} {fr : Nat × Nat} (h : w.heap[g]? = some (.cells cs t fr)) (i : Nat) (u : Value) : (w.setCell ⟨g, i, none⟩ u).heap[g]? = some (.cells (cs.setIfInBounds i u) t fr) := by
  simp [World.setCell, Array.getElem?_modify, h]
theorem set_cells (l : List Int) (i : Nat) (x : Int) : ((l.map (Value.int .u8)).toArray).setIfInBounds i (.int .u8 x) = ((l.set i x).map (Value.int .u8)).toArray := by
  simp [List.map_set]
theorem cells_at (l : List Int) (i : Nat) (hi : i < l.length) : ((l.map (Value.int .u8)).toArray)[i]? = some (.int .u8 (l.getD i 0)) := by
  simp [hi]
set_option maxHeartbeats 4000000 in
set_option maxRecDepth 100000 in
theorem conv_back {W : World} {g : Nat} (l : List Int) (c : Nat) (hl : l.length = 10) (hb : ∀ x ∈ l, 0 ≤ x ∧ x ≤ 255) (h : W.heap[g]? = some (.cells (l.map (Value.int .u8)).toArray 5 (10, 11))) :
    (Go.convert 48 9 (.slice (some ⟨g, 0, none⟩) 10 c)).run Tryd.prog W = .ok (.string (toB l)) W := by
  have h1 := run_convert_bytes_back (P := Tryd.prog) W 48 9 5 ⟨g, 0, none⟩ c (l.map fun n => UInt8.ofNat n.toNat) Tryd.underlying48 Tryd.underlying5 Tryd.underlying9 (fun j hj => by
    have hj' : j < l.length := by simpa using hj
    have h2 : W.cell? (Addr.add ⟨g, 0, none⟩ j) = W.cell? ⟨g, j, none⟩ := by cases j <;> simp [Addr.add]
    rw [h2, mk_cell h j, cells_at l j hj']
    have hx := hb _ (List.getElem_mem hj')
    simp only [List.getElem_map, List.getD_eq_getElem?_getD, List.getElem?_eq_getElem hj', Option.getD_some]
    congr 2
    rw [UInt8.toNat_ofNat']
    omega)
  rw [List.length_map, hl] at h1
  exact h1

theorem gr_set (w : World) (b i : Nat) (v : Value) : w.grownBy (w.setCell ⟨b, i, none⟩ v) (some b) :=
  ⟨rfl, rfl, rfl, by simp [World.setCell], fun k _ hk => Below.heap_setCell w ⟨b, i, none⟩ v k (fun e => hk (by rw [e]))⟩
theorem intKeyed : Go.Maps.Keyed Tryd.prog 3 := Go.Maps.int_keyed Tryd.underlying3
def mapD (y m d : Int) : DataW Unit := (((DataW.map []).put (.int .i64 3) (.lit (.int .i64 y))).put (.int .i64 6) (.lit (.int .i64 m))).put (.int .i64 9) (.lit (.int .i64 d))
theorem map_at3 (y m d : Int) : (mapD y m d).atKey (.int .i64 3) .nil = .lit (.int .i64 y) := rfl
theorem map_at6 (y m d : Int) : (mapD y m d).atKey (.int .i64 6) .nil = .lit (.int .i64 m) := rfl
theorem map_at9 (y m d : Int) : (mapD y m d).atKey (.int .i64 9) .nil = .lit (.int .i64 d) := rfl
theorem map_has (y m d : Int) : Go.Maps.has (mapD y m d) (.int .i64 3) = true ∧ Go.Maps.has (mapD y m d) (.int .i64 6) = true ∧ Go.Maps.has (mapD y m d) (.int .i64 9) = true := ⟨rfl, rfl, rfl⟩
theorem map_else (y m d x : Int) (h3 : x ≠ 3) (h6 : x ≠ 6) (h9 : x ≠ 9) : (mapD y m d).atKey (.int .i64 x) .nil = .nil := by
  unfold mapD
  rw [Go.Maps.atKey_put_other (by intro e; injection e; omega), Go.Maps.atKey_put_other (by intro e; injection e; omega), Go.Maps.atKey_put_other (by intro e; injection e; omega)]
  rfl
theorem entry_step (y m d x c : Int) (left : Lit → Bool) (hy : 1000 ≤ y) (hy2 : y ≤ 9999) (hm : 1 ≤ m) (hm2 : m ≤ 12) (hd : 1 ≤ d) (hd2 : d ≤ 31) (hlx : left (.int .i64 x) = true) (hat : ∀ zd, (mapD y m d).atKey (.int .i64 x) zd = .lit (.int .i64 c)) :
    ∃ f : Nat, (f : Int) ≤ x + 1 ∧ 0 ≤ x ∧ x ≤ 9 ∧ 0 ≤ c ∧ c < 10 ^ f ∧ f ≤ 4 ∧ pd f (rowP y m d (left (.int .i64 3)) (left (.int .i64 6)) (left (.int .i64 9))) x.toNat c = rowP y m d (left (.int .i64 3) && !(Lit.int .i64 3).sameKey (.int .i64 x)) (left (.int .i64 6) && !(Lit.int .i64 6).sameKey (.int .i64 x)) (left (.int .i64 9) && !(Lit.int .i64 9).sameKey (.int .i64 x)) := by
  have h0 := hat .nil
  by_cases h3 : x = 3
  · subst h3
    rw [map_at3] at h0
    injection h0 with h0; injection h0 with _ h0
    subst h0
    refine ⟨4, by omega, by omega, by omega, by omega, by rw [show (10 : Int) ^ 4 = 10000 from by decide]; omega, by omega, ?_⟩
    rw [hlx]
    have e1 : (Lit.int .i64 3).sameKey (.int .i64 3) = true := by decide
    have e2 : (Lit.int .i64 6).sameKey (.int .i64 3) = false := by decide
    have e3 : (Lit.int .i64 9).sameKey (.int .i64 3) = false := by decide
    rw [e1, e2, e3]
    simp only [Bool.not_true, Bool.and_false, Bool.not_false, Bool.and_true]
    exact pd_y y m d _ _ hy hy2
  · by_cases h6 : x = 6
    · subst h6
      rw [map_at6] at h0
      injection h0 with h0; injection h0 with _ h0
      subst h0
      refine ⟨2, by omega, by omega, by omega, by omega, by rw [show (10 : Int) ^ 2 = 100 from by decide]; omega, by omega, ?_⟩
      rw [hlx]
      have e1 : (Lit.int .i64 3).sameKey (.int .i64 6) = false := by decide
      have e2 : (Lit.int .i64 6).sameKey (.int .i64 6) = true := by decide
      have e3 : (Lit.int .i64 9).sameKey (.int .i64 6) = false := by decide
      rw [e1, e2, e3]
      simp only [Bool.not_true, Bool.and_false, Bool.not_false, Bool.and_true]
      exact pd_m y m d _ _ hm (by omega)
    · by_cases h9 : x = 9
      · subst h9
        rw [map_at9] at h0
        injection h0 with h0; injection h0 with _ h0
        subst h0
        refine ⟨2, by omega, by omega, by omega, by omega, by rw [show (10 : Int) ^ 2 = 100 from by decide]; omega, by omega, ?_⟩
        rw [hlx]
        have e1 : (Lit.int .i64 3).sameKey (.int .i64 9) = false := by decide
        have e2 : (Lit.int .i64 6).sameKey (.int .i64 9) = false := by decide
        have e3 : (Lit.int .i64 9).sameKey (.int .i64 9) = true := by decide
        rw [e1, e2, e3]
        simp only [Bool.not_true, Bool.and_false, Bool.not_false, Bool.and_true]
        exact pd_d y m d _ _ hd (by omega)
      · rw [map_else y m d x h3 h6 h9] at h0
        cases h0
theorem rowP_bytes (y m d : Int) (hy : 1000 ≤ y) (hy2 : y ≤ 9999) (hm : 1 ≤ m) (hm2 : m ≤ 12) (hd : 1 ≤ d) (hd2 : d ≤ 31) : ∀ x ∈ rowP y m d false false false, 0 ≤ x ∧ x ≤ 255 := by
  intro x hx
  simp only [rowP, Bool.false_eq_true, if_false, List.mem_cons, List.not_mem_nil, or_false] at hx
  rcases hx with rfl | rfl | rfl | rfl | rfl | rfl | rfl | rfl | rfl | rfl <;> omega
set_option maxHeartbeats 8000000 in
set_option maxRecDepth 100000 in
theorem print_good (day y m d : Int) (w : World) (hL : LongAt w) (hs : date_Split.f day = some (y, m, d, 0)) (hy : 1000 ≤ y) (hy2 : y ≤ 9999) (hm : 1 ≤ m) (hm2 : m ≤ 12) (hd : 1 ≤ d) (hd2 : d ≤ 31) :
    Calls Tryd.prog 20 #[.int .i64 day] w fun e w' => e = .returned (.string (toB (rowP y m d false false false))) ∧ Below w.heap.size w w' := by
  have hcb : ∀ (W : World), (Go.convert 48 48 (.slice (some ⟨W.heap.size, 0, none⟩) 10 10)).run Tryd.prog (W.alloc (.cells #[.int .u8 48, .int .u8 48, .int .u8 48, .int .u8 48, .int .u8 45, .int .u8 48, .int .u8 48, .int .u8 45, .int .u8 48, .int .u8 48] 5)) = .ok (.slice (some ⟨W.heap.size, 0, none⟩) 10 10) (W.alloc (.cells #[.int .u8 48, .int .u8 48, .int .u8 48, .int .u8 48, .int .u8 45, .int .u8 48, .int .u8 48, .int .u8 45, .int .u8 48, .int .u8 48] 5 (10, 11))) := fun W => Go.Lib.run_convert_bytes_const (P := Tryd.prog) W 48 5 _ 10 10 Tryd.underlying48 Tryd.underlying5
  have HL := Aside0.mk hL
  have HS := Aside0.mk hs
  clear hL hs
  go_enter Tryd.func20, Tryd.ntmps20
  go_upto_region 5 with (go_at_call 16; (with_reducible refine (date_Split.calls day y m d 0 _ HL.out HS.out).mono ?_); rintro e w1 ⟨rfl, hb⟩; have HB := Aside0.mk hb; clear hb)
  have hB1 := HB.out
  have HB1 := Aside0.mk (below_alloc (below_alloc hB1 (.cells #[.int .u8 48, .int .u8 48, .int .u8 48, .int .u8 48, .int .u8 45, .int .u8 48, .int .u8 48, .int .u8 45, .int .u8 48, .int .u8 48] 5 (10, 11))) (.map #[] 0))
  have HG1 := Aside0.mk (blk_alloc (blk_new w1 (.cells #[.int .u8 48, .int .u8 48, .int .u8 48, .int .u8 48, .int .u8 45, .int .u8 48, .int .u8 48, .int .u8 45, .int .u8 48, .int .u8 48] 5 (10, 11))) (.map #[] 0))
  have ho5 := World.ownsMap_made (H := Unit) (w1.alloc (.cells #[.int .u8 48, .int .u8 48, .int .u8 48, .int .u8 48, .int .u8 45, .int .u8 48, .int .u8 48, .int .u8 45, .int .u8 48, .int .u8 48] 5 (10, 11))) Tryd.prog 3 (plainElem Tryd.prog 3)
  have hgb := HB.out.size
  have hgm : w1.heap.size < (w1.alloc (.cells #[.int .u8 48, .int .u8 48, .int .u8 48, .int .u8 48, .int .u8 45, .int .u8 48, .int .u8 48, .int .u8 45, .int .u8 48, .int .u8 48] 5 (10, 11))).heap.size := by simp
  clear hB1 hcb HB HS
  generalize hW4 : w1.alloc (.cells #[.int .u8 48, .int .u8 48, .int .u8 48, .int .u8 48, .int .u8 45, .int .u8 48, .int .u8 48, .int .u8 45, .int .u8 48, .int .u8 48] 5 (10, 11)) = W4 at *
  have key3 : keyOf Tryd.prog 3 (.int .i64 3) = some (.int .i64 3) := Go.Maps.keyOf_int_mk Tryd.underlying3 (by decide)
  have key6 : keyOf Tryd.prog 3 (.int .i64 6) = some (.int .i64 6) := Go.Maps.keyOf_int_mk Tryd.underlying3 (by decide)
  have key9 : keyOf Tryd.prog 3 (.int .i64 9) = some (.int .i64 9) := Go.Maps.keyOf_int_mk Tryd.underlying3 (by decide)
  have wfv : ∀ v : Int, 0 ≤ v → v ≤ 9999 → (Lit.int .i64 v).wf = true := fun v h1 h2 => by
    have e1 : IntKind.i64.min = -9223372036854775808 := by decide
    have e2 : IntKind.i64.max = 9223372036854775807 := by decide
    show (decide (IntKind.i64.min ≤ v) && decide (v ≤ IntKind.i64.max)) = true
    rw [e1, e2, decide_eq_true (by omega), decide_eq_true (by omega)]; rfl
  obtain ⟨w6, hr6, ho6, hg6⟩ := ho5.update intKeyed Tryd.underlying49 (by unfold maxLen; omega) key3 (plainElem_int Tryd.underlying3 (wfv y (by omega) (by omega)))
  obtain ⟨w7, hr7, ho7, hg7⟩ := ho6.update intKeyed Tryd.underlying49 (by unfold maxLen; omega) key6 (plainElem_int Tryd.underlying3 (wfv m (by omega) (by omega)))
  obtain ⟨w8, hr8, ho8, hg8⟩ := ho7.update intKeyed Tryd.underlying49 (by unfold maxLen; omega) key9 (plainElem_int Tryd.underlying3 (wfv d (by omega) (by omega)))
  obtain ⟨w9, hr9, hrg9, hg9, hs9⟩ := ho8.range intKeyed Tryd.underlying49
  have hmm := @run_makeMap Tryd.prog
  have HW := Aside0.mk wfv
  clear wfv key3 key6 key9
  have HB9 := Aside0.mk ((((HB1.out.grown hg6 HB1.out.size (fun j hj => by cases hj; omega)).grown hg7 (Nat.le_trans HB1.out.size hg6.size) (fun j hj => by cases hj; omega)).grown hg8 (Nat.le_trans (Nat.le_trans HB1.out.size hg6.size) hg7.size) (fun j hj => by cases hj; omega)).grown hg9 (Nat.le_trans (Nat.le_trans (Nat.le_trans HB1.out.size hg6.size) hg7.size) hg8.size) (fun j hj => by cases hj))
  have hneb : ∀ {a : Nat}, a = W4.heap.size → some w1.heap.size ≠ some a := fun h e => by cases e; omega
  have HG9 := Aside0.mk (show w9.heap[w1.heap.size]? = some (.cells ((rowP y m d true true true).map (Value.int .u8)).toArray 5 (10, 11)) from blk_grown (blk_grown (blk_grown (blk_grown HG1.out hg6 (hneb rfl)) hg7 (hneb rfl)) hg8 (hneb rfl)) hg9 (by simp))
  have HRG9 := Aside0.mk (show w9.ranges Tryd.prog 3 (plainElem Tryd.prog 3) W4.heap.size w8.heap.size 3 (mapD y m d) (Go.Maps.has (mapD y m d)) (Go.Maps.size (mapD y m d)) from hrg9)
  have hgbr : w1.heap.size < w8.heap.size := Nat.lt_of_lt_of_le hgm (Nat.le_trans (Nat.le_trans (Nat.le_trans (by simp) hg6.size) hg7.size) hg8.size)
  have hgr : w.heap.size ≤ w8.heap.size := Nat.le_trans (Nat.le_trans (Nat.le_trans HB1.out.size hg6.size) hg7.size) hg8.size
  go_wp2_with fail
  clear hr6 hr7 hr8 hr9 ho5 ho6 ho7 ho8 hrg9 hg6 hg7 hg8 hg9 hs9 HG1 HB1 HW hmm hneb hW4
  generalize w8.heap.size = r at *
  generalize W4.heap.size = gm at *
  generalize w1.heap.size = gb at *
  go_loopw [8, 9] (fun v8 v9 wr => ∃ (left : Lit → Bool) (cnt : Nat), Aside0 (wr.ranges Tryd.prog 3 (plainElem Tryd.prog 3) gm r 3 (mapD y m d) left cnt) ∧ Aside0 (wr.heap[gb]? = some (.cells ((rowP y m d (left (.int .i64 3)) (left (.int .i64 6)) (left (.int .i64 9))).map (Value.int .u8)).toArray 5 (10, 11))) ∧ Aside0 (Below w.heap.size w wr)) (fun _ _ wr => wr.rangeLeft gm r)
  case atStart => exact ⟨_, _, HRG9, ⟨by rw [(map_has y m d).1, (map_has y m d).2.1, (map_has y m d).2.2]; exact HG9.out⟩, HB9⟩
  case round =>
    clear HRG9 HG9 HB9
    obtain ⟨left, cnt, HRG, HG, HB⟩ := hrel
    have hrg := HRG.out
    go_wp2_with (first | (at_next; refine wpList_next_ranges_ii _ rfl _ rfl 3 3 .i64 .i64 intKeyed Tryd.underlying3 Tryd.underlying3 gm r 3 _ _ _ rfl hrg ?_ ?_) | fail)
    · intro _ hl0
      have hcv := conv_back (rowP y m d false false false) 10 rfl (rowP_bytes y m d hy hy2 hm hm2 hd hd2) (by have := HG.out; rw [hl0, hl0, hl0] at this; exact this)
      clear hrg
      go_wp2
      go_ret
      exact ⟨rfl, HB.out⟩
    · intro x c w2 cnt1 hwx hwc hlx hat hrg1 hlt hg1 hs1 hen
      obtain ⟨f, hf1, hx0, hx9, hc0, hcf, hf4, hpd⟩ := entry_step y m d x c left hy hy2 hm hm2 hd hd2 hlx hat
      have HG2 := Aside0.mk (blk_grown HG.out hg1 (by intro e; cases e; omega))
      have HB2 := Aside0.mk (HB.out.grown hg1 HB.out.size (fun j hj => by cases hj; omega))
      have HR2 := Aside0.mk hrg1
      generalize hLL : rowP y m d (left (.int .i64 3) && !(Lit.int .i64 3).sameKey (.int .i64 x)) (left (.int .i64 6) && !(Lit.int .i64 6).sameKey (.int .i64 x)) (left (.int .i64 9) && !(Lit.int .i64 9).sameKey (.int .i64 x)) = L at hpd
      have HLL := Aside0.mk hLL
      have HPD := Aside0.mk hpd
      have HCF := Aside0.mk hcf
      have HRL := Aside0.mk (show cnt1 < wr.rangeLeft gm r from by rw [hrg.left_eq]; exact hlt)
      have hc9 : c ≤ 9999 := by
        have : (10 : Int) ^ f ≤ 10 ^ 4 := by
          have : f = 0 ∨ f = 1 ∨ f = 2 ∨ f = 3 ∨ f = 4 := by omega
          rcases this with rfl | rfl | rfl | rfl | rfl <;> decide
        rw [show (10 : Int) ^ 4 = 10000 from by decide] at this
        omega
      have HLEN := Aside0.mk (rowP_len y m d (left (.int .i64 3)) (left (.int .i64 6)) (left (.int .i64 9)))
      generalize rowP y m d (left (.int .i64 3)) (left (.int .i64 6)) (left (.int .i64 9)) = l0 at *
      clear hrg hrg1 hat hlx hwx hwc hg1 hs1 hLL hpd hcf hlt HRG HG HB
      go_wp2_with fail
      clear hen
      go_loopw [8, 9] (fun v8 v9 wi => ∃ (f : Nat) (z n : Int) (l : List Int), (f : Int) ≤ z + 1 ∧ -1 ≤ z ∧ z ≤ 9 ∧ 0 ≤ n ∧ n ≤ 9999 ∧ f ≤ 4 ∧ v8 = .int .i64 z ∧ v9 = .int .i64 n ∧ Aside0 (n < 10 ^ f) ∧ Aside0 (pd f l z.toNat n = L) ∧ Aside0 (l.length = 10) ∧ Aside0 (wi.ranges Tryd.prog 3 (plainElem Tryd.prog 3) gm r 3 (mapD y m d) (fun z => left z && !z.sameKey (.int .i64 x)) cnt1) ∧ Aside0 (wi.heap[gb]? = some (.cells (l.map (Value.int .u8)).toArray 5 (10, 11))) ∧ Aside0 (Below w.heap.size w wi)) (fun _ v9 _ => (intOf v9).toNat)
      case atStart => exact ⟨f, x, c, _, hf1, by omega, hx9, hc0, hc9, hf4, rfl, rfl, HCF, HPD, HLEN, HR2, HG2, HB2⟩
      case round =>
        clear HCF HPD HLEN HR2 HG2 HB2
        obtain ⟨f, z, n, l, hf1, hz0, hz9, hn0, hn9, hf4, rfl, rfl, HCF, HPD, HLEN, HR2, HG2, HB2⟩ := hrel
        by_cases hn : 0 < n
        · obtain ⟨f, rfl⟩ : ∃ g, f = g + 1 := by
            cases f with
            | zero => have := HCF.out; simp at this; omega
            | succ g => exact ⟨g, rfl⟩
          have hz : 0 ≤ z := by omega
          have hpd := HPD.out
          rw [pd, if_pos hn] at hpd
          have HPD2 := Aside0.mk hpd
          have hcell : wr.cell? ⟨gb, z.toNat, none⟩ = some (.int .u8 (l.getD z.toNat 0)) := by rw [mk_cell HG2.out, cells_at l z.toNat (by rw [HLEN.out]; omega)]
          have hfz : wr.frozen? ⟨gb, z.toNat, none⟩ = false := mk_frozen HG2.out z.toNat (by omega)
          clear hpd HPD
          go_wp2_with fail
          go_roundw
          case measure => show _ < _; simp [intOf]; omega
          case rel =>
            refine ⟨f, z - 1, n / 10, l.set z.toNat (48 + n % 10), by omega, by omega, by omega, by omega, by omega, by omega, rfl, rfl, ⟨?_⟩, ⟨?_⟩, ⟨by rw [List.length_set]; exact HLEN.out⟩, ⟨HR2.out.kept (gr_set _ _ _ _) (by intro e; cases e; omega) (by intro e; cases e; omega)⟩, ⟨by rw [← set_cells]; exact mk_set HG2.out _ _⟩, ⟨HB2.out.setCell (by show w.heap.size ≤ gb; omega) _⟩⟩
            · have h1 := HCF.out
              rw [Int.pow_succ] at h1
              omega
            · rw [show (z - 1).toNat = z.toNat - 1 by omega]; exact HPD2.out
        · obtain rfl : n = 0 := by omega
          have hl : l = L := by
            have := HPD.out
            cases f with
            | zero => exact this
            | succ g => rw [pd, if_neg (by omega)] at this; exact this
          subst hl
          clear HPD HCF
          go_wp2_with fail
          go_roundw
          case measure => rw [HR2.out.left_eq]; exact HRL.out
          case rel => exact ⟨_, cnt1, HR2, ⟨by rw [HLL.out]; exact HG2.out⟩, HB2⟩
set_option maxHeartbeats 4000000 in
set_option maxRecDepth 100000 in
theorem print_bad (day : Int) (w : World) (hL : LongAt w) (hs : date_Split.f day = some (0, 0, 0, 15)) :
    Calls Tryd.prog 20 #[.int .i64 day] w fun e w' => e = .returned (.string (⟨#[]⟩ : ByteArray)) ∧ Below w.heap.size w w' := by
  have HL := Aside0.mk hL
  have HS := Aside0.mk hs
  clear hL hs
  go_enter Tryd.func20, Tryd.ntmps20
  go_wp2_with (go_at_call 16; (with_reducible refine (date_Split.calls day 0 0 0 15 _ HL.out HS.out).mono ?_); rintro e w1 ⟨rfl, hb⟩; have HB := Aside0.mk hb; clear hb)
  go_ret
  exact ⟨rfl, HB.out⟩
theorem monGo_range (f : Nat) : ∀ (b : Bool) (m d : Int), 1 ≤ m → m + f = 13 → 1 ≤ f → 0 ≤ d → d + msum b (m.toNat - 1) < msum b 12 → 1 ≤ (monGo f b m d).1 ∧ (monGo f b m d).1 ≤ 12 ∧ 1 ≤ (monGo f b m d).2 ∧ (monGo f b m d).2 ≤ 31 ∧ (monGo f b m d).2 ≤ dl b (monGo f b m d).1 ∧ (monGo f b m d).2 - 1 + msum b ((monGo f b m d).1.toNat - 1) = d + msum b (m.toNat - 1) := by
  induction f with
  | zero => intro b m d _ _ h; omega
  | succ f ih =>
    intro b m d h1 h2 _ h3 h4
    have hr := dl_range b m h1 (by omega)
    simp only [monGo]
    by_cases hc : d < dl b m
    · rw [if_pos hc]
      exact ⟨h1, by omega, by omega, by show d + 1 ≤ 31; omega, by show d + 1 ≤ dl b m; omega, by show d + 1 - 1 + msum b (m.toNat - 1) = d + msum b (m.toNat - 1); omega⟩
    · rw [if_neg hc]
      have hms : msum b ((m + 1).toNat - 1) = msum b (m.toNat - 1) + dl b m := by
        obtain ⟨j, hj⟩ : ∃ j : Nat, m = (j : Int) + 1 := ⟨m.toNat - 1, by omega⟩
        subst hj
        rw [show ((j : Int) + 1 + 1).toNat - 1 = j + 1 by omega, show ((j : Int) + 1).toNat - 1 = j by omega]
        rfl
      have hf : 1 ≤ f := by
        apply Classical.byContradiction
        intro hf
        obtain rfl : m = 12 := by omega
        rw [show ((12 : Int) + 1).toNat - 1 = 12 from rfl] at hms
        omega
      have := ih b (m + 1) (d - dl b m) (by omega) (by omega) hf (by omega) (by rw [hms]; omega)
      rw [hms] at this
      obtain ⟨a1, a2, a3, a4, a5, a6⟩ := this
      exact ⟨a1, a2, a3, a4, a5, by omega⟩
theorem splitV_spec (day : Int) (h : 0 ≤ day) (h2 : day ≤ 73048) : 2000 ≤ (splitV day).1 ∧ (splitV day).1 ≤ 2199 ∧ 1 ≤ (splitV day).2.1 ∧ (splitV day).2.1 ≤ 12 ∧ 1 ≤ (splitV day).2.2 ∧ (splitV day).2.2 ≤ 31 ∧ (splitV day).2.2 ≤ dl (leapV (splitV day).1) (splitV day).2.1 ∧ startD (splitV day).1 + (splitV day).2.2 - 1 + msum (leapV (splitV day).1) ((splitV day).2.1.toNat - 1) = day := by
  obtain ⟨h3, h4, h5, h6⟩ := yearOf_spec day h h2
  rw [start_step _ h3 h4] at h6
  unfold splitV
  generalize yearOf day = y at *
  generalize leapV y = b at *
  generalize startD y = s at *
  have := monGo_range 12 b 1 (day - s) (by omega) (by omega) (by omega) (by omega) (by rw [show (1 : Int).toNat - 1 = 0 from rfl, show msum b 0 = 0 from rfl]; omega)
  rw [show (1 : Int).toNat - 1 = 0 from rfl, show msum b 0 = 0 from rfl] at this
  obtain ⟨a1, a2, a3, a4, a5, a6⟩ := this
  exact ⟨h3, h4, a1, a2, a3, a4, a5, by simp only; omega⟩
theorem date_Print.calls (a0 : Int) (r : ByteArray) (w : World) (hL : LongAt w) (h : date_Print.f a0 = some r) :
    Calls Tryd.prog 20 #[.int .i64 a0] w fun e w' => e = .returned (.string r) ∧ Below w.heap.size w w' := by
  unfold date_Print.f at h
  have h := Option.some.inj h
  by_cases hc : a0 < 0 ∨ a0 > 73048
  · rw [if_pos hc] at h
    subst h
    exact print_bad a0 w hL (by unfold date_Split.f; rw [if_pos hc])
  · rw [if_neg hc] at h
    subst h
    obtain ⟨s1, s2, s3, s4, s5, s6, _, _⟩ := splitV_spec a0 (by omega) (by omega)
    exact print_good a0 _ _ _ w hL (by unfold date_Split.f; rw [if_neg hc]) (by omega) (by omega) s3 s4 s5 s6

/-! ### date_Parse: function 22 -/
def parseGo : Nat → ByteArray → Nat → Int → Int → Int → Option (Int × Int × Int)
  | 0, _, _, a, b, c => some (a, b, c)
  | f + 1, s, i, a, b, c => if i = 4 ∨ i = 7 then (if bt s (i : Int) = 45 then parseGo f s (i + 1) a b c else none) else if bt s (i : Int) < 48 ∨ bt s (i : Int) > 57 then none else if i < 4 then parseGo f s (i + 1) (10 * a + (bt s (i : Int) - 48)) b c else if i < 7 then parseGo f s (i + 1) a (10 * b + (bt s (i : Int) - 48)) c else parseGo f s (i + 1) a b (10 * c + (bt s (i : Int) - 48))
def date_Parse.f (a0 : ByteArray) : Option (Int × Int) := if a0.size = 10 then ((parseGo 10 a0 0 0 0 0).elim (some (0, 5)) fun t => date_Of.f t.1 t.2.1 t.2.2) else some (0, 5)
theorem info_arr3 : (Tryd.prog.info? 3).map (fun i => (i.zero, i.size, i.bytes)) = some (some (.int .i64 0), 1, 8) := by kernel_rfl
set_option maxHeartbeats 4000000 in
set_option maxRecDepth 100000 in
theorem parse_short (s : ByteArray) (w : World) (h : ¬ s.size = 10) :
    Calls Tryd.prog 22 #[.string s] w fun e w' => e = .returned (.tuple #[.int .i64 0, .int .i64 5]) ∧ Below w.heap.size w w' := by
  have e1 : (s.size != 10) = true := bne_iff_ne.2 h
  have e2 : ((s.size : Int) != 10) = true := by simp; omega
  have e3 : (s.size == 10) = false := beq_eq_false_iff_ne.2 h
  have e4 : ((s.size : Int) == 10) = false := by simp; omega
  clear h
  go_enter Tryd.func22, Tryd.ntmps22
  go_wp2
  go_ret2
  exact ⟨rfl, Below.refl _ _⟩
set_option maxHeartbeats 16000000 in
set_option maxRecDepth 100000 in
theorem parse_main (s : ByteArray) (r1 r2 : Int) (w : World) (hL : LongAt w) (h : s.size = 10) (hf : ((parseGo 10 s 0 0 0 0).elim (some (0, 5)) fun t => date_Of.f t.1 t.2.1 t.2.2) = some (r1, r2)) :
    Calls Tryd.prog 22 #[.string s] w fun e w' => e = .returned (.tuple #[.int .i64 r1, .int .i64 r2]) ∧ Below w.heap.size w w' := by
  have e1 : (s.size != 10) = false := bne_eq_false_iff_eq.2 h
  have e2 : ((s.size : Int) != 10) = false := by simp; omega
  have e3 : (s.size == 10) = true := beq_iff_eq.2 h
  have e4 : ((s.size : Int) == 10) = true := by simp; omega
  have HL := Aside0.mk hL
  have HF := Aside0.mk hf
  clear hL hf
  go_enter Tryd.func22, Tryd.ntmps22
  go_wp2_with fail
  have HB0 := Aside0.mk (below_alloc (Below.refl w.heap.size w) (.cells #[.int .i64 0, .int .i64 0, .int .i64 0] 50))
  have HG0 := Aside0.mk (blk_new w (.cells #[.int .i64 0, .int .i64 0, .int .i64 0] 50))
  go_loopw [5, 13] (fun v5 v13 wr => ∃ (i : Nat) (p a b c : Int), i ≤ 10 ∧ v13 = .int .i64 (i : Int) ∧ v5 = .int .i64 p ∧ Aside0 (p = if i ≤ 4 then 0 else if i ≤ 7 then 1 else 2) ∧ 0 ≤ a ∧ 0 ≤ b ∧ 0 ≤ c ∧ Aside0 (a < 10 ^ i ∧ b < 10 ^ i ∧ c < 10 ^ i) ∧ Aside0 (((parseGo (10 - i) s i a b c).elim (some (0, 5)) fun t => date_Of.f t.1 t.2.1 t.2.2) = some (r1, r2)) ∧ Aside0 (wr.heap[w.heap.size]? = some (.cells #[.int .i64 a, .int .i64 b, .int .i64 c] 50 (0, 0))) ∧ Aside0 (Below w.heap.size w wr)) (fun _ v13 _ => 10 - (intOf v13).toNat)
  case atStart => exact ⟨0, 0, 0, 0, 0, by omega, rfl, rfl, ⟨rfl⟩, by omega, by omega, by omega, ⟨by decide⟩, HF, HG0, HB0⟩
  case round =>
    clear HB0 HG0 HF
    obtain ⟨i, p, a, b, c, hi, rfl, rfl, HPT, ha, hb, hc, HN, HI, HG, HB⟩ := hrel
    by_cases hlt : i < 10
    · obtain ⟨f, hf⟩ : ∃ f, 10 - i = f + 1 := ⟨9 - i, by omega⟩
      have hf2 : 10 - (i + 1) = f := by omega
      have hgo := HI.out
      rw [hf, parseGo] at hgo
      have hx := bt_at s (i : Int)
      obtain ⟨hx0, hx1⟩ := bt_range s (i : Int)
      simp only [Int.toNat_natCast] at hx
      have hp : (10 : Int) ^ i ≤ 10 ^ 9 := by
        have : i = 0 ∨ i = 1 ∨ i = 2 ∨ i = 3 ∨ i = 4 ∨ i = 5 ∨ i = 6 ∨ i = 7 ∨ i = 8 ∨ i = 9 := by omega
        rcases this with rfl | rfl | rfl | rfl | rfl | rfl | rfl | rfl | rfl | rfl <;> decide
      have hp2 : (10 : Int) ^ (i + 1) = 10 * 10 ^ i := by rw [Int.pow_succ]; omega
      obtain ⟨hna, hnb, hnc⟩ := HN.out
      have hp1 : (10 : Int) ^ 9 = 1000000000 := by decide
      rw [hp1] at hp
      have HP2 := Aside0.mk hp2
      clear hp1 hp2
      generalize bt s (i : Int) = x at *
      generalize (10 : Int) ^ i = pw at *
      by_cases h47 : i = 4 ∨ i = 7
      · rw [if_pos h47] at hgo
        by_cases h45 : x = 45
        · subst h45
          rw [if_pos rfl, ← hf2] at hgo
          have HGO := Aside0.mk hgo
          clear hgo HI
          rcases h47 with rfl | rfl
          · obtain rfl : p = 0 := by rw [HPT.out]; rfl
            go_wp2_with fail
            go_roundw
            case measure => show _ < _; simp [intOf]
            case rel => exact ⟨5, 1, a, b, c, by omega, rfl, rfl, ⟨rfl⟩, ha, hb, hc, ⟨by rw [HP2.out]; omega⟩, HGO, HG, HB⟩
          · obtain rfl : p = 1 := by rw [HPT.out]; rfl
            go_wp2_with fail
            go_roundw
            case measure => show _ < _; simp [intOf]
            case rel => exact ⟨8, 2, a, b, c, by omega, rfl, rfl, ⟨rfl⟩, ha, hb, hc, ⟨by rw [HP2.out]; omega⟩, HGO, HG, HB⟩
        · rw [if_neg h45] at hgo
          simp only [Option.elim, Option.some.injEq, Prod.mk.injEq] at hgo
          obtain ⟨rfl, rfl⟩ := hgo
          have dx : (x != 45) = true := bne_iff_ne.2 h45
          clear HI
          rcases h47 with rfl | rfl
          · go_wp2_with fail
            go_ret2
            exact ⟨rfl, HB.out⟩
          · go_wp2_with fail
            go_ret2
            exact ⟨rfl, HB.out⟩
      · rw [if_neg h47] at hgo
        have n4 : (i == 4) = false := by simp; omega
        have n7 : (i == 7) = false := by simp; omega
        have n4' : ((i : Int) == 4) = false := by simp; omega
        have n7' : ((i : Int) == 7) = false := by simp; omega
        by_cases hbad : x < 48 ∨ x > 57
        · rw [if_pos hbad] at hgo
          simp only [Option.elim, Option.some.injEq, Prod.mk.injEq] at hgo
          obtain ⟨rfl, rfl⟩ := hgo
          clear HI
          by_cases hb1 : x < 48
          · have d1 : decide (x < 48) = true := decide_eq_true hb1
            clear hbad hb1
            go_wp2_with fail
            go_ret2
            exact ⟨rfl, HB.out⟩
          · have d1 : decide (x < 48) = false := decide_eq_false hb1
            have d2 : decide (57 < x) = true := decide_eq_true (by omega)
            clear hbad hb1
            go_wp2_with fail
            go_ret2
            exact ⟨rfl, HB.out⟩
        · rw [if_neg hbad, ← hf2] at hgo
          have d1 : decide (x < 48) = false := decide_eq_false (by omega)
          have d2 : decide (57 < x) = false := decide_eq_false (by omega)
          have hxa : 48 ≤ x := by omega
          have hxb : x ≤ 57 := by omega
          clear hbad HI hx0 hx1
          by_cases hi4 : i < 4
          · rw [if_pos hi4] at hgo
            have HGO := Aside0.mk hgo
            clear hgo
            have hpart : p = 0 := by rw [HPT.out, if_pos (by omega)]
            subst hpart
            have hcell : wr.cell? ⟨w.heap.size, 0, none⟩ = some (.int .i64 a) := (blk_cell HG.out 0).trans rfl
            have hfz : wr.frozen? ⟨w.heap.size, 0, none⟩ = false := blk_frozen HG.out 0
            go_wp2_with fail
            go_roundw
            case measure => show _ < _; simp [intOf]; omega
            case rel => exact ⟨i + 1, 0, 10 * a + (x - 48), b, c, by omega, by go_num, rfl, ⟨by first | rw [if_pos (by omega)] | rw [if_neg (by omega), if_pos (by omega)] | rw [if_neg (by omega), if_neg (by omega)]⟩, by omega, by omega, by omega, ⟨by rw [HP2.out]; omega⟩, HGO, ⟨blk_put HG.out 0 _ rfl⟩, ⟨HB.out.setCell (Nat.le_refl _) _⟩⟩
          · rw [if_neg hi4] at hgo
            by_cases hi7 : i < 7
            · rw [if_pos hi7] at hgo
              have HGO := Aside0.mk hgo
              clear hgo
              have hpart : p = 1 := by rw [HPT.out, if_neg (by omega), if_pos (by omega)]
              subst hpart
              have hcell : wr.cell? ⟨w.heap.size, 1, none⟩ = some (.int .i64 b) := (blk_cell HG.out 1).trans rfl
              have hfz : wr.frozen? ⟨w.heap.size, 1, none⟩ = false := blk_frozen HG.out 1
              go_wp2_with fail
              go_roundw
              case measure => show _ < _; simp [intOf]; omega
              case rel => exact ⟨i + 1, 1, a, 10 * b + (x - 48), c, by omega, by go_num, rfl, ⟨by first | rw [if_pos (by omega)] | rw [if_neg (by omega), if_pos (by omega)] | rw [if_neg (by omega), if_neg (by omega)]⟩, by omega, by omega, by omega, ⟨by rw [HP2.out]; omega⟩, HGO, ⟨blk_put HG.out 1 _ rfl⟩, ⟨HB.out.setCell (Nat.le_refl _) _⟩⟩
            · rw [if_neg hi7] at hgo
              have HGO := Aside0.mk hgo
              clear hgo
              have hpart : p = 2 := by rw [HPT.out, if_neg (by omega), if_neg (by omega)]
              subst hpart
              have hcell : wr.cell? ⟨w.heap.size, 2, none⟩ = some (.int .i64 c) := (blk_cell HG.out 2).trans rfl
              have hfz : wr.frozen? ⟨w.heap.size, 2, none⟩ = false := blk_frozen HG.out 2
              go_wp2_with fail
              go_roundw
              case measure => show _ < _; simp [intOf]; omega
              case rel => exact ⟨i + 1, 2, a, b, 10 * c + (x - 48), by omega, by go_num, rfl, ⟨by first | rw [if_pos (by omega)] | rw [if_neg (by omega), if_pos (by omega)] | rw [if_neg (by omega), if_neg (by omega)]⟩, by omega, by omega, by omega, ⟨by rw [HP2.out]; omega⟩, HGO, ⟨blk_put HG.out 2 _ rfl⟩, ⟨HB.out.setCell (Nat.le_refl _) _⟩⟩
    · obtain rfl : i = 10 := by omega
      have hgo := HI.out
      simp only [Nat.sub_self, parseGo, Option.elim] at hgo
      have HGO := Aside0.mk hgo
      have hc0 : wr.cell? ⟨w.heap.size, 0, none⟩ = some (.int .i64 a) := (blk_cell HG.out 0).trans rfl
      have hc1 : wr.cell? ⟨w.heap.size, 1, none⟩ = some (.int .i64 b) := (blk_cell HG.out 1).trans rfl
      have hc2 : wr.cell? ⟨w.heap.size, 2, none⟩ = some (.int .i64 c) := (blk_cell HG.out 2).trans rfl
      clear hgo HI
      go_wp2_with (go_at_call 9; (with_reducible refine (date_Of.calls a b c r1 r2 _ (HL.out.below HB.out) HGO.out).mono ?_); rintro e w2 ⟨rfl, hd⟩; have HB2 := Aside0.mk (below_step HB.out hd); clear hd)
      go_ret2
      exact ⟨rfl, HB2.out⟩
theorem date_Parse.calls (a0 : ByteArray) (r1 r2 : Int) (w : World) (hL : LongAt w) (h : date_Parse.f a0 = some (r1, r2)) :
    Calls Tryd.prog 22 #[.string a0] w fun e w' => e = .returned (.tuple #[.int .i64 r1, .int .i64 r2]) ∧ Below w.heap.size w w' := by
  unfold date_Parse.f at h
  by_cases hc : a0.size = 10
  · rw [if_pos hc] at h
    exact parse_main a0 r1 r2 w hL hc h
  · rw [if_neg hc] at h
    simp only [Option.some.injEq, Prod.mk.injEq] at h
    obtain ⟨rfl, rfl⟩ := h
    exact parse_short a0 w hc

/-! ### date_Nth: function 24 -/
def date_Nth.j0 : Nat → Int → Int → Int → Int → Bool → Option (Int × Int)
  | 0, _, _, _, _, _ => none
  | k + 1, x0, x1, x2, x3, x24 => if x24 = true then (some (0, 2)) else ((date_Of.f x0 x1 1).bind fun bt102 => (if bt102.2 = 0 then ((date_Weekday.f bt102.1).bind fun t104 => ((date_Of.f x0 x1 (wrap64 ((wrap64 (1 + (Int.tmod (wrap64 ((wrap64 (x2 - t104)) + 7)) 7))) + (wrap64 (7 * (wrap64 (x3 - 1))))))).bind fun bt105 => (some (bt105.1, bt105.2)))) else (some (0, bt102.2))))
def date_Nth.f (k : Nat) (a0 : Int) (a1 : Int) (a2 : Int) (a3 : Int) : Option (Int × Int) := if a2 < 1 then (date_Nth.j0 k a0 a1 a2 a3 true) else (if a2 > 7 then (date_Nth.j0 k a0 a1 a2 a3 true) else (if a3 < 1 then (date_Nth.j0 k a0 a1 a2 a3 true) else (date_Nth.j0 k a0 a1 a2 a3 (decide (a3 > 5)))))
theorem date_Nth.mono_l : ∀ k, (∀ y0 y1 y2 y3 y4, LeO (date_Nth.j0 k y0 y1 y2 y3 y4) (date_Nth.j0 (k + 1) y0 y1 y2 y3 y4))
  | 0 => fun _ _ _ _ _ r h => by simp [date_Nth.j0] at h
  | k + 1 => by
    have ih0 := date_Nth.mono_l k
    · intro y0 y1 y2 y3 y4
      unfold date_Nth.j0
      repeat' first
      | (with_reducible exact ih0 _ _ _ _ _)
      | (with_reducible exact LeO.refl _)
      | (with_reducible exact LeO.none _)
      | (with_reducible refine LeO.ite ?_ ?_)
      | (with_reducible refine LeO.bind ?_ (fun _ => ?_))
      | exact ih0 _ _ _ _ _
      | exact LeO.none _
      | refine LeO.ite ?_ ?_
      | refine LeO.bind ?_ (fun _ => ?_)
theorem date_Nth.mono : ∀ a0 a1 a2 a3 k, LeO (date_Nth.f k a0 a1 a2 a3) (date_Nth.f (k + 1) a0 a1 a2 a3) := by
  intro a0 a1 a2 a3 k
  have ih0 := date_Nth.mono_l k
  unfold date_Nth.f
  repeat' first
      | (with_reducible exact ih0 _ _ _ _ _)
      | (with_reducible exact LeO.refl _)
      | (with_reducible exact LeO.none _)
      | (with_reducible refine LeO.ite ?_ ?_)
      | (with_reducible refine LeO.bind ?_ (fun _ => ?_))
      | exact ih0 _ _ _ _ _
      | exact LeO.none _
      | refine LeO.ite ?_ ?_
      | refine LeO.bind ?_ (fun _ => ?_)
set_option maxHeartbeats 8000000 in
set_option maxRecDepth 100000 in
theorem date_Nth.calls (k : Nat) (a0 : Int) (a1 : Int) (a2 : Int) (a3 : Int) (r1 : Int) (r2 : Int) (w : World) (hL : LongAt w) (h : date_Nth.f k a0 a1 a2 a3 = some (r1, r2)) :
    Calls Tryd.prog 24 #[.int .i64 a0, .int .i64 a1, .int .i64 a2, .int .i64 a3] w fun e w' => e = .returned (.tuple #[.int .i64 r1, .int .i64 r2]) ∧ Below w.heap.size w w' := by
  have HLONG := Aside0.mk hL
  clear hL
  have HB := Aside0.mk (Below.refl w.heap.size w)
  have H : (if a2 < 1 then (date_Nth.j0 k a0 a1 a2 a3 true) else (if a2 > 7 then (date_Nth.j0 k a0 a1 a2 a3 true) else (if a3 < 1 then (date_Nth.j0 k a0 a1 a2 a3 true) else (date_Nth.j0 k a0 a1 a2 a3 (decide (a3 > 5)))))) = some (r1, r2) := h
  clear h
  have HC5 := Aside0.mk H
  clear H
  go_enter Tryd.func24, Tryd.ntmps24
  go_upto_region 1 with (fail)
  go_cut [24] (fun v24 wc => ∃ (kq : Nat) (x24_4 : Bool), v24 = .bool x24_4 ∧ Aside0 (date_Nth.j0 kq a0 a1 a2 a3 x24_4 = some (r1, r2)) ∧ Aside0 (kq ≤ k) ∧ Aside0 (Below w.heap.size w wc))
  case first =>
    have H := HC5.out
    clear HC5
    by_cases c6 : a2 < 1
    · rw [if_pos c6] at H
      have c6b0 : decide (a2 < 1) = true := decide_eq_true c6
      clear c6
      (first | rw [c6b0] | (simp only [i64_w, i32_w]; rw [c6b0]) | skip)
      have H' := Aside0.mk H
      clear H
      go_wp2
      go_meet
      case rel => exact ⟨_, (true), (by first | rfl | (simp; done) | (simp [*]; done)), H', ⟨by first | omega | exact Nat.le_refl _⟩, ⟨by repeat (first | (with_reducible first | exact HB.out | apply below_alloc | apply pw_below_drewN | apply below_drew1) | exact HB.out)⟩⟩
    · rw [if_neg c6] at H
      have c6b0 : decide (a2 < 1) = false := decide_eq_false c6
      clear c6
      (first | rw [c6b0] | (simp only [i64_w, i32_w]; rw [c6b0]) | skip)
      by_cases c7 : a2 > 7
      · rw [if_pos c7] at H
        have c7b0 : decide (7 < a2) = true := decide_eq_true c7
        clear c7
        have H' := Aside0.mk H
        clear H
        go_wp2
        go_meet
        case rel => exact ⟨_, (true), (by first | rfl | (simp; done) | (simp [*]; done)), H', ⟨by first | omega | exact Nat.le_refl _⟩, ⟨by repeat (first | (with_reducible first | exact HB.out | apply below_alloc | apply pw_below_drewN | apply below_drew1) | exact HB.out)⟩⟩
      · rw [if_neg c7] at H
        have c7b0 : decide (7 < a2) = false := decide_eq_false c7
        clear c7
        by_cases c8 : a3 < 1
        · rw [if_pos c8] at H
          have c8b0 : decide (a3 < 1) = true := decide_eq_true c8
          clear c8
          have H' := Aside0.mk H
          clear H
          go_wp2
          go_meet
          case rel => exact ⟨_, (true), (by first | rfl | (simp; done) | (simp [*]; done)), H', ⟨by first | omega | exact Nat.le_refl _⟩, ⟨by repeat (first | (with_reducible first | exact HB.out | apply below_alloc | apply pw_below_drewN | apply below_drew1) | exact HB.out)⟩⟩
        · rw [if_neg c8] at H
          have c8b0 : decide (a3 < 1) = false := decide_eq_false c8
          clear c8
          have H' := Aside0.mk H
          clear H
          go_wp2
          go_meet
          case rel => exact ⟨_, (decide (a3 > 5)), (by first | rfl | (simp; done) | (simp [*]; done)), H', ⟨by first | omega | exact Nat.le_refl _⟩, ⟨by repeat (first | (with_reducible first | exact HB.out | apply below_alloc | apply pw_below_drewN | apply below_drew1) | exact HB.out)⟩⟩
  case rest =>
    clear HC5
    try clear c2
    try clear p2
    try clear c6
    try clear c6b0
    try clear c7
    try clear c7b0
    try clear c8
    try clear c8b0
    obtain ⟨kq, x24_4, rfl, HA, HJ4, HB⟩ := hcut
    cases kq with
    | zero => exact absurd HA.out (by simp [date_Nth.j0])
    | succ kj4 =>
      have H := HA.out
      clear HA
      simp only [date_Nth.j0] at H
      by_cases c9 : x24_4 = true
      · subst c9
        have H1 : (some (0, 2)) = some (r1, r2) := by rw [if_pos rfl] at H; exact H
        clear H
        have H := H1
        clear H1
        simp only [Option.some.injEq, Prod.mk.injEq] at H
        obtain ⟨rfl, rfl⟩ := H
        go_wp2
        go_ret2
        exact ⟨by first | rfl | (simp [errW_none, errW_some] <;> rfl) | (simp [*, errW_none, errW_some] <;> rfl), by repeat (first | (with_reducible first | exact HB.out | apply below_alloc | apply pw_below_drewN | apply below_drew1) | exact HB.out)⟩
      · replace c9 := Bool.eq_false_iff.mpr c9
        subst c9
        have H1 : ((date_Of.f a0 a1 1).bind fun bt102 => (if bt102.2 = 0 then ((date_Weekday.f bt102.1).bind fun t104 => ((date_Of.f a0 a1 (wrap64 ((wrap64 (1 + (Int.tmod (wrap64 ((wrap64 (a2 - t104)) + 7)) 7))) + (wrap64 (7 * (wrap64 (a3 - 1))))))).bind fun bt105 => (some (bt105.1, bt105.2)))) else (some (0, bt102.2)))) = some (r1, r2) := by rw [if_neg (show ¬ (false = true) by decide)] at H; exact H
        clear H
        have H := H1
        clear H1
        replace H := Option.bind_eq_some_iff.mp H
        obtain ⟨⟨t102, t103⟩, A100, H⟩ := H
        replace H : (if t103 = 0 then ((date_Weekday.f t102).bind fun t104 => ((date_Of.f a0 a1 (wrap64 ((wrap64 (1 + (Int.tmod (wrap64 ((wrap64 (a2 - t104)) + 7)) 7))) + (wrap64 (7 * (wrap64 (a3 - 1))))))).bind fun bt105 => (some (bt105.1, bt105.2)))) else (some (0, t103))) = some (r1, r2) := H
        have A10 := Aside0.mk A100
        clear A100
        by_cases c11 : t103 = 0
        · rw [if_pos c11] at H
          have c11b0 : (t103 == 0) = true := beq_iff_eq.mpr c11
          have c11b1 : (t103 != 0) = false := bne_eq_false_iff_eq.mpr c11
          clear c11
          replace H := Option.bind_eq_some_iff.mp H
          obtain ⟨t104, A120, H⟩ := H
          replace H : ((date_Of.f a0 a1 (wrap64 ((wrap64 (1 + (Int.tmod (wrap64 ((wrap64 (a2 - t104)) + 7)) 7))) + (wrap64 (7 * (wrap64 (a3 - 1))))))).bind fun bt105 => (some (bt105.1, bt105.2))) = some (r1, r2) := H
          have A12 := Aside0.mk A120
          clear A120
          replace H := Option.bind_eq_some_iff.mp H
          obtain ⟨⟨t105, t106⟩, A130, H⟩ := H
          replace H : (some (t105, t106)) = some (r1, r2) := H
          have A13 := Aside0.mk A130
          clear A130
          simp only [Option.some.injEq, Prod.mk.injEq] at H
          obtain ⟨rfl, rfl⟩ := H
          go_wp2_with (first | ((with_reducible refine gate_callee (f := 9) rfl ?_); refine goesL_ (some 28) rfl rfl Tryd.func9 (by kernel_rfl) rfl #[.int .i64 a0, .int .i64 a1, .int .i64 1] rfl (by (try simp only [List.map_toArray, List.map_cons, List.map_nil]); first | done | rfl | (simp only [List.length_drop, List.length_take]; rfl)) ?_; (with_reducible refine (date_Of.calls a0 a1 1 t102 t103 _ (by repeat (first | exact HLONG.out | exact LongAt.after HLONG.out (by assumption) | exact LongAt.below HLONG.out (by assumption) | apply LongAt.drewN | apply LongAt.drew | apply LongAt.alloc)) A10.out).mono ?_); rintro e w14 ⟨rfl, hb⟩; refine ⟨_, rfl, ?_⟩; have n0_ := Aside0.mk (below_step (by repeat (first | (with_reducible first | exact HB.out | apply below_alloc | apply pw_below_drewN | apply below_drew1) | exact HB.out)) hb); clear HB; have HB := n0_; clear n0_; (try clear hb); (try clear hb2); (try clear hk); (try clear hi)) | ((with_reducible refine gate_callee (f := 18) rfl ?_); refine goesL_ (some 36) rfl rfl Tryd.func18 (by kernel_rfl) rfl #[.int .i64 t102] rfl (by (try simp only [List.map_toArray, List.map_cons, List.map_nil]); first | done | rfl | (simp only [List.length_drop, List.length_take]; rfl)) ?_; (with_reducible refine (date_Weekday.calls t102 t104 _ A12.out).mono ?_); rintro e w' ⟨rfl, ⟨nd, rfl⟩⟩; refine ⟨_, rfl, ?_⟩) | ((with_reducible refine gate_callee (f := 9) rfl ?_); refine goesL_ (some 48) rfl rfl Tryd.func9 (by kernel_rfl) rfl #[.int .i64 a0, .int .i64 a1, .int .i64 (wrap64 ((wrap64 (1 + (Int.tmod (wrap64 ((wrap64 (a2 - t104)) + 7)) 7))) + (wrap64 (7 * (wrap64 (a3 - 1))))))] rfl (by (try simp only [List.map_toArray, List.map_cons, List.map_nil]); first | done | rfl | (simp only [List.length_drop, List.length_take]; rfl)) ?_; (with_reducible refine (date_Of.calls a0 a1 (wrap64 ((wrap64 (1 + (Int.tmod (wrap64 ((wrap64 (a2 - t104)) + 7)) 7))) + (wrap64 (7 * (wrap64 (a3 - 1)))))) t105 t106 _ (by repeat (first | exact HLONG.out | exact LongAt.after HLONG.out (by assumption) | exact LongAt.below HLONG.out (by assumption) | apply LongAt.drewN | apply LongAt.drew | apply LongAt.alloc)) A13.out).mono ?_); rintro e w15 ⟨rfl, hb⟩; refine ⟨_, rfl, ?_⟩; have n0_ := Aside0.mk (below_step (by repeat (first | (with_reducible first | exact HB.out | apply below_alloc | apply pw_below_drewN | apply below_drew1) | exact HB.out)) hb); clear HB; have HB := n0_; clear n0_; (try clear hb); (try clear hb2); (try clear hk); (try clear hi)))
          go_ret2
          exact ⟨by first | rfl | (simp [errW_none, errW_some] <;> rfl) | (simp [*, errW_none, errW_some] <;> rfl), by repeat (first | (with_reducible first | exact HB.out | apply below_alloc | apply pw_below_drewN | apply below_drew1) | exact HB.out)⟩
        · rw [if_neg c11] at H
          have c11b0 : (t103 == 0) = false := beq_eq_false_iff_ne.mpr c11
          have c11b1 : (t103 != 0) = true := bne_iff_ne.mpr c11
          simp only [Option.some.injEq, Prod.mk.injEq] at H
          obtain ⟨rfl, rfl⟩ := H
          go_wp2_with (first | ((with_reducible refine gate_callee (f := 9) rfl ?_); refine goesL_ (some 28) rfl rfl Tryd.func9 (by kernel_rfl) rfl #[.int .i64 a0, .int .i64 a1, .int .i64 1] rfl (by (try simp only [List.map_toArray, List.map_cons, List.map_nil]); first | done | rfl | (simp only [List.length_drop, List.length_take]; rfl)) ?_; (with_reducible refine (date_Of.calls a0 a1 1 t102 t103 _ (by repeat (first | exact HLONG.out | exact LongAt.after HLONG.out (by assumption) | exact LongAt.below HLONG.out (by assumption) | apply LongAt.drewN | apply LongAt.drew | apply LongAt.alloc)) A10.out).mono ?_); rintro e w16 ⟨rfl, hb⟩; refine ⟨_, rfl, ?_⟩; have n0_ := Aside0.mk (below_step (by repeat (first | (with_reducible first | exact HB.out | apply below_alloc | apply pw_below_drewN | apply below_drew1) | exact HB.out)) hb); clear HB; have HB := n0_; clear n0_; (try clear hb); (try clear hb2); (try clear hk); (try clear hi)))
          go_ret2
          exact ⟨by first | rfl | (simp [errW_none, errW_some] <;> rfl) | (simp [*, errW_none, errW_some] <;> rfl), by repeat (first | (with_reducible first | exact HB.out | apply below_alloc | apply pw_below_drewN | apply below_drew1) | exact HB.out)⟩

/-! ### contangolaw05_goes: function 15 -/
def contangolaw05_goes.f (k : Nat)  : Option (Bool) := (date_Of.f 2000 2 29).bind fun bt107 => ((date_Parse.f (⟨#[50, 48, 50, 52, 45, 48, 51, 45, 49, 53]⟩ : ByteArray)).bind fun bt109 => ((date_Nth.f k 2024 3 5 3).bind fun bt111 => ((date_Parse.f (⟨#[50, 49, 48, 48, 45, 48, 50, 45, 50, 57]⟩ : ByteArray)).bind fun bt113 => (if bt107.1 = 59 then (if bt107.2 = 0 then (if bt109.2 = 0 then (if bt111.1 = bt109.1 then (if bt111.2 = 0 then (if bt113.2 = 15 then ((date_Weekday.f 0).bind fun t115 => (if t115 = 6 then ((date_Print.f 73048).bind fun t116 => (some (t116.toList == ([50, 49, 57, 57, 45, 49, 50, 45, 51, 49] : List UInt8)))) else (none))) else (none)) else (none)) else (none)) else (none)) else (none)) else (none)))))
theorem contangolaw05_goes.mono : ∀ k, LeO (contangolaw05_goes.f k ) (contangolaw05_goes.f (k + 1) ) := by
  intro  k
  unfold contangolaw05_goes.f
  repeat' first
      | (with_reducible exact date_Nth.mono _ _ _ _ _)
      | (with_reducible exact LeO.refl _)
      | (with_reducible exact LeO.none _)
      | (with_reducible refine LeO.ite ?_ ?_)
      | (with_reducible refine LeO.bind ?_ (fun _ => ?_))
      | exact date_Nth.mono _ _ _ _ _
      | exact LeO.none _
      | refine LeO.ite ?_ ?_
      | refine LeO.bind ?_ (fun _ => ?_)
set_option maxHeartbeats 8000000 in
set_option maxRecDepth 100000 in
theorem contangolaw05_goes.calls (k : Nat)  (r : Bool) (w : World) (hL : LongAt w) (h : contangolaw05_goes.f k  = some r) :
    Calls Tryd.prog 15 #[] w fun e w' => e = .returned (.bool r) ∧ Below w.heap.size w w' := by
  have HLONG := Aside0.mk hL
  clear hL
  have HB := Aside0.mk (Below.refl w.heap.size w)
  have H : ((date_Of.f 2000 2 29).bind fun bt107 => ((date_Parse.f (⟨#[50, 48, 50, 52, 45, 48, 51, 45, 49, 53]⟩ : ByteArray)).bind fun bt109 => ((date_Nth.f k 2024 3 5 3).bind fun bt111 => ((date_Parse.f (⟨#[50, 49, 48, 48, 45, 48, 50, 45, 50, 57]⟩ : ByteArray)).bind fun bt113 => (if bt107.1 = 59 then (if bt107.2 = 0 then (if bt109.2 = 0 then (if bt111.1 = bt109.1 then (if bt111.2 = 0 then (if bt113.2 = 15 then ((date_Weekday.f 0).bind fun t115 => (if t115 = 6 then ((date_Print.f 73048).bind fun t116 => (some (t116.toList == ([50, 49, 57, 57, 45, 49, 50, 45, 51, 49] : List UInt8)))) else (none))) else (none)) else (none)) else (none)) else (none)) else (none)) else (none)))))) = some r := h
  clear h
  replace H := Option.bind_eq_some_iff.mp H
  obtain ⟨⟨t107, t108⟩, A10, H⟩ := H
  replace H : ((date_Parse.f (⟨#[50, 48, 50, 52, 45, 48, 51, 45, 49, 53]⟩ : ByteArray)).bind fun bt109 => ((date_Nth.f k 2024 3 5 3).bind fun bt111 => ((date_Parse.f (⟨#[50, 49, 48, 48, 45, 48, 50, 45, 50, 57]⟩ : ByteArray)).bind fun bt113 => (if t107 = 59 then (if t108 = 0 then (if bt109.2 = 0 then (if bt111.1 = bt109.1 then (if bt111.2 = 0 then (if bt113.2 = 15 then ((date_Weekday.f 0).bind fun t115 => (if t115 = 6 then ((date_Print.f 73048).bind fun t116 => (some (t116.toList == ([50, 49, 57, 57, 45, 49, 50, 45, 51, 49] : List UInt8)))) else (none))) else (none)) else (none)) else (none)) else (none)) else (none)) else (none))))) = some r := H
  have A1 := Aside0.mk A10
  clear A10
  replace H := Option.bind_eq_some_iff.mp H
  obtain ⟨⟨t109, t110⟩, A20, H⟩ := H
  replace H : ((date_Nth.f k 2024 3 5 3).bind fun bt111 => ((date_Parse.f (⟨#[50, 49, 48, 48, 45, 48, 50, 45, 50, 57]⟩ : ByteArray)).bind fun bt113 => (if t107 = 59 then (if t108 = 0 then (if t110 = 0 then (if bt111.1 = t109 then (if bt111.2 = 0 then (if bt113.2 = 15 then ((date_Weekday.f 0).bind fun t115 => (if t115 = 6 then ((date_Print.f 73048).bind fun t116 => (some (t116.toList == ([50, 49, 57, 57, 45, 49, 50, 45, 51, 49] : List UInt8)))) else (none))) else (none)) else (none)) else (none)) else (none)) else (none)) else (none)))) = some r := H
  have A2 := Aside0.mk A20
  clear A20
  replace H := Option.bind_eq_some_iff.mp H
  obtain ⟨⟨t111, t112⟩, A30, H⟩ := H
  replace H : ((date_Parse.f (⟨#[50, 49, 48, 48, 45, 48, 50, 45, 50, 57]⟩ : ByteArray)).bind fun bt113 => (if t107 = 59 then (if t108 = 0 then (if t110 = 0 then (if t111 = t109 then (if t112 = 0 then (if bt113.2 = 15 then ((date_Weekday.f 0).bind fun t115 => (if t115 = 6 then ((date_Print.f 73048).bind fun t116 => (some (t116.toList == ([50, 49, 57, 57, 45, 49, 50, 45, 51, 49] : List UInt8)))) else (none))) else (none)) else (none)) else (none)) else (none)) else (none)) else (none))) = some r := H
  have A3 := Aside0.mk A30
  clear A30
  replace H := Option.bind_eq_some_iff.mp H
  obtain ⟨⟨t113, t114⟩, A40, H⟩ := H
  replace H : (if t107 = 59 then (if t108 = 0 then (if t110 = 0 then (if t111 = t109 then (if t112 = 0 then (if t114 = 15 then ((date_Weekday.f 0).bind fun t115 => (if t115 = 6 then ((date_Print.f 73048).bind fun t116 => (some (t116.toList == ([50, 49, 57, 57, 45, 49, 50, 45, 51, 49] : List UInt8)))) else (none))) else (none)) else (none)) else (none)) else (none)) else (none)) else (none)) = some r := H
  have A4 := Aside0.mk A40
  clear A40
  by_cases c5 : t107 = 59
  · rw [if_pos c5] at H
    have c5b0 : (t107 == 59) = true := beq_iff_eq.mpr c5
    have c5b1 : (t107 != 59) = false := bne_eq_false_iff_eq.mpr c5
    clear c5
    by_cases c6 : t108 = 0
    · rw [if_pos c6] at H
      have c6b0 : (t108 == 0) = true := beq_iff_eq.mpr c6
      have c6b1 : (t108 != 0) = false := bne_eq_false_iff_eq.mpr c6
      clear c6
      by_cases c7 : t110 = 0
      · rw [if_pos c7] at H
        have c7b0 : (t110 == 0) = true := beq_iff_eq.mpr c7
        have c7b1 : (t110 != 0) = false := bne_eq_false_iff_eq.mpr c7
        clear c7
        by_cases c8 : t111 = t109
        · rw [if_pos c8] at H
          have c8b0 : (t111 == t109) = true := beq_iff_eq.mpr c8
          have c8b1 : (t111 != t109) = false := bne_eq_false_iff_eq.mpr c8
          clear c8
          by_cases c9 : t112 = 0
          · rw [if_pos c9] at H
            have c9b0 : (t112 == 0) = true := beq_iff_eq.mpr c9
            have c9b1 : (t112 != 0) = false := bne_eq_false_iff_eq.mpr c9
            clear c9
            by_cases c10 : t114 = 15
            · rw [if_pos c10] at H
              have c10b0 : (t114 == 15) = true := beq_iff_eq.mpr c10
              have c10b1 : (t114 != 15) = false := bne_eq_false_iff_eq.mpr c10
              clear c10
              replace H := Option.bind_eq_some_iff.mp H
              obtain ⟨t115, A110, H⟩ := H
              replace H : (if t115 = 6 then ((date_Print.f 73048).bind fun t116 => (some (t116.toList == ([50, 49, 57, 57, 45, 49, 50, 45, 51, 49] : List UInt8)))) else (none)) = some r := H
              have A11 := Aside0.mk A110
              clear A110
              by_cases c12 : t115 = 6
              · rw [if_pos c12] at H
                have c12b0 : (t115 == 6) = true := beq_iff_eq.mpr c12
                have c12b1 : (t115 != 6) = false := bne_eq_false_iff_eq.mpr c12
                clear c12
                replace H := Option.bind_eq_some_iff.mp H
                obtain ⟨t116, A130, H⟩ := H
                replace H : (some (t116.toList == ([50, 49, 57, 57, 45, 49, 50, 45, 51, 49] : List UInt8))) = some r := H
                have A13 := Aside0.mk A130
                clear A130
                obtain rfl := Option.some.inj H
                go_enter Tryd.func15, Tryd.ntmps15
                go_wp2_with (first | ((with_reducible refine gate_callee (f := 9) rfl ?_); refine goesL_ (some 10) rfl rfl Tryd.func9 (by kernel_rfl) rfl #[.int .i64 2000, .int .i64 2, .int .i64 29] rfl (by (try simp only [List.map_toArray, List.map_cons, List.map_nil]); first | done | rfl | (simp only [List.length_drop, List.length_take]; rfl)) ?_; (with_reducible refine (date_Of.calls 2000 2 29 t107 t108 _ (by repeat (first | exact HLONG.out | exact LongAt.after HLONG.out (by assumption) | exact LongAt.below HLONG.out (by assumption) | apply LongAt.drewN | apply LongAt.drew | apply LongAt.alloc)) A1.out).mono ?_); rintro e w14 ⟨rfl, hb⟩; refine ⟨_, rfl, ?_⟩; have n0_ := Aside0.mk (below_step (by repeat (first | (with_reducible first | exact HB.out | apply below_alloc | apply pw_below_drewN | apply below_drew1) | exact HB.out)) hb); clear HB; have HB := n0_; clear n0_; (try clear hb); (try clear hb2); (try clear hk); (try clear hi)) | ((with_reducible refine gate_callee (f := 22) rfl ?_); refine goesL_ (some 14) rfl rfl Tryd.func22 (by kernel_rfl) rfl #[.string (⟨#[50, 48, 50, 52, 45, 48, 51, 45, 49, 53]⟩ : ByteArray)] rfl (by (try simp only [List.map_toArray, List.map_cons, List.map_nil]); first | done | rfl | (simp only [List.length_drop, List.length_take]; rfl)) ?_; (with_reducible refine (date_Parse.calls (⟨#[50, 48, 50, 52, 45, 48, 51, 45, 49, 53]⟩ : ByteArray) t109 t110 _ (by repeat (first | exact HLONG.out | exact LongAt.after HLONG.out (by assumption) | exact LongAt.below HLONG.out (by assumption) | apply LongAt.drewN | apply LongAt.drew | apply LongAt.alloc)) A2.out).mono ?_); rintro e w15 ⟨rfl, hb⟩; refine ⟨_, rfl, ?_⟩; have n0_ := Aside0.mk (below_step (by repeat (first | (with_reducible first | exact HB.out | apply below_alloc | apply pw_below_drewN | apply below_drew1) | exact HB.out)) hb); clear HB; have HB := n0_; clear n0_; (try clear hb); (try clear hb2); (try clear hk); (try clear hi)) | ((with_reducible refine gate_callee (f := 24) rfl ?_); refine goesL_ (some 18) rfl rfl Tryd.func24 (by kernel_rfl) rfl #[.int .i64 2024, .int .i64 3, .int .i64 5, .int .i64 3] rfl (by (try simp only [List.map_toArray, List.map_cons, List.map_nil]); first | done | rfl | (simp only [List.length_drop, List.length_take]; rfl)) ?_; (with_reducible refine (date_Nth.calls k 2024 3 5 3 t111 t112 _ (by repeat (first | exact HLONG.out | exact LongAt.after HLONG.out (by assumption) | exact LongAt.below HLONG.out (by assumption) | apply LongAt.drewN | apply LongAt.drew | apply LongAt.alloc)) A3.out).mono ?_); rintro e w16 ⟨rfl, hb⟩; refine ⟨_, rfl, ?_⟩; have n0_ := Aside0.mk (below_step (by repeat (first | (with_reducible first | exact HB.out | apply below_alloc | apply pw_below_drewN | apply below_drew1) | exact HB.out)) hb); clear HB; have HB := n0_; clear n0_; (try clear hb); (try clear hb2); (try clear hk); (try clear hi)) | ((with_reducible refine gate_callee (f := 22) rfl ?_); refine goesL_ (some 22) rfl rfl Tryd.func22 (by kernel_rfl) rfl #[.string (⟨#[50, 49, 48, 48, 45, 48, 50, 45, 50, 57]⟩ : ByteArray)] rfl (by (try simp only [List.map_toArray, List.map_cons, List.map_nil]); first | done | rfl | (simp only [List.length_drop, List.length_take]; rfl)) ?_; (with_reducible refine (date_Parse.calls (⟨#[50, 49, 48, 48, 45, 48, 50, 45, 50, 57]⟩ : ByteArray) t113 t114 _ (by repeat (first | exact HLONG.out | exact LongAt.after HLONG.out (by assumption) | exact LongAt.below HLONG.out (by assumption) | apply LongAt.drewN | apply LongAt.drew | apply LongAt.alloc)) A4.out).mono ?_); rintro e w17 ⟨rfl, hb⟩; refine ⟨_, rfl, ?_⟩; have n0_ := Aside0.mk (below_step (by repeat (first | (with_reducible first | exact HB.out | apply below_alloc | apply pw_below_drewN | apply below_drew1) | exact HB.out)) hb); clear HB; have HB := n0_; clear n0_; (try clear hb); (try clear hb2); (try clear hk); (try clear hi)) | (go_at_call 18; (with_reducible refine (date_Weekday.calls 0 t115 _ A11.out).mono ?_); rintro e w' ⟨rfl, ⟨nd, rfl⟩⟩) | (go_at_call 20; (with_reducible refine (date_Print.calls 73048 t116 _ (by repeat (first | exact HLONG.out | exact LongAt.after HLONG.out (by assumption) | exact LongAt.below HLONG.out (by assumption) | apply LongAt.drewN | apply LongAt.drew | apply LongAt.alloc)) A13.out).mono ?_); rintro e w18 ⟨rfl, hb⟩; have n0_ := Aside0.mk (below_step (by repeat (first | (with_reducible first | exact HB.out | apply below_alloc | apply pw_below_drewN | apply below_drew1) | exact HB.out)) hb); clear HB; have HB := n0_; clear n0_; (try clear hb); (try clear hb2); (try clear hk); (try clear hi)))
                go_ret
                exact ⟨by first | rfl | (simp [errW_none, errW_some] <;> rfl) | (simp [*, errW_none, errW_some] <;> rfl), by repeat (first | (with_reducible first | exact HB.out | apply below_alloc | apply pw_below_drewN | apply below_drew1) | exact HB.out)⟩
              · rw [if_neg c12] at H
                exact absurd H (by simp)
            · rw [if_neg c10] at H
              exact absurd H (by simp)
          · rw [if_neg c9] at H
            exact absurd H (by simp)
        · rw [if_neg c8] at H
          exact absurd H (by simp)
      · rw [if_neg c7] at H
        exact absurd H (by simp)
    · rw [if_neg c6] at H
      exact absurd H (by simp)
  · rw [if_neg c5] at H
    exact absurd H (by simp)

/-! ### contangoref05_Leap: function 12 -/
def contangoref05_Leap.f (a0 : Int) : Option (Bool) := if (Int.tmod a0 4) = 0 then (if (Int.tmod a0 100) = 0 then (some ((Int.tmod a0 400) == 0)) else (some true)) else (some ((Int.tmod a0 400) == 0))
set_option maxHeartbeats 8000000 in
set_option maxRecDepth 100000 in
theorem contangoref05_Leap.calls (a0 : Int) (r : Bool) (w : World) (h : contangoref05_Leap.f a0 = some r) :
    Calls Tryd.prog 12 #[.int .i64 a0] w fun e w' => e = .returned (.bool r) ∧ Drawn0 w w' := by
  have H : (if (Int.tmod a0 4) = 0 then (if (Int.tmod a0 100) = 0 then (some ((Int.tmod a0 400) == 0)) else (some true)) else (some ((Int.tmod a0 400) == 0))) = some r := h
  clear h
  by_cases c2 : (Int.tmod a0 4) = 0
  · rw [if_pos c2] at H
    have c2b0 : ((Int.tmod a0 4) == 0) = true := beq_iff_eq.mpr c2
    have c2b1 : ((Int.tmod a0 4) != 0) = false := bne_eq_false_iff_eq.mpr c2
    clear c2
    by_cases c3 : (Int.tmod a0 100) = 0
    · rw [if_pos c3] at H
      have c3b0 : ((Int.tmod a0 100) == 0) = true := beq_iff_eq.mpr c3
      have c3b1 : ((Int.tmod a0 100) != 0) = false := bne_eq_false_iff_eq.mpr c3
      clear c3
      obtain rfl := Option.some.inj H
      go_enter Tryd.func12, Tryd.ntmps12
      go_wp2
      go_ret
      exact ⟨by first | rfl | (simp; done) | (simp [*]; done), by repeat (first | exact Drawn0.refl _ | apply Drawn0.step)⟩
    · rw [if_neg c3] at H
      have c3b0 : ((Int.tmod a0 100) == 0) = false := beq_eq_false_iff_ne.mpr c3
      have c3b1 : ((Int.tmod a0 100) != 0) = true := bne_iff_ne.mpr c3
      obtain rfl := Option.some.inj H
      go_enter Tryd.func12, Tryd.ntmps12
      go_wp2
      go_ret
      exact ⟨by first | rfl | (simp; done) | (simp [*]; done), by repeat (first | exact Drawn0.refl _ | apply Drawn0.step)⟩
  · rw [if_neg c2] at H
    have c2b0 : ((Int.tmod a0 4) == 0) = false := beq_eq_false_iff_ne.mpr c2
    have c2b1 : ((Int.tmod a0 4) != 0) = true := bne_iff_ne.mpr c2
    obtain rfl := Option.some.inj H
    go_enter Tryd.func12, Tryd.ntmps12
    go_wp2
    go_ret
    exact ⟨by first | rfl | (simp; done) | (simp [*]; done), by repeat (first | exact Drawn0.refl _ | apply Drawn0.step)⟩

end Go.Proofs.YtmhlajgeihjaeaaDoor.PDateParses
