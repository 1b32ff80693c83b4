/- Laid for this claim by a program of this session's (wip/mkprint.py, wip/ext.py); not trusted: Lean checks it. -/
import Derived.Test.YtgcefakbbmgbbaaDoorPTopExpiryx0
import Derived.Test.YtgcefakbbmgbbaaDoorPTopExpiryx1
namespace Go.Proofs.YtgcefakbbmgbbaaDoor.PTopExpiry
open Go.RowKit Go.Proofs.YtgcefakbbmgbbaaDoorW.PrintWords Go.Proofs.YtgcefakbbmgbbaaDoorW.PrintLast Go.Proofs.YtgcefakbbmgbbaaDoorW.PrintMore
attribute [local go_sem] max2_int min2_int max_two min_two max_three min_three max_four min_four   -- for this text's walks alone
set_option linter.unusedVariables false
set_option linter.unusedSimpArgs false

/-! ### workday_working: function 30 -/
/-! what workday's functions tell, in closed form -/
def isV (d : Int) : Bool := decide (0 ≤ d) && decide (d ≤ 73048)
def chkFrom (prev : Int) : List Int → Int
  | [] => 0
  | d :: l => if isV d = true then (if d ≤ prev then 2 else chkFrom d l) else 15
def chkV (l : List Int) : Int := if l.length > 1024 then 8 else chkFrom (-1) l
def chk2 (l ds : List Int) : Int := if chkV l = 0 then (if ds.all isV = true then 0 else 15) else chkV l
def workV (l : List Int) (d : Int) : Bool := isV d && decide (d % 7 > 1) && !(decide (d ∈ l))
/-- from some number of rounds on -/
def Xv {α : Type} (g : Nat → Option α) (r : α) : Prop := ∃ k0, ∀ k, k0 ≤ k → g k = some r
theorem xv_step {α : Type} {g f : Nat → Option α} {r : α} (h : ∀ k, g (k + 1) = f k) (k : Xv f r) : Xv g r := by
  obtain ⟨k0, hk⟩ := k
  refine ⟨k0 + 1, fun k hk' => ?_⟩
  obtain ⟨j, rfl⟩ : ∃ j, k = j + 1 := ⟨k - 1, by omega⟩
  rw [h]; exact hk j (by omega)
theorem xv_pos {α : Type} {c : Prop} [Decidable c] {a b : Nat → Option α} {r : α} (h : c) (k : Xv a r) : Xv (fun n => if c then a n else b n) r := by
  obtain ⟨k0, hk⟩ := k
  exact ⟨k0, fun k hk' => (if_pos h).trans (hk k hk')⟩
theorem xv_neg {α : Type} {c : Prop} [Decidable c] {a b : Nat → Option α} {r : α} (h : ¬ c) (k : Xv b r) : Xv (fun n => if c then a n else b n) r := by
  obtain ⟨k0, hk⟩ := k
  exact ⟨k0, fun k hk' => (if_neg h).trans (hk k hk')⟩
theorem xv_some {α : Type} {x r : α} (h : x = r) : Xv (fun _ => some x) r := ⟨0, fun _ _ => by rw [h]⟩
theorem xv_val {α β : Type} {g : Option α} {f : Nat → α → Option β} {a : α} {r : β} (h : g = some a) (k : Xv (fun n => f n a) r) : Xv (fun n => g.bind (f n)) r := by subst h; exact k
theorem xv_bnd {α β : Type} {g : Nat → Option α} {f : Nat → α → Option β} {a : α} {r : β} (h : Xv g a) (k : Xv (fun n => f n a) r) : Xv (fun n => (g n).bind (f n)) r := by
  obtain ⟨k0, hk⟩ := h
  obtain ⟨k1, hk1⟩ := k
  exact ⟨max k0 k1, fun n hn => by
    show (g n).bind (f n) = some r
    rw [hk n (by omega)]; exact hk1 n (by omega)⟩
theorem xv_get {α : Type} {g : Nat → Option α} {r : α} (h : Xv g r) : ∃ k, g k = some r := by
  obtain ⟨k0, hk⟩ := h
  exact ⟨k0, hk k0 (Nat.le_refl _)⟩
theorem xw (i : Nat) (h : i ≤ 4611686018427387904) : wrap64 ((i : Int) + 1) = ((i + 1 : Nat) : Int) := by unfold wrap64; omega
theorem xw64 (n : Int) (h : -9223372036854775808 ≤ n) (h2 : n ≤ 9223372036854775807) : wrap64 n = n := by unfold wrap64; omega
theorem is_val (d : Int) : workday_is.f d = some (isV d) := by
  unfold workday_is.f isV
  by_cases h : d ≥ 0
  · rw [if_pos h, decide_eq_true (show 0 ≤ d from h)]; rfl
  · rw [if_neg h, decide_eq_false (show ¬ 0 ≤ d from h)]; rfl
theorem rd_drop (l : List Int) (i : Nat) (h : i < l.length) : l.drop i = rd l (i : Int) :: l.drop (i + 1) := by
  rw [List.drop_eq_getElem_cons h]
  unfold rd
  rw [Int.toNat_natCast, List.getD_eq_getElem?_getD, List.getElem?_eq_getElem h]; rfl
theorem check_go (l : List Int) (hl : l.length ≤ 1024) (n : Nat) : ∀ i : Nat, i + n = l.length → Xv (fun k => workday_Check.l0 k l l (l.length : Int) (i : Int)) (chkFrom (if i = 0 then -1 else rd l ((i : Int) - 1)) (l.drop i)) := by
  induction n with
  | zero =>
    intro i hi
    obtain rfl : i = l.length := by omega
    rw [List.drop_length]
    refine xv_step (fun _ => by rw [workday_Check.l0]) ?_
    exact xv_neg (by omega) (xv_some rfl)
  | succ n ih =>
    intro i hi
    have hlt : i < l.length := by omega
    rw [rd_drop l i hlt, chkFrom]
    have ih := ih (i + 1) (by omega)
    rw [if_neg (by omega), show ((i + 1 : Nat) : Int) - 1 = (i : Int) by omega] at ih
    refine xv_step (fun _ => by rw [workday_Check.l0]) ?_
    refine xv_pos (by omega) (xv_pos (by omega) (xv_pos (by omega) (xv_val (is_val _) ?_)))
    cases hv : isV (rd l (i : Int)) with
    | false =>
      rw [if_neg (show ¬ (false = true) by decide)]
      exact xv_neg (by decide) (xv_some rfl)
    | true =>
      rw [if_pos rfl]
      refine xv_pos rfl ?_
      rw [xw i (by omega)]
      by_cases h0 : i = 0
      · subst h0
        have hp : ¬ rd l ((0 : Nat) : Int) ≤ -1 := by
          unfold isV at hv
          simp only [Bool.and_eq_true, decide_eq_true_eq] at hv
          omega
        rw [if_pos rfl, if_neg hp]
        exact xv_neg (by decide) ih
      · rw [if_neg h0]
        refine xv_pos (by omega) ?_
        rw [xw64 _ (by omega) (by omega)]
        refine xv_pos (by omega) (xv_pos (by omega) ?_)
        by_cases hle : rd l (i : Int) ≤ rd l ((i : Int) - 1)
        · rw [if_pos hle]
          exact xv_pos hle (xv_some rfl)
        · rw [if_neg hle]
          exact xv_neg hle ih
theorem check_val (l : List Int) : Xv (fun k => workday_Check.f k l) (chkV l) := by
  unfold workday_Check.f chkV
  by_cases h : l.length > 1024
  · rw [if_pos h]
    exact xv_pos (by omega) (xv_some rfl)
  · rw [if_neg h]
    refine xv_neg (by omega) ?_
    have := check_go l (by omega) l.length 0 (by omega)
    rw [if_pos rfl, List.drop_zero] at this
    exact this
theorem check2_go (ds : List Int) (hl : ds.length ≤ 1024) (n : Nat) : ∀ i : Nat, i + n = ds.length → Xv (fun k => workday_check.l0 k ds (ds.length : Int) (i : Int)) (if (ds.drop i).all isV = true then 0 else 15) := by
  induction n with
  | zero =>
    intro i hi
    obtain rfl : i = ds.length := by omega
    rw [List.drop_length]
    refine xv_step (fun _ => by rw [workday_check.l0]) ?_
    exact xv_neg (by omega) (xv_some rfl)
  | succ n ih =>
    intro i hi
    have ih := ih (i + 1) (by omega)
    rw [rd_drop ds i (by omega), List.all_cons]
    refine xv_step (fun _ => by rw [workday_check.l0]) ?_
    refine xv_pos (by omega) (xv_pos (by omega) (xv_pos (by omega) (xv_val (is_val _) ?_)))
    rw [xw i (by omega)]
    cases hv : isV (rd ds (i : Int)) with
    | false => exact xv_neg (by decide) (xv_some rfl)
    | true => rw [Bool.true_and]; exact xv_pos rfl ih
theorem chk2_val (l ds : List Int) (hl : ds.length ≤ 1024) : ∃ k, workday_check.f k l ds = some (chk2 l ds) := by
  refine xv_get ?_
  unfold workday_check.f chk2
  refine xv_bnd (check_val l) ?_
  by_cases h : chkV l = 0
  · rw [if_pos h]
    refine xv_pos h ?_
    have := check2_go ds hl ds.length 0 (by omega)
    rw [List.drop_zero] at this
    exact this
  · rw [if_neg h]
    exact xv_neg h (xv_some rfl)
def srt (l : List Int) : Prop := l.length ≤ 1024 ∧ ∀ i j : Nat, i < j → j < l.length → rd l (i : Int) < rd l (j : Int)
theorem rd_cons_succ (a : Int) (l : List Int) (i : Nat) : rd (a :: l) ((i + 1 : Nat) : Int) = rd l (i : Int) := by
  unfold rd; rw [Int.toNat_natCast, Int.toNat_natCast, List.getD_cons_succ]
theorem chk_sorted : ∀ (l : List Int) (p : Int), chkFrom p l = 0 → (∀ i : Nat, i < l.length → p < rd l (i : Int)) ∧ (∀ i j : Nat, i < j → j < l.length → rd l (i : Int) < rd l (j : Int)) ∧ (∀ d ∈ l, isV d = true)
  | [], p, _ => ⟨fun i h => by simp at h, fun i j _ h => by simp at h, fun d h => by simp at h⟩
  | a :: l, p, h => by
    rw [chkFrom] at h
    by_cases hv : isV a = true
    · rw [if_pos hv] at h
      by_cases hp : a ≤ p
      · rw [if_pos hp] at h; cases h
      · rw [if_neg hp] at h
        obtain ⟨h1, h2, h3⟩ := chk_sorted l a h
        refine ⟨fun i hi => ?_, fun i j hij hj => ?_, fun d hd => ?_⟩
        · cases i with
          | zero => show p < a; omega
          | succ i => rw [rd_cons_succ]; have := h1 i (by simpa using hi); omega
        · cases j with
          | zero => omega
          | succ j =>
            rw [rd_cons_succ]
            cases i with
            | zero => exact h1 j (by simpa using hj)
            | succ i => rw [rd_cons_succ]; exact h2 i j (by omega) (by simpa using hj)
        · rcases List.mem_cons.1 hd with rfl | hd
          · exact hv
          · exact h3 d hd
    · rw [if_neg hv] at h; cases h
theorem chkV_srt (l : List Int) (h : chkV l = 0) : srt l := by
  unfold chkV at h
  by_cases hl : l.length > 1024
  · rw [if_pos hl] at h; cases h
  · rw [if_neg hl] at h
    exact ⟨by omega, (chk_sorted l _ h).2.1⟩
theorem mem_rd (l : List Int) (d : Int) : d ∈ l ↔ ∃ i : Nat, i < l.length ∧ rd l (i : Int) = d := by
  rw [List.mem_iff_getElem]
  constructor
  · rintro ⟨i, h, rfl⟩
    refine ⟨i, h, ?_⟩
    unfold rd; rw [Int.toNat_natCast, List.getD_eq_getElem?_getD, List.getElem?_eq_getElem h]; rfl
  · rintro ⟨i, h, rfl⟩
    refine ⟨i, h, ?_⟩
    unfold rd; rw [Int.toNat_natCast, List.getD_eq_getElem?_getD, List.getElem?_eq_getElem h]; rfl
theorem less_val (a b : Int) : cmp_Less_int.f a b = some (decide (a < b)) := by
  unfold cmp_Less_int.f cmp_isNaN_int.f
  rw [bne_self_eq_false]; rfl
theorem bs_go (l : List Int) (d : Int) (hs : srt l) (n : Nat) : ∀ i j : Nat, j - i ≤ n → i ≤ j → j ≤ l.length → (∀ t : Nat, t < i → rd l (t : Int) < d) → (∀ t : Nat, j ≤ t → t < l.length → d ≤ rd l (t : Int)) →
    ∃ p : Int, Xv (fun k => slices_BinarySearch_int_int.l0 k l d (l.length : Int) (i : Int) (j : Int)) (p, decide (d ∈ l)) := by
  have hl := hs.1
  induction n with
  | zero =>
    intro i j h1 h2 h3 h4 h5
    obtain rfl : i = j := by omega
    refine ⟨(i : Int), ?_⟩
    refine xv_step (fun _ => by rw [slices_BinarySearch_int_int.l0]) ?_
    refine xv_neg (by omega) ?_
    by_cases hi : i < l.length
    · refine xv_pos (by omega) (xv_pos (by omega) (xv_pos (by omega) ?_))
      by_cases he : rd l (i : Int) = d
      · refine xv_pos he (xv_some ?_)
        rw [decide_eq_true ((mem_rd l d).2 ⟨i, hi, he⟩)]
      · refine xv_neg he (xv_val (show slices_isNaN_int.f (rd l (i : Int)) = some false by unfold slices_isNaN_int.f; rw [bne_self_eq_false]) (xv_neg (by decide) (xv_some ?_)))
        rw [decide_eq_false]
        rw [mem_rd]
        rintro ⟨t, ht, hte⟩
        rcases Nat.lt_or_ge t i with h | h
        · have := h4 t h; omega
        · rcases Nat.lt_or_eq_of_le h with h | h
          · have := hs.2 i t h ht
            have := h5 i (Nat.le_refl _) hi
            omega
          · subst h; exact he hte
    · refine xv_neg (by omega) (xv_some ?_)
      rw [decide_eq_false]
      rw [mem_rd]
      rintro ⟨t, ht, hte⟩
      have := h4 t (by omega)
      omega
  | succ n ih =>
    intro i j h1 h2 h3 h4 h5
    by_cases hij : i < j
    · have e : wrap64 (IntKind.u64.wrap (wrap64 ((i : Int) + (j : Int))) / 2) = (((i + j) / 2 : Nat) : Int) := by
        rw [xw64 ((i : Int) + (j : Int)) (by omega) (by omega), show IntKind.u64.wrap ((i : Int) + (j : Int)) = (i : Int) + (j : Int) from by
          show ((i : Int) + (j : Int)) % 18446744073709551616 = _
          omega, xw64 _ (by omega) (by omega)]
        omega
      have hm : (i + j) / 2 < l.length := by omega
      by_cases hlt : rd l (((i + j) / 2 : Nat) : Int) < d
      · obtain ⟨p, hp⟩ := ih ((i + j) / 2 + 1) j (by omega) (by omega) h3 (fun t ht => by
          rcases Nat.lt_or_eq_of_le (show t ≤ (i + j) / 2 by omega) with h | h
          · have := hs.2 t ((i + j) / 2) h hm; omega
          · rw [h]; exact hlt) h5
        refine ⟨p, ?_⟩
        refine xv_step (fun _ => by rw [slices_BinarySearch_int_int.l0]) ?_
        rw [e]
        refine xv_pos (by omega) (xv_pos (by omega) (xv_pos (by omega) (xv_val (less_val _ _) ?_)))
        rw [decide_eq_true hlt]
        refine xv_pos rfl ?_
        rw [xw _ (by omega)]
        exact hp
      · obtain ⟨p, hp⟩ := ih i ((i + j) / 2) (by omega) (by omega) (by omega) h4 (fun t ht1 ht2 => by
          rcases Nat.lt_or_eq_of_le ht1 with h | h
          · have := hs.2 ((i + j) / 2) t h ht2; omega
          · rw [← h]; omega)
        refine ⟨p, ?_⟩
        refine xv_step (fun _ => by rw [slices_BinarySearch_int_int.l0]) ?_
        rw [e]
        refine xv_pos (by omega) (xv_pos (by omega) (xv_pos (by omega) (xv_val (less_val _ _) ?_)))
        rw [decide_eq_false hlt]
        exact xv_neg (by decide) hp
    · exact ih i j (by omega) h2 h3 h4 h5
theorem bs_val (l : List Int) (d : Int) (hs : srt l) : ∃ k p, slices_BinarySearch_int_int.f k l d = some (p, decide (d ∈ l)) := by
  obtain ⟨p, hp⟩ := bs_go l d hs l.length 0 l.length (by omega) (by omega) (Nat.le_refl _) (fun t ht => by omega) (fun t h1 h2 => by omega)
  obtain ⟨k, hk⟩ := xv_get hp
  exact ⟨k, p, hk⟩

def weekL : List Value := [.bool false, .bool true, .bool true, .bool true, .bool true, .bool true, .bool false, .bool false]
set_option maxHeartbeats 4000000 in
set_option maxRecDepth 100000 in
theorem working_any (A : Option Addr) (n c : Nat) (w : World) :
    Calls Tryd.prog 30 #[.slice A n c] w fun e w' => ∃ g1 g2 : Nat, e = .returned (.func (.func 38) #[] #[.pointer (some ⟨g1, 0, none⟩), .pointer (some ⟨g2, 0, none⟩)]) ∧ w.heap.size ≤ g1 ∧ w.heap.size ≤ g2 ∧ w'.heap[g1]? = some (.cells #[.slice A n c] 22 (0, 0)) ∧ w'.heap[g2]? = some (.cells weekL.toArray 51 (0, 0)) ∧ Below w.heap.size w w' := by
  have hmf : ∀ (fn : Fn) (first cap : Array Value) (w : World), (Instr.makeFunc fn first cap).run Tryd.prog w = .ok (.func fn first cap) w := fun _ _ _ _ => rfl
  go_enter Tryd.func30, Tryd.ntmps30
  go_wp2
  go_ret
  exact ⟨_, _, rfl, Nat.le_refl _, Nat.le_succ _, blk_alloc (blk_new _ _) _, by rw [show w.heap.size + 1 = (w.alloc (.cells #[.slice A n c] 22)).heap.size by simp]; exact blk_new _ _, below_alloc (below_alloc (Below.refl _ _) _) _⟩
set_option maxHeartbeats 4000000 in
set_option maxRecDepth 100000 in
theorem working1_any (A : Option Addr) (c : Nat) (l : List Int) (d : Int) (g1 g2 : Nat) (w : World) (hr : Kd.C (Kd.int .i64) w A l.length l) (hc : l.length ≤ c) (hs : srt l) (h1 : w.heap[g1]? = some (.cells #[.slice A l.length c] 22 (0, 0))) (h2 : w.heap[g2]? = some (.cells weekL.toArray 51 (0, 0))) :
    Calls Tryd.prog 38 #[.int .i64 d, .pointer (some ⟨g1, 0, none⟩), .pointer (some ⟨g2, 0, none⟩)] w fun e w' => e = .returned (.bool (workV l d)) ∧ Below w.heap.size w w' := by
  obtain ⟨k, p, hb⟩ := bs_val l d hs
  have hc1 := (blk_cell h1 0).trans (rfl : _ = some (Value.slice A l.length c))
  have hwd : ∃ q : Nat, q ≤ 7 ∧ date_Weekday.f d = some (q : Int) ∧ weekL[q]? = some (.bool (isV d && decide (d % 7 > 1))) := by
    unfold date_Weekday.f date_here.f isV
    by_cases h0 : d ≥ 0
    · rw [if_pos h0]
      by_cases h3 : d ≤ 73048
      · refine ⟨((d + 5) % 7 + 1).toNat, by omega, ?_, ?_⟩
        · rw [decide_eq_true h3, Option.bind_some, if_pos rfl, xw64 (d + 5) (by omega) (by omega), Int.tmod_eq_emod_of_nonneg (by omega), xw64 _ (by omega) (by omega)]
          congr 1; omega
        · rw [decide_eq_true (show 0 ≤ d from h0), decide_eq_true h3, Bool.true_and, Bool.true_and]
          have hq : d % 7 = 0 ∨ d % 7 = 1 ∨ d % 7 = 2 ∨ d % 7 = 3 ∨ d % 7 = 4 ∨ d % 7 = 5 ∨ d % 7 = 6 := by omega
          rcases hq with h | h | h | h | h | h | h
          · rw [show ((d + 5) % 7 + 1).toNat = 6 by omega, h]; rfl
          · rw [show ((d + 5) % 7 + 1).toNat = 7 by omega, h]; rfl
          · rw [show ((d + 5) % 7 + 1).toNat = 1 by omega, h]; rfl
          · rw [show ((d + 5) % 7 + 1).toNat = 2 by omega, h]; rfl
          · rw [show ((d + 5) % 7 + 1).toNat = 3 by omega, h]; rfl
          · rw [show ((d + 5) % 7 + 1).toNat = 4 by omega, h]; rfl
          · rw [show ((d + 5) % 7 + 1).toNat = 5 by omega, h]; rfl
      · exact ⟨0, by omega, by rw [decide_eq_false h3]; rfl, by rw [decide_eq_false h3, Bool.and_false, Bool.false_and]; rfl⟩
    · exact ⟨0, by omega, by rw [if_neg h0]; rfl, by rw [decide_eq_false (show ¬ 0 ≤ d from h0), Bool.false_and, Bool.false_and]; rfl⟩
  obtain ⟨q, hq7, hwd, hwk⟩ := hwd
  have hcq : w.cell? ⟨g2, q, none⟩ = some (.bool (isV d && decide (d % 7 > 1))) := by rw [blk_cell h2 q]; simpa using hwk
  unfold workV
  generalize (isV d && decide (d % 7 > 1)) = bw at *
  generalize decide (d ∈ l) = bf at *
  have HB := Aside0.mk hb
  have HW := Aside0.mk hwd
  have HR := Aside0.mk hr
  have HC := Aside0.mk hc
  clear hb hwd hr hc h1 h2 hwk hs
  have hres : ∀ (nq : Nat), (w.drewN nq).cell? ⟨g2, q, none⟩ = some (.bool bw) := fun nq => hcq
  cases bw with
  | false =>
    go_enter Tryd.func38, Tryd.ntmps38
    go_wp2_with (first | (go_at_call 39; (with_reducible refine (slices_BinarySearch_int_int.calls k A c l d p bf _ HR.out HC.out HB.out).mono ?_); rintro e w' ⟨rfl, ⟨nd, rfl⟩⟩) | (go_at_call 36; (with_reducible refine (date_Weekday.calls d (q : Int) _ HW.out).mono ?_); rintro e w' ⟨rfl, ⟨nd2, rfl⟩⟩))
    go_ret
    exact ⟨rfl, by repeat (first | exact Below.refl _ _ | apply pw_below_drewN)⟩
  | true =>
    cases bf with
    | false =>
      go_enter Tryd.func38, Tryd.ntmps38
      go_wp2_with (first | (go_at_call 39; (with_reducible refine (slices_BinarySearch_int_int.calls k A c l d p false _ HR.out HC.out HB.out).mono ?_); rintro e w' ⟨rfl, ⟨nd, rfl⟩⟩) | (go_at_call 36; (with_reducible refine (date_Weekday.calls d (q : Int) _ HW.out).mono ?_); rintro e w' ⟨rfl, ⟨nd2, rfl⟩⟩))
      go_ret
      exact ⟨rfl, by repeat (first | exact Below.refl _ _ | apply pw_below_drewN)⟩
    | true =>
      go_enter Tryd.func38, Tryd.ntmps38
      go_wp2_with (first | (go_at_call 39; (with_reducible refine (slices_BinarySearch_int_int.calls k A c l d p true _ HR.out HC.out HB.out).mono ?_); rintro e w' ⟨rfl, ⟨nd, rfl⟩⟩) | (go_at_call 36; (with_reducible refine (date_Weekday.calls d (q : Int) _ HW.out).mono ?_); rintro e w' ⟨rfl, ⟨nd2, rfl⟩⟩))
      go_ret
      exact ⟨rfl, by repeat (first | exact Below.refl _ _ | apply pw_below_drewN)⟩
theorem rowC (l : List Int) (g : Nat) (w : World) (hl : l.length ≤ 1000) (h : w.heap[g]? = some (.cells (l.map (Value.int .i64)).toArray 3 (0, 0))) : Kd.C (Kd.int .i64) w (some ⟨g, 0, none⟩) l.length l := by
  refine ⟨rfl, by omega, fun _ => ⟨⟨g, 0, none⟩, rfl, fun j p hj => ⟨[.int .i64 p], rfl, rfl, fun i u hu => ?_⟩⟩⟩
  have hi : i = 0 := by
    have := (List.getElem?_eq_some_iff.1 hu).1
    simpa using this
  subst hi
  have hu' : u = .int .i64 p := by simpa using hu.symm
  subst hu'
  have ha : Addr.add ⟨g, 0, none⟩ (j * (Kd.int .i64).sz + 0) = ⟨g, j, none⟩ := by
    show Addr.add ⟨g, 0, none⟩ (j * 1 + 0) = ⟨g, j, none⟩
    rw [Nat.mul_one, Nat.add_zero]
    cases j <;> simp [Addr.add]
  rw [ha, blk_cell h j]
  simp [hj]
theorem chk2_srt (l ds : List Int) (h : chk2 l ds = 0) : srt l := by
  unfold chk2 at h
  by_cases hc : chkV l = 0
  · exact chkV_srt l hc
  · rw [if_neg hc] at h; exact absurd h hc
theorem chk2_in (l ds : List Int) (d : Int) (h : chk2 l ds = 0) (hd : d ∈ ds) : 0 ≤ d ∧ d ≤ 73048 := by
  unfold chk2 at h
  by_cases hc : chkV l = 0
  · rw [if_pos hc] at h
    by_cases ha : ds.all isV = true
    · have := List.all_eq_true.1 ha d hd
      unfold isV at this
      simpa using this
    · rw [if_neg ha] at h; cases h
  · rw [if_neg hc] at h; exact absurd h hc

/-! ### workday_Works: function 11 -/
def workday_Works.f (l0 : List Int) (a1 : Int) : Option (Bool × Int) := some (if chk2 l0 [a1] = 0 then (workV l0 a1, 0) else (false, chk2 l0 [a1]))
set_option maxHeartbeats 4000000 in
set_option maxRecDepth 100000 in
theorem workday_Works.calls (A0 : Option Addr) (c0 : Nat) (l0 : List Int) (a1 : Int) (r1 : Bool) (r2 : Int) (w : World) (hr0 : Kd.C (Kd.int .i64) w A0 l0.length l0) (hc0 : l0.length ≤ c0) (h : workday_Works.f l0 a1 = some (r1, r2)) :
    Calls Tryd.prog 11 #[.slice A0 l0.length c0, .int .i64 a1] w fun e w' => e = .returned (.tuple #[.bool r1, .int .i64 r2]) ∧ Below w.heap.size w w' := by
  unfold workday_Works.f at h
  have h := Option.some.inj h
  obtain ⟨k, hk⟩ := chk2_val l0 [a1] (by simp)
  have hcall : ∀ W : World, Below w.heap.size w W → Calls Tryd.prog 29 #[.slice A0 l0.length c0, .slice (some ⟨W.heap.size, 0, none⟩) 1 1] (W.alloc (.cells #[.int .i64 a1] 3)) fun e w' => e = .returned (.int .i64 (chk2 l0 [a1])) ∧ Drawn0 (W.alloc (.cells #[.int .i64 a1] 3)) w' := fun W hB =>
    workday_check.calls k A0 c0 l0 (some ⟨W.heap.size, 0, none⟩) 1 [a1] _ _ (Kd.C_below hr0 (below_alloc hB _)) hc0 (rowC [a1] W.heap.size _ (by simp) (blk_new W _)) (Nat.le_refl _) hk
  have HCALL := Aside0.mk hcall
  clear hcall hk
  by_cases hz : chk2 l0 [a1] = 0
  · rw [if_pos hz] at h
    simp only [Prod.mk.injEq] at h
    obtain ⟨rfl, rfl⟩ := h
    have hs := chk2_srt _ _ hz
    rw [hz] at HCALL
    clear hz
    have hwk : ∀ (W : World) (g1 g2 : Nat), Below w.heap.size w W → W.heap[g1]? = some (.cells #[.slice A0 l0.length c0] 22 (0, 0)) → W.heap[g2]? = some (.cells weekL.toArray 51 (0, 0)) → Calls Tryd.prog 38 #[.int .i64 a1, .pointer (some ⟨g1, 0, none⟩), .pointer (some ⟨g2, 0, none⟩)] W fun e w' => e = .returned (.bool (workV l0 a1)) ∧ Below W.heap.size W w' := fun W g1 g2 hB h1 h2 => working1_any A0 c0 l0 a1 g1 g2 W (Kd.C_below hr0 hB) hc0 hs h1 h2
    have HW := Aside0.mk hwk
    generalize workV l0 a1 = b at *
    clear hwk hr0 hs
    go_enter Tryd.func11, Tryd.ntmps11
    go_wp2_with (go_at_call 29; (with_reducible refine (HCALL.out _ (Below.refl _ _)).mono ?_); rintro e w2 ⟨rfl, hd⟩; have HB := Aside0.mk (below_step (below_alloc (Below.refl _ _) _) hd.below); clear hd)
    refine (working_any A0 l0.length c0 _).mono ?_
    rintro e w3 ⟨g1, g2, rfl, _, _, h1, h2, hb⟩
    have HB3 := Aside0.mk (below_step HB.out hb)
    have H1 := Aside0.mk h1
    have H2 := Aside0.mk h2
    clear hb h1 h2
    go_wp2_with fail
    refine (HW.out _ g1 g2 HB3.out H1.out H2.out).mono ?_
    rintro e w4 ⟨rfl, hb⟩
    have HB4 := Aside0.mk (below_step HB3.out hb)
    clear hb
    go_wp2
    go_ret2
    exact ⟨rfl, HB4.out⟩
  · rw [if_neg hz] at h
    simp only [Prod.mk.injEq] at h
    obtain ⟨rfl, rfl⟩ := h
    have dz : (chk2 l0 [a1] != 0) = true := bne_iff_ne.2 hz
    generalize chk2 l0 [a1] = e0 at *
    clear hr0 hz
    go_enter Tryd.func11, Tryd.ntmps11
    go_wp2_with (go_at_call 29; (with_reducible refine (HCALL.out _ (Below.refl _ _)).mono ?_); rintro e w2 ⟨rfl, hd⟩; have HB := Aside0.mk (below_step (below_alloc (Below.refl _ _) _) hd.below); clear hd)
    go_ret2
    exact ⟨rfl, HB.out⟩

/-! ### workday_Count: function 23 -/
def cntGo : Nat → List Int → Int → Int → Int
  | 0, _, _, n => n
  | f + 1, l, d, n => cntGo f l (d + 1) (if workV l d = true then n + 1 else n)
def workday_Count.f (l0 : List Int) (a1 a2 : Int) : Option (Int × Int) := some (if chk2 l0 [a1, a2] = 0 then (cntGo (a2 - a1 + 1).toNat l0 a1 0, 0) else (0, chk2 l0 [a1, a2]))
set_option maxHeartbeats 8000000 in
set_option maxRecDepth 100000 in
theorem workday_Count.calls (A0 : Option Addr) (c0 : Nat) (l0 : List Int) (a1 a2 r1 r2 : Int) (w : World) (hr0 : Kd.C (Kd.int .i64) w A0 l0.length l0) (hc0 : l0.length ≤ c0) (h : workday_Count.f l0 a1 a2 = some (r1, r2)) :
    Calls Tryd.prog 23 #[.slice A0 l0.length c0, .int .i64 a1, .int .i64 a2] w fun e w' => e = .returned (.tuple #[.int .i64 r1, .int .i64 r2]) ∧ Below w.heap.size w w' := by
  unfold workday_Count.f at h
  have h := Option.some.inj h
  obtain ⟨k, hk⟩ := chk2_val l0 [a1, a2] (by simp)
  have hcall : ∀ W : World, Below w.heap.size w W → Calls Tryd.prog 29 #[.slice A0 l0.length c0, .slice (some ⟨W.heap.size, 0, none⟩) 2 2] (W.alloc (.cells #[.int .i64 a1, .int .i64 a2] 3)) fun e w' => e = .returned (.int .i64 (chk2 l0 [a1, a2])) ∧ Drawn0 (W.alloc (.cells #[.int .i64 a1, .int .i64 a2] 3)) w' := fun W hB =>
    workday_check.calls k A0 c0 l0 (some ⟨W.heap.size, 0, none⟩) 2 [a1, a2] _ _ (Kd.C_below hr0 (below_alloc hB _)) hc0 (rowC [a1, a2] W.heap.size _ (by simp) (blk_new W _)) (Nat.le_refl _) hk
  have HCALL := Aside0.mk hcall
  clear hcall hk
  by_cases hz : chk2 l0 [a1, a2] = 0
  · rw [if_pos hz] at h
    simp only [Prod.mk.injEq] at h
    obtain ⟨hres, rfl⟩ := h
    obtain ⟨hd0, hd1⟩ := chk2_in l0 [a1, a2] a1 hz (by simp)
    obtain ⟨he0, he1⟩ := chk2_in l0 [a1, a2] a2 hz (by simp)
    have hs := chk2_srt _ _ hz
    rw [hz] at HCALL
    have hwk : ∀ (W : World) (d : Int) (g1 g2 : Nat), Below w.heap.size w W → W.heap[g1]? = some (.cells #[.slice A0 l0.length c0] 22 (0, 0)) → W.heap[g2]? = some (.cells weekL.toArray 51 (0, 0)) → Calls Tryd.prog 38 #[.int .i64 d, .pointer (some ⟨g1, 0, none⟩), .pointer (some ⟨g2, 0, none⟩)] W fun e w' => e = .returned (.bool (workV l0 d)) ∧ Below W.heap.size W w' := fun W d g1 g2 hB h1 h2 => working1_any A0 c0 l0 d g1 g2 W (Kd.C_below hr0 hB) hc0 hs h1 h2
    have HW := Aside0.mk hwk
    have HRES := Aside0.mk hres
    clear hwk hr0 hs hz hres
    go_enter Tryd.func23, Tryd.ntmps23
    go_wp2_with (go_at_call 29; (with_reducible refine (HCALL.out _ (Below.refl _ _)).mono ?_); rintro e w2 ⟨rfl, hd⟩; have HB := Aside0.mk (below_step (below_alloc (Below.refl _ _) _) hd.below); clear hd)
    refine (working_any A0 l0.length c0 _).mono ?_
    rintro e w3 ⟨g1, g2, rfl, _, _, h1, h2, hb⟩
    have HB3 := Aside0.mk (below_step HB.out hb)
    have H1 := Aside0.mk h1
    have H2 := Aside0.mk h2
    clear hb h1 h2 HB
    go_wp2_with fail
    go_loopw [10, 11] (fun v10 v11 wr => ∃ (n d : Int), a1 ≤ d ∧ d ≤ 73049 ∧ 0 ≤ n ∧ n + a1 ≤ d ∧ v10 = .int .i64 n ∧ v11 = .int .i64 d ∧ Aside0 (cntGo (a2 - d + 1).toNat l0 d n = r1) ∧ Aside0 (wr.heap[g1]? = some (.cells #[.slice A0 l0.length c0] 22 (0, 0))) ∧ Aside0 (wr.heap[g2]? = some (.cells weekL.toArray 51 (0, 0))) ∧ Aside0 (Below w.heap.size w wr)) (fun _ v11 _ => (73050 - intOf v11).toNat)
    case atStart => exact ⟨0, a1, by omega, by omega, by omega, by omega, rfl, rfl, HRES, H1, H2, HB3⟩
    case round =>
      clear HRES H1 H2 HB3
      obtain ⟨n, d, hda, hdb, hn0, hnd, rfl, rfl, HRES, H1, H2, HB⟩ := hrel
      by_cases hle : d ≤ a2
      · have hdl : decide (d ≤ a2) = true := decide_eq_true hle
        have hr := HRES.out
        rw [show (a2 - d + 1).toNat = (a2 - (d + 1) + 1).toNat + 1 by omega, cntGo] at hr
        have HWD := Aside0.mk (HW.out wr d g1 g2 HB.out H1.out H2.out)
        cases hb : workV l0 d with
        | true =>
          rw [hb] at HWD
          rw [hb, if_pos rfl] at hr
          have HR := Aside0.mk hr
          clear hb hr HRES
          go_wp2_with fail
          refine HWD.out.mono ?_
          rintro e w5 ⟨rfl, hb⟩
          have HB5 := Aside0.mk (below_step HB.out hb)
          have H15 := Aside0.mk (blk_below H1.out hb)
          have H25 := Aside0.mk (blk_below H2.out hb)
          clear hb HB H1 H2 HWD
          go_wp2
          go_roundw
          case measure => show _ < _; simp [intOf]; omega
          case rel => exact ⟨n + 1, d + 1, by omega, by omega, by omega, by omega, rfl, rfl, HR, H15, H25, HB5⟩
        | false =>
          rw [hb] at HWD
          rw [hb, if_neg (by decide)] at hr
          have HR := Aside0.mk hr
          clear hb hr HRES
          go_wp2_with fail
          refine HWD.out.mono ?_
          rintro e w5 ⟨rfl, hb⟩
          have HB5 := Aside0.mk (below_step HB.out hb)
          have H15 := Aside0.mk (blk_below H1.out hb)
          have H25 := Aside0.mk (blk_below H2.out hb)
          clear hb HB H1 H2 HWD
          go_wp2
          go_roundw
          case measure => show _ < _; simp [intOf]; omega
          case rel => exact ⟨n, d + 1, by omega, by omega, by omega, by omega, rfl, rfl, HR, H15, H25, HB5⟩
      · have hdl : decide (d ≤ a2) = false := decide_eq_false hle
        have hr := HRES.out
        rw [show (a2 - d + 1).toNat = 0 by omega, cntGo] at hr
        subst hr
        go_wp2_with fail
        go_ret2
        exact ⟨rfl, HB.out⟩
  · rw [if_neg hz] at h
    simp only [Prod.mk.injEq] at h
    obtain ⟨rfl, rfl⟩ := h
    have dz : (chk2 l0 [a1, a2] != 0) = true := bne_iff_ne.2 hz
    generalize chk2 l0 [a1, a2] = e0 at *
    clear hr0 hz
    go_enter Tryd.func23, Tryd.ntmps23
    go_wp2_with (go_at_call 29; (with_reducible refine (HCALL.out _ (Below.refl _ _)).mono ?_); rintro e w2 ⟨rfl, hd⟩; have HB := Aside0.mk (below_step (below_alloc (Below.refl _ _) _) hd.below); clear hd)
    go_ret2
    exact ⟨rfl, HB.out⟩

/-! ### workday_step: function 32 -/
def scanV : Nat → List Int → Int → Int → Int × Int
  | 0, _, _, _ => (0, 15)
  | f + 1, l, d, by_ => if isV d = true then (if workV l d = true then (d, 0) else scanV f l (d + by_) by_) else (0, 15)
def workday_step.f (l0 : List Int) (a1 a2 : Int) : Option (Int × Int) := if a2 = 1 ∨ a2 = -1 then some (if chk2 l0 [a1] = 0 then scanV 73050 l0 (a1 + a2) a2 else (0, chk2 l0 [a1])) else none
set_option maxHeartbeats 8000000 in
set_option maxRecDepth 100000 in
theorem step_good (A0 : Option Addr) (c0 : Nat) (l0 : List Int) (a1 a2 : Int) (w : World) (hr0 : Kd.C (Kd.int .i64) w A0 l0.length l0) (hc0 : l0.length ≤ c0) (ha2 : a2 = 1 ∨ a2 = -1) (hz : chk2 l0 [a1] = 0) :
    Calls Tryd.prog 32 #[.slice A0 l0.length c0, .int .i64 a1, .int .i64 a2] w fun e w' => e = .returned (.tuple #[.int .i64 (scanV 73050 l0 (a1 + a2) a2).1, .int .i64 (scanV 73050 l0 (a1 + a2) a2).2]) ∧ Below w.heap.size w w' := by
  obtain ⟨k, hk⟩ := chk2_val l0 [a1] (by simp)
  have hcall : ∀ W : World, Below w.heap.size w W → Calls Tryd.prog 29 #[.slice A0 l0.length c0, .slice (some ⟨W.heap.size, 0, none⟩) 1 1] (W.alloc (.cells #[.int .i64 a1] 3)) fun e w' => e = .returned (.int .i64 (chk2 l0 [a1])) ∧ Drawn0 (W.alloc (.cells #[.int .i64 a1] 3)) w' := fun W hB =>
    workday_check.calls k A0 c0 l0 (some ⟨W.heap.size, 0, none⟩) 1 [a1] _ _ (Kd.C_below hr0 (below_alloc hB _)) hc0 (rowC [a1] W.heap.size _ (by simp) (blk_new W _)) (Nat.le_refl _) hk
  have HCALL := Aside0.mk hcall
  obtain ⟨hd0, hd1⟩ := chk2_in l0 [a1] a1 hz (by simp)
  have hs := chk2_srt _ _ hz
  rw [hz] at HCALL
  clear hz hcall hk
  have hwk : ∀ (W : World) (d : Int) (g1 g2 : Nat), Below w.heap.size w W → W.heap[g1]? = some (.cells #[.slice A0 l0.length c0] 22 (0, 0)) → W.heap[g2]? = some (.cells weekL.toArray 51 (0, 0)) → Calls Tryd.prog 38 #[.int .i64 d, .pointer (some ⟨g1, 0, none⟩), .pointer (some ⟨g2, 0, none⟩)] W fun e w' => e = .returned (.bool (workV l0 d)) ∧ Below W.heap.size W w' := fun W d g1 g2 hB h1 h2 => working1_any A0 c0 l0 d g1 g2 W (Kd.C_below hr0 hB) hc0 hs h1 h2
  have HW := Aside0.mk hwk
  have hby : -1 ≤ a2 ∧ a2 ≤ 1 := by omega
  obtain ⟨hby1, hby2⟩ := hby
  have HA := Aside0.mk ha2
  clear hwk hr0 hs ha2
  obtain ⟨res, hres⟩ : ∃ res, res = scanV 73050 l0 (a1 + a2) a2 := ⟨_, rfl⟩
  rw [← hres]
  have HRES := Aside0.mk hres.symm
  clear hres
  go_enter Tryd.func32, Tryd.ntmps32
  go_wp2_with (go_at_call 29; (with_reducible refine (HCALL.out _ (Below.refl _ _)).mono ?_); rintro e w2 ⟨rfl, hd⟩; have HB := Aside0.mk (below_step (below_alloc (Below.refl _ _) _) hd.below); clear hd)
  refine (working_any A0 l0.length c0 _).mono ?_
  rintro e w3 ⟨g1, g2, rfl, _, _, h1, h2, hb⟩
  have HB3 := Aside0.mk (below_step HB.out hb)
  have H1 := Aside0.mk h1
  have H2 := Aside0.mk h2
  clear hb h1 h2 HB
  go_wp2_with fail
  go_loopw [10] (fun v10 wr => ∃ (f : Nat) (d : Int), -1 ≤ d ∧ d ≤ 73049 ∧ f ≤ 73050 ∧ v10 = .int .i64 d ∧ Aside0 (0 < f ∧ (a2 = 1 → 73049 - d < f) ∧ (a2 = -1 → d + 1 < f)) ∧ Aside0 (scanV f l0 d a2 = res) ∧ Aside0 (wr.heap[g1]? = some (.cells #[.slice A0 l0.length c0] 22 (0, 0))) ∧ Aside0 (wr.heap[g2]? = some (.cells weekL.toArray 51 (0, 0))) ∧ Aside0 (Below w.heap.size w wr)) (fun v10 _ => if a2 = 1 then (73050 - intOf v10).toNat else (intOf v10 + 1).toNat)
  case atStart => exact ⟨73050, a1 + a2, by omega, by omega, by omega, rfl, ⟨by omega⟩, HRES, H1, H2, HB3⟩
  case round =>
    clear HRES H1 H2 HB3
    obtain ⟨f, d, hd0, hd1, hf, rfl, HF, HRES, H1, H2, HB⟩ := hrel
    obtain ⟨f, rfl⟩ : ∃ j, f = j + 1 := ⟨f - 1, by have := HF.out.1; omega⟩
    have hsc := HRES.out
    rw [scanV] at hsc
    cases hv : isV d with
    | false =>
      rw [hv, if_neg (by decide)] at hsc
      have HV := Aside0.mk ((is_val d).trans (congrArg some hv))
      obtain ⟨rfl⟩ : res = (0, 15) := hsc.symm
      clear hv HRES hsc
      go_wp2_with (go_at_call 34; (with_reducible refine (workday_is.calls d false _ HV.out).mono ?_); rintro e w4 ⟨rfl, hd⟩; have HB4 := Aside0.mk (below_step HB.out hd.below); clear hd)
      go_ret2
      exact ⟨rfl, HB4.out⟩
    | true =>
      rw [hv, if_pos rfl] at hsc
      have HV := Aside0.mk ((is_val d).trans (congrArg some hv))
      have hd2 : 0 ≤ d ∧ d ≤ 73048 := by unfold isV at hv; simpa using hv
      obtain ⟨hd2, hd3⟩ := hd2
      have HWD := Aside0.mk (fun (W : World) => HW.out W d g1 g2)
      clear hv HRES
      cases hb : workV l0 d with
      | true =>
        rw [hb] at HWD
        rw [hb, if_pos rfl] at hsc
        subst hsc
        clear hb
        go_wp2_with (go_at_call 34; (with_reducible refine (workday_is.calls d true _ HV.out).mono ?_); rintro e w4 ⟨rfl, hd⟩; have HB4 := Aside0.mk (below_step HB.out hd.below); have H14 := Aside0.mk (blk_below H1.out hd.below); have H24 := Aside0.mk (blk_below H2.out hd.below); clear hd)
        refine (HWD.out _ HB4.out H14.out H24.out).mono ?_
        rintro e w5 ⟨rfl, hb⟩
        have HB5 := Aside0.mk (below_step HB4.out hb)
        clear hb
        go_wp2
        go_ret2
        exact ⟨rfl, HB5.out⟩
      | false =>
        rw [hb] at HWD
        rw [hb, if_neg (by decide)] at hsc
        have HSC := Aside0.mk hsc
        clear hb hsc
        go_wp2_with (go_at_call 34; (with_reducible refine (workday_is.calls d true _ HV.out).mono ?_); rintro e w4 ⟨rfl, hd⟩; have HB4 := Aside0.mk (below_step HB.out hd.below); have H14 := Aside0.mk (blk_below H1.out hd.below); have H24 := Aside0.mk (blk_below H2.out hd.below); clear hd)
        refine (HWD.out _ HB4.out H14.out H24.out).mono ?_
        rintro e w5 ⟨rfl, hb⟩
        have HB5 := Aside0.mk (below_step HB4.out hb)
        have H15 := Aside0.mk (blk_below H14.out hb)
        have H25 := Aside0.mk (blk_below H24.out hb)
        clear hb HB H1 H2 HB4 H14 H24
        go_wp2
        go_roundw
        case measure =>
          show (if a2 = 1 then (73050 - (d + a2)).toNat else (d + a2 + 1).toNat) < (if a2 = 1 then (73050 - d).toNat else (d + 1).toNat)
          rcases HA.out with h | h
          · rw [if_pos h, if_pos h]; omega
          · rw [if_neg (by omega), if_neg (by omega)]; omega
        case rel => exact ⟨f, d + a2, by omega, by omega, by omega, rfl, ⟨by have := HF.out; have := HA.out; omega⟩, HSC, H15, H25, HB5⟩
set_option maxHeartbeats 4000000 in
set_option maxRecDepth 100000 in
theorem step_bad (A0 : Option Addr) (c0 : Nat) (l0 : List Int) (a1 a2 : Int) (w : World) (hr0 : Kd.C (Kd.int .i64) w A0 l0.length l0) (hc0 : l0.length ≤ c0) (hz : ¬ chk2 l0 [a1] = 0) :
    Calls Tryd.prog 32 #[.slice A0 l0.length c0, .int .i64 a1, .int .i64 a2] w fun e w' => e = .returned (.tuple #[.int .i64 0, .int .i64 (chk2 l0 [a1])]) ∧ Below w.heap.size w w' := by
  obtain ⟨k, hk⟩ := chk2_val l0 [a1] (by simp)
  have hcall : ∀ W : World, Below w.heap.size w W → Calls Tryd.prog 29 #[.slice A0 l0.length c0, .slice (some ⟨W.heap.size, 0, none⟩) 1 1] (W.alloc (.cells #[.int .i64 a1] 3)) fun e w' => e = .returned (.int .i64 (chk2 l0 [a1])) ∧ Drawn0 (W.alloc (.cells #[.int .i64 a1] 3)) w' := fun W hB =>
    workday_check.calls k A0 c0 l0 (some ⟨W.heap.size, 0, none⟩) 1 [a1] _ _ (Kd.C_below hr0 (below_alloc hB _)) hc0 (rowC [a1] W.heap.size _ (by simp) (blk_new W _)) (Nat.le_refl _) hk
  have HCALL := Aside0.mk hcall
  have dz : (chk2 l0 [a1] != 0) = true := bne_iff_ne.2 hz
  generalize chk2 l0 [a1] = e0 at *
  clear hr0 hz hcall hk
  go_enter Tryd.func32, Tryd.ntmps32
  go_wp2_with (go_at_call 29; (with_reducible refine (HCALL.out _ (Below.refl _ _)).mono ?_); rintro e w2 ⟨rfl, hd⟩; have HB := Aside0.mk (below_step (below_alloc (Below.refl _ _) _) hd.below); clear hd)
  go_ret2
  exact ⟨rfl, HB.out⟩
theorem workday_step.calls (A0 : Option Addr) (c0 : Nat) (l0 : List Int) (a1 a2 r1 r2 : Int) (w : World) (hr0 : Kd.C (Kd.int .i64) w A0 l0.length l0) (hc0 : l0.length ≤ c0) (h : workday_step.f l0 a1 a2 = some (r1, r2)) :
    Calls Tryd.prog 32 #[.slice A0 l0.length c0, .int .i64 a1, .int .i64 a2] w fun e w' => e = .returned (.tuple #[.int .i64 r1, .int .i64 r2]) ∧ Below w.heap.size w w' := by
  unfold workday_step.f at h
  by_cases ha : a2 = 1 ∨ a2 = -1
  · rw [if_pos ha] at h
    have h := Option.some.inj h
    by_cases hz : chk2 l0 [a1] = 0
    · rw [if_pos hz] at h
      have := step_good A0 c0 l0 a1 a2 w hr0 hc0 ha hz
      rw [h] at this
      exact this
    · rw [if_neg hz] at h
      simp only [Prod.mk.injEq] at h
      obtain ⟨rfl, rfl⟩ := h
      exact step_bad A0 c0 l0 a1 a2 w hr0 hc0 hz
  · rw [if_neg ha] at h; cases h

/-! ### workday_Before: function 15 -/
def workday_Before.f (l0 : List Int) (a1 : Int) : Option (Int × Int) := (workday_step.f l0 a1 (-1)).bind fun bt116 => (some (bt116.1, bt116.2))
set_option maxHeartbeats 8000000 in
set_option maxRecDepth 100000 in
theorem workday_Before.calls (A0 : Option Addr) (c0 : Nat) (l0 : List Int) (a1 : Int) (r1 : Int) (r2 : Int) (w : World) (hr0 : Kd.C (Kd.int .i64) w A0 l0.length l0) (hc0 : l0.length ≤ c0) (h : workday_Before.f l0 a1 = some (r1, r2)) :
    Calls Tryd.prog 15 #[.slice A0 l0.length c0, .int .i64 a1] w fun e w' => e = .returned (.tuple #[.int .i64 r1, .int .i64 r2]) ∧ Below w.heap.size w w' := by
  have HR0 := Aside0.mk hr0
  have HC0 := Aside0.mk hc0
  clear hr0 hc0
  have HB := Aside0.mk (Below.refl w.heap.size w)
  have H : ((workday_step.f l0 a1 (-1)).bind fun bt116 => (some (bt116.1, bt116.2))) = some (r1, r2) := h
  clear h
  replace H := Option.bind_eq_some_iff.mp H
  obtain ⟨⟨t116, t117⟩, A30, H⟩ := H
  replace H : (some (t116, t117)) = some (r1, r2) := H
  have A3 := Aside0.mk A30
  clear A30
  simp only [Option.some.injEq, Prod.mk.injEq] at H
  obtain ⟨rfl, rfl⟩ := H
  go_enter Tryd.func15, Tryd.ntmps15
  go_wp2_with (first | ((with_reducible refine gate_callee (f := 32) rfl ?_); refine goesL_ (some 8) rfl rfl Tryd.func32 (by kernel_rfl) rfl #[.slice A0 l0.length c0, .int .i64 a1, .int .i64 (-1)] rfl (by (try simp only [List.map_toArray, List.map_cons, List.map_nil]); first | done | rfl | (simp only [List.length_drop, List.length_take]; rfl)) ?_; (with_reducible refine (workday_step.calls _ _ l0 a1 (-1) t116 t117 _ ?side1 ?side2 A3.out).mono ?_); (case side1 => repeat (first | exact HR0.out | (with_reducible refine Kd.C_alloc ?_ _) | (with_reducible refine Kd.C_drewN ?_ _) | (with_reducible refine Kd.C_drew ?_))); (case side2 => exact HC0.out); rintro e w4 ⟨rfl, hb⟩; refine ⟨_, rfl, ?_⟩; have n0_ := Aside0.mk (below_step (by repeat (first | (with_reducible first | exact HB.out | apply below_alloc | apply pw_below_drewN | apply below_drew1) | exact HB.out)) hb); clear HB; have HB := n0_; clear n0_; (try clear hb); (try clear hb2); (try clear hk); (try clear hi)))
  go_ret2
  exact ⟨by first | rfl | (simp [errW_none, errW_some] <;> rfl) | (simp [*, errW_none, errW_some] <;> rfl), by repeat (first | (with_reducible first | exact HB.out | apply below_alloc | apply pw_below_drewN | apply below_drew1) | exact HB.out)⟩

/-! ### date_Leap: function 51 -/
def date_Leap.f (a0 : Int) : Option (Bool) := if (Int.tmod a0 4) = 0 then (if (Int.tmod a0 100) = 0 then (some ((Int.tmod a0 400) == 0)) else (some true)) else (some ((Int.tmod a0 400) == 0))
set_option maxHeartbeats 8000000 in
set_option maxRecDepth 100000 in
theorem date_Leap.calls (a0 : Int) (r : Bool) (w : World) (h : date_Leap.f a0 = some r) :
    Calls Tryd.prog 51 #[.int .i64 a0] w fun e w' => e = .returned (.bool r) ∧ Drawn0 w w' := by
  have H : (if (Int.tmod a0 4) = 0 then (if (Int.tmod a0 100) = 0 then (some ((Int.tmod a0 400) == 0)) else (some true)) else (some ((Int.tmod a0 400) == 0))) = some r := h
  clear h
  by_cases c2 : (Int.tmod a0 4) = 0
  · rw [if_pos c2] at H
    have c2b0 : ((Int.tmod a0 4) == 0) = true := beq_iff_eq.mpr c2
    have c2b1 : ((Int.tmod a0 4) != 0) = false := bne_eq_false_iff_eq.mpr c2
    clear c2
    by_cases c3 : (Int.tmod a0 100) = 0
    · rw [if_pos c3] at H
      have c3b0 : ((Int.tmod a0 100) == 0) = true := beq_iff_eq.mpr c3
      have c3b1 : ((Int.tmod a0 100) != 0) = false := bne_eq_false_iff_eq.mpr c3
      clear c3
      obtain rfl := Option.some.inj H
      go_enter Tryd.func51, Tryd.ntmps51
      go_wp2
      go_ret
      exact ⟨by first | rfl | (simp; done) | (simp [*]; done), by repeat (first | exact Drawn0.refl _ | apply Drawn0.step)⟩
    · rw [if_neg c3] at H
      have c3b0 : ((Int.tmod a0 100) == 0) = false := beq_eq_false_iff_ne.mpr c3
      have c3b1 : ((Int.tmod a0 100) != 0) = true := bne_iff_ne.mpr c3
      obtain rfl := Option.some.inj H
      go_enter Tryd.func51, Tryd.ntmps51
      go_wp2
      go_ret
      exact ⟨by first | rfl | (simp; done) | (simp [*]; done), by repeat (first | exact Drawn0.refl _ | apply Drawn0.step)⟩
  · rw [if_neg c2] at H
    have c2b0 : ((Int.tmod a0 4) == 0) = false := beq_eq_false_iff_ne.mpr c2
    have c2b1 : ((Int.tmod a0 4) != 0) = true := bne_iff_ne.mpr c2
    obtain rfl := Option.some.inj H
    go_enter Tryd.func51, Tryd.ntmps51
    go_wp2
    go_ret
    exact ⟨by first | rfl | (simp; done) | (simp [*]; done), by repeat (first | exact Drawn0.refl _ | apply Drawn0.step)⟩

-- NOT PRINTED: function 52 (date_month_1)

-- NOT PRINTED: function 46 (date_month)

/-! ### date_Days: function 44 -/
def longL : List Int := [0, 31, 28, 31, 30, 31, 30, 31, 31, 30, 31, 30, 31]
def LongAt (w : World) : Prop := ∀ j : Nat, j < 13 → w.cell? ⟨0, j, none⟩ = some (.int .i64 (longL.getD j 0))
theorem LongAt.below {w w' : World} (h : LongAt w) (hb : Below w.heap.size w w') : LongAt w' := fun j hj => (hb.cell (World.block_lt_of_cell? _ _ (h j hj))).trans (h j hj)
theorem LongAt.drewN {w : World} (h : LongAt w) (n : Nat) : LongAt (w.drewN n) := h.below (pw_below_drewN (Below.refl _ _) n)
theorem LongAt.drew {w : World} (h : LongAt w) : LongAt w.drew := h.below (below_drew (Below.refl _ _))
theorem LongAt.alloc {w : World} (h : LongAt w) (o : Obj) : LongAt (w.alloc o) := h.below (below_alloc (Below.refl _ _) o)
theorem LongAt.aside {w : World} (h : Aside0 (LongAt w)) : LongAt w := h.out
theorem LongAt.after {w w' : World} (h : LongAt w) (hb : Aside0 (Below w.heap.size w w')) : LongAt w' := h.below hb.out
def leapV (y : Int) : Bool := (date_Leap.f y).getD false
theorem leap_val (y : Int) : date_Leap.f y = some (leapV y) := by
  unfold leapV date_Leap.f
  split
  · split <;> rfl
  · rfl
def dl (b : Bool) (m : Int) : Int := if m = 2 ∧ b = true then 29 else longL.getD m.toNat 0
def dlen (y m : Int) : Int := if m < 1 ∨ m > 12 then 0 else dl (leapV y) m
def date_Days.f (a0 a1 : Int) : Option Int := some (dlen a0 a1)
set_option maxHeartbeats 4000000 in
set_option maxRecDepth 100000 in
theorem month_any (y : Int) (w : World) :
    Calls Tryd.prog 46 #[.int .i64 y] w fun e w' => ∃ gt : Nat, e = .returned (.func (.func 52) #[] #[.pointer (some ⟨gt, 0, none⟩)]) ∧ w.heap.size ≤ gt ∧ w'.heap[gt]? = some (.cells #[.bool (leapV y)] 4 (0, 0)) ∧ Below w.heap.size w w' := by
  have hmf : ∀ (fn : Fn) (first cap : Array Value) (w : World), (Instr.makeFunc fn first cap).run Tryd.prog w = .ok (.func fn first cap) w := fun _ _ _ _ => rfl
  have HL := Aside0.mk (leap_val y)
  generalize leapV y = b at *
  go_enter Tryd.func46, Tryd.ntmps46
  go_wp2_with (go_at_call 51; (with_reducible refine (date_Leap.calls y b _ HL.out).mono ?_); rintro e w' ⟨rfl, hd⟩; have HD := Aside0.mk hd; clear hd)
  go_ret
  exact ⟨_, rfl, HD.out.below.size, blk_new _ _, below_alloc HD.out.below _⟩
set_option maxHeartbeats 4000000 in
set_option maxRecDepth 100000 in
theorem month1_any (m : Int) (b : Bool) (gt : Nat) (w : World) (hm : 1 ≤ m) (hm2 : m ≤ 12) (hL : LongAt w) (hg : w.heap[gt]? = some (.cells #[.bool b] 4 (0, 0))) :
    Calls Tryd.prog 52 #[.int .i64 m, .pointer (some ⟨gt, 0, none⟩)] w fun e w' => e = .returned (.int .i64 (dl b m)) ∧ Below w.heap.size w w' := by
  have hc := blk_cell hg 0
  have hcx : w.cell? ⟨gt, 0, none⟩ = some (.bool b) := hc.trans rfl
  have hl := hL m.toNat (by omega)
  clear hc hg hL
  by_cases h2 : m = 2 ∧ b = true
  · obtain ⟨rfl, rfl⟩ := h2
    rw [show dl true 2 = 29 from rfl]
    clear hl
    go_enter Tryd.func52, Tryd.ntmps52
    go_wp2
    go_ret
    exact ⟨rfl, by first | exact Below.refl _ _ | exact pw_below_drewN (Below.refl _ _) _⟩
  · rw [show dl b m = longL.getD m.toNat 0 from if_neg h2]
    generalize longL.getD m.toNat 0 = v at *
    by_cases h3 : m = 2
    · subst h3
      have hb : b = false := by cases b <;> simp_all
      subst hb
      have hl2 : w.cell? ⟨0, 2, none⟩ = some (.int .i64 v) := hl
      clear h2 hl
      go_enter Tryd.func52, Tryd.ntmps52
      go_wp2
      go_ret
      exact ⟨rfl, by first | exact Below.refl _ _ | exact pw_below_drewN (Below.refl _ _) _⟩
    · have h4 : (m == 2) = false := beq_eq_false_iff_ne.2 h3
      clear h2 h3
      go_enter Tryd.func52, Tryd.ntmps52
      go_wp2
      go_ret
      exact ⟨rfl, by first | exact Below.refl _ _ | exact pw_below_drewN (Below.refl _ _) _⟩

set_option maxHeartbeats 4000000 in
set_option maxRecDepth 100000 in
theorem days_in (y m : Int) (w : World) (hm : 1 ≤ m) (hm2 : m ≤ 12) (hL : LongAt w) :
    Calls Tryd.prog 44 #[.int .i64 y, .int .i64 m] w fun e w' => e = .returned (.int .i64 (dl (leapV y) m)) ∧ Below w.heap.size w w' := by
  have d1 : decide (m < 1) = false := decide_eq_false (by omega)
  have d2 : decide (12 < m) = false := decide_eq_false (by omega)
  have HL := Aside0.mk hL
  have H1 := Aside0.mk hm
  have H2 := Aside0.mk hm2
  clear hL hm hm2
  go_enter Tryd.func44, Tryd.ntmps44
  go_wp2_with fail
  refine (month_any y _).mono ?_
  rintro e w1 ⟨gt, rfl, hg0, hgt, hb⟩
  have HB := Aside0.mk hb
  have HG := Aside0.mk hgt
  clear hb hgt hg0
  go_wp2_with fail
  refine (month1_any m (leapV y) gt _ H1.out H2.out (HL.out.below HB.out) HG.out).mono ?_
  rintro e w2 ⟨rfl, hb⟩
  have HB2 := Aside0.mk (below_step HB.out hb)
  clear hb
  go_wp2
  go_ret
  exact ⟨rfl, HB2.out⟩
set_option maxHeartbeats 4000000 in
set_option maxRecDepth 100000 in
theorem days_out (y m : Int) (w : World) (h : m < 1 ∨ m > 12) :
    Calls Tryd.prog 44 #[.int .i64 y, .int .i64 m] w fun e w' => e = .returned (.int .i64 0) ∧ Below w.heap.size w w' := by
  by_cases h1 : m < 1
  · have d1 : decide (m < 1) = true := decide_eq_true h1
    clear h h1
    go_enter Tryd.func44, Tryd.ntmps44
    go_wp2_with fail
    go_ret
    exact ⟨rfl, Below.refl _ _⟩
  · have d1 : decide (m < 1) = false := decide_eq_false h1
    have d2 : decide (12 < m) = true := decide_eq_true (by omega)
    clear h h1
    go_enter Tryd.func44, Tryd.ntmps44
    go_wp2_with fail
    go_ret
    exact ⟨rfl, Below.refl _ _⟩
theorem date_Days.calls (a0 a1 r : Int) (w : World) (hL : LongAt w) (h : date_Days.f a0 a1 = some r) :
    Calls Tryd.prog 44 #[.int .i64 a0, .int .i64 a1] w fun e w' => e = .returned (.int .i64 r) ∧ Below w.heap.size w w' := by
  unfold date_Days.f dlen at h
  obtain rfl := Option.some.inj h
  by_cases hm : a1 < 1 ∨ a1 > 12
  · rw [if_pos hm]; exact days_out a0 a1 w hm
  · rw [if_neg hm]; exact days_in a0 a1 w (by omega) (by omega) hL

-- NOT PRINTED: function 50 (date_start_1)

-- NOT PRINTED: function 45 (date_start)

end Go.Proofs.YtgcefakbbmgbbaaDoor.PTopExpiry
-- HLONG: seen
