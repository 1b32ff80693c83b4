/- Laid for this claim by a program of this session's (wip/mkprint.py, wip/ext.py); not trusted: Lean checks it. -/
import Derived.Test.YtpieipeppanahaaPPhaseRoundx0
namespace Go.Proofs.Ytpieipeppanahaa.PPhaseRound
open Go.RowKit Go.Proofs.YtpieipeppanahaaW.PrintWords Go.Proofs.YtpieipeppanahaaW.PrintLast Go.Proofs.YtpieipeppanahaaW.PrintMore
attribute [local go_sem] max2_int min2_int max_two min_two max_three min_three max_four min_four   -- for this text's walks alone
set_option linter.unusedVariables false
set_option linter.unusedSimpArgs false

/-! ### phase_Right: function 10 -/
def phase_Right.f (a0 : Int) : Option (Bool) := if a0 ≥ 1 then (some (decide (a0 ≤ 6))) else (some false)
set_option maxHeartbeats 8000000 in
set_option maxRecDepth 100000 in
theorem phase_Right.calls (a0 : Int) (r : Bool) (w : World) (h : phase_Right.f a0 = some r) :
    Calls Try.prog 10 #[.int .i64 a0] w fun e w' => e = .returned (.bool r) ∧ Drawn0 w w' := by
  have H : (if a0 ≥ 1 then (some (decide (a0 ≤ 6))) else (some false)) = some r := h
  clear h
  by_cases c2 : a0 ≥ 1
  · rw [if_pos c2] at H
    have c2b0 : decide (1 ≤ a0) = true := decide_eq_true c2
    clear c2
    obtain rfl := Option.some.inj H
    go_enter Try.func10, Try.ntmps10
    go_wp2
    go_ret
    exact ⟨by first | rfl | (simp; done) | (simp [*]; done), by repeat (first | exact Drawn0.refl _ | apply Drawn0.step)⟩
  · rw [if_neg c2] at H
    have c2b0 : decide (1 ≤ a0) = false := decide_eq_false c2
    clear c2
    obtain rfl := Option.some.inj H
    go_enter Try.func10, Try.ntmps10
    go_wp2
    go_ret
    exact ⟨by first | rfl | (simp; done) | (simp [*]; done), by repeat (first | exact Drawn0.refl _ | apply Drawn0.step)⟩

/-! ### phase_Next: function 8 -/
def phase_Next.f (a0 : Int) : Option (Int × Int) := (phase_Right.f a0).bind fun t101 => (if t101 = true then (if a0 = 6 then (some (1, 0)) else (some (wrap64 (a0 + 1), 0))) else (some (0, 14)))
set_option maxHeartbeats 8000000 in
set_option maxRecDepth 100000 in
theorem phase_Next.calls (a0 : Int) (r1 : Int) (r2 : Int) (w : World) (h : phase_Next.f a0 = some (r1, r2)) :
    Calls Try.prog 8 #[.int .i64 a0] w fun e w' => e = .returned (.tuple #[.int .i64 r1, .int .i64 r2]) ∧ Drawn0 w w' := by
  have H : ((phase_Right.f a0).bind fun t101 => (if t101 = true then (if a0 = 6 then (some (1, 0)) else (some (wrap64 (a0 + 1), 0))) else (some (0, 14)))) = some (r1, r2) := h
  clear h
  replace H := Option.bind_eq_some_iff.mp H
  obtain ⟨t101, A20, H⟩ := H
  replace H : (if t101 = true then (if a0 = 6 then (some (1, 0)) else (some (wrap64 (a0 + 1), 0))) else (some (0, 14))) = some (r1, r2) := H
  have A2 := Aside0.mk A20
  clear A20
  by_cases c3 : t101 = true
  · subst c3
    have H1 : (if a0 = 6 then (some (1, 0)) else (some (wrap64 (a0 + 1), 0))) = some (r1, r2) := by rw [if_pos rfl] at H; exact H
    clear H
    have H := H1
    clear H1
    by_cases c4 : a0 = 6
    · rw [if_pos c4] at H
      have c4b0 : (a0 == 6) = true := beq_iff_eq.mpr c4
      have c4b1 : (a0 != 6) = false := bne_eq_false_iff_eq.mpr c4
      clear c4
      simp only [Option.some.injEq, Prod.mk.injEq] at H
      obtain ⟨rfl, rfl⟩ := H
      go_enter Try.func8, Try.ntmps8
      go_wp2_with (first | ((with_reducible refine gate_callee (f := 10) rfl ?_); refine goesL_ (some 6) rfl rfl Try.func10 (by kernel_rfl) rfl #[.int .i64 a0] rfl (by (try simp only [List.map_toArray, List.map_cons, List.map_nil]); first | done | rfl | (simp only [List.length_drop, List.length_take]; rfl)) ?_; (with_reducible refine (phase_Right.calls a0 true _ A2.out).mono ?_); rintro e w' ⟨rfl, ⟨nd, rfl⟩⟩; refine ⟨_, rfl, ?_⟩))
      go_ret2
      exact ⟨by first | rfl | (simp; done) | (simp [*]; done), by repeat (first | exact Drawn0.refl _ | apply Drawn0.step)⟩
    · rw [if_neg c4] at H
      have c4b0 : (a0 == 6) = false := beq_eq_false_iff_ne.mpr c4
      have c4b1 : (a0 != 6) = true := bne_iff_ne.mpr c4
      simp only [Option.some.injEq, Prod.mk.injEq] at H
      obtain ⟨rfl, rfl⟩ := H
      go_enter Try.func8, Try.ntmps8
      go_wp2_with (first | ((with_reducible refine gate_callee (f := 10) rfl ?_); refine goesL_ (some 6) rfl rfl Try.func10 (by kernel_rfl) rfl #[.int .i64 a0] rfl (by (try simp only [List.map_toArray, List.map_cons, List.map_nil]); first | done | rfl | (simp only [List.length_drop, List.length_take]; rfl)) ?_; (with_reducible refine (phase_Right.calls a0 true _ A2.out).mono ?_); rintro e w' ⟨rfl, ⟨nd, rfl⟩⟩; refine ⟨_, rfl, ?_⟩))
      go_ret2
      exact ⟨by first | rfl | (simp; done) | (simp [*]; done), by repeat (first | exact Drawn0.refl _ | apply Drawn0.step)⟩
  · replace c3 := Bool.eq_false_iff.mpr c3
    subst c3
    have H1 : (some (0, 14)) = some (r1, r2) := by rw [if_neg (show ¬ (false = true) by decide)] at H; exact H
    clear H
    have H := H1
    clear H1
    simp only [Option.some.injEq, Prod.mk.injEq] at H
    obtain ⟨rfl, rfl⟩ := H
    go_enter Try.func8, Try.ntmps8
    go_wp2_with (first | ((with_reducible refine gate_callee (f := 10) rfl ?_); refine goesL_ (some 6) rfl rfl Try.func10 (by kernel_rfl) rfl #[.int .i64 a0] rfl (by (try simp only [List.map_toArray, List.map_cons, List.map_nil]); first | done | rfl | (simp only [List.length_drop, List.length_take]; rfl)) ?_; (with_reducible refine (phase_Right.calls a0 false _ A2.out).mono ?_); rintro e w' ⟨rfl, ⟨nd, rfl⟩⟩; refine ⟨_, rfl, ?_⟩))
    go_ret2
    exact ⟨by first | rfl | (simp; done) | (simp [*]; done), by repeat (first | exact Drawn0.refl _ | apply Drawn0.step)⟩

/-! ### phase_Ahead: function 12 -/
def phase_Ahead.f (a0 : Int) (a1 : Int) : Option (Bool) := (phase_Right.f a0).bind fun t102 => (if t102 = true then ((phase_Right.f a1).bind fun t103 => (if t103 = true then (some (decide (a0 < a1))) else (some false))) else (some false))
set_option maxHeartbeats 8000000 in
set_option maxRecDepth 100000 in
theorem phase_Ahead.calls (a0 : Int) (a1 : Int) (r : Bool) (w : World) (h : phase_Ahead.f a0 a1 = some r) :
    Calls Try.prog 12 #[.int .i64 a0, .int .i64 a1] w fun e w' => e = .returned (.bool r) ∧ Drawn0 w w' := by
  have H : ((phase_Right.f a0).bind fun t102 => (if t102 = true then ((phase_Right.f a1).bind fun t103 => (if t103 = true then (some (decide (a0 < a1))) else (some false))) else (some false))) = some r := h
  clear h
  replace H := Option.bind_eq_some_iff.mp H
  obtain ⟨t102, A30, H⟩ := H
  replace H : (if t102 = true then ((phase_Right.f a1).bind fun t103 => (if t103 = true then (some (decide (a0 < a1))) else (some false))) else (some false)) = some r := H
  have A3 := Aside0.mk A30
  clear A30
  by_cases c4 : t102 = true
  · subst c4
    have H1 : ((phase_Right.f a1).bind fun t103 => (if t103 = true then (some (decide (a0 < a1))) else (some false))) = some r := by rw [if_pos rfl] at H; exact H
    clear H
    have H := H1
    clear H1
    replace H := Option.bind_eq_some_iff.mp H
    obtain ⟨t103, A50, H⟩ := H
    replace H : (if t103 = true then (some (decide (a0 < a1))) else (some false)) = some r := H
    have A5 := Aside0.mk A50
    clear A50
    by_cases c6 : t103 = true
    · subst c6
      have H1 : (some (decide (a0 < a1))) = some r := by rw [if_pos rfl] at H; exact H
      clear H
      have H := H1
      clear H1
      obtain rfl := Option.some.inj H
      go_enter Try.func12, Try.ntmps12
      go_wp2_with (first | ((with_reducible refine gate_callee (f := 10) rfl ?_); refine goesL_ (some 6) rfl rfl Try.func10 (by kernel_rfl) rfl #[.int .i64 a0] rfl (by (try simp only [List.map_toArray, List.map_cons, List.map_nil]); first | done | rfl | (simp only [List.length_drop, List.length_take]; rfl)) ?_; (with_reducible refine (phase_Right.calls a0 true _ A3.out).mono ?_); rintro e w' ⟨rfl, ⟨nd, rfl⟩⟩; refine ⟨_, rfl, ?_⟩) | (go_at_call 10; (with_reducible refine (phase_Right.calls a1 true _ A5.out).mono ?_); rintro e w' ⟨rfl, ⟨nd, rfl⟩⟩))
      go_ret
      exact ⟨by first | rfl | (simp; done) | (simp [*]; done), by repeat (first | exact Drawn0.refl _ | apply Drawn0.step)⟩
    · replace c6 := Bool.eq_false_iff.mpr c6
      subst c6
      have H1 : (some false) = some r := by rw [if_neg (show ¬ (false = true) by decide)] at H; exact H
      clear H
      have H := H1
      clear H1
      obtain rfl := Option.some.inj H
      go_enter Try.func12, Try.ntmps12
      go_wp2_with (first | ((with_reducible refine gate_callee (f := 10) rfl ?_); refine goesL_ (some 6) rfl rfl Try.func10 (by kernel_rfl) rfl #[.int .i64 a0] rfl (by (try simp only [List.map_toArray, List.map_cons, List.map_nil]); first | done | rfl | (simp only [List.length_drop, List.length_take]; rfl)) ?_; (with_reducible refine (phase_Right.calls a0 true _ A3.out).mono ?_); rintro e w' ⟨rfl, ⟨nd, rfl⟩⟩; refine ⟨_, rfl, ?_⟩) | (go_at_call 10; (with_reducible refine (phase_Right.calls a1 false _ A5.out).mono ?_); rintro e w' ⟨rfl, ⟨nd, rfl⟩⟩))
      go_ret
      exact ⟨by first | rfl | (simp; done) | (simp [*]; done), by repeat (first | exact Drawn0.refl _ | apply Drawn0.step)⟩
  · replace c4 := Bool.eq_false_iff.mpr c4
    subst c4
    have H1 : (some false) = some r := by rw [if_neg (show ¬ (false = true) by decide)] at H; exact H
    clear H
    have H := H1
    clear H1
    obtain rfl := Option.some.inj H
    go_enter Try.func12, Try.ntmps12
    go_wp2_with (first | ((with_reducible refine gate_callee (f := 10) rfl ?_); refine goesL_ (some 6) rfl rfl Try.func10 (by kernel_rfl) rfl #[.int .i64 a0] rfl (by (try simp only [List.map_toArray, List.map_cons, List.map_nil]); first | done | rfl | (simp only [List.length_drop, List.length_take]; rfl)) ?_; (with_reducible refine (phase_Right.calls a0 false _ A3.out).mono ?_); rintro e w' ⟨rfl, ⟨nd, rfl⟩⟩; refine ⟨_, rfl, ?_⟩))
    go_ret
    exact ⟨by first | rfl | (simp; done) | (simp [*]; done), by repeat (first | exact Drawn0.refl _ | apply Drawn0.step)⟩

-- NOT PRINTED: function 26 (phase_acts_1)

/-! ### phase_acts: function 24 -/
def orAll (s : Int) : List Int → Int
  | [] => s
  | a :: l => orAll (Go.bits .or .u64 s (IntKind.u64.wrap (2 ^ a.toNat))) l
theorem orAll_snoc (l : List Int) (a : Int) : ∀ s, orAll s (l ++ [a]) = Go.bits .or .u64 (orAll s l) (IntKind.u64.wrap (2 ^ a.toNat)) := by
  induction l with
  | nil => intro s; rfl
  | cons x l ih => intro s; simp only [List.cons_append, orAll, ih]
set_option maxHeartbeats 1000000 in
set_option maxRecDepth 100000 in
theorem acts1 (g b : Nat) (l : List Int) (s : Int) (w : World) (hb : g < b) (hl : l.length ≤ 1000) (hg : w.heap[g]? = some (.cells #[.int .u64 s] 37 (0, 0))) (hr : ∀ j, j < l.length → w.cell? ⟨b, j, none⟩ = some (.int .i64 (l.getD j 0))) (hp : ∀ a ∈ l, 0 ≤ a ∧ a ≤ 60) :
    Calls Try.prog 26 #[.slice (some ⟨b, 0, none⟩) l.length l.length, .pointer (some ⟨g, 0, none⟩)] w fun e w' => e = .returned (.tuple #[]) ∧ w'.heap[g]? = some (.cells #[.int .u64 (orAll s l)] 37 (0, 0)) ∧ Below g w w' := by
  have HR := Aside0.mk hr
  have HP := Aside0.mk hp
  have HG := Aside0.mk hg
  clear hr hp hg
  go_enter Try.func26, Try.ntmps26
  go_wp2_with fail
  go_loopw [7] (fun v7 wr => ∃ k : Nat, k ≤ l.length ∧ v7 = .int .i64 k ∧ Aside0 (wr.heap[g]? = some (.cells #[.int .u64 (orAll s (l.take k))] 37 (0, 0))) ∧ Aside0 (∀ j, j < l.length → wr.cell? ⟨b, j, none⟩ = some (.int .i64 (l.getD j 0))) ∧ Aside0 (Below g w wr)) (fun v7 _ => l.length - (intOf v7).toNat)
  case atStart => exact ⟨0, by omega, rfl, ⟨by rw [List.take_zero]; exact HG.out⟩, HR, ⟨Below.refl _ _⟩⟩
  case round =>
    obtain ⟨k, hk, rfl, hh, hrr, hbb⟩ := hrel
    by_cases hlt : k < l.length
    · have hc := hrr.out k hlt
      have hgc : wr.cell? ⟨g, 0, none⟩ = some (.int .u64 (orAll s (l.take k))) := by rw [blk_cell hh.out 0]; rfl
      have hgf : wr.frozen? ⟨g, 0, none⟩ = false := blk_frozen hh.out 0
      obtain ⟨h0, h1⟩ := HP.out (l.getD k 0) (by rw [List.getD_eq_getElem?_getD, List.getElem?_eq_getElem hlt]; simp)
      have hsn : orAll s (l.take (k+1)) = Go.bits .or .u64 (orAll s (l.take k)) (IntKind.u64.wrap (2 ^ (l.getD k 0).toNat)) := by
        rw [List.take_succ_eq_append_getElem hlt, orAll_snoc]; simp [List.getD_eq_getElem?_getD, List.getElem?_eq_getElem hlt]
      have HS := Aside0.mk hsn
      clear hsn
      generalize l.getD k 0 = a at *
      go_wp2
      go_region
      all_goals go_wp2
      all_goals go_roundw
      all_goals first
      | (show _ < _; simp [intOf]; omega)
      | exact ⟨k + 1, by omega, by go_num, ⟨by rw [HS.out]; exact blk_drew (by have := blk_set hh.out 0 (.int .u64 (Go.bits .or .u64 (orAll s (l.take k)) (IntKind.u64.wrap (2 ^ a.toNat)))); simpa using this)⟩, ⟨fun j hj => by rw [← hrr.out j hj]; show World.cell? (World.setCell _ _ _) _ = _; rw [World.cell?_of_block (w := wr) (Below.heap_setCell _ _ _ _ (by simp; omega))]⟩, ⟨below_drew (hbb.out.setCell (Nat.le_refl _) _)⟩⟩
    · have : k = l.length := by omega
      subst this
      go_wp2
      go_end0
      exact ⟨rfl, by have := hh.out; rwa [List.take_length] at this, hbb.out⟩
set_option maxHeartbeats 1000000 in
set_option maxRecDepth 100000 in
theorem acts_p2 (w : World) : Calls Try.prog 24 #[.int .i64 2] w fun e w' => e = .returned (.int .u64 1308) ∧ Below w.heap.size w w' := by
  have hmf : ∀ (fn : Fn) (first cap : Array Value) (w : World), (Instr.makeFunc fn first cap).run Try.prog w = .ok (.func fn first cap) w := fun _ _ _ _ => rfl
  go_enter Try.func24, Try.ntmps24
  go_wp2_with fail
  refine (acts1 w.heap.size (w.heap.size + 1) [2, 3, 4, 8, 10] 0 _ (by omega) (by simp) (blk_alloc (blk_new _ _) _) ?_ (by simp)).mono ?_
  · intro j hj
    match j, hj with
    | 0, _ => simp
    | 1, _ => simp
    | 2, _ => simp
    | 3, _ => simp
    | 4, _ => simp
    | j + 5, hj => simp at hj; omega
  rintro e w1 ⟨rfl, h1, h2⟩
  have c1 : w1.cell? ⟨w.heap.size, 0, none⟩ = some (.int .u64 1308) := by rw [blk_cell h1 0]; rfl
  have f1 : w1.frozen? ⟨w.heap.size, 0, none⟩ = false := blk_frozen h1 0
  clear h1
  go_wp2
  refine bodyPost_ret (v := .int .u64 1308) (by simp [results, Try.results24, go_sem, c1]) rfl ?_
  exact ⟨rfl, ((((Below.refl _ _).alloc (Nat.le_refl _) _).alloc (by simp) _).trans h2).setCell (Nat.le_refl _) _⟩
set_option maxHeartbeats 1000000 in
set_option maxRecDepth 100000 in
theorem acts_p3 (w : World) : Calls Try.prog 24 #[.int .i64 3] w fun e w' => e = .returned (.int .u64 288) ∧ Below w.heap.size w w' := by
  have hmf : ∀ (fn : Fn) (first cap : Array Value) (w : World), (Instr.makeFunc fn first cap).run Try.prog w = .ok (.func fn first cap) w := fun _ _ _ _ => rfl
  go_enter Try.func24, Try.ntmps24
  go_wp2_with fail
  refine (acts1 w.heap.size (w.heap.size + 1) [5, 8] 0 _ (by omega) (by simp) (blk_alloc (blk_new _ _) _) ?_ (by simp)).mono ?_
  · intro j hj
    match j, hj with
    | 0, _ => simp
    | 1, _ => simp
    | j + 2, hj => simp at hj; omega
  rintro e w1 ⟨rfl, h1, h2⟩
  have c1 : w1.cell? ⟨w.heap.size, 0, none⟩ = some (.int .u64 288) := by rw [blk_cell h1 0]; rfl
  have f1 : w1.frozen? ⟨w.heap.size, 0, none⟩ = false := blk_frozen h1 0
  clear h1
  go_wp2
  refine bodyPost_ret (v := .int .u64 288) (by simp [results, Try.results24, go_sem, c1]) rfl ?_
  exact ⟨rfl, ((((Below.refl _ _).alloc (Nat.le_refl _) _).alloc (by simp) _).trans h2).setCell (Nat.le_refl _) _⟩
set_option maxHeartbeats 1000000 in
set_option maxRecDepth 100000 in
theorem acts_p4 (w : World) : Calls Try.prog 24 #[.int .i64 4] w fun e w' => e = .returned (.int .u64 320) ∧ Below w.heap.size w w' := by
  have hmf : ∀ (fn : Fn) (first cap : Array Value) (w : World), (Instr.makeFunc fn first cap).run Try.prog w = .ok (.func fn first cap) w := fun _ _ _ _ => rfl
  go_enter Try.func24, Try.ntmps24
  go_wp2_with fail
  refine (acts1 w.heap.size (w.heap.size + 1) [6, 8] 0 _ (by omega) (by simp) (blk_alloc (blk_new _ _) _) ?_ (by simp)).mono ?_
  · intro j hj
    match j, hj with
    | 0, _ => simp
    | 1, _ => simp
    | j + 2, hj => simp at hj; omega
  rintro e w1 ⟨rfl, h1, h2⟩
  have c1 : w1.cell? ⟨w.heap.size, 0, none⟩ = some (.int .u64 320) := by rw [blk_cell h1 0]; rfl
  have f1 : w1.frozen? ⟨w.heap.size, 0, none⟩ = false := blk_frozen h1 0
  clear h1
  go_wp2
  refine bodyPost_ret (v := .int .u64 320) (by simp [results, Try.results24, go_sem, c1]) rfl ?_
  exact ⟨rfl, ((((Below.refl _ _).alloc (Nat.le_refl _) _).alloc (by simp) _).trans h2).setCell (Nat.le_refl _) _⟩
set_option maxHeartbeats 1000000 in
set_option maxRecDepth 100000 in
theorem acts_p5 (w : World) : Calls Try.prog 24 #[.int .i64 5] w fun e w' => e = .returned (.int .u64 1408) ∧ Below w.heap.size w w' := by
  have hmf : ∀ (fn : Fn) (first cap : Array Value) (w : World), (Instr.makeFunc fn first cap).run Try.prog w = .ok (.func fn first cap) w := fun _ _ _ _ => rfl
  go_enter Try.func24, Try.ntmps24
  go_wp2_with fail
  refine (acts1 w.heap.size (w.heap.size + 1) [7, 8, 10] 0 _ (by omega) (by simp) (blk_alloc (blk_new _ _) _) ?_ (by simp)).mono ?_
  · intro j hj
    match j, hj with
    | 0, _ => simp
    | 1, _ => simp
    | 2, _ => simp
    | j + 3, hj => simp at hj; omega
  rintro e w1 ⟨rfl, h1, h2⟩
  have c1 : w1.cell? ⟨w.heap.size, 0, none⟩ = some (.int .u64 1408) := by rw [blk_cell h1 0]; rfl
  have f1 : w1.frozen? ⟨w.heap.size, 0, none⟩ = false := blk_frozen h1 0
  clear h1
  go_wp2
  refine bodyPost_ret (v := .int .u64 1408) (by simp [results, Try.results24, go_sem, c1]) rfl ?_
  exact ⟨rfl, ((((Below.refl _ _).alloc (Nat.le_refl _) _).alloc (by simp) _).trans h2).setCell (Nat.le_refl _) _⟩
set_option maxHeartbeats 1000000 in
set_option maxRecDepth 100000 in
theorem acts_p6 (w : World) : Calls Try.prog 24 #[.int .i64 6] w fun e w' => e = .returned (.int .u64 512) ∧ Below w.heap.size w w' := by
  have hmf : ∀ (fn : Fn) (first cap : Array Value) (w : World), (Instr.makeFunc fn first cap).run Try.prog w = .ok (.func fn first cap) w := fun _ _ _ _ => rfl
  go_enter Try.func24, Try.ntmps24
  go_wp2_with fail
  refine (acts1 w.heap.size (w.heap.size + 1) [9] 0 _ (by omega) (by simp) (blk_alloc (blk_new _ _) _) ?_ (by simp)).mono ?_
  · intro j hj
    match j, hj with
    | 0, _ => simp
    | j + 1, hj => simp at hj
  rintro e w1 ⟨rfl, h1, h2⟩
  have c1 : w1.cell? ⟨w.heap.size, 0, none⟩ = some (.int .u64 512) := by rw [blk_cell h1 0]; rfl
  have f1 : w1.frozen? ⟨w.heap.size, 0, none⟩ = false := blk_frozen h1 0
  clear h1
  go_wp2
  refine bodyPost_ret (v := .int .u64 512) (by simp [results, Try.results24, go_sem, c1]) rfl ?_
  exact ⟨rfl, ((((Below.refl _ _).alloc (Nat.le_refl _) _).alloc (by simp) _).trans h2).setCell (Nat.le_refl _) _⟩
set_option maxHeartbeats 1000000 in
set_option maxRecDepth 100000 in
theorem acts_p1 (w : World) : Calls Try.prog 24 #[.int .i64 1] w fun e w' => e = .returned (.int .u64 1310) ∧ Below w.heap.size w w' := by
  have hmf : ∀ (fn : Fn) (first cap : Array Value) (w : World), (Instr.makeFunc fn first cap).run Try.prog w = .ok (.func fn first cap) w := fun _ _ _ _ => rfl
  go_enter Try.func24, Try.ntmps24
  go_wp2_with fail
  refine (acts1 w.heap.size (w.heap.size + 1) [1] 0 _ (by omega) (by simp) (blk_alloc (blk_new _ _) _) ?_ (by simp)).mono ?_
  · intro j hj
    match j, hj with
    | 0, _ => simp
    | j + 1, hj => simp at hj
  rintro e w1 ⟨rfl, h1, h2⟩
  have hz : w.heap.size < w1.heap.size := blk_lt h1
  go_wp2_with fail
  refine (acts1 w.heap.size w1.heap.size [2, 3, 4, 8, 10] 2 _ hz (by simp) (blk_alloc h1 _) ?_ (by simp)).mono ?_
  · intro j hj
    match j, hj with
    | 0, _ => simp
    | 1, _ => simp
    | 2, _ => simp
    | 3, _ => simp
    | 4, _ => simp
    | j + 5, hj => simp at hj; omega
  rintro e w2 ⟨rfl, h3, h4⟩
  have c1 : w2.cell? ⟨w.heap.size, 0, none⟩ = some (.int .u64 1310) := by rw [blk_cell h3 0]; rfl
  have f1 : w2.frozen? ⟨w.heap.size, 0, none⟩ = false := blk_frozen h3 0
  clear h3 h1
  go_wp2
  refine bodyPost_ret (v := .int .u64 1310) (by simp [results, Try.results24, go_sem, c1]) rfl ?_
  exact ⟨rfl, (((((Below.refl _ _).alloc (Nat.le_refl _) _).alloc (by simp) _).trans h2).alloc (by omega) _ |>.trans h4).setCell (Nat.le_refl _) _⟩
set_option maxHeartbeats 1000000 in
set_option maxRecDepth 100000 in
theorem acts_p0 (a0 : Int) (w : World) (h1 : ¬ a0 = 1) (h2 : ¬ a0 = 2) (h3 : ¬ a0 = 3) (h4 : ¬ a0 = 4) (h5 : ¬ a0 = 5) (h6 : ¬ a0 = 6) : Calls Try.prog 24 #[.int .i64 a0] w fun e w' => e = .returned (.int .u64 0) ∧ Below w.heap.size w w' := by
  have hmf : ∀ (fn : Fn) (first cap : Array Value) (w : World), (Instr.makeFunc fn first cap).run Try.prog w = .ok (.func fn first cap) w := fun _ _ _ _ => rfl
  replace h1 := beq_eq_false_iff_ne.2 h1
  replace h2 := beq_eq_false_iff_ne.2 h2
  replace h3 := beq_eq_false_iff_ne.2 h3
  replace h4 := beq_eq_false_iff_ne.2 h4
  replace h5 := beq_eq_false_iff_ne.2 h5
  replace h6 := beq_eq_false_iff_ne.2 h6
  go_enter Try.func24, Try.ntmps24
  go_wp2
  refine bodyPost_ret (v := .int .u64 0) (by simp [results, Try.results24, go_sem]) rfl ?_
  exact ⟨rfl, (Below.refl _ _).alloc (Nat.le_refl _) _⟩
def phase_acts.f (a0 : Int) : Option Int := some (if a0 = 1 then 1310 else if a0 = 2 then 1308 else if a0 = 3 then 288 else if a0 = 4 then 320 else if a0 = 5 then 1408 else if a0 = 6 then 512 else 0)
theorem phase_acts.calls (a0 : Int) (r : Int) (w : World) (h : phase_acts.f a0 = some r) :
    Calls Try.prog 24 #[.int .i64 a0] w fun e w' => e = .returned (.int .u64 r) ∧ Below w.heap.size w w' := by
  unfold phase_acts.f at h
  obtain rfl := Option.some.inj h
  by_cases h1 : a0 = 1
  · subst h1; exact acts_p1 w
  by_cases h2 : a0 = 2
  · subst h2; exact acts_p2 w
  by_cases h3 : a0 = 3
  · subst h3; exact acts_p3 w
  by_cases h4 : a0 = 4
  · subst h4; exact acts_p4 w
  by_cases h5 : a0 = 5
  · subst h5; exact acts_p5 w
  by_cases h6 : a0 = 6
  · subst h6; exact acts_p6 w
  rw [if_neg h1, if_neg h2, if_neg h3, if_neg h4, if_neg h5, if_neg h6]
  exact acts_p0 a0 w h1 h2 h3 h4 h5 h6

/-! ### phase_May: function 18 -/
def phase_May.f (a0 : Int) (a1 : Int) : Option (Bool) := if a1 ≥ 1 then (if a1 ≤ 10 then ((phase_acts.f a0).bind fun t104 => (if 0 ≤ a1 then (some ((Go.bits .and .u64 (shr .u64 t104 a1) 1) == 1)) else (none))) else (some false)) else (some false)
set_option maxHeartbeats 8000000 in
set_option maxRecDepth 100000 in
theorem phase_May.calls (a0 : Int) (a1 : Int) (r : Bool) (w : World) (h : phase_May.f a0 a1 = some r) :
    Calls Try.prog 18 #[.int .i64 a0, .int .i64 a1] w fun e w' => e = .returned (.bool r) ∧ Below w.heap.size w w' := by
  have HB := Aside0.mk (Below.refl w.heap.size w)
  have H : (if a1 ≥ 1 then (if a1 ≤ 10 then ((phase_acts.f a0).bind fun t104 => (if 0 ≤ a1 then (some ((Go.bits .and .u64 (shr .u64 t104 a1) 1) == 1)) else (none))) else (some false)) else (some false)) = some r := h
  clear h
  by_cases c3 : a1 ≥ 1
  · rw [if_pos c3] at H
    have c3b0 : decide (1 ≤ a1) = true := decide_eq_true c3
    clear c3
    by_cases c4 : a1 ≤ 10
    · rw [if_pos c4] at H
      have c4b0 : decide (a1 ≤ 10) = true := decide_eq_true c4
      clear c4
      replace H := Option.bind_eq_some_iff.mp H
      obtain ⟨t104, A50, H⟩ := H
      replace H : (if 0 ≤ a1 then (some ((Go.bits .and .u64 (shr .u64 t104 a1) 1) == 1)) else (none)) = some r := H
      have A5 := Aside0.mk A50
      clear A50
      by_cases c6 : 0 ≤ a1
      · rw [if_pos c6] at H
        have c6b0 := eq_true c6
        have c6b1 : decide (0 ≤ a1) = true := decide_eq_true c6
        clear c6
        obtain ⟨ji7, hji7⟩ : ∃ j_ : Int, (shr .u64 t104 a1) = j_ := ⟨_, rfl⟩
        replace H : (some ((Go.bits .and .u64 (ji7) 1) == 1)) = some r := by first | (rw [hji7] at H; exact H) | (simp only [hji7] at H ⊢; exact H)
        (try rw [hji7] at A5)
        have hji7_ : (t104 / 2 ^ min a1.toNat 64) = ji7 := hji7
        have hji7z : a1 ≤ 64 → (t104 / 2 ^ a1.toNat) = ji7 := shr_small hji7
        obtain rfl := Option.some.inj H
        go_enter Try.func18, Try.ntmps18
        go_wp2_with (first | (go_at_call 24; (with_reducible refine (phase_acts.calls a0 t104 _ A5.out).mono ?_); rintro e w8 ⟨rfl, hb⟩; have n0_ := Aside0.mk (below_step (by repeat (first | (with_reducible first | exact HB.out | apply below_alloc | apply pw_below_drewN | apply below_drew1) | exact HB.out)) hb); clear HB; have HB := n0_; clear n0_; (try clear hb); (try clear hb2); (try clear hk); (try clear hi)))
        go_ret
        exact ⟨by first | rfl | (simp [errW_none, errW_some] <;> rfl) | (simp only [← hji7]; first | rfl | (simp [errW_none, errW_some] <;> rfl)) | (simp [*, errW_none, errW_some] <;> rfl), by repeat (first | (with_reducible first | exact HB.out | apply below_alloc | apply pw_below_drewN | apply below_drew1) | exact HB.out)⟩
      · rw [if_neg c6] at H
        exact absurd H (by simp)
    · rw [if_neg c4] at H
      have c4b0 : decide (a1 ≤ 10) = false := decide_eq_false c4
      clear c4
      obtain rfl := Option.some.inj H
      go_enter Try.func18, Try.ntmps18
      go_wp2
      go_ret
      exact ⟨by first | rfl | (simp [errW_none, errW_some] <;> rfl) | (simp [*, errW_none, errW_some] <;> rfl), by repeat (first | (with_reducible first | exact HB.out | apply below_alloc | apply pw_below_drewN | apply below_drew1) | exact HB.out)⟩
  · rw [if_neg c3] at H
    have c3b0 : decide (1 ≤ a1) = false := decide_eq_false c3
    clear c3
    obtain rfl := Option.some.inj H
    go_enter Try.func18, Try.ntmps18
    go_wp2
    go_ret
    exact ⟨by first | rfl | (simp [errW_none, errW_some] <;> rfl) | (simp [*, errW_none, errW_some] <;> rfl), by repeat (first | (with_reducible first | exact HB.out | apply below_alloc | apply pw_below_drewN | apply below_drew1) | exact HB.out)⟩

/-! ### phase_Acts: function 15 -/
def phase_Acts.l0 : Nat → Int → List Int → Int → Option (List Int)
  | 0, _, _, _ => none
  | k + 1, x0, x2, x3 => if x3 ≤ 10 then ((phase_May.f x0 x3).bind fun t105 => (if t105 = true then (if x2.length < 17592186044416 then (phase_Acts.l0 k x0 (x2 ++ [x3]) (wrap64 (x3 + 1))) else (none)) else (phase_Acts.l0 k x0 x2 (wrap64 (x3 + 1))))) else (some x2)
def phase_Acts.f (k : Nat) (a0 : Int) : Option (List Int) := phase_Acts.l0 k a0 ([] : List Int) 1
theorem phase_Acts.mono_l : ∀ k, (∀ y0 y1 y2, LeO (phase_Acts.l0 k y0 y1 y2) (phase_Acts.l0 (k + 1) y0 y1 y2))
  | 0 => fun _ _ _ r h => by simp [phase_Acts.l0] at h
  | k + 1 => by
    have ih0 := phase_Acts.mono_l k
    · intro y0 y1 y2
      unfold phase_Acts.l0
      repeat' first
      | (with_reducible exact ih0 _ _ _)
      | (with_reducible exact LeO.refl _)
      | (with_reducible exact LeO.none _)
      | (with_reducible refine LeO.ite ?_ ?_)
      | (with_reducible refine LeO.bind ?_ (fun _ => ?_))
      | exact ih0 _ _ _
      | exact LeO.none _
      | refine LeO.ite ?_ ?_
      | refine LeO.bind ?_ (fun _ => ?_)
theorem phase_Acts.mono : ∀ a0 k, LeO (phase_Acts.f k a0) (phase_Acts.f (k + 1) a0) := by
  intro a0 k
  have ih0 := phase_Acts.mono_l k
  unfold phase_Acts.f
  repeat' first
      | (with_reducible exact ih0 _ _ _)
      | (with_reducible exact LeO.refl _)
      | (with_reducible exact LeO.none _)
      | (with_reducible refine LeO.ite ?_ ?_)
      | (with_reducible refine LeO.bind ?_ (fun _ => ?_))
      | exact ih0 _ _ _
      | exact LeO.none _
      | refine LeO.ite ?_ ?_
      | refine LeO.bind ?_ (fun _ => ?_)
set_option maxHeartbeats 8000000 in
set_option maxRecDepth 100000 in
theorem phase_Acts.calls (k : Nat) (a0 : Int) (r : List Int) (w : World) (h : phase_Acts.f k a0 = some r) :
    Calls Try.prog 15 #[.int .i64 a0] w fun e w' => ∃ v0_ : Value, e = .returned (v0_) ∧ Kd.R (Kd.int .i64) 3 w' w.heap.size (fun _ => True) v0_ r ∧ Below w.heap.size w w' := by
  have HB := Aside0.mk (Below.refl w.heap.size w)
  have H : (phase_Acts.l0 k a0 ([] : List Int) 1) = some r := h
  clear h
  have H' := Aside0.mk H
  clear H
  go_enter Try.func15, Try.ntmps15
  go_wp2
  go_loopg [2, 3] k (fun kq v2 v3 w' => ∃ (x2_1 : List Int) (x3_1 : Int), v3 = .int .i64 x3_1 ∧ Aside0 (phase_Acts.l0 kq a0 x2_1 x3_1 = some r) ∧ Aside0 (kq ≤ k) ∧ Aside0 (Kd.R (Kd.int .i64) 3 w' w.heap.size (fun _ => True) v2 x2_1) ∧ Aside0 (Below w.heap.size w w'))
  case atStart => exact ⟨(([] : List Int)), (1), (by first | rfl | (simp; done) | (simp [*]; done)), H', ⟨Nat.le_refl _⟩, ⟨by first | exact Kd.R_nil _ _ _ _ _ | exact Kd.N_nil _ _ _ _ _ | exact Kd.V_nil _ _ _ _ _ | exact Kd.Q_nil _ _ _ _ _ | exact Kd.S_nil _ _ _ _ _⟩, ⟨by repeat (first | (with_reducible first | exact HB.out | apply below_alloc | apply pw_below_drewN | apply below_drew1) | exact HB.out)⟩⟩
  case round =>
    clear H'
    try clear c1
    obtain ⟨x2_1, x3_1, rfl, HA, HK1, HO_2, HB⟩ := hrel
    cases gk with
    | zero => exact absurd HA.out (by simp [phase_Acts.l0])
    | succ k1 =>
      have H := HA.out
      clear HA
      simp only [phase_Acts.l0] at H
      by_cases c2 : x3_1 ≤ 10
      · rw [if_pos c2] at H
        have c2b0 : decide (x3_1 ≤ 10) = true := decide_eq_true c2
        clear c2
        replace H := Option.bind_eq_some_iff.mp H
        obtain ⟨t105, A30, H⟩ := H
        replace H : (if t105 = true then (if x2_1.length < 17592186044416 then (phase_Acts.l0 k1 a0 (x2_1 ++ [x3_1]) (wrap64 (x3_1 + 1))) else (none)) else (phase_Acts.l0 k1 a0 x2_1 (wrap64 (x3_1 + 1)))) = some r := H
        have A3 := Aside0.mk A30
        clear A30
        by_cases c4 : t105 = true
        · subst c4
          have H1 : (if x2_1.length < 17592186044416 then (phase_Acts.l0 k1 a0 (x2_1 ++ [x3_1]) (wrap64 (x3_1 + 1))) else (none)) = some r := by rw [if_pos rfl] at H; exact H
          clear H
          have H := H1
          clear H1
          by_cases c5 : x2_1.length < 17592186044416
          · rw [if_pos c5] at H
            have LMc5 := Aside0.mk c5
            clear c5
            obtain ⟨y106, hy106⟩ : ∃ y_ : List Int, y_ = (x2_1 ++ [x3_1]) := ⟨_, rfl⟩
            replace H : (phase_Acts.l0 k1 a0 y106 (wrap64 (x3_1 + 1))) = some r := by first | (rw [hy106]; with_reducible exact H) | (have H2_ := (Option.bind_some _ _).symm.trans H; rw [hy106]; with_reducible exact H2_) | (have H2_ := (Option.bind_some _ _).symm.trans H; with_reducible exact H2_) | with_reducible exact H | (rw [hy106]; exact H) | exact H
            have Ny106 := Aside0.mk hy106
            clear hy106
            have H' := Aside0.mk H
            clear H
            go_wp2_with (first | ((with_reducible refine gate_callee (f := 18) rfl ?_); refine goesL_ (some 10) rfl rfl Try.func18 (by kernel_rfl) rfl #[.int .i64 a0, .int .i64 x3_1] rfl (by (try simp only [List.map_toArray, List.map_cons, List.map_nil]); first | done | rfl | (simp only [List.length_drop, List.length_take]; rfl)) ?_; (with_reducible refine (phase_May.calls a0 x3_1 true _ A3.out).mono ?_); rintro e w6 ⟨rfl, hb⟩; refine ⟨_, rfl, ?_⟩; have n0_ := Aside0.mk (Kd.R_below (by (with_reducible repeat (first | apply Kd.R_alloc | apply Kd.R_drewN | apply Kd.R_drew)); exact HO_2.out) hb); have n1_ := Aside0.mk (below_step (by repeat (first | (with_reducible first | exact HB.out | apply below_alloc | apply pw_below_drewN | apply below_drew1) | exact HB.out)) hb); clear HO_2; clear HB; have HO_2 := n0_; have HB := n1_; clear n0_ n1_; (try clear hb); (try clear hb2); (try clear hk); (try clear hi)) | ((with_reducible refine gate_builtin (b := .append) (xs := #[.tmp 11, .tmp 13]) rfl ?_); at_builtin; refine Kd.R_append (Kd.int .i64) (w0 := w) w.heap.size rfl (.tmp 11) (.tmp 13) 30 3 (.int .i64 0) 8 rfl Try.underlying30 info3 rfl (by decide) (by omega) u2 x2_1 x3_1 [.int .i64 x3_1] (fun _ => True) (fun _ => False) rfl rfl ?aP (fun _ hk => hk.elim) ?aF ?aO ?aB ?aS ?aL ?_; (case aP => exact rfl); (case aB => exact (by repeat (first | (with_reducible first | exact HB.out | apply below_alloc | apply pw_below_drewN | apply below_drew1) | exact HB.out))); (case aF => exact (fun _ _ => trivial)); (case aO => exact (by (with_reducible repeat (first | apply Kd.R_alloc | apply Kd.R_drewN | apply Kd.R_drew)); exact HO_2.out)); (case aS => exact (below_size (by repeat (first | (with_reducible first | exact HB.out | apply below_alloc | apply pw_below_drewN | apply below_drew1) | exact HB.out)))); (case aL => have := LMc5.out; omega); intro v107 w7 ho hb hg hat; rw [← Ny106.out] at ho; have n0_ := Aside0.mk (hb); have n1_ := Aside0.mk (ho); clear HB; clear HO_2; have HB := n0_; have HO108 := n1_; clear n0_ n1_; clear ho hb hg hat))
            go_roundg k1
            case measure => have := HK1.out; omega
            case rel => exact ⟨(y106), (wrap64 (x3_1 + 1)), (by first | rfl | (simp; done) | (simp [*]; done)), H', ⟨by have := HK1.out; omega⟩, ⟨by (with_reducible repeat (first | apply Kd.R_alloc | apply Kd.R_drewN | apply Kd.R_drew)); exact HO108.out⟩, ⟨by repeat (first | (with_reducible first | exact HB.out | apply below_alloc | apply pw_below_drewN | apply below_drew1) | exact HB.out)⟩⟩
          · rw [if_neg c5] at H
            exact absurd H (by simp)
        · replace c4 := Bool.eq_false_iff.mpr c4
          subst c4
          have H1 : (phase_Acts.l0 k1 a0 x2_1 (wrap64 (x3_1 + 1))) = some r := by rw [if_neg (show ¬ (false = true) by decide)] at H; exact H
          clear H
          have H := H1
          clear H1
          have H' := Aside0.mk H
          clear H
          go_wp2_with (first | ((with_reducible refine gate_callee (f := 18) rfl ?_); refine goesL_ (some 10) rfl rfl Try.func18 (by kernel_rfl) rfl #[.int .i64 a0, .int .i64 x3_1] rfl (by (try simp only [List.map_toArray, List.map_cons, List.map_nil]); first | done | rfl | (simp only [List.length_drop, List.length_take]; rfl)) ?_; (with_reducible refine (phase_May.calls a0 x3_1 false _ A3.out).mono ?_); rintro e w8 ⟨rfl, hb⟩; refine ⟨_, rfl, ?_⟩; have n0_ := Aside0.mk (Kd.R_below (by (with_reducible repeat (first | apply Kd.R_alloc | apply Kd.R_drewN | apply Kd.R_drew)); exact HO_2.out) hb); have n1_ := Aside0.mk (below_step (by repeat (first | (with_reducible first | exact HB.out | apply below_alloc | apply pw_below_drewN | apply below_drew1) | exact HB.out)) hb); clear HO_2; clear HB; have HO_2 := n0_; have HB := n1_; clear n0_ n1_; (try clear hb); (try clear hb2); (try clear hk); (try clear hi)))
          go_roundg k1
          case measure => have := HK1.out; omega
          case rel => exact ⟨(x2_1), (wrap64 (x3_1 + 1)), (by first | rfl | (simp; done) | (simp [*]; done)), H', ⟨by have := HK1.out; omega⟩, ⟨by (with_reducible repeat (first | apply Kd.R_alloc | apply Kd.R_drewN | apply Kd.R_drew)); exact HO_2.out⟩, ⟨by repeat (first | (with_reducible first | exact HB.out | apply below_alloc | apply pw_below_drewN | apply below_drew1) | exact HB.out)⟩⟩
      · rw [if_neg c2] at H
        have c2b0 : decide (x3_1 ≤ 10) = false := decide_eq_false c2
        clear c2
        obtain rfl := Option.some.inj H
        go_wp2
        go_ret
        exact ⟨_, by first | rfl | (simp [errW_none, errW_some] <;> rfl) | (simp [*, errW_none, errW_some] <;> rfl), by (with_reducible repeat (first | apply Kd.R_alloc | apply Kd.R_drewN | apply Kd.R_drew)); exact HO_2.out, by repeat (first | (with_reducible first | exact HB.out | apply below_alloc | apply pw_below_drewN | apply below_drew1) | exact HB.out)⟩

/-! ### contangoref07_Same: function 17 -/
def contangoref07_Same.l0 : Nat → List Int → List Int → Int → Option (Bool)
  | 0, _, _, _ => none
  | k + 1, x0, x1, x5 => if x5 < (x0.length : Int) then (if 0 ≤ x5 then (if x5 < (x1.length : Int) then (if (rd x0 x5) = (rd x1 x5) then (contangoref07_Same.l0 k x0 x1 (wrap64 (x5 + 1))) else (some false)) else (none)) else (none)) else (some true)
def contangoref07_Same.f (k : Nat) (l0 : List Int) (l1 : List Int) : Option (Bool) := if (l0.length : Int) = (l1.length : Int) then (contangoref07_Same.l0 k l0 l1 0) else (some false)
theorem contangoref07_Same.mono_l : ∀ k, (∀ y0 y1 y2, LeO (contangoref07_Same.l0 k y0 y1 y2) (contangoref07_Same.l0 (k + 1) y0 y1 y2))
  | 0 => fun _ _ _ r h => by simp [contangoref07_Same.l0] at h
  | k + 1 => by
    have ih0 := contangoref07_Same.mono_l k
    · intro y0 y1 y2
      unfold contangoref07_Same.l0
      repeat' first
      | (with_reducible exact ih0 _ _ _)
      | (with_reducible exact LeO.refl _)
      | (with_reducible exact LeO.none _)
      | (with_reducible refine LeO.ite ?_ ?_)
      | (with_reducible refine LeO.bind ?_ (fun _ => ?_))
      | exact ih0 _ _ _
      | exact LeO.none _
      | refine LeO.ite ?_ ?_
      | refine LeO.bind ?_ (fun _ => ?_)
theorem contangoref07_Same.mono : ∀ a0 a1 k, LeO (contangoref07_Same.f k a0 a1) (contangoref07_Same.f (k + 1) a0 a1) := by
  intro a0 a1 k
  have ih0 := contangoref07_Same.mono_l k
  unfold contangoref07_Same.f
  repeat' first
      | (with_reducible exact ih0 _ _ _)
      | (with_reducible exact LeO.refl _)
      | (with_reducible exact LeO.none _)
      | (with_reducible refine LeO.ite ?_ ?_)
      | (with_reducible refine LeO.bind ?_ (fun _ => ?_))
      | exact ih0 _ _ _
      | exact LeO.none _
      | refine LeO.ite ?_ ?_
      | refine LeO.bind ?_ (fun _ => ?_)
set_option maxHeartbeats 8000000 in
set_option maxRecDepth 100000 in
theorem contangoref07_Same.calls (k : Nat) (A0 : Option Addr) (c0 : Nat) (l0 : List Int) (A1 : Option Addr) (c1 : Nat) (l1 : List Int) (r : Bool) (w : World) (hr0 : Kd.C (Kd.int .i64) w A0 l0.length l0) (hc0 : l0.length ≤ c0) (hr1 : Kd.C (Kd.int .i64) w A1 l1.length l1) (hc1 : l1.length ≤ c1) (h : contangoref07_Same.f k l0 l1 = some r) :
    Calls Try.prog 17 #[.slice A0 l0.length c0, .slice A1 l1.length c1] w fun e w' => e = .returned (.bool r) ∧ Drawn0 w w' := by
  have HR0 := Aside0.mk hr0
  have HC0 := Aside0.mk hc0
  clear hr0 hc0
  have HR1 := Aside0.mk hr1
  have HC1 := Aside0.mk hc1
  clear hr1 hc1
  have H : (if (l0.length : Int) = (l1.length : Int) then (contangoref07_Same.l0 k l0 l1 0) else (some false)) = some r := h
  clear h
  by_cases c3 : (l0.length : Int) = (l1.length : Int)
  · rw [if_pos c3] at H
    have c3b0 : ((l0.length : Int) == (l1.length : Int)) = true := beq_iff_eq.mpr c3
    have c3b1 : ((l0.length : Int) != (l1.length : Int)) = false := bne_eq_false_iff_eq.mpr c3
    have c3b2 : (l0.length == l1.length) = true := by first | simpa using c3 | (simp at c3 ⊢; omega)
    clear c3
    have H' := Aside0.mk H
    clear H
    go_enter Try.func17, Try.ntmps17
    go_wp2
    repeat (go_quiet (fail); try go_wp2)
    go_loopg [5] k (fun kq v5 w' => ∃ (x5_1 : Int), v5 = .int .i64 x5_1 ∧ Aside0 (contangoref07_Same.l0 kq l0 l1 x5_1 = some r) ∧ Aside0 (kq ≤ k) ∧ Drawn0 w w')
    case atStart => exact ⟨(0), (by first | rfl | (simp; done) | (simp [*]; done)), H', ⟨Nat.le_refl _⟩, by repeat (first | exact Drawn0.refl _ | apply Drawn0.step)⟩
    case round =>
      clear H'
      try clear c1
      try clear p2
      try clear c3
      try clear c3b0
      try clear c3b1
      try clear c3b2
      obtain ⟨x5_1, rfl, HA, HK1, ⟨m1, rfl⟩⟩ := hrel
      cases gk with
      | zero => exact absurd HA.out (by simp [contangoref07_Same.l0])
      | succ k1 =>
        have H := HA.out
        clear HA
        simp only [contangoref07_Same.l0] at H
        by_cases c4 : x5_1 < (l0.length : Int)
        · rw [if_pos c4] at H
          have c4b0 : decide (x5_1 < (l0.length : Int)) = true := decide_eq_true c4
          clear c4
          by_cases c5 : 0 ≤ x5_1
          · rw [if_pos c5] at H
            have c5b0 : decide (0 ≤ x5_1) = true := decide_eq_true c5
            clear c5
            by_cases c6 : x5_1 < (l1.length : Int)
            · rw [if_pos c6] at H
              have c6b0 : decide (x5_1 < (l1.length : Int)) = true := decide_eq_true c6
              clear c6
              by_cases c7 : (rd l0 x5_1) = (rd l1 x5_1)
              · rw [if_pos c7] at H
                have c7b0 : ((rd l0 x5_1) == (rd l1 x5_1)) = true := beq_iff_eq.mpr c7
                have c7b1 : ((rd l0 x5_1) != (rd l1 x5_1)) = false := bne_eq_false_iff_eq.mpr c7
                clear c7
                have H' := Aside0.mk H
                clear H
                have p109 : 0 ≤ (x5_1 : Int) := of_decide_eq_true (by first | (with_reducible assumption) | assumption)
                have q109 : x5_1 < (l0.length : Int) := of_decide_eq_true (by first | (with_reducible assumption) | assumption)
                obtain ⟨ad109, e109, hx109_0⟩ := Kd.at_int HR0.out x5_1 p109 q109
                cases e109
                replace p109 := eq_true p109
                replace q109 := eq_true q109
                have p110 : 0 ≤ (x5_1 : Int) := of_decide_eq_true (by first | (with_reducible assumption) | assumption)
                have q110 : x5_1 < (l1.length : Int) := of_decide_eq_true (by first | (with_reducible assumption) | assumption)
                obtain ⟨ad110, e110, hx110_0⟩ := Kd.at_int HR1.out x5_1 p110 q110
                cases e110
                replace p110 := eq_true p110
                replace q110 := eq_true q110
                go_wp2
                repeat (go_quiet (fail); try go_wp2)
                go_roundg k1
                case measure => have := HK1.out; omega
                case rel => exact ⟨(wrap64 (x5_1 + 1)), (by first | rfl | (simp; done) | (simp [*]; done)), H', ⟨by have := HK1.out; omega⟩, by repeat (first | exact Drawn0.refl _ | apply Drawn0.step)⟩
              · rw [if_neg c7] at H
                have c7b0 : ((rd l0 x5_1) == (rd l1 x5_1)) = false := beq_eq_false_iff_ne.mpr c7
                have c7b1 : ((rd l0 x5_1) != (rd l1 x5_1)) = true := bne_iff_ne.mpr c7
                obtain rfl := Option.some.inj H
                have p109 : 0 ≤ (x5_1 : Int) := of_decide_eq_true (by first | (with_reducible assumption) | assumption)
                have q109 : x5_1 < (l0.length : Int) := of_decide_eq_true (by first | (with_reducible assumption) | assumption)
                obtain ⟨ad109, e109, hx109_0⟩ := Kd.at_int HR0.out x5_1 p109 q109
                cases e109
                replace p109 := eq_true p109
                replace q109 := eq_true q109
                have p110 : 0 ≤ (x5_1 : Int) := of_decide_eq_true (by first | (with_reducible assumption) | assumption)
                have q110 : x5_1 < (l1.length : Int) := of_decide_eq_true (by first | (with_reducible assumption) | assumption)
                obtain ⟨ad110, e110, hx110_0⟩ := Kd.at_int HR1.out x5_1 p110 q110
                cases e110
                replace p110 := eq_true p110
                replace q110 := eq_true q110
                go_wp2
                repeat (go_quiet (fail); try go_wp2)
                go_ret
                exact ⟨by first | rfl | (simp; done) | (simp [*]; done), by repeat (first | exact Drawn0.refl _ | apply Drawn0.step)⟩
            · rw [if_neg c6] at H
              exact absurd H (by simp)
          · rw [if_neg c5] at H
            exact absurd H (by simp)
        · rw [if_neg c4] at H
          have c4b0 : decide (x5_1 < (l0.length : Int)) = false := decide_eq_false c4
          clear c4
          obtain rfl := Option.some.inj H
          go_wp2
          repeat (go_quiet (fail); try go_wp2)
          go_ret
          exact ⟨by first | rfl | (simp; done) | (simp [*]; done), by repeat (first | exact Drawn0.refl _ | apply Drawn0.step)⟩
  · rw [if_neg c3] at H
    have c3b0 : ((l0.length : Int) == (l1.length : Int)) = false := beq_eq_false_iff_ne.mpr c3
    have c3b1 : ((l0.length : Int) != (l1.length : Int)) = true := bne_iff_ne.mpr c3
    have c3b2 : (l0.length == l1.length) = false := by first | simpa using c3 | (simp at c3 ⊢; omega)
    obtain rfl := Option.some.inj H
    go_enter Try.func17, Try.ntmps17
    go_wp2
    repeat (go_quiet (fail); try go_wp2)
    go_ret
    exact ⟨by first | rfl | (simp; done) | (simp [*]; done), by repeat (first | exact Drawn0.refl _ | apply Drawn0.step)⟩

-- NOT PRINTED: function 25 (phase_names)

/-! ### phase_Of: function 20 -/

set_option maxHeartbeats 1000000 in
set_option maxRecDepth 100000 in
theorem names_of (w : World) : Calls Try.prog 25 #[] w fun e w' => e = .returned (.agg #[.string (⟨#[111, 112, 101, 110]⟩ : ByteArray), .string (⟨#[99, 117, 116]⟩ : ByteArray), .string (⟨#[112, 114, 105, 99, 101]⟩ : ByteArray), .string (⟨#[109, 97, 114, 103, 105, 110]⟩ : ByteArray), .string (⟨#[115, 101, 116, 116, 108, 101]⟩ : ByteArray), .string (⟨#[99, 108, 111, 115, 101, 100]⟩ : ByteArray)]) ∧ Below w.heap.size w w' := by
  go_enter Try.func25, Try.ntmps25
  go_wp2
  refine bodyPost_ret (v := .agg #[.string (⟨#[111, 112, 101, 110]⟩ : ByteArray), .string (⟨#[99, 117, 116]⟩ : ByteArray), .string (⟨#[112, 114, 105, 99, 101]⟩ : ByteArray), .string (⟨#[109, 97, 114, 103, 105, 110]⟩ : ByteArray), .string (⟨#[115, 101, 116, 116, 108, 101]⟩ : ByteArray), .string (⟨#[99, 108, 111, 115, 101, 100]⟩ : ByteArray)]) (by simp [results, Try.results25, go_sem]) rfl ?_
  exact ⟨rfl, (Below.refl _ _).alloc (Nat.le_refl _) _⟩
def phase_Of.f (a0 : ByteArray) : Option (Int × Bool) := some (if a0.toList = ([111, 112, 101, 110] : List UInt8) then (1, true) else if a0.toList = ([99, 117, 116] : List UInt8) then (2, true) else if a0.toList = ([112, 114, 105, 99, 101] : List UInt8) then (3, true) else if a0.toList = ([109, 97, 114, 103, 105, 110] : List UInt8) then (4, true) else if a0.toList = ([115, 101, 116, 116, 108, 101] : List UInt8) then (5, true) else if a0.toList = ([99, 108, 111, 115, 101, 100] : List UInt8) then (6, true) else (0, false))
set_option maxHeartbeats 2000000 in
set_option maxRecDepth 100000 in
theorem of_0 (a0 : ByteArray) (w : World) (e0 : (([111, 112, 101, 110] : List UInt8) == a0.toList) = true) : Calls Try.prog 20 #[.string a0] w fun e w' => e = .returned (.tuple #[.int .i64 1, .bool true]) ∧ Below w.heap.size w w' := by
  have i0 : ∀ w, (Instr.index 39 (.agg #[.string (⟨#[111, 112, 101, 110]⟩ : ByteArray), .string (⟨#[99, 117, 116]⟩ : ByteArray), .string (⟨#[112, 114, 105, 99, 101]⟩ : ByteArray), .string (⟨#[109, 97, 114, 103, 105, 110]⟩ : ByteArray), .string (⟨#[115, 101, 116, 116, 108, 101]⟩ : ByteArray), .string (⟨#[99, 108, 111, 115, 101, 100]⟩ : ByteArray)]) (.int .i64 0)).run Try.prog w = .ok (.string (⟨#[111, 112, 101, 110]⟩ : ByteArray)) w := fun _ => by kernel_rfl
  go_enter Try.func20, Try.ntmps20
  go_wp2_with (go_at_call 25; refine (names_of _).mono ?_; rintro e w1 ⟨rfl, hb⟩)
  refine wp_loop_rounds 7 ?_
  rw [rounds_succ]
  go_wp2
  go_ret2
  exact ⟨rfl, by assumption⟩
set_option maxHeartbeats 2000000 in
set_option maxRecDepth 100000 in
theorem of_1 (a0 : ByteArray) (w : World) (e0 : (([111, 112, 101, 110] : List UInt8) == a0.toList) = false) (e1 : (([99, 117, 116] : List UInt8) == a0.toList) = true) : Calls Try.prog 20 #[.string a0] w fun e w' => e = .returned (.tuple #[.int .i64 2, .bool true]) ∧ Below w.heap.size w w' := by
  have i0 : ∀ w, (Instr.index 39 (.agg #[.string (⟨#[111, 112, 101, 110]⟩ : ByteArray), .string (⟨#[99, 117, 116]⟩ : ByteArray), .string (⟨#[112, 114, 105, 99, 101]⟩ : ByteArray), .string (⟨#[109, 97, 114, 103, 105, 110]⟩ : ByteArray), .string (⟨#[115, 101, 116, 116, 108, 101]⟩ : ByteArray), .string (⟨#[99, 108, 111, 115, 101, 100]⟩ : ByteArray)]) (.int .i64 0)).run Try.prog w = .ok (.string (⟨#[111, 112, 101, 110]⟩ : ByteArray)) w := fun _ => by kernel_rfl
  have i1 : ∀ w, (Instr.index 39 (.agg #[.string (⟨#[111, 112, 101, 110]⟩ : ByteArray), .string (⟨#[99, 117, 116]⟩ : ByteArray), .string (⟨#[112, 114, 105, 99, 101]⟩ : ByteArray), .string (⟨#[109, 97, 114, 103, 105, 110]⟩ : ByteArray), .string (⟨#[115, 101, 116, 116, 108, 101]⟩ : ByteArray), .string (⟨#[99, 108, 111, 115, 101, 100]⟩ : ByteArray)]) (.int .i64 1)).run Try.prog w = .ok (.string (⟨#[99, 117, 116]⟩ : ByteArray)) w := fun _ => by kernel_rfl
  go_enter Try.func20, Try.ntmps20
  go_wp2_with (go_at_call 25; refine (names_of _).mono ?_; rintro e w1 ⟨rfl, hb⟩)
  refine wp_loop_rounds 7 ?_
  rw [rounds_succ]
  go_wp2
  rw [rounds_succ]
  go_wp2
  go_ret2
  exact ⟨rfl, by assumption⟩
set_option maxHeartbeats 2000000 in
set_option maxRecDepth 100000 in
theorem of_2 (a0 : ByteArray) (w : World) (e0 : (([111, 112, 101, 110] : List UInt8) == a0.toList) = false) (e1 : (([99, 117, 116] : List UInt8) == a0.toList) = false) (e2 : (([112, 114, 105, 99, 101] : List UInt8) == a0.toList) = true) : Calls Try.prog 20 #[.string a0] w fun e w' => e = .returned (.tuple #[.int .i64 3, .bool true]) ∧ Below w.heap.size w w' := by
  have i0 : ∀ w, (Instr.index 39 (.agg #[.string (⟨#[111, 112, 101, 110]⟩ : ByteArray), .string (⟨#[99, 117, 116]⟩ : ByteArray), .string (⟨#[112, 114, 105, 99, 101]⟩ : ByteArray), .string (⟨#[109, 97, 114, 103, 105, 110]⟩ : ByteArray), .string (⟨#[115, 101, 116, 116, 108, 101]⟩ : ByteArray), .string (⟨#[99, 108, 111, 115, 101, 100]⟩ : ByteArray)]) (.int .i64 0)).run Try.prog w = .ok (.string (⟨#[111, 112, 101, 110]⟩ : ByteArray)) w := fun _ => by kernel_rfl
  have i1 : ∀ w, (Instr.index 39 (.agg #[.string (⟨#[111, 112, 101, 110]⟩ : ByteArray), .string (⟨#[99, 117, 116]⟩ : ByteArray), .string (⟨#[112, 114, 105, 99, 101]⟩ : ByteArray), .string (⟨#[109, 97, 114, 103, 105, 110]⟩ : ByteArray), .string (⟨#[115, 101, 116, 116, 108, 101]⟩ : ByteArray), .string (⟨#[99, 108, 111, 115, 101, 100]⟩ : ByteArray)]) (.int .i64 1)).run Try.prog w = .ok (.string (⟨#[99, 117, 116]⟩ : ByteArray)) w := fun _ => by kernel_rfl
  have i2 : ∀ w, (Instr.index 39 (.agg #[.string (⟨#[111, 112, 101, 110]⟩ : ByteArray), .string (⟨#[99, 117, 116]⟩ : ByteArray), .string (⟨#[112, 114, 105, 99, 101]⟩ : ByteArray), .string (⟨#[109, 97, 114, 103, 105, 110]⟩ : ByteArray), .string (⟨#[115, 101, 116, 116, 108, 101]⟩ : ByteArray), .string (⟨#[99, 108, 111, 115, 101, 100]⟩ : ByteArray)]) (.int .i64 2)).run Try.prog w = .ok (.string (⟨#[112, 114, 105, 99, 101]⟩ : ByteArray)) w := fun _ => by kernel_rfl
  go_enter Try.func20, Try.ntmps20
  go_wp2_with (go_at_call 25; refine (names_of _).mono ?_; rintro e w1 ⟨rfl, hb⟩)
  refine wp_loop_rounds 7 ?_
  rw [rounds_succ]
  go_wp2
  rw [rounds_succ]
  go_wp2
  rw [rounds_succ]
  go_wp2
  go_ret2
  exact ⟨rfl, by assumption⟩
set_option maxHeartbeats 2000000 in
set_option maxRecDepth 100000 in
theorem of_3 (a0 : ByteArray) (w : World) (e0 : (([111, 112, 101, 110] : List UInt8) == a0.toList) = false) (e1 : (([99, 117, 116] : List UInt8) == a0.toList) = false) (e2 : (([112, 114, 105, 99, 101] : List UInt8) == a0.toList) = false) (e3 : (([109, 97, 114, 103, 105, 110] : List UInt8) == a0.toList) = true) : Calls Try.prog 20 #[.string a0] w fun e w' => e = .returned (.tuple #[.int .i64 4, .bool true]) ∧ Below w.heap.size w w' := by
  have i0 : ∀ w, (Instr.index 39 (.agg #[.string (⟨#[111, 112, 101, 110]⟩ : ByteArray), .string (⟨#[99, 117, 116]⟩ : ByteArray), .string (⟨#[112, 114, 105, 99, 101]⟩ : ByteArray), .string (⟨#[109, 97, 114, 103, 105, 110]⟩ : ByteArray), .string (⟨#[115, 101, 116, 116, 108, 101]⟩ : ByteArray), .string (⟨#[99, 108, 111, 115, 101, 100]⟩ : ByteArray)]) (.int .i64 0)).run Try.prog w = .ok (.string (⟨#[111, 112, 101, 110]⟩ : ByteArray)) w := fun _ => by kernel_rfl
  have i1 : ∀ w, (Instr.index 39 (.agg #[.string (⟨#[111, 112, 101, 110]⟩ : ByteArray), .string (⟨#[99, 117, 116]⟩ : ByteArray), .string (⟨#[112, 114, 105, 99, 101]⟩ : ByteArray), .string (⟨#[109, 97, 114, 103, 105, 110]⟩ : ByteArray), .string (⟨#[115, 101, 116, 116, 108, 101]⟩ : ByteArray), .string (⟨#[99, 108, 111, 115, 101, 100]⟩ : ByteArray)]) (.int .i64 1)).run Try.prog w = .ok (.string (⟨#[99, 117, 116]⟩ : ByteArray)) w := fun _ => by kernel_rfl
  have i2 : ∀ w, (Instr.index 39 (.agg #[.string (⟨#[111, 112, 101, 110]⟩ : ByteArray), .string (⟨#[99, 117, 116]⟩ : ByteArray), .string (⟨#[112, 114, 105, 99, 101]⟩ : ByteArray), .string (⟨#[109, 97, 114, 103, 105, 110]⟩ : ByteArray), .string (⟨#[115, 101, 116, 116, 108, 101]⟩ : ByteArray), .string (⟨#[99, 108, 111, 115, 101, 100]⟩ : ByteArray)]) (.int .i64 2)).run Try.prog w = .ok (.string (⟨#[112, 114, 105, 99, 101]⟩ : ByteArray)) w := fun _ => by kernel_rfl
  have i3 : ∀ w, (Instr.index 39 (.agg #[.string (⟨#[111, 112, 101, 110]⟩ : ByteArray), .string (⟨#[99, 117, 116]⟩ : ByteArray), .string (⟨#[112, 114, 105, 99, 101]⟩ : ByteArray), .string (⟨#[109, 97, 114, 103, 105, 110]⟩ : ByteArray), .string (⟨#[115, 101, 116, 116, 108, 101]⟩ : ByteArray), .string (⟨#[99, 108, 111, 115, 101, 100]⟩ : ByteArray)]) (.int .i64 3)).run Try.prog w = .ok (.string (⟨#[109, 97, 114, 103, 105, 110]⟩ : ByteArray)) w := fun _ => by kernel_rfl
  go_enter Try.func20, Try.ntmps20
  go_wp2_with (go_at_call 25; refine (names_of _).mono ?_; rintro e w1 ⟨rfl, hb⟩)
  refine wp_loop_rounds 7 ?_
  rw [rounds_succ]
  go_wp2
  rw [rounds_succ]
  go_wp2
  rw [rounds_succ]
  go_wp2
  rw [rounds_succ]
  go_wp2
  go_ret2
  exact ⟨rfl, by assumption⟩
set_option maxHeartbeats 2000000 in
set_option maxRecDepth 100000 in
theorem of_4 (a0 : ByteArray) (w : World) (e0 : (([111, 112, 101, 110] : List UInt8) == a0.toList) = false) (e1 : (([99, 117, 116] : List UInt8) == a0.toList) = false) (e2 : (([112, 114, 105, 99, 101] : List UInt8) == a0.toList) = false) (e3 : (([109, 97, 114, 103, 105, 110] : List UInt8) == a0.toList) = false) (e4 : (([115, 101, 116, 116, 108, 101] : List UInt8) == a0.toList) = true) : Calls Try.prog 20 #[.string a0] w fun e w' => e = .returned (.tuple #[.int .i64 5, .bool true]) ∧ Below w.heap.size w w' := by
  have i0 : ∀ w, (Instr.index 39 (.agg #[.string (⟨#[111, 112, 101, 110]⟩ : ByteArray), .string (⟨#[99, 117, 116]⟩ : ByteArray), .string (⟨#[112, 114, 105, 99, 101]⟩ : ByteArray), .string (⟨#[109, 97, 114, 103, 105, 110]⟩ : ByteArray), .string (⟨#[115, 101, 116, 116, 108, 101]⟩ : ByteArray), .string (⟨#[99, 108, 111, 115, 101, 100]⟩ : ByteArray)]) (.int .i64 0)).run Try.prog w = .ok (.string (⟨#[111, 112, 101, 110]⟩ : ByteArray)) w := fun _ => by kernel_rfl
  have i1 : ∀ w, (Instr.index 39 (.agg #[.string (⟨#[111, 112, 101, 110]⟩ : ByteArray), .string (⟨#[99, 117, 116]⟩ : ByteArray), .string (⟨#[112, 114, 105, 99, 101]⟩ : ByteArray), .string (⟨#[109, 97, 114, 103, 105, 110]⟩ : ByteArray), .string (⟨#[115, 101, 116, 116, 108, 101]⟩ : ByteArray), .string (⟨#[99, 108, 111, 115, 101, 100]⟩ : ByteArray)]) (.int .i64 1)).run Try.prog w = .ok (.string (⟨#[99, 117, 116]⟩ : ByteArray)) w := fun _ => by kernel_rfl
  have i2 : ∀ w, (Instr.index 39 (.agg #[.string (⟨#[111, 112, 101, 110]⟩ : ByteArray), .string (⟨#[99, 117, 116]⟩ : ByteArray), .string (⟨#[112, 114, 105, 99, 101]⟩ : ByteArray), .string (⟨#[109, 97, 114, 103, 105, 110]⟩ : ByteArray), .string (⟨#[115, 101, 116, 116, 108, 101]⟩ : ByteArray), .string (⟨#[99, 108, 111, 115, 101, 100]⟩ : ByteArray)]) (.int .i64 2)).run Try.prog w = .ok (.string (⟨#[112, 114, 105, 99, 101]⟩ : ByteArray)) w := fun _ => by kernel_rfl
  have i3 : ∀ w, (Instr.index 39 (.agg #[.string (⟨#[111, 112, 101, 110]⟩ : ByteArray), .string (⟨#[99, 117, 116]⟩ : ByteArray), .string (⟨#[112, 114, 105, 99, 101]⟩ : ByteArray), .string (⟨#[109, 97, 114, 103, 105, 110]⟩ : ByteArray), .string (⟨#[115, 101, 116, 116, 108, 101]⟩ : ByteArray), .string (⟨#[99, 108, 111, 115, 101, 100]⟩ : ByteArray)]) (.int .i64 3)).run Try.prog w = .ok (.string (⟨#[109, 97, 114, 103, 105, 110]⟩ : ByteArray)) w := fun _ => by kernel_rfl
  have i4 : ∀ w, (Instr.index 39 (.agg #[.string (⟨#[111, 112, 101, 110]⟩ : ByteArray), .string (⟨#[99, 117, 116]⟩ : ByteArray), .string (⟨#[112, 114, 105, 99, 101]⟩ : ByteArray), .string (⟨#[109, 97, 114, 103, 105, 110]⟩ : ByteArray), .string (⟨#[115, 101, 116, 116, 108, 101]⟩ : ByteArray), .string (⟨#[99, 108, 111, 115, 101, 100]⟩ : ByteArray)]) (.int .i64 4)).run Try.prog w = .ok (.string (⟨#[115, 101, 116, 116, 108, 101]⟩ : ByteArray)) w := fun _ => by kernel_rfl
  go_enter Try.func20, Try.ntmps20
  go_wp2_with (go_at_call 25; refine (names_of _).mono ?_; rintro e w1 ⟨rfl, hb⟩)
  refine wp_loop_rounds 7 ?_
  rw [rounds_succ]
  go_wp2
  rw [rounds_succ]
  go_wp2
  rw [rounds_succ]
  go_wp2
  rw [rounds_succ]
  go_wp2
  rw [rounds_succ]
  go_wp2
  go_ret2
  exact ⟨rfl, by assumption⟩
set_option maxHeartbeats 2000000 in
set_option maxRecDepth 100000 in
theorem of_5 (a0 : ByteArray) (w : World) (e0 : (([111, 112, 101, 110] : List UInt8) == a0.toList) = false) (e1 : (([99, 117, 116] : List UInt8) == a0.toList) = false) (e2 : (([112, 114, 105, 99, 101] : List UInt8) == a0.toList) = false) (e3 : (([109, 97, 114, 103, 105, 110] : List UInt8) == a0.toList) = false) (e4 : (([115, 101, 116, 116, 108, 101] : List UInt8) == a0.toList) = false) (e5 : (([99, 108, 111, 115, 101, 100] : List UInt8) == a0.toList) = true) : Calls Try.prog 20 #[.string a0] w fun e w' => e = .returned (.tuple #[.int .i64 6, .bool true]) ∧ Below w.heap.size w w' := by
  have i0 : ∀ w, (Instr.index 39 (.agg #[.string (⟨#[111, 112, 101, 110]⟩ : ByteArray), .string (⟨#[99, 117, 116]⟩ : ByteArray), .string (⟨#[112, 114, 105, 99, 101]⟩ : ByteArray), .string (⟨#[109, 97, 114, 103, 105, 110]⟩ : ByteArray), .string (⟨#[115, 101, 116, 116, 108, 101]⟩ : ByteArray), .string (⟨#[99, 108, 111, 115, 101, 100]⟩ : ByteArray)]) (.int .i64 0)).run Try.prog w = .ok (.string (⟨#[111, 112, 101, 110]⟩ : ByteArray)) w := fun _ => by kernel_rfl
  have i1 : ∀ w, (Instr.index 39 (.agg #[.string (⟨#[111, 112, 101, 110]⟩ : ByteArray), .string (⟨#[99, 117, 116]⟩ : ByteArray), .string (⟨#[112, 114, 105, 99, 101]⟩ : ByteArray), .string (⟨#[109, 97, 114, 103, 105, 110]⟩ : ByteArray), .string (⟨#[115, 101, 116, 116, 108, 101]⟩ : ByteArray), .string (⟨#[99, 108, 111, 115, 101, 100]⟩ : ByteArray)]) (.int .i64 1)).run Try.prog w = .ok (.string (⟨#[99, 117, 116]⟩ : ByteArray)) w := fun _ => by kernel_rfl
  have i2 : ∀ w, (Instr.index 39 (.agg #[.string (⟨#[111, 112, 101, 110]⟩ : ByteArray), .string (⟨#[99, 117, 116]⟩ : ByteArray), .string (⟨#[112, 114, 105, 99, 101]⟩ : ByteArray), .string (⟨#[109, 97, 114, 103, 105, 110]⟩ : ByteArray), .string (⟨#[115, 101, 116, 116, 108, 101]⟩ : ByteArray), .string (⟨#[99, 108, 111, 115, 101, 100]⟩ : ByteArray)]) (.int .i64 2)).run Try.prog w = .ok (.string (⟨#[112, 114, 105, 99, 101]⟩ : ByteArray)) w := fun _ => by kernel_rfl
  have i3 : ∀ w, (Instr.index 39 (.agg #[.string (⟨#[111, 112, 101, 110]⟩ : ByteArray), .string (⟨#[99, 117, 116]⟩ : ByteArray), .string (⟨#[112, 114, 105, 99, 101]⟩ : ByteArray), .string (⟨#[109, 97, 114, 103, 105, 110]⟩ : ByteArray), .string (⟨#[115, 101, 116, 116, 108, 101]⟩ : ByteArray), .string (⟨#[99, 108, 111, 115, 101, 100]⟩ : ByteArray)]) (.int .i64 3)).run Try.prog w = .ok (.string (⟨#[109, 97, 114, 103, 105, 110]⟩ : ByteArray)) w := fun _ => by kernel_rfl
  have i4 : ∀ w, (Instr.index 39 (.agg #[.string (⟨#[111, 112, 101, 110]⟩ : ByteArray), .string (⟨#[99, 117, 116]⟩ : ByteArray), .string (⟨#[112, 114, 105, 99, 101]⟩ : ByteArray), .string (⟨#[109, 97, 114, 103, 105, 110]⟩ : ByteArray), .string (⟨#[115, 101, 116, 116, 108, 101]⟩ : ByteArray), .string (⟨#[99, 108, 111, 115, 101, 100]⟩ : ByteArray)]) (.int .i64 4)).run Try.prog w = .ok (.string (⟨#[115, 101, 116, 116, 108, 101]⟩ : ByteArray)) w := fun _ => by kernel_rfl
  have i5 : ∀ w, (Instr.index 39 (.agg #[.string (⟨#[111, 112, 101, 110]⟩ : ByteArray), .string (⟨#[99, 117, 116]⟩ : ByteArray), .string (⟨#[112, 114, 105, 99, 101]⟩ : ByteArray), .string (⟨#[109, 97, 114, 103, 105, 110]⟩ : ByteArray), .string (⟨#[115, 101, 116, 116, 108, 101]⟩ : ByteArray), .string (⟨#[99, 108, 111, 115, 101, 100]⟩ : ByteArray)]) (.int .i64 5)).run Try.prog w = .ok (.string (⟨#[99, 108, 111, 115, 101, 100]⟩ : ByteArray)) w := fun _ => by kernel_rfl
  go_enter Try.func20, Try.ntmps20
  go_wp2_with (go_at_call 25; refine (names_of _).mono ?_; rintro e w1 ⟨rfl, hb⟩)
  refine wp_loop_rounds 7 ?_
  rw [rounds_succ]
  go_wp2
  rw [rounds_succ]
  go_wp2
  rw [rounds_succ]
  go_wp2
  rw [rounds_succ]
  go_wp2
  rw [rounds_succ]
  go_wp2
  rw [rounds_succ]
  go_wp2
  go_ret2
  exact ⟨rfl, by assumption⟩
set_option maxHeartbeats 2000000 in
set_option maxRecDepth 100000 in
theorem of_6 (a0 : ByteArray) (w : World) (e0 : (([111, 112, 101, 110] : List UInt8) == a0.toList) = false) (e1 : (([99, 117, 116] : List UInt8) == a0.toList) = false) (e2 : (([112, 114, 105, 99, 101] : List UInt8) == a0.toList) = false) (e3 : (([109, 97, 114, 103, 105, 110] : List UInt8) == a0.toList) = false) (e4 : (([115, 101, 116, 116, 108, 101] : List UInt8) == a0.toList) = false) (e5 : (([99, 108, 111, 115, 101, 100] : List UInt8) == a0.toList) = false) : Calls Try.prog 20 #[.string a0] w fun e w' => e = .returned (.tuple #[.int .i64 0, .bool false]) ∧ Below w.heap.size w w' := by
  have i0 : ∀ w, (Instr.index 39 (.agg #[.string (⟨#[111, 112, 101, 110]⟩ : ByteArray), .string (⟨#[99, 117, 116]⟩ : ByteArray), .string (⟨#[112, 114, 105, 99, 101]⟩ : ByteArray), .string (⟨#[109, 97, 114, 103, 105, 110]⟩ : ByteArray), .string (⟨#[115, 101, 116, 116, 108, 101]⟩ : ByteArray), .string (⟨#[99, 108, 111, 115, 101, 100]⟩ : ByteArray)]) (.int .i64 0)).run Try.prog w = .ok (.string (⟨#[111, 112, 101, 110]⟩ : ByteArray)) w := fun _ => by kernel_rfl
  have i1 : ∀ w, (Instr.index 39 (.agg #[.string (⟨#[111, 112, 101, 110]⟩ : ByteArray), .string (⟨#[99, 117, 116]⟩ : ByteArray), .string (⟨#[112, 114, 105, 99, 101]⟩ : ByteArray), .string (⟨#[109, 97, 114, 103, 105, 110]⟩ : ByteArray), .string (⟨#[115, 101, 116, 116, 108, 101]⟩ : ByteArray), .string (⟨#[99, 108, 111, 115, 101, 100]⟩ : ByteArray)]) (.int .i64 1)).run Try.prog w = .ok (.string (⟨#[99, 117, 116]⟩ : ByteArray)) w := fun _ => by kernel_rfl
  have i2 : ∀ w, (Instr.index 39 (.agg #[.string (⟨#[111, 112, 101, 110]⟩ : ByteArray), .string (⟨#[99, 117, 116]⟩ : ByteArray), .string (⟨#[112, 114, 105, 99, 101]⟩ : ByteArray), .string (⟨#[109, 97, 114, 103, 105, 110]⟩ : ByteArray), .string (⟨#[115, 101, 116, 116, 108, 101]⟩ : ByteArray), .string (⟨#[99, 108, 111, 115, 101, 100]⟩ : ByteArray)]) (.int .i64 2)).run Try.prog w = .ok (.string (⟨#[112, 114, 105, 99, 101]⟩ : ByteArray)) w := fun _ => by kernel_rfl
  have i3 : ∀ w, (Instr.index 39 (.agg #[.string (⟨#[111, 112, 101, 110]⟩ : ByteArray), .string (⟨#[99, 117, 116]⟩ : ByteArray), .string (⟨#[112, 114, 105, 99, 101]⟩ : ByteArray), .string (⟨#[109, 97, 114, 103, 105, 110]⟩ : ByteArray), .string (⟨#[115, 101, 116, 116, 108, 101]⟩ : ByteArray), .string (⟨#[99, 108, 111, 115, 101, 100]⟩ : ByteArray)]) (.int .i64 3)).run Try.prog w = .ok (.string (⟨#[109, 97, 114, 103, 105, 110]⟩ : ByteArray)) w := fun _ => by kernel_rfl
  have i4 : ∀ w, (Instr.index 39 (.agg #[.string (⟨#[111, 112, 101, 110]⟩ : ByteArray), .string (⟨#[99, 117, 116]⟩ : ByteArray), .string (⟨#[112, 114, 105, 99, 101]⟩ : ByteArray), .string (⟨#[109, 97, 114, 103, 105, 110]⟩ : ByteArray), .string (⟨#[115, 101, 116, 116, 108, 101]⟩ : ByteArray), .string (⟨#[99, 108, 111, 115, 101, 100]⟩ : ByteArray)]) (.int .i64 4)).run Try.prog w = .ok (.string (⟨#[115, 101, 116, 116, 108, 101]⟩ : ByteArray)) w := fun _ => by kernel_rfl
  have i5 : ∀ w, (Instr.index 39 (.agg #[.string (⟨#[111, 112, 101, 110]⟩ : ByteArray), .string (⟨#[99, 117, 116]⟩ : ByteArray), .string (⟨#[112, 114, 105, 99, 101]⟩ : ByteArray), .string (⟨#[109, 97, 114, 103, 105, 110]⟩ : ByteArray), .string (⟨#[115, 101, 116, 116, 108, 101]⟩ : ByteArray), .string (⟨#[99, 108, 111, 115, 101, 100]⟩ : ByteArray)]) (.int .i64 5)).run Try.prog w = .ok (.string (⟨#[99, 108, 111, 115, 101, 100]⟩ : ByteArray)) w := fun _ => by kernel_rfl
  go_enter Try.func20, Try.ntmps20
  go_wp2_with (go_at_call 25; refine (names_of _).mono ?_; rintro e w1 ⟨rfl, hb⟩)
  refine wp_loop_rounds 7 ?_
  rw [rounds_succ]
  go_wp2
  rw [rounds_succ]
  go_wp2
  rw [rounds_succ]
  go_wp2
  rw [rounds_succ]
  go_wp2
  rw [rounds_succ]
  go_wp2
  rw [rounds_succ]
  go_wp2
  rw [rounds_succ]
  go_wp2
  go_ret2
  exact ⟨rfl, hb⟩
theorem phase_Of.calls (a0 : ByteArray) (r1 : Int) (r2 : Bool) (w : World) (h : phase_Of.f a0 = some (r1, r2)) :
    Calls Try.prog 20 #[.string a0] w fun e w' => e = .returned (.tuple #[.int .i64 r1, .bool r2]) ∧ Below w.heap.size w w' := by
  unfold phase_Of.f at h
  have sw : ∀ {l : List UInt8}, a0.toList = l → (l == a0.toList) = true := fun h => by rw [h]; exact beq_self_eq_true _
  have sn : ∀ {l : List UInt8}, ¬ a0.toList = l → (l == a0.toList) = false := fun h => beq_eq_false_iff_ne.2 (fun e => h e.symm)
  by_cases h0 : a0.toList = ([111, 112, 101, 110] : List UInt8)
  · rw [if_pos h0] at h; simp only [Option.some.injEq, Prod.mk.injEq] at h; obtain ⟨rfl, rfl⟩ := h; exact of_0 a0 w  (sw h0)
  by_cases h1 : a0.toList = ([99, 117, 116] : List UInt8)
  · rw [if_neg h0, if_pos h1] at h; simp only [Option.some.injEq, Prod.mk.injEq] at h; obtain ⟨rfl, rfl⟩ := h; exact of_1 a0 w (sn h0) (sw h1)
  by_cases h2 : a0.toList = ([112, 114, 105, 99, 101] : List UInt8)
  · rw [if_neg h0, if_neg h1, if_pos h2] at h; simp only [Option.some.injEq, Prod.mk.injEq] at h; obtain ⟨rfl, rfl⟩ := h; exact of_2 a0 w (sn h0) (sn h1) (sw h2)
  by_cases h3 : a0.toList = ([109, 97, 114, 103, 105, 110] : List UInt8)
  · rw [if_neg h0, if_neg h1, if_neg h2, if_pos h3] at h; simp only [Option.some.injEq, Prod.mk.injEq] at h; obtain ⟨rfl, rfl⟩ := h; exact of_3 a0 w (sn h0) (sn h1) (sn h2) (sw h3)
  by_cases h4 : a0.toList = ([115, 101, 116, 116, 108, 101] : List UInt8)
  · rw [if_neg h0, if_neg h1, if_neg h2, if_neg h3, if_pos h4] at h; simp only [Option.some.injEq, Prod.mk.injEq] at h; obtain ⟨rfl, rfl⟩ := h; exact of_4 a0 w (sn h0) (sn h1) (sn h2) (sn h3) (sw h4)
  by_cases h5 : a0.toList = ([99, 108, 111, 115, 101, 100] : List UInt8)
  · rw [if_neg h0, if_neg h1, if_neg h2, if_neg h3, if_neg h4, if_pos h5] at h; simp only [Option.some.injEq, Prod.mk.injEq] at h; obtain ⟨rfl, rfl⟩ := h; exact of_5 a0 w (sn h0) (sn h1) (sn h2) (sn h3) (sn h4) (sw h5)
  rw [if_neg h0, if_neg h1, if_neg h2, if_neg h3, if_neg h4, if_neg h5] at h; simp only [Option.some.injEq, Prod.mk.injEq] at h; obtain ⟨rfl, rfl⟩ := h; exact of_6 a0 w (sn h0) (sn h1) (sn h2) (sn h3) (sn h4) (sn h5)

end Go.Proofs.Ytpieipeppanahaa.PPhaseRound
