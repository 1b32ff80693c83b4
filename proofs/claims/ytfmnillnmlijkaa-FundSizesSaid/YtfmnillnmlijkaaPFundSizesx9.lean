/- Laid for this claim by a program of this session's (wip/mkprint.py, wip/ext.py); not trusted: Lean checks it. -/
import Derived.Test.YtfmnillnmlijkaaPFundSizesx0
import Derived.Test.YtfmnillnmlijkaaPFundSizesx2
import Derived.Test.YtfmnillnmlijkaaPFundSizesx7
import Derived.Test.YtfmnillnmlijkaaPFundSizesx8
namespace Go.Proofs.Ytfmnillnmlijkaa.PFundSizes
open Go.RowKit Go.Proofs.YtfmnillnmlijkaaW.PrintWords Go.Proofs.YtfmnillnmlijkaaW.PrintLast Go.Proofs.YtfmnillnmlijkaaW.PrintMore
attribute [local go_sem] max2_int min2_int max_two min_two max_three min_three max_four min_four   -- for this text's walks alone
set_option linter.unusedVariables false
set_option linter.unusedSimpArgs false

/-! ### words_Name: function 33 -/
mutual
def words_Name.j0 : Nat → ByteArray → Bool → Option (Bool)
  | 0, _, _ => none
  | k + 1, x0, x16 => if x16 = true then (some false) else (words_Name.l0 k x0 (x0.size : Int) 0)
def words_Name.l0 : Nat → ByteArray → Int → Int → Option (Bool)
  | 0, _, _, _ => none
  | k + 1, x0, x18, x19 => if x19 < x18 then (if 0 ≤ x19 then (if x19 < (x0.size : Int) then ((words_letter.f (bt x0 x19)).bind fun t156 => (if t156 = true then (words_Name.l0 k x0 x18 (wrap64 (x19 + 1))) else ((words_digit.f (bt x0 x19)).bind fun t157 => (if t157 = true then (words_Name.l0 k x0 x18 (wrap64 (x19 + 1))) else (some false))))) else (none)) else (none)) else (some true)
end
def words_Name.f (k : Nat) (a0 : ByteArray) : Option (Bool) := if a0.toList = ([] : List UInt8) then (words_Name.j0 k a0 true) else (if (a0.size : Int) > 12 then (words_Name.j0 k a0 true) else (if 0 < (a0.size : Int) then ((words_letter.f (bt a0 0)).bind fun t155 => (words_Name.j0 k a0 (!t155))) else (none)))
theorem words_Name.mono_l : ∀ k, (∀ y0 y1, LeO (words_Name.j0 k y0 y1) (words_Name.j0 (k + 1) y0 y1)) ∧ (∀ y0 y1 y2, LeO (words_Name.l0 k y0 y1 y2) (words_Name.l0 (k + 1) y0 y1 y2))
  | 0 => ⟨fun _ _ r h => by simp [words_Name.j0] at h, fun _ _ _ r h => by simp [words_Name.l0] at h⟩
  | k + 1 => by
    obtain ⟨ih0, ih1⟩ := words_Name.mono_l k
    refine ⟨?_, ?_⟩
    · intro y0 y1
      unfold words_Name.j0
      repeat' first
      | (with_reducible exact ih0 _ _)
      | (with_reducible exact ih1 _ _ _)
      | (with_reducible exact LeO.refl _)
      | (with_reducible exact LeO.none _)
      | (with_reducible refine LeO.ite ?_ ?_)
      | (with_reducible refine LeO.bind ?_ (fun _ => ?_))
      | exact ih0 _ _
      | exact ih1 _ _ _
      | exact LeO.none _
      | refine LeO.ite ?_ ?_
      | refine LeO.bind ?_ (fun _ => ?_)
    · intro y0 y1 y2
      unfold words_Name.l0
      repeat' first
      | (with_reducible exact ih0 _ _)
      | (with_reducible exact ih1 _ _ _)
      | (with_reducible exact LeO.refl _)
      | (with_reducible exact LeO.none _)
      | (with_reducible refine LeO.ite ?_ ?_)
      | (with_reducible refine LeO.bind ?_ (fun _ => ?_))
      | exact ih0 _ _
      | exact ih1 _ _ _
      | exact LeO.none _
      | refine LeO.ite ?_ ?_
      | refine LeO.bind ?_ (fun _ => ?_)
theorem words_Name.mono : ∀ a0 k, LeO (words_Name.f k a0) (words_Name.f (k + 1) a0) := by
  intro a0 k
  obtain ⟨ih0, ih1⟩ := words_Name.mono_l k
  unfold words_Name.f
  repeat' first
      | (with_reducible exact ih0 _ _)
      | (with_reducible exact ih1 _ _ _)
      | (with_reducible exact LeO.refl _)
      | (with_reducible exact LeO.none _)
      | (with_reducible refine LeO.ite ?_ ?_)
      | (with_reducible refine LeO.bind ?_ (fun _ => ?_))
      | exact ih0 _ _
      | exact ih1 _ _ _
      | exact LeO.none _
      | refine LeO.ite ?_ ?_
      | refine LeO.bind ?_ (fun _ => ?_)
set_option maxHeartbeats 8000000 in
set_option maxRecDepth 100000 in
theorem words_Name.calls (k : Nat) (a0 : ByteArray) (r : Bool) (w : World) (h : words_Name.f k a0 = some r) :
    Calls Try.prog 33 #[.string a0] w fun e w' => e = .returned (.bool r) ∧ Drawn0 w w' := by
  have H : (if a0.toList = ([] : List UInt8) then (words_Name.j0 k a0 true) else (if (a0.size : Int) > 12 then (words_Name.j0 k a0 true) else (if 0 < (a0.size : Int) then ((words_letter.f (bt a0 0)).bind fun t155 => (words_Name.j0 k a0 (!t155))) else (none)))) = some r := h
  clear h
  have HC2 := Aside0.mk H
  clear H
  go_enter Try.func33, Try.ntmps33
  go_upto_region 1 with (fail)
  go_cut [16] (fun v16 wc => ∃ (kq : Nat) (x16_1 : Bool), v16 = .bool x16_1 ∧ Aside0 (words_Name.j0 kq a0 x16_1 = some r) ∧ Aside0 (kq ≤ k) ∧ Drawn0 w wc)
  case first =>
    have H := HC2.out
    clear HC2
    by_cases c3 : a0.toList = ([] : List UInt8)
    · rw [if_pos c3] at H
      have c3b0 : (a0.toList == ([] : List UInt8)) = true := beq_iff_eq.mpr c3
      have c3b1 : (a0.toList != ([] : List UInt8)) = false := bne_eq_false_iff_eq.mpr c3
      clear c3
      (first | rw [c3b0] | (simp only [i64_w, i32_w]; rw [c3b0]) | rw [c3b1] | skip)
      have H' := Aside0.mk H
      clear H
      go_wp2
      go_meet
      case rel => exact ⟨_, (true), (by first | rfl | (simp; done) | (simp [*]; done)), H', ⟨by first | omega | exact Nat.le_refl _⟩, by repeat (first | exact Drawn0.refl _ | apply Drawn0.step)⟩
    · rw [if_neg c3] at H
      have c3b0 : (a0.toList == ([] : List UInt8)) = false := beq_eq_false_iff_ne.mpr c3
      have c3b1 : (a0.toList != ([] : List UInt8)) = true := bne_iff_ne.mpr c3
      (first | rw [c3b0] | (simp only [i64_w, i32_w]; rw [c3b0]) | rw [c3b1] | skip)
      by_cases c4 : (a0.size : Int) > 12
      · rw [if_pos c4] at H
        have c4b0 : decide (12 < (a0.size : Int)) = true := decide_eq_true c4
        have c4b1 : decide (12 < a0.size) = true := decide_eq_true (by omega)
        clear c4
        have H' := Aside0.mk H
        clear H
        go_wp2
        go_meet
        case rel => exact ⟨_, (true), (by first | rfl | (simp; done) | (simp [*]; done)), H', ⟨by first | omega | exact Nat.le_refl _⟩, by repeat (first | exact Drawn0.refl _ | apply Drawn0.step)⟩
      · rw [if_neg c4] at H
        have c4b0 : decide (12 < (a0.size : Int)) = false := decide_eq_false c4
        have c4b1 : decide (12 < a0.size) = false := decide_eq_false (by omega)
        clear c4
        by_cases c5 : 0 < (a0.size : Int)
        · rw [if_pos c5] at H
          have c5b0 : decide (0 < (a0.size : Int)) = true := decide_eq_true c5
          have c5b1 : decide (0 < a0.size) = true := decide_eq_true (by omega)
          clear c5
          replace H := Option.bind_eq_some_iff.mp H
          obtain ⟨t155, A70, H⟩ := H
          replace H : (words_Name.j0 k a0 (!t155)) = some r := H
          have A7 := Aside0.mk A70
          clear A70
          have H' := Aside0.mk H
          clear H
          have p6 : 0 ≤ (0 : Int) := (by omega)
          have q6 : 0 < a0.size := (by have : (0 : Int) < (a0.size : Int) := of_decide_eq_true (by first | (with_reducible assumption) | assumption); omega)
          have hx6 : ∀ h : 0 < a0.size, ((a0[0]'h).toNat : Int) = bt a0 0 := bt_at a0 0
          clear p6
          have qi6 : (0 < (a0.size : Int)) = True := eq_true (of_decide_eq_true (by first | (with_reducible assumption) | assumption))
          replace q6 := eq_true q6
          go_wp2_with (first | (go_at_call 53; (with_reducible refine (words_letter.calls (bt a0 0) t155 _ A7.out).mono ?_); rintro e w' ⟨rfl, ⟨nd, rfl⟩⟩))
          go_meet
          case rel => exact ⟨_, (!t155), (by first | rfl | (simp; done) | (simp [*]; done)), H', ⟨by first | omega | exact Nat.le_refl _⟩, by repeat (first | exact Drawn0.refl _ | apply Drawn0.step)⟩
        · rw [if_neg c5] at H
          exact absurd H (by simp)
  case rest =>
    clear HC2
    try clear p2
    try clear c3
    try clear c3b0
    try clear c3b1
    try clear c4
    try clear c4b0
    try clear c4b1
    try clear c5
    try clear c5b0
    try clear c5b1
    try clear p6
    try clear q6
    try clear hx6
    try clear qi6
    try clear p6
    try clear q6
    obtain ⟨kq, x16_1, rfl, HA, HJ1, ⟨mc1, rfl⟩⟩ := hcut
    cases kq with
    | zero => exact absurd HA.out (by simp [words_Name.j0])
    | succ kj1 =>
      have H := HA.out
      clear HA
      simp only [words_Name.j0] at H
      by_cases c8 : x16_1 = true
      · subst c8
        have H1 : (some false) = some r := by rw [if_pos rfl] at H; exact H
        clear H
        have H := H1
        clear H1
        obtain rfl := Option.some.inj H
        go_wp2
        go_ret
        exact ⟨by first | rfl | (simp; done) | (simp [*]; done), by repeat (first | exact Drawn0.refl _ | apply Drawn0.step)⟩
      · replace c8 := Bool.eq_false_iff.mpr c8
        subst c8
        have H1 : (words_Name.l0 kj1 a0 (a0.size : Int) 0) = some r := by rw [if_neg (show ¬ (false = true) by decide)] at H; exact H
        clear H
        have H := H1
        clear H1
        have H' := Aside0.mk H
        clear H
        go_wp2
        go_loopg [19] kj1 (fun kq v19 w' => ∃ (x19_2 : Int), v19 = .int .i64 x19_2 ∧ Aside0 (words_Name.l0 kq a0 (a0.size : Int) x19_2 = some r) ∧ Aside0 (kq ≤ kj1) ∧ Drawn0 w w')
        case atStart => exact ⟨(0), (by first | rfl | (simp; done) | (simp [*]; done)), H', ⟨Nat.le_refl _⟩, by repeat (first | exact Drawn0.refl _ | apply Drawn0.step)⟩
        case round =>
          clear H'
          try clear c1
          try clear p2
          try clear c3
          try clear c3b0
          try clear c3b1
          try clear c4
          try clear c4b0
          try clear c4b1
          try clear c5
          try clear c5b0
          try clear c5b1
          try clear p6
          try clear q6
          try clear hx6
          try clear qi6
          try clear c8
          try clear p2
          try clear p6
          try clear q6
          obtain ⟨x19_2, rfl, HA, HK2, ⟨m2, rfl⟩⟩ := hrel
          cases gk with
          | zero => exact absurd HA.out (by simp [words_Name.l0])
          | succ k2 =>
            have H := HA.out
            clear HA
            simp only [words_Name.l0] at H
            by_cases c9 : x19_2 < (a0.size : Int)
            · rw [if_pos c9] at H
              have c9b0 : decide (x19_2 < (a0.size : Int)) = true := decide_eq_true c9
              clear c9
              by_cases c10 : 0 ≤ x19_2
              · rw [if_pos c10] at H
                have c10b0 : decide (0 ≤ x19_2) = true := decide_eq_true c10
                clear c10
                by_cases c11 : x19_2 < (a0.size : Int)
                · rw [if_pos c11] at H
                  have c11b0 : decide (x19_2 < (a0.size : Int)) = true := decide_eq_true c11
                  clear c11
                  replace H := Option.bind_eq_some_iff.mp H
                  obtain ⟨t156, A130, H⟩ := H
                  replace H : (if t156 = true then (words_Name.l0 k2 a0 (a0.size : Int) (wrap64 (x19_2 + 1))) else ((words_digit.f (bt a0 x19_2)).bind fun t157 => (if t157 = true then (words_Name.l0 k2 a0 (a0.size : Int) (wrap64 (x19_2 + 1))) else (some false)))) = some r := H
                  have A13 := Aside0.mk A130
                  clear A130
                  by_cases c14 : t156 = true
                  · subst c14
                    have H1 : (words_Name.l0 k2 a0 (a0.size : Int) (wrap64 (x19_2 + 1))) = some r := by rw [if_pos rfl] at H; exact H
                    clear H
                    have H := H1
                    clear H1
                    have H' := Aside0.mk H
                    clear H
                    have p12 : 0 ≤ (x19_2 : Int) := of_decide_eq_true (by first | (with_reducible assumption) | assumption)
                    have q12 : x19_2 < (a0.size : Int) := of_decide_eq_true (by first | (with_reducible assumption) | assumption)
                    have hx12 := bt_at a0 x19_2
                    replace p12 := eq_true p12
                    replace q12 := eq_true q12
                    go_wp2_with (first | ((with_reducible refine gate_callee (f := 53) rfl ?_); refine goesL_ (some 25) rfl rfl Try.func53 (by kernel_rfl) rfl #[.int .u8 (bt a0 x19_2)] rfl (by (try simp only [List.map_toArray, List.map_cons, List.map_nil]); first | done | rfl | (simp only [List.length_drop, List.length_take]; rfl)) ?_; (with_reducible refine (words_letter.calls (bt a0 x19_2) true _ A13.out).mono ?_); rintro e w' ⟨rfl, ⟨nd, rfl⟩⟩; refine ⟨_, rfl, ?_⟩))
                    go_roundg k2
                    case measure => have := HJ1.out; have := HK2.out; omega
                    case rel => exact ⟨(wrap64 (x19_2 + 1)), (by first | rfl | (simp; done) | (simp [*]; done)), H', ⟨by have := HJ1.out; have := HK2.out; omega⟩, by repeat (first | exact Drawn0.refl _ | apply Drawn0.step)⟩
                  · replace c14 := Bool.eq_false_iff.mpr c14
                    subst c14
                    have H1 : ((words_digit.f (bt a0 x19_2)).bind fun t157 => (if t157 = true then (words_Name.l0 k2 a0 (a0.size : Int) (wrap64 (x19_2 + 1))) else (some false))) = some r := by rw [if_neg (show ¬ (false = true) by decide)] at H; exact H
                    clear H
                    have H := H1
                    clear H1
                    replace H := Option.bind_eq_some_iff.mp H
                    obtain ⟨t157, A160, H⟩ := H
                    replace H : (if t157 = true then (words_Name.l0 k2 a0 (a0.size : Int) (wrap64 (x19_2 + 1))) else (some false)) = some r := H
                    have A16 := Aside0.mk A160
                    clear A160
                    by_cases c17 : t157 = true
                    · subst c17
                      have H1 : (words_Name.l0 k2 a0 (a0.size : Int) (wrap64 (x19_2 + 1))) = some r := by rw [if_pos rfl] at H; exact H
                      clear H
                      have H := H1
                      clear H1
                      have H' := Aside0.mk H
                      clear H
                      have p12 : 0 ≤ (x19_2 : Int) := of_decide_eq_true (by first | (with_reducible assumption) | assumption)
                      have q12 : x19_2 < (a0.size : Int) := of_decide_eq_true (by first | (with_reducible assumption) | assumption)
                      have hx12 := bt_at a0 x19_2
                      replace p12 := eq_true p12
                      replace q12 := eq_true q12
                      go_wp2_with (first | ((with_reducible refine gate_callee (f := 53) rfl ?_); refine goesL_ (some 25) rfl rfl Try.func53 (by kernel_rfl) rfl #[.int .u8 (bt a0 x19_2)] rfl (by (try simp only [List.map_toArray, List.map_cons, List.map_nil]); first | done | rfl | (simp only [List.length_drop, List.length_take]; rfl)) ?_; (with_reducible refine (words_letter.calls (bt a0 x19_2) false _ A13.out).mono ?_); rintro e w' ⟨rfl, ⟨nd, rfl⟩⟩; refine ⟨_, rfl, ?_⟩; have p15 : 0 ≤ (x19_2 : Int) := of_decide_eq_true (by first | (with_reducible assumption) | assumption); have q15 : x19_2 < (a0.size : Int) := of_decide_eq_true (by first | (with_reducible assumption) | assumption); have hx15 := bt_at a0 x19_2; replace p15 := eq_true p15; replace q15 := eq_true q15) | (go_at_call 54; (with_reducible refine (words_digit.calls (bt a0 x19_2) true _ A16.out).mono ?_); rintro e w' ⟨rfl, ⟨nd, rfl⟩⟩))
                      go_roundg k2
                      case measure => have := HJ1.out; have := HK2.out; omega
                      case rel => exact ⟨(wrap64 (x19_2 + 1)), (by first | rfl | (simp; done) | (simp [*]; done)), H', ⟨by have := HJ1.out; have := HK2.out; omega⟩, by repeat (first | exact Drawn0.refl _ | apply Drawn0.step)⟩
                    · replace c17 := Bool.eq_false_iff.mpr c17
                      subst c17
                      have H1 : (some false) = some r := by rw [if_neg (show ¬ (false = true) by decide)] at H; exact H
                      clear H
                      have H := H1
                      clear H1
                      obtain rfl := Option.some.inj H
                      have p12 : 0 ≤ (x19_2 : Int) := of_decide_eq_true (by first | (with_reducible assumption) | assumption)
                      have q12 : x19_2 < (a0.size : Int) := of_decide_eq_true (by first | (with_reducible assumption) | assumption)
                      have hx12 := bt_at a0 x19_2
                      replace p12 := eq_true p12
                      replace q12 := eq_true q12
                      go_wp2_with (first | ((with_reducible refine gate_callee (f := 53) rfl ?_); refine goesL_ (some 25) rfl rfl Try.func53 (by kernel_rfl) rfl #[.int .u8 (bt a0 x19_2)] rfl (by (try simp only [List.map_toArray, List.map_cons, List.map_nil]); first | done | rfl | (simp only [List.length_drop, List.length_take]; rfl)) ?_; (with_reducible refine (words_letter.calls (bt a0 x19_2) false _ A13.out).mono ?_); rintro e w' ⟨rfl, ⟨nd, rfl⟩⟩; refine ⟨_, rfl, ?_⟩; have p15 : 0 ≤ (x19_2 : Int) := of_decide_eq_true (by first | (with_reducible assumption) | assumption); have q15 : x19_2 < (a0.size : Int) := of_decide_eq_true (by first | (with_reducible assumption) | assumption); have hx15 := bt_at a0 x19_2; replace p15 := eq_true p15; replace q15 := eq_true q15) | (go_at_call 54; (with_reducible refine (words_digit.calls (bt a0 x19_2) false _ A16.out).mono ?_); rintro e w' ⟨rfl, ⟨nd, rfl⟩⟩))
                      go_ret
                      exact ⟨by first | rfl | (simp; done) | (simp [*]; done), by repeat (first | exact Drawn0.refl _ | apply Drawn0.step)⟩
                · rw [if_neg c11] at H
                  exact absurd H (by simp)
              · rw [if_neg c10] at H
                exact absurd H (by simp)
            · rw [if_neg c9] at H
              have c9b0 : decide (x19_2 < (a0.size : Int)) = false := decide_eq_false c9
              clear c9
              obtain rfl := Option.some.inj H
              go_wp2
              go_ret
              exact ⟨by first | rfl | (simp; done) | (simp [*]; done), by repeat (first | exact Drawn0.refl _ | apply Drawn0.step)⟩

/-! ### fund_Changes: function 16 -/
/-! what members pay, or get back, in closed form -/
def leB (s p : ByteArray) : Bool := Op.bytesLess s.toList p.toList || s.toList == p.toList
theorem bl_irrefl (x : List UInt8) : Op.bytesLess x x = false := by
  induction x with
  | nil => rfl
  | cons a x ih => simp [Op.bytesLess, ih, UInt8.lt_irrefl]
theorem bl_trans : ∀ (x y z : List UInt8), Op.bytesLess x y = true → Op.bytesLess y z = true → Op.bytesLess x z = true := by
  intro x
  induction x with
  | nil =>
    intro y z h1 h2
    cases z with
    | nil => cases y <;> simp [Op.bytesLess] at h2
    | cons c z => rfl
  | cons a x ih =>
    intro y z h1 h2
    cases y with
    | nil => simp [Op.bytesLess] at h1
    | cons b y =>
      cases z with
      | nil => simp [Op.bytesLess] at h2
      | cons c z =>
        simp only [Op.bytesLess, Bool.or_eq_true, decide_eq_true_eq, Bool.and_eq_true, beq_iff_eq] at h1 h2 ⊢
        rcases h1 with h1 | ⟨rfl, h1⟩
        · rcases h2 with h2 | ⟨rfl, h2⟩
          · exact .inl (UInt8.lt_trans h1 h2)
          · exact .inl h1
        · rcases h2 with h2 | ⟨rfl, h2⟩
          · exact .inl h2
          · exact .inr ⟨rfl, ih y z h1 h2⟩
theorem bl_total : ∀ (x y : List UInt8), Op.bytesLess x y = false → (x == y) = false → Op.bytesLess y x = true := by
  intro x
  induction x with
  | nil => intro y h1 h2; cases y with
    | nil => simp at h2
    | cons b y => simp [Op.bytesLess] at h1
  | cons a x ih =>
    intro y h1 h2
    cases y with
    | nil => rfl
    | cons b y =>
      simp only [Op.bytesLess, Bool.or_eq_false_iff, decide_eq_false_iff_not, Bool.or_eq_true, decide_eq_true_eq, Bool.and_eq_true, beq_iff_eq] at h1 ⊢
      obtain ⟨h3, h4⟩ := h1
      by_cases hab : a = b
      · subst hab
        simp only [beq_self_eq_true, Bool.true_and] at h4
        exact .inr ⟨rfl, ih y h4 (by simpa using h2)⟩
      · refine .inl ?_
        rcases UInt8.lt_or_lt_of_ne hab with h | h
        · exact absurd h h3
        · exact h
theorem le_less {s p : ByteArray} (h : leB s p = false) : Op.bytesLess p.toList s.toList = true := by
  unfold leB at h
  rw [Bool.or_eq_false_iff] at h
  exact bl_total _ _ h.1 h.2
/-- the names, each behind the one ahead, from place i on -/
def incrFrom (names : List ByteArray) (i : Nat) : Bool := ((List.range names.length).drop i).all (fun j => j == 0 || !leB (names.getD j ByteArray.empty) (names.getD (j - 1) ByteArray.empty))
theorem range_drop (n i : Nat) (h : i < n) : (List.range n).drop i = i :: (List.range n).drop (i + 1) := by
  rw [List.drop_eq_getElem_cons (by simpa using h)]; simp
theorem incr_cons (names : List ByteArray) (i : Nat) (h : i < names.length) : incrFrom names i = ((i == 0 || !leB (names.getD i ByteArray.empty) (names.getD (i - 1) ByteArray.empty)) && incrFrom names (i + 1)) := by
  unfold incrFrom
  rw [range_drop _ _ h, List.all_cons]
theorem incr_end (names : List ByteArray) : incrFrom names names.length = true := by
  unfold incrFrom
  rw [List.drop_eq_nil_of_le (by simp)]; rfl
theorem chain_less (names : List ByteArray) (i : Nat) (h : ∀ j, 0 < j → j < i → leB (names.getD j ByteArray.empty) (names.getD (j - 1) ByteArray.empty) = false) : ∀ d j : Nat, j + d + 1 < i → Op.bytesLess (names.getD j ByteArray.empty).toList (names.getD (j + d + 1) ByteArray.empty).toList = true := by
  intro d
  induction d with
  | zero => intro j hj; exact le_less (h (j + 1) (by omega) hj)
  | succ d ih => intro j hj; exact bl_trans _ _ _ (ih j (by omega)) (le_less (h (j + d + 1 + 1) (by omega) hj))
theorem chain_ne (names : List ByteArray) (i : Nat) (h : ∀ j, 0 < j → j < i → leB (names.getD j ByteArray.empty) (names.getD (j - 1) ByteArray.empty) = false) (j k : Nat) (hjk : j < k) (hk : k < i) : (names.getD j ByteArray.empty).data.toList ≠ (names.getD k ByteArray.empty).data.toList := by
  intro e
  have := chain_less names i h (k - j - 1) j (by omega)
  rw [show j + (k - j - 1) + 1 = k by omega, ByteArray.toList_eq, ByteArray.toList_eq, e, bl_irrefl] at this
  cases this
def namesAll (k : Nat) : List ByteArray → Option Bool
  | [] => some true
  | s :: l => (words_Name.f k s).bind fun b => if b = true then namesAll k l else some false
def moneyAll : List Int → List Int → Bool
  | a :: l, b :: m => if okMoney a = true then (if okMoney b = true then moneyAll l m else false) else false
  | _, _ => true
def chgGo : List ByteArray → List Int → List Int → List S48
  | s :: ss, a :: l, b :: m => if wrap64 (a - b) = 0 then chgGo ss l m else (⟨s, 0, wrap64 (a - b), 7⟩ : S48) :: chgGo ss l m
  | _, _, _ => []
def chgFits (names : List ByteArray) (now : List Int) : Bool := names.all (fun s => decide (s.size ≤ 9223372036854775807)) && now.all (fun a => (Lit.int .i64 a).wf)
def fund_Changes.f (k : Nat) (names : List ByteArray) (now then_ : List Int) : Option (List S48 × Int) :=
  if names.length > 32 ∨ ¬ now.length = names.length ∨ ¬ then_.length = names.length then some ([], 8)
  else (namesAll k names).bind fun ok => if ok = true then (if chgFits names now = true then (if incrFrom names 0 = true then (if moneyAll now then_ = true then some (chgGo names now then_, 0) else some ([], 2)) else some ([], 12)) else none) else some ([], 10)
theorem namesAll_mono (k : Nat) (l : List ByteArray) : LeO (namesAll k l) (namesAll (k + 1) l) := by
  induction l with
  | nil => exact LeO.refl _
  | cons s l ih => exact LeO.bind (words_Name.mono s k) fun b => LeO.ite ih (LeO.refl _)
theorem fund_Changes.mono : ∀ a0 a1 a2 k, LeO (fund_Changes.f k a0 a1 a2) (fund_Changes.f (k + 1) a0 a1 a2) := by
  intro a0 a1 a2 k
  unfold fund_Changes.f
  exact LeO.ite (LeO.refl _) (LeO.bind (namesAll_mono k a0) fun t => LeO.refl _)
theorem dropE {α : Type} (z : α) (l : List α) (i : Nat) (h : i < l.length) : l.drop i = l.getD i z :: l.drop (i + 1) := by
  rw [List.drop_eq_getElem_cons h, List.getD_eq_getElem?_getD, List.getElem?_eq_getElem h]; rfl
set_option maxHeartbeats 1000000 in
set_option maxRecDepth 100000 in
theorem chg_8 (A0 : Option Addr) (c0 : Nat) (names : List ByteArray) (A1 : Option Addr) (c1 : Nat) (now : List Int) (A2 : Option Addr) (c2 : Nat) (then_ : List Int) (w : World) (h : names.length > 32 ∨ ¬ now.length = names.length ∨ ¬ then_.length = names.length) :
    Calls Try.prog 16 #[.slice A0 names.length c0, .slice A1 now.length c1, .slice A2 then_.length c2] w fun e w' => e = .returned (.tuple #[.slice none 0 0, .int .i64 8]) ∧ Below w.heap.size w w' := by
  have d1 : ∀ a b : Nat, ((a : Int) == (b : Int)) = decide (a = b) := fun a b => by
    by_cases e : a = b
    · subst e; simp
    · rw [decide_eq_false e]; exact beq_eq_false_iff_ne.2 (by omega)
  generalize names.length = n at *
  generalize now.length = m at *
  generalize then_.length = q at *
  by_cases h1 : n > 32
  · have e1 : decide (32 < n) = true := decide_eq_true h1
    have e2 : decide (32 < (n : Int)) = true := decide_eq_true (by omega)
    clear h d1 h1
    go_enter Try.func16, Try.ntmps16
    go_wp2
    go_ret2
    exact ⟨rfl, Below.refl _ _⟩
  · have e1 : decide (32 < n) = false := decide_eq_false h1
    have e2 : decide (32 < (n : Int)) = false := decide_eq_false (by omega)
    by_cases h2 : m = n
    · subst h2
      have h3 : ¬ q = m := by rcases h with h | h | h
                              · exact absurd h h1
                              · exact absurd rfl h
                              · exact h
      have e3 : ((q : Int) != (m : Int)) = true := bne_iff_ne.2 (by omega)
      have e4 : (q != m) = true := bne_iff_ne.2 h3
      clear h d1 h1
      go_enter Try.func16, Try.ntmps16
      go_wp2
      go_ret2
      exact ⟨rfl, Below.refl _ _⟩
    · have e3 : ((m : Int) != (n : Int)) = true := bne_iff_ne.2 (by omega)
      have e4 : (m != n) = true := bne_iff_ne.2 h2
      clear h d1 h1
      go_enter Try.func16, Try.ntmps16
      go_wp2
      go_ret2
      exact ⟨rfl, Below.refl _ _⟩
theorem fmoney_some2 (n : Int) : fund_money.f n = some (okMoney n) := by
  unfold fund_money.f
  by_cases h : n ≥ 0
  · rw [if_pos h]
    unfold cents_Fits.f okMoney
    rw [if_pos (by omega), decide_eq_true (show 0 ≤ n by omega)]; rfl
  · rw [if_neg h]; unfold okMoney; rw [decide_eq_false (show ¬ 0 ≤ n by omega)]; rfl
theorem map_apart {α H : Type} {d : Kd α} {P : Program} {k : TypeId} {R : Value → Option (DataW H × List MemPlace)} {W : World} {b n e base : Nat} {D : DataW H} {ok : Nat → Prop} {v : Value} {xs : List α} (hm : W.ownsMap P k R b n D) (ho : d.R e W base ok v xs) : some b ≠ v.ownBlock := fun he => by
  obtain ⟨cells, hc⟩ := Kd.R_typed ho b he.symm
  obtain ⟨es, cl, hb, _⟩ := hm
  rw [hb] at hc; cases hc
set_option maxHeartbeats 4000000 in
set_option maxRecDepth 100000 in
theorem chg_main (k : Nat) (A0 : Option Addr) (c0 : Nat) (names : List ByteArray) (A1 : Option Addr) (c1 : Nat) (now : List Int) (A2 : Option Addr) (c2 : Nat) (then_ : List Int) (r1 : List S48) (r2 : Int) (w : World)
    (hr0 : Kd.C Kd.string w A0 names.length names) (hr1 : Kd.C (Kd.int .i64) w A1 now.length now) (hr2 : Kd.C (Kd.int .i64) w A2 then_.length then_) (h32 : names.length ≤ 32) (hn1 : now.length = names.length) (hn2 : then_.length = names.length)
    (hf : ((namesAll k names).bind fun ok => if ok = true then (if chgFits names now = true then (if incrFrom names 0 = true then (if moneyAll now then_ = true then some (chgGo names now then_, 0) else some ([], 2)) else some ([], 12)) else none) else some ([], 10)) = some (r1, r2)) :
    Calls Try.prog 16 #[.slice A0 names.length c0, .slice A1 now.length c1, .slice A2 then_.length c2] w fun e w' => ∃ v0_ : Value, e = .returned (.tuple #[v0_, .int .i64 r2]) ∧ Kd.R k48 48 w' w.heap.size (fun _ => True) v0_ r1 ∧ Below w.heap.size w w' := by
  have HR0 := Aside0.mk hr0
  have HR1 := Aside0.mk hr1
  have HR2 := Aside0.mk hr2
  have HF := Aside0.mk hf
  clear hr0 hr1 hr2 hf
  rw [hn1, hn2]
  rw [hn1] at HR1
  rw [hn2] at HR2
  generalize hn : names.length = n at *
  have e1 : decide (32 < n) = false := decide_eq_false (by omega)
  have e2 : decide (32 < (n : Int)) = false := decide_eq_false (by omega)
  have hmm := @run_makeMap Try.prog
  have law : Go.Maps.Keyed Try.prog 9 := Go.Maps.string_keyed Try.underlying9
  have hzero : ∀ W, (zeroValue 3).run Try.prog W = .ok (.int .i64 0) W := fun W => by kernel_rfl
  go_enter Try.func16, Try.ntmps16
  go_wp2
  -- the names
  go_loopw [6, 7, 36] (fun v6 v7 v36 wr => ∃ (i : Nat) (nq : Nat), i ≤ n ∧ v6 = .slice none 0 0 ∧ v7 = .int .i64 0 ∧ v36 = .int .i64 i ∧ Aside0 (((namesAll k (names.drop i)).bind fun ok => if ok = true then (if chgFits names now = true then (if incrFrom names 0 = true then (if moneyAll now then_ = true then some (chgGo names now then_, 0) else some ([], 2)) else some ([], 12)) else none) else some ([], 10)) = some (r1, r2)) ∧ wr = w.drewN nq) (fun _ _ v36 _ => n - (intOf v36).toNat)
  case atStart => exact ⟨0, 0, by omega, rfl, rfl, rfl, by rw [List.drop_zero]; exact HF, rfl⟩
  case round =>
    clear HF
    obtain ⟨i, nq, hi, rfl, rfl, rfl, HF, rfl⟩ := hrel
    by_cases hlt : i < n
    · have hf := HF.out
      rw [dropE ByteArray.empty names i (by omega), namesAll] at hf
      obtain ⟨ad, e1, hc1⟩ := Kd.at_string HR0.out (i : Int) (by omega) (by omega)
      subst e1
      rw [show rdOf ByteArray.empty names (i : Int) = names.getD i ByteArray.empty from rfl, Int.toNat_natCast] at hc1
      have hd1 : decide ((i : Int) < (n : Int)) = true := decide_eq_true (by omega)
      have hd2 : decide (i < n) = true := decide_eq_true hlt
      generalize names.getD i ByteArray.empty = s at *
      cases hb : words_Name.f k s with
      | none => rw [hb] at hf; cases hf
      | some b =>
        rw [hb, Option.bind_some] at hf
        have HB := Aside0.mk hb
        clear hb HF
        cases b with
        | false =>
          rw [if_neg (by decide), Option.bind_some, if_neg (by decide)] at hf
          cases hf
          go_wp2_with (go_at_call 33; refine (words_Name.calls k s false _ HB.out).mono ?_; rintro e w1 ⟨rfl, ⟨⟨n3, rfl⟩⟩⟩)
          go_ret2
          exact ⟨_, rfl, Kd.R_nil _ _ _ _ _, by repeat (first | exact Below.refl _ _ | apply pw_below_drewN)⟩
        | true =>
          rw [if_pos rfl] at hf
          have HF := Aside0.mk hf
          clear hf
          go_wp2_with (go_at_call 33; refine (words_Name.calls k s true _ HB.out).mono ?_; rintro e w1 ⟨rfl, ⟨⟨n3, rfl⟩⟩⟩)
          go_roundw
          case measure => simp [intOf]; omega
          case rel => exact ⟨i + 1, nq + n3, by omega, rfl, rfl, by go_num, HF, by first | rfl | simp [World.drewN_add]⟩
    · have : i = n := by omega
      subst this
      have hf := HF.out
      rw [show names.drop i = [] from by rw [← hn]; exact List.drop_length, namesAll, Option.bind_some, if_pos rfl] at hf
      have hd1 : decide ((i : Int) < (i : Int)) = false := decide_eq_false (by omega)
      by_cases hfit : chgFits names now = true
      · rw [if_pos hfit] at hf
        have HFT := Aside0.mk hfit
        have HF2 := Aside0.mk hf
        clear hf HF hfit
        have HBL := Aside0.mk (pw_below_drewN (Below.refl w.heap.size w) nq)
        generalize w.drewN nq = w5 at *
        have hfits := HFT.out
        unfold chgFits at hfits
        rw [Bool.and_eq_true, List.all_eq_true, List.all_eq_true] at hfits
        obtain ⟨hfs, hfw⟩ := hfits
        have HFS := Aside0.mk (show ∀ j, keyOf Try.prog 9 (.string (names.getD j ByteArray.empty)) = some (.string (names.getD j ByteArray.empty).data.toList) from fun j => Go.WideMaps.keyOf_string_mk Try.underlying9 (by
          by_cases hj : j < names.length
          · rw [List.getD_eq_getElem?_getD, List.getElem?_eq_getElem hj]; exact (of_decide_eq_true (hfs _ (List.getElem_mem hj)) : _ ≤ 9223372036854775807)
          · rw [List.getD_eq_getElem?_getD, List.getElem?_eq_none (by omega)]; exact Nat.zero_le _))
        have HFW := Aside0.mk (show ∀ j, j < i → (Lit.int .i64 (now.getD j 0)).wf = true from fun j hj => by
          rw [List.getD_eq_getElem?_getD, List.getElem?_eq_getElem (by rw [hn1]; exact hj)]; exact hfw _ (List.getElem_mem _))
        clear hfs hfw HFT
        have hmB := Aside0.mk (show Below w.heap.size w (w5.alloc (.map #[] 0)) from below_alloc HBL.out _)
        have hmO := Aside0.mk (World.ownsMap_made (H := Unit) w5 Try.prog 9 (plainElem Try.prog 3))
        have hgm := HBL.out.size
        go_upto_region 10 with fail
        clear HBL
        generalize w5.alloc (.map #[] 0) = w6 at *
        generalize w5.heap.size = gm at *
        go_wp2
        -- the map
        go_loopw [6, 7, 11, 12, 47] (fun v6 v7 v11 v12 v47 wr => ∃ (j : Nat) (D : DataW Unit), j ≤ i ∧ v6 = .slice none 0 0 ∧ v7 = .int .i64 0 ∧ v47 = .int .i64 j ∧ Aside0 ((if incrFrom names j = true then (if moneyAll now then_ = true then some (chgGo names now then_, 0) else some ([], 2)) else some ([], 12)) = some (r1, r2)) ∧ Aside0 (wr.ownsMap Try.prog 9 (plainElem Try.prog 3) gm j D) ∧ Aside0 (Go.Maps.IsMap D ∧ (∀ m, 0 < m → m < j → leB (names.getD m ByteArray.empty) (names.getD (m - 1) ByteArray.empty) = false) ∧ ∀ m, m < j → D.atKey (.string (names.getD m ByteArray.empty).data.toList) (.lit (.int .i64 0)) = .lit (.int .i64 (now.getD m 0))) ∧ Aside0 (Below w.heap.size w wr)) (fun _ _ _ _ v47 _ => i - (intOf v47).toNat)
        case atStart => exact ⟨0, _, by omega, rfl, rfl, rfl, HF2, hmO, ⟨Go.Maps.isMap_empty, fun m h0 h1 => by omega, fun m hm => by omega⟩, hmB⟩
        case round =>
          clear HF2 hmO hmB
          obtain ⟨j, D, hj, rfl, rfl, rfl, HF2, hmO, HD, hmB⟩ := hrel
          by_cases hlt2 : j < i
          · have hf := HF2.out
            rw [incr_cons names j (by omega)] at hf
            obtain ⟨hD1, hD2, hD3⟩ := HD.out
            obtain ⟨ad, ea, hc1⟩ := Kd.at_string (Kd.C_below HR0.out hmB.out) (j : Int) (by omega) (by omega)
            subst ea
            obtain ⟨s, hs⟩ : ∃ s, s = names.getD j ByteArray.empty := ⟨_, rfl⟩
            obtain ⟨p, hp⟩ : ∃ p, p = names.getD (j - 1) ByteArray.empty := ⟨_, rfl⟩
            obtain ⟨a, ha⟩ : ∃ a, a = now.getD j 0 := ⟨_, rfl⟩
            rw [show rdOf ByteArray.empty names (j : Int) = names.getD j ByteArray.empty from rfl, Int.toNat_natCast, ← hs] at hc1
            obtain ⟨ad1, ea, hc2⟩ := Kd.at_int (Kd.C_below HR1.out hmB.out) (j : Int) (by omega) (by omega)
            subst ea
            rw [show rd now (j : Int) = now.getD j 0 from rfl, Int.toNat_natCast, ← ha] at hc2
            have hkey := HFS.out j
            have hwf := HFW.out j hlt2
            rw [← hs] at hkey
            rw [← ha] at hwf
            rw [← hs, ← hp] at hf
            have HS := Aside0.mk hs
            have HP := Aside0.mk hp
            have HAA := Aside0.mk ha
            clear hs hp ha
            have hd1 : decide ((j : Int) < (i : Int)) = true := decide_eq_true (by omega)
            have hd2 : decide (j < i) = true := decide_eq_true hlt2
            have hd7 : decide ((0 : Int) ≤ (j : Int)) = true := decide_eq_true (by omega)
            -- the test, as one Boolean
            go_upto_region 13 with fail
            go_cut [62] (fun v62 wc => v62 = .bool (!(j == 0 || !leB s p)) ∧ wc = wr)
            case first =>
              by_cases hj0 : j = 0
              · subst hj0
                go_wp2
                go_meet
                case rel => exact ⟨rfl, rfl⟩
              · have hd3 : decide (0 < (j : Int)) = true := decide_eq_true (by omega)
                have hd4 : decide (0 < j) = true := decide_eq_true (by omega)
                have hjw : wrap64 ((j : Int) - 1) = ((j - 1 : Nat) : Int) := by unfold wrap64; omega
                obtain ⟨ad2, ea, hc3⟩ := Kd.at_string (Kd.C_below HR0.out hmB.out) ((j - 1 : Nat) : Int) (by omega) (by omega)
                obtain rfl : ad = ad2 := by injection ea
                rw [show rdOf ByteArray.empty names ((j - 1 : Nat) : Int) = names.getD (j - 1) ByteArray.empty from rfl, Int.toNat_natCast, ← HP.out] at hc3
                have hd5 : decide ((0 : Int) ≤ ((j - 1 : Nat) : Int)) = true := decide_eq_true (by omega)
                have hd6 : decide (((j - 1 : Nat) : Int) < (i : Int)) = true := decide_eq_true (by omega)
                have hd8 : decide (j - 1 < i) = true := decide_eq_true (by omega)
                have hbq : (j == 0) = false := beq_eq_false_iff_ne.2 hj0
                generalize hq : j - 1 = q at *
                go_wp2
                all_goals go_meet
                all_goals first
                  | exact ⟨by simp [leB, hbq], rfl⟩
                  | (case rel => trace_state; exact ⟨by simp [leB, hbq], rfl⟩)
            case rest =>
              obtain ⟨rfl, hwc⟩ := hcut
              have hwc2 := hwc.symm
              clear hwc
              subst hwc2
              generalize hbt : (j == 0 || !leB s p) = bt at *
              cases bt with
              | false =>
                rw [Bool.false_and, if_neg (by decide)] at hf
                cases hf
                go_wp2
                go_ret2
                exact ⟨_, rfl, Kd.R_nil _ _ _ _ _, by repeat (first | exact hmB.out | apply pw_below_drewN)⟩
              | true =>
                rw [Bool.true_and] at hf
                have HF3 := Aside0.mk hf
                have HPI := Aside0.mk (show ∀ m, 0 < m → m < j + 1 → leB (names.getD m ByteArray.empty) (names.getD (m - 1) ByteArray.empty) = false from fun m h0 h1 => by
                  by_cases hmj : m < j
                  · exact hD2 m h0 hmj
                  · obtain rfl : m = j := by omega
                    have hm0 : (m == 0) = false := beq_eq_false_iff_ne.2 (by omega)
                    rw [hm0, Bool.false_or] at hbt
                    rw [← HS.out, ← HP.out]
                    simpa using hbt)
                have HPA := Aside0.mk (show Go.Maps.IsMap (D.put (.string s.data.toList) (.lit (.int .i64 a))) ∧ ∀ m, m < j + 1 → (D.put (.string s.data.toList) (.lit (.int .i64 a))).atKey (.string (names.getD m ByteArray.empty).data.toList) (.lit (.int .i64 0)) = .lit (.int .i64 (now.getD m 0)) from ⟨hD1.put _ _, fun m hm => by
                  rw [HS.out, HAA.out]
                  by_cases hmj : m < j
                  · rw [Go.Maps.atKey_put_other (fun e => by
                      injection e with e
                      exact chain_ne names (j + 1) HPI.out m j hmj (by omega) e)]
                    exact hD3 m hmj
                  · obtain rfl : m = j := by omega
                    rw [Go.Maps.atKey_put_same hD1 (show WideAt.IsKeyLit (.string _) from trivial)]⟩)
                clear hf HF2 hD1 hD2 hD3 HD hbt
                go_wp2_with (first
                  | (at_mapUpdate; (refine wpList_mapUpdate_own _ rfl _ _ _ 63 rfl 9 3 law Try.underlying63 _ gm j D rfl hmO.out (by unfold maxLen; omega) _ _ _ rfl rfl hkey _ [] (plainElem_int Try.underlying3 hwf) ?_; intro w7 hown7 hgr7; have HO7 := Aside0.mk hown7; have HB7 := Aside0.mk (hmB.out.grown hgr7 hmB.out.size (fun j hj => by cases hj; exact hgm)); clear hown7 hgr7))
                  | fail)
                go_roundw
                case measure => simp [intOf]; omega
                case rel => exact ⟨j + 1, _, by omega, rfl, rfl, by go_num, HF3, HO7, ⟨HPA.out.1, HPI.out, HPA.out.2⟩, HB7⟩
          · have : j = i := by omega
            subst this
            have hf := HF2.out
            rw [show incrFrom names j = true from by rw [← hn]; exact incr_end names, if_pos rfl] at hf
            have hd1 : decide ((j : Int) < (j : Int)) = false := decide_eq_false (by omega)
            have hD3 := HD.out.2.2
            have HAT := Aside0.mk hD3
            have HF4 := Aside0.mk hf
            clear hD3 HD hf HF2
            generalize wr = w8 at *
            go_wp2
            -- the money
            go_loopw [6, 7, 13, 72] (fun v6 v7 v13 v72 wr => ∃ (q nq : Nat), q ≤ j ∧ v6 = .slice none 0 0 ∧ v7 = .int .i64 0 ∧ v72 = .int .i64 q ∧ Aside0 ((if moneyAll (now.drop q) (then_.drop q) = true then some (chgGo names now then_, 0) else some ([], 2)) = some (r1, r2)) ∧ wr = w8.drewN nq) (fun _ _ _ v72 _ => j - (intOf v72).toNat)
            case atStart => exact ⟨0, 0, by omega, rfl, rfl, rfl, by rw [List.drop_zero, List.drop_zero]; exact HF4, rfl⟩
            case round =>
              clear HF4
              obtain ⟨q, nq, hq, rfl, rfl, rfl, HF5, rfl⟩ := hrel
              by_cases hlt3 : q < j
              · have hf := HF5.out
                rw [dropE 0 now q (by omega), dropE 0 then_ q (by omega), moneyAll] at hf
                obtain ⟨ad1, ea, hc1⟩ := Kd.at_int (Kd.C_below HR1.out hmB.out) (q : Int) (by omega) (by omega)
                subst ea
                obtain ⟨ad2, ea, hc2⟩ := Kd.at_int (Kd.C_below HR2.out hmB.out) (q : Int) (by omega) (by omega)
                subst ea
                rw [show rd now (q : Int) = now.getD q 0 from rfl, Int.toNat_natCast] at hc1
                rw [show rd then_ (q : Int) = then_.getD q 0 from rfl, Int.toNat_natCast] at hc2
                have HM1 := Aside0.mk (fmoney_some2 (now.getD q 0))
                have HM2 := Aside0.mk (fmoney_some2 (then_.getD q 0))
                generalize now.getD q 0 = a at *
                generalize then_.getD q 0 = b at *
                have hd1 : decide ((q : Int) < (j : Int)) = true := decide_eq_true (by omega)
                have hd2 : decide (q < j) = true := decide_eq_true hlt3
                generalize okMoney a = b1 at *
                generalize okMoney b = b2 at *
                cases b1 with
                | false =>
                  rw [if_neg (c := false = true) (by decide), if_neg (by decide)] at hf
                  cases hf
                  go_wp2_with (go_at_call 19; refine (fund_money.calls a false _ HM1.out).mono ?_; rintro e w1 ⟨rfl, ⟨⟨n3, rfl⟩⟩⟩)
                  go_ret2
                  exact ⟨_, rfl, Kd.R_nil _ _ _ _ _, by repeat (first | exact hmB.out | apply pw_below_drewN)⟩
                | true =>
                  rw [if_pos (c := true = true) rfl] at hf
                  cases b2 with
                  | false =>
                    rw [if_neg (c := false = true) (by decide), if_neg (by decide)] at hf
                    cases hf
                    go_wp2_with (go_at_call 19; first | (refine (fund_money.calls a true _ HM1.out).mono ?_; rintro e w1 ⟨rfl, ⟨⟨n3, rfl⟩⟩⟩) | (refine (fund_money.calls b false _ HM2.out).mono ?_; rintro e w1 ⟨rfl, ⟨⟨n4, rfl⟩⟩⟩))
                    go_ret2
                    exact ⟨_, rfl, Kd.R_nil _ _ _ _ _, by repeat (first | exact hmB.out | apply pw_below_drewN)⟩
                  | true =>
                    rw [if_pos (c := true = true) rfl] at hf
                    have HF6 := Aside0.mk hf
                    clear hf HF5
                    go_wp2_with (go_at_call 19; first | (refine (fund_money.calls a true _ HM1.out).mono ?_; rintro e w1 ⟨rfl, ⟨⟨n3, rfl⟩⟩⟩) | (refine (fund_money.calls b true _ HM2.out).mono ?_; rintro e w1 ⟨rfl, ⟨⟨n4, rfl⟩⟩⟩))
                    go_roundw
                    case measure => simp [intOf]; omega
                    case rel => exact ⟨q + 1, _, by omega, rfl, rfl, by go_num, HF6, by first | rfl | exact (World.drewN_add _ _ _).symm | simp [World.drewN_add]⟩
              · have : q = j := by omega
                subst this
                have hf := HF5.out
                have hd1 : decide ((q : Int) < (q : Int)) = false := decide_eq_false (by omega)
                rw [show now.drop q = [] from by rw [← hn1]; exact List.drop_length, show then_.drop q = [] from by rw [← hn2]; exact List.drop_length, show moneyAll [] [] = true from rfl, if_pos rfl] at hf
                have HF7 := Aside0.mk (Option.some.inj hf)
                clear hf HF5
                have hmO2 := Aside0.mk (show (w8.drewN nq).ownsMap Try.prog 9 (plainElem Try.prog 3) gm q D from hmO.out)
                have hmB2 := Aside0.mk (show Below w.heap.size w (w8.drewN nq) from pw_below_drewN hmB.out _)
                clear hmO hmB
                generalize w8.drewN nq = w9 at *
                go_wp2
                -- the flows
                go_loopw [6, 14, 15, 16, 92] (fun v6 v14 v15 v16 v92 wr => ∃ (m : Nat) (acc : List S48), m ≤ q ∧ v92 = .int .i64 m ∧ Aside0 (Kd.R k48 48 wr w.heap.size (fun _ => True) v6 acc) ∧ Aside0 (acc.length ≤ m) ∧ Aside0 ((acc ++ chgGo (names.drop m) (now.drop m) (then_.drop m), (0 : Int)) = (r1, r2)) ∧ Aside0 (wr.ownsMap Try.prog 9 (plainElem Try.prog 3) gm q D) ∧ Aside0 (Below w.heap.size w wr)) (fun _ _ _ _ v92 _ => q - (intOf v92).toNat)
                case atStart => exact ⟨0, [], by omega, rfl, ⟨Kd.R_nil _ _ _ _ _⟩, ⟨by simp⟩, by rw [List.drop_zero, List.drop_zero, List.drop_zero, List.nil_append]; exact HF7, hmO2, hmB2⟩
                case round =>
                  clear HF7 hmO2 hmB2
                  obtain ⟨m, acc, hm, rfl, HO, HAL, HF8, hmO, hmB⟩ := hrel
                  by_cases hlt4 : m < q
                  · have hf := HF8.out
                    rw [dropE ByteArray.empty names m (by omega), dropE 0 now m (by omega), dropE 0 then_ m (by omega), chgGo] at hf
                    obtain ⟨ad, ea, hc1⟩ := Kd.at_string (Kd.C_below HR0.out hmB.out) (m : Int) (by omega) (by omega)
                    subst ea
                    obtain ⟨ad2, ea, hc2⟩ := Kd.at_int (Kd.C_below HR2.out hmB.out) (m : Int) (by omega) (by omega)
                    subst ea
                    obtain ⟨s, hs⟩ : ∃ s, s = names.getD m ByteArray.empty := ⟨_, rfl⟩
                    obtain ⟨a, ha⟩ : ∃ a, a = now.getD m 0 := ⟨_, rfl⟩
                    obtain ⟨b, hb⟩ : ∃ b, b = then_.getD m 0 := ⟨_, rfl⟩
                    rw [show rdOf ByteArray.empty names (m : Int) = names.getD m ByteArray.empty from rfl, Int.toNat_natCast, ← hs] at hc1
                    rw [show rd then_ (m : Int) = then_.getD m 0 from rfl, Int.toNat_natCast, ← hb] at hc2
                    rw [← hs, ← ha, ← hb] at hf
                    have hkey := HFS.out m
                    have hat0 := HAT.out m hlt4
                    rw [← hs] at hkey hat0
                    rw [← ha] at hat0
                    have hrun : (Instr.lookup 63 (.map (some gm)) (.string s) false).run Try.prog wr.drew = .ok (.int .i64 a) wr.drew := by
                      obtain ⟨c, hrun, hat, _⟩ := World.ownsMap.lookup_int (w := wr.drew) hmO.out law Try.underlying63 Try.underlying3 (hzero _) hkey
                      rw [hat0] at hat
                      injection hat with hat
                      injection hat with _ hat
                      rw [hrun, hat]
                    clear hs ha hb hkey hat0
                    have hd1 : decide ((m : Int) < (q : Int)) = true := decide_eq_true (by omega)
                    have hd2 : decide (m < q) = true := decide_eq_true hlt4
                    generalize hx : wrap64 (a - b) = x at *
                    have HAL2 := HAL.out
                    have hbs := hmB.out.size
                    by_cases hx0 : x = 0
                    · have hx1 : (x != 0) = false := bne_eq_false_iff_eq.2 hx0
                      rw [if_pos hx0] at hf
                      have HF9 := Aside0.mk hf
                      clear hf HF8
                      go_wp2
                      go_region
                      all_goals go_wp2
                      all_goals go_roundw
                      all_goals first
                        | (show _ < _; simp [intOf]; omega)
                        | exact ⟨m + 1, acc, by omega, by go_num, ⟨by repeat (first | exact HO.out | apply Kd.R_drewN | apply Kd.R_drew)⟩, ⟨by omega⟩, HF9, ⟨hmO.out⟩, ⟨by repeat (first | exact hmB.out | apply pw_below_drewN | apply below_drew)⟩⟩
                    · have hx1 : (x != 0) = true := bne_iff_ne.2 hx0
                      rw [if_neg hx0] at hf
                      have HF9 := Aside0.mk hf
                      clear hf HF8
                      have HO1 := Aside0.mk (show Kd.R k48 48 wr.drew w.heap.size (fun _ => True) u6 acc from Kd.R_drew HO.out)
                      have hmO1 := Aside0.mk (show wr.drew.ownsMap Try.prog 9 (plainElem Try.prog 3) gm q D from hmO.out)
                      have hmB1 := Aside0.mk (show Below w.heap.size w wr.drew from below_drew hmB.out)
                      have hbs1 : w.heap.size ≤ wr.drew.heap.size := hbs
                      clear HO hmO hmB hbs
                      go_wp2
                      go_region
                      generalize wr.drew = w10 at HO1 hmO1 hmB1 hbs1 ⊢
                      have hi48 : (Try.prog.info? 48).map (fun i => (i.zero, i.size, i.bytes)) = some (some (.agg #[(.string ⟨#[]⟩), (.int .i64 0), (.int .i64 0), (.int .i64 0)]), 4, 40) := by kernel_rfl
                      all_goals go_wp2_with ((with_reducible refine gate_builtin (b := .append) (xs := #[.tmp 107, .tmp 111]) rfl ?_); at_builtin; (refine Kd.R_append k48 (w0 := w) w.heap.size rfl (.tmp 107) (.tmp 111) 40 48 (.agg #[(.string ⟨#[]⟩), (.int .i64 0), (.int .i64 0), (.int .i64 0)]) 40 rfl Try.underlying40 hi48 rfl (by decide) (by omega) _ acc (⟨s, 0, x, 7⟩ : S48) [.string s, .int .i64 0, .int .i64 x, .int .i64 7] (fun _ => True) (fun _ => False) rfl rfl ?aP (fun _ hk => hk.elim) ?aF ?aO ?aB ?aS ?aL ?_; (case aP => exact k48_mkM _ _ _ _); (case aF => exact fun _ _ => trivial); (case aO => exact (by repeat (first | exact HO1.out | apply Kd.R_drewN | apply Kd.R_drew))); (case aB => exact (by repeat (first | exact hmB1.out | apply pw_below_drewN | apply below_drew))); (case aS => exact hbs1); (case aL => omega); intro v1 w2 ho hb2 hg2 hat2; have HO2 := Aside0.mk ho; have hmB3 := Aside0.mk hb2; have hmO3 := Aside0.mk (World.ownsMap.kept (show World.ownsMap _ Try.prog 9 (plainElem Try.prog 3) gm q D from hmO1.out) hg2 (map_apart hmO1.out HO1.out)); clear ho hb2 hg2 hat2))
                      all_goals go_roundw
                      all_goals first
                        | (show _ < _; simp [intOf]; omega)
                        | exact ⟨m + 1, acc ++ [(⟨s, 0, x, 7⟩ : S48)], by omega, by go_num, HO2, ⟨by simp; omega⟩, ⟨by rw [List.append_assoc]; exact HF9.out⟩, hmO3, hmB3⟩
                  · have : m = q := by omega
                    subst this
                    have hf := HF8.out
                    have hd1 : decide ((m : Int) < (m : Int)) = false := decide_eq_false (by omega)
                    rw [show names.drop m = [] from by rw [← hn]; exact List.drop_length, show chgGo [] (now.drop m) (then_.drop m) = [] from by cases (now.drop m) <;> rfl, List.append_nil] at hf
                    cases hf
                    go_wp2
                    go_ret2
                    exact ⟨_, rfl, HO.out, hmB.out⟩
      · rw [if_neg hfit] at hf; cases hf
theorem fund_Changes.calls (k : Nat) (A0 : Option Addr) (c0 : Nat) (l0 : List ByteArray) (A1 : Option Addr) (c1 : Nat) (l1 : List Int) (A2 : Option Addr) (c2 : Nat) (l2 : List Int) (r1 : List S48) (r2 : Int) (w : World) (hr0 : Kd.C Kd.string w A0 l0.length l0) (hc0 : l0.length ≤ c0) (hr1 : Kd.C (Kd.int .i64) w A1 l1.length l1) (hc1 : l1.length ≤ c1) (hr2 : Kd.C (Kd.int .i64) w A2 l2.length l2) (hc2 : l2.length ≤ c2) (h : fund_Changes.f k l0 l1 l2 = some (r1, r2)) :
    Calls Try.prog 16 #[.slice A0 l0.length c0, .slice A1 l1.length c1, .slice A2 l2.length c2] w fun e w' => ∃ v0_ : Value, e = .returned (.tuple #[v0_, .int .i64 r2]) ∧ Kd.R k48 48 w' w.heap.size (fun _ => True) v0_ r1 ∧ Below w.heap.size w w' := by
  unfold fund_Changes.f at h
  by_cases g1 : l0.length > 32 ∨ ¬ l1.length = l0.length ∨ ¬ l2.length = l0.length
  · rw [if_pos g1] at h
    cases Option.some.inj h
    exact (chg_8 A0 c0 l0 A1 c1 l1 A2 c2 l2 w g1).mono fun e W he => ⟨_, he.1, Kd.R_nil _ _ _ _ _, he.2⟩
  rw [if_neg g1] at h
  have n1 : l0.length ≤ 32 := by omega
  have n2 : l1.length = l0.length := by omega
  have n3 : l2.length = l0.length := by omega
  exact chg_main k A0 c0 l0 A1 c1 l1 A2 c2 l2 r1 r2 w hr0 hr1 hr2 n1 n2 n3 h

end Go.Proofs.Ytfmnillnmlijkaa.PFundSizes
