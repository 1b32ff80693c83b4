/- Laid for this claim by a program of this session's (wip/mkprint.py, wip/ext.py); not trusted: Lean checks it. -/
import Derived.Test.YtmldekbjilcffaaPShareCapsx0
import Derived.Test.YtmldekbjilcffaaPShareCapsx1
import Derived.Test.YtmldekbjilcffaaPShareCapsx3
import Derived.Test.YtmldekbjilcffaaPShareCapsx4
import Derived.Test.YtmldekbjilcffaaPShareCapsx7
namespace Go.Proofs.Ytmldekbjilcffaa.PShareCaps
open Go.RowKit Go.Proofs.YtmldekbjilcffaaW.PrintWords Go.Proofs.YtmldekbjilcffaaW.PrintLast Go.Proofs.YtmldekbjilcffaaW.PrintMore
attribute [local go_sem] max2_int min2_int max_two min_two max_three min_three max_four min_four   -- for this text's walks alone
set_option linter.unusedVariables false
set_option linter.unusedSimpArgs false

/-! ### contangolaw02_kept: function 14 -/
theorem cut_cap {P : Program} (t e : TypeId) (kh : IntKind) {i : TypeInfo} (ht : P.underlying t = some (.slice e)) (hi : P.info? e = some i) (A : Option Addr) (n c : Nat) (j : Int) (h0 : 0 ≤ j) (hm : j ≤ c) :
    ∀ W : World, (Instr.slice t (.slice A n c) none (some (.int kh j)) none).run P W = .ok (.slice A j.toNat c) W := by
  intro W
  have hel : P.elem t = e := by simp [Program.elem, ht]
  have hu : P.underlying t = some (.slice (P.elem t)) := by rw [hel]; exact ht
  have ha : (A.map fun x => x.add 0) = A := by cases A <;> simp [Addr.add]
  rw [run_slice_h W t A n c hu kh j h0 (by omega), hel]
  simp [sizeOf, typeInfo, hi, sliced, Result.andThen, ha]
theorem same_self (l : List Int) (h : l.length ≤ 1200) (d : Nat) : ∀ i : Nat, l.length - i = d → i ≤ l.length → contangoref02_Same.l0 (d + 1) l l (i : Int) = some true := by
  induction d with
  | zero =>
    intro i hd hi
    rw [contangoref02_Same.l0, if_neg (by omega)]
  | succ d ih =>
    intro i hd hi
    have e : wrap64 ((i : Int) + 1) = ((i + 1 : Nat) : Int) := by unfold wrap64; omega
    rw [contangoref02_Same.l0, if_pos (by omega), if_pos (by omega), if_pos (by omega), if_pos rfl, e]
    exact ih (i + 1) (by omega) (by omega)
def contangolaw02_kept.f (l0 : List Int) (l1 : List Int) : Option (Bool) := if l0 = l1 ∧ l1.length ≤ 1200 then some true else none
set_option maxHeartbeats 1000000 in
set_option maxRecDepth 100000 in
theorem contangolaw02_kept.calls (A0 : Option Addr) (c0 : Nat) (l0 : List Int) (A1 : Option Addr) (c1 : Nat) (l1 : List Int) (r : Bool) (w : World) (hr0 : Kd.C (Kd.int .i64) w A0 l0.length l0) (hc0 : l0.length ≤ c0) (hr1 : Kd.C (Kd.int .i64) w A1 l1.length l1) (hc1 : l1.length ≤ c1) (ht : Tl w (.slice A0 l0.length c0) [.int .i64 77]) (h : contangolaw02_kept.f l0 l1 = some r) :
    Calls Try.prog 14 #[.slice A0 l0.length c0, .slice A1 l1.length c1] w fun e w' => e = .returned (.bool r) ∧ Drawn0 w w' := by
  unfold contangolaw02_kept.f at h
  by_cases hh : l0 = l1 ∧ l1.length ≤ 1200
  · rw [if_pos hh] at h
    simp only [Option.some.injEq] at h
    subst h
    obtain ⟨e, hlen⟩ := hh
    subst e
    have hs : contangoref02_Same.f (l0.length + 1) l0 l0 = some true := by
      unfold contangoref02_Same.f
      rw [if_pos rfl]
      exact same_self l0 hlen l0.length 0 (by omega) (by omega)
    obtain ⟨g, n, cap, e, hg, hc, hx⟩ := ht
    injection e with e1 e2 e3
    subst e1; subst e2; subst e3
    have hx0 := hx 0 _ rfl
    simp only [List.length_singleton] at hc
    obtain ⟨i3, hi3, _⟩ := info_parts info_share
    have hcut := cut_cap (P := Try.prog) 22 3 .i64 Try.underlying22 hi3 (some ⟨g, 0, none⟩) l0.length c0 ((l0.length : Int) + 1) (by omega) (by omega)
    rw [show ((l0.length : Int) + 1).toNat = l0.length + 1 by omega] at hcut
    rw [Nat.add_zero] at hx0
    have ha : (⟨g, l0.length, none⟩ : Addr) = (⟨g, 0, none⟩ : Addr).add l0.length := (add_plain g l0.length).symm
    rw [ha] at hx0
    have HS := Aside0.mk hs
    have HR0 := Aside0.mk hr0
    have HR1 := Aside0.mk hr1
    have HC0 := Aside0.mk hc0
    have HC1 := Aside0.mk hc1
    clear hs hr0 hr1 hc0 hc1 ha hi3 hx hg
    generalize (⟨g, 0, none⟩ : Addr) = ad at *
    go_enter Try.func14, Try.ntmps14
    go_wp2_with (first | (go_at_call 13; (with_reducible refine (contangoref02_Same.calls _ _ _ l0 _ _ l0 true _ ?side1 ?side2 ?side3 ?side4 HS.out).mono ?_); (case side1 => exact HR0.out); (case side2 => exact HC0.out); (case side3 => exact HR1.out); (case side4 => exact HC1.out); rintro e w' ⟨rfl, ⟨nd, rfl⟩⟩))
    go_ret
    exact ⟨rfl, ⟨⟨_, rfl⟩⟩⟩
  · rw [if_neg hh] at h; simp at h

/-! ### contangolaw02_ShareCaps: function 3 -/
def contangolaw02_ShareCaps.j0 : Nat → Int → List Int → List Int → Bool → Option (Bool)
  | 0, _, _, _, _ => none
  | k + 1, x0, x1, x2, x32 => if x32 = true then ((contangolaw02_goes.f k).bind fun t235 => (some t235)) else ((contangolaw02_own.f x1).bind fun t236 => ((contangolaw02_own.f x2).bind fun t239 => ((share_Capped.f k x0 t236 t239).bind fun bt242 => ((contangoref02_Capped.f k x0 x1 x2).bind fun bt247 => ((contangoref02_Same.f k bt242.1 bt247.1).bind fun t252 => (if t252 = true then (if bt242.2.1 = bt247.2.1 then (if bt242.2.2 = bt247.2.2 then ((contangolaw02_kept.f t236 x1).bind fun t253 => (if t253 = true then ((contangolaw02_kept.f t239 x2).bind fun t254 => (if t254 = true then ((contangolaw02_goes.f k).bind fun t255 => (some t255)) else (none))) else (none))) else (none)) else (none)) else (none)))))))
def contangolaw02_ShareCaps.f (k : Nat) (a0 : Int) (l1 : List Int) (l2 : List Int) : Option (Bool) := if (l1.length : Int) > 200 then (if (l1.length : Int) ≤ 1024 then (contangolaw02_ShareCaps.j0 k a0 l1 l2 true) else (if (l1.length : Int) > 1100 then (contangolaw02_ShareCaps.j0 k a0 l1 l2 true) else (contangolaw02_ShareCaps.j0 k a0 l1 l2 (decide ((l2.length : Int) > 1100))))) else (if (l1.length : Int) > 1100 then (contangolaw02_ShareCaps.j0 k a0 l1 l2 true) else (contangolaw02_ShareCaps.j0 k a0 l1 l2 (decide ((l2.length : Int) > 1100))))
theorem contangolaw02_ShareCaps.mono_l : ∀ k, (∀ y0 y1 y2 y3, LeO (contangolaw02_ShareCaps.j0 k y0 y1 y2 y3) (contangolaw02_ShareCaps.j0 (k + 1) y0 y1 y2 y3))
  | 0 => fun _ _ _ _ r h => by simp [contangolaw02_ShareCaps.j0] at h
  | k + 1 => by
    have ih0 := contangolaw02_ShareCaps.mono_l k
    · intro y0 y1 y2 y3
      unfold contangolaw02_ShareCaps.j0
      repeat' first
      | (with_reducible exact ih0 _ _ _ _)
      | (with_reducible exact contangolaw02_goes.mono _)
      | (with_reducible exact contangoref02_Capped.mono _ _ _ _)
      | (with_reducible exact contangoref02_Same.mono _ _ _)
      | (with_reducible exact share_Capped.mono _ _ _ _)
      | (with_reducible exact LeO.refl _)
      | (with_reducible exact LeO.none _)
      | (with_reducible refine LeO.ite ?_ ?_)
      | (with_reducible refine LeO.bind ?_ (fun _ => ?_))
      | exact ih0 _ _ _ _
      | exact contangolaw02_goes.mono _
      | exact contangoref02_Capped.mono _ _ _ _
      | exact contangoref02_Same.mono _ _ _
      | exact share_Capped.mono _ _ _ _
      | exact LeO.none _
      | refine LeO.ite ?_ ?_
      | refine LeO.bind ?_ (fun _ => ?_)
theorem contangolaw02_ShareCaps.mono : ∀ a0 a1 a2 k, LeO (contangolaw02_ShareCaps.f k a0 a1 a2) (contangolaw02_ShareCaps.f (k + 1) a0 a1 a2) := by
  intro a0 a1 a2 k
  have ih0 := contangolaw02_ShareCaps.mono_l k
  unfold contangolaw02_ShareCaps.f
  repeat' first
      | (with_reducible exact ih0 _ _ _ _)
      | (with_reducible exact contangolaw02_goes.mono _)
      | (with_reducible exact contangoref02_Capped.mono _ _ _ _)
      | (with_reducible exact contangoref02_Same.mono _ _ _)
      | (with_reducible exact share_Capped.mono _ _ _ _)
      | (with_reducible exact LeO.refl _)
      | (with_reducible exact LeO.none _)
      | (with_reducible refine LeO.ite ?_ ?_)
      | (with_reducible refine LeO.bind ?_ (fun _ => ?_))
      | exact ih0 _ _ _ _
      | exact contangolaw02_goes.mono _
      | exact contangoref02_Capped.mono _ _ _ _
      | exact contangoref02_Same.mono _ _ _
      | exact share_Capped.mono _ _ _ _
      | exact LeO.none _
      | refine LeO.ite ?_ ?_
      | refine LeO.bind ?_ (fun _ => ?_)
set_option maxHeartbeats 8000000 in
set_option maxRecDepth 100000 in
theorem contangolaw02_ShareCaps.calls (k : Nat) (a0 : Int) (A1 : Option Addr) (c1 : Nat) (l1 : List Int) (A2 : Option Addr) (c2 : Nat) (l2 : List Int) (r : Bool) (w : World) (hr1 : Kd.C (Kd.int .i64) w A1 l1.length l1) (hc1 : l1.length ≤ c1) (hr2 : Kd.C (Kd.int .i64) w A2 l2.length l2) (hc2 : l2.length ≤ c2) (h : contangolaw02_ShareCaps.f k a0 l1 l2 = some r) :
    Calls Try.prog 3 #[.int .i64 a0, .slice A1 l1.length c1, .slice A2 l2.length c2] w fun e w' => e = .returned (.bool r) ∧ Below w.heap.size w w' := by
  have HR1 := Aside0.mk hr1
  have HC1 := Aside0.mk hc1
  clear hr1 hc1
  have HR2 := Aside0.mk hr2
  have HC2 := Aside0.mk hc2
  clear hr2 hc2
  have HB := Aside0.mk (Below.refl w.heap.size w)
  have H : (if (l1.length : Int) > 200 then (if (l1.length : Int) ≤ 1024 then (contangolaw02_ShareCaps.j0 k a0 l1 l2 true) else (if (l1.length : Int) > 1100 then (contangolaw02_ShareCaps.j0 k a0 l1 l2 true) else (contangolaw02_ShareCaps.j0 k a0 l1 l2 (decide ((l2.length : Int) > 1100))))) else (if (l1.length : Int) > 1100 then (contangolaw02_ShareCaps.j0 k a0 l1 l2 true) else (contangolaw02_ShareCaps.j0 k a0 l1 l2 (decide ((l2.length : Int) > 1100))))) = some r := h
  clear h
  have HC4 := Aside0.mk H
  clear H
  go_enter Try.func3, Try.ntmps3
  go_upto_region 1 with (fail)
  go_cut [32] (fun v32 wc => ∃ (kq : Nat) (x32_3 : Bool), v32 = .bool x32_3 ∧ Aside0 (contangolaw02_ShareCaps.j0 kq a0 l1 l2 x32_3 = some r) ∧ Aside0 (kq ≤ k) ∧ Aside0 (Below w.heap.size w wc))
  case first =>
    have H := HC4.out
    clear HC4
    by_cases c5 : (l1.length : Int) > 200
    · rw [if_pos c5] at H
      have c5b0 : decide (200 < (l1.length : Int)) = true := decide_eq_true c5
      have c5b1 : decide (200 < l1.length) = true := decide_eq_true (by omega)
      clear c5
      (first | rw [c5b0] | (simp only [i64_w, i32_w]; rw [c5b0]) | skip)
      by_cases c6 : (l1.length : Int) ≤ 1024
      · rw [if_pos c6] at H
        have c6b0 : decide ((l1.length : Int) ≤ 1024) = true := decide_eq_true c6
        have c6b1 : decide (l1.length ≤ 1024) = true := decide_eq_true (by omega)
        clear c6
        have H' := Aside0.mk H
        clear H
        go_wp2
        go_meet
        case rel => exact ⟨_, (true), (by first | rfl | (simp; done) | (simp [*]; done)), H', ⟨by first | omega | exact Nat.le_refl _⟩, ⟨by repeat (first | (with_reducible first | exact HB.out | apply below_alloc | apply pw_below_drewN | apply below_drew1) | exact HB.out)⟩⟩
      · rw [if_neg c6] at H
        have c6b0 : decide ((l1.length : Int) ≤ 1024) = false := decide_eq_false c6
        have c6b1 : decide (l1.length ≤ 1024) = false := decide_eq_false (by omega)
        clear c6
        by_cases c7 : (l1.length : Int) > 1100
        · rw [if_pos c7] at H
          have c7b0 : decide (1100 < (l1.length : Int)) = true := decide_eq_true c7
          have c7b1 : decide (1100 < l1.length) = true := decide_eq_true (by omega)
          clear c7
          have H' := Aside0.mk H
          clear H
          go_wp2
          go_meet
          case rel => exact ⟨_, (true), (by first | rfl | (simp; done) | (simp [*]; done)), H', ⟨by first | omega | exact Nat.le_refl _⟩, ⟨by repeat (first | (with_reducible first | exact HB.out | apply below_alloc | apply pw_below_drewN | apply below_drew1) | exact HB.out)⟩⟩
        · rw [if_neg c7] at H
          have c7b0 : decide (1100 < (l1.length : Int)) = false := decide_eq_false c7
          have c7b1 : decide (1100 < l1.length) = false := decide_eq_false (by omega)
          clear c7
          have H' := Aside0.mk H
          clear H
          go_wp2
          go_meet
          case rel => exact ⟨_, (decide ((l2.length : Int) > 1100)), (by first | rfl | (simp; done) | (simp [*]; done)), H', ⟨by first | omega | exact Nat.le_refl _⟩, ⟨by repeat (first | (with_reducible first | exact HB.out | apply below_alloc | apply pw_below_drewN | apply below_drew1) | exact HB.out)⟩⟩
    · rw [if_neg c5] at H
      have c5b0 : decide (200 < (l1.length : Int)) = false := decide_eq_false c5
      have c5b1 : decide (200 < l1.length) = false := decide_eq_false (by omega)
      clear c5
      (first | rw [c5b0] | (simp only [i64_w, i32_w]; rw [c5b0]) | skip)
      by_cases c8 : (l1.length : Int) > 1100
      · rw [if_pos c8] at H
        have c8b0 : decide (1100 < (l1.length : Int)) = true := decide_eq_true c8
        have c8b1 : decide (1100 < l1.length) = true := decide_eq_true (by omega)
        clear c8
        have H' := Aside0.mk H
        clear H
        go_wp2
        go_meet
        case rel => exact ⟨_, (true), (by first | rfl | (simp; done) | (simp [*]; done)), H', ⟨by first | omega | exact Nat.le_refl _⟩, ⟨by repeat (first | (with_reducible first | exact HB.out | apply below_alloc | apply pw_below_drewN | apply below_drew1) | exact HB.out)⟩⟩
      · rw [if_neg c8] at H
        have c8b0 : decide (1100 < (l1.length : Int)) = false := decide_eq_false c8
        have c8b1 : decide (1100 < l1.length) = false := decide_eq_false (by omega)
        clear c8
        have H' := Aside0.mk H
        clear H
        go_wp2
        go_meet
        case rel => exact ⟨_, (decide ((l2.length : Int) > 1100)), (by first | rfl | (simp; done) | (simp [*]; done)), H', ⟨by first | omega | exact Nat.le_refl _⟩, ⟨by repeat (first | (with_reducible first | exact HB.out | apply below_alloc | apply pw_below_drewN | apply below_drew1) | exact HB.out)⟩⟩
  case rest =>
    clear HC4
    try clear c1
    try clear c2
    try clear p2
    try clear c3
    try clear c5
    try clear c5b0
    try clear c5b1
    try clear c6
    try clear c6b0
    try clear c6b1
    try clear c7
    try clear c7b0
    try clear c7b1
    try clear c8
    try clear c8b0
    try clear c8b1
    obtain ⟨kq, x32_3, rfl, HA, HJ3, HB⟩ := hcut
    cases kq with
    | zero => exact absurd HA.out (by simp [contangolaw02_ShareCaps.j0])
    | succ kj3 =>
      have H := HA.out
      clear HA
      simp only [contangolaw02_ShareCaps.j0] at H
      by_cases c9 : x32_3 = true
      · subst c9
        have H1 : ((contangolaw02_goes.f kj3).bind fun t235 => (some t235)) = some r := by rw [if_pos rfl] at H; exact H
        clear H
        have H := H1
        clear H1
        replace H := Option.bind_eq_some_iff.mp H
        obtain ⟨t235, A100, H⟩ := H
        replace H : (some t235) = some r := H
        have A10 := Aside0.mk A100
        clear A100
        obtain rfl := Option.some.inj H
        go_wp2_with (first | ((with_reducible refine gate_callee (f := 9) rfl ?_); refine goesL_ (some 33) rfl rfl Try.func9 (by kernel_rfl) rfl #[] rfl (by (try simp only [List.map_toArray, List.map_cons, List.map_nil]); first | done | rfl | (simp only [List.length_drop, List.length_take]; rfl)) ?_; (with_reducible refine (contangolaw02_goes.calls kj3  t235 _ A10.out).mono ?_); rintro e w11 ⟨rfl, hb⟩; refine ⟨_, rfl, ?_⟩; have n0_ := Aside0.mk (below_step (by repeat (first | (with_reducible first | exact HB.out | apply below_alloc | apply pw_below_drewN | apply below_drew1) | exact HB.out)) hb); clear HB; have HB := n0_; clear n0_; (try clear hb); (try clear hb2); (try clear hk); (try clear hi)))
        go_ret
        exact ⟨by first | rfl | (simp [errW_none, errW_some] <;> rfl) | (simp [*, errW_none, errW_some] <;> rfl), by repeat (first | (with_reducible first | exact HB.out | apply below_alloc | apply pw_below_drewN | apply below_drew1) | exact HB.out)⟩
      · replace c9 := Bool.eq_false_iff.mpr c9
        subst c9
        have H1 : ((contangolaw02_own.f l1).bind fun t236 => ((contangolaw02_own.f l2).bind fun t239 => ((share_Capped.f kj3 a0 t236 t239).bind fun bt242 => ((contangoref02_Capped.f kj3 a0 l1 l2).bind fun bt247 => ((contangoref02_Same.f kj3 bt242.1 bt247.1).bind fun t252 => (if t252 = true then (if bt242.2.1 = bt247.2.1 then (if bt242.2.2 = bt247.2.2 then ((contangolaw02_kept.f t236 l1).bind fun t253 => (if t253 = true then ((contangolaw02_kept.f t239 l2).bind fun t254 => (if t254 = true then ((contangolaw02_goes.f kj3).bind fun t255 => (some t255)) else (none))) else (none))) else (none)) else (none)) else (none))))))) = some r := by rw [if_neg (show ¬ (false = true) by decide)] at H; exact H
        clear H
        have H := H1
        clear H1
        replace H := Option.bind_eq_some_iff.mp H
        obtain ⟨t236, A120, H⟩ := H
        replace H : ((contangolaw02_own.f l2).bind fun t239 => ((share_Capped.f kj3 a0 t236 t239).bind fun bt242 => ((contangoref02_Capped.f kj3 a0 l1 l2).bind fun bt247 => ((contangoref02_Same.f kj3 bt242.1 bt247.1).bind fun t252 => (if t252 = true then (if bt242.2.1 = bt247.2.1 then (if bt242.2.2 = bt247.2.2 then ((contangolaw02_kept.f t236 l1).bind fun t253 => (if t253 = true then ((contangolaw02_kept.f t239 l2).bind fun t254 => (if t254 = true then ((contangolaw02_goes.f kj3).bind fun t255 => (some t255)) else (none))) else (none))) else (none)) else (none)) else (none)))))) = some r := H
        have A12 := Aside0.mk A120
        clear A120
        replace H := Option.bind_eq_some_iff.mp H
        obtain ⟨t239, A130, H⟩ := H
        replace H : ((share_Capped.f kj3 a0 t236 t239).bind fun bt242 => ((contangoref02_Capped.f kj3 a0 l1 l2).bind fun bt247 => ((contangoref02_Same.f kj3 bt242.1 bt247.1).bind fun t252 => (if t252 = true then (if bt242.2.1 = bt247.2.1 then (if bt242.2.2 = bt247.2.2 then ((contangolaw02_kept.f t236 l1).bind fun t253 => (if t253 = true then ((contangolaw02_kept.f t239 l2).bind fun t254 => (if t254 = true then ((contangolaw02_goes.f kj3).bind fun t255 => (some t255)) else (none))) else (none))) else (none)) else (none)) else (none))))) = some r := H
        have A13 := Aside0.mk A130
        clear A130
        replace H := Option.bind_eq_some_iff.mp H
        obtain ⟨⟨t242, t243, t244⟩, A140, H⟩ := H
        replace H : ((contangoref02_Capped.f kj3 a0 l1 l2).bind fun bt247 => ((contangoref02_Same.f kj3 t242 bt247.1).bind fun t252 => (if t252 = true then (if t243 = bt247.2.1 then (if t244 = bt247.2.2 then ((contangolaw02_kept.f t236 l1).bind fun t253 => (if t253 = true then ((contangolaw02_kept.f t239 l2).bind fun t254 => (if t254 = true then ((contangolaw02_goes.f kj3).bind fun t255 => (some t255)) else (none))) else (none))) else (none)) else (none)) else (none)))) = some r := H
        have A14 := Aside0.mk A140
        clear A140
        replace H := Option.bind_eq_some_iff.mp H
        obtain ⟨⟨t247, t248, t249⟩, A150, H⟩ := H
        replace H : ((contangoref02_Same.f kj3 t242 t247).bind fun t252 => (if t252 = true then (if t243 = t248 then (if t244 = t249 then ((contangolaw02_kept.f t236 l1).bind fun t253 => (if t253 = true then ((contangolaw02_kept.f t239 l2).bind fun t254 => (if t254 = true then ((contangolaw02_goes.f kj3).bind fun t255 => (some t255)) else (none))) else (none))) else (none)) else (none)) else (none))) = some r := H
        have A15 := Aside0.mk A150
        clear A150
        replace H := Option.bind_eq_some_iff.mp H
        obtain ⟨t252, A160, H⟩ := H
        replace H : (if t252 = true then (if t243 = t248 then (if t244 = t249 then ((contangolaw02_kept.f t236 l1).bind fun t253 => (if t253 = true then ((contangolaw02_kept.f t239 l2).bind fun t254 => (if t254 = true then ((contangolaw02_goes.f kj3).bind fun t255 => (some t255)) else (none))) else (none))) else (none)) else (none)) else (none)) = some r := H
        have A16 := Aside0.mk A160
        clear A160
        by_cases c17 : t252 = true
        · subst c17
          have H1 : (if t243 = t248 then (if t244 = t249 then ((contangolaw02_kept.f t236 l1).bind fun t253 => (if t253 = true then ((contangolaw02_kept.f t239 l2).bind fun t254 => (if t254 = true then ((contangolaw02_goes.f kj3).bind fun t255 => (some t255)) else (none))) else (none))) else (none)) else (none)) = some r := by rw [if_pos rfl] at H; exact H
          clear H
          have H := H1
          clear H1
          by_cases c18 : t243 = t248
          · rw [if_pos c18] at H
            have c18b0 : (t243 == t248) = true := beq_iff_eq.mpr c18
            have c18b1 : (t243 != t248) = false := bne_eq_false_iff_eq.mpr c18
            clear c18
            by_cases c19 : t244 = t249
            · rw [if_pos c19] at H
              have c19b0 : (t244 == t249) = true := beq_iff_eq.mpr c19
              have c19b1 : (t244 != t249) = false := bne_eq_false_iff_eq.mpr c19
              clear c19
              replace H := Option.bind_eq_some_iff.mp H
              obtain ⟨t253, A200, H⟩ := H
              replace H : (if t253 = true then ((contangolaw02_kept.f t239 l2).bind fun t254 => (if t254 = true then ((contangolaw02_goes.f kj3).bind fun t255 => (some t255)) else (none))) else (none)) = some r := H
              have A20 := Aside0.mk A200
              clear A200
              by_cases c21 : t253 = true
              · subst c21
                have H1 : ((contangolaw02_kept.f t239 l2).bind fun t254 => (if t254 = true then ((contangolaw02_goes.f kj3).bind fun t255 => (some t255)) else (none))) = some r := by rw [if_pos rfl] at H; exact H
                clear H
                have H := H1
                clear H1
                replace H := Option.bind_eq_some_iff.mp H
                obtain ⟨t254, A220, H⟩ := H
                replace H : (if t254 = true then ((contangolaw02_goes.f kj3).bind fun t255 => (some t255)) else (none)) = some r := H
                have A22 := Aside0.mk A220
                clear A220
                by_cases c23 : t254 = true
                · subst c23
                  have H1 : ((contangolaw02_goes.f kj3).bind fun t255 => (some t255)) = some r := by rw [if_pos rfl] at H; exact H
                  clear H
                  have H := H1
                  clear H1
                  replace H := Option.bind_eq_some_iff.mp H
                  obtain ⟨t255, A240, H⟩ := H
                  replace H : (some t255) = some r := H
                  have A24 := Aside0.mk A240
                  clear A240
                  obtain rfl := Option.some.inj H
                  go_wp2_with (first | ((with_reducible refine gate_callee (f := 10) rfl ?_); refine goesL_ (some 35) rfl rfl Try.func10 (by kernel_rfl) rfl #[.slice A1 l1.length c1] rfl (by (try simp only [List.map_toArray, List.map_cons, List.map_nil]); first | done | rfl | (simp only [List.length_drop, List.length_take]; rfl)) ?_; (with_reducible refine (contangolaw02_own.calls _ _ l1 t236 _ ?side1 ?side2 A12.out).mono ?_); (case side1 => repeat (first | exact (Kd.C_below HR1.out HB.out) | (with_reducible refine Kd.C_alloc ?_ _) | (with_reducible refine Kd.C_drewN ?_ _) | (with_reducible refine Kd.C_drew ?_))); (case side2 => exact HC1.out); rintro e w25 ⟨v237, rfl, ho0, hb, ht0_⟩; have HT238 := Aside0.mk ht0_; clear ht0_; refine ⟨_, rfl, ?_⟩; have n0_ := Aside0.mk (Kd.R_lower ho0 (below_size (by repeat (first | (with_reducible first | exact HB.out | apply below_alloc | apply pw_below_drewN | apply below_drew1) | exact HB.out)))); have n1_ := Aside0.mk (below_step (by repeat (first | (with_reducible first | exact HB.out | apply below_alloc | apply pw_below_drewN | apply below_drew1) | exact HB.out)) hb); clear HB; have HO238 := n0_; have HB := n1_; clear n0_ n1_; (try clear hb); (try clear hb2); (try clear hk); (try clear hi); (try clear ho0)) | ((with_reducible refine gate_callee (f := 10) rfl ?_); refine goesL_ (some 37) rfl rfl Try.func10 (by kernel_rfl) rfl #[.slice A2 l2.length c2] rfl (by (try simp only [List.map_toArray, List.map_cons, List.map_nil]); first | done | rfl | (simp only [List.length_drop, List.length_take]; rfl)) ?_; (with_reducible refine (contangolaw02_own.calls _ _ l2 t239 _ ?side1 ?side2 A13.out).mono ?_); (case side1 => repeat (first | exact (Kd.C_below HR2.out HB.out) | (with_reducible refine Kd.C_alloc ?_ _) | (with_reducible refine Kd.C_drewN ?_ _) | (with_reducible refine Kd.C_drew ?_))); (case side2 => exact HC2.out); rintro e w26 ⟨v240, rfl, ho0, hb, ht0_⟩; have HT241 := Aside0.mk ht0_; clear ht0_; refine ⟨_, rfl, ?_⟩; have t0_ := Aside0.mk (Tl.R_elder' (by (with_reducible repeat (first | apply Tl.R_alloc | apply Tl.R_drewN | apply Tl.R_drew)); exact HT238.out) (Kd.R_base ho0) hb); have n0_ := Aside0.mk (Kd.R_elder' (by (with_reducible repeat (first | apply Kd.R_alloc | apply Kd.R_drewN | apply Kd.R_drew)); exact HO238.out) (Kd.R_base ho0) hb); have n1_ := Aside0.mk (Kd.R_lower (Kd.R_new' ho0 (Kd.R_lt (by (with_reducible repeat (first | apply Kd.R_alloc | apply Kd.R_drewN | apply Kd.R_drew)); exact HO238.out))) (below_size (by repeat (first | (with_reducible first | exact HB.out | apply below_alloc | apply pw_below_drewN | apply below_drew1) | exact HB.out)))); have n2_ := Aside0.mk (below_step (by repeat (first | (with_reducible first | exact HB.out | apply below_alloc | apply pw_below_drewN | apply below_drew1) | exact HB.out)) hb); clear HO238; clear HT238; clear HB; have HO238 := n0_; have HT238 := t0_; have HO241 := n1_; have HB := n2_; clear n0_ n1_ n2_; (try clear hb); (try clear hb2); (try clear hk); (try clear hi); (try clear ho0); obtain ⟨Ao27, co27, eo27⟩ := Kd.R_slice HO238.out; subst eo27; obtain ⟨Ao28, co28, eo28⟩ := Kd.R_slice HO241.out; subst eo28) | ((with_reducible refine gate_callee (f := 11) rfl ?_); refine goesL_ (some 42) rfl rfl Try.func11 (by kernel_rfl) rfl #[.int .i64 a0, .slice Ao27 t236.length co27, .slice Ao28 t239.length co28] rfl (by (try simp only [List.map_toArray, List.map_cons, List.map_nil]); first | done | rfl | (simp only [List.length_drop, List.length_take]; rfl)) ?_; (with_reducible refine (share_Capped.calls kj3 a0 _ _ t236 _ _ t239 t242 t243 t244 _ ?side1 ?side2 ?side3 ?side4 A14.out).mono ?_); (case side1 => repeat (first | exact (Kd.R_reads' HO238.out).2.2 | (with_reducible refine Kd.C_alloc ?_ _) | (with_reducible refine Kd.C_drewN ?_ _) | (with_reducible refine Kd.C_drew ?_))); (case side2 => exact (Kd.R_reads' HO238.out).2.1); (case side3 => repeat (first | exact (Kd.R_reads' HO241.out).2.2 | (with_reducible refine Kd.C_alloc ?_ _) | (with_reducible refine Kd.C_drewN ?_ _) | (with_reducible refine Kd.C_drew ?_))); (case side4 => exact (Kd.R_reads' HO241.out).2.1); rintro e w29 ⟨v245, rfl, ho0, hb⟩; refine ⟨_, rfl, ?_⟩; have t0_ := Aside0.mk (Tl.R_elder' (by (with_reducible repeat (first | apply Tl.R_alloc | apply Tl.R_drewN | apply Tl.R_drew)); exact HT238.out) (Kd.R_base ho0) hb); have n0_ := Aside0.mk (Kd.R_elder' (by (with_reducible repeat (first | apply Kd.R_alloc | apply Kd.R_drewN | apply Kd.R_drew)); exact HO238.out) (Kd.R_base ho0) hb); have t1_ := Aside0.mk (Tl.R_elder' (by (with_reducible repeat (first | apply Tl.R_alloc | apply Tl.R_drewN | apply Tl.R_drew)); exact HT241.out) (Kd.R_base ho0) hb); have n1_ := Aside0.mk (Kd.R_elder' (by (with_reducible repeat (first | apply Kd.R_alloc | apply Kd.R_drewN | apply Kd.R_drew)); exact HO241.out) (Kd.R_base ho0) hb); have n2_ := Aside0.mk (Kd.R_lower (Kd.R_new' (Kd.R_new' ho0 (Kd.R_lt (by (with_reducible repeat (first | apply Kd.R_alloc | apply Kd.R_drewN | apply Kd.R_drew)); exact HO238.out))) (Kd.R_lt (by (with_reducible repeat (first | apply Kd.R_alloc | apply Kd.R_drewN | apply Kd.R_drew)); exact HO241.out))) (below_size (by repeat (first | (with_reducible first | exact HB.out | apply below_alloc | apply pw_below_drewN | apply below_drew1) | exact HB.out)))); have n3_ := Aside0.mk (below_step (by repeat (first | (with_reducible first | exact HB.out | apply below_alloc | apply pw_below_drewN | apply below_drew1) | exact HB.out)) hb); clear HO238; clear HT238; clear HO241; clear HT241; clear HB; have HO238 := n0_; have HT238 := t0_; have HO241 := n1_; have HT241 := t1_; have HO246 := n2_; have HB := n3_; clear n0_ n1_ n2_ n3_; (try clear hb); (try clear hb2); (try clear hk); (try clear hi); (try clear ho0)) | ((with_reducible refine gate_callee (f := 12) rfl ?_); refine goesL_ (some 50) rfl rfl Try.func12 (by kernel_rfl) rfl #[.int .i64 a0, .slice A1 l1.length c1, .slice A2 l2.length c2] rfl (by (try simp only [List.map_toArray, List.map_cons, List.map_nil]); first | done | rfl | (simp only [List.length_drop, List.length_take]; rfl)) ?_; (with_reducible refine (contangoref02_Capped.calls kj3 a0 _ _ l1 _ _ l2 t247 t248 t249 _ ?side1 ?side2 ?side3 ?side4 A15.out).mono ?_); (case side1 => repeat (first | exact (Kd.C_below HR1.out HB.out) | (with_reducible refine Kd.C_alloc ?_ _) | (with_reducible refine Kd.C_drewN ?_ _) | (with_reducible refine Kd.C_drew ?_))); (case side2 => exact HC1.out); (case side3 => repeat (first | exact (Kd.C_below HR2.out HB.out) | (with_reducible refine Kd.C_alloc ?_ _) | (with_reducible refine Kd.C_drewN ?_ _) | (with_reducible refine Kd.C_drew ?_))); (case side4 => exact HC2.out); rintro e w30 ⟨v250, rfl, ho0, hb⟩; refine ⟨_, rfl, ?_⟩; have t0_ := Aside0.mk (Tl.R_elder' (by (with_reducible repeat (first | apply Tl.R_alloc | apply Tl.R_drewN | apply Tl.R_drew)); exact HT238.out) (Kd.R_base ho0) hb); have n0_ := Aside0.mk (Kd.R_elder' (by (with_reducible repeat (first | apply Kd.R_alloc | apply Kd.R_drewN | apply Kd.R_drew)); exact HO238.out) (Kd.R_base ho0) hb); have t1_ := Aside0.mk (Tl.R_elder' (by (with_reducible repeat (first | apply Tl.R_alloc | apply Tl.R_drewN | apply Tl.R_drew)); exact HT241.out) (Kd.R_base ho0) hb); have n1_ := Aside0.mk (Kd.R_elder' (by (with_reducible repeat (first | apply Kd.R_alloc | apply Kd.R_drewN | apply Kd.R_drew)); exact HO241.out) (Kd.R_base ho0) hb); have n2_ := Aside0.mk (Kd.R_elder' (by (with_reducible repeat (first | apply Kd.R_alloc | apply Kd.R_drewN | apply Kd.R_drew)); exact HO246.out) (Kd.R_base ho0) hb); have n3_ := Aside0.mk (Kd.R_lower (Kd.R_new' (Kd.R_new' (Kd.R_new' ho0 (Kd.R_lt (by (with_reducible repeat (first | apply Kd.R_alloc | apply Kd.R_drewN | apply Kd.R_drew)); exact HO238.out))) (Kd.R_lt (by (with_reducible repeat (first | apply Kd.R_alloc | apply Kd.R_drewN | apply Kd.R_drew)); exact HO241.out))) (Kd.R_lt (by (with_reducible repeat (first | apply Kd.R_alloc | apply Kd.R_drewN | apply Kd.R_drew)); exact HO246.out))) (below_size (by repeat (first | (with_reducible first | exact HB.out | apply below_alloc | apply pw_below_drewN | apply below_drew1) | exact HB.out)))); have n4_ := Aside0.mk (below_step (by repeat (first | (with_reducible first | exact HB.out | apply below_alloc | apply pw_below_drewN | apply below_drew1) | exact HB.out)) hb); clear HO238; clear HT238; clear HO241; clear HT241; clear HO246; clear HB; have HO238 := n0_; have HT238 := t0_; have HO241 := n1_; have HT241 := t1_; have HO246 := n2_; have HO251 := n3_; have HB := n4_; clear n0_ n1_ n2_ n3_ n4_; (try clear hb); (try clear hb2); (try clear hk); (try clear hi); (try clear ho0); obtain ⟨Ao31, co31, eo31⟩ := Kd.R_slice HO246.out; subst eo31; obtain ⟨Ao32, co32, eo32⟩ := Kd.R_slice HO251.out; subst eo32) | ((with_reducible refine gate_callee (f := 13) rfl ?_); refine goesL_ (some 56) rfl rfl Try.func13 (by kernel_rfl) rfl #[.slice Ao31 t242.length co31, .slice Ao32 t247.length co32] rfl (by (try simp only [List.map_toArray, List.map_cons, List.map_nil]); first | done | rfl | (simp only [List.length_drop, List.length_take]; rfl)) ?_; (with_reducible refine (contangoref02_Same.calls kj3 _ _ t242 _ _ t247 true _ ?side1 ?side2 ?side3 ?side4 A16.out).mono ?_); (case side1 => repeat (first | exact (Kd.R_reads' HO246.out).2.2 | (with_reducible refine Kd.C_alloc ?_ _) | (with_reducible refine Kd.C_drewN ?_ _) | (with_reducible refine Kd.C_drew ?_))); (case side2 => exact (Kd.R_reads' HO246.out).2.1); (case side3 => repeat (first | exact (Kd.R_reads' HO251.out).2.2 | (with_reducible refine Kd.C_alloc ?_ _) | (with_reducible refine Kd.C_drewN ?_ _) | (with_reducible refine Kd.C_drew ?_))); (case side4 => exact (Kd.R_reads' HO251.out).2.1); rintro e w' ⟨rfl, ⟨nd, rfl⟩⟩; refine ⟨_, rfl, ?_⟩) | (go_at_call 14; (with_reducible refine (contangolaw02_kept.calls _ _ t236 _ _ l1 true _ ?side1 ?side2 ?side3 ?side4 ?sidet A20.out).mono ?_); (case sidet => exact (by (with_reducible repeat (first | apply Tl.R_alloc | apply Tl.R_drewN | apply Tl.R_drew)); exact HT238.out)); (case side1 => repeat (first | exact (Kd.R_reads' HO238.out).2.2 | (with_reducible refine Kd.C_alloc ?_ _) | (with_reducible refine Kd.C_drewN ?_ _) | (with_reducible refine Kd.C_drew ?_))); (case side2 => exact (Kd.R_reads' HO238.out).2.1); (case side3 => repeat (first | exact (Kd.C_below HR1.out (by repeat (first | (with_reducible first | exact HB.out | apply below_alloc | apply pw_below_drewN | apply below_drew1) | exact HB.out))) | (with_reducible refine Kd.C_alloc ?_ _) | (with_reducible refine Kd.C_drewN ?_ _) | (with_reducible refine Kd.C_drew ?_))); (case side4 => exact HC1.out); rintro e w' ⟨rfl, ⟨nd, rfl⟩⟩) | (go_at_call 14; (with_reducible refine (contangolaw02_kept.calls _ _ t239 _ _ l2 true _ ?side1 ?side2 ?side3 ?side4 ?sidet A22.out).mono ?_); (case sidet => exact (by (with_reducible repeat (first | apply Tl.R_alloc | apply Tl.R_drewN | apply Tl.R_drew)); exact HT241.out)); (case side1 => repeat (first | exact (Kd.R_reads' HO241.out).2.2 | (with_reducible refine Kd.C_alloc ?_ _) | (with_reducible refine Kd.C_drewN ?_ _) | (with_reducible refine Kd.C_drew ?_))); (case side2 => exact (Kd.R_reads' HO241.out).2.1); (case side3 => repeat (first | exact (Kd.C_below HR2.out (by repeat (first | (with_reducible first | exact HB.out | apply below_alloc | apply pw_below_drewN | apply below_drew1) | exact HB.out))) | (with_reducible refine Kd.C_alloc ?_ _) | (with_reducible refine Kd.C_drewN ?_ _) | (with_reducible refine Kd.C_drew ?_))); (case side4 => exact HC2.out); rintro e w' ⟨rfl, ⟨nd, rfl⟩⟩) | (go_at_call 9; (with_reducible refine (contangolaw02_goes.calls kj3  t255 _ A24.out).mono ?_); rintro e w33 ⟨rfl, hb⟩; have t0_ := Aside0.mk (Tl.R_below (by (with_reducible repeat (first | apply Tl.R_alloc | apply Tl.R_drewN | apply Tl.R_drew)); exact HT238.out) hb); have n0_ := Aside0.mk (Kd.R_below (by (with_reducible repeat (first | apply Kd.R_alloc | apply Kd.R_drewN | apply Kd.R_drew)); exact HO238.out) hb); have t1_ := Aside0.mk (Tl.R_below (by (with_reducible repeat (first | apply Tl.R_alloc | apply Tl.R_drewN | apply Tl.R_drew)); exact HT241.out) hb); have n1_ := Aside0.mk (Kd.R_below (by (with_reducible repeat (first | apply Kd.R_alloc | apply Kd.R_drewN | apply Kd.R_drew)); exact HO241.out) hb); have n2_ := Aside0.mk (Kd.R_below (by (with_reducible repeat (first | apply Kd.R_alloc | apply Kd.R_drewN | apply Kd.R_drew)); exact HO246.out) hb); have n3_ := Aside0.mk (Kd.R_below (by (with_reducible repeat (first | apply Kd.R_alloc | apply Kd.R_drewN | apply Kd.R_drew)); exact HO251.out) hb); have n4_ := Aside0.mk (below_step (by repeat (first | (with_reducible first | exact HB.out | apply below_alloc | apply pw_below_drewN | apply below_drew1) | exact HB.out)) hb); clear HO238; clear HT238; clear HO241; clear HT241; clear HO246; clear HO251; clear HB; have HO238 := n0_; have HT238 := t0_; have HO241 := n1_; have HT241 := t1_; have HO246 := n2_; have HO251 := n3_; have HB := n4_; clear n0_ n1_ n2_ n3_ n4_; (try clear hb); (try clear hb2); (try clear hk); (try clear hi)))
                  go_ret
                  exact ⟨by first | rfl | (simp [errW_none, errW_some] <;> rfl) | (simp [*, errW_none, errW_some] <;> rfl), by repeat (first | (with_reducible first | exact HB.out | apply below_alloc | apply pw_below_drewN | apply below_drew1) | exact HB.out)⟩
                · replace c23 := Bool.eq_false_iff.mpr c23
                  subst c23
                  have H1 : (none) = some r := by rw [if_neg (show ¬ (false = true) by decide)] at H; exact H
                  clear H
                  have H := H1
                  clear H1
                  exact absurd H (by simp)
              · replace c21 := Bool.eq_false_iff.mpr c21
                subst c21
                have H1 : (none) = some r := by rw [if_neg (show ¬ (false = true) by decide)] at H; exact H
                clear H
                have H := H1
                clear H1
                exact absurd H (by simp)
            · rw [if_neg c19] at H
              exact absurd H (by simp)
          · rw [if_neg c18] at H
            exact absurd H (by simp)
        · replace c17 := Bool.eq_false_iff.mpr c17
          subst c17
          have H1 : (none) = some r := by rw [if_neg (show ¬ (false = true) by decide)] at H; exact H
          clear H
          have H := H1
          clear H1
          exact absurd H (by simp)

/-- THE ONE PURE STATEMENT of contangolaw02_ShareCaps: yours. -/
def contangolaw02_ShareCaps.Pure : Prop := ∀ (a0 : Int) (l1 : List Int) (l2 : List Int), (Lit.int .i64 a0).wf = true → l1.length ≤ maxLen → l1.length * 8 ≤ 140737488351232 → (∀ x ∈ l1, (Lit.int .i64 x).wf = true) → l2.length ≤ maxLen → l2.length * 8 ≤ 140737488351232 → (∀ x ∈ l2, (Lit.int .i64 x).wf = true) → ∃ k, contangolaw02_ShareCaps.f k a0 l1 l2 = some true
theorem contangolaw02_ShareCaps.walk (P : contangolaw02_ShareCaps.Pure) (a0 : Int) (a1 : Option Addr) (len1 cap1 : Nat) (z1 : List Int) (a2 : Option Addr) (len2 cap2 : Nat) (z2 : List Int) (w : World) (w0 : (Lit.int .i64 a0).wf = true) (w1 : (a1 = none ∧ len1 = 0 ∧ cap1 = 0 ∧ z1 = []) ∨ ∃ x, a1 = some x ∧ len1 ≤ cap1 ∧ cap1 ≤ maxLen ∧ z1.length = cap1 ∧ (∀ i, i < z1.length → w.cell? (x.add i) = some (.int .i64 (z1.getD i 0))) ∧ ∀ n ∈ z1, (Lit.int .i64 n).wf = true) (y1 : len1 * 8 ≤ 140737488351232) (w2 : (a2 = none ∧ len2 = 0 ∧ cap2 = 0 ∧ z2 = []) ∨ ∃ x, a2 = some x ∧ len2 ≤ cap2 ∧ cap2 ≤ maxLen ∧ z2.length = cap2 ∧ (∀ i, i < z2.length → w.cell? (x.add i) = some (.int .i64 (z2.getD i 0))) ∧ ∀ n ∈ z2, (Lit.int .i64 n).wf = true) (y2 : len2 * 8 ≤ 140737488351232) :
    Calls Try.prog 3 #[.int .i64 a0, .slice a1 len1 cap1, .slice a2 len2 cap2] w fun e w' => e = .returned (.bool true) ∧ Below w.heap.size w w' := by
  obtain ⟨l1, rfl, hr1, hm1, hw1, hc1⟩ := ReadsInt.ofRowC w1
  obtain ⟨l2, rfl, hr2, hm2, hw2, hc2⟩ := ReadsInt.ofRowC w2
  obtain ⟨k, h⟩ := P a0 l1 l2 w0 hm1 y1 hw1 hm2 y2 hw2
  refine (contangolaw02_ShareCaps.calls k a0 _ _ l1 _ _ l2 true w (Kd.C_of_reads (d := (0 : Int)) (h1 := fun _ => rfl) hr1) hc1 (Kd.C_of_reads (d := (0 : Int)) (h1 := fun _ => rfl) hr2) hc2 h).mono ?_
  rintro e w' ⟨rfl, hd⟩
  exact ⟨rfl, hd⟩

end Go.Proofs.Ytmldekbjilcffaa.PShareCaps
