/- Laid for this claim by a program of this session's (wip/mkprint.py, wip/ext.py); not trusted: Lean checks it. -/
import Derived.Test.YtnimfimcpjmbnaaPWireIntsx0
import Derived.Test.YtnimfimcpjmbnaaPWireIntsx1
import Derived.Test.YtnimfimcpjmbnaaPWireIntsx2
import Derived.Test.YtnimfimcpjmbnaaPWireIntsx3
namespace Go.Proofs.Ytnimfimcpjmbnaa.PWireInts
open Go.RowKit Go.Proofs.YtnimfimcpjmbnaaW.PrintWords Go.Proofs.YtnimfimcpjmbnaaW.PrintLast Go.Proofs.YtnimfimcpjmbnaaW.PrintMore
attribute [local go_sem] max2_int min2_int max_two min_two max_three min_three max_four min_four   -- for this text's walks alone
set_option linter.unusedVariables false
set_option linter.unusedSimpArgs false

/-! ### contangolaw04_kept: function 16 -/
theorem cut_cap {P : Program} (t e : TypeId) (kh : IntKind) {i : TypeInfo} (ht : P.underlying t = some (.slice e)) (hi : P.info? e = some i) (A : Option Addr) (n c : Nat) (j : Int) (h0 : 0 ≤ j) (hm : j ≤ c) :
    ∀ W : World, (Instr.slice t (.slice A n c) none (some (.int kh j)) none).run P W = .ok (.slice A j.toNat c) W := by
  intro W
  have hel : P.elem t = e := by simp [Program.elem, ht]
  have hu : P.underlying t = some (.slice (P.elem t)) := by rw [hel]; exact ht
  have ha : (A.map fun x => x.add 0) = A := by cases A <;> simp [Addr.add]
  rw [run_slice_h W t A n c hu kh j h0 (by omega), hel]
  simp [sizeOf, typeInfo, hi, sliced, Result.andThen, ha]
theorem tail_reads {W : World} {g c : Nat} {l t : List Int} (hr : Kd.C (Kd.int .u8) W (some ⟨g, 0, none⟩) l.length l) (ht : Tl W (.slice (some ⟨g, 0, none⟩) l.length c) (t.map (Value.int .u8))) (hl : l.length + t.length ≤ 100000) : Kd.C (Kd.int .u8) W (some ⟨g, 0, none⟩) (l ++ t).length (l ++ t) := by
  obtain ⟨g2, n2, c2, e, _, _, hx⟩ := ht
  injection e with e1 e2 e3
  injection e1 with e1
  injection e1 with e1
  subst e1; subst e2; subst e3
  have hrd := Kd.reads_of_C (d := (0 : Int)) hr
  refine Kd.C_of_reads (d := (0 : Int)) (h1 := fun _ => rfl) ⟨rfl, by rw [List.length_append]; omega, fun _ => ⟨_, rfl, ?_⟩⟩
  intro j hj
  rw [List.length_append] at hj
  by_cases h : j < l.length
  · obtain ⟨ad, e, hc⟩ := hrd.2.2 (by omega)
    injection e with e; subst e
    rw [hc j h, List.getD_eq_getElem?_getD, List.getD_eq_getElem?_getD, List.getElem?_append_left h]
  · have h2 := hx (j - l.length) (.int .u8 (t[j - l.length]'(by omega))) (by rw [List.getElem?_map, List.getElem?_eq_getElem (by omega)]; rfl)
    rw [show l.length + (j - l.length) = j by omega] at h2
    rw [add_plain, h2, List.getD_eq_getElem?_getD, List.getElem?_append_right (by omega), List.getElem?_eq_getElem (by omega)]
    rfl
theorem kept_text (l : List Int) : ((strOfNums (l ++ sevens)).toList == ((strOfNums l) ++ (⟨#[7, 7, 7, 7, 7, 7, 7, 7]⟩ : ByteArray)).toList) = true := by
  have : strOfNums (l ++ sevens) = (strOfNums l) ++ (⟨#[7, 7, 7, 7, 7, 7, 7, 7]⟩ : ByteArray) := by
    apply ByteArray.ext
    unfold strOfNums
    simp [sevens, ByteArray.data_append]
  rw [this]; simp
def contangolaw04_kept.f (l0 : List Int) (l1 : List Int) : Option (Bool) := if l0 = l1 ∧ l1.length ≤ 6000 then some true else none
set_option maxHeartbeats 1000000 in
set_option maxRecDepth 100000 in
theorem contangolaw04_kept.calls (A0 : Option Addr) (c0 : Nat) (l0 : List Int) (A1 : Option Addr) (c1 : Nat) (l1 : List Int) (r : Bool) (w : World) (hr0 : Kd.C (Kd.int .u8) w A0 l0.length l0) (_hc0 : l0.length ≤ c0) (hr1 : Kd.C (Kd.int .u8) w A1 l1.length l1) (_hc1 : l1.length ≤ c1) (ht : Tl w (.slice A0 l0.length c0) (sevens.map (Value.int .u8))) (h : contangolaw04_kept.f l0 l1 = some r) :
    Calls Try.prog 16 #[.slice A0 l0.length c0, .slice A1 l1.length c1] w fun e w' => e = .returned (.bool r) ∧ Drawn0 w w' := by
  unfold contangolaw04_kept.f at h
  by_cases hh : l0 = l1 ∧ l1.length ≤ 6000
  · rw [if_pos hh] at h
    simp only [Option.some.injEq] at h
    subst h
    obtain ⟨e, hlen⟩ := hh
    subst e
    have ht2 := ht
    obtain ⟨g, n, cap, e, hg, hc, hx⟩ := ht2
    injection e with e1 e2 e3
    subst e1; subst e2; subst e3
    have h8 : (sevens.map (Value.int .u8)).length = 8 := rfl
    have h8' : sevens.length = 8 := rfl
    have hrt := tail_reads hr0 ht (by omega)
    obtain ⟨i3, hi3, _⟩ := info_parts info_lent
    have hcut := cut_cap (P := Try.prog) 22 5 .i64 Try.underlying22 hi3 (some ⟨g, 0, none⟩) l0.length c0 ((l0.length : Int) + 8) (by omega) (by omega)
    have hln : (l0 ++ sevens).length = l0.length + 8 := by rw [List.length_append, h8']
    rw [show ((l0.length : Int) + 8).toNat = l0.length + 8 by omega] at hcut
    have hcv8 := fun nq : Nat => Kd.C_string (P := Try.prog) (A := some ⟨g, 0, none⟩) (c := c0) Try.underlying22 Try.underlying5 Try.underlying9 (Kd.C_drewN hrt nq)
    have hcv9 := fun nq : Nat => Kd.C_string (P := Try.prog) (A := A1) (c := c1) Try.underlying22 Try.underlying5 Try.underlying9 (Kd.C_drewN hr1 nq)
    rw [hln] at hcv8
    have HK := Aside0.mk (kept_text l0)
    have hwr : (IntKind.i64.wrap ((l0.length : Int) + 8)) = (l0.length : Int) + 8 := (i64_w _).trans (by unfold wrap64; omega)
    have hsz : (strOfNums l0).size = l0.length := by unfold strOfNums; simp [ByteArray.size]
    have c6 : (strOfNums l0).size + 8 ≤ 9223372036854775807 := by omega
    have c6b0 := eq_true c6
    have c6b1 : decide ((strOfNums l0).size + 8 ≤ 9223372036854775807) = true := decide_eq_true c6
    have c6b2 : (9223372036854775807 < (strOfNums l0).size + 8) = False := eq_false (Nat.not_lt.2 c6)
    clear hr0 hr1 hrt ht hi3 hx hg h8 h8' hln hsz
    obtain ⟨j8, hj8⟩ : ∃ j_ : Int, (l0.length : Int) + 8 = j_ := ⟨_, rfl⟩
    obtain ⟨n8, hn8⟩ : ∃ n_ : Nat, l0.length + 8 = n_ := ⟨_, rfl⟩
    rw [hj8, hn8] at hcut
    replace hwr := hwr.trans hj8
    rw [hn8] at hcv8
    clear hj8 hn8 hc
    generalize strOfNums (l0 ++ sevens) = s1 at *
    generalize strOfNums l0 = s2 at *
    generalize (some ⟨g, 0, none⟩ : Option Addr) = A0 at *
    go_enter Try.func16, Try.ntmps16
    go_wp2
    repeat (go_quiet (fail); try go_wp2)
    go_ret
    exact ⟨by first | rfl | (rw [HK.out]; rfl) | (rw [HK.out]), by repeat (first | exact Drawn0.refl _ | apply Drawn0.step)⟩
  · rw [if_neg hh] at h; simp at h

/-! ### contangolaw04_WireInts: function 3 -/
def contangolaw04_WireInts.f (k : Nat) (l0 : List Int) (a1 : Int) (a2 : Int) : Option (Bool) := if (l0.length : Int) > 5000 then ((contangolaw04_goes.f k).bind fun t126 => (some t126)) else ((contangolaw04_lent.f l0).bind fun t127 => ((wire_PutInt.f t127 a1).bind fun t130 => ((wire_Int.f t127 a2).bind fun bt133 => ((contangoref04_Int.f k l0 a2).bind fun bt136 => ((contangoref04_PutInt.f k l0 a1).bind fun t139 => (if (strOfNums t130).toList = (strOfNums t139).toList then (if bt133.1 = bt136.1 then (if bt133.2.1 = bt136.2.1 then ((contangolaw04_touched.f k t130).bind fun t142 => (if bt133.2.2 = bt136.2.2 then ((contangolaw04_kept.f t127 l0).bind fun t143 => (if t143 = true then ((contangolaw04_goes.f k).bind fun t144 => (some t144)) else (none))) else (none))) else ((contangolaw04_touched.f k t130).bind fun t145 => (none))) else ((contangolaw04_touched.f k t130).bind fun t146 => (none))) else ((contangolaw04_touched.f k t130).bind fun t147 => (none))))))))
theorem contangolaw04_WireInts.mono : ∀ a0 a1 a2 k, LeO (contangolaw04_WireInts.f k a0 a1 a2) (contangolaw04_WireInts.f (k + 1) a0 a1 a2) := by
  intro a0 a1 a2 k
  unfold contangolaw04_WireInts.f
  repeat' first
      | (with_reducible exact contangolaw04_goes.mono _)
      | (with_reducible exact contangolaw04_touched.mono _ _)
      | (with_reducible exact contangoref04_Int.mono _ _ _)
      | (with_reducible exact contangoref04_PutInt.mono _ _ _)
      | (with_reducible exact LeO.refl _)
      | (with_reducible exact LeO.none _)
      | (with_reducible refine LeO.ite ?_ ?_)
      | (with_reducible refine LeO.bind ?_ (fun _ => ?_))
      | exact contangolaw04_goes.mono _
      | exact contangolaw04_touched.mono _ _
      | exact contangoref04_Int.mono _ _ _
      | exact contangoref04_PutInt.mono _ _ _
      | exact LeO.none _
      | refine LeO.ite ?_ ?_
      | refine LeO.bind ?_ (fun _ => ?_)
def contangolaw04_WireInts.T7 : Bool × List (List Nat × List Nat) := (true, [([], []), ([0], [0]), ([], []), ([], []), ([2, 3], [2, 3]), ([4], [4]), ([1, 5], [1, 5]), ([6, 4], [6]), ([7], [7]), ([7], [7]), ([8, 9, 7], [7, 8, 9]), ([7, 10], [7, 10]), ([11, 7], [11]), ([12], [12]), ([12], [12]), ([13, 14, 12], [12, 13, 14]), ([12, 15], [12, 15]), ([16, 12], [16]), ([17], [17]), ([17], [17]), ([18, 19, 17], [17, 18, 19]), ([17, 20], [17, 20]), ([21, 17, 0, 1, 2, 3, 4, 5, 6, 7, 8, 9, 10, 11, 12, 13, 14, 15, 16, 17, 18, 19, 20, 21], [21])])
def contangolaw04_WireInts.B7 : List Nat := [0, 1, 0, 0, 12, 28, 63, 127, 255, 255, 1023, 2047, 4095, 8191, 8191, 32767, 65535, 131071, 262143, 262143, 1048575, 2097151, 4194303]
theorem contangolaw04_WireInts.tab7 : rtab .any (opsOf Try.f3 7) = contangolaw04_WireInts.T7 := by kernel_rfl
theorem contangolaw04_WireInts.bits7 : waitsOk contangolaw04_WireInts.T7.2 contangolaw04_WireInts.B7 = true := by kernel_rfl
set_option maxHeartbeats 8000000 in
set_option maxRecDepth 100000 in
theorem contangolaw04_WireInts.calls (k : Nat) (A0 : Option Addr) (c0 : Nat) (l0 : List Int) (a1 : Int) (a2 : Int) (r : Bool) (w : World) (hr0 : Kd.C (Kd.int .u8) w A0 l0.length l0) (hc0 : l0.length ≤ c0) (h : contangolaw04_WireInts.f k l0 a1 a2 = some r) :
    Calls Try.prog 3 #[.slice A0 l0.length c0, .int .i64 a1, .int .i64 a2] w fun e w' => e = .returned (.bool r) ∧ Below w.heap.size w w' := by
  have HR0 := Aside0.mk hr0
  have HC0 := Aside0.mk hc0
  clear hr0 hc0
  have HB := Aside0.mk (Below.refl w.heap.size w)
  have H : (if (l0.length : Int) > 5000 then ((contangolaw04_goes.f k).bind fun t126 => (some t126)) else ((contangolaw04_lent.f l0).bind fun t127 => ((wire_PutInt.f t127 a1).bind fun t130 => ((wire_Int.f t127 a2).bind fun bt133 => ((contangoref04_Int.f k l0 a2).bind fun bt136 => ((contangoref04_PutInt.f k l0 a1).bind fun t139 => (if (strOfNums t130).toList = (strOfNums t139).toList then (if bt133.1 = bt136.1 then (if bt133.2.1 = bt136.2.1 then ((contangolaw04_touched.f k t130).bind fun t142 => (if bt133.2.2 = bt136.2.2 then ((contangolaw04_kept.f t127 l0).bind fun t143 => (if t143 = true then ((contangolaw04_goes.f k).bind fun t144 => (some t144)) else (none))) else (none))) else ((contangolaw04_touched.f k t130).bind fun t145 => (none))) else ((contangolaw04_touched.f k t130).bind fun t146 => (none))) else ((contangolaw04_touched.f k t130).bind fun t147 => (none))))))))) = some r := h
  clear h
  by_cases c4 : (l0.length : Int) > 5000
  · rw [if_pos c4] at H
    have c4b0 : decide (5000 < (l0.length : Int)) = true := decide_eq_true c4
    have c4b1 : decide (5000 < l0.length) = true := decide_eq_true (by omega)
    clear c4
    replace H := Option.bind_eq_some_iff.mp H
    obtain ⟨t126, A50, H⟩ := H
    replace H : (some t126) = some r := H
    have A5 := Aside0.mk A50
    clear A50
    obtain rfl := Option.some.inj H
    go_enter Try.func3, Try.ntmps3
    go_wp2_with (first | ((with_reducible refine gate_callee (f := 9) rfl ?_); refine goesL_ (some 19) rfl rfl Try.func9 (by kernel_rfl) rfl #[] rfl (by (try simp only [List.map_toArray, List.map_cons, List.map_nil]); first | done | rfl | (simp only [List.length_drop, List.length_take]; rfl)) ?_; (with_reducible refine (contangolaw04_goes.calls k  t126 _ A5.out).mono ?_); rintro e w6 ⟨rfl, hb⟩; refine ⟨_, rfl, ?_⟩; have n0_ := Aside0.mk (below_step (by repeat (first | (with_reducible first | exact HB.out | apply below_alloc | apply pw_below_drewN | apply below_drew1) | exact HB.out)) hb); clear HB; have HB := n0_; clear n0_; (try clear hb); (try clear hb2); (try clear hk); (try clear hi)))
    go_ret
    exact ⟨by first | rfl | (simp [errW_none, errW_some] <;> rfl) | (simp [*, errW_none, errW_some] <;> rfl), by repeat (first | (with_reducible first | exact HB.out | apply below_alloc | apply pw_below_drewN | apply below_drew1) | exact HB.out)⟩
  · rw [if_neg c4] at H
    have c4b0 : decide (5000 < (l0.length : Int)) = false := decide_eq_false c4
    have c4b1 : decide (5000 < l0.length) = false := decide_eq_false (by omega)
    clear c4
    replace H := Option.bind_eq_some_iff.mp H
    obtain ⟨t127, A70, H⟩ := H
    replace H : ((wire_PutInt.f t127 a1).bind fun t130 => ((wire_Int.f t127 a2).bind fun bt133 => ((contangoref04_Int.f k l0 a2).bind fun bt136 => ((contangoref04_PutInt.f k l0 a1).bind fun t139 => (if (strOfNums t130).toList = (strOfNums t139).toList then (if bt133.1 = bt136.1 then (if bt133.2.1 = bt136.2.1 then ((contangolaw04_touched.f k t130).bind fun t142 => (if bt133.2.2 = bt136.2.2 then ((contangolaw04_kept.f t127 l0).bind fun t143 => (if t143 = true then ((contangolaw04_goes.f k).bind fun t144 => (some t144)) else (none))) else (none))) else ((contangolaw04_touched.f k t130).bind fun t145 => (none))) else ((contangolaw04_touched.f k t130).bind fun t146 => (none))) else ((contangolaw04_touched.f k t130).bind fun t147 => (none))))))) = some r := H
    have A7 := Aside0.mk A70
    clear A70
    replace H := Option.bind_eq_some_iff.mp H
    obtain ⟨t130, A80, H⟩ := H
    replace H : ((wire_Int.f t127 a2).bind fun bt133 => ((contangoref04_Int.f k l0 a2).bind fun bt136 => ((contangoref04_PutInt.f k l0 a1).bind fun t139 => (if (strOfNums t130).toList = (strOfNums t139).toList then (if bt133.1 = bt136.1 then (if bt133.2.1 = bt136.2.1 then ((contangolaw04_touched.f k t130).bind fun t142 => (if bt133.2.2 = bt136.2.2 then ((contangolaw04_kept.f t127 l0).bind fun t143 => (if t143 = true then ((contangolaw04_goes.f k).bind fun t144 => (some t144)) else (none))) else (none))) else ((contangolaw04_touched.f k t130).bind fun t145 => (none))) else ((contangolaw04_touched.f k t130).bind fun t146 => (none))) else ((contangolaw04_touched.f k t130).bind fun t147 => (none)))))) = some r := H
    have A8 := Aside0.mk A80
    clear A80
    replace H := Option.bind_eq_some_iff.mp H
    obtain ⟨⟨t133, t134, t135⟩, A90, H⟩ := H
    replace H : ((contangoref04_Int.f k l0 a2).bind fun bt136 => ((contangoref04_PutInt.f k l0 a1).bind fun t139 => (if (strOfNums t130).toList = (strOfNums t139).toList then (if t133 = bt136.1 then (if t134 = bt136.2.1 then ((contangolaw04_touched.f k t130).bind fun t142 => (if t135 = bt136.2.2 then ((contangolaw04_kept.f t127 l0).bind fun t143 => (if t143 = true then ((contangolaw04_goes.f k).bind fun t144 => (some t144)) else (none))) else (none))) else ((contangolaw04_touched.f k t130).bind fun t145 => (none))) else ((contangolaw04_touched.f k t130).bind fun t146 => (none))) else ((contangolaw04_touched.f k t130).bind fun t147 => (none))))) = some r := H
    have A9 := Aside0.mk A90
    clear A90
    replace H := Option.bind_eq_some_iff.mp H
    obtain ⟨⟨t136, t137, t138⟩, A100, H⟩ := H
    replace H : ((contangoref04_PutInt.f k l0 a1).bind fun t139 => (if (strOfNums t130).toList = (strOfNums t139).toList then (if t133 = t136 then (if t134 = t137 then ((contangolaw04_touched.f k t130).bind fun t142 => (if t135 = t138 then ((contangolaw04_kept.f t127 l0).bind fun t143 => (if t143 = true then ((contangolaw04_goes.f k).bind fun t144 => (some t144)) else (none))) else (none))) else ((contangolaw04_touched.f k t130).bind fun t145 => (none))) else ((contangolaw04_touched.f k t130).bind fun t146 => (none))) else ((contangolaw04_touched.f k t130).bind fun t147 => (none)))) = some r := H
    have A10 := Aside0.mk A100
    clear A100
    replace H := Option.bind_eq_some_iff.mp H
    obtain ⟨t139, A110, H⟩ := H
    replace H : (if (strOfNums t130).toList = (strOfNums t139).toList then (if t133 = t136 then (if t134 = t137 then ((contangolaw04_touched.f k t130).bind fun t142 => (if t135 = t138 then ((contangolaw04_kept.f t127 l0).bind fun t143 => (if t143 = true then ((contangolaw04_goes.f k).bind fun t144 => (some t144)) else (none))) else (none))) else ((contangolaw04_touched.f k t130).bind fun t145 => (none))) else ((contangolaw04_touched.f k t130).bind fun t146 => (none))) else ((contangolaw04_touched.f k t130).bind fun t147 => (none))) = some r := H
    have A11 := Aside0.mk A110
    clear A110
    by_cases c12 : (strOfNums t130).toList = (strOfNums t139).toList
    · rw [if_pos c12] at H
      have c12b0 : ((strOfNums t130).toList == (strOfNums t139).toList) = true := beq_iff_eq.mpr c12
      have c12b1 : ((strOfNums t130).toList != (strOfNums t139).toList) = false := bne_eq_false_iff_eq.mpr c12
      clear c12
      by_cases c13 : t133 = t136
      · rw [if_pos c13] at H
        have c13b0 : (t133 == t136) = true := beq_iff_eq.mpr c13
        have c13b1 : (t133 != t136) = false := bne_eq_false_iff_eq.mpr c13
        clear c13
        by_cases c14 : t134 = t137
        · rw [if_pos c14] at H
          have c14b0 : (t134 == t137) = true := beq_iff_eq.mpr c14
          have c14b1 : (t134 != t137) = false := bne_eq_false_iff_eq.mpr c14
          clear c14
          replace H := Option.bind_eq_some_iff.mp H
          obtain ⟨t142, A150, H⟩ := H
          replace H : (if t135 = t138 then ((contangolaw04_kept.f t127 l0).bind fun t143 => (if t143 = true then ((contangolaw04_goes.f k).bind fun t144 => (some t144)) else (none))) else (none)) = some r := H
          have A15 := Aside0.mk A150
          clear A150
          by_cases c16 : t135 = t138
          · rw [if_pos c16] at H
            have c16b0 : (t135 == t138) = true := beq_iff_eq.mpr c16
            have c16b1 : (t135 != t138) = false := bne_eq_false_iff_eq.mpr c16
            clear c16
            replace H := Option.bind_eq_some_iff.mp H
            obtain ⟨t143, A170, H⟩ := H
            replace H : (if t143 = true then ((contangolaw04_goes.f k).bind fun t144 => (some t144)) else (none)) = some r := H
            have A17 := Aside0.mk A170
            clear A170
            by_cases c18 : t143 = true
            · subst c18
              have H1 : ((contangolaw04_goes.f k).bind fun t144 => (some t144)) = some r := by rw [if_pos rfl] at H; exact H
              clear H
              have H := H1
              clear H1
              replace H := Option.bind_eq_some_iff.mp H
              obtain ⟨t144, A190, H⟩ := H
              replace H : (some t144) = some r := H
              have A19 := Aside0.mk A190
              clear A190
              obtain rfl := Option.some.inj H
              go_enter Try.func3, Try.ntmps3
              try go_wp2_with (first | ((with_reducible refine gate_callee (f := 10) rfl ?_); refine goesL_ (some 21) rfl rfl Try.func10 (by kernel_rfl) rfl #[.slice A0 l0.length c0] rfl (by (try simp only [List.map_toArray, List.map_cons, List.map_nil]); first | done | rfl | (simp only [List.length_drop, List.length_take]; rfl)) ?_; (with_reducible refine (contangolaw04_lent.calls _ _ l0 t127 _ ?side1 ?side2 A7.out).mono ?_); (case side1 => repeat (first | exact HR0.out | (with_reducible refine Kd.C_alloc ?_ _) | (with_reducible refine Kd.C_drewN ?_ _) | (with_reducible refine Kd.C_drew ?_))); (case side2 => exact HC0.out); rintro e w20 ⟨v128, rfl, ho0, hb, ht0_⟩; refine ⟨_, rfl, ?_⟩; have n0_ := Aside0.mk (Kd.R_lower ho0 (below_size (by repeat (first | (with_reducible first | exact HB.out | apply below_alloc | apply pw_below_drewN | apply below_drew1) | exact HB.out)))); have n1_ := Aside0.mk (below_step (by repeat (first | (with_reducible first | exact HB.out | apply below_alloc | apply pw_below_drewN | apply below_drew1) | exact HB.out)) hb); clear HB; have HO129 := n0_; have HT129 := Aside0.mk ht0_; clear ht0_; have HB := n1_; clear n0_ n1_; (try clear hb); (try clear hb2); (try clear hk); (try clear hi); (try clear ho0); obtain ⟨Ao21, co21, eo21⟩ := Kd.R_slice HO129.out; subst eo21) | ((with_reducible refine gate_callee (f := 11) rfl ?_); refine goesL_ (some 24) rfl rfl Try.func11 (by kernel_rfl) rfl #[.slice Ao21 t127.length co21, .int .i64 a1] rfl (by (try simp only [List.map_toArray, List.map_cons, List.map_nil]); first | done | rfl | (simp only [List.length_drop, List.length_take]; rfl)) ?_; (with_reducible refine (wire_PutInt.calls _ _ t127 a1 t130 _ ?side1 ?side2 A8.out).mono ?_); (case side1 => repeat (first | exact (Kd.R_reads' HO129.out).2.2 | (with_reducible refine Kd.C_alloc ?_ _) | (with_reducible refine Kd.C_drewN ?_ _) | (with_reducible refine Kd.C_drew ?_))); (case side2 => exact (Kd.R_reads' HO129.out).2.1); rintro e w22 ⟨v131, rfl, ho0, hb⟩; refine ⟨_, rfl, ?_⟩; have t0_ := Aside0.mk (Tl.R_elder' (by (with_reducible repeat (first | apply Tl.R_alloc | apply Tl.R_drewN | apply Tl.R_drew)); exact HT129.out) (Kd.R_base ho0) hb); have n0_ := Aside0.mk (Kd.R_elder' (by (with_reducible repeat (first | apply Kd.R_alloc | apply Kd.R_drewN | apply Kd.R_drew)); exact HO129.out) (Kd.R_base ho0) hb); have n1_ := Aside0.mk (Kd.R_lower (Kd.R_new' ho0 (Kd.R_lt (by (with_reducible repeat (first | apply Kd.R_alloc | apply Kd.R_drewN | apply Kd.R_drew)); exact HO129.out))) (below_size (by repeat (first | (with_reducible first | exact HB.out | apply below_alloc | apply pw_below_drewN | apply below_drew1) | exact HB.out)))); have n2_ := Aside0.mk (below_step (by repeat (first | (with_reducible first | exact HB.out | apply below_alloc | apply pw_below_drewN | apply below_drew1) | exact HB.out)) hb); clear HO129 HT129; clear HB; have HO129 := n0_; have HT129 := t0_; clear t0_; have HO132 := n1_; have HB := n2_; clear n0_ n1_ n2_; (try clear hb); (try clear hb2); (try clear hk); (try clear hi); (try clear ho0)) | ((with_reducible refine gate_callee (f := 12) rfl ?_); refine goesL_ (some 28) rfl rfl Try.func12 (by kernel_rfl) rfl #[.slice Ao21 t127.length co21, .int .i64 a2] rfl (by (try simp only [List.map_toArray, List.map_cons, List.map_nil]); first | done | rfl | (simp only [List.length_drop, List.length_take]; rfl)) ?_; (with_reducible refine (wire_Int.calls _ _ t127 a2 t133 t134 t135 _ ?side1 ?side2 A9.out).mono ?_); (case side1 => repeat (first | exact (Kd.R_reads' HO129.out).2.2 | (with_reducible refine Kd.C_alloc ?_ _) | (with_reducible refine Kd.C_drewN ?_ _) | (with_reducible refine Kd.C_drew ?_))); (case side2 => exact (Kd.R_reads' HO129.out).2.1); rintro e w' ⟨rfl, ⟨nd, rfl⟩⟩; refine ⟨_, rfl, ?_⟩) | ((with_reducible refine gate_callee (f := 13) rfl ?_); refine goesL_ (some 35) rfl rfl Try.func13 (by kernel_rfl) rfl #[.slice A0 l0.length c0, .int .i64 a2] rfl (by (try simp only [List.map_toArray, List.map_cons, List.map_nil]); first | done | rfl | (simp only [List.length_drop, List.length_take]; rfl)) ?_; (with_reducible refine (contangoref04_Int.calls k _ _ l0 a2 t136 t137 t138 _ ?side1 ?side2 A10.out).mono ?_); (case side1 => repeat (first | exact (Kd.C_below HR0.out (by repeat (first | (with_reducible first | exact HB.out | apply below_alloc | apply pw_below_drewN | apply below_drew1) | exact HB.out))) | (with_reducible refine Kd.C_alloc ?_ _) | (with_reducible refine Kd.C_drewN ?_ _) | (with_reducible refine Kd.C_drew ?_))); (case side2 => exact HC0.out); rintro e w' ⟨rfl, ⟨nd, rfl⟩⟩; refine ⟨_, rfl, ?_⟩))
              (try (rw [drewN_self w22]; generalize hq_ : World.drewN w22 _ = w22; have n0_ : Aside0 (Kd.R (Kd.int .u8) 5 w22 w.heap.size (fun k_ => some k_ ≠ (v131 : Value).ownBlock) (.slice Ao21 t127.length co21) t127) := ⟨by rw [← hq_]; exact (by (with_reducible repeat (first | apply Kd.R_alloc | apply Kd.R_drewN | apply Kd.R_drew)); exact Kd.R_mono HO129.out (fun _ hk => hk.2))⟩; have t0_ : Aside0 (Tl w22 (.slice Ao21 t127.length co21) (sevens.map (Value.int .u8))) := ⟨by rw [← hq_]; exact (by (with_reducible repeat (first | apply Tl.R_alloc | apply Tl.R_drewN | apply Tl.R_drew)); exact HT129.out)⟩; have n1_ : Aside0 (Kd.R (Kd.int .u8) 5 w22 w.heap.size (fun k_ => some k_ ≠ (.slice Ao21 t127.length co21 : Value).ownBlock) v131 t130) := ⟨by rw [← hq_]; exact (by (with_reducible repeat (first | apply Kd.R_alloc | apply Kd.R_drewN | apply Kd.R_drew)); exact Kd.R_mono HO132.out (fun _ hk => hk.2))⟩; have n2_ : Aside0 (Below w.heap.size w w22) := ⟨by rw [← hq_]; exact (by repeat (first | (with_reducible first | exact HB.out | apply below_alloc | apply pw_below_drewN | apply below_drew1) | exact HB.out))⟩; clear HO129 HT129 HO132 HB hq_; have HO129 := n0_; have HT129 := t0_; clear t0_; have HO132 := n1_; have HB := n2_; clear n0_ n1_ n2_))
              have t0_ := Aside0.mk (Tl.R_drew HT129.out)
              have n0_ := Aside0.mk (Kd.R_drew HO129.out)
              have n1_ := Aside0.mk (Kd.R_drew HO132.out)
              have n2_ := Aside0.mk (below_drew1 HB.out)
              clear HO129 HT129
              clear HO132
              clear HB
              have HO129 := n0_
              have HT129 := t0_
              clear t0_
              have HO132 := n1_
              have HB := n2_
              clear n0_ n1_ n2_
              have hcv24 := own_string (P := Try.prog) Try.underlying22 Try.underlying5 Try.underlying9 (Kd.own_of_R HO132.out)
              refine start_ (n := 23) (S := fun w' => (convert 22 9 v131).run Try.prog w' = .ok (.string (strOfNums t130)) w') (ds := []) #[false, false, false, false, false, false, false, false, false, false, false, false, false, false, false, false, false, false, false, false, false, false, false] (by kernel_rfl) rfl rfl (own_string (P := Try.prog) Try.underlying22 Try.underlying5 Try.underlying9 (Kd.own_of_R HO132.out)) (fun hHeld => ?_); refine with_tabW contangolaw04_WireInts.tab7 contangolaw04_WireInts.bits7 (fun HT_ HW_ => ?_)
              generalize w22.drew = w23 at HO129 HT129 HO132 HB hHeld ⊢
              refine pure_ (i := 0) (N := some 39) (v := ?_) (a' := ?_) #[true, false, false, false, false, false, false, false, false, false, false, false, false, false, false, false, false, false, false, false, false, false, false] rfl rfl (any_of HT_.out (by kernel_rfl)) (fun _ _ _ h => h) (Or.inl ⟨by rfl, ?_⟩) ?_ ?_
              rotate_left
              · intro w'
                go_simp
                with_reducible rfl
              rotate_left
              · simp only [Act.put, List.setIfInBounds_toArray, List.set_cons_zero, List.set_cons_succ, i64_w, i32_w]
                rfl
              refine pure_ (i := 2) (N := some 41) (v := ?_) (a' := ?_) #[true, false, true, false, false, false, false, false, false, false, false, false, false, false, false, false, false, false, false, false, false, false, false] rfl rfl (any_of HT_.out (by kernel_rfl)) (fun _ _ _ h => h) (Or.inl ⟨by rfl, ?_⟩) ?_ ?_
              rotate_left
              · intro w'
                go_simp
                with_reducible rfl
              rotate_left
              · simp only [Act.put, List.setIfInBounds_toArray, List.set_cons_zero, List.set_cons_succ, i64_w, i32_w]
                rfl
              refine pure_ (i := 3) (N := some 42) (v := ?_) (a' := ?_) #[true, false, true, true, false, false, false, false, false, false, false, false, false, false, false, false, false, false, false, false, false, false, false] rfl rfl (any_of HT_.out (by kernel_rfl)) (fun _ _ _ h => h) (Or.inl ⟨by rfl, ?_⟩) ?_ ?_
              rotate_left
              · intro w'
                go_simp
                with_reducible rfl
              rotate_left
              · simp only [Act.put, List.setIfInBounds_toArray, List.set_cons_zero, List.set_cons_succ, i64_w, i32_w]
                rfl
              refine take_ (i := 1) (N := some 40) (v := ?_) (a' := ?_) #[true, true, true, true, false, false, false, false, false, false, false, false, false, false, false, false, false, false, false, false, false, false, false] rfl rfl (take_ofW HT_.out HW_.out (by kernel_rfl)) (fun _ _ _ h => h) (Or.inl ⟨by rfl, ?_⟩) hHeld ?_ ?_
              rotate_left
              · intro w' s0
                go_simp
                with_reducible rfl
              rotate_left
              · simp only [Act.put, List.setIfInBounds_toArray, List.set_cons_zero, List.set_cons_succ, i64_w, i32_w]
                rfl
              refine one_ (i := 4) (N := some 43) #[true, true, true, true, true, false, false, false, false, false, false, false, false, false, false, false, false, false, false, false, false, false, false] rfl rfl (one_of HT_.out (by kernel_rfl)) (by decide) (fun K hK => ?_)
              refine goes_ Try.func14 (by kernel_rfl) rfl #[.slice A0 l0.length c0, .int .i64 a1] (by rfl) rfl rfl (by (try simp only [List.map_toArray, List.map_cons, List.map_nil]); first | done | rfl | (simp only [List.length_drop, List.length_take]; rfl)) ?_
              with_reducible refine (contangoref04_PutInt.calls k _ _ l0 a1 t139 _ ?side1 ?side2 A11.out).mono ?_
              (case side1 => repeat (first | exact (Kd.C_below HR0.out HB.out) | (with_reducible refine Kd.C_alloc ?_ _) | (with_reducible refine Kd.C_drewN ?_ _) | (with_reducible refine Kd.C_drew ?_)))
              (case side2 => exact HC0.out)
              rintro e w25 ⟨v140, rfl, ho0, hb⟩
              refine ⟨_, rfl, ?_⟩
              have t0_ := Aside0.mk (Tl.R_elder' (by (with_reducible repeat (first | apply Tl.R_alloc | apply Tl.R_drewN | apply Tl.R_drew)); exact HT129.out) (Kd.R_base ho0) hb)
              have n0_ := Aside0.mk (Kd.R_elder' (by (with_reducible repeat (first | apply Kd.R_alloc | apply Kd.R_drewN | apply Kd.R_drew)); exact HO129.out) (Kd.R_base ho0) hb)
              have n1_ := Aside0.mk (Kd.R_elder' (by (with_reducible repeat (first | apply Kd.R_alloc | apply Kd.R_drewN | apply Kd.R_drew)); exact HO132.out) (Kd.R_base ho0) hb)
              have n2_ := Aside0.mk (Kd.R_lower (Kd.R_new' (Kd.R_new' ho0 (Kd.R_lt (by (with_reducible repeat (first | apply Kd.R_alloc | apply Kd.R_drewN | apply Kd.R_drew)); exact HO129.out))) (Kd.R_lt (by (with_reducible repeat (first | apply Kd.R_alloc | apply Kd.R_drewN | apply Kd.R_drew)); exact HO132.out))) (below_size (by repeat (first | (with_reducible first | exact HB.out | apply below_alloc | apply pw_below_drewN | apply below_drew1) | exact HB.out))))
              have n3_ := Aside0.mk (below_step (by repeat (first | (with_reducible first | exact HB.out | apply below_alloc | apply pw_below_drewN | apply below_drew1) | exact HB.out)) hb)
              clear HO129 HT129
              clear HO132
              clear HB
              have HO129 := n0_
              have HT129 := t0_
              clear t0_
              have HO132 := n1_
              have HO141 := n2_
              have HB := n3_
              clear n0_ n1_ n2_ n3_
              (try clear hb)
              (try clear hb2)
              (try clear hk)
              (try clear hi)
              (try clear ho0)
              refine hK.out _ _ (own_string (P := Try.prog) Try.underlying22 Try.underlying5 Try.underlying9 (Kd.own_of_R HO132.out)) (fun hHeld => ?_)
              clear hK K
              refine norm_ (a' := ?_) ?_ ?_
              rotate_left
              · show Act.put _ (some 43) _ = _
                simp only [Act.put, List.setIfInBounds_toArray, List.set_cons_zero, List.set_cons_succ, i64_w, i32_w]
                rfl
              refine one_ (i := 5) (N := some 44) #[true, true, true, true, true, true, false, false, false, false, false, false, false, false, false, false, false, false, false, false, false, false, false] rfl rfl (one_of HT_.out (by kernel_rfl)) (by decide) (fun K hK => ?_)
              have hcv26 := own_string (P := Try.prog) Try.underlying22 Try.underlying5 Try.underlying9 (Kd.own_of_R HO141.out)
              refine value_ (w1 := ?_) (v := ?_) (by rfl) rfl ?_ ?_
              rotate_left 2
              · go_simp
                constructor
                · rfl
                · rfl
              clear hcv26
              refine hK.out _ _ (own_string (P := Try.prog) Try.underlying22 Try.underlying5 Try.underlying9 (Kd.own_of_R HO132.out)) (fun hHeld => ?_)
              clear hK K
              refine norm_ (a' := ?_) ?_ ?_
              rotate_left
              · show Act.put _ (some 44) _ = _
                simp only [Act.put, List.setIfInBounds_toArray, List.set_cons_zero, List.set_cons_succ, i64_w, i32_w]
                rfl
              refine pure_ (i := 6) (N := some 45) (v := ?_) (a' := ?_) #[true, true, true, true, true, true, true, false, false, false, false, false, false, false, false, false, false, false, false, false, false, false, false] rfl rfl (any_of HT_.out (by kernel_rfl)) (fun _ _ _ h => h) (Or.inl ⟨by rfl, ?_⟩) ?_ ?_
              rotate_left
              · intro w'
                go_simp
                with_reducible rfl
              rotate_left
              · simp only [Act.put, List.setIfInBounds_toArray, List.set_cons_zero, List.set_cons_succ, i64_w, i32_w]
                rfl
              refine pure_ (i := 7) (N := some 46) (v := ?_) (a' := ?_) #[true, true, true, true, true, true, true, true, false, false, false, false, false, false, false, false, false, false, false, false, false, false, false] rfl rfl (any_of HT_.out (by kernel_rfl)) (fun _ _ _ h => h) (Or.inl ⟨by rfl, ?_⟩) ?_ ?_
              rotate_left
              · intro w'
                go_simp
                with_reducible rfl
              rotate_left
              · simp only [Act.put, List.setIfInBounds_toArray, List.set_cons_zero, List.set_cons_succ, i64_w, i32_w]
                rfl
              refine pure_ (i := 8) (N := some 47) (v := ?_) (a' := ?_) #[true, true, true, true, true, true, true, true, true, false, false, false, false, false, false, false, false, false, false, false, false, false, false] rfl rfl (any_of HT_.out (by kernel_rfl)) (fun _ _ _ h => h) (Or.inl ⟨by rfl, ?_⟩) ?_ ?_
              rotate_left
              · intro w'
                go_simp
                with_reducible rfl
              rotate_left
              · simp only [Act.put, List.setIfInBounds_toArray, List.set_cons_zero, List.set_cons_succ, i64_w, i32_w]
                rfl
              refine pure_ (i := 9) (N := some 48) (v := ?_) (a' := ?_) #[true, true, true, true, true, true, true, true, true, true, false, false, false, false, false, false, false, false, false, false, false, false, false] rfl rfl (any_of HT_.out (by kernel_rfl)) (fun _ _ _ h => h) (Or.inl ⟨by rfl, ?_⟩) ?_ ?_
              rotate_left
              · intro w'
                go_simp
                with_reducible rfl
              rotate_left
              · simp only [Act.put, List.setIfInBounds_toArray, List.set_cons_zero, List.set_cons_succ, i64_w, i32_w]
                rfl
              refine pure_ (i := 10) (N := some 49) (v := ?_) (a' := ?_) #[true, true, true, true, true, true, true, true, true, true, true, false, false, false, false, false, false, false, false, false, false, false, false] rfl rfl (any_of HT_.out (by kernel_rfl)) (fun _ _ _ h => h) (Or.inl ⟨by rfl, ?_⟩) ?_ ?_
              rotate_left
              · intro w'
                go_simp
                with_reducible rfl
              rotate_left
              · simp only [Act.put, List.setIfInBounds_toArray, List.set_cons_zero, List.set_cons_succ, i64_w, i32_w]
                rfl
              refine pure_ (i := 11) (N := some 50) (v := ?_) (a' := ?_) #[true, true, true, true, true, true, true, true, true, true, true, true, false, false, false, false, false, false, false, false, false, false, false] rfl rfl (any_of HT_.out (by kernel_rfl)) (fun _ _ _ h => h) (Or.inl ⟨by rfl, ?_⟩) ?_ ?_
              rotate_left
              · intro w'
                go_simp
                with_reducible rfl
              rotate_left
              · simp only [Act.put, List.setIfInBounds_toArray, List.set_cons_zero, List.set_cons_succ, i64_w, i32_w]
                rfl
              refine pure_ (i := 12) (N := some 51) (v := ?_) (a' := ?_) #[true, true, true, true, true, true, true, true, true, true, true, true, true, false, false, false, false, false, false, false, false, false, false] rfl rfl (any_of HT_.out (by kernel_rfl)) (fun _ _ _ h => h) (Or.inl ⟨by rfl, ?_⟩) ?_ ?_
              rotate_left
              · intro w'
                go_simp
                with_reducible rfl
              rotate_left
              · simp only [Act.put, List.setIfInBounds_toArray, List.set_cons_zero, List.set_cons_succ, i64_w, i32_w]
                rfl
              refine pure_ (i := 13) (N := some 52) (v := ?_) (a' := ?_) #[true, true, true, true, true, true, true, true, true, true, true, true, true, true, false, false, false, false, false, false, false, false, false] rfl rfl (any_of HT_.out (by kernel_rfl)) (fun _ _ _ h => h) (Or.inl ⟨by rfl, ?_⟩) ?_ ?_
              rotate_left
              · intro w'
                go_simp
                with_reducible rfl
              rotate_left
              · simp only [Act.put, List.setIfInBounds_toArray, List.set_cons_zero, List.set_cons_succ, i64_w, i32_w]
                rfl
              refine pure_ (i := 14) (N := some 53) (v := ?_) (a' := ?_) #[true, true, true, true, true, true, true, true, true, true, true, true, true, true, true, false, false, false, false, false, false, false, false] rfl rfl (any_of HT_.out (by kernel_rfl)) (fun _ _ _ h => h) (Or.inl ⟨by rfl, ?_⟩) ?_ ?_
              rotate_left
              · intro w'
                go_simp
                with_reducible rfl
              rotate_left
              · simp only [Act.put, List.setIfInBounds_toArray, List.set_cons_zero, List.set_cons_succ, i64_w, i32_w]
                rfl
              refine pure_ (i := 15) (N := some 54) (v := ?_) (a' := ?_) #[true, true, true, true, true, true, true, true, true, true, true, true, true, true, true, true, false, false, false, false, false, false, false] rfl rfl (any_of HT_.out (by kernel_rfl)) (fun _ _ _ h => h) (Or.inl ⟨by rfl, ?_⟩) ?_ ?_
              rotate_left
              · intro w'
                go_simp
                with_reducible rfl
              rotate_left
              · simp only [Act.put, List.setIfInBounds_toArray, List.set_cons_zero, List.set_cons_succ, i64_w, i32_w]
                rfl
              refine pure_ (i := 16) (N := some 55) (v := ?_) (a' := ?_) #[true, true, true, true, true, true, true, true, true, true, true, true, true, true, true, true, true, false, false, false, false, false, false] rfl rfl (any_of HT_.out (by kernel_rfl)) (fun _ _ _ h => h) (Or.inl ⟨by rfl, ?_⟩) ?_ ?_
              rotate_left
              · intro w'
                go_simp
                with_reducible rfl
              rotate_left
              · simp only [Act.put, List.setIfInBounds_toArray, List.set_cons_zero, List.set_cons_succ, i64_w, i32_w]
                rfl
              refine pure_ (i := 17) (N := some 56) (v := ?_) (a' := ?_) #[true, true, true, true, true, true, true, true, true, true, true, true, true, true, true, true, true, true, false, false, false, false, false] rfl rfl (any_of HT_.out (by kernel_rfl)) (fun _ _ _ h => h) (Or.inl ⟨by rfl, ?_⟩) ?_ ?_
              rotate_left
              · intro w'
                go_simp
                with_reducible rfl
              rotate_left
              · simp only [Act.put, List.setIfInBounds_toArray, List.set_cons_zero, List.set_cons_succ, i64_w, i32_w]
                rfl
              refine pure_ (i := 18) (N := some 57) (v := ?_) (a' := ?_) #[true, true, true, true, true, true, true, true, true, true, true, true, true, true, true, true, true, true, true, false, false, false, false] rfl rfl (any_of HT_.out (by kernel_rfl)) (fun _ _ _ h => h) (Or.inl ⟨by rfl, ?_⟩) ?_ ?_
              rotate_left
              · intro w'
                go_simp
                with_reducible rfl
              rotate_left
              · simp only [Act.put, List.setIfInBounds_toArray, List.set_cons_zero, List.set_cons_succ, i64_w, i32_w]
                rfl
              refine pure_ (i := 19) (N := some 58) (v := ?_) (a' := ?_) #[true, true, true, true, true, true, true, true, true, true, true, true, true, true, true, true, true, true, true, true, false, false, false] rfl rfl (any_of HT_.out (by kernel_rfl)) (fun _ _ _ h => h) (Or.inl ⟨by rfl, ?_⟩) ?_ ?_
              rotate_left
              · intro w'
                go_simp
                with_reducible rfl
              rotate_left
              · simp only [Act.put, List.setIfInBounds_toArray, List.set_cons_zero, List.set_cons_succ, i64_w, i32_w]
                rfl
              refine pure_ (i := 20) (N := some 59) (v := ?_) (a' := ?_) #[true, true, true, true, true, true, true, true, true, true, true, true, true, true, true, true, true, true, true, true, true, false, false] rfl rfl (any_of HT_.out (by kernel_rfl)) (fun _ _ _ h => h) (Or.inl ⟨by rfl, ?_⟩) ?_ ?_
              rotate_left
              · intro w'
                go_simp
                with_reducible rfl
              rotate_left
              · simp only [Act.put, List.setIfInBounds_toArray, List.set_cons_zero, List.set_cons_succ, i64_w, i32_w]
                rfl
              refine pure_ (i := 21) (N := some 60) (v := ?_) (a' := ?_) #[true, true, true, true, true, true, true, true, true, true, true, true, true, true, true, true, true, true, true, true, true, true, false] rfl rfl (any_of HT_.out (by kernel_rfl)) (fun _ _ _ h => h) (Or.inl ⟨by rfl, ?_⟩) ?_ ?_
              rotate_left
              · intro w'
                go_simp
                with_reducible rfl
              rotate_left
              · simp only [Act.put, List.setIfInBounds_toArray, List.set_cons_zero, List.set_cons_succ, i64_w, i32_w]
                rfl
              refine pure_ (i := 22) (N := some 15) (v := ?_) (a' := ?_) #[true, true, true, true, true, true, true, true, true, true, true, true, true, true, true, true, true, true, true, true, true, true, true] rfl rfl (any_of HT_.out (by kernel_rfl)) (fun _ _ _ h => h) (Or.inl ⟨by rfl, ?_⟩) ?_ ?_
              rotate_left
              · intro w'
                go_simp
                with_reducible rfl
              rotate_left
              · simp only [Act.put, List.setIfInBounds_toArray, List.set_cons_zero, List.set_cons_succ, i64_w, i32_w]
                rfl
              refine done_ (done_of HT_.out (by kernel_rfl)) ?_
              obtain ⟨Ao28, co28, eo28⟩ := Kd.R_slice HO132.out
              subst eo28
              try go_wp2_with (first | ((with_reducible refine gate_callee (f := 15) rfl ?_); refine goesL_ (some 62) rfl rfl Try.func15 (by kernel_rfl) rfl #[.slice Ao28 t130.length co28] rfl (by (try simp only [List.map_toArray, List.map_cons, List.map_nil]); first | done | rfl | (simp only [List.length_drop, List.length_take]; rfl)) ?_; (with_reducible refine (contangolaw04_touched.calls k (fun k_ => some k_ = (.slice Ao28 t130.length co28 : Value).ownBlock) (.slice Ao28 t130.length co28) t130 t142 w _ ?side1 ?side2 A15.out).mono ?_); (case side1 => repeat (first | (with_reducible first | exact HB.out | apply below_alloc | apply pw_below_drewN | apply below_drew1) | exact HB.out)); (case side2 => exact Kd.R_tight rfl HO132.out); rintro e w29 ⟨rfl, hy0, hb, hkp⟩; refine ⟨_, rfl, ?_⟩; have t0_ := Aside0.mk (Tl.R_keptB (HT129.out) (HO129.out) hkp (fun k_ hk_ hs_ => (hk_.1) hs_)); have n0_ := Aside0.mk (Kd.R_mono (ok' := fun k_ => some k_ ≠ (.slice Ao28 t130.length co28 : Value).ownBlock ∧ some k_ ≠ (v140 : Value).ownBlock) (Kd.R_keptB (HO129.out) hkp (fun k_ hk_ hs_ => (hk_.1) hs_)) (fun k_ hk_ => by first | exact ⟨hk_.1.1, hk_.1.2⟩ | exact ⟨hk_.1.1.2, hk_.1.2⟩)); have n1_ := Aside0.mk (Kd.R_reok rfl hy0 (fun k_ e_ => HO132.out.1 k_ e_)); have n2_ := Aside0.mk (Kd.R_mono (ok' := fun k_ => some k_ ≠ (.slice Ao21 t127.length co21 : Value).ownBlock ∧ some k_ ≠ (.slice Ao28 t130.length co28 : Value).ownBlock) (Kd.R_keptB (HO141.out) hkp (fun k_ hk_ hs_ => (hk_.2) hs_)) (fun k_ hk_ => by first | exact ⟨hk_.1.1, hk_.1.2⟩ | exact ⟨hk_.1.1.2, hk_.1.2⟩)); have n3_ := Aside0.mk (hb); clear HO129 HT129; clear HO132; clear HO141; clear HB; have HO129 := n0_; have HT129 := t0_; clear t0_; have HO132 := n1_; have HO141 := n2_; have HB := n3_; clear n0_ n1_ n2_ n3_; (try clear hb); (try clear hkp); (try clear hy0)) | (go_at_call 16; (with_reducible refine (contangolaw04_kept.calls _ _ t127 _ _ l0 true _ ?side1 ?side2 ?side3 ?side4 ?sidet A17.out).mono ?_); (case sidet => exact (by (with_reducible repeat (first | apply Tl.R_alloc | apply Tl.R_drewN | apply Tl.R_drew)); exact HT129.out)); (case side1 => repeat (first | exact (Kd.R_reads' HO129.out).2.2 | (with_reducible refine Kd.C_alloc ?_ _) | (with_reducible refine Kd.C_drewN ?_ _) | (with_reducible refine Kd.C_drew ?_))); (case side2 => exact (Kd.R_reads' HO129.out).2.1); (case side3 => repeat (first | exact (Kd.C_below HR0.out HB.out) | (with_reducible refine Kd.C_alloc ?_ _) | (with_reducible refine Kd.C_drewN ?_ _) | (with_reducible refine Kd.C_drew ?_))); (case side4 => exact HC0.out); rintro e w' ⟨rfl, ⟨nd, rfl⟩⟩) | (go_at_call 9; (with_reducible refine (contangolaw04_goes.calls k  t144 _ A19.out).mono ?_); rintro e w30 ⟨rfl, hb⟩; have t0_ := Aside0.mk (Tl.R_below (by (with_reducible repeat (first | apply Tl.R_alloc | apply Tl.R_drewN | apply Tl.R_drew)); exact HT129.out) hb); have n0_ := Aside0.mk (Kd.R_below (by (with_reducible repeat (first | apply Kd.R_alloc | apply Kd.R_drewN | apply Kd.R_drew)); exact HO129.out) hb); have n1_ := Aside0.mk (Kd.R_below (by (with_reducible repeat (first | apply Kd.R_alloc | apply Kd.R_drewN | apply Kd.R_drew)); exact HO132.out) hb); have n2_ := Aside0.mk (Kd.R_below (by (with_reducible repeat (first | apply Kd.R_alloc | apply Kd.R_drewN | apply Kd.R_drew)); exact HO141.out) hb); have n3_ := Aside0.mk (below_step (by repeat (first | (with_reducible first | exact HB.out | apply below_alloc | apply pw_below_drewN | apply below_drew1) | exact HB.out)) hb); clear HO129 HT129; clear HO132; clear HO141; clear HB; have HO129 := n0_; have HT129 := t0_; clear t0_; have HO132 := n1_; have HO141 := n2_; have HB := n3_; clear n0_ n1_ n2_ n3_; (try clear hb); (try clear hb2); (try clear hk); (try clear hi)))
              go_ret
              exact ⟨by first | rfl | (simp [errW_none, errW_some] <;> rfl) | (simp [*, errW_none, errW_some] <;> rfl), by repeat (first | (with_reducible first | exact HB.out | apply below_alloc | apply pw_below_drewN | apply below_drew1) | exact HB.out)⟩
            · replace c18 := Bool.eq_false_iff.mpr c18
              subst c18
              have H1 : (none) = some r := by rw [if_neg (show ¬ (false = true) by decide)] at H; exact H
              clear H
              have H := H1
              clear H1
              exact absurd H (by simp)
          · rw [if_neg c16] at H
            exact absurd H (by simp)
        · rw [if_neg c14] at H
          have c14b0 : (t134 == t137) = false := beq_eq_false_iff_ne.mpr c14
          have c14b1 : (t134 != t137) = true := bne_iff_ne.mpr c14
          replace H := Option.bind_eq_some_iff.mp H
          obtain ⟨t145, A310, H⟩ := H
          replace H : (none) = some r := H
          have A31 := Aside0.mk A310
          clear A310
          exact absurd H (by simp)
      · rw [if_neg c13] at H
        have c13b0 : (t133 == t136) = false := beq_eq_false_iff_ne.mpr c13
        have c13b1 : (t133 != t136) = true := bne_iff_ne.mpr c13
        replace H := Option.bind_eq_some_iff.mp H
        obtain ⟨t146, A320, H⟩ := H
        replace H : (none) = some r := H
        have A32 := Aside0.mk A320
        clear A320
        exact absurd H (by simp)
    · rw [if_neg c12] at H
      have c12b0 : ((strOfNums t130).toList == (strOfNums t139).toList) = false := beq_eq_false_iff_ne.mpr c12
      have c12b1 : ((strOfNums t130).toList != (strOfNums t139).toList) = true := bne_iff_ne.mpr c12
      replace H := Option.bind_eq_some_iff.mp H
      obtain ⟨t147, A330, H⟩ := H
      replace H : (none) = some r := H
      have A33 := Aside0.mk A330
      clear A330
      exact absurd H (by simp)

/-- THE ONE PURE STATEMENT of contangolaw04_WireInts: yours. -/
def contangolaw04_WireInts.Pure : Prop := ∀ (l0 : List Int) (a1 : Int) (a2 : Int), l0.length ≤ maxLen → l0.length * 1 ≤ 140737488351232 → (∀ x ∈ l0, (Lit.int .u8 x).wf = true) → (Lit.int .i64 a1).wf = true → (Lit.int .i64 a2).wf = true → ∃ k, contangolaw04_WireInts.f k l0 a1 a2 = some true
theorem contangolaw04_WireInts.walk (P : contangolaw04_WireInts.Pure) (a0 : Option Addr) (len0 cap0 : Nat) (z0 : List Int) (a1 : Int) (a2 : Int) (w : World) (w0 : (a0 = none ∧ len0 = 0 ∧ cap0 = 0 ∧ z0 = []) ∨ ∃ x, a0 = some x ∧ len0 ≤ cap0 ∧ cap0 ≤ maxLen ∧ z0.length = cap0 ∧ (∀ i, i < z0.length → w.cell? (x.add i) = some (.int .u8 (z0.getD i 0))) ∧ ∀ n ∈ z0, (Lit.int .u8 n).wf = true) (y0 : len0 * 1 ≤ 140737488351232) (w1 : (Lit.int .i64 a1).wf = true) (w2 : (Lit.int .i64 a2).wf = true) :
    Calls Try.prog 3 #[.slice a0 len0 cap0, .int .i64 a1, .int .i64 a2] w fun e w' => e = .returned (.bool true) ∧ Below w.heap.size w w' := by
  obtain ⟨l0, rfl, hr0, hm0, hw0, hc0⟩ := ReadsInt.ofRowC w0
  obtain ⟨k, h⟩ := P l0 a1 a2 hm0 y0 hw0 w1 w2
  refine (contangolaw04_WireInts.calls k _ _ l0 a1 a2 true w (Kd.C_of_reads (d := (0 : Int)) (h1 := fun _ => rfl) hr0) hc0 h).mono ?_
  rintro e w' ⟨rfl, hd⟩
  exact ⟨rfl, hd⟩

end Go.Proofs.Ytnimfimcpjmbnaa.PWireInts
