/- Laid for this claim by a program of this session's (wip/mkprint.py, wip/ext.py); not trusted: Lean checks it. -/
import Derived.Test.YtnimfimcpjmbnaaPWireTextsx0
import Derived.Test.YtnimfimcpjmbnaaPWireTextsx1
import Derived.Test.YtnimfimcpjmbnaaPWireTextsx2
namespace Go.Proofs.Ytnimfimcpjmbnaa.PWireTexts
open Go.RowKit Go.Proofs.YtnimfimcpjmbnaaW.PrintWords Go.Proofs.YtnimfimcpjmbnaaW.PrintLast Go.Proofs.YtnimfimcpjmbnaaW.PrintMore
attribute [local go_sem] max2_int min2_int max_two min_two max_three min_three max_four min_four   -- for this text's walks alone
set_option linter.unusedVariables false
set_option linter.unusedSimpArgs false

/-! ### contangolaw04_touched: function 15 -/
def contangolaw04_touched.l0 : Nat → List Int → Int → Int → Option (List Int)
  | 0, _, _, _ => none
  | k + 1, x0, x4, x5 => if x5 < x4 then (if 0 ≤ x5 then (if x5 < (x0.length : Int) then (contangolaw04_touched.l0 k (x0.set (x5 : Int).toNat (((rd x0 x5) + 1) % 256)) x4 (wrap64 (x5 + 1))) else (none)) else (none)) else (some x0)
def contangolaw04_touched.f (k : Nat) (l0 : List Int) : Option (List Int) := contangolaw04_touched.l0 k l0 (l0.length : Int) 0
theorem contangolaw04_touched.mono_l : ∀ k, (∀ y0 y1 y2, LeO (contangolaw04_touched.l0 k y0 y1 y2) (contangolaw04_touched.l0 (k + 1) y0 y1 y2))
  | 0 => fun _ _ _ r h => by simp [contangolaw04_touched.l0] at h
  | k + 1 => by
    have ih0 := contangolaw04_touched.mono_l k
    · intro y0 y1 y2
      unfold contangolaw04_touched.l0
      repeat' first
      | (with_reducible exact ih0 _ _ _)
      | (with_reducible exact LeO.refl _)
      | (with_reducible exact LeO.none _)
      | (with_reducible refine LeO.ite ?_ ?_)
      | (with_reducible refine LeO.bind ?_ (fun _ => ?_))
      | exact ih0 _ _ _
      | exact LeO.none _
      | refine LeO.ite ?_ ?_
      | refine LeO.bind ?_ (fun _ => ?_)
theorem contangolaw04_touched.mono : ∀ a0 k, LeO (contangolaw04_touched.f k a0) (contangolaw04_touched.f (k + 1) a0) := by
  intro a0 k
  have ih0 := contangolaw04_touched.mono_l k
  unfold contangolaw04_touched.f
  repeat' first
      | (with_reducible exact ih0 _ _ _)
      | (with_reducible exact LeO.refl _)
      | (with_reducible exact LeO.none _)
      | (with_reducible refine LeO.ite ?_ ?_)
      | (with_reducible refine LeO.bind ?_ (fun _ => ?_))
      | exact ih0 _ _ _
      | exact LeO.none _
      | refine LeO.ite ?_ ?_
      | refine LeO.bind ?_ (fun _ => ?_)
set_option maxHeartbeats 8000000 in
set_option maxRecDepth 100000 in
theorem contangolaw04_touched.calls (k : Nat) (P0_ : Nat → Prop) (u9000_ : Value) (l0 : List Int) (r : List Int) (w0 w : World) (hB : Below w0.heap.size w0 w) (ho0 : Kd.R (Kd.int .u8) 5 w w0.heap.size P0_ u9000_ l0) (h : contangolaw04_touched.f k l0 = some r) :
    Calls Try.prog 15 #[u9000_] w fun e w' => e = .returned (.tuple #[]) ∧ Kd.R (Kd.int .u8) 5 w' w0.heap.size (fun k_ => (P0_ k_ ∨ w.heap.size ≤ k_)) u9000_ r ∧ Below w0.heap.size w0 w' ∧ Kept w w' (fun k_ => P0_ k_) := by
  have HO0 := Aside0.mk (show Kd.R (Kd.int .u8) 5 w w0.heap.size (fun k_ => (P0_ k_ ∨ w.heap.size ≤ k_)) u9000_ l0 from Kd.R_mono ho0 (fun k_ hk => (.inl hk)))
  have HK := Aside0.mk (Kept.refl w (fun k_ => P0_ k_))
  have HW0 := Aside0.mk hB.size
  have HB := Aside0.mk hB
  clear hB
  have H : (contangolaw04_touched.l0 k l0 (l0.length : Int) 0) = some r := h
  clear h
  have H' := Aside0.mk H
  clear H
  obtain ⟨Ao2, co2, eo2⟩ := Kd.R_slice HO0.out
  subst eo2
  go_enter Try.func15, Try.ntmps15
  go_wp2
  go_loopg [5] k (fun kq v5 w' => ∃ (x0_1 : List Int) (x5_1 : Int), v5 = .int .i64 x5_1 ∧ Aside0 (contangolaw04_touched.l0 kq x0_1 (l0.length : Int) x5_1 = some r) ∧ Aside0 (kq ≤ k) ∧ Aside0 (Kd.R (Kd.int .u8) 5 w' w0.heap.size (fun k_ => (P0_ k_ ∨ w.heap.size ≤ k_)) (.slice Ao2 l0.length co2) x0_1) ∧ Aside0 (Kept w w' (fun k_ => P0_ k_)) ∧ Aside0 (Below w0.heap.size w0 w'))
  case atStart => exact ⟨(l0), (0), (by first | rfl | (simp; done) | (simp [*]; done)), H', ⟨Nat.le_refl _⟩, ⟨by (with_reducible repeat (first | apply Kd.R_alloc | apply Kd.R_drewN | apply Kd.R_drew)); exact HO0.out⟩, ⟨by repeat (first | (with_reducible first | exact HK.out | apply Kept.alloc | apply Kept.drewN | apply Kept.drew) | exact HK.out)⟩, ⟨by repeat (first | (with_reducible first | exact HB.out | apply below_alloc | apply pw_below_drewN | apply below_drew1) | exact HB.out)⟩⟩
  case round =>
    clear H'
    try clear c1
    try clear p2
    obtain ⟨x0_1, x5_1, rfl, HA, HK1, HO_0, HK, HB⟩ := hrel
    have hl0_1 := (Kd.R_reads' HO_0.out).1
    rw [hl0_1] at HO_0
    (try simp only [hl0_1])
    cases gk with
    | zero => exact absurd HA.out (by simp [contangolaw04_touched.l0])
    | succ k1 =>
      have H := HA.out
      clear HA
      simp only [contangolaw04_touched.l0] at H
      by_cases c3 : x5_1 < (l0.length : Int)
      · rw [if_pos c3] at H
        have c3b0 : decide (x5_1 < (l0.length : Int)) = true := decide_eq_true c3
        (try simp only [hl0_1] at c3b0)
        clear c3
        by_cases c4 : 0 ≤ x5_1
        · rw [if_pos c4] at H
          have c4b0 : decide (0 ≤ x5_1) = true := decide_eq_true c4
          (try simp only [hl0_1] at c4b0)
          clear c4
          by_cases c5 : x5_1 < (x0_1.length : Int)
          · rw [if_pos c5] at H
            have c5b0 : decide (x5_1 < (x0_1.length : Int)) = true := decide_eq_true c5
            (try simp only [hl0_1] at c5b0)
            clear c5
            obtain ⟨y106, hy106⟩ : ∃ y_ : List Int, y_ = (x0_1.set (x5_1 : Int).toNat (((rd x0_1 x5_1) + 1) % 256)) := ⟨_, rfl⟩
            replace H : (contangolaw04_touched.l0 k1 y106 (l0.length : Int) (wrap64 (x5_1 + 1))) = some r := by first | (rw [hy106]; with_reducible exact H) | (have H2_ := (Option.bind_some _ _).symm.trans H; rw [hy106]; with_reducible exact H2_) | (have H2_ := (Option.bind_some _ _).symm.trans H; with_reducible exact H2_) | with_reducible exact H | (rw [hy106]; exact H) | exact H
            have Ny106 := Aside0.mk hy106
            clear hy106
            have H' := Aside0.mk H
            clear H
            have p105 : 0 ≤ (x5_1 : Int) := of_decide_eq_true (by first | (with_reducible assumption) | assumption)
            have q105 : x5_1 < (x0_1.length : Int) := of_decide_eq_true (by first | (with_reducible assumption) | assumption)
            obtain ⟨ad105, e105, hx105_0⟩ := Kd.at_int (Kd.R_reads' HO_0.out).2.2 x5_1 p105 q105
            cases e105
            replace p105 := eq_true p105
            replace q105 := eq_true q105
            have p6 : 0 ≤ (x5_1 : Int) := of_decide_eq_true (by first | (with_reducible assumption) | assumption)
            have q6 : (x5_1 : Int) < ((x0_1.length : Int) : Int) := of_decide_eq_true (by first | (with_reducible assumption) | assumption)
            obtain ⟨go6, co6, eo6, gb6, gl6, cl6, HG6⟩ := Kd.R_form HO_0.out (by omega)
            (first | cases eo6 | (injection eo6 with ea_ en_ ec_; (first | subst ea_ | (injection ea_ with ea_; subst ea_)); subst ec_; clear en_))
            have GB6 := Aside0.mk gb6
            have GG6 := Aside0.mk HG6
            clear gb6 gl6 HG6
            have HMgo6 := Aside0.mk (show (P0_ go6 ∨ w.heap.size ≤ go6) from (HO_0.out.1 _ rfl))
            (first | simp only [add_plain] at hx105_0 | skip)
            obtain ⟨hx6_0, hf6_0⟩ := Kd.R_celln 0 HO_0.out (x5_1 : Int) p6 q6
            replace p6 := eq_true p6
            replace q6 := eq_true q6
            have HP7 := Kd.R_putg HO_0.out (x5_1 : Int) (((rd x0_1 x5_1) + 1) % 256)
            go_wp2_with (first | ((with_reducible refine gate_store (t := 5) (p := 13) rfl ?_); refine store_event (t := 5) (p := 13) (v := ?vo_w8) (w1 := (wr.setCell ⟨go6, (x5_1 : Int).toNat, none⟩ (.int .u8 (((rd x0_1 x5_1) + 1) % 256)))) ?hg ?ho ?hn ?hr ?_; (case ho => rfl); (case hg => rfl); (case hn => rfl); (case hr => first | (go_simp; done) | (go_simp; rfl)); intro w8 hw; have hg : wr.grownBy w8 (some go6) := (by rw [hw]; exact HP7.2); have hp_ : Kd.R (Kd.int .u8) 5 w8 w0.heap.size (fun k_ => (P0_ k_ ∨ w.heap.size ≤ k_)) (.slice (some ⟨go6, 0, none⟩) x0_1.length co2) y106 := (by rw [hw, Ny106.out]; exact HP7.1); clear HP7; have n0_ := Aside0.mk (hp_); have n1_ := Aside0.mk ((by rw [hw]; exact below_set (HB.out) GB6.out : Below w0.heap.size w0 w8)); have n2_ := Aside0.mk (Kept.of_grown (S := (fun k_ => P0_ k_)) hg (by repeat (first | (with_reducible first | exact HK.out | apply Kept.alloc | apply Kept.drewN | apply Kept.drew) | exact HK.out)) (fun k_ e_ => (HO_0.out.1 k_ e_))); clear HO_0; clear HB; clear HK; have HO_0 := n0_; have HB := n1_; have HK := n2_; clear n0_ n1_ n2_; clear hg hw hp_))
            (try simp only [← hl0_1])
            go_roundg k1
            case measure => have := HK1.out; omega
            case rel => exact ⟨(y106), (wrap64 (x5_1 + 1)), (by first | rfl | (simp; done) | (simp [*]; done)), H', ⟨by have := HK1.out; omega⟩, ⟨by (try simp only [hl0_1]); (with_reducible repeat (first | apply Kd.R_alloc | apply Kd.R_drewN | apply Kd.R_drew)); exact HO_0.out⟩, ⟨by repeat (first | (with_reducible first | exact HK.out | apply Kept.alloc | apply Kept.drewN | apply Kept.drew) | exact HK.out)⟩, ⟨by repeat (first | (with_reducible first | exact HB.out | apply below_alloc | apply pw_below_drewN | apply below_drew1) | exact HB.out)⟩⟩
          · rw [if_neg c5] at H
            exact absurd H (by simp)
        · rw [if_neg c4] at H
          exact absurd H (by simp)
      · rw [if_neg c3] at H
        have c3b0 : decide (x5_1 < (l0.length : Int)) = false := decide_eq_false c3
        (try simp only [hl0_1] at c3b0)
        clear c3
        obtain rfl := Option.some.inj H
        go_wp2
        first | go_end0 | ((try simp only [Exit.inBlock, Exit.then]); refine bodyPost_ret (results_none rfl _ _ _) rfl ?_)
        exact ⟨by first | rfl | (simp [errW_none, errW_some] <;> rfl) | (simp [*, errW_none, errW_some] <;> rfl), (by first | exact (by (with_reducible repeat (first | apply Kd.R_alloc | apply Kd.R_drewN | apply Kd.R_drew)); exact HO_0.out) | (simp only [hl0_1]; exact (by (with_reducible repeat (first | apply Kd.R_alloc | apply Kd.R_drewN | apply Kd.R_drew)); exact HO_0.out))), by repeat (first | (with_reducible first | exact HB.out | apply below_alloc | apply pw_below_drewN | apply below_drew1) | exact HB.out), by repeat (first | (with_reducible first | exact HK.out | apply Kept.alloc | apply Kept.drewN | apply Kept.drew) | exact HK.out)⟩

/-! ### contangolaw04_kept: function 16 -/
theorem cut_cap {P : Program} (t e : TypeId) (kh : IntKind) {i : TypeInfo} (ht : P.underlying t = some (.slice e)) (hi : P.info? e = some i) (A : Option Addr) (n c : Nat) (j : Int) (h0 : 0 ≤ j) (hm : j ≤ c) :
    ∀ W : World, (Instr.slice t (.slice A n c) none (some (.int kh j)) none).run P W = .ok (.slice A j.toNat c) W := by
  intro W
  have hel : P.elem t = e := by simp [Program.elem, ht]
  have hu : P.underlying t = some (.slice (P.elem t)) := by rw [hel]; exact ht
  have ha : (A.map fun x => x.add 0) = A := by cases A <;> simp [Addr.add]
  rw [run_slice_h W t A n c hu kh j h0 (by omega), hel]
  simp [sizeOf, typeInfo, hi, sliced, Result.andThen, ha]
theorem tail_reads {W : World} {g c : Nat} {l t : List Int} (hr : Kd.C (Kd.int .u8) W (some ⟨g, 0, none⟩) l.length l) (ht : Tl W (.slice (some ⟨g, 0, none⟩) l.length c) (t.map (Value.int .u8))) (hl : l.length + t.length ≤ 100000) : Kd.C (Kd.int .u8) W (some ⟨g, 0, none⟩) (l ++ t).length (l ++ t) := by
  obtain ⟨g2, n2, c2, e, _, _, hx⟩ := ht
  injection e with e1 e2 e3
  injection e1 with e1
  injection e1 with e1
  subst e1; subst e2; subst e3
  have hrd := Kd.reads_of_C (d := (0 : Int)) hr
  refine Kd.C_of_reads (d := (0 : Int)) (h1 := fun _ => rfl) ⟨rfl, by rw [List.length_append]; omega, fun _ => ⟨_, rfl, ?_⟩⟩
  intro j hj
  rw [List.length_append] at hj
  by_cases h : j < l.length
  · obtain ⟨ad, e, hc⟩ := hrd.2.2 (by omega)
    injection e with e; subst e
    rw [hc j h, List.getD_eq_getElem?_getD, List.getD_eq_getElem?_getD, List.getElem?_append_left h]
  · have h2 := hx (j - l.length) (.int .u8 (t[j - l.length]'(by omega))) (by rw [List.getElem?_map, List.getElem?_eq_getElem (by omega)]; rfl)
    rw [show l.length + (j - l.length) = j by omega] at h2
    rw [add_plain, h2, List.getD_eq_getElem?_getD, List.getElem?_append_right (by omega), List.getElem?_eq_getElem (by omega)]
    rfl
theorem kept_text (l : List Int) : ((strOfNums (l ++ sevens)).toList == ((strOfNums l) ++ (⟨#[7, 7, 7, 7, 7, 7, 7, 7]⟩ : ByteArray)).toList) = true := by
  have : strOfNums (l ++ sevens) = (strOfNums l) ++ (⟨#[7, 7, 7, 7, 7, 7, 7, 7]⟩ : ByteArray) := by
    apply ByteArray.ext
    unfold strOfNums
    simp [sevens, ByteArray.data_append]
  rw [this]; simp
def contangolaw04_kept.f (l0 : List Int) (l1 : List Int) : Option (Bool) := if l0 = l1 ∧ l1.length ≤ 6000 then some true else none
set_option maxHeartbeats 1000000 in
set_option maxRecDepth 100000 in
theorem contangolaw04_kept.calls (A0 : Option Addr) (c0 : Nat) (l0 : List Int) (A1 : Option Addr) (c1 : Nat) (l1 : List Int) (r : Bool) (w : World) (hr0 : Kd.C (Kd.int .u8) w A0 l0.length l0) (_hc0 : l0.length ≤ c0) (hr1 : Kd.C (Kd.int .u8) w A1 l1.length l1) (_hc1 : l1.length ≤ c1) (ht : Tl w (.slice A0 l0.length c0) (sevens.map (Value.int .u8))) (h : contangolaw04_kept.f l0 l1 = some r) :
    Calls Try.prog 16 #[.slice A0 l0.length c0, .slice A1 l1.length c1] w fun e w' => e = .returned (.bool r) ∧ Drawn0 w w' := by
  unfold contangolaw04_kept.f at h
  by_cases hh : l0 = l1 ∧ l1.length ≤ 6000
  · rw [if_pos hh] at h
    simp only [Option.some.injEq] at h
    subst h
    obtain ⟨e, hlen⟩ := hh
    subst e
    have ht2 := ht
    obtain ⟨g, n, cap, e, hg, hc, hx⟩ := ht2
    injection e with e1 e2 e3
    subst e1; subst e2; subst e3
    have h8 : (sevens.map (Value.int .u8)).length = 8 := rfl
    have h8' : sevens.length = 8 := rfl
    have hrt := tail_reads hr0 ht (by omega)
    obtain ⟨i3, hi3, _⟩ := info_parts info_lent
    have hcut := cut_cap (P := Try.prog) 22 5 .i64 Try.underlying22 hi3 (some ⟨g, 0, none⟩) l0.length c0 ((l0.length : Int) + 8) (by omega) (by omega)
    have hln : (l0 ++ sevens).length = l0.length + 8 := by rw [List.length_append, h8']
    rw [show ((l0.length : Int) + 8).toNat = l0.length + 8 by omega] at hcut
    have hcv8 := fun nq : Nat => Kd.C_string (P := Try.prog) (A := some ⟨g, 0, none⟩) (c := c0) Try.underlying22 Try.underlying5 Try.underlying9 (Kd.C_drewN hrt nq)
    have hcv9 := fun nq : Nat => Kd.C_string (P := Try.prog) (A := A1) (c := c1) Try.underlying22 Try.underlying5 Try.underlying9 (Kd.C_drewN hr1 nq)
    rw [hln] at hcv8
    have HK := Aside0.mk (kept_text l0)
    have hwr : (IntKind.i64.wrap ((l0.length : Int) + 8)) = (l0.length : Int) + 8 := (i64_w _).trans (by unfold wrap64; omega)
    have hsz : (strOfNums l0).size = l0.length := by unfold strOfNums; simp [ByteArray.size]
    have c6 : (strOfNums l0).size + 8 ≤ 9223372036854775807 := by omega
    have c6b0 := eq_true c6
    have c6b1 : decide ((strOfNums l0).size + 8 ≤ 9223372036854775807) = true := decide_eq_true c6
    have c6b2 : (9223372036854775807 < (strOfNums l0).size + 8) = False := eq_false (Nat.not_lt.2 c6)
    clear hr0 hr1 hrt ht hi3 hx hg h8 h8' hln hsz
    obtain ⟨j8, hj8⟩ : ∃ j_ : Int, (l0.length : Int) + 8 = j_ := ⟨_, rfl⟩
    obtain ⟨n8, hn8⟩ : ∃ n_ : Nat, l0.length + 8 = n_ := ⟨_, rfl⟩
    rw [hj8, hn8] at hcut
    replace hwr := hwr.trans hj8
    rw [hn8] at hcv8
    clear hj8 hn8 hc
    generalize strOfNums (l0 ++ sevens) = s1 at *
    generalize strOfNums l0 = s2 at *
    generalize (some ⟨g, 0, none⟩ : Option Addr) = A0 at *
    go_enter Try.func16, Try.ntmps16
    go_wp2
    repeat (go_quiet (fail); try go_wp2)
    go_ret
    exact ⟨by first | rfl | (rw [HK.out]; rfl) | (rw [HK.out]), by repeat (first | exact Drawn0.refl _ | apply Drawn0.step)⟩
  · rw [if_neg hh] at h; simp at h

/-! ### wire_PutText: function 17 -/
def wire_PutText.f (l0 : List Int) (a1 : ByteArray) : Option (List Int) := if l0.length ≤ 400000 ∧ a1.size ≤ 400000 then some (l0 ++ wcode 9 (zz a1.size) ++ bytesOf a1) else none
set_option maxHeartbeats 4000000 in
set_option maxRecDepth 100000 in
theorem wire_PutText.calls (A0 : Option Addr) (c0 : Nat) (l0 : List Int) (a1 : ByteArray) (r : List Int) (w : World) (hr0 : Kd.C (Kd.int .u8) w A0 l0.length l0) (hc0 : l0.length ≤ c0) (h : wire_PutText.f l0 a1 = some r) :
    Calls Try.prog 17 #[.slice A0 l0.length c0, .string a1] w fun e w' => ∃ v0_ : Value, e = .returned (v0_) ∧ Kd.R (Kd.int .u8) 5 w' w.heap.size (fun _ => True) v0_ r ∧ Below w.heap.size w w' := by
  unfold wire_PutText.f at h
  by_cases hc : l0.length ≤ 400000 ∧ a1.size ≤ 400000
  · rw [if_pos hc] at h
    have H := Aside0.mk (Option.some.inj h)
    obtain ⟨hl, hi0⟩ := hc
    have HR := Aside0.mk hr0
    have HC := Aside0.mk hc0
    clear h hr0 hc0
    have kb := fun W => print_bytes (P := Try.prog) 9 22 5 Try.underlying9 Try.underlying22 Try.underlying5 a1 W
    go_enter Try.func17, Try.ntmps17
    go_wp2_with fail
    refine (code_any (a1.size : Int) _ (by omega) (by omega)).mono ?_
    rintro e w1 ⟨v, rfl, hR, hB⟩
    have hwl := wcode_len 9 (zz a1.size)
    obtain ⟨Ac, cc, rfl, hcl, hCc⟩ := Kd.R_reads hR
    have HRC := Aside0.mk (⟨hcl, hCc⟩ : (wcode 9 (zz a1.size)).length ≤ cc ∧ Kd.C (Kd.int .u8) w1 Ac (wcode 9 (zz a1.size)).length (wcode 9 (zz a1.size)))
    have HB := Aside0.mk hB
    clear hR hB hcl hCc
    generalize wcode 9 (zz a1.size) = cd at *
    have hbr := bytes_reads w1 5 a1 (by omega)
    have hbb := bytes_below (Below.refl w1.heap.size w1) (Nat.le_refl _) 5 a1
    have hcap := grownCap_ge w1 a1.size 0 5
    go_wp2_with fail
    generalize grownCap w1 a1.size 0 5 = cb at *
    have hrows : Kd.C (Kd.slice 5 (Kd.int .u8)) ((Lib.bytesWorld w1 5 a1).alloc (.cells #[.slice A0 l0.length c0, .slice Ac cd.length cc, .slice (some ⟨w1.heap.size, 0, none⟩) a1.size cb] 22)) (some ⟨(Lib.bytesWorld w1 5 a1).heap.size, 0, none⟩) [l0, cd, bytesOf a1].length [l0, cd, bytesOf a1] := by
      refine rows_of _ _ _ [.slice A0 l0.length c0, .slice Ac cd.length cc, .slice (some ⟨w1.heap.size, 0, none⟩) a1.size cb] (by simp) rfl ?_ ?_
      · intro j v hj
        match j, hj with
        | 0, hj => simp at hj; subst hj; simp
        | 1, hj => simp at hj; subst hj; simp
        | 2, hj => simp at hj; subst hj; simp
        | j + 3, hj => simp at hj
      · intro j p v hj hv
        match j, hj, hv with
        | 0, hj, hv => simp at hj hv; subst hj hv; exact ⟨_, _, rfl, HC.out, Kd.C_alloc (Kd.C_below (Kd.C_below HR.out HB.out) hbb) _⟩
        | 1, hj, hv => simp at hj hv; subst hj hv; exact ⟨_, _, rfl, HRC.out.1, Kd.C_alloc (Kd.C_below HRC.out.2 hbb) _⟩
        | 2, hj, hv =>
          simp at hj hv; subst hj hv
          have hC : Kd.C (Kd.int .u8) (Lib.bytesWorld w1 5 a1) (some ⟨w1.heap.size, 0, none⟩) a1.size (bytesOf a1) := Kd.C_of_reads (d := (0 : Int)) (h1 := fun _ => rfl) hbr
          exact ⟨some ⟨w1.heap.size, 0, none⟩, cb, by rw [bytesOf_length], by rw [bytesOf_length]; exact hcap, by rw [bytesOf_length]; exact Kd.C_alloc hC _⟩
        | j + 3, hj, hv => simp at hj
    have HBb := Aside0.mk (below_step HB.out hbb)
    clear hbr hbb hcap kb
    refine (joined_any (some ⟨(Lib.bytesWorld w1 5 a1).heap.size, 0, none⟩) 3 [l0, cd, bytesOf a1] _ hrows (by simp) (by simp [slen, bytesOf_length]; omega)).mono ?_
    rintro e w2 ⟨v, rfl, hR2, hB2⟩
    have HR2 := Aside0.mk hR2
    have HB2 := Aside0.mk hB2
    clear hR2 hB2 hrows
    go_wp2
    go_ret
    refine ⟨v, rfl, ?_, below_step (below_alloc HBb.out _) HB2.out⟩
    have := Kd.R_lower HR2.out (below_size (below_alloc HBb.out (.cells #[.slice A0 l0.length c0, .slice Ac cd.length cc, .slice (some ⟨w1.heap.size, 0, none⟩) a1.size cb] 22)))
    rw [← H.out]
    simpa [flat] using this
  · rw [if_neg hc] at h; cases h


/-! ### wire_piece: function 34 -/
theorem int_next (l : List Int) (a : Int) (h : (intSpec l a).2.2 = 0) : 0 ≤ a ∧ a < (intSpec l a).2.1 ∧ (intSpec l a).2.1 ≤ l.length := by
  unfold intSpec at *
  by_cases h1 : a < 0 ∨ a > l.length
  · rw [if_pos h1] at h; simp at h
  · rw [if_neg h1] at h ⊢
    by_cases h2 : stopAt (l.drop a.toNat) = (l.drop a.toNat).length
    · rw [if_pos h2] at h; simp at h
    · rw [if_neg h2] at h ⊢
      have hs := stop_le (l.drop a.toNat)
      have hl : (l.drop a.toNat).length = l.length - a.toNat := List.length_drop
      split at h
      · simp at h
      · rename_i h3
        rw [if_neg h3]
        show 0 ≤ a ∧ a < a + stopAt (l.drop a.toNat) + 1 ∧ a + stopAt (l.drop a.toNat) + 1 ≤ (l.length : Int)
        omega
theorem int_err (l : List Int) (a : Int) (h : ¬ (intSpec l a).2.2 = 0) : (intSpec l a).1 = 0 ∧ (intSpec l a).2.1 = 0 ∧ ((intSpec l a).2.2 = 2 ∨ (intSpec l a).2.2 = 5 ∨ (intSpec l a).2.2 = 6) := by
  unfold intSpec at *
  by_cases h1 : a < 0 ∨ a > l.length
  · rw [if_pos h1] at h ⊢; simp
  · rw [if_neg h1] at h ⊢
    by_cases h2 : stopAt (l.drop a.toNat) = (l.drop a.toNat).length
    · rw [if_pos h2] at h ⊢; simp
    · rw [if_neg h2] at h ⊢
      split at h
      · rename_i h3; rw [if_pos h3]; simp
      · simp at h
/-- why a piece is none; 0: it is one -/
def pieceErr (l : List Int) (a : Int) : Int :=
  if ¬ (intSpec l a).2.2 = 0 then (intSpec l a).2.2 else if (intSpec l a).1 < 0 then 5 else if (intSpec l a).1 > 65536 then 8 else if (l.length : Int) - (intSpec l a).2.1 < (intSpec l a).1 then 6 else 0
def pieceOf (l : List Int) (a : Int) : List Int := (l.take ((intSpec l a).2.1 + (intSpec l a).1).toNat).drop (intSpec l a).2.1.toNat
set_option maxHeartbeats 4000000 in
set_option maxRecDepth 100000 in
theorem piece_bad (A0 : Option Addr) (c0 : Nat) (l0 : List Int) (a1 : Int) (w : World) (hr0 : Kd.C (Kd.int .u8) w A0 l0.length l0) (hc0 : l0.length ≤ c0) (hok : l0.length ≤ 1000000 ∧ (∀ c ∈ l0, 0 ≤ c ∧ c ≤ 255)) (he : ¬ pieceErr l0 a1 = 0) :
    Calls Try.prog 34 #[.slice A0 l0.length c0, .int .i64 a1] w fun e w' => e = .returned (.tuple #[.slice none 0 0, .int .i64 0, .int .i64 (pieceErr l0 a1)]) ∧ Drawn0 w w' := by
  have hI : wire_Int.f l0 a1 = some ((intSpec l0 a1).1, (intSpec l0 a1).2.1, (intSpec l0 a1).2.2) := by unfold wire_Int.f; rw [if_pos hok]
  have hie := int_err l0 a1
  have hin := int_next l0 a1
  unfold pieceErr at *
  have hll := hok.1
  generalize intSpec l0 a1 = z at *
  obtain ⟨n, next, er⟩ := z
  simp only at *
  have HI := Aside0.mk hI
  have HR := Aside0.mk hr0
  have HC := Aside0.mk hc0
  clear hI hr0 hc0
  by_cases h1 : er = 0
  · subst h1
    have hn := hin rfl
    simp only [not_true, if_false] at he ⊢
    by_cases h2 : n < 0
    · rw [if_pos h2]
      clear hin hie he
      go_enter Try.func34, Try.ntmps34
      go_wp2_with (go_at_call 12; refine (wire_Int.calls A0 c0 l0 a1 n next 0 _ HR.out HC.out HI.out).mono ?_; rintro e w1 ⟨rfl, hd⟩)
      go_ret3
      exact ⟨rfl, by assumption⟩
    · rw [if_neg h2] at he ⊢
      by_cases h3 : n > 65536
      · rw [if_pos h3]
        clear hin hie he
        go_enter Try.func34, Try.ntmps34
        go_wp2_with (go_at_call 12; refine (wire_Int.calls A0 c0 l0 a1 n next 0 _ HR.out HC.out HI.out).mono ?_; rintro e w1 ⟨rfl, hd⟩)
        go_ret3
        exact ⟨rfl, by assumption⟩
      · rw [if_neg h3] at he ⊢
        by_cases h4 : (l0.length : Int) - next < n
        · rw [if_pos h4]
          clear hin hie he
          go_enter Try.func34, Try.ntmps34
          go_wp2_with (go_at_call 12; refine (wire_Int.calls A0 c0 l0 a1 n next 0 _ HR.out HC.out HI.out).mono ?_; rintro e w1 ⟨rfl, hd⟩)
          go_ret3
          exact ⟨rfl, by assumption⟩
        · rw [if_neg h4] at he; exact absurd rfl he
  · have h1b : (er != 0) = true := bne_iff_ne.2 h1
    rw [if_pos h1]
    have hz := hie h1
    obtain ⟨rfl, rfl, _⟩ := hz
    clear hin hie he h1
    go_enter Try.func34, Try.ntmps34
    go_wp2_with (go_at_call 12; refine (wire_Int.calls A0 c0 l0 a1 0 0 er _ HR.out HC.out HI.out).mono ?_; rintro e w1 ⟨rfl, hd⟩)
    go_ret3
    exact ⟨rfl, by assumption⟩
set_option maxHeartbeats 4000000 in
set_option maxRecDepth 100000 in
theorem piece_good (A0 : Option Addr) (c0 : Nat) (l0 : List Int) (a1 : Int) (w : World) (hr0 : Kd.C (Kd.int .u8) w A0 l0.length l0) (hc0 : l0.length ≤ c0) (hok : l0.length ≤ 1000000 ∧ (∀ c ∈ l0, 0 ≤ c ∧ c ≤ 255)) (he : pieceErr l0 a1 = 0) :
    Calls Try.prog 34 #[.slice A0 l0.length c0, .int .i64 a1] w fun e w' => ∃ (A' : Option Addr) (c' : Nat), e = .returned (.tuple #[.slice A' (pieceOf l0 a1).length c', .int .i64 ((intSpec l0 a1).2.1 + (intSpec l0 a1).1), .int .i64 0]) ∧ (pieceOf l0 a1).length ≤ c' ∧ Kd.C (Kd.int .u8) w A' (pieceOf l0 a1).length (pieceOf l0 a1) ∧ Drawn0 w w' := by
  have hI : wire_Int.f l0 a1 = some ((intSpec l0 a1).1, (intSpec l0 a1).2.1, (intSpec l0 a1).2.2) := by unfold wire_Int.f; rw [if_pos hok]
  have hin := int_next l0 a1
  unfold pieceErr at he
  unfold pieceOf
  have hll := hok.1
  generalize intSpec l0 a1 = z at *
  obtain ⟨n, next, er⟩ := z
  simp only at *
  have h1 : er = 0 := by
    apply Classical.byContradiction
    intro h
    rw [if_pos h] at he; exact h he
  subst h1
  have hn := hin rfl
  simp only [not_true, if_false] at he
  have h2 : ¬ n < 0 := by intro h; rw [if_pos h] at he; omega
  rw [if_neg h2] at he
  have h3 : ¬ n > 65536 := by intro h; rw [if_pos h] at he; omega
  rw [if_neg h3] at he
  have h4 : ¬ (l0.length : Int) - next < n := by intro h; rw [if_pos h] at he; omega
  clear he hin
  obtain ⟨i5, hi5, hi5z⟩ := Option.map_eq_some_iff.1 info_wire
  simp only [Prod.mk.injEq] at hi5z
  have hcut := cut_mid (P := Try.prog) 22 5 .i64 .i64 Try.underlying22 hi5 1 hi5z.2.1 A0 l0.length c0 next (next + n) (by omega) (by omega) (by omega) hc0
  have hmid := Kd.C_mid (lo := next.toNat) (hi := (next + n).toNat) hr0 (by omega) (by omega) hc0
  have hln : (next + n).toNat - next.toNat = ((l0.take (next + n).toNat).drop next.toNat).length := by rw [List.length_drop, List.length_take]; omega
  rw [hln] at hcut
  have hle : ((l0.take (next + n).toNat).drop next.toNat).length ≤ c0 - next.toNat := by rw [← hln]; omega
  have hmid2 : Kd.C (Kd.int .u8) w (if c0 = next.toNat then A0 else A0.map (·.add (next.toNat * 1))) ((l0.take (next + n).toNat).drop next.toNat).length ((l0.take (next + n).toNat).drop next.toNat) := hmid
  generalize (if c0 = next.toNat then A0 else A0.map (·.add (next.toNat * 1))) = A' at *
  generalize (l0.take (next + n).toNat).drop next.toNat = seg at *
  have HI := Aside0.mk hI
  have HR := Aside0.mk hr0
  have HC := Aside0.mk hc0
  have HM := Aside0.mk hmid2
  have HL := Aside0.mk hle
  clear hI hr0 hc0 hmid hmid2 hle hln hi5 hi5z
  go_enter Try.func34, Try.ntmps34
  go_wp2_with (go_at_call 12; refine (wire_Int.calls A0 c0 l0 a1 n next 0 _ HR.out HC.out HI.out).mono ?_; rintro e w1 ⟨rfl, hd⟩)
  go_ret3
  exact ⟨A', _, rfl, HL.out, HM.out, by assumption⟩


/-! ### wire_Text: function 18 -/
def wire_Text.f (l0 : List Int) (a1 : Int) : Option (ByteArray × Int × Int) := if l0.length ≤ 1000000 ∧ (∀ c ∈ l0, 0 ≤ c ∧ c ≤ 255) then some (if pieceErr l0 a1 = 0 then (strOfNums (pieceOf l0 a1), (intSpec l0 a1).2.1 + (intSpec l0 a1).1, 0) else (⟨#[]⟩, 0, pieceErr l0 a1)) else none
set_option maxHeartbeats 4000000 in
set_option maxRecDepth 100000 in
theorem wire_Text.calls (A0 : Option Addr) (c0 : Nat) (l0 : List Int) (a1 : Int) (r1 : ByteArray) (r2 : Int) (r3 : Int) (w : World) (hr0 : Kd.C (Kd.int .u8) w A0 l0.length l0) (hc0 : l0.length ≤ c0) (h : wire_Text.f l0 a1 = some (r1, r2, r3)) :
    Calls Try.prog 18 #[.slice A0 l0.length c0, .int .i64 a1] w fun e w' => e = .returned (.tuple #[.string r1, .int .i64 r2, .int .i64 r3]) ∧ Drawn0 w w' := by
  unfold wire_Text.f at h
  by_cases hok : l0.length ≤ 1000000 ∧ (∀ c ∈ l0, 0 ≤ c ∧ c ≤ 255)
  · rw [if_pos hok] at h
    have h := Option.some.inj h
    by_cases he : pieceErr l0 a1 = 0
    · rw [if_pos he] at h
      simp only [Prod.mk.injEq] at h
      obtain ⟨rfl, rfl, rfl⟩ := h
      go_enter Try.func18, Try.ntmps18
      go_wp2_with fail
      refine (piece_good A0 c0 l0 a1 _ hr0 hc0 hok he).mono ?_
      rintro e w1 ⟨A', c', rfl, hl, hC, hd⟩
      have hcv := Kd.C_string (P := Try.prog) (src := 22) (dst := 9) (c := c') Try.underlying22 Try.underlying5 Try.underlying9 (Kd.C_below hC hd.below)
      have HD := Aside0.mk hd
      clear hC hd hl hr0 hc0 hok he
      go_wp2
      go_ret3
      exact ⟨rfl, HD.out⟩
    · rw [if_neg he] at h
      simp only [Prod.mk.injEq] at h
      obtain ⟨rfl, rfl, rfl⟩ := h
      go_enter Try.func18, Try.ntmps18
      go_wp2_with fail
      refine (piece_bad A0 c0 l0 a1 _ hr0 hc0 hok he).mono ?_
      rintro e w1 ⟨rfl, hd⟩
      have hcv : (Go.convert 22 9 (.slice none 0 0)).run Try.prog w1 = .ok (.string (⟨#[]⟩ : ByteArray)) w1 := Kd.C_string (P := Try.prog) (w := w1) (src := 22) (dst := 9) (c := 0) Try.underlying22 Try.underlying5 Try.underlying9 (Kd.C_nil (Kd.int .u8) w1)
      have HD := Aside0.mk hd
      clear hd hr0 hc0 hok he
      go_wp2
      go_ret3
      exact ⟨rfl, HD.out⟩
  · rw [if_neg hok] at h; cases h


/-! ### contangoref04_last: function 32 -/
def contangoref04_last.l0 : Nat → List Int → Int → Option (Int)
  | 0, _, _ => none
  | k + 1, x0, x5 => if x5 < (x0.length : Int) then (if 0 ≤ x5 then (if (rd x0 x5) < 128 then (some x5) else (contangoref04_last.l0 k x0 (wrap64 (x5 + 1)))) else (none)) else (some (-1))
def contangoref04_last.f (k : Nat) (l0 : List Int) (a1 : Int) : Option (Int) := contangoref04_last.l0 k l0 a1
theorem contangoref04_last.mono_l : ∀ k, (∀ y0 y1, LeO (contangoref04_last.l0 k y0 y1) (contangoref04_last.l0 (k + 1) y0 y1))
  | 0 => fun _ _ r h => by simp [contangoref04_last.l0] at h
  | k + 1 => by
    have ih0 := contangoref04_last.mono_l k
    · intro y0 y1
      unfold contangoref04_last.l0
      repeat' first
      | (with_reducible exact ih0 _ _)
      | (with_reducible exact LeO.refl _)
      | (with_reducible exact LeO.none _)
      | (with_reducible refine LeO.ite ?_ ?_)
      | (with_reducible refine LeO.bind ?_ (fun _ => ?_))
      | exact ih0 _ _
      | exact LeO.none _
      | refine LeO.ite ?_ ?_
      | refine LeO.bind ?_ (fun _ => ?_)
theorem contangoref04_last.mono : ∀ a0 a1 k, LeO (contangoref04_last.f k a0 a1) (contangoref04_last.f (k + 1) a0 a1) := by
  intro a0 a1 k
  have ih0 := contangoref04_last.mono_l k
  unfold contangoref04_last.f
  repeat' first
      | (with_reducible exact ih0 _ _)
      | (with_reducible exact LeO.refl _)
      | (with_reducible exact LeO.none _)
      | (with_reducible refine LeO.ite ?_ ?_)
      | (with_reducible refine LeO.bind ?_ (fun _ => ?_))
      | exact ih0 _ _
      | exact LeO.none _
      | refine LeO.ite ?_ ?_
      | refine LeO.bind ?_ (fun _ => ?_)
set_option maxHeartbeats 8000000 in
set_option maxRecDepth 100000 in
theorem contangoref04_last.calls (k : Nat) (A0 : Option Addr) (c0 : Nat) (l0 : List Int) (a1 : Int) (r : Int) (w : World) (hr0 : Kd.C (Kd.int .u8) w A0 l0.length l0) (hc0 : l0.length ≤ c0) (h : contangoref04_last.f k l0 a1 = some r) :
    Calls Try.prog 32 #[.slice A0 l0.length c0, .int .i64 a1] w fun e w' => e = .returned (.int .i64 r) ∧ Drawn0 w w' := by
  have HR0 := Aside0.mk hr0
  have HC0 := Aside0.mk hc0
  clear hr0 hc0
  have H : (contangoref04_last.l0 k l0 a1) = some r := h
  clear h
  have H' := Aside0.mk H
  clear H
  go_enter Try.func32, Try.ntmps32
  go_wp2
  go_loopg [5] k (fun kq v5 w' => ∃ (x5_1 : Int), v5 = .int .i64 x5_1 ∧ Aside0 (contangoref04_last.l0 kq l0 x5_1 = some r) ∧ Aside0 (kq ≤ k) ∧ Drawn0 w w')
  case atStart => exact ⟨(a1), (by first | rfl | (simp; done) | (simp [*]; done)), H', ⟨Nat.le_refl _⟩, by repeat (first | exact Drawn0.refl _ | apply Drawn0.step)⟩
  case round =>
    clear H'
    try clear p2
    obtain ⟨x5_1, rfl, HA, HK1, ⟨m1, rfl⟩⟩ := hrel
    cases gk with
    | zero => exact absurd HA.out (by simp [contangoref04_last.l0])
    | succ k1 =>
      have H := HA.out
      clear HA
      simp only [contangoref04_last.l0] at H
      by_cases c3 : x5_1 < (l0.length : Int)
      · rw [if_pos c3] at H
        have c3b0 : decide (x5_1 < (l0.length : Int)) = true := decide_eq_true c3
        clear c3
        by_cases c4 : 0 ≤ x5_1
        · rw [if_pos c4] at H
          have c4b0 : decide (0 ≤ x5_1) = true := decide_eq_true c4
          clear c4
          by_cases c5 : (rd l0 x5_1) < 128
          · rw [if_pos c5] at H
            have c5b0 : decide ((rd l0 x5_1) < 128) = true := decide_eq_true c5
            clear c5
            obtain rfl := Option.some.inj H
            have p107 : 0 ≤ (x5_1 : Int) := of_decide_eq_true (by first | (with_reducible assumption) | assumption)
            have q107 : x5_1 < (l0.length : Int) := of_decide_eq_true (by first | (with_reducible assumption) | assumption)
            obtain ⟨ad107, e107, hx107_0⟩ := Kd.at_int HR0.out x5_1 p107 q107
            cases e107
            replace p107 := eq_true p107
            replace q107 := eq_true q107
            go_wp2
            go_ret
            exact ⟨by first | rfl | (simp; done) | (simp [*]; done), by repeat (first | exact Drawn0.refl _ | apply Drawn0.step)⟩
          · rw [if_neg c5] at H
            have c5b0 : decide ((rd l0 x5_1) < 128) = false := decide_eq_false c5
            clear c5
            have H' := Aside0.mk H
            clear H
            have p107 : 0 ≤ (x5_1 : Int) := of_decide_eq_true (by first | (with_reducible assumption) | assumption)
            have q107 : x5_1 < (l0.length : Int) := of_decide_eq_true (by first | (with_reducible assumption) | assumption)
            obtain ⟨ad107, e107, hx107_0⟩ := Kd.at_int HR0.out x5_1 p107 q107
            cases e107
            replace p107 := eq_true p107
            replace q107 := eq_true q107
            go_wp2
            go_roundg k1
            case measure => have := HK1.out; omega
            case rel => exact ⟨(wrap64 (x5_1 + 1)), (by first | rfl | (simp; done) | (simp [*]; done)), H', ⟨by have := HK1.out; omega⟩, by repeat (first | exact Drawn0.refl _ | apply Drawn0.step)⟩
        · rw [if_neg c4] at H
          exact absurd H (by simp)
      · rw [if_neg c3] at H
        have c3b0 : decide (x5_1 < (l0.length : Int)) = false := decide_eq_false c3
        clear c3
        obtain rfl := Option.some.inj H
        go_wp2
        go_ret
        exact ⟨by first | rfl | (simp; done) | (simp [*]; done), by repeat (first | exact Drawn0.refl _ | apply Drawn0.step)⟩

end Go.Proofs.Ytnimfimcpjmbnaa.PWireTexts
