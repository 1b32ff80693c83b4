/- Laid for this claim by a program of this session's (wip/mkprint.py, wip/ext.py); not trusted: Lean checks it. -/
import Derived.Test.YtnimfimcpjmbnaaPWireTornx0
import Derived.Test.YtnimfimcpjmbnaaPWireTornx1
import Derived.Test.YtnimfimcpjmbnaaPWireTornx2
namespace Go.Proofs.Ytnimfimcpjmbnaa.PWireTorn
open Go.RowKit Go.Proofs.YtnimfimcpjmbnaaW.PrintWords Go.Proofs.YtnimfimcpjmbnaaW.PrintLast Go.Proofs.YtnimfimcpjmbnaaW.PrintMore
attribute [local go_sem] max2_int min2_int max_two min_two max_three min_three max_four min_four   -- for this text's walks alone
set_option linter.unusedVariables false
set_option linter.unusedSimpArgs false

/-! ### wire_Frame: function 22 -/
/-- the bytes behind a piece are its sum's -/
def sameAt (l : List Int) (at_ : Int) (q : List Int) : Bool := decide ((l.drop at_.toNat).take q.length = q)
def wire_Frame.f (k : Nat) (l0 : List Int) (a1 : Int) : Option (List Int × Int × Int) :=
  if l0.length ≤ 1000000 ∧ (∀ c ∈ l0, 0 ≤ c ∧ c ≤ 255) then
    (if pieceErr l0 a1 = 0 then
      (if (l0.length : Int) - ((intSpec l0 a1).2.1 + (intSpec l0 a1).1) < 4 then some ([], 0, 6) else
        (wire_Sum.f k (pieceOf l0 a1)).bind fun s => (wire_four.f s).bind fun q =>
          if q.length = 4 then (if sameAt l0 ((intSpec l0 a1).2.1 + (intSpec l0 a1).1) q = true then some (pieceOf l0 a1, (intSpec l0 a1).2.1 + (intSpec l0 a1).1 + 4, 0) else some ([], 0, 9)) else none)
    else some ([], 0, pieceErr l0 a1)) else none
theorem wire_Frame.mono : ∀ a0 a1 k, LeO (wire_Frame.f k a0 a1) (wire_Frame.f (k + 1) a0 a1) := by
  intro a0 a1 k
  unfold wire_Frame.f
  exact LeO.ite (LeO.ite (LeO.ite (LeO.refl _) (LeO.bind (wire_Sum.mono _ _) (fun _ => LeO.refl _))) (LeO.refl _)) (LeO.refl _)
set_option maxHeartbeats 4000000 in
set_option maxRecDepth 100000 in
theorem frame_err (A0 : Option Addr) (c0 : Nat) (l0 : List Int) (a1 : Int) (w : World) (hr0 : Kd.C (Kd.int .u8) w A0 l0.length l0) (hc0 : l0.length ≤ c0) (hok : l0.length ≤ 1000000 ∧ (∀ c ∈ l0, 0 ≤ c ∧ c ≤ 255)) (he : ¬ pieceErr l0 a1 = 0) :
    Calls Try.prog 22 #[.slice A0 l0.length c0, .int .i64 a1] w fun e w' => e = .returned (.tuple #[.slice none 0 0, .int .i64 0, .int .i64 (pieceErr l0 a1)]) ∧ Drawn0 w w' := by
  have hP := piece_bad A0 c0 l0 a1 w hr0 hc0 hok he
  generalize pieceErr l0 a1 = er at *
  have HP := Aside0.mk hP
  have hb : (er != 0) = true := bne_iff_ne.2 he
  clear hP hr0 hc0 hok he
  go_enter Try.func22, Try.ntmps22
  go_wp2_with fail
  refine HP.out.mono ?_
  rintro e w1 ⟨rfl, hd⟩
  have HD := Aside0.mk hd
  clear hd
  go_wp2
  go_ret3
  exact ⟨rfl, HD.out⟩
set_option maxHeartbeats 4000000 in
set_option maxRecDepth 100000 in
theorem frame_short (A0 : Option Addr) (c0 : Nat) (l0 : List Int) (a1 : Int) (w : World) (hr0 : Kd.C (Kd.int .u8) w A0 l0.length l0) (hc0 : l0.length ≤ c0) (hok : l0.length ≤ 1000000 ∧ (∀ c ∈ l0, 0 ≤ c ∧ c ≤ 255)) (he : pieceErr l0 a1 = 0) (hs : (l0.length : Int) - ((intSpec l0 a1).2.1 + (intSpec l0 a1).1) < 4) (hrange : 0 ≤ (intSpec l0 a1).2.1 + (intSpec l0 a1).1 ∧ (intSpec l0 a1).2.1 + (intSpec l0 a1).1 ≤ l0.length) :
    Calls Try.prog 22 #[.slice A0 l0.length c0, .int .i64 a1] w fun e w' => e = .returned (.tuple #[.slice none 0 0, .int .i64 0, .int .i64 6]) ∧ Drawn0 w w' := by
  have hP := piece_good A0 c0 l0 a1 w hr0 hc0 hok he
  generalize (intSpec l0 a1).2.1 + (intSpec l0 a1).1 = nx at *
  obtain ⟨hx0, hx1⟩ := hrange
  have hll := hok.1
  have HP := Aside0.mk hP
  clear hP hr0 hc0 hok he
  go_enter Try.func22, Try.ntmps22
  go_wp2_with fail
  refine HP.out.mono ?_
  rintro e w1 ⟨A', c', rfl, hl, hC, hd⟩
  have HD := Aside0.mk hd
  clear hd hC hl
  go_wp2
  go_ret3
  exact ⟨rfl, HD.out⟩
set_option maxHeartbeats 4000000 in
set_option maxRecDepth 100000 in
theorem frame_main (k : Nat) (A0 : Option Addr) (c0 : Nat) (l0 : List Int) (a1 : Int) (w : World) (hr0 : Kd.C (Kd.int .u8) w A0 l0.length l0) (hc0 : l0.length ≤ c0) (hok : l0.length ≤ 1000000 ∧ (∀ c ∈ l0, 0 ≤ c ∧ c ≤ 255)) (he : pieceErr l0 a1 = 0) (hs : ¬ (l0.length : Int) - ((intSpec l0 a1).2.1 + (intSpec l0 a1).1) < 4) (hrange : 0 ≤ (intSpec l0 a1).2.1 + (intSpec l0 a1).1 ∧ (intSpec l0 a1).2.1 + (intSpec l0 a1).1 ≤ l0.length) (s : Int) (q : List Int) (hsum : wire_Sum.f k (pieceOf l0 a1) = some s) (hq : wire_four.f s = some q) (hq4 : q.length = 4) (rb : List Int) (r2 r3 : Int) (hyes : sameAt l0 ((intSpec l0 a1).2.1 + (intSpec l0 a1).1) q = true → rb = pieceOf l0 a1 ∧ r2 = (intSpec l0 a1).2.1 + (intSpec l0 a1).1 + 4 ∧ r3 = 0) (hno : ¬ sameAt l0 ((intSpec l0 a1).2.1 + (intSpec l0 a1).1) q = true → rb = [] ∧ r2 = 0 ∧ r3 = 9) :
    Calls Try.prog 22 #[.slice A0 l0.length c0, .int .i64 a1] w fun e w' => ∃ v0_ : Value, e = .returned (.tuple #[v0_, .int .i64 r2, .int .i64 r3]) ∧ Kd.R (Kd.int .u8) 5 w' w.heap.size (fun _ => True) v0_ rb ∧ Below w.heap.size w w' := by
  have HR := Aside0.mk hr0
  have HC := Aside0.mk hc0
  have hplen : (pieceOf l0 a1).length ≤ l0.length := by unfold pieceOf; rw [List.length_drop, List.length_take]; omega
  have hll := hok.1
  have hP := piece_good A0 c0 l0 a1 w hr0 hc0 hok he
  generalize (intSpec l0 a1).2.1 + (intSpec l0 a1).1 = nx at *
  generalize pieceOf l0 a1 = p at *
  obtain ⟨hx0, hx1⟩ := hrange
  have HPG := Aside0.mk hP
  have HS := Aside0.mk hsum
  have HQ := Aside0.mk hq
  have HQ4 := Aside0.mk hq4
  have HY := Aside0.mk hyes
  have HN0 := Aside0.mk hno
  clear hP hr0 hc0 hok he hsum hq hq4 hyes hno
  go_enter Try.func22, Try.ntmps22
  go_wp2_with fail
  refine HPG.out.mono ?_
  rintro e w1 ⟨A', c', rfl, hl, hC, hd⟩
  have HB := Aside0.mk hd.below
  have HP := Aside0.mk (Kd.C_below hC hd.below)
  have HL := Aside0.mk hl
  clear hd hC hl
  go_wp2_with fail
  refine (wire_Sum.calls k A' c' p s _ HP.out HL.out HS.out).mono ?_
  rintro e w2 ⟨rfl, hd⟩
  have HB2 := Aside0.mk (below_step HB.out hd.below)
  have HP2 := Aside0.mk (Kd.C_below HP.out hd.below)
  clear hd HB HP
  go_wp2_with fail
  refine (wire_four.calls s q _ HQ.out).mono ?_
  rintro e w3 ⟨v, rfl, hR, hB⟩
  obtain ⟨Aq, cq, rfl, hql, hCq⟩ := Kd.R_reads hR
  have HB3 := Aside0.mk (below_step HB2.out hB)
  have HP3 := Aside0.mk (Kd.C_below HP2.out hB)
  have HQ3 := Aside0.mk hCq
  clear hR hB hql hCq HB2 HP2
  go_wp2_with fail
  go_loop [4, 5, 6, 28] (fun v4 v5 v6 v28 => ∃ i : Int, 0 ≤ i ∧ i ≤ 4 ∧ v28 = .int .i64 i ∧ v4 = .slice A' p.length c' ∧ v5 = .int .i64 nx ∧ v6 = .int .i64 0 ∧ Aside0 (∀ j : Nat, (j : Int) < i → rd l0 (nx + j) = rd q j)) (fun v4 v5 v6 v28 => 4 - (intOf v28).toNat)
  case atStart => exact ⟨0, by omega, by omega, rfl, rfl, rfl, rfl, ⟨fun j hj => by omega⟩⟩
  case round =>
    obtain ⟨i, hi0, hi1, rfl, rfl, rfl, rfl, HI⟩ := hrel
    have hqlen : (q.length : Int) = 4 := by have := HQ4.out; omega
    have HQL := Aside0.mk hqlen
    by_cases hlt : i < (q.length : Int)
    · obtain ⟨ad, e1, hcq⟩ := Kd.at_int HQ3.out i hi0 hlt
      cases e1
      have hC0 := Kd.C_below HR.out HB3.out
      obtain ⟨ad2, e2, hcl⟩ := Kd.at_int hC0 (nx + i) (by omega) (by omega)
      cases e2
      have hij : ∀ j : Nat, (j : Int) = i → (i + 0 = i) := fun _ _ => by omega
      clear hqlen hij hC0
      by_cases heq : rd l0 (nx + i) = rd q i
      · have t1 : (rd l0 (nx + i) != rd q i) = false := bne_eq_false_iff_eq.2 heq
        have hnext : ∀ j : Nat, (j : Int) < i + 1 → rd l0 (nx + j) = rd q j := by
          intro j hj
          by_cases hji : (j : Int) < i
          · exact HI.out j hji
          · have : (j : Int) = i := by omega
            rw [this]; exact heq
        have HN := Aside0.mk hnext
        have h4 : i < 4 := by have := HQL.out; omega
        clear heq hnext
        generalize rd l0 (nx + i) = x at *
        generalize rd q i = y at *
        go_wp2
        go_round
        case measure => show _ < _; simp [intOf]; omega
        case rel => exact ⟨i + 1, by omega, by omega, rfl, rfl, rfl, rfl, HN⟩
      · have t1 : (rd l0 (nx + i) != rd q i) = true := bne_iff_ne.2 heq
        have hne : ¬ sameAt l0 nx q = true := by
          intro hsm
          have h5 : (l0.drop nx.toNat).take q.length = q := of_decide_eq_true hsm
          apply heq
          have h6 := congrArg (fun z : List Int => z.getD i.toNat 0) h5
          simp only [List.getD_eq_getElem?_getD, List.getElem?_take, List.getElem?_drop] at h6
          rw [if_pos (by omega)] at h6
          unfold rd
          rw [List.getD_eq_getElem?_getD, List.getD_eq_getElem?_getD, show (nx + i).toNat = nx.toNat + i.toNat by omega]
          exact h6
        obtain ⟨rfl, rfl, rfl⟩ := HN0.out hne
        have h4 : i < 4 := by have := HQL.out; omega
        clear heq hne
        generalize rd l0 (nx + i) = x at *
        generalize rd q i = y at *
        go_wp2
        go_ret3
        exact ⟨.slice none 0 0, rfl, Kd.R_nil _ _ _ _ _, HB3.out⟩
    · have hsame : sameAt l0 nx q = true := by
        unfold sameAt
        refine decide_eq_true ?_
        apply List.ext_getElem?
        intro j
        by_cases hj : j < q.length
        · have h7 := HI.out j (by omega)
          unfold rd at h7
          rw [List.getD_eq_getElem?_getD, List.getD_eq_getElem?_getD, Int.toNat_natCast, show (nx + (j : Int)).toNat = nx.toNat + j by omega, List.getElem?_eq_getElem hj, List.getElem?_eq_getElem (by omega)] at h7
          rw [List.getElem?_take, if_pos hj, List.getElem?_drop, List.getElem?_eq_getElem hj, List.getElem?_eq_getElem (by omega)]
          simpa using h7
        · rw [List.getElem?_take, if_neg hj, List.getElem?_eq_none (by omega)]
      obtain ⟨h1_, rfl, rfl⟩ := HY.out hsame
      have h2_ := h1_.symm
      clear h1_
      subst h2_
      clear hsame hqlen
      have hplen2 : p.length ≤ 1000000 := by omega
      go_wp2_with fail
      have hrows : Kd.C (Kd.slice 5 (Kd.int .u8)) (w3.alloc (.cells #[.slice A' p.length c'] 22)) (some ⟨w3.heap.size, 0, none⟩) [p].length [p] := by
        refine rows_of _ _ _ [.slice A' p.length c'] (by simp) rfl ?_ ?_
        · intro j v hj
          match j, hj with
          | 0, hj => simp at hj; subst hj; simp
          | j + 1, hj => simp at hj
        · intro j p2 v hj hv
          match j, hj, hv with
          | 0, hj, hv => simp at hj hv; subst hj hv; exact ⟨_, _, rfl, HL.out, Kd.C_alloc HP3.out _⟩
          | j + 1, hj, hv => simp at hj
      refine (joined_any (some ⟨w3.heap.size, 0, none⟩) 1 [p] _ hrows (by simp) (by simp [slen]; omega)).mono ?_
      rintro e w4 ⟨v, rfl, hR4, hB4⟩
      have HR4 := Aside0.mk hR4
      have HB4 := Aside0.mk hB4
      clear hR4 hB4 hrows
      go_wp2
      go_ret3
      refine ⟨v, rfl, ?_, below_step (below_alloc HB3.out _) HB4.out⟩
      have := Kd.R_lower HR4.out (below_size (below_alloc HB3.out (.cells #[.slice A' p.length c'] 22)))
      simpa [flat] using this
theorem wire_Frame.calls (k : Nat) (A0 : Option Addr) (c0 : Nat) (l0 : List Int) (a1 : Int) (r1 : List Int) (r2 : Int) (r3 : Int) (w : World) (hr0 : Kd.C (Kd.int .u8) w A0 l0.length l0) (hc0 : l0.length ≤ c0) (h : wire_Frame.f k l0 a1 = some (r1, r2, r3)) :
    Calls Try.prog 22 #[.slice A0 l0.length c0, .int .i64 a1] w fun e w' => ∃ v0_ : Value, e = .returned (.tuple #[v0_, .int .i64 r2, .int .i64 r3]) ∧ Kd.R (Kd.int .u8) 5 w' w.heap.size (fun _ => True) v0_ r1 ∧ Below w.heap.size w w' := by
  unfold wire_Frame.f at h
  by_cases hok : l0.length ≤ 1000000 ∧ (∀ c ∈ l0, 0 ≤ c ∧ c ≤ 255)
  · rw [if_pos hok] at h
    by_cases he : pieceErr l0 a1 = 0
    · rw [if_pos he] at h
      have hrange : 0 ≤ (intSpec l0 a1).2.1 + (intSpec l0 a1).1 ∧ (intSpec l0 a1).2.1 + (intSpec l0 a1).1 ≤ l0.length := by
        have hin := int_next l0 a1
        unfold pieceErr at he
        by_cases h1 : (intSpec l0 a1).2.2 = 0
        · have := hin h1
          rw [if_neg (by simpa using h1)] at he
          by_cases h2 : (intSpec l0 a1).1 < 0
          · rw [if_pos h2] at he; omega
          · rw [if_neg h2] at he
            by_cases h3 : (intSpec l0 a1).1 > 65536
            · rw [if_pos h3] at he; omega
            · rw [if_neg h3] at he
              by_cases h4 : (l0.length : Int) - (intSpec l0 a1).2.1 < (intSpec l0 a1).1
              · rw [if_pos h4] at he; omega
              · omega
        · rw [if_pos h1] at he; exact absurd he h1
      by_cases hs : (l0.length : Int) - ((intSpec l0 a1).2.1 + (intSpec l0 a1).1) < 4
      · rw [if_pos hs] at h
        simp only [Option.some.injEq, Prod.mk.injEq] at h
        obtain ⟨rfl, rfl, rfl⟩ := h
        refine (frame_short A0 c0 l0 a1 w hr0 hc0 hok he hs hrange).mono ?_
        rintro e w1 ⟨rfl, hd⟩
        exact ⟨_, rfl, Kd.R_nil _ _ _ _ _, hd.below⟩
      · rw [if_neg hs] at h
        obtain ⟨s, hsum, h⟩ := Option.bind_eq_some_iff.1 h
        obtain ⟨q, hq, h⟩ := Option.bind_eq_some_iff.1 h
        by_cases hq4 : q.length = 4
        · rw [if_pos hq4] at h
          refine frame_main k A0 c0 l0 a1 w hr0 hc0 hok he hs hrange s q hsum hq hq4 r1 r2 r3 ?_ ?_
          · intro hsm
            rw [if_pos hsm] at h
            simp only [Option.some.injEq, Prod.mk.injEq] at h
            exact ⟨h.1.symm, h.2.1.symm, h.2.2.symm⟩
          · intro hsm
            rw [if_neg hsm] at h
            simp only [Option.some.injEq, Prod.mk.injEq] at h
            exact ⟨h.1.symm, h.2.1.symm, h.2.2.symm⟩
        · rw [if_neg hq4] at h; cases h
    · rw [if_neg he] at h
      simp only [Option.some.injEq, Prod.mk.injEq] at h
      obtain ⟨rfl, rfl, rfl⟩ := h
      refine (frame_err A0 c0 l0 a1 w hr0 hc0 hok he).mono ?_
      rintro e w1 ⟨rfl, hd⟩
      exact ⟨_, rfl, Kd.R_nil _ _ _ _ _, hd.below⟩
  · rw [if_neg hok] at h; cases h


/-! ### wire_Frames: function 24 -/
def wire_Frames.l0 : Nat → List Int → List (List Int) → Int → Option ((List (List Int)) × Int)
  | 0, _, _, _ => none
  | k + 1, x0, x2, x3 => (wire_Frame.f k x0 x3).bind fun bt105 => (if bt105.2.2 = 0 then (if x2.length < 5864062014805 then (wire_Frames.l0 k x0 (x2 ++ [bt105.1]) bt105.2.1) else (none)) else (some (x2, x3)))
def wire_Frames.f (k : Nat) (l0 : List Int) : Option ((List (List Int)) × Int) := wire_Frames.l0 k l0 ([] : List (List Int)) 0
theorem wire_Frames.mono_l : ∀ k, (∀ y0 y1 y2, LeO (wire_Frames.l0 k y0 y1 y2) (wire_Frames.l0 (k + 1) y0 y1 y2))
  | 0 => fun _ _ _ r h => by simp [wire_Frames.l0] at h
  | k + 1 => by
    have ih0 := wire_Frames.mono_l k
    · intro y0 y1 y2
      unfold wire_Frames.l0
      repeat' first
      | (with_reducible exact ih0 _ _ _)
      | (with_reducible exact wire_Frame.mono _ _ _)
      | (with_reducible exact LeO.refl _)
      | (with_reducible exact LeO.none _)
      | (with_reducible refine LeO.ite ?_ ?_)
      | (with_reducible refine LeO.bind ?_ (fun _ => ?_))
      | exact ih0 _ _ _
      | exact wire_Frame.mono _ _ _
      | exact LeO.none _
      | refine LeO.ite ?_ ?_
      | refine LeO.bind ?_ (fun _ => ?_)
theorem wire_Frames.mono : ∀ a0 k, LeO (wire_Frames.f k a0) (wire_Frames.f (k + 1) a0) := by
  intro a0 k
  have ih0 := wire_Frames.mono_l k
  unfold wire_Frames.f
  repeat' first
      | (with_reducible exact ih0 _ _ _)
      | (with_reducible exact wire_Frame.mono _ _ _)
      | (with_reducible exact LeO.refl _)
      | (with_reducible exact LeO.none _)
      | (with_reducible refine LeO.ite ?_ ?_)
      | (with_reducible refine LeO.bind ?_ (fun _ => ?_))
      | exact ih0 _ _ _
      | exact wire_Frame.mono _ _ _
      | exact LeO.none _
      | refine LeO.ite ?_ ?_
      | refine LeO.bind ?_ (fun _ => ?_)
set_option maxHeartbeats 8000000 in
set_option maxRecDepth 100000 in
theorem wire_Frames.calls (k : Nat) (A0 : Option Addr) (c0 : Nat) (l0 : List Int) (r1 : List (List Int)) (r2 : Int) (w : World) (hr0 : Kd.C (Kd.int .u8) w A0 l0.length l0) (hc0 : l0.length ≤ c0) (h : wire_Frames.f k l0 = some (r1, r2)) :
    Calls Try.prog 24 #[.slice A0 l0.length c0] w fun e w' => ∃ v0_ : Value, e = .returned (.tuple #[v0_, .int .i64 r2]) ∧ Kd.S (Kd.slice 5 (Kd.int .u8)) 22 w' w.heap.size (fun _ => True) v0_ r1 ∧ Below w.heap.size w w' := by
  have HR0 := Aside0.mk hr0
  have HC0 := Aside0.mk hc0
  clear hr0 hc0
  have HB := Aside0.mk (Below.refl w.heap.size w)
  have H : (wire_Frames.l0 k l0 ([] : List (List Int)) 0) = some (r1, r2) := h
  clear h
  have H' := Aside0.mk H
  clear H
  go_enter Try.func24, Try.ntmps24
  go_wp2
  go_loopg [2, 3] k (fun kq v2 v3 w' => ∃ (x2_1 : List (List Int)) (x3_1 : Int), v3 = .int .i64 x3_1 ∧ Aside0 (wire_Frames.l0 kq l0 x2_1 x3_1 = some (r1, r2)) ∧ Aside0 (kq ≤ k) ∧ Aside0 (Kd.S (Kd.slice 5 (Kd.int .u8)) 22 w' w.heap.size (fun _ => True) v2 x2_1) ∧ Aside0 (Below w.heap.size w w'))
  case atStart => exact ⟨(([] : List (List Int))), (0), (by first | rfl | (simp; done) | (simp [*]; done)), H', ⟨Nat.le_refl _⟩, ⟨by first | exact Kd.S_nil _ _ _ _ _ | exact Kd.N_nil _ _ _ _ _ | exact Kd.V_nil _ _ _ _ _ | exact Kd.Q_nil _ _ _ _ _ | exact Kd.R_nil _ _ _ _ _⟩, ⟨by repeat (first | (with_reducible first | exact HB.out | apply below_alloc | apply pw_below_drewN | apply below_drew1) | exact HB.out)⟩⟩
  case round =>
    clear H'
    obtain ⟨x2_1, x3_1, rfl, HA, HK1, HO_2, HB⟩ := hrel
    cases gk with
    | zero => exact absurd HA.out (by simp [wire_Frames.l0])
    | succ k1 =>
      have H := HA.out
      clear HA
      simp only [wire_Frames.l0] at H
      replace H := Option.bind_eq_some_iff.mp H
      obtain ⟨⟨t105, t106, t107⟩, A20, H⟩ := H
      replace H : (if t107 = 0 then (if x2_1.length < 5864062014805 then (wire_Frames.l0 k1 l0 (x2_1 ++ [t105]) t106) else (none)) else (some (x2_1, x3_1))) = some (r1, r2) := H
      have A2 := Aside0.mk A20
      clear A20
      by_cases c3 : t107 = 0
      · rw [if_pos c3] at H
        have c3b0 : (t107 == 0) = true := beq_iff_eq.mpr c3
        have c3b1 : (t107 != 0) = false := bne_eq_false_iff_eq.mpr c3
        clear c3
        by_cases c4 : x2_1.length < 5864062014805
        · rw [if_pos c4] at H
          have LMc4 := Aside0.mk c4
          clear c4
          obtain ⟨y110, hy110⟩ : ∃ y_ : List (List Int), y_ = (x2_1 ++ [t105]) := ⟨_, rfl⟩
          replace H : (wire_Frames.l0 k1 l0 y110 t106) = some (r1, r2) := by first | (rw [hy110]; with_reducible exact H) | (have H2_ := (Option.bind_some _ _).symm.trans H; rw [hy110]; with_reducible exact H2_) | (have H2_ := (Option.bind_some _ _).symm.trans H; with_reducible exact H2_) | with_reducible exact H | (rw [hy110]; exact H) | exact H
          have Ny110 := Aside0.mk hy110
          clear hy110
          have H' := Aside0.mk H
          clear H
          go_wp2_with (first | ((with_reducible refine gate_callee (f := 22) rfl ?_); refine goesL_ (some 10) rfl rfl Try.func22 (by kernel_rfl) rfl #[.slice A0 l0.length c0, .int .i64 x3_1] rfl (by (try simp only [List.map_toArray, List.map_cons, List.map_nil]); first | done | rfl | (simp only [List.length_drop, List.length_take]; rfl)) ?_; (with_reducible refine (wire_Frame.calls k1 _ _ l0 x3_1 t105 t106 t107 _ ?side1 ?side2 A2.out).mono ?_); (case side1 => repeat (first | exact (Kd.C_below HR0.out HB.out) | (with_reducible refine Kd.C_alloc ?_ _) | (with_reducible refine Kd.C_drewN ?_ _) | (with_reducible refine Kd.C_drew ?_))); (case side2 => exact HC0.out); rintro e w5 ⟨v108, rfl, ho0, hb⟩; refine ⟨_, rfl, ?_⟩; have n0_ := Aside0.mk (Kd.S_elder' (by (with_reducible repeat (first | apply Kd.S_alloc | apply Kd.S_drewN | apply Kd.S_drew)); exact HO_2.out) (Kd.R_base ho0) hb); have n1_ := Aside0.mk (Kd.R_lower ho0 (below_size (by repeat (first | (with_reducible first | exact HB.out | apply below_alloc | apply pw_below_drewN | apply below_drew1) | exact HB.out)))); have n2_ := Aside0.mk (below_step (by repeat (first | (with_reducible first | exact HB.out | apply below_alloc | apply pw_below_drewN | apply below_drew1) | exact HB.out)) hb); clear HO_2; clear HB; have HO_2 := n0_; have HO109 := n1_; have HB := n2_; clear n0_ n1_ n2_; (try clear hb); (try clear hb2); (try clear hk); (try clear hi); (try clear ho0); obtain ⟨Ao7, co7, eo7⟩ := Kd.R_slice HO109.out; subst eo7) | ((with_reducible refine gate_builtin (b := .append) (xs := #[.tmp 18, .tmp 20]) rfl ?_); at_builtin; refine Kd.S_append (Kd.slice 5 (Kd.int .u8)) (w0 := w) w.heap.size rfl (.tmp 18) (.tmp 20) 48 22 (.slice none 0 0) 24 rfl Try.underlying48 info22 rfl (by decide) (by omega) u2 x2_1 t105 [.slice Ao7 t105.length co7] (fun _ => True) (fun k_ => some k_ = (.slice Ao7 t105.length co7 : Value).ownBlock) rfl rfl ?aP (fun k_ hk_ => ((Kd.R_mono (ok' := fun k_ => ((fun _ => True)) k_ ∧ some k_ ≠ (u2 : Value).ownBlock) (Kd.R_apart' (HO109.out) (Kd.S_typed HO_2.out) (by decide)) (fun k_ hk => ⟨trivial, hk.2⟩))).1 k_ hk_.symm) ?aF ?aO ?aB ?aS ?aL ?_; (case aP => exact Kd.M_row (Kd.R_mono (Kd.R_tight rfl (Kd.R_mono (ok' := fun k_ => ((fun _ => True)) k_ ∧ some k_ ≠ (u2 : Value).ownBlock) (Kd.R_apart' (HO109.out) (Kd.S_typed HO_2.out) (by decide)) (fun k_ hk => ⟨trivial, hk.2⟩))) (fun _ h_ => h_))); (case aB => exact (by repeat (first | (with_reducible first | exact HB.out | apply below_alloc | apply pw_below_drewN | apply below_drew1) | exact HB.out))); (case aF => exact (fun _ _ => trivial)); (case aO => exact (by (with_reducible repeat (first | apply Kd.S_alloc | apply Kd.S_drewN | apply Kd.S_drew)); exact Kd.S_mono HO_2.out (fun k_ hk => ⟨trivial, fun e_ => hk.2 e_⟩))); (case aS => exact (below_size (by repeat (first | (with_reducible first | exact HB.out | apply below_alloc | apply pw_below_drewN | apply below_drew1) | exact HB.out)))); (case aL => have := LMc4.out; omega); intro v111 w6 ho hb hg hat; rw [← Ny110.out] at ho; have n0_ := Aside0.mk (hb); have n1_ := Aside0.mk (ho); clear HB; clear HO_2; clear HO109; have HB := n0_; have HO112 := n1_; clear n0_ n1_; clear ho hb hg hat))
          go_roundg k1
          case measure => have := HK1.out; omega
          case rel => exact ⟨(y110), (t106), (by first | rfl | (simp; done) | (simp [*]; done)), H', ⟨by have := HK1.out; omega⟩, ⟨by (with_reducible repeat (first | apply Kd.S_alloc | apply Kd.S_drewN | apply Kd.S_drew)); exact HO112.out⟩, ⟨by repeat (first | (with_reducible first | exact HB.out | apply below_alloc | apply pw_below_drewN | apply below_drew1) | exact HB.out)⟩⟩
        · rw [if_neg c4] at H
          exact absurd H (by simp)
      · rw [if_neg c3] at H
        have c3b0 : (t107 == 0) = false := beq_eq_false_iff_ne.mpr c3
        have c3b1 : (t107 != 0) = true := bne_iff_ne.mpr c3
        simp only [Option.some.injEq, Prod.mk.injEq] at H
        obtain ⟨rfl, rfl⟩ := H
        go_wp2_with (first | ((with_reducible refine gate_callee (f := 22) rfl ?_); refine goesL_ (some 10) rfl rfl Try.func22 (by kernel_rfl) rfl #[.slice A0 l0.length c0, .int .i64 x3_1] rfl (by (try simp only [List.map_toArray, List.map_cons, List.map_nil]); first | done | rfl | (simp only [List.length_drop, List.length_take]; rfl)) ?_; (with_reducible refine (wire_Frame.calls k1 _ _ l0 x3_1 t105 t106 t107 _ ?side1 ?side2 A2.out).mono ?_); (case side1 => repeat (first | exact (Kd.C_below HR0.out HB.out) | (with_reducible refine Kd.C_alloc ?_ _) | (with_reducible refine Kd.C_drewN ?_ _) | (with_reducible refine Kd.C_drew ?_))); (case side2 => exact HC0.out); rintro e w8 ⟨v108, rfl, ho0, hb⟩; refine ⟨_, rfl, ?_⟩; have n0_ := Aside0.mk (Kd.S_elder' (by (with_reducible repeat (first | apply Kd.S_alloc | apply Kd.S_drewN | apply Kd.S_drew)); exact HO_2.out) (Kd.R_base ho0) hb); have n1_ := Aside0.mk (Kd.R_lower ho0 (below_size (by repeat (first | (with_reducible first | exact HB.out | apply below_alloc | apply pw_below_drewN | apply below_drew1) | exact HB.out)))); have n2_ := Aside0.mk (below_step (by repeat (first | (with_reducible first | exact HB.out | apply below_alloc | apply pw_below_drewN | apply below_drew1) | exact HB.out)) hb); clear HO_2; clear HB; have HO_2 := n0_; have HO109 := n1_; have HB := n2_; clear n0_ n1_ n2_; (try clear hb); (try clear hb2); (try clear hk); (try clear hi); (try clear ho0)))
        go_ret2
        exact ⟨_, by first | rfl | (simp [errW_none, errW_some] <;> rfl) | (simp [*, errW_none, errW_some] <;> rfl), by (with_reducible repeat (first | apply Kd.S_alloc | apply Kd.S_drewN | apply Kd.S_drew)); exact Kd.S_mono HO_2.out (fun _ hk => trivial), by repeat (first | (with_reducible first | exact HB.out | apply below_alloc | apply pw_below_drewN | apply below_drew1) | exact HB.out)⟩

end Go.Proofs.Ytnimfimcpjmbnaa.PWireTorn
