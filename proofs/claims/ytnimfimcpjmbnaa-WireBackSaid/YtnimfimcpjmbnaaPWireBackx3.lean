/- Laid for this claim by a program of this session's (wip/mkprint.py, wip/ext.py); not trusted: Lean checks it. -/
import Derived.Test.YtnimfimcpjmbnaaPWireBackx0
import Derived.Test.YtnimfimcpjmbnaaPWireBackx1
import Derived.Test.YtnimfimcpjmbnaaPWireBackx2
namespace Go.Proofs.Ytnimfimcpjmbnaa.PWireBack
open Go.RowKit Go.Proofs.YtnimfimcpjmbnaaW.PrintWords Go.Proofs.YtnimfimcpjmbnaaW.PrintLast Go.Proofs.YtnimfimcpjmbnaaW.PrintMore
attribute [local go_sem] max2_int min2_int max_two min_two max_three min_three max_four min_four   -- for this text's walks alone
set_option linter.unusedVariables false
set_option linter.unusedSimpArgs false

/-! ### wire_piece: function 34 -/
theorem int_next (l : List Int) (a : Int) (h : (intSpec l a).2.2 = 0) : 0 ≤ a ∧ a < (intSpec l a).2.1 ∧ (intSpec l a).2.1 ≤ l.length := by
  unfold intSpec at *
  by_cases h1 : a < 0 ∨ a > l.length
  · rw [if_pos h1] at h; simp at h
  · rw [if_neg h1] at h ⊢
    by_cases h2 : stopAt (l.drop a.toNat) = (l.drop a.toNat).length
    · rw [if_pos h2] at h; simp at h
    · rw [if_neg h2] at h ⊢
      have hs := stop_le (l.drop a.toNat)
      have hl : (l.drop a.toNat).length = l.length - a.toNat := List.length_drop
      split at h
      · simp at h
      · rename_i h3
        rw [if_neg h3]
        show 0 ≤ a ∧ a < a + stopAt (l.drop a.toNat) + 1 ∧ a + stopAt (l.drop a.toNat) + 1 ≤ (l.length : Int)
        omega
theorem int_err (l : List Int) (a : Int) (h : ¬ (intSpec l a).2.2 = 0) : (intSpec l a).1 = 0 ∧ (intSpec l a).2.1 = 0 ∧ ((intSpec l a).2.2 = 2 ∨ (intSpec l a).2.2 = 5 ∨ (intSpec l a).2.2 = 6) := by
  unfold intSpec at *
  by_cases h1 : a < 0 ∨ a > l.length
  · rw [if_pos h1] at h ⊢; simp
  · rw [if_neg h1] at h ⊢
    by_cases h2 : stopAt (l.drop a.toNat) = (l.drop a.toNat).length
    · rw [if_pos h2] at h ⊢; simp
    · rw [if_neg h2] at h ⊢
      split at h
      · rename_i h3; rw [if_pos h3]; simp
      · simp at h
/-- why a piece is none; 0: it is one -/
def pieceErr (l : List Int) (a : Int) : Int :=
  if ¬ (intSpec l a).2.2 = 0 then (intSpec l a).2.2 else if (intSpec l a).1 < 0 then 5 else if (intSpec l a).1 > 65536 then 8 else if (l.length : Int) - (intSpec l a).2.1 < (intSpec l a).1 then 6 else 0
def pieceOf (l : List Int) (a : Int) : List Int := (l.take ((intSpec l a).2.1 + (intSpec l a).1).toNat).drop (intSpec l a).2.1.toNat
set_option maxHeartbeats 4000000 in
set_option maxRecDepth 100000 in
theorem piece_bad (A0 : Option Addr) (c0 : Nat) (l0 : List Int) (a1 : Int) (w : World) (hr0 : Kd.C (Kd.int .u8) w A0 l0.length l0) (hc0 : l0.length ≤ c0) (hok : l0.length ≤ 1000000 ∧ (∀ c ∈ l0, 0 ≤ c ∧ c ≤ 255)) (he : ¬ pieceErr l0 a1 = 0) :
    Calls Try.prog 34 #[.slice A0 l0.length c0, .int .i64 a1] w fun e w' => e = .returned (.tuple #[.slice none 0 0, .int .i64 0, .int .i64 (pieceErr l0 a1)]) ∧ Drawn0 w w' := by
  have hI : wire_Int.f l0 a1 = some ((intSpec l0 a1).1, (intSpec l0 a1).2.1, (intSpec l0 a1).2.2) := by unfold wire_Int.f; rw [if_pos hok]
  have hie := int_err l0 a1
  have hin := int_next l0 a1
  unfold pieceErr at *
  have hll := hok.1
  generalize intSpec l0 a1 = z at *
  obtain ⟨n, next, er⟩ := z
  simp only at *
  have HI := Aside0.mk hI
  have HR := Aside0.mk hr0
  have HC := Aside0.mk hc0
  clear hI hr0 hc0
  by_cases h1 : er = 0
  · subst h1
    have hn := hin rfl
    simp only [not_true, if_false] at he ⊢
    by_cases h2 : n < 0
    · rw [if_pos h2]
      clear hin hie he
      go_enter Try.func34, Try.ntmps34
      go_wp2_with (go_at_call 12; refine (wire_Int.calls A0 c0 l0 a1 n next 0 _ HR.out HC.out HI.out).mono ?_; rintro e w1 ⟨rfl, hd⟩)
      go_ret3
      exact ⟨rfl, by assumption⟩
    · rw [if_neg h2] at he ⊢
      by_cases h3 : n > 65536
      · rw [if_pos h3]
        clear hin hie he
        go_enter Try.func34, Try.ntmps34
        go_wp2_with (go_at_call 12; refine (wire_Int.calls A0 c0 l0 a1 n next 0 _ HR.out HC.out HI.out).mono ?_; rintro e w1 ⟨rfl, hd⟩)
        go_ret3
        exact ⟨rfl, by assumption⟩
      · rw [if_neg h3] at he ⊢
        by_cases h4 : (l0.length : Int) - next < n
        · rw [if_pos h4]
          clear hin hie he
          go_enter Try.func34, Try.ntmps34
          go_wp2_with (go_at_call 12; refine (wire_Int.calls A0 c0 l0 a1 n next 0 _ HR.out HC.out HI.out).mono ?_; rintro e w1 ⟨rfl, hd⟩)
          go_ret3
          exact ⟨rfl, by assumption⟩
        · rw [if_neg h4] at he; exact absurd rfl he
  · have h1b : (er != 0) = true := bne_iff_ne.2 h1
    rw [if_pos h1]
    have hz := hie h1
    obtain ⟨rfl, rfl, _⟩ := hz
    clear hin hie he h1
    go_enter Try.func34, Try.ntmps34
    go_wp2_with (go_at_call 12; refine (wire_Int.calls A0 c0 l0 a1 0 0 er _ HR.out HC.out HI.out).mono ?_; rintro e w1 ⟨rfl, hd⟩)
    go_ret3
    exact ⟨rfl, by assumption⟩
set_option maxHeartbeats 4000000 in
set_option maxRecDepth 100000 in
theorem piece_good (A0 : Option Addr) (c0 : Nat) (l0 : List Int) (a1 : Int) (w : World) (hr0 : Kd.C (Kd.int .u8) w A0 l0.length l0) (hc0 : l0.length ≤ c0) (hok : l0.length ≤ 1000000 ∧ (∀ c ∈ l0, 0 ≤ c ∧ c ≤ 255)) (he : pieceErr l0 a1 = 0) :
    Calls Try.prog 34 #[.slice A0 l0.length c0, .int .i64 a1] w fun e w' => ∃ (A' : Option Addr) (c' : Nat), e = .returned (.tuple #[.slice A' (pieceOf l0 a1).length c', .int .i64 ((intSpec l0 a1).2.1 + (intSpec l0 a1).1), .int .i64 0]) ∧ (pieceOf l0 a1).length ≤ c' ∧ Kd.C (Kd.int .u8) w A' (pieceOf l0 a1).length (pieceOf l0 a1) ∧ Drawn0 w w' := by
  have hI : wire_Int.f l0 a1 = some ((intSpec l0 a1).1, (intSpec l0 a1).2.1, (intSpec l0 a1).2.2) := by unfold wire_Int.f; rw [if_pos hok]
  have hin := int_next l0 a1
  unfold pieceErr at he
  unfold pieceOf
  have hll := hok.1
  generalize intSpec l0 a1 = z at *
  obtain ⟨n, next, er⟩ := z
  simp only at *
  have h1 : er = 0 := by
    apply Classical.byContradiction
    intro h
    rw [if_pos h] at he; exact h he
  subst h1
  have hn := hin rfl
  simp only [not_true, if_false] at he
  have h2 : ¬ n < 0 := by intro h; rw [if_pos h] at he; omega
  rw [if_neg h2] at he
  have h3 : ¬ n > 65536 := by intro h; rw [if_pos h] at he; omega
  rw [if_neg h3] at he
  have h4 : ¬ (l0.length : Int) - next < n := by intro h; rw [if_pos h] at he; omega
  clear he hin
  obtain ⟨i5, hi5, hi5z⟩ := Option.map_eq_some_iff.1 info_wire
  simp only [Prod.mk.injEq] at hi5z
  have hcut := cut_mid (P := Try.prog) 22 5 .i64 .i64 Try.underlying22 hi5 1 hi5z.2.1 A0 l0.length c0 next (next + n) (by omega) (by omega) (by omega) hc0
  have hmid := Kd.C_mid (lo := next.toNat) (hi := (next + n).toNat) hr0 (by omega) (by omega) hc0
  have hln : (next + n).toNat - next.toNat = ((l0.take (next + n).toNat).drop next.toNat).length := by rw [List.length_drop, List.length_take]; omega
  rw [hln] at hcut
  have hle : ((l0.take (next + n).toNat).drop next.toNat).length ≤ c0 - next.toNat := by rw [← hln]; omega
  have hmid2 : Kd.C (Kd.int .u8) w (if c0 = next.toNat then A0 else A0.map (·.add (next.toNat * 1))) ((l0.take (next + n).toNat).drop next.toNat).length ((l0.take (next + n).toNat).drop next.toNat) := hmid
  generalize (if c0 = next.toNat then A0 else A0.map (·.add (next.toNat * 1))) = A' at *
  generalize (l0.take (next + n).toNat).drop next.toNat = seg at *
  have HI := Aside0.mk hI
  have HR := Aside0.mk hr0
  have HC := Aside0.mk hc0
  have HM := Aside0.mk hmid2
  have HL := Aside0.mk hle
  clear hI hr0 hc0 hmid hmid2 hle hln hi5 hi5z
  go_enter Try.func34, Try.ntmps34
  go_wp2_with (go_at_call 12; refine (wire_Int.calls A0 c0 l0 a1 n next 0 _ HR.out HC.out HI.out).mono ?_; rintro e w1 ⟨rfl, hd⟩)
  go_ret3
  exact ⟨A', _, rfl, HL.out, HM.out, by assumption⟩


/-! ### wire_Text: function 18 -/
def wire_Text.f (l0 : List Int) (a1 : Int) : Option (ByteArray × Int × Int) := if l0.length ≤ 1000000 ∧ (∀ c ∈ l0, 0 ≤ c ∧ c ≤ 255) then some (if pieceErr l0 a1 = 0 then (strOfNums (pieceOf l0 a1), (intSpec l0 a1).2.1 + (intSpec l0 a1).1, 0) else (⟨#[]⟩, 0, pieceErr l0 a1)) else none
set_option maxHeartbeats 4000000 in
set_option maxRecDepth 100000 in
theorem wire_Text.calls (A0 : Option Addr) (c0 : Nat) (l0 : List Int) (a1 : Int) (r1 : ByteArray) (r2 : Int) (r3 : Int) (w : World) (hr0 : Kd.C (Kd.int .u8) w A0 l0.length l0) (hc0 : l0.length ≤ c0) (h : wire_Text.f l0 a1 = some (r1, r2, r3)) :
    Calls Try.prog 18 #[.slice A0 l0.length c0, .int .i64 a1] w fun e w' => e = .returned (.tuple #[.string r1, .int .i64 r2, .int .i64 r3]) ∧ Drawn0 w w' := by
  unfold wire_Text.f at h
  by_cases hok : l0.length ≤ 1000000 ∧ (∀ c ∈ l0, 0 ≤ c ∧ c ≤ 255)
  · rw [if_pos hok] at h
    have h := Option.some.inj h
    by_cases he : pieceErr l0 a1 = 0
    · rw [if_pos he] at h
      simp only [Prod.mk.injEq] at h
      obtain ⟨rfl, rfl, rfl⟩ := h
      go_enter Try.func18, Try.ntmps18
      go_wp2_with fail
      refine (piece_good A0 c0 l0 a1 _ hr0 hc0 hok he).mono ?_
      rintro e w1 ⟨A', c', rfl, hl, hC, hd⟩
      have hcv := Kd.C_string (P := Try.prog) (src := 22) (dst := 9) (c := c') Try.underlying22 Try.underlying5 Try.underlying9 (Kd.C_below hC hd.below)
      have HD := Aside0.mk hd
      clear hC hd hl hr0 hc0 hok he
      go_wp2
      go_ret3
      exact ⟨rfl, HD.out⟩
    · rw [if_neg he] at h
      simp only [Prod.mk.injEq] at h
      obtain ⟨rfl, rfl, rfl⟩ := h
      go_enter Try.func18, Try.ntmps18
      go_wp2_with fail
      refine (piece_bad A0 c0 l0 a1 _ hr0 hc0 hok he).mono ?_
      rintro e w1 ⟨rfl, hd⟩
      have hcv : (Go.convert 22 9 (.slice none 0 0)).run Try.prog w1 = .ok (.string (⟨#[]⟩ : ByteArray)) w1 := Kd.C_string (P := Try.prog) (w := w1) (src := 22) (dst := 9) (c := 0) Try.underlying22 Try.underlying5 Try.underlying9 (Kd.C_nil (Kd.int .u8) w1)
      have HD := Aside0.mk hd
      clear hd hr0 hc0 hok he
      go_wp2
      go_ret3
      exact ⟨rfl, HD.out⟩
  · rw [if_neg hok] at h; cases h


/-! ### wire_Frame: function 22 -/
/-- the bytes behind a piece are its sum's -/
def sameAt (l : List Int) (at_ : Int) (q : List Int) : Bool := decide ((l.drop at_.toNat).take q.length = q)
def wire_Frame.f (k : Nat) (l0 : List Int) (a1 : Int) : Option (List Int × Int × Int) :=
  if l0.length ≤ 1000000 ∧ (∀ c ∈ l0, 0 ≤ c ∧ c ≤ 255) then
    (if pieceErr l0 a1 = 0 then
      (if (l0.length : Int) - ((intSpec l0 a1).2.1 + (intSpec l0 a1).1) < 4 then some ([], 0, 6) else
        (wire_Sum.f k (pieceOf l0 a1)).bind fun s => (wire_four.f s).bind fun q =>
          if q.length = 4 then (if sameAt l0 ((intSpec l0 a1).2.1 + (intSpec l0 a1).1) q = true then some (pieceOf l0 a1, (intSpec l0 a1).2.1 + (intSpec l0 a1).1 + 4, 0) else some ([], 0, 9)) else none)
    else some ([], 0, pieceErr l0 a1)) else none
theorem wire_Frame.mono : ∀ a0 a1 k, LeO (wire_Frame.f k a0 a1) (wire_Frame.f (k + 1) a0 a1) := by
  intro a0 a1 k
  unfold wire_Frame.f
  exact LeO.ite (LeO.ite (LeO.ite (LeO.refl _) (LeO.bind (wire_Sum.mono _ _) (fun _ => LeO.refl _))) (LeO.refl _)) (LeO.refl _)
set_option maxHeartbeats 4000000 in
set_option maxRecDepth 100000 in
theorem frame_err (A0 : Option Addr) (c0 : Nat) (l0 : List Int) (a1 : Int) (w : World) (hr0 : Kd.C (Kd.int .u8) w A0 l0.length l0) (hc0 : l0.length ≤ c0) (hok : l0.length ≤ 1000000 ∧ (∀ c ∈ l0, 0 ≤ c ∧ c ≤ 255)) (he : ¬ pieceErr l0 a1 = 0) :
    Calls Try.prog 22 #[.slice A0 l0.length c0, .int .i64 a1] w fun e w' => e = .returned (.tuple #[.slice none 0 0, .int .i64 0, .int .i64 (pieceErr l0 a1)]) ∧ Drawn0 w w' := by
  have hP := piece_bad A0 c0 l0 a1 w hr0 hc0 hok he
  generalize pieceErr l0 a1 = er at *
  have HP := Aside0.mk hP
  have hb : (er != 0) = true := bne_iff_ne.2 he
  clear hP hr0 hc0 hok he
  go_enter Try.func22, Try.ntmps22
  go_wp2_with fail
  refine HP.out.mono ?_
  rintro e w1 ⟨rfl, hd⟩
  have HD := Aside0.mk hd
  clear hd
  go_wp2
  go_ret3
  exact ⟨rfl, HD.out⟩
set_option maxHeartbeats 4000000 in
set_option maxRecDepth 100000 in
theorem frame_short (A0 : Option Addr) (c0 : Nat) (l0 : List Int) (a1 : Int) (w : World) (hr0 : Kd.C (Kd.int .u8) w A0 l0.length l0) (hc0 : l0.length ≤ c0) (hok : l0.length ≤ 1000000 ∧ (∀ c ∈ l0, 0 ≤ c ∧ c ≤ 255)) (he : pieceErr l0 a1 = 0) (hs : (l0.length : Int) - ((intSpec l0 a1).2.1 + (intSpec l0 a1).1) < 4) (hrange : 0 ≤ (intSpec l0 a1).2.1 + (intSpec l0 a1).1 ∧ (intSpec l0 a1).2.1 + (intSpec l0 a1).1 ≤ l0.length) :
    Calls Try.prog 22 #[.slice A0 l0.length c0, .int .i64 a1] w fun e w' => e = .returned (.tuple #[.slice none 0 0, .int .i64 0, .int .i64 6]) ∧ Drawn0 w w' := by
  have hP := piece_good A0 c0 l0 a1 w hr0 hc0 hok he
  generalize (intSpec l0 a1).2.1 + (intSpec l0 a1).1 = nx at *
  obtain ⟨hx0, hx1⟩ := hrange
  have hll := hok.1
  have HP := Aside0.mk hP
  clear hP hr0 hc0 hok he
  go_enter Try.func22, Try.ntmps22
  go_wp2_with fail
  refine HP.out.mono ?_
  rintro e w1 ⟨A', c', rfl, hl, hC, hd⟩
  have HD := Aside0.mk hd
  clear hd hC hl
  go_wp2
  go_ret3
  exact ⟨rfl, HD.out⟩
set_option maxHeartbeats 4000000 in
set_option maxRecDepth 100000 in
theorem frame_main (k : Nat) (A0 : Option Addr) (c0 : Nat) (l0 : List Int) (a1 : Int) (w : World) (hr0 : Kd.C (Kd.int .u8) w A0 l0.length l0) (hc0 : l0.length ≤ c0) (hok : l0.length ≤ 1000000 ∧ (∀ c ∈ l0, 0 ≤ c ∧ c ≤ 255)) (he : pieceErr l0 a1 = 0) (hs : ¬ (l0.length : Int) - ((intSpec l0 a1).2.1 + (intSpec l0 a1).1) < 4) (hrange : 0 ≤ (intSpec l0 a1).2.1 + (intSpec l0 a1).1 ∧ (intSpec l0 a1).2.1 + (intSpec l0 a1).1 ≤ l0.length) (s : Int) (q : List Int) (hsum : wire_Sum.f k (pieceOf l0 a1) = some s) (hq : wire_four.f s = some q) (hq4 : q.length = 4) (rb : List Int) (r2 r3 : Int) (hyes : sameAt l0 ((intSpec l0 a1).2.1 + (intSpec l0 a1).1) q = true → rb = pieceOf l0 a1 ∧ r2 = (intSpec l0 a1).2.1 + (intSpec l0 a1).1 + 4 ∧ r3 = 0) (hno : ¬ sameAt l0 ((intSpec l0 a1).2.1 + (intSpec l0 a1).1) q = true → rb = [] ∧ r2 = 0 ∧ r3 = 9) :
    Calls Try.prog 22 #[.slice A0 l0.length c0, .int .i64 a1] w fun e w' => ∃ v0_ : Value, e = .returned (.tuple #[v0_, .int .i64 r2, .int .i64 r3]) ∧ Kd.R (Kd.int .u8) 5 w' w.heap.size (fun _ => True) v0_ rb ∧ Below w.heap.size w w' := by
  have HR := Aside0.mk hr0
  have HC := Aside0.mk hc0
  have hplen : (pieceOf l0 a1).length ≤ l0.length := by unfold pieceOf; rw [List.length_drop, List.length_take]; omega
  have hll := hok.1
  have hP := piece_good A0 c0 l0 a1 w hr0 hc0 hok he
  generalize (intSpec l0 a1).2.1 + (intSpec l0 a1).1 = nx at *
  generalize pieceOf l0 a1 = p at *
  obtain ⟨hx0, hx1⟩ := hrange
  have HPG := Aside0.mk hP
  have HS := Aside0.mk hsum
  have HQ := Aside0.mk hq
  have HQ4 := Aside0.mk hq4
  have HY := Aside0.mk hyes
  have HN0 := Aside0.mk hno
  clear hP hr0 hc0 hok he hsum hq hq4 hyes hno
  go_enter Try.func22, Try.ntmps22
  go_wp2_with fail
  refine HPG.out.mono ?_
  rintro e w1 ⟨A', c', rfl, hl, hC, hd⟩
  have HB := Aside0.mk hd.below
  have HP := Aside0.mk (Kd.C_below hC hd.below)
  have HL := Aside0.mk hl
  clear hd hC hl
  go_wp2_with fail
  refine (wire_Sum.calls k A' c' p s _ HP.out HL.out HS.out).mono ?_
  rintro e w2 ⟨rfl, hd⟩
  have HB2 := Aside0.mk (below_step HB.out hd.below)
  have HP2 := Aside0.mk (Kd.C_below HP.out hd.below)
  clear hd HB HP
  go_wp2_with fail
  refine (wire_four.calls s q _ HQ.out).mono ?_
  rintro e w3 ⟨v, rfl, hR, hB⟩
  obtain ⟨Aq, cq, rfl, hql, hCq⟩ := Kd.R_reads hR
  have HB3 := Aside0.mk (below_step HB2.out hB)
  have HP3 := Aside0.mk (Kd.C_below HP2.out hB)
  have HQ3 := Aside0.mk hCq
  clear hR hB hql hCq HB2 HP2
  go_wp2_with fail
  go_loop [4, 5, 6, 28] (fun v4 v5 v6 v28 => ∃ i : Int, 0 ≤ i ∧ i ≤ 4 ∧ v28 = .int .i64 i ∧ v4 = .slice A' p.length c' ∧ v5 = .int .i64 nx ∧ v6 = .int .i64 0 ∧ Aside0 (∀ j : Nat, (j : Int) < i → rd l0 (nx + j) = rd q j)) (fun v4 v5 v6 v28 => 4 - (intOf v28).toNat)
  case atStart => exact ⟨0, by omega, by omega, rfl, rfl, rfl, rfl, ⟨fun j hj => by omega⟩⟩
  case round =>
    obtain ⟨i, hi0, hi1, rfl, rfl, rfl, rfl, HI⟩ := hrel
    have hqlen : (q.length : Int) = 4 := by have := HQ4.out; omega
    have HQL := Aside0.mk hqlen
    by_cases hlt : i < (q.length : Int)
    · obtain ⟨ad, e1, hcq⟩ := Kd.at_int HQ3.out i hi0 hlt
      cases e1
      have hC0 := Kd.C_below HR.out HB3.out
      obtain ⟨ad2, e2, hcl⟩ := Kd.at_int hC0 (nx + i) (by omega) (by omega)
      cases e2
      have hij : ∀ j : Nat, (j : Int) = i → (i + 0 = i) := fun _ _ => by omega
      clear hqlen hij hC0
      by_cases heq : rd l0 (nx + i) = rd q i
      · have t1 : (rd l0 (nx + i) != rd q i) = false := bne_eq_false_iff_eq.2 heq
        have hnext : ∀ j : Nat, (j : Int) < i + 1 → rd l0 (nx + j) = rd q j := by
          intro j hj
          by_cases hji : (j : Int) < i
          · exact HI.out j hji
          · have : (j : Int) = i := by omega
            rw [this]; exact heq
        have HN := Aside0.mk hnext
        have h4 : i < 4 := by have := HQL.out; omega
        clear heq hnext
        generalize rd l0 (nx + i) = x at *
        generalize rd q i = y at *
        go_wp2
        go_round
        case measure => show _ < _; simp [intOf]; omega
        case rel => exact ⟨i + 1, by omega, by omega, rfl, rfl, rfl, rfl, HN⟩
      · have t1 : (rd l0 (nx + i) != rd q i) = true := bne_iff_ne.2 heq
        have hne : ¬ sameAt l0 nx q = true := by
          intro hsm
          have h5 : (l0.drop nx.toNat).take q.length = q := of_decide_eq_true hsm
          apply heq
          have h6 := congrArg (fun z : List Int => z.getD i.toNat 0) h5
          simp only [List.getD_eq_getElem?_getD, List.getElem?_take, List.getElem?_drop] at h6
          rw [if_pos (by omega)] at h6
          unfold rd
          rw [List.getD_eq_getElem?_getD, List.getD_eq_getElem?_getD, show (nx + i).toNat = nx.toNat + i.toNat by omega]
          exact h6
        obtain ⟨rfl, rfl, rfl⟩ := HN0.out hne
        have h4 : i < 4 := by have := HQL.out; omega
        clear heq hne
        generalize rd l0 (nx + i) = x at *
        generalize rd q i = y at *
        go_wp2
        go_ret3
        exact ⟨.slice none 0 0, rfl, Kd.R_nil _ _ _ _ _, HB3.out⟩
    · have hsame : sameAt l0 nx q = true := by
        unfold sameAt
        refine decide_eq_true ?_
        apply List.ext_getElem?
        intro j
        by_cases hj : j < q.length
        · have h7 := HI.out j (by omega)
          unfold rd at h7
          rw [List.getD_eq_getElem?_getD, List.getD_eq_getElem?_getD, Int.toNat_natCast, show (nx + (j : Int)).toNat = nx.toNat + j by omega, List.getElem?_eq_getElem hj, List.getElem?_eq_getElem (by omega)] at h7
          rw [List.getElem?_take, if_pos hj, List.getElem?_drop, List.getElem?_eq_getElem hj, List.getElem?_eq_getElem (by omega)]
          simpa using h7
        · rw [List.getElem?_take, if_neg hj, List.getElem?_eq_none (by omega)]
      obtain ⟨h1_, rfl, rfl⟩ := HY.out hsame
      have h2_ := h1_.symm
      clear h1_
      subst h2_
      clear hsame hqlen
      have hplen2 : p.length ≤ 1000000 := by omega
      go_wp2_with fail
      have hrows : Kd.C (Kd.slice 5 (Kd.int .u8)) (w3.alloc (.cells #[.slice A' p.length c'] 22)) (some ⟨w3.heap.size, 0, none⟩) [p].length [p] := by
        refine rows_of _ _ _ [.slice A' p.length c'] (by simp) rfl ?_ ?_
        · intro j v hj
          match j, hj with
          | 0, hj => simp at hj; subst hj; simp
          | j + 1, hj => simp at hj
        · intro j p2 v hj hv
          match j, hj, hv with
          | 0, hj, hv => simp at hj hv; subst hj hv; exact ⟨_, _, rfl, HL.out, Kd.C_alloc HP3.out _⟩
          | j + 1, hj, hv => simp at hj
      refine (joined_any (some ⟨w3.heap.size, 0, none⟩) 1 [p] _ hrows (by simp) (by simp [slen]; omega)).mono ?_
      rintro e w4 ⟨v, rfl, hR4, hB4⟩
      have HR4 := Aside0.mk hR4
      have HB4 := Aside0.mk hB4
      clear hR4 hB4 hrows
      go_wp2
      go_ret3
      refine ⟨v, rfl, ?_, below_step (below_alloc HB3.out _) HB4.out⟩
      have := Kd.R_lower HR4.out (below_size (below_alloc HB3.out (.cells #[.slice A' p.length c'] 22)))
      simpa [flat] using this
theorem wire_Frame.calls (k : Nat) (A0 : Option Addr) (c0 : Nat) (l0 : List Int) (a1 : Int) (r1 : List Int) (r2 : Int) (r3 : Int) (w : World) (hr0 : Kd.C (Kd.int .u8) w A0 l0.length l0) (hc0 : l0.length ≤ c0) (h : wire_Frame.f k l0 a1 = some (r1, r2, r3)) :
    Calls Try.prog 22 #[.slice A0 l0.length c0, .int .i64 a1] w fun e w' => ∃ v0_ : Value, e = .returned (.tuple #[v0_, .int .i64 r2, .int .i64 r3]) ∧ Kd.R (Kd.int .u8) 5 w' w.heap.size (fun _ => True) v0_ r1 ∧ Below w.heap.size w w' := by
  unfold wire_Frame.f at h
  by_cases hok : l0.length ≤ 1000000 ∧ (∀ c ∈ l0, 0 ≤ c ∧ c ≤ 255)
  · rw [if_pos hok] at h
    by_cases he : pieceErr l0 a1 = 0
    · rw [if_pos he] at h
      have hrange : 0 ≤ (intSpec l0 a1).2.1 + (intSpec l0 a1).1 ∧ (intSpec l0 a1).2.1 + (intSpec l0 a1).1 ≤ l0.length := by
        have hin := int_next l0 a1
        unfold pieceErr at he
        by_cases h1 : (intSpec l0 a1).2.2 = 0
        · have := hin h1
          rw [if_neg (by simpa using h1)] at he
          by_cases h2 : (intSpec l0 a1).1 < 0
          · rw [if_pos h2] at he; omega
          · rw [if_neg h2] at he
            by_cases h3 : (intSpec l0 a1).1 > 65536
            · rw [if_pos h3] at he; omega
            · rw [if_neg h3] at he
              by_cases h4 : (l0.length : Int) - (intSpec l0 a1).2.1 < (intSpec l0 a1).1
              · rw [if_pos h4] at he; omega
              · omega
        · rw [if_pos h1] at he; exact absurd he h1
      by_cases hs : (l0.length : Int) - ((intSpec l0 a1).2.1 + (intSpec l0 a1).1) < 4
      · rw [if_pos hs] at h
        simp only [Option.some.injEq, Prod.mk.injEq] at h
        obtain ⟨rfl, rfl, rfl⟩ := h
        refine (frame_short A0 c0 l0 a1 w hr0 hc0 hok he hs hrange).mono ?_
        rintro e w1 ⟨rfl, hd⟩
        exact ⟨_, rfl, Kd.R_nil _ _ _ _ _, hd.below⟩
      · rw [if_neg hs] at h
        obtain ⟨s, hsum, h⟩ := Option.bind_eq_some_iff.1 h
        obtain ⟨q, hq, h⟩ := Option.bind_eq_some_iff.1 h
        by_cases hq4 : q.length = 4
        · rw [if_pos hq4] at h
          refine frame_main k A0 c0 l0 a1 w hr0 hc0 hok he hs hrange s q hsum hq hq4 r1 r2 r3 ?_ ?_
          · intro hsm
            rw [if_pos hsm] at h
            simp only [Option.some.injEq, Prod.mk.injEq] at h
            exact ⟨h.1.symm, h.2.1.symm, h.2.2.symm⟩
          · intro hsm
            rw [if_neg hsm] at h
            simp only [Option.some.injEq, Prod.mk.injEq] at h
            exact ⟨h.1.symm, h.2.1.symm, h.2.2.symm⟩
        · rw [if_neg hq4] at h; cases h
    · rw [if_neg he] at h
      simp only [Option.some.injEq, Prod.mk.injEq] at h
      obtain ⟨rfl, rfl, rfl⟩ := h
      refine (frame_err A0 c0 l0 a1 w hr0 hc0 hok he).mono ?_
      rintro e w1 ⟨rfl, hd⟩
      exact ⟨_, rfl, Kd.R_nil _ _ _ _ _, hd.below⟩
  · rw [if_neg hok] at h; cases h


end Go.Proofs.Ytnimfimcpjmbnaa.PWireBack
