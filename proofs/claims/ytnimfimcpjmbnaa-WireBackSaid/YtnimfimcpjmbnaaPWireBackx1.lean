/- Laid for this claim by a program of this session's (wip/mkprint.py, wip/ext.py); not trusted: Lean checks it. -/
import Derived.Test.YtnimfimcpjmbnaaPWireBackx0
namespace Go.Proofs.Ytnimfimcpjmbnaa.PWireBack
open Go.RowKit Go.Proofs.YtnimfimcpjmbnaaW.PrintWords Go.Proofs.YtnimfimcpjmbnaaW.PrintLast Go.Proofs.YtnimfimcpjmbnaaW.PrintMore
attribute [local go_sem] max2_int min2_int max_two min_two max_three min_three max_four min_four   -- for this text's walks alone
set_option linter.unusedVariables false
set_option linter.unusedSimpArgs false

/-! ### wire_joined: function 30 -/
theorem info_wire : (Try.prog.info? 5).map (fun i => (i.zero, i.size, i.bytes)) = some (some (.int .u8 0), 1, 1) := by kernel_rfl

def flat : List (List Int) → List Int
  | [] => []
  | a :: l => a ++ flat l
def slen : List (List Int) → Int
  | [] => 0
  | a :: l => a.length + slen l
theorem flat_append (a b : List (List Int)) : flat (a ++ b) = flat a ++ flat b := by
  induction a with
  | nil => rfl
  | cons x a ih => simp only [List.cons_append, flat, ih, List.append_assoc]
theorem slen_append (a b : List (List Int)) : slen (a ++ b) = slen a + slen b := by
  induction a with
  | nil => simp [slen]
  | cons x a ih => simp only [List.cons_append, slen, ih]; omega
theorem slen_flat (a : List (List Int)) : slen a = (flat a).length := by
  induction a with
  | nil => rfl
  | cons x a ih => simp only [slen, flat, ih, List.length_append]; omega
def rdr (xs : List (List Int)) (i : Int) : List Int := xs.getD i.toNat []
theorem take_rdr (l : List (List Int)) (i : Int) (h0 : 0 ≤ i) (h : i < l.length) : l.take (i + 1).toNat = l.take i.toNat ++ [rdr l i] := by
  rw [show (i + 1).toNat = i.toNat + 1 by omega, List.take_succ_eq_append_getElem (by omega)]
  unfold rdr
  rw [List.getD_eq_getElem?_getD, List.getElem?_eq_getElem (by omega)]
  rfl
theorem at_row {w : World} {A : Option Addr} {n : Nat} {xs : List (List Int)} (h : Kd.C (Kd.slice 5 (Kd.int .u8)) w A n xs) (i : Int) (h0 : 0 ≤ i) (h1 : i < n) : ∃ ad A0 c0, A = some ad ∧ w.cell? (ad.add i.toNat) = some (.slice A0 (rdr xs i).length c0) ∧ (rdr xs i).length ≤ c0 ∧ (Kd.int .u8).C w A0 (rdr xs i).length (rdr xs i) := by
  obtain ⟨ad, c, e, _, hK, hc0⟩ := Kd.C_get h ([] : List Int) i h0 h1
  have hc : ∀ j u, c[j]? = some u → w.cell? (ad.add (i.toNat * 1 + j)) = some u := hc0
  obtain ⟨A0, c0, rfl, l0, g0⟩ := hK
  exact ⟨ad, A0, c0, e, by have hq := hc 0 _ rfl; rwa [Nat.mul_one, Nat.add_zero] at hq, l0, g0⟩
theorem slen_take_le (l : List (List Int)) (i : Nat) : 0 ≤ slen (l.take i) ∧ slen (l.take i) ≤ slen l := by
  induction l generalizing i with
  | nil => simp [slen]
  | cons a l ih =>
    cases i with
    | zero => have := ih l.length; simp only [List.take_length, List.take_zero, slen] at *; omega
    | succ i => have := ih i; simp only [List.take_succ_cons, slen]; omega
set_option maxHeartbeats 4000000 in
set_option maxRecDepth 100000 in
theorem joined_any (A0 : Option Addr) (c0 : Nat) (l0 : List (List Int)) (w : World) (hr0 : Kd.C (Kd.slice 5 (Kd.int .u8)) w A0 l0.length l0) (hn : l0.length ≤ 100) (hs : slen l0 ≤ 1000000) :
    Calls Try.prog 30 #[.slice A0 l0.length c0] w fun e w' => ∃ v0_ : Value, e = .returned (v0_) ∧ Kd.R (Kd.int .u8) 5 w' w.heap.size (fun _ => True) v0_ (flat l0) ∧ Below w.heap.size w w' := by
  have HR := Aside0.mk hr0
  clear hr0
  go_enter Try.func30, Try.ntmps30
  go_wp2_with fail
  go_loop [3, 11] (fun v3 v11 => ∃ (i n : Int), 0 ≤ i ∧ i ≤ l0.length ∧ 0 ≤ n ∧ n ≤ 1000000 ∧ v11 = .int .i64 i ∧ v3 = .int .i64 n ∧ Aside0 (n = slen (l0.take i.toNat))) (fun _ v11 => l0.length - (intOf v11).toNat)
  case atStart => exact ⟨0, 0, by omega, by omega, by omega, by omega, rfl, rfl, ⟨by simp [slen]⟩⟩
  case round =>
    obtain ⟨i, n, h0, h1, hn0, hn1, rfl, rfl, HN⟩ := hrel
    by_cases hlt : i < (l0.length : Int)
    · obtain ⟨ad, B, cB, e1, hcell, _, _⟩ := at_row HR.out i h0 hlt
      cases e1
      have ht := take_rdr l0 i h0 hlt
      have hsn : slen (l0.take (i + 1).toNat) = n + (rdr l0 i).length := by rw [ht, slen_append, HN.out]; simp [slen]
      have hle := slen_take_le l0 (i + 1).toNat
      rw [hsn] at hle
      have HS := Aside0.mk hsn
      clear ht hsn
      generalize rdr l0 i = x at *
      go_wp2
      go_round
      case measure => show _ < _; simp [intOf]; omega
      case rel => exact ⟨i + 1, n + x.length, by omega, by omega, by omega, by omega, rfl, rfl, ⟨HS.out.symm⟩⟩
    · have hi : i.toNat = l0.length := by omega
      have hnn : n = slen l0 := by rw [HN.out, hi, List.take_length]
      obtain ⟨i5, hi5, hi5z⟩ := Option.map_eq_some_iff.1 info_wire
      simp only [Prod.mk.injEq] at hi5z
      have hmk : ∀ W : World, (Instr.makeSlice 22 (.int .i64 0) (.int .i64 n)).run Try.prog W = .ok (.slice (some ⟨W.heap.size, 0, none⟩) 0 n.toNat) (W.alloc (.cells (madeCells #[.int .u8 0] n.toNat) 5)) := by
        intro W
        have h := run_make (P := Try.prog) W 22 5 i5 (.int .u8 0) Try.underlying22 hi5 hi5z.1 .i64 .i64 0 n (by omega) (by omega) (by rw [hi5z.2.2]; omega) (by omega)
        rw [hi5z.2.1, Nat.mul_one] at h
        exact h
      clear hi5 hi5z hi HN
      have HN := Aside0.mk hnn
      clear hnn
      go_wp2_with fail
      have hown := World.ownsRow_made (base := w.heap.size) (e := 5) (size := 1) w (madeCells #[.int .u8 0] n.toNat) n.toNat (Nat.le_refl _) (by unfold maxLen; omega) (by simp [size_madeCells])
      have hR0 : Kd.R (Kd.int .u8) 5 (w.alloc (.cells (madeCells #[.int .u8 0] n.toNat) 5)) w.heap.size (fun _ => True) (.slice (some ⟨w.heap.size, 0, none⟩) 0 n.toNat) [] :=
        Kd.R_of_own (by simpa [encs, nums] using hown) (fun _ _ => trivial)
      have HB : Aside0 (Below w.heap.size w (w.alloc (.cells (madeCells #[.int .u8 0] n.toNat) 5))) := ⟨below_alloc (Below.refl _ _) _⟩
      clear hown hmk
      go_loopw [6, 24] (fun v6 v24 wr => ∃ j : Int, 0 ≤ j ∧ j ≤ l0.length ∧ v24 = .int .i64 j ∧ Aside0 (Kd.R (Kd.int .u8) 5 wr w.heap.size (fun _ => True) v6 (flat (l0.take j.toNat))) ∧ Aside0 (Below w.heap.size w wr)) (fun _ v24 _ => l0.length - (intOf v24).toNat)
      case atStart => exact ⟨0, by omega, by omega, rfl, ⟨by simpa [flat] using hR0⟩, HB⟩
      case round =>
        clear HB hR0
        obtain ⟨j, hj0, hj1, rfl, HO, HB⟩ := hrel
        by_cases hlt2 : j < (l0.length : Int)
        · obtain ⟨ad, B, cB, e1, hcell, hle, hC⟩ := at_row (Kd.C_below HR.out HB.out) j hj0 hlt2
          cases e1
          have ht := take_rdr l0 j hj0 hlt2
          have hfl : flat (l0.take (j + 1).toNat) = flat (l0.take j.toNat) ++ rdr l0 j := by rw [ht, flat_append]; simp [flat]
          have hsl := slen_take_le l0 (j + 1).toNat
          rw [slen_flat, hfl, List.length_append] at hsl
          have HF := Aside0.mk hfl
          have HL := Aside0.mk hsl
          have HC := Aside0.mk hC
          clear ht hfl hsl hle hC
          go_wp2_with (first | ((with_reducible refine gate_builtin (b := .append) (xs := #[.tmp 28, .tmp 29]) rfl ?_); at_builtin; refine Kd.R_append_row (Value.int .u8) (0 : Int) (w0 := w) w.heap.size rfl (.tmp 28) (.tmp 29) 22 5 (.int .u8 0) 1 rfl Try.underlying22 info_wire rfl (by decide) _ _ (rdr l0 j) B (rdr l0 j).length cB (fun _ => True) rfl rfl ?aF HO.out HC.out HB.out ?aS ?aL ?_; (case aF => intro _ _; trivial); (case aS => exact below_size HB.out); (case aL => have := HL.out; omega); intro v7 w7 ho hb hg hat; have m4 := Aside0.mk ho; have mb := Aside0.mk hb; clear ho hb hg hat))
          go_roundw
          case measure => show _ < _; simp [intOf]; omega
          case rel => exact ⟨j + 1, by omega, by omega, rfl, ⟨by rw [HF.out]; exact m4.out⟩, mb⟩
        · have hj : j.toNat = l0.length := by omega
          have hO := HO.out
          rw [hj, List.take_length] at hO
          have HO2 := Aside0.mk hO
          clear hj hO HO
          go_wp2
          go_ret
          exact ⟨_, rfl, HO2.out, HB.out⟩

theorem rows_of (W : World) (b : Nat) (ls : List (List Int)) (vs : List Value) (hn : ls.length ≤ 100) (hl : vs.length = ls.length) (hcells : ∀ (j : Nat) (v : Value), vs[j]? = some v → W.cell? ⟨b, j, none⟩ = some v)
    (hv : ∀ (j : Nat) (p : List Int) (v : Value), ls[j]? = some p → vs[j]? = some v → ∃ A c, v = Value.slice A p.length c ∧ p.length ≤ c ∧ (Kd.int .u8).C W A p.length p) : Kd.C (Kd.slice 5 (Kd.int .u8)) W (some ⟨b, 0, none⟩) ls.length ls := by
  refine ⟨rfl, by omega, fun _ => ⟨_, rfl, fun j p hj => ?_⟩⟩
  have hjl : j < ls.length := (List.getElem?_eq_some_iff.1 hj).1
  obtain ⟨v, hv1⟩ : ∃ v, vs[j]? = some v := ⟨_, List.getElem?_eq_getElem (by omega)⟩
  obtain ⟨A, c, rfl, hc, hC⟩ := hv j p v hj hv1
  refine ⟨[.slice A p.length c], rfl, ⟨A, c, rfl, hc, hC⟩, fun i u hu => ?_⟩
  have hi : i = 0 := by
    cases i with
    | zero => rfl
    | succ i => simp at hu
  subst hi
  simp only [List.getElem?_cons_zero, Option.some.injEq] at hu
  subst hu
  show W.cell? (Addr.add ⟨b, 0, none⟩ (j * 1 + 0)) = _
  rw [Nat.mul_one, Nat.add_zero, add_plain]
  exact hcells j _ hv1

def wire_joined.f (l0 : List (List Int)) : Option (List Int) := if l0.length ≤ 100 ∧ slen l0 ≤ 1000000 then some (flat l0) else none


/-! ### bits_Len64: function 37 -/
def len64 (x : Int) : Int := if x = 0 then 0 else ((Nat.log2 x.toNat + 1 : Nat) : Int)
theorem log2_shift (n c : Nat) (h : 0 < n / 2 ^ c) : Nat.log2 n = c + Nat.log2 (n / 2 ^ c) := by
  have hp : 0 < 2 ^ c := Nat.pow_pos (by decide)
  have hn : n ≠ 0 := by rintro rfl; simp at h
  have hm : n / 2 ^ c ≠ 0 := by omega
  apply Nat.le_antisymm
  · have h1 : n / 2 ^ c < 2 ^ (Nat.log2 (n / 2 ^ c) + 1) := (Nat.log2_lt hm).1 (Nat.lt_succ_self _)
    have h2 : n < 2 ^ (c + Nat.log2 (n / 2 ^ c) + 1) := by
      rw [Nat.add_assoc, Nat.pow_add, Nat.mul_comm]
      exact (Nat.div_lt_iff_lt_mul hp).1 h1
    have := (Nat.log2_lt hn).2 h2
    omega
  · have h1 : 2 ^ Nat.log2 (n / 2 ^ c) ≤ n / 2 ^ c := (Nat.le_log2 hm).1 (Nat.le_refl _)
    have h2 : 2 ^ (c + Nat.log2 (n / 2 ^ c)) ≤ n := by
      rw [Nat.pow_add, Nat.mul_comm]
      exact (Nat.le_div_iff_mul_le hp).1 h1
    exact (Nat.le_log2 hn).2 h2
theorem len_shift (x : Int) (c : Nat) (h0 : 0 ≤ x) (h : 0 < x / 2 ^ c) : len64 x = c + len64 (x / 2 ^ c) := by
  have hp : (0 : Int) < 2 ^ c := Int.pow_pos (by decide)
  have hx : ¬ x = 0 := by rintro rfl; simp at h
  have e : (x / 2 ^ c).toNat = x.toNat / 2 ^ c := by
    have h1 : x / 2 ^ c = ((x.toNat / 2 ^ c : Nat) : Int) := by
      rw [Int.natCast_ediv, Int.toNat_of_nonneg h0]; simp
    rw [h1, Int.toNat_natCast]
  unfold len64
  rw [if_neg hx, if_neg (by omega), e, log2_shift x.toNat c (by omega)]
  omega
theorem len32 (x : Int) (h0 : 0 ≤ x) (h : 4294967296 ≤ x) : len64 x = 32 + len64 (x / 4294967296) := len_shift x 32 h0 (by show 0 < x / 4294967296; omega)
theorem len16 (x : Int) (h0 : 0 ≤ x) (h : 65536 ≤ x) : len64 x = 16 + len64 (x / 65536) := len_shift x 16 h0 (by show 0 < x / 65536; omega)
theorem len8 (x : Int) (h0 : 0 ≤ x) (h : 256 ≤ x) : len64 x = 8 + len64 (x / 256) := len_shift x 8 h0 (by show 0 < x / 256; omega)
set_option maxRecDepth 100000 in
theorem len_tab : ∀ t : Fin 256, bt (⟨([0, 1, 2, 2, 3, 3, 3, 3, 4, 4, 4, 4, 4, 4, 4, 4, 5, 5, 5, 5, 5, 5, 5, 5, 5, 5, 5, 5, 5, 5, 5, 5, 6, 6, 6, 6, 6, 6, 6, 6, 6, 6, 6, 6, 6, 6, 6, 6, 6, 6, 6, 6, 6, 6, 6, 6, 6, 6, 6, 6, 6, 6, 6, 6, 7, 7, 7, 7, 7, 7, 7, 7, 7, 7, 7, 7, 7, 7, 7, 7, 7, 7, 7, 7, 7, 7, 7, 7, 7, 7, 7, 7, 7, 7, 7, 7, 7, 7, 7, 7, 7, 7, 7, 7, 7, 7, 7, 7, 7, 7, 7, 7, 7, 7, 7, 7, 7, 7, 7, 7, 7, 7, 7, 7, 7, 7, 7, 7, 8, 8, 8, 8, 8, 8, 8, 8, 8, 8, 8, 8, 8, 8, 8, 8, 8, 8, 8, 8, 8, 8, 8, 8, 8, 8, 8, 8, 8, 8, 8, 8, 8, 8, 8, 8, 8, 8, 8, 8, 8, 8, 8, 8, 8, 8, 8, 8, 8, 8, 8, 8, 8, 8, 8, 8, 8, 8, 8, 8, 8, 8, 8, 8, 8, 8, 8, 8, 8, 8, 8, 8, 8, 8, 8, 8, 8, 8, 8, 8, 8, 8, 8, 8, 8, 8, 8, 8, 8, 8, 8, 8, 8, 8, 8, 8, 8, 8, 8, 8, 8, 8, 8, 8, 8, 8, 8, 8, 8, 8, 8, 8, 8, 8, 8, 8, 8, 8, 8, 8, 8, 8, 8, 8, 8, 8, 8, 8] : List UInt8).toArray⟩ : ByteArray) (t.val : Int) = len64 (t.val : Int) := by decide +kernel
set_option maxRecDepth 100000 in
theorem len_end (w : World) (x c t : Int) (h : t.toNat < ((⟨([0, 1, 2, 2, 3, 3, 3, 3, 4, 4, 4, 4, 4, 4, 4, 4, 5, 5, 5, 5, 5, 5, 5, 5, 5, 5, 5, 5, 5, 5, 5, 5, 6, 6, 6, 6, 6, 6, 6, 6, 6, 6, 6, 6, 6, 6, 6, 6, 6, 6, 6, 6, 6, 6, 6, 6, 6, 6, 6, 6, 6, 6, 6, 6, 7, 7, 7, 7, 7, 7, 7, 7, 7, 7, 7, 7, 7, 7, 7, 7, 7, 7, 7, 7, 7, 7, 7, 7, 7, 7, 7, 7, 7, 7, 7, 7, 7, 7, 7, 7, 7, 7, 7, 7, 7, 7, 7, 7, 7, 7, 7, 7, 7, 7, 7, 7, 7, 7, 7, 7, 7, 7, 7, 7, 7, 7, 7, 7, 8, 8, 8, 8, 8, 8, 8, 8, 8, 8, 8, 8, 8, 8, 8, 8, 8, 8, 8, 8, 8, 8, 8, 8, 8, 8, 8, 8, 8, 8, 8, 8, 8, 8, 8, 8, 8, 8, 8, 8, 8, 8, 8, 8, 8, 8, 8, 8, 8, 8, 8, 8, 8, 8, 8, 8, 8, 8, 8, 8, 8, 8, 8, 8, 8, 8, 8, 8, 8, 8, 8, 8, 8, 8, 8, 8, 8, 8, 8, 8, 8, 8, 8, 8, 8, 8, 8, 8, 8, 8, 8, 8, 8, 8, 8, 8, 8, 8, 8, 8, 8, 8, 8, 8, 8, 8, 8, 8, 8, 8, 8, 8, 8, 8, 8, 8, 8, 8, 8, 8, 8, 8, 8, 8, 8, 8, 8, 8] : List UInt8).toArray⟩ : ByteArray) : ByteArray).size) (h0 : 0 ≤ t) (hc : 0 ≤ c) (hc2 : c ≤ 100) (hx : len64 x = c + len64 t) : Ending.returned (.int .i64 (wrap64 (c + wrap64 (((⟨([0, 1, 2, 2, 3, 3, 3, 3, 4, 4, 4, 4, 4, 4, 4, 4, 5, 5, 5, 5, 5, 5, 5, 5, 5, 5, 5, 5, 5, 5, 5, 5, 6, 6, 6, 6, 6, 6, 6, 6, 6, 6, 6, 6, 6, 6, 6, 6, 6, 6, 6, 6, 6, 6, 6, 6, 6, 6, 6, 6, 6, 6, 6, 6, 7, 7, 7, 7, 7, 7, 7, 7, 7, 7, 7, 7, 7, 7, 7, 7, 7, 7, 7, 7, 7, 7, 7, 7, 7, 7, 7, 7, 7, 7, 7, 7, 7, 7, 7, 7, 7, 7, 7, 7, 7, 7, 7, 7, 7, 7, 7, 7, 7, 7, 7, 7, 7, 7, 7, 7, 7, 7, 7, 7, 7, 7, 7, 7, 8, 8, 8, 8, 8, 8, 8, 8, 8, 8, 8, 8, 8, 8, 8, 8, 8, 8, 8, 8, 8, 8, 8, 8, 8, 8, 8, 8, 8, 8, 8, 8, 8, 8, 8, 8, 8, 8, 8, 8, 8, 8, 8, 8, 8, 8, 8, 8, 8, 8, 8, 8, 8, 8, 8, 8, 8, 8, 8, 8, 8, 8, 8, 8, 8, 8, 8, 8, 8, 8, 8, 8, 8, 8, 8, 8, 8, 8, 8, 8, 8, 8, 8, 8, 8, 8, 8, 8, 8, 8, 8, 8, 8, 8, 8, 8, 8, 8, 8, 8, 8, 8, 8, 8, 8, 8, 8, 8, 8, 8, 8, 8, 8, 8, 8, 8, 8, 8, 8, 8, 8, 8, 8, 8, 8, 8, 8, 8] : List UInt8).toArray⟩ : ByteArray)[t.toNat]'h).toNat : Int)))) = .returned (.int .i64 (len64 x)) := by
  have hb := bt_at (⟨([0, 1, 2, 2, 3, 3, 3, 3, 4, 4, 4, 4, 4, 4, 4, 4, 5, 5, 5, 5, 5, 5, 5, 5, 5, 5, 5, 5, 5, 5, 5, 5, 6, 6, 6, 6, 6, 6, 6, 6, 6, 6, 6, 6, 6, 6, 6, 6, 6, 6, 6, 6, 6, 6, 6, 6, 6, 6, 6, 6, 6, 6, 6, 6, 7, 7, 7, 7, 7, 7, 7, 7, 7, 7, 7, 7, 7, 7, 7, 7, 7, 7, 7, 7, 7, 7, 7, 7, 7, 7, 7, 7, 7, 7, 7, 7, 7, 7, 7, 7, 7, 7, 7, 7, 7, 7, 7, 7, 7, 7, 7, 7, 7, 7, 7, 7, 7, 7, 7, 7, 7, 7, 7, 7, 7, 7, 7, 7, 8, 8, 8, 8, 8, 8, 8, 8, 8, 8, 8, 8, 8, 8, 8, 8, 8, 8, 8, 8, 8, 8, 8, 8, 8, 8, 8, 8, 8, 8, 8, 8, 8, 8, 8, 8, 8, 8, 8, 8, 8, 8, 8, 8, 8, 8, 8, 8, 8, 8, 8, 8, 8, 8, 8, 8, 8, 8, 8, 8, 8, 8, 8, 8, 8, 8, 8, 8, 8, 8, 8, 8, 8, 8, 8, 8, 8, 8, 8, 8, 8, 8, 8, 8, 8, 8, 8, 8, 8, 8, 8, 8, 8, 8, 8, 8, 8, 8, 8, 8, 8, 8, 8, 8, 8, 8, 8, 8, 8, 8, 8, 8, 8, 8, 8, 8, 8, 8, 8, 8, 8, 8, 8, 8, 8, 8, 8, 8] : List UInt8).toArray⟩ : ByteArray) t h
  have hr := bt_range (⟨([0, 1, 2, 2, 3, 3, 3, 3, 4, 4, 4, 4, 4, 4, 4, 4, 5, 5, 5, 5, 5, 5, 5, 5, 5, 5, 5, 5, 5, 5, 5, 5, 6, 6, 6, 6, 6, 6, 6, 6, 6, 6, 6, 6, 6, 6, 6, 6, 6, 6, 6, 6, 6, 6, 6, 6, 6, 6, 6, 6, 6, 6, 6, 6, 7, 7, 7, 7, 7, 7, 7, 7, 7, 7, 7, 7, 7, 7, 7, 7, 7, 7, 7, 7, 7, 7, 7, 7, 7, 7, 7, 7, 7, 7, 7, 7, 7, 7, 7, 7, 7, 7, 7, 7, 7, 7, 7, 7, 7, 7, 7, 7, 7, 7, 7, 7, 7, 7, 7, 7, 7, 7, 7, 7, 7, 7, 7, 7, 8, 8, 8, 8, 8, 8, 8, 8, 8, 8, 8, 8, 8, 8, 8, 8, 8, 8, 8, 8, 8, 8, 8, 8, 8, 8, 8, 8, 8, 8, 8, 8, 8, 8, 8, 8, 8, 8, 8, 8, 8, 8, 8, 8, 8, 8, 8, 8, 8, 8, 8, 8, 8, 8, 8, 8, 8, 8, 8, 8, 8, 8, 8, 8, 8, 8, 8, 8, 8, 8, 8, 8, 8, 8, 8, 8, 8, 8, 8, 8, 8, 8, 8, 8, 8, 8, 8, 8, 8, 8, 8, 8, 8, 8, 8, 8, 8, 8, 8, 8, 8, 8, 8, 8, 8, 8, 8, 8, 8, 8, 8, 8, 8, 8, 8, 8, 8, 8, 8, 8, 8, 8, 8, 8, 8, 8, 8, 8] : List UInt8).toArray⟩ : ByteArray) t
  have ht : t.toNat < 256 := h
  have h2 := len_tab ⟨t.toNat, ht⟩
  simp only [Int.toNat_of_nonneg h0] at h2
  rw [h2] at hr
  rw [hb, h2]
  clear hb h2
  have e1 : wrap64 (len64 t) = len64 t := by unfold wrap64; omega
  have e2 : wrap64 (c + len64 t) = c + len64 t := by unfold wrap64; omega
  rw [e1, e2, hx]
set_option maxRecDepth 100000 in
theorem len_end0 (w : World) (t : Int) (h : t.toNat < ((⟨([0, 1, 2, 2, 3, 3, 3, 3, 4, 4, 4, 4, 4, 4, 4, 4, 5, 5, 5, 5, 5, 5, 5, 5, 5, 5, 5, 5, 5, 5, 5, 5, 6, 6, 6, 6, 6, 6, 6, 6, 6, 6, 6, 6, 6, 6, 6, 6, 6, 6, 6, 6, 6, 6, 6, 6, 6, 6, 6, 6, 6, 6, 6, 6, 7, 7, 7, 7, 7, 7, 7, 7, 7, 7, 7, 7, 7, 7, 7, 7, 7, 7, 7, 7, 7, 7, 7, 7, 7, 7, 7, 7, 7, 7, 7, 7, 7, 7, 7, 7, 7, 7, 7, 7, 7, 7, 7, 7, 7, 7, 7, 7, 7, 7, 7, 7, 7, 7, 7, 7, 7, 7, 7, 7, 7, 7, 7, 7, 8, 8, 8, 8, 8, 8, 8, 8, 8, 8, 8, 8, 8, 8, 8, 8, 8, 8, 8, 8, 8, 8, 8, 8, 8, 8, 8, 8, 8, 8, 8, 8, 8, 8, 8, 8, 8, 8, 8, 8, 8, 8, 8, 8, 8, 8, 8, 8, 8, 8, 8, 8, 8, 8, 8, 8, 8, 8, 8, 8, 8, 8, 8, 8, 8, 8, 8, 8, 8, 8, 8, 8, 8, 8, 8, 8, 8, 8, 8, 8, 8, 8, 8, 8, 8, 8, 8, 8, 8, 8, 8, 8, 8, 8, 8, 8, 8, 8, 8, 8, 8, 8, 8, 8, 8, 8, 8, 8, 8, 8, 8, 8, 8, 8, 8, 8, 8, 8, 8, 8, 8, 8, 8, 8, 8, 8, 8, 8] : List UInt8).toArray⟩ : ByteArray) : ByteArray).size) (h0 : 0 ≤ t) : Ending.returned (.int .i64 (wrap64 (wrap64 (((⟨([0, 1, 2, 2, 3, 3, 3, 3, 4, 4, 4, 4, 4, 4, 4, 4, 5, 5, 5, 5, 5, 5, 5, 5, 5, 5, 5, 5, 5, 5, 5, 5, 6, 6, 6, 6, 6, 6, 6, 6, 6, 6, 6, 6, 6, 6, 6, 6, 6, 6, 6, 6, 6, 6, 6, 6, 6, 6, 6, 6, 6, 6, 6, 6, 7, 7, 7, 7, 7, 7, 7, 7, 7, 7, 7, 7, 7, 7, 7, 7, 7, 7, 7, 7, 7, 7, 7, 7, 7, 7, 7, 7, 7, 7, 7, 7, 7, 7, 7, 7, 7, 7, 7, 7, 7, 7, 7, 7, 7, 7, 7, 7, 7, 7, 7, 7, 7, 7, 7, 7, 7, 7, 7, 7, 7, 7, 7, 7, 8, 8, 8, 8, 8, 8, 8, 8, 8, 8, 8, 8, 8, 8, 8, 8, 8, 8, 8, 8, 8, 8, 8, 8, 8, 8, 8, 8, 8, 8, 8, 8, 8, 8, 8, 8, 8, 8, 8, 8, 8, 8, 8, 8, 8, 8, 8, 8, 8, 8, 8, 8, 8, 8, 8, 8, 8, 8, 8, 8, 8, 8, 8, 8, 8, 8, 8, 8, 8, 8, 8, 8, 8, 8, 8, 8, 8, 8, 8, 8, 8, 8, 8, 8, 8, 8, 8, 8, 8, 8, 8, 8, 8, 8, 8, 8, 8, 8, 8, 8, 8, 8, 8, 8, 8, 8, 8, 8, 8, 8, 8, 8, 8, 8, 8, 8, 8, 8, 8, 8, 8, 8, 8, 8, 8, 8, 8, 8] : List UInt8).toArray⟩ : ByteArray)[t.toNat]'h).toNat : Int)))) = .returned (.int .i64 (len64 t)) := by
  have := len_end w t 0 t h h0 (by omega) (by omega) (by omega)
  rwa [Int.zero_add] at this
def bits_Len64.f (a0 : Int) : Option Int := if 0 ≤ a0 ∧ a0 ≤ 18446744073709551615 then some (len64 a0) else none
set_option maxHeartbeats 4000000 in
set_option maxRecDepth 100000 in
theorem len_walk (x : Int) (w : World) (hx : 0 ≤ x) (hx2 : x ≤ 18446744073709551615) :
    Calls Try.prog 37 #[.int .u64 x] w fun e w' => e = .returned (.int .i64 (len64 x)) ∧ Drawn0 w w' := by
  go_enter Try.func37, Try.ntmps37
  go_wp2
  all_goals go_ret
  all_goals refine ⟨?_, Drawn0.refl _⟩
  all_goals first
    | exact len_end0 w _ _ (by omega)
    | (refine len_end w x _ _ _ (by omega) (by decide) (by decide) ?_; first
        | exact len32 x hx ‹_›
        | exact len16 x hx ‹_›
        | exact len8 x hx ‹_›
        | (rw [len32 x hx ‹_›, len16 (x / 4294967296) (by omega) ‹_›, len8 (x / 4294967296 / 65536) (by omega) ‹_›]; omega)
        | (rw [len32 x hx ‹_›, len16 (x / 4294967296) (by omega) ‹_›]; omega)
        | (rw [len32 x hx ‹_›, len8 (x / 4294967296) (by omega) ‹_›]; omega)
        | (rw [len16 x hx ‹_›, len8 (x / 65536) (by omega) ‹_›]; omega))
theorem bits_Len64.calls (a0 : Int) (r : Int) (w : World) (h : bits_Len64.f a0 = some r) :
    Calls Try.prog 37 #[.int .u64 a0] w fun e w' => e = .returned (.int .i64 r) ∧ Drawn0 w w' := by
  unfold bits_Len64.f at h
  by_cases hc : 0 ≤ a0 ∧ a0 ≤ 18446744073709551615
  · rw [if_pos hc] at h
    obtain rfl := Option.some.inj h
    exact len_walk a0 w hc.1 hc.2
  · rw [if_neg hc] at h; cases h


/-! ### wire_code: function 31 -/
def LenPost (w : World) (e : Ending) (w' : World) : Prop := ∃ r : Int, 0 ≤ r ∧ r ≤ 400 ∧ e = .returned (.int .i64 r) ∧ Drawn0 w w'
theorem len_post (w : World) (c : Int) (b : UInt8) (h : 0 ≤ c) (h2 : c ≤ 100) : LenPost w (.returned (.int .i64 (wrap64 (c + wrap64 (b.toNat : Int))))) w := by
  have hb : b.toNat < 256 := b.toNat_lt
  have e1 : wrap64 (b.toNat : Int) = b.toNat := by unfold wrap64; omega
  have e2 : wrap64 (c + (b.toNat : Int)) = c + b.toNat := by unfold wrap64; omega
  rw [e1, e2]
  exact ⟨_, by omega, by omega, rfl, Drawn0.refl _⟩
theorem len_post0 (w : World) (b : UInt8) : LenPost w (.returned (.int .i64 (wrap64 (wrap64 (b.toNat : Int))))) w := by
  have := len_post w 0 b (by omega) (by omega)
  rwa [Int.zero_add] at this
set_option maxHeartbeats 4000000 in
set_option maxRecDepth 100000 in
theorem len_any (x : Int) (w : World) (hx : 0 ≤ x) (hx2 : x ≤ 18446744073709551615) :
    Calls Try.prog 37 #[.int .u64 x] w (LenPost w) := by
  go_enter Try.func37, Try.ntmps37
  go_wp2
  all_goals go_ret
  all_goals first | exact len_post _ _ _ (by decide) (by decide) | exact len_post0 _ _

def zz (n : Int) : Int := if n < 0 then -2 * n - 1 else n * 2
def wcode : Nat → Int → List Int
  | 0, u => [u]
  | f + 1, u => if u > 127 then (u % 128 + 128) :: wcode f (u / 128) else [u]
theorem info_wire1 : (Try.prog.info? 5).map (fun i => (i.zero, i.size, i.bytes)) = some (some (.int .u8 0), 1, 1) := by kernel_rfl
theorem or128_all : ∀ x : Fin 256, Go.bits .or .u8 (x.val : Int) 128 = (x.val : Int) % 128 + 128 := by decide +kernel
theorem or128 (u : Int) : Go.bits .or .u8 (u % 256) 128 = u % 128 + 128 := by
  have h := or128_all ⟨(u % 256).toNat, by omega⟩
  simp only [Int.toNat_of_nonneg (Int.emod_nonneg u (by decide : (256 : Int) ≠ 0))] at h
  omega
theorem zz_range (n : Int) (h : -9223372036854775808 ≤ n) (h2 : n ≤ 9223372036854775807) : 0 ≤ zz n ∧ zz n ≤ 18446744073709551615 := by
  unfold zz; split <;> omega
theorem wcode_len (f : Nat) : ∀ u, 0 < (wcode f u).length ∧ (wcode f u).length ≤ f + 1 := by
  induction f with
  | zero => intro u; simp [wcode]
  | succ f ih =>
    intro u
    simp only [wcode]
    split
    · have := ih (u / 128); simp only [List.length_cons]; omega
    · simp
theorem bits_or1 (x : Int) (h : 0 ≤ x) (h2 : x ≤ 18446744073709551615) : 0 ≤ Go.bits .or .u64 x 1 ∧ Go.bits .or .u64 x 1 ≤ 18446744073709551615 := by
  have h1 := bits_or_u64_nat x.toNat 1 (by omega) (by omega)
  rw [Int.toNat_of_nonneg h] at h1
  have h3 : x.toNat ||| 1 < 2 ^ 64 := Nat.or_lt_two_pow (by omega) (by omega)
  have e : Go.bits .or .u64 x 1 = ((x.toNat ||| 1 : Nat) : Int) := h1
  rw [e]; omega
set_option maxHeartbeats 4000000 in
set_option maxRecDepth 100000 in
theorem code_pos (n : Int) (w : World) (hn : 0 ≤ n) (hn2 : n ≤ 9223372036854775807) :
    Calls Try.prog 31 #[.int .i64 n] w fun e w' => ∃ v0_ : Value, e = .returned (v0_) ∧ Kd.R (Kd.int .u8) 5 w' w.heap.size (fun _ => True) v0_ (wcode 9 (n * 2)) ∧ Below w.heap.size w w' := by
  have hd : decide (n < 0) = false := decide_eq_false (by omega)
  have hb0 : 0 ≤ Go.bits .or .u64 (n * 2) 1 ∧ Go.bits .or .u64 (n * 2) 1 ≤ 18446744073709551615 := by
    exact bits_or1 (n * 2) (by omega) (by omega)
  go_enter Try.func31, Try.ntmps31
  go_wp2_with fail
  refine (len_any _ _ hb0.1 hb0.2).mono ?_
  rintro e w1 ⟨r, hr0, hr1, rfl, hdr⟩
  generalize Go.bits .or .u64 (n * 2) 1 = y at *
  clear hb0
  obtain ⟨i5, hi5, hi5z⟩ := Option.map_eq_some_iff.1 info_wire1
  simp only [Prod.mk.injEq] at hi5z
  have hmk : ∀ W : World, (Instr.makeSlice 22 (.int .i64 0) (.int .i64 ((r + 6) / 7))).run Try.prog W = .ok (.slice (some ⟨W.heap.size, 0, none⟩) 0 ((r + 6) / 7).toNat) (W.alloc (.cells (madeCells #[.int .u8 0] ((r + 6) / 7).toNat) 5)) := by
    intro W
    have h := run_make (P := Try.prog) W 22 5 i5 (.int .u8 0) Try.underlying22 hi5 hi5z.1 .i64 .i64 0 ((r + 6) / 7) (by omega) (by omega) (by rw [hi5z.2.2]; omega) (by omega)
    rw [hi5z.2.1, Nat.mul_one] at h
    exact h
  clear hi5 hi5z
  go_wp2_with fail
  have hown := World.ownsRow_made (base := w.heap.size) (e := 5) (size := 1) w1 (madeCells #[.int .u8 0] ((r + 6) / 7).toNat) ((r + 6) / 7).toNat hdr.below.size (by unfold maxLen; omega) (by simp [size_madeCells])
  have hR0 : Kd.R (Kd.int .u8) 5 (w1.alloc (.cells (madeCells #[.int .u8 0] ((r + 6) / 7).toNat) 5)) w.heap.size (fun _ => True) (.slice (some ⟨w1.heap.size, 0, none⟩) 0 ((r + 6) / 7).toNat) [] :=
    Kd.R_of_own (by simpa [encs, nums] using hown) (fun _ _ => trivial)
  have HB := Aside0.mk (below_alloc hdr.below (.cells (madeCells #[.int .u8 0] ((r + 6) / 7).toNat) 5))
  clear hown hmk hdr
  go_loopw [3, 4] (fun v3 v4 wr => ∃ (f : Nat) (u : Int) (done : List Int), 0 ≤ u ∧ u ≤ 18446744073709551615 ∧ f ≤ 9 ∧ v3 = .int .u64 u ∧ Aside0 (u < 128 ^ (f + 1)) ∧ Aside0 (done ++ wcode f u = wcode 9 (n * 2)) ∧ Aside0 (Kd.R (Kd.int .u8) 5 wr w.heap.size (fun _ => True) v4 done) ∧ Aside0 (Below w.heap.size w wr)) (fun v3 _ _ => (intOf v3).toNat)
  case atStart => exact ⟨9, _, [], by omega, by omega, by omega, rfl, ⟨by show _ < (1180591620717411303424 : Int); omega⟩, ⟨rfl⟩, ⟨hR0⟩, HB⟩
  case round =>
    clear HB hR0
    obtain ⟨f, u, done, hu0, hu1, hf, rfl, HU, HD, HO, HB⟩ := hrel
    have hdl : done.length ≤ 10 := by
      have h1 := congrArg List.length HD.out
      have h2 := wcode_len 9 (n * 2)
      rw [List.length_append] at h1
      omega
    have HL := Aside0.mk hdl
    clear hdl
    by_cases hgt : u > 127
    · have hw : Go.bits .or .u8 (u % 256) 128 = u % 128 + 128 := or128 u
      have HW := Aside0.mk hw
      clear hw
      obtain ⟨f, rfl⟩ : ∃ m, f = m + 1 := by
        cases f with
        | zero => have := HU.out; simp at this; omega
        | succ f => exact ⟨f, rfl⟩
      have hstep : (done ++ [Go.bits .or .u8 (u % 256) 128]) ++ wcode f (u / 128) = wcode 9 (n * 2) := by
        rw [HW.out, ← HD.out]
        simp only [wcode, if_pos hgt, List.append_assoc, List.singleton_append]
      have HS := Aside0.mk hstep
      have hpow : u / 128 < 128 ^ (f + 1) := by
        have h1 := HU.out
        rw [Int.pow_succ] at h1
        omega
      have HP := Aside0.mk hpow
      clear hstep hpow
      go_wp2_with (first | ((with_reducible refine gate_builtin (b := .append) (xs := #[.tmp 20, .tmp 24]) rfl ?_); at_builtin; refine Kd.R_append (Kd.int .u8) (w0 := w) w.heap.size rfl (.tmp 20) (.tmp 24) 22 5 (.int .u8 0) 1 rfl Try.underlying22 info_wire1 rfl (by decide) (by omega) _ _ (Go.bits .or .u8 (u % 256) 128) [.int .u8 (Go.bits .or .u8 (u % 256) 128)] (fun _ => True) (fun _ => False) rfl rfl ?aP (fun _ hk => hk.elim) ?aF HO.out HB.out ?aS ?aL ?_; (case aP => exact rfl); (case aF => intro _ _; trivial); (case aS => exact below_size HB.out); (case aL => have := HL.out; omega); intro v6 w6 ho hb hg hat; have m4 := Aside0.mk ho; have mb := Aside0.mk hb; clear ho hb hg hat))
      go_roundw
      case measure => show _ < _; simp [intOf]; omega
      case rel => exact ⟨f, u / 128, done ++ [Go.bits .or .u8 (u % 256) 128], by omega, by omega, by omega, rfl, HP, HS, m4, mb⟩
    · have hend : done ++ [u] = wcode 9 (n * 2) := by
        rw [← HD.out]
        cases f with
        | zero => rfl
        | succ f => simp only [wcode, if_neg hgt]
      have HE := Aside0.mk hend
      clear hend
      have hc : u % 256 = u := by omega
      have HC := Aside0.mk hc
      clear hc
      go_wp2_with (first | ((with_reducible refine gate_builtin (b := .append) (xs := #[.tmp 28, .tmp 31]) rfl ?_); at_builtin; refine Kd.R_append (Kd.int .u8) (w0 := w) w.heap.size rfl (.tmp 28) (.tmp 31) 22 5 (.int .u8 0) 1 rfl Try.underlying22 info_wire1 rfl (by decide) (by omega) _ _ u [.int .u8 u] (fun _ => True) (fun _ => False) rfl rfl ?aP (fun _ hk => hk.elim) ?aF HO.out HB.out ?aS ?aL ?_; (case aP => exact rfl); (case aF => intro _ _; trivial); (case aS => exact below_size HB.out); (case aL => have := HL.out; omega); intro v6 w6 ho hb hg hat; have m4 := Aside0.mk ho; have mb := Aside0.mk hb; clear ho hb hg hat))
      go_ret
      exact ⟨_, rfl, by rw [← HE.out]; exact m4.out, mb.out⟩
set_option maxHeartbeats 4000000 in
set_option maxRecDepth 100000 in
theorem code_neg (n : Int) (w : World) (hn : n < 0) (hn2 : -9223372036854775808 ≤ n) :
    Calls Try.prog 31 #[.int .i64 n] w fun e w' => ∃ v0_ : Value, e = .returned (v0_) ∧ Kd.R (Kd.int .u8) 5 w' w.heap.size (fun _ => True) v0_ (wcode 9 (-2 * n - 1)) ∧ Below w.heap.size w w' := by
  have hd : decide (n < 0) = true := decide_eq_true (by omega)
  have hx : Go.bits .xor .u64 IntKind.u64.max (IntKind.u64.wrap (IntKind.u64.wrap n * 2)) = -2 * n - 1 := by
    rw [Lib.zigzag_neg hn2 hn]
    unfold Lib.zigzag
    split <;> omega
  have hb0 := bits_or1 (-2 * n - 1) (by omega) (by omega)
  obtain ⟨z, hz⟩ : ∃ z, z = -2 * n - 1 := ⟨_, rfl⟩
  have hz0 : 0 ≤ z := by omega
  have hz1 : z ≤ 18446744073709551615 := by omega
  rw [← hz] at hx hb0
  have HZ := Aside0.mk hz
  clear hz
  go_enter Try.func31, Try.ntmps31
  go_wp2_with fail
  refine (len_any _ _ hb0.1 hb0.2).mono ?_
  rintro e w1 ⟨r, hr0, hr1, rfl, hdr⟩
  generalize Go.bits .or .u64 z 1 = y at *
  clear hb0
  obtain ⟨i5, hi5, hi5z⟩ := Option.map_eq_some_iff.1 info_wire1
  simp only [Prod.mk.injEq] at hi5z
  have hmk : ∀ W : World, (Instr.makeSlice 22 (.int .i64 0) (.int .i64 ((r + 6) / 7))).run Try.prog W = .ok (.slice (some ⟨W.heap.size, 0, none⟩) 0 ((r + 6) / 7).toNat) (W.alloc (.cells (madeCells #[.int .u8 0] ((r + 6) / 7).toNat) 5)) := by
    intro W
    have h := run_make (P := Try.prog) W 22 5 i5 (.int .u8 0) Try.underlying22 hi5 hi5z.1 .i64 .i64 0 ((r + 6) / 7) (by omega) (by omega) (by rw [hi5z.2.2]; omega) (by omega)
    rw [hi5z.2.1, Nat.mul_one] at h
    exact h
  clear hi5 hi5z
  go_wp2_with fail
  have hown := World.ownsRow_made (base := w.heap.size) (e := 5) (size := 1) w1 (madeCells #[.int .u8 0] ((r + 6) / 7).toNat) ((r + 6) / 7).toNat hdr.below.size (by unfold maxLen; omega) (by simp [size_madeCells])
  have hR0 : Kd.R (Kd.int .u8) 5 (w1.alloc (.cells (madeCells #[.int .u8 0] ((r + 6) / 7).toNat) 5)) w.heap.size (fun _ => True) (.slice (some ⟨w1.heap.size, 0, none⟩) 0 ((r + 6) / 7).toNat) [] :=
    Kd.R_of_own (by simpa [encs, nums] using hown) (fun _ _ => trivial)
  have HB := Aside0.mk (below_alloc hdr.below (.cells (madeCells #[.int .u8 0] ((r + 6) / 7).toNat) 5))
  clear hown hmk hdr
  go_loopw [3, 4] (fun v3 v4 wr => ∃ (f : Nat) (u : Int) (done : List Int), 0 ≤ u ∧ u ≤ 18446744073709551615 ∧ f ≤ 9 ∧ v3 = .int .u64 u ∧ Aside0 (u < 128 ^ (f + 1)) ∧ Aside0 (done ++ wcode f u = wcode 9 z) ∧ Aside0 (Kd.R (Kd.int .u8) 5 wr w.heap.size (fun _ => True) v4 done) ∧ Aside0 (Below w.heap.size w wr)) (fun v3 _ _ => (intOf v3).toNat)
  case atStart => exact ⟨9, _, [], by omega, by omega, by omega, rfl, ⟨by show _ < (1180591620717411303424 : Int); omega⟩, ⟨rfl⟩, ⟨hR0⟩, HB⟩
  case round =>
    clear HB hR0
    obtain ⟨f, u, done, hu0, hu1, hf, rfl, HU, HD, HO, HB⟩ := hrel
    have hdl : done.length ≤ 10 := by
      have h1 := congrArg List.length HD.out
      have h2 := wcode_len 9 z
      rw [List.length_append] at h1
      omega
    have HL := Aside0.mk hdl
    clear hdl
    by_cases hgt : u > 127
    · have hw : Go.bits .or .u8 (u % 256) 128 = u % 128 + 128 := or128 u
      have HW := Aside0.mk hw
      clear hw
      obtain ⟨f, rfl⟩ : ∃ m, f = m + 1 := by
        cases f with
        | zero => have := HU.out; simp at this; omega
        | succ f => exact ⟨f, rfl⟩
      have hstep : (done ++ [Go.bits .or .u8 (u % 256) 128]) ++ wcode f (u / 128) = wcode 9 z := by
        rw [HW.out, ← HD.out]
        simp only [wcode, if_pos hgt, List.append_assoc, List.singleton_append]
      have HS := Aside0.mk hstep
      have hpow : u / 128 < 128 ^ (f + 1) := by
        have h1 := HU.out
        rw [Int.pow_succ] at h1
        omega
      have HP := Aside0.mk hpow
      clear hstep hpow
      go_wp2_with (first | ((with_reducible refine gate_builtin (b := .append) (xs := #[.tmp 20, .tmp 24]) rfl ?_); at_builtin; refine Kd.R_append (Kd.int .u8) (w0 := w) w.heap.size rfl (.tmp 20) (.tmp 24) 22 5 (.int .u8 0) 1 rfl Try.underlying22 info_wire1 rfl (by decide) (by omega) _ _ (Go.bits .or .u8 (u % 256) 128) [.int .u8 (Go.bits .or .u8 (u % 256) 128)] (fun _ => True) (fun _ => False) rfl rfl ?aP (fun _ hk => hk.elim) ?aF HO.out HB.out ?aS ?aL ?_; (case aP => exact rfl); (case aF => intro _ _; trivial); (case aS => exact below_size HB.out); (case aL => have := HL.out; omega); intro v6 w6 ho hb hg hat; have m4 := Aside0.mk ho; have mb := Aside0.mk hb; clear ho hb hg hat))
      go_roundw
      case measure => show _ < _; simp [intOf]; omega
      case rel => exact ⟨f, u / 128, done ++ [Go.bits .or .u8 (u % 256) 128], by omega, by omega, by omega, rfl, HP, HS, m4, mb⟩
    · have hend : done ++ [u] = wcode 9 z := by
        rw [← HD.out]
        cases f with
        | zero => rfl
        | succ f => simp only [wcode, if_neg hgt]
      have HE := Aside0.mk hend
      clear hend
      have hc : u % 256 = u := by omega
      have HC := Aside0.mk hc
      clear hc
      go_wp2_with (first | ((with_reducible refine gate_builtin (b := .append) (xs := #[.tmp 28, .tmp 31]) rfl ?_); at_builtin; refine Kd.R_append (Kd.int .u8) (w0 := w) w.heap.size rfl (.tmp 28) (.tmp 31) 22 5 (.int .u8 0) 1 rfl Try.underlying22 info_wire1 rfl (by decide) (by omega) _ _ u [.int .u8 u] (fun _ => True) (fun _ => False) rfl rfl ?aP (fun _ hk => hk.elim) ?aF HO.out HB.out ?aS ?aL ?_; (case aP => exact rfl); (case aF => intro _ _; trivial); (case aS => exact below_size HB.out); (case aL => have := HL.out; omega); intro v6 w6 ho hb hg hat; have m4 := Aside0.mk ho; have mb := Aside0.mk hb; clear ho hb hg hat))
      go_ret
      exact ⟨_, rfl, by rw [← HZ.out, ← HE.out]; exact m4.out, mb.out⟩
theorem code_any (n : Int) (w : World) (h : -9223372036854775808 ≤ n) (h2 : n ≤ 9223372036854775807) :
    Calls Try.prog 31 #[.int .i64 n] w fun e w' => ∃ v0_ : Value, e = .returned (v0_) ∧ Kd.R (Kd.int .u8) 5 w' w.heap.size (fun _ => True) v0_ (wcode 9 (zz n)) ∧ Below w.heap.size w w' := by
  unfold zz
  by_cases hn : n < 0
  · rw [if_pos hn]; exact code_neg n w hn h
  · rw [if_neg hn]; exact code_pos n w (by omega) h2


/-! ### wire_PutInt: function 11 -/
def wire_PutInt.f (l0 : List Int) (a1 : Int) : Option (List Int) := if l0.length ≤ 900000 ∧ -9223372036854775808 ≤ a1 ∧ a1 ≤ 9223372036854775807 then some (l0 ++ wcode 9 (zz a1)) else none
set_option maxHeartbeats 4000000 in
set_option maxRecDepth 100000 in
theorem wire_PutInt.calls (A0 : Option Addr) (c0 : Nat) (l0 : List Int) (a1 : Int) (r : List Int) (w : World) (hr0 : Kd.C (Kd.int .u8) w A0 l0.length l0) (hc0 : l0.length ≤ c0) (h : wire_PutInt.f l0 a1 = some r) :
    Calls Try.prog 11 #[.slice A0 l0.length c0, .int .i64 a1] w fun e w' => ∃ v0_ : Value, e = .returned (v0_) ∧ Kd.R (Kd.int .u8) 5 w' w.heap.size (fun _ => True) v0_ r ∧ Below w.heap.size w w' := by
  unfold wire_PutInt.f at h
  by_cases hc : l0.length ≤ 900000 ∧ -9223372036854775808 ≤ a1 ∧ a1 ≤ 9223372036854775807
  · rw [if_pos hc] at h
    have H := Aside0.mk (Option.some.inj h)
    obtain ⟨hl, hi0, hi1⟩ := hc
    have HR := Aside0.mk hr0
    have HC := Aside0.mk hc0
    clear h hr0 hc0
    go_enter Try.func11, Try.ntmps11
    go_wp2_with fail
    refine (code_any a1 _ hi0 hi1).mono ?_
    rintro e w1 ⟨v, rfl, hR, hB⟩
    have hwl := wcode_len 9 (zz a1)
    obtain ⟨Ac, cc, rfl, hcl, hCc⟩ := Kd.R_reads hR
    have HRC := Aside0.mk (⟨hcl, hCc⟩ : (wcode 9 (zz a1)).length ≤ cc ∧ Kd.C (Kd.int .u8) w1 Ac (wcode 9 (zz a1)).length (wcode 9 (zz a1)))
    have HB := Aside0.mk hB
    clear hR hB hcl hCc
    generalize wcode 9 (zz a1) = cd at *
    go_wp2_with fail
    have hrows : Kd.C (Kd.slice 5 (Kd.int .u8)) (w1.alloc (.cells #[.slice A0 l0.length c0, .slice Ac cd.length cc] 22)) (some ⟨w1.heap.size, 0, none⟩) [l0, cd].length [l0, cd] := by
      refine rows_of _ _ _ [.slice A0 l0.length c0, .slice Ac cd.length cc] (by simp) rfl ?_ ?_
      · intro j v hj
        match j, hj with
        | 0, hj => simp at hj; subst hj; simp
        | 1, hj => simp at hj; subst hj; simp
        | j + 2, hj => simp at hj
      · intro j p v hj hv
        match j, hj, hv with
        | 0, hj, hv => simp at hj hv; subst hj hv; exact ⟨_, _, rfl, HC.out, Kd.C_alloc (Kd.C_below HR.out HB.out) _⟩
        | 1, hj, hv => simp at hj hv; subst hj hv; exact ⟨_, _, rfl, HRC.out.1, Kd.C_alloc HRC.out.2 _⟩
        | j + 2, hj, hv => simp at hj
    refine (joined_any (some ⟨w1.heap.size, 0, none⟩) 2 [l0, cd] _ hrows (by simp) (by simp [slen]; omega)).mono ?_
    rintro e w2 ⟨v, rfl, hR2, hB2⟩
    have HR2 := Aside0.mk hR2
    have HB2 := Aside0.mk hB2
    clear hR2 hB2 hrows
    go_wp2
    go_ret
    refine ⟨v, rfl, ?_, below_step (below_alloc HB.out _) HB2.out⟩
    have := Kd.R_lower HR2.out (below_size (below_alloc HB.out (.cells #[.slice A0 l0.length c0, .slice Ac cd.length cc] 22)))
    rw [← H.out]
    simpa [flat] using this
  · rw [if_neg hc] at h; cases h


end Go.Proofs.Ytnimfimcpjmbnaa.PWireBack
