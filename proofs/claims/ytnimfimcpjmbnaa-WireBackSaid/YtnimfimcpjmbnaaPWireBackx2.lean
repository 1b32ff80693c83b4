/- Laid for this claim by a program of this session's (wip/mkprint.py, wip/ext.py); not trusted: Lean checks it. -/
import Derived.Test.YtnimfimcpjmbnaaPWireBackx0
import Derived.Test.YtnimfimcpjmbnaaPWireBackx1
namespace Go.Proofs.Ytnimfimcpjmbnaa.PWireBack
open Go.RowKit Go.Proofs.YtnimfimcpjmbnaaW.PrintWords Go.Proofs.YtnimfimcpjmbnaaW.PrintLast Go.Proofs.YtnimfimcpjmbnaaW.PrintMore
attribute [local go_sem] max2_int min2_int max_two min_two max_three min_three max_four min_four   -- for this text's walks alone
set_option linter.unusedVariables false
set_option linter.unusedSimpArgs false

/-! ### wire_Int: function 12 -/
/-- how many bytes ahead are 128 or more -/
def stopAt : List Int → Nat
  | [] => 0
  | c :: l => if c < 128 then 0 else stopAt l + 1
theorem stop_le (l : List Int) : stopAt l ≤ l.length := by
  induction l with
  | nil => simp [stopAt]
  | cons c l ih => simp only [stopAt]; split <;> simp only [List.length_cons] <;> omega
theorem stop_before (l : List Int) : ∀ j, j < stopAt l → ¬ l.getD j 0 < 128 := by
  induction l with
  | nil => intro j h; simp [stopAt] at h
  | cons c l ih =>
    intro j h
    simp only [stopAt] at h
    by_cases hc : c < 128
    · rw [if_pos hc] at h; omega
    · rw [if_neg hc] at h
      cases j with
      | zero => simpa using hc
      | succ j => simpa using ih j (by omega)
theorem stop_at (l : List Int) (h : stopAt l < l.length) : l.getD (stopAt l) 0 < 128 := by
  induction l with
  | nil => simp at h
  | cons c l ih =>
    simp only [stopAt] at h ⊢
    by_cases hc : c < 128
    · rw [if_pos hc]; simpa using hc
    · rw [if_neg hc] at h ⊢
      simpa using ih (by simpa using h)
theorem rd_drop (l : List Int) (a : Int) (j : Nat) (h : 0 ≤ a) : rd l (a + j) = (l.drop a.toNat).getD j 0 := by
  unfold rd
  rw [List.getD_eq_getElem?_getD, List.getD_eq_getElem?_getD, List.getElem?_drop, show (a + (j : Int)).toNat = a.toNat + j by omega]
set_option maxHeartbeats 4000000 in
set_option maxRecDepth 100000 in
theorem int_short (A0 : Option Addr) (c0 : Nat) (l0 : List Int) (a1 : Int) (w : World) (hr0 : Kd.C (Kd.int .u8) w A0 l0.length l0) (hc0 : l0.length ≤ c0) (h0 : 0 ≤ a1) (h1 : a1 ≤ l0.length) (hl : l0.length ≤ 1000000) (hs : stopAt (l0.drop a1.toNat) = (l0.drop a1.toNat).length) :
    Calls Try.prog 12 #[.slice A0 l0.length c0, .int .i64 a1] w fun e w' => e = .returned (.tuple #[.int .i64 0, .int .i64 0, .int .i64 6]) ∧ Drawn0 w w' := by
  have d1 : decide (a1 < 0) = false := decide_eq_false (by omega)
  have d2 : decide ((l0.length : Int) < a1) = false := decide_eq_false (by omega)
  have HR := Aside0.mk hr0
  have HC := Aside0.mk hc0
  have HS := Aside0.mk hs
  clear hr0 hc0 hs
  go_enter Try.func12, Try.ntmps12
  go_wp2_with fail
  go_step3
  go_wp2_with fail
  go_step3
  go_wp2_with fail
  go_loop [7] (fun v7 => ∃ e : Int, a1 ≤ e ∧ e ≤ l0.length ∧ v7 = .int .i64 e) (fun v7 => l0.length - (intOf v7).toNat)
  case atStart => exact ⟨a1, by omega, by omega, rfl⟩
  case round =>
    obtain ⟨e, he0, he1, rfl⟩ := hrel
    by_cases hlt : e < (l0.length : Int)
    · obtain ⟨ad, e1, hcell⟩ := Kd.at_int HR.out e (by omega) hlt
      cases e1
      have hge : ¬ rd l0 e < 128 := by
        have h2 := stop_before (l0.drop a1.toNat) (e - a1).toNat (by rw [HS.out, List.length_drop]; omega)
        rwa [← rd_drop l0 a1 _ h0, show a1 + (((e - a1).toNat : Nat) : Int) = e by omega] at h2
      have d3 : decide (rd l0 e < 128) = false := decide_eq_false hge
      have d4 : (e == (l0.length : Int)) = false := beq_eq_false_iff_ne.2 (by omega)
      clear hge
      go_wp2
      go_round
      case measure => show _ < _; simp [intOf]; omega
      case rel => exact ⟨e + 1, by omega, by omega, rfl⟩
    · have d4 : (e == (l0.length : Int)) = true := beq_iff_eq.2 (by omega)
      go_wp2
      (try rw [Exit.noGoto_ret])
      go_ret3
      exact ⟨rfl, Drawn0.refl _⟩
/-- the bytes' value, the lowest seven bits first -/
def uval : List Int → Int
  | [] => 0
  | c :: l => c % 128 + 128 * uval l
def intSpec (l : List Int) (a : Int) : Int × Int × Int :=
  if a < 0 ∨ a > l.length then (0, 0, 2) else
  if stopAt (l.drop a.toNat) = (l.drop a.toNat).length then (0, 0, 6) else
  if (rd l (a + stopAt (l.drop a.toNat)) = 0 ∧ 0 < stopAt (l.drop a.toNat)) ∨ 9 < stopAt (l.drop a.toNat) ∨ (stopAt (l.drop a.toNat) = 9 ∧ 1 < rd l (a + stopAt (l.drop a.toNat))) then (0, 0, 5) else
  (if uval ((l.drop a.toNat).take (stopAt (l.drop a.toNat) + 1)) % 2 = 1 then -(uval ((l.drop a.toNat).take (stopAt (l.drop a.toNat) + 1)) / 2) - 1 else uval ((l.drop a.toNat).take (stopAt (l.drop a.toNat) + 1)) / 2, a + stopAt (l.drop a.toNat) + 1, 0)

set_option maxHeartbeats 4000000 in
set_option maxRecDepth 100000 in
theorem int_form (A0 : Option Addr) (c0 : Nat) (l0 : List Int) (a1 : Int) (w : World) (hr0 : Kd.C (Kd.int .u8) w A0 l0.length l0) (hc0 : l0.length ≤ c0) (h0 : 0 ≤ a1) (h1 : a1 ≤ l0.length) (hl : l0.length ≤ 1000000) (m : Nat) (hm : stopAt (l0.drop a1.toNat) = m) (hs : m < (l0.drop a1.toNat).length) (HT : (rd l0 (a1 + m) = 0 ∧ 0 < m) ∨ 9 < m ∨ (m = 9 ∧ 1 < rd l0 (a1 + m))) (hnn : 0 ≤ rd l0 (a1 + m)) :
    Calls Try.prog 12 #[.slice A0 l0.length c0, .int .i64 a1] w fun e w' => e = .returned (.tuple #[.int .i64 0, .int .i64 0, .int .i64 5]) ∧ Drawn0 w w' := by
  have d1 : decide (a1 < 0) = false := decide_eq_false (by omega)
  have d2 : decide ((l0.length : Int) < a1) = false := decide_eq_false (by omega)
  have hml : a1 + m < (l0.length : Int) := by rw [List.length_drop] at hs; omega
  have HR := Aside0.mk hr0
  have HC := Aside0.mk hc0
  have HS := Aside0.mk hs
  have HM := Aside0.mk hm
  clear hr0 hc0 hs hm
  go_enter Try.func12, Try.ntmps12
  go_wp2_with fail
  go_step3
  go_wp2_with fail
  go_step3
  go_wp2_with fail
  go_loop [7] (fun v7 => ∃ e : Int, a1 ≤ e ∧ e ≤ a1 + m ∧ v7 = .int .i64 e) (fun v7 => l0.length - (intOf v7).toNat)
  case atStart => exact ⟨a1, by omega, by omega, rfl⟩
  case round =>
    obtain ⟨e, he0, he1, rfl⟩ := hrel
    have hlt : e < (l0.length : Int) := by omega
    obtain ⟨ad, e1, hcell⟩ := Kd.at_int HR.out e (by omega) hlt
    cases e1
    have d4 : (e == (l0.length : Int)) = false := beq_eq_false_iff_ne.2 (by omega)
    by_cases hem : e < a1 + m
    · have hge : ¬ rd l0 e < 128 := by
        have h2 := stop_before (l0.drop a1.toNat) (e - a1).toNat (by rw [HM.out]; omega)
        rwa [← rd_drop l0 a1 _ h0, show a1 + (((e - a1).toNat : Nat) : Int) = e by omega] at h2
      have d3 : decide (rd l0 e < 128) = false := decide_eq_false hge
      clear hge
      go_wp2
      go_round
      case measure => show _ < _; simp [intOf]; omega
      case rel => exact ⟨e + 1, by omega, by omega, rfl⟩
    · have hee : e = a1 + m := by omega
      have hlt2 : rd l0 e < 128 := by
        have h2 := stop_at (l0.drop a1.toNat) (by rw [HM.out]; exact HS.out)
        rwa [HM.out, ← rd_drop l0 a1 _ h0, ← hee] at h2
      have d3 : decide (rd l0 e < 128) = true := decide_eq_true hlt2
      have HE := Aside0.mk hee
      clear hee hlt2 he1 hem
      obtain ⟨i5, hi5, hi5z⟩ := Option.map_eq_some_iff.1 info_wire
      simp only [Prod.mk.injEq] at hi5z
      have hcut := cut_mid (P := Try.prog) 22 5 .i64 .i64 Try.underlying22 hi5 1 hi5z.2.1 (some ad) l0.length c0 a1 (e + 1) h0 (by omega) (by omega) HC.out
      have hmid := Kd.C_mid (lo := a1.toNat) (hi := (e + 1).toNat) HR.out (by omega) (by omega) HC.out
      have hseg : (l0.take (e + 1).toNat).drop a1.toNat = (l0.drop a1.toNat).take (m + 1) := by
        rw [List.drop_take]; congr 1; have := HE.out; omega
      rw [hseg] at hmid
      have hlen : ((l0.drop a1.toNat).take (m + 1)).length = m + 1 := by rw [List.length_take, List.length_drop]; omega
      have hln : (e + 1).toNat - a1.toNat = ((l0.drop a1.toNat).take (m + 1)).length := by rw [hlen]; have := HE.out; omega
      rw [hln] at hcut
      have hrd : ∀ j : Nat, j < m + 1 → rd ((l0.drop a1.toNat).take (m + 1)) j = rd l0 (a1 + j) := by
        intro j hj
        rw [rd_drop l0 a1 j h0]
        unfold rd
        rw [Int.toNat_natCast, List.getD_eq_getElem?_getD, List.getD_eq_getElem?_getD, List.getElem?_take, if_pos hj]
      obtain ⟨ds, hds⟩ : ∃ ds, ds = (l0.drop a1.toNat).take (m + 1) := ⟨_, rfl⟩
      rw [← hds] at hcut hmid hlen hrd
      have hlast : rd ds ((ds.length : Int) - 1) = rd l0 (a1 + m) := by
        rw [← hrd m (by omega), show ((ds.length : Int) - 1) = (m : Int) by omega]
      rw [← hlast] at HT hnn
      have HM1 : Kd.C (Kd.int .u8) w (if c0 = a1.toNat then some ad else (some ad).map (·.add (a1.toNat * 1))) ds.length ds := hmid
      obtain ⟨A', hA'⟩ : ∃ A', A' = (if c0 = a1.toNat then some ad else (some ad).map (·.add (a1.toNat * 1))) := ⟨_, rfl⟩
      rw [← hA'] at hcut HM1
      have HDS := Aside0.mk hds
      have HLEN := Aside0.mk hlen
      have HCD := Aside0.mk HM1
      have hdl1 : ds.length ≤ 1000000 := by omega
      have hdl0 : 0 < ds.length := by omega
      clear hds hlen hmid hseg hln hrd hA' HM1 hi5 hi5z hlast
      obtain ⟨ad2, e2, hcell2⟩ := Kd.at_int HCD.out ((ds.length : Int) - 1) (by omega) (by omega)
      cases e2
      rw [show ((ds.length : Int) - 1).toNat = ds.length - 1 by omega] at hcell2
      generalize rd ds ((ds.length : Int) - 1) = c at *
      have hcases : ((c == 0) = true ∧ 1 < (ds.length : Int)) ∨ ((c == 0) = false ∧ 10 < (ds.length : Int)) ∨ ((c == 0) = false ∧ 10 ≤ (ds.length : Int) ∧ (ds.length : Int) ≤ 10 ∧ 1 < c) := by
        have h5 := HLEN.out
        by_cases hc0 : c = 0
        · left; exact ⟨beq_iff_eq.2 hc0, by omega⟩
        · right
          by_cases h10 : 10 < ds.length
          · left; exact ⟨beq_eq_false_iff_ne.2 hc0, by omega⟩
          · right; exact ⟨beq_eq_false_iff_ne.2 hc0, by omega, by omega, by omega⟩
      clear HT hnn
      rcases hcases with ⟨t1, t2⟩ | ⟨t1, t3⟩ | ⟨t1, t3, t4, t5⟩
      all_goals go_wp2
      all_goals (try rw [Exit.noGoto_ret])
      all_goals go_ret3
      all_goals exact ⟨rfl, Drawn0.refl _⟩

theorem and127_all : ∀ x : Fin 256, Go.bits .and .u8 (x.val : Int) 127 = (x.val : Int) % 128 := by decide +kernel
theorem or7 (u x : Int) (k : Nat) (hu : 0 ≤ u) (hu2 : u < 2 ^ k) (hx : 0 ≤ x) (hx2 : x ≤ 255) (hk : k ≤ 56 ∨ (k = 63 ∧ x ≤ 1)) :
    Go.bits .or .u64 u (IntKind.u64.wrap (IntKind.u64.wrap (Go.bits .and .u8 x 127) * 2 ^ k)) = u + 2 ^ k * (x % 128) := by
  have h1 := and127_all ⟨x.toNat, by omega⟩
  simp only [Int.toNat_of_nonneg hx] at h1
  rw [h1]
  have e1 : IntKind.u64.wrap (x % 128) = x % 128 := by rw [IntKind.wrap_u64]; omega
  rw [e1]
  obtain ⟨y, hy⟩ : ∃ y : Nat, x % 128 = (y : Int) := ⟨(x % 128).toNat, by omega⟩
  obtain ⟨v, hv⟩ : ∃ v : Nat, u = (v : Int) := ⟨u.toNat, by omega⟩
  have hy2 : y ≤ 127 := by omega
  have hp : ((2 ^ k : Nat) : Int) = (2 : Int) ^ k := by simp
  have hvk : v < 2 ^ k := by rw [hv, ← hp] at hu2; exact Int.ofNat_lt.1 hu2
  have hb : y * 2 ^ k < 18446744073709551616 := by
    rcases hk with hk | ⟨hk, hx1⟩
    · have h2 : 2 ^ k ≤ 2 ^ 56 := Nat.pow_le_pow_right (by decide) hk
      have h3 : y * 2 ^ k ≤ 127 * 2 ^ 56 := Nat.mul_le_mul hy2 h2
      omega
    · have hy1 : y ≤ 1 := by omega
      rw [hk]
      have h3 : y * 2 ^ 63 ≤ 1 * 2 ^ 63 := Nat.mul_le_mul hy1 (Nat.le_refl _)
      omega
  have hv64 : v < 18446744073709551616 := by
    have h2 : 2 ^ k ≤ 2 ^ 63 := Nat.pow_le_pow_right (by decide) (by omega)
    omega
  have e2 : (x % 128) * 2 ^ k = ((y * 2 ^ k : Nat) : Int) := by rw [hy]; simp
  have e3 : IntKind.u64.wrap ((x % 128) * 2 ^ k) = ((y * 2 ^ k : Nat) : Int) := by rw [e2, IntKind.wrap_u64]; omega
  rw [e3, hv, hy]
  have h4 := bits_or_u64_nat v (y * 2 ^ k) hv64 hb
  have h5 : v ||| y * 2 ^ k = v + 2 ^ k * y := by
    have h6 := Nat.shiftLeft_add_eq_or_of_lt hvk y
    rw [Nat.shiftLeft_eq] at h6
    rw [Nat.or_comm, ← h6, Nat.mul_comm]; omega
  rw [h5] at h4
  refine h4.trans ?_
  simp
theorem uval_snoc (l : List Int) (c : Int) : uval (l ++ [c]) = uval l + 2 ^ (7 * l.length) * (c % 128) := by
  induction l with
  | nil => simp [uval]
  | cons a l ih =>
    simp only [List.cons_append, uval, ih, List.length_cons]
    rw [show 7 * (l.length + 1) = 7 + 7 * l.length by omega, Int.pow_add, Int.mul_add, show (2 : Int) ^ 7 = 128 from rfl, Int.mul_assoc, Int.add_assoc]
theorem uval_range (l : List Int) : 0 ≤ uval l ∧ uval l < 2 ^ (7 * l.length) := by
  induction l with
  | nil => simp [uval]
  | cons a l ih =>
    simp only [uval, List.length_cons]
    rw [show 7 * (l.length + 1) = 7 + 7 * l.length by omega, Int.pow_add, show (2 : Int) ^ 7 = 128 from rfl]
    omega

theorem rd_take8 (l : List Int) (i : Int) (h0 : 0 ≤ i) (h : i < l.length) : l.take (i + 1).toNat = l.take i.toNat ++ [rd l i] := by
  rw [show (i + 1).toNat = i.toNat + 1 by omega, List.take_succ_eq_append_getElem (by omega)]
  unfold rd
  rw [List.getD_eq_getElem?_getD, List.getElem?_eq_getElem (by omega)]
  rfl
theorem rd_mem8 (l : List Int) (i : Int) (h0 : 0 ≤ i) (h : i < l.length) : rd l i ∈ l := by
  unfold rd
  rw [List.getD_eq_getElem?_getD, List.getElem?_eq_getElem (by omega)]
  exact List.getElem_mem _
theorem u64_one (u : Int) (h : 0 ≤ u) (h2 : u ≤ 18446744073709551615) : Go.bits .and .u64 u 1 = u % 2 := by
  have h1 := bits_and_u64_nat u.toNat 1 (by omega) (by omega)
  rw [Nat.and_one_is_mod, Int.toNat_of_nonneg h] at h1
  exact h1.trans (by omega)
theorem uval_small (ds : List Int) (u : Int) (hu : u = uval ds) (hl : ds.length ≤ 10) (h9 : ds.length = 10 → 0 ≤ rd ds 9 ∧ rd ds 9 ≤ 1) : u ≤ 18446744073709551615 := by
  rw [hu]
  by_cases h : ds.length = 10
  · have hts := rd_take8 ds 9 (by omega) (by omega)
    rw [show ((9 : Int) + 1).toNat = ds.length by omega, List.take_length] at hts
    have hs := uval_snoc (ds.take (9 : Int).toNat) (rd ds 9)
    rw [← hts] at hs
    have hr := uval_range (ds.take (9 : Int).toNat)
    have hl9 : (ds.take (9 : Int).toNat).length = 9 := by rw [List.length_take]; omega
    rw [hl9] at hr hs
    have := h9 h
    have e63 : (2 : Int) ^ (7 * 9) = 9223372036854775808 := by decide
    rw [e63] at hr hs
    omega
  · have hr := uval_range ds
    have h2 : (2 : Nat) ^ (7 * ds.length) ≤ 2 ^ 63 := Nat.pow_le_pow_right (by decide) (by omega)
    have hp : ((2 ^ (7 * ds.length) : Nat) : Int) = (2 : Int) ^ (7 * ds.length) := by simp
    omega
theorem int_spec_good (l0 : List Int) (a1 : Int) (m : Nat) (u : Int) (h0 : 0 ≤ a1) (h1 : a1 ≤ l0.length) (hm : stopAt (l0.drop a1.toNat) = m) (hs : m < (l0.drop a1.toNat).length) (hT : ¬ ((rd l0 (a1 + m) = 0 ∧ 0 < m) ∨ 9 < m ∨ (m = 9 ∧ 1 < rd l0 (a1 + m)))) (hu : u = uval ((l0.drop a1.toNat).take (m + 1))) :
    intSpec l0 a1 = (if u % 2 = 1 then -(u / 2) - 1 else u / 2, a1 + m + 1, 0) := by
  unfold intSpec
  rw [if_neg (by omega), hm, if_neg (by omega), if_neg hT, ← hu]
set_option maxHeartbeats 4000000 in
set_option maxRecDepth 100000 in
theorem int_good (A0 : Option Addr) (c0 : Nat) (l0 : List Int) (a1 : Int) (w : World) (hr0 : Kd.C (Kd.int .u8) w A0 l0.length l0) (hc0 : l0.length ≤ c0) (h0 : 0 ≤ a1) (h1 : a1 ≤ l0.length) (hl : l0.length ≤ 1000000) (m : Nat) (hm : stopAt (l0.drop a1.toNat) = m) (hs : m < (l0.drop a1.toNat).length) (HT : ¬ ((rd l0 (a1 + m) = 0 ∧ 0 < m) ∨ 9 < m ∨ (m = 9 ∧ 1 < rd l0 (a1 + m)))) (hby : ∀ c ∈ l0, 0 ≤ c ∧ c ≤ 255) :
    Calls Try.prog 12 #[.slice A0 l0.length c0, .int .i64 a1] w fun e w' => e = .returned (.tuple #[.int .i64 (intSpec l0 a1).1, .int .i64 (intSpec l0 a1).2.1, .int .i64 (intSpec l0 a1).2.2]) ∧ Drawn0 w w' := by
  have d1 : decide (a1 < 0) = false := decide_eq_false (by omega)
  have d2 : decide ((l0.length : Int) < a1) = false := decide_eq_false (by omega)
  have hml : a1 + m < (l0.length : Int) := by rw [List.length_drop] at hs; omega
  have HR := Aside0.mk hr0
  have HC := Aside0.mk hc0
  have HS := Aside0.mk hs
  have HM := Aside0.mk hm
  have HBY := Aside0.mk hby
  clear hr0 hc0 hs hm hby
  go_enter Try.func12, Try.ntmps12
  go_wp2_with fail
  go_step3
  go_wp2_with fail
  go_step3
  go_wp2_with fail
  go_loop [7] (fun v7 => ∃ e : Int, a1 ≤ e ∧ e ≤ a1 + m ∧ v7 = .int .i64 e) (fun v7 => l0.length - (intOf v7).toNat)
  case atStart => exact ⟨a1, by omega, by omega, rfl⟩
  case round =>
    obtain ⟨e, he0, he1, rfl⟩ := hrel
    have hlt : e < (l0.length : Int) := by omega
    obtain ⟨ad, e1, hcell⟩ := Kd.at_int HR.out e (by omega) hlt
    cases e1
    have d4 : (e == (l0.length : Int)) = false := beq_eq_false_iff_ne.2 (by omega)
    by_cases hem : e < a1 + m
    · have hge : ¬ rd l0 e < 128 := by
        have h2 := stop_before (l0.drop a1.toNat) (e - a1).toNat (by rw [HM.out]; omega)
        rwa [← rd_drop l0 a1 _ h0, show a1 + (((e - a1).toNat : Nat) : Int) = e by omega] at h2
      have d3 : decide (rd l0 e < 128) = false := decide_eq_false hge
      clear hge
      go_wp2
      go_round
      case measure => show _ < _; simp [intOf]; omega
      case rel => exact ⟨e + 1, by omega, by omega, rfl⟩
    · have hee : e = a1 + m := by omega
      have hlt2 : rd l0 e < 128 := by
        have h2 := stop_at (l0.drop a1.toNat) (by rw [HM.out]; exact HS.out)
        rwa [HM.out, ← rd_drop l0 a1 _ h0, ← hee] at h2
      have d3 : decide (rd l0 e < 128) = true := decide_eq_true hlt2
      have HE := Aside0.mk hee
      clear hee hlt2 he1 hem
      obtain ⟨i5, hi5, hi5z⟩ := Option.map_eq_some_iff.1 info_wire
      simp only [Prod.mk.injEq] at hi5z
      have hcut := cut_mid (P := Try.prog) 22 5 .i64 .i64 Try.underlying22 hi5 1 hi5z.2.1 (some ad) l0.length c0 a1 (e + 1) h0 (by omega) (by omega) HC.out
      have hmid := Kd.C_mid (lo := a1.toNat) (hi := (e + 1).toNat) HR.out (by omega) (by omega) HC.out
      have hseg : (l0.take (e + 1).toNat).drop a1.toNat = (l0.drop a1.toNat).take (m + 1) := by
        rw [List.drop_take]; congr 1; have := HE.out; omega
      rw [hseg] at hmid
      have hlen : ((l0.drop a1.toNat).take (m + 1)).length = m + 1 := by rw [List.length_take, List.length_drop]; omega
      have hln : (e + 1).toNat - a1.toNat = ((l0.drop a1.toNat).take (m + 1)).length := by rw [hlen]; have := HE.out; omega
      rw [hln] at hcut
      have hrd : ∀ j : Nat, j < m + 1 → rd ((l0.drop a1.toNat).take (m + 1)) j = rd l0 (a1 + j) := by
        intro j hj
        rw [rd_drop l0 a1 j h0]
        unfold rd
        rw [Int.toNat_natCast, List.getD_eq_getElem?_getD, List.getD_eq_getElem?_getD, List.getElem?_take, if_pos hj]
      obtain ⟨ds, hds⟩ : ∃ ds, ds = (l0.drop a1.toNat).take (m + 1) := ⟨_, rfl⟩
      rw [← hds] at hcut hmid hlen hrd
      have hlast : rd ds ((ds.length : Int) - 1) = rd l0 (a1 + m) := by
        rw [← hrd m (by omega), show ((ds.length : Int) - 1) = (m : Int) by omega]
      have HT0 := Aside0.mk HT
      rw [← hlast] at HT
      have HM1 : Kd.C (Kd.int .u8) w (if c0 = a1.toNat then some ad else (some ad).map (·.add (a1.toNat * 1))) ds.length ds := hmid
      obtain ⟨A', hA'⟩ : ∃ A', A' = (if c0 = a1.toNat then some ad else (some ad).map (·.add (a1.toNat * 1))) := ⟨_, rfl⟩
      rw [← hA'] at hcut HM1
      have HDS := Aside0.mk hds
      have HLEN := Aside0.mk hlen
      have HCD := Aside0.mk HM1
      have hdl1 : ds.length ≤ 1000000 := by omega
      have hdl0 : 0 < ds.length := by omega
      clear hds hlen hmid hseg hln hrd hA' HM1 hi5 hi5z hlast
      obtain ⟨ad2, e2, hcell2⟩ := Kd.at_int HCD.out ((ds.length : Int) - 1) (by omega) (by omega)
      cases e2
      rw [show ((ds.length : Int) - 1).toNat = ds.length - 1 by omega] at hcell2
      generalize hcl : rd ds ((ds.length : Int) - 1) = c at *
      have HLAST := Aside0.mk hcl
      clear hcl
      have hcases : ((c == 0) = true ∧ (ds.length : Int) ≤ 1) ∨ ((c == 0) = false ∧ (ds.length : Int) ≤ 9) ∨ ((c == 0) = false ∧ 10 ≤ (ds.length : Int) ∧ (ds.length : Int) ≤ 10 ∧ c ≤ 1) := by
        have h5 := HLEN.out
        by_cases hc0 : c = 0
        · left; exact ⟨beq_iff_eq.2 hc0, by omega⟩
        · right
          by_cases h10 : ds.length = 10
          · right; exact ⟨beq_eq_false_iff_ne.2 hc0, by omega, by omega, by omega⟩
          · left; exact ⟨beq_eq_false_iff_ne.2 hc0, by omega⟩
      clear HT
      rcases hcases with ⟨t1, t2⟩ | ⟨t1, t3⟩ | ⟨t1, t3, t4, t5⟩
      all_goals go_wp2_with fail
      all_goals go_loop [10, 69] (fun v10 v69 => ∃ (u i : Int), 0 ≤ i ∧ i ≤ ds.length ∧ v69 = .int .i64 i ∧ v10 = .int .u64 u ∧ Aside0 (u = uval (ds.take i.toNat))) (fun _ v69 => ds.length - (intOf v69).toNat)
      all_goals try (case atStart => exact ⟨0, 0, by omega, by omega, rfl, rfl, ⟨rfl⟩⟩)
      all_goals
        obtain ⟨u, i, hi0, hi1, rfl, rfl, HU⟩ := hrel
        have hby2 : ∀ c ∈ ds, 0 ≤ c ∧ c ≤ 255 := by
          intro c hc
          rw [HDS.out] at hc
          exact HBY.out _ (List.mem_of_mem_drop (List.mem_of_mem_take hc))
        by_cases hlt3 : i < (ds.length : Int)
        · obtain ⟨ad3, e3, hcell3⟩ := Kd.at_int HCD.out i hi0 hlt3
          cases e3
          have htl : (ds.take i.toNat).length = i.toNat := by rw [List.length_take]; omega
          have hur := uval_range (ds.take i.toNat)
          have hus := uval_snoc (ds.take i.toNat) (rd ds i)
          have hts := rd_take8 ds i hi0 hlt3
          rw [← hts] at hus
          rw [htl, ← HU.out, show 7 * i.toNat = (7 * i).toNat by omega] at hur
          rw [htl, ← HU.out, show 7 * i.toNat = (7 * i).toNat by omega] at hus
          have hxr : 0 ≤ rd ds i ∧ rd ds i ≤ 255 := by
            exact hby2 _ (rd_mem8 ds i hi0 hlt3)
          have hx9 : i = 9 → rd ds i ≤ 1 := by
            intro h9
            have h7 : i = (ds.length : Int) - 1 := by omega
            have h8 := HLAST.out
            rw [← h7] at h8
            rw [h8]; omega
          have hor := or7 u (rd ds i) (7 * i).toNat hur.1 hur.2 hxr.1 hxr.2 (by
            by_cases h9 : i = 9
            · right; exact ⟨by omega, hx9 h9⟩
            · left; omega)
          rw [← hus] at hor
          have HOR := Aside0.mk hor
          clear hor hus hts hur htl hxr hx9 hby2
          generalize hx : rd ds i = x at *
          clear hx
          go_wp2
          go_round
          all_goals first
            | (show _ < _; simp [intOf]; omega)
            | exact ⟨_, i + 1, by omega, by omega, rfl, rfl, HOR⟩
        · have hi : i.toNat = ds.length := by omega
          have hu : u = uval ds := by rw [HU.out, hi, List.take_length]
          have hur := uval_range ds
          rw [← hu] at hur
          have hu64 : u ≤ 18446744073709551615 := uval_small ds u hu (by omega) (by
            intro h9
            have h8 := HLAST.out
            rw [show ((ds.length : Int) - 1) = 9 by omega] at h8
            have h7 := hby2 _ (rd_mem8 ds 9 (by omega) (by omega))
            rw [h8] at h7 ⊢
            omega)
          have hu0 := hur.1
          have hspec := int_spec_good l0 a1 m u h0 h1 HM.out HS.out HT0.out (by rw [hu, HDS.out])
          have HSP := Aside0.mk hspec
          have HUU := Aside0.mk hu
          have hand := u64_one u hu0 hu64
          have hee := HE.out
          have HEE := Aside0.mk (show e + 1 = a1 + m + 1 by omega)
          clear hu hur hspec HU hi hee hby2
          by_cases hodd : u % 2 = 1
          · have t9 : (Go.bits .and .u64 u 1 == 1) = true := by rw [hand]; exact beq_iff_eq.2 hodd
            have HOD := Aside0.mk hodd
            clear hand hodd
            go_wp2
            go_ret3
            have e1 : (intSpec l0 a1).1 = -(u / 2) - 1 := by rw [HSP.out]; exact if_pos HOD.out
            have e2 : (intSpec l0 a1).2.1 = e + 1 := by rw [HSP.out]; exact HEE.out.symm
            have e3 : (intSpec l0 a1).2.2 = 0 := by rw [HSP.out]
            exact ⟨by rw [e1, e2, e3]; rfl, Drawn0.refl _⟩
          · have t9 : (Go.bits .and .u64 u 1 == 1) = false := by rw [hand]; exact beq_eq_false_iff_ne.2 hodd
            have HOD := Aside0.mk hodd
            clear hand hodd
            go_wp2
            go_ret3
            have e1 : (intSpec l0 a1).1 = u / 2 := by rw [HSP.out]; exact if_neg HOD.out
            have e2 : (intSpec l0 a1).2.1 = e + 1 := by rw [HSP.out]; exact HEE.out.symm
            have e3 : (intSpec l0 a1).2.2 = 0 := by rw [HSP.out]
            exact ⟨by rw [e1, e2, e3]; rfl, Drawn0.refl _⟩
set_option maxHeartbeats 4000000 in
set_option maxRecDepth 100000 in
theorem int_arg (A0 : Option Addr) (c0 : Nat) (l0 : List Int) (a1 : Int) (w : World) (h : a1 < 0 ∨ (l0.length : Int) < a1) :
    Calls Try.prog 12 #[.slice A0 l0.length c0, .int .i64 a1] w fun e w' => e = .returned (.tuple #[.int .i64 0, .int .i64 0, .int .i64 2]) ∧ Drawn0 w w' := by
  by_cases h0 : a1 < 0
  · have d1 : decide (a1 < 0) = true := decide_eq_true h0
    go_enter Try.func12, Try.ntmps12
    go_wp2_with fail
    go_step3
    go_wp2
    (try rw [Exit.noGoto_ret])
    go_ret3
    exact ⟨rfl, Drawn0.refl _⟩
  · have h1 : (l0.length : Int) < a1 := by omega
    have d1 : decide (a1 < 0) = false := decide_eq_false h0
    have d2 : decide ((l0.length : Int) < a1) = true := decide_eq_true h1
    go_enter Try.func12, Try.ntmps12
    go_wp2_with fail
    go_step3
    go_wp2
    (try rw [Exit.noGoto_ret])
    go_ret3
    exact ⟨rfl, Drawn0.refl _⟩
def wire_Int.f (l0 : List Int) (a1 : Int) : Option (Int × Int × Int) := if l0.length ≤ 1000000 ∧ (∀ c ∈ l0, 0 ≤ c ∧ c ≤ 255) then some (intSpec l0 a1) else none
theorem wire_Int.calls (A0 : Option Addr) (c0 : Nat) (l0 : List Int) (a1 : Int) (r1 : Int) (r2 : Int) (r3 : Int) (w : World) (hr0 : Kd.C (Kd.int .u8) w A0 l0.length l0) (hc0 : l0.length ≤ c0) (h : wire_Int.f l0 a1 = some (r1, r2, r3)) :
    Calls Try.prog 12 #[.slice A0 l0.length c0, .int .i64 a1] w fun e w' => e = .returned (.tuple #[.int .i64 r1, .int .i64 r2, .int .i64 r3]) ∧ Drawn0 w w' := by
  unfold wire_Int.f at h
  by_cases hc : l0.length ≤ 1000000 ∧ (∀ c ∈ l0, 0 ≤ c ∧ c ≤ 255)
  · rw [if_pos hc] at h
    have h := Option.some.inj h
    by_cases ha : a1 < 0 ∨ (l0.length : Int) < a1
    · have e : intSpec l0 a1 = (0, 0, 2) := by unfold intSpec; rw [if_pos (by omega)]
      rw [e] at h
      simp only [Prod.mk.injEq] at h
      obtain ⟨rfl, rfl, rfl⟩ := h
      exact int_arg A0 c0 l0 a1 w ha
    · have hs := stop_le (l0.drop a1.toNat)
      by_cases hsh : stopAt (l0.drop a1.toNat) = (l0.drop a1.toNat).length
      · have e : intSpec l0 a1 = (0, 0, 6) := by unfold intSpec; rw [if_neg (by omega), if_pos hsh]
        rw [e] at h
        simp only [Prod.mk.injEq] at h
        obtain ⟨rfl, rfl, rfl⟩ := h
        exact int_short A0 c0 l0 a1 w hr0 hc0 (by omega) (by omega) hc.1 hsh
      · by_cases hT : (rd l0 (a1 + stopAt (l0.drop a1.toNat)) = 0 ∧ 0 < stopAt (l0.drop a1.toNat)) ∨ 9 < stopAt (l0.drop a1.toNat) ∨ (stopAt (l0.drop a1.toNat) = 9 ∧ 1 < rd l0 (a1 + stopAt (l0.drop a1.toNat)))
        · have e : intSpec l0 a1 = (0, 0, 5) := by unfold intSpec; rw [if_neg (by omega), if_neg hsh, if_pos hT]
          rw [e] at h
          simp only [Prod.mk.injEq] at h
          obtain ⟨rfl, rfl, rfl⟩ := h
          have hd : (l0.drop a1.toNat).length = l0.length - a1.toNat := List.length_drop
          exact int_form A0 c0 l0 a1 w hr0 hc0 (by omega) (by omega) hc.1 _ rfl (by omega) hT (hc.2 _ (rd_mem8 l0 _ (by omega) (by omega))).1
        · have := int_good A0 c0 l0 a1 w hr0 hc0 (by omega) (by omega) hc.1 _ rfl (by omega) hT hc.2
          rw [h] at this
          exact this
  · rw [if_neg hc] at h; cases h


/-! ### wire_Sum: function 28 -/
def wire_Sum.l0 : Nat → Int → Int → List Int → Int → Int → Option (Int)
  | 0, _, _, _, _, _ => none
  | k + 1, x3, x4, x7, x8, x9 => if x9 < x8 then (if 0 ≤ x9 then (if x9 < (x7.length : Int) then (wire_Sum.l0 k (((x3 + ((rd x7 x9) % 4294967296)) % 4294967296) % 65521) (((x4 + (((x3 + ((rd x7 x9) % 4294967296)) % 4294967296) % 65521)) % 4294967296) % 65521) x7 x8 (wrap64 (x9 + 1))) else (none)) else (none)) else (some (Go.bits .or .u32 ((x4 * 65536) % 4294967296) x3))
def wire_Sum.f (k : Nat) (l0 : List Int) : Option (Int) := wire_Sum.l0 k 1 0 l0 (l0.length : Int) 0
theorem wire_Sum.mono_l : ∀ k, (∀ y0 y1 y2 y3 y4, LeO (wire_Sum.l0 k y0 y1 y2 y3 y4) (wire_Sum.l0 (k + 1) y0 y1 y2 y3 y4))
  | 0 => fun _ _ _ _ _ r h => by simp [wire_Sum.l0] at h
  | k + 1 => by
    have ih0 := wire_Sum.mono_l k
    · intro y0 y1 y2 y3 y4
      unfold wire_Sum.l0
      repeat' first
      | (with_reducible exact ih0 _ _ _ _ _)
      | (with_reducible exact LeO.refl _)
      | (with_reducible exact LeO.none _)
      | (with_reducible refine LeO.ite ?_ ?_)
      | (with_reducible refine LeO.bind ?_ (fun _ => ?_))
      | exact ih0 _ _ _ _ _
      | exact LeO.none _
      | refine LeO.ite ?_ ?_
      | refine LeO.bind ?_ (fun _ => ?_)
theorem wire_Sum.mono : ∀ a0 k, LeO (wire_Sum.f k a0) (wire_Sum.f (k + 1) a0) := by
  intro a0 k
  have ih0 := wire_Sum.mono_l k
  unfold wire_Sum.f
  repeat' first
      | (with_reducible exact ih0 _ _ _ _ _)
      | (with_reducible exact LeO.refl _)
      | (with_reducible exact LeO.none _)
      | (with_reducible refine LeO.ite ?_ ?_)
      | (with_reducible refine LeO.bind ?_ (fun _ => ?_))
      | exact ih0 _ _ _ _ _
      | exact LeO.none _
      | refine LeO.ite ?_ ?_
      | refine LeO.bind ?_ (fun _ => ?_)
set_option maxHeartbeats 8000000 in
set_option maxRecDepth 100000 in
theorem wire_Sum.calls (k : Nat) (A0 : Option Addr) (c0 : Nat) (l0 : List Int) (r : Int) (w : World) (hr0 : Kd.C (Kd.int .u8) w A0 l0.length l0) (hc0 : l0.length ≤ c0) (h : wire_Sum.f k l0 = some r) :
    Calls Try.prog 28 #[.slice A0 l0.length c0] w fun e w' => e = .returned (.int .u32 r) ∧ Drawn0 w w' := by
  have HR0 := Aside0.mk hr0
  have HC0 := Aside0.mk hc0
  clear hr0 hc0
  have H : (wire_Sum.l0 k 1 0 l0 (l0.length : Int) 0) = some r := h
  clear h
  have H' := Aside0.mk H
  clear H
  go_enter Try.func28, Try.ntmps28
  go_wp2
  go_loopg [3, 4, 9] k (fun kq v3 v4 v9 w' => ∃ (x3_1 : Int) (x4_1 : Int) (x9_1 : Int), v3 = .int .u32 x3_1 ∧ v4 = .int .u32 x4_1 ∧ v9 = .int .i64 x9_1 ∧ Aside0 (wire_Sum.l0 kq x3_1 x4_1 l0 (l0.length : Int) x9_1 = some r) ∧ Aside0 (kq ≤ k) ∧ Drawn0 w w')
  case atStart => exact ⟨(1), (0), (0), (by first | rfl | (simp; done) | (simp [*]; done)), (by first | rfl | (simp; done) | (simp [*]; done)), (by first | rfl | (simp; done) | (simp [*]; done)), H', ⟨Nat.le_refl _⟩, by repeat (first | exact Drawn0.refl _ | apply Drawn0.step)⟩
  case round =>
    clear H'
    obtain ⟨x3_1, x4_1, x9_1, rfl, rfl, rfl, HA, HK1, ⟨m1, rfl⟩⟩ := hrel
    cases gk with
    | zero => exact absurd HA.out (by simp [wire_Sum.l0])
    | succ k1 =>
      have H := HA.out
      clear HA
      simp only [wire_Sum.l0] at H
      by_cases c2 : x9_1 < (l0.length : Int)
      · rw [if_pos c2] at H
        have c2b0 : decide (x9_1 < (l0.length : Int)) = true := decide_eq_true c2
        clear c2
        by_cases c3 : 0 ≤ x9_1
        · rw [if_pos c3] at H
          have c3b0 : decide (0 ≤ x9_1) = true := decide_eq_true c3
          clear c3
          by_cases c4 : x9_1 < (l0.length : Int)
          · rw [if_pos c4] at H
            have c4b0 : decide (x9_1 < (l0.length : Int)) = true := decide_eq_true c4
            clear c4
            have H' := Aside0.mk H
            clear H
            have p101 : 0 ≤ (x9_1 : Int) := of_decide_eq_true (by first | (with_reducible assumption) | assumption)
            have q101 : x9_1 < (l0.length : Int) := of_decide_eq_true (by first | (with_reducible assumption) | assumption)
            obtain ⟨ad101, e101, hx101_0⟩ := Kd.at_int HR0.out x9_1 p101 q101
            cases e101
            replace p101 := eq_true p101
            replace q101 := eq_true q101
            go_wp2
            go_roundg k1
            case measure => have := HK1.out; omega
            case rel => exact ⟨(((x3_1 + ((rd l0 x9_1) % 4294967296)) % 4294967296) % 65521), (((x4_1 + (((x3_1 + ((rd l0 x9_1) % 4294967296)) % 4294967296) % 65521)) % 4294967296) % 65521), (wrap64 (x9_1 + 1)), (by first | rfl | (simp; done) | (simp [*]; done)), (by first | rfl | (simp; done) | (simp [*]; done)), (by first | rfl | (simp; done) | (simp [*]; done)), H', ⟨by have := HK1.out; omega⟩, by repeat (first | exact Drawn0.refl _ | apply Drawn0.step)⟩
          · rw [if_neg c4] at H
            exact absurd H (by simp)
        · rw [if_neg c3] at H
          exact absurd H (by simp)
      · rw [if_neg c2] at H
        have c2b0 : decide (x9_1 < (l0.length : Int)) = false := decide_eq_false c2
        clear c2
        obtain rfl := Option.some.inj H
        go_wp2
        go_ret
        exact ⟨by first | rfl | (simp; done) | (simp [*]; done), by repeat (first | exact Drawn0.refl _ | apply Drawn0.step)⟩

/-! ### wire_four: function 35 -/
def wire_four.f (a0 : Int) : Option (List Int) := some (([(a0 / 16777216) % 256, (a0 / 65536) % 256, (a0 / 256) % 256, (a0) % 256] : List Int))
set_option maxHeartbeats 8000000 in
set_option maxRecDepth 100000 in
theorem wire_four.calls (a0 : Int) (r : List Int) (w : World) (h : wire_four.f a0 = some r) :
    Calls Try.prog 35 #[.int .u32 a0] w fun e w' => ∃ v0_ : Value, e = .returned (v0_) ∧ Kd.R (Kd.int .u8) 5 w' w.heap.size (fun _ => True) v0_ r ∧ Below w.heap.size w w' := by
  have HB := Aside0.mk (Below.refl w.heap.size w)
  have H : (some (([(a0 / 16777216) % 256, (a0 / 65536) % 256, (a0 / 256) % 256, (a0) % 256] : List Int))) = some r := h
  clear h
  obtain ⟨y102, hy102⟩ : ∃ y_ : List Int, y_ = (([(a0 / 16777216) % 256, (a0 / 65536) % 256, (a0 / 256) % 256, (a0) % 256] : List Int)) := ⟨_, rfl⟩
  replace H : (some y102) = some r := by first | (rw [hy102]; with_reducible exact H) | (have H2_ := (Option.bind_some _ _).symm.trans H; rw [hy102]; with_reducible exact H2_) | (have H2_ := (Option.bind_some _ _).symm.trans H; with_reducible exact H2_) | with_reducible exact H | (rw [hy102]; exact H) | exact H
  have Ny102 := Aside0.mk hy102
  clear hy102
  obtain rfl := Option.some.inj H
  go_enter Try.func35, Try.ntmps35
  go_wp2_with (first | ((with_reducible refine gate_dst (N := 14) rfl ?_); refine Kd.R_lit (Kd.int .u8) _ 5 ?hg (N := 14) ?hd (xs := ([(a0 / 16777216) % 256, (a0 / 65536) % 256, (a0 / 256) % 256, (a0) % 256] : List Int)) (inner := [.int .u8 ((a0 / 16777216) % 256), .int .u8 ((a0 / 65536) % 256), .int .u8 ((a0 / 256) % 256), .int .u8 ((a0) % 256)]) (ok := fun _ => True) (okp := fun _ => True) ?hr ?hp (fun _ hk => hk) trivial (Below.refl _ _) (Nat.le_refl _) (by simp) ?_; (case hd => rfl); (case hg => rfl); (case hr => first | (go_simp; done) | (go_simp; rfl)); (case hp => exact (Reps.one (show Kd.M (Kd.int .u8) _ _ _ ((a0 / 16777216) % 256) [.int .u8 ((a0 / 16777216) % 256)] from rfl) (Reps.one (show Kd.M (Kd.int .u8) _ _ _ ((a0 / 65536) % 256) [.int .u8 ((a0 / 65536) % 256)] from rfl) (Reps.one (show Kd.M (Kd.int .u8) _ _ _ ((a0 / 256) % 256) [.int .u8 ((a0 / 256) % 256)] from rfl) (Reps.one (show Kd.M (Kd.int .u8) _ _ _ ((a0) % 256) [.int .u8 ((a0) % 256)] from rfl) (Reps.none _ _)))))); intro v103 w2 ho3 hb hg_ hnew_; clear hg_ hnew_; (first | rw [← Ny102.out] at ho3 | (simp only [Int.reduceToNat] at ho3; rw [← Ny102.out] at ho3)); have n0_ := Aside0.mk (Kd.R_lower ho3 (below_size (by repeat (first | (with_reducible first | exact HB.out | apply below_alloc | apply pw_below_drewN | apply below_drew1) | exact HB.out)))); have n1_ := Aside0.mk (below_step (by repeat (first | (with_reducible first | exact HB.out | apply below_alloc | apply pw_below_drewN | apply below_drew1) | exact HB.out)) hb); clear HB; have HO104 := n0_; have HB := n1_; clear n0_ n1_; clear hb ho3))
  go_ret
  exact ⟨_, by first | rfl | (simp [errW_none, errW_some] <;> rfl) | (simp [*, errW_none, errW_some] <;> rfl), by (with_reducible repeat (first | apply Kd.R_alloc | apply Kd.R_drewN | apply Kd.R_drew)); exact HO104.out, by repeat (first | (with_reducible first | exact HB.out | apply below_alloc | apply pw_below_drewN | apply below_drew1) | exact HB.out)⟩

/-! ### wire_PutFrame: function 21 -/
def wire_PutFrame.f (k : Nat) (l0 : List Int) (l1 : List Int) : Option (List Int) := (wire_Sum.f k l1).bind fun s => (wire_four.f s).bind fun q => if l0.length ≤ 400000 ∧ l1.length ≤ 400000 ∧ q.length ≤ 100 then some (l0 ++ wcode 9 (zz l1.length) ++ l1 ++ q) else none
theorem wire_PutFrame.mono : ∀ a0 a1 k, LeO (wire_PutFrame.f k a0 a1) (wire_PutFrame.f (k + 1) a0 a1) := by
  intro a0 a1 k
  unfold wire_PutFrame.f
  exact LeO.bind (wire_Sum.mono _ _) (fun _ => LeO.refl _)
set_option maxHeartbeats 4000000 in
set_option maxRecDepth 100000 in
theorem wire_PutFrame.calls (k : Nat) (A0 : Option Addr) (c0 : Nat) (l0 : List Int) (A1 : Option Addr) (c1 : Nat) (l1 : List Int) (r : List Int) (w : World) (hr0 : Kd.C (Kd.int .u8) w A0 l0.length l0) (hc0 : l0.length ≤ c0) (hr1 : Kd.C (Kd.int .u8) w A1 l1.length l1) (hc1 : l1.length ≤ c1) (h : wire_PutFrame.f k l0 l1 = some r) :
    Calls Try.prog 21 #[.slice A0 l0.length c0, .slice A1 l1.length c1] w fun e w' => ∃ v0_ : Value, e = .returned (v0_) ∧ Kd.R (Kd.int .u8) 5 w' w.heap.size (fun _ => True) v0_ r ∧ Below w.heap.size w w' := by
  unfold wire_PutFrame.f at h
  obtain ⟨s, hs, h⟩ := Option.bind_eq_some_iff.1 h
  obtain ⟨q, hq, h⟩ := Option.bind_eq_some_iff.1 h
  by_cases hc : l0.length ≤ 400000 ∧ l1.length ≤ 400000 ∧ q.length ≤ 100
  · rw [if_pos hc] at h
    have H := Aside0.mk (Option.some.inj h)
    obtain ⟨hl, hi0, hq4⟩ := hc
    have HS := Aside0.mk hs
    have HQ := Aside0.mk hq
    have HR := Aside0.mk hr0
    have HC := Aside0.mk hc0
    have HR1 := Aside0.mk hr1
    have HC1 := Aside0.mk hc1
    clear h hr0 hc0 hr1 hc1 hs hq
    go_enter Try.func21, Try.ntmps21
    go_wp2_with fail
    refine (code_any (l1.length : Int) _ (by omega) (by omega)).mono ?_
    rintro e w1 ⟨v, rfl, hR, hB⟩
    have hwl := wcode_len 9 (zz l1.length)
    obtain ⟨Ac, cc, rfl, hcl, hCc⟩ := Kd.R_reads hR
    have HRC := Aside0.mk (⟨hcl, hCc⟩ : (wcode 9 (zz l1.length)).length ≤ cc ∧ Kd.C (Kd.int .u8) w1 Ac (wcode 9 (zz l1.length)).length (wcode 9 (zz l1.length)))
    have HB := Aside0.mk hB
    clear hR hB hcl hCc
    generalize wcode 9 (zz l1.length) = cd at *
    go_wp2_with fail
    refine (wire_Sum.calls k A1 c1 l1 s _ (Kd.C_below HR1.out HB.out) HC1.out HS.out).mono ?_
    rintro e w2 ⟨rfl, hd⟩
    have HB2 := Aside0.mk (below_step HB.out hd.below)
    have HRC2 := Aside0.mk (Kd.C_below HRC.out.2 hd.below)
    clear hd
    go_wp2_with fail
    refine (wire_four.calls s q _ HQ.out).mono ?_
    rintro e w3 ⟨v, rfl, hR, hB⟩
    obtain ⟨Aq, cq, rfl, hql, hCq⟩ := Kd.R_reads hR
    have HB3 := Aside0.mk (below_step HB2.out hB)
    have HRC3 := Aside0.mk (Kd.C_below HRC2.out hB)
    have HQ3 := Aside0.mk (⟨hql, hCq⟩ : q.length ≤ cq ∧ Kd.C (Kd.int .u8) w3 Aq q.length q)
    clear hR hB hql hCq
    go_wp2_with fail
    have hrows : Kd.C (Kd.slice 5 (Kd.int .u8)) (w3.alloc (.cells #[.slice A0 l0.length c0, .slice Ac cd.length cc, .slice A1 l1.length c1, .slice Aq q.length cq] 22)) (some ⟨w3.heap.size, 0, none⟩) [l0, cd, l1, q].length [l0, cd, l1, q] := by
      refine rows_of _ _ _ [.slice A0 l0.length c0, .slice Ac cd.length cc, .slice A1 l1.length c1, .slice Aq q.length cq] (by simp) rfl ?_ ?_
      · intro j v hj
        match j, hj with
        | 0, hj => simp at hj; subst hj; simp
        | 1, hj => simp at hj; subst hj; simp
        | 2, hj => simp at hj; subst hj; simp
        | 3, hj => simp at hj; subst hj; simp
        | j + 4, hj => simp at hj
      · intro j p v hj hv
        match j, hj, hv with
        | 0, hj, hv => simp at hj hv; subst hj hv; exact ⟨_, _, rfl, HC.out, Kd.C_alloc (Kd.C_below HR.out HB3.out) _⟩
        | 1, hj, hv => simp at hj hv; subst hj hv; exact ⟨_, _, rfl, HRC.out.1, Kd.C_alloc HRC3.out _⟩
        | 2, hj, hv => simp at hj hv; subst hj hv; exact ⟨_, _, rfl, HC1.out, Kd.C_alloc (Kd.C_below HR1.out HB3.out) _⟩
        | 3, hj, hv => simp at hj hv; subst hj hv; exact ⟨_, _, rfl, HQ3.out.1, Kd.C_alloc HQ3.out.2 _⟩
        | j + 4, hj, hv => simp at hj
    refine (joined_any (some ⟨w3.heap.size, 0, none⟩) 4 [l0, cd, l1, q] _ hrows (by simp) (by simp [slen]; omega)).mono ?_
    rintro e w4 ⟨v, rfl, hR4, hB4⟩
    have HR4 := Aside0.mk hR4
    have HB4 := Aside0.mk hB4
    clear hR4 hB4 hrows
    go_wp2
    go_ret
    refine ⟨v, rfl, ?_, below_step (below_alloc HB3.out _) HB4.out⟩
    have := Kd.R_lower HR4.out (below_size (below_alloc HB3.out (.cells #[.slice A0 l0.length c0, .slice Ac cd.length cc, .slice A1 l1.length c1, .slice Aq q.length cq] 22)))
    rw [← H.out]
    simpa [flat] using this
  · rw [if_neg hc] at h; cases h


/-! ### contangolaw04_goes: function 9 -/
def contangolaw04_goes.f (k : Nat) : Option Bool := (wire_PutFrame.f k [] [97]).bind fun r => if r = [2, 97, 0, 98, 0, 98] then some true else none
theorem contangolaw04_goes.mono : ∀ k, LeO (contangolaw04_goes.f k) (contangolaw04_goes.f (k + 1)) := by
  intro k
  unfold contangolaw04_goes.f
  exact LeO.bind (wire_PutFrame.mono _ _ _) (fun _ => LeO.refl _)
set_option maxHeartbeats 4000000 in
set_option maxRecDepth 100000 in
theorem contangolaw04_goes.calls (k : Nat) (r : Bool) (w : World) (h : contangolaw04_goes.f k = some r) :
    Calls Try.prog 9 #[] w fun e w' => e = .returned (.bool r) ∧ Below w.heap.size w w' := by
  unfold contangolaw04_goes.f at h
  obtain ⟨q, hq, h⟩ := Option.bind_eq_some_iff.1 h
  by_cases hqq : q = [2, 97, 0, 98, 0, 98]
  case neg => rw [if_neg hqq] at h; cases h
  rw [if_pos hqq] at h
  cases h
  subst hqq
  have HQ := Aside0.mk hq
  clear hq
  have kc := fun (w : World) (C : Array Value) (n c : Nat) => Lib.run_convert_bytes_const (P := Try.prog) w 22 5 C n c Try.underlying22 Try.underlying5
  go_enter Try.func9, Try.ntmps9
  go_wp2_with fail
  have hC1 : Kd.C (Kd.int .u8) (w.alloc (.cells #[.int .u8 216, .int .u8 4] 5 (2, 3))) (some ⟨w.heap.size, 0, none⟩) ([216, 4] : List Int).length [216, 4] := by
    refine Kd.C_of_reads (d := (0 : Int)) (h1 := fun _ => rfl) ⟨rfl, by decide, fun _ => ⟨⟨w.heap.size, 0, none⟩, rfl, ?_⟩⟩
    intro i hi
    rw [add_plain, World.cell?_alloc_mark]
    match i, hi with
    | 0, _ => rfl
    | 1, _ => rfl
  refine (wire_Int.calls (some ⟨w.heap.size, 0, none⟩) 2 [216, 4] 0 300 2 0 _ hC1 (by decide) (by decide +kernel)).mono ?_
  rintro e w1 ⟨rfl, hd⟩
  have HB := Aside0.mk (below_step (below_alloc (Below.refl w.heap.size w) (.cells #[.int .u8 216, .int .u8 4] 5 (2, 3))) hd.below)
  clear hd hC1
  go_wp2_with fail
  refine (wire_PutInt.calls none 0 [] 300 [216, 4] _ (Kd.C_nil _ _) (by decide) (by decide +kernel)).mono ?_
  rintro e w2 ⟨v, rfl, hR, hB⟩
  obtain ⟨Aq, cq, rfl, hql, hCq⟩ := Kd.R_reads hR
  have HB2 := Aside0.mk (below_step HB.out hB)
  have hcv : (convert 22 9 (.slice Aq 2 cq)).run Try.prog w2 = .ok (.string (strOfNums [216, 4])) w2 := Kd.C_string (P := Try.prog) Try.underlying22 Try.underlying5 Try.underlying9 (c := cq) hCq
  clear hB hR HB
  have t1 : ((strOfNums ([216, 4] : List Int)).toList == ([216, 4] : List UInt8)) = true := by decide +kernel
  generalize strOfNums ([216, 4] : List Int) = s1 at *
  go_wp2_with fail
  have hC2 : Kd.C (Kd.int .u8) (w2.alloc (.cells #[.int .u8 97] 5 (1, 2))) (some ⟨w2.heap.size, 0, none⟩) ([97] : List Int).length [97] := by
    refine Kd.C_of_reads (d := (0 : Int)) (h1 := fun _ => rfl) ⟨rfl, by decide, fun _ => ⟨⟨w2.heap.size, 0, none⟩, rfl, ?_⟩⟩
    intro i hi
    rw [add_plain, World.cell?_alloc_mark]
    match i, hi with
    | 0, _ => rfl
  refine (wire_PutFrame.calls k none 0 [] (some ⟨w2.heap.size, 0, none⟩) 1 [97] _ _ (Kd.C_nil _ _) (by decide) hC2 (by decide) HQ.out).mono ?_
  rintro e w3 ⟨v, rfl, hR, hB⟩
  obtain ⟨Ap, cp, rfl, hpl, hCp⟩ := Kd.R_reads hR
  have HB3 := Aside0.mk (below_step (below_alloc HB2.out (.cells #[.int .u8 97] 5 (1, 2))) hB)
  have hcv2 : (convert 22 9 (.slice Ap 6 cp)).run Try.prog w3 = .ok (.string (strOfNums [2, 97, 0, 98, 0, 98])) w3 := Kd.C_string (P := Try.prog) Try.underlying22 Try.underlying5 Try.underlying9 (c := cp) hCp
  clear hB hR HB2 hC2 hcv
  have t2 : ((strOfNums ([2, 97, 0, 98, 0, 98] : List Int)).toList == ([2, 97, 0, 98, 0, 98] : List UInt8)) = true := by decide +kernel
  generalize strOfNums ([2, 97, 0, 98, 0, 98] : List Int) = s2 at *
  go_wp2
  go_ret
  exact ⟨rfl, HB3.out⟩


/-! ### wire_PutText: function 17 -/
def wire_PutText.f (l0 : List Int) (a1 : ByteArray) : Option (List Int) := if l0.length ≤ 400000 ∧ a1.size ≤ 400000 then some (l0 ++ wcode 9 (zz a1.size) ++ bytesOf a1) else none
set_option maxHeartbeats 4000000 in
set_option maxRecDepth 100000 in
theorem wire_PutText.calls (A0 : Option Addr) (c0 : Nat) (l0 : List Int) (a1 : ByteArray) (r : List Int) (w : World) (hr0 : Kd.C (Kd.int .u8) w A0 l0.length l0) (hc0 : l0.length ≤ c0) (h : wire_PutText.f l0 a1 = some r) :
    Calls Try.prog 17 #[.slice A0 l0.length c0, .string a1] w fun e w' => ∃ v0_ : Value, e = .returned (v0_) ∧ Kd.R (Kd.int .u8) 5 w' w.heap.size (fun _ => True) v0_ r ∧ Below w.heap.size w w' := by
  unfold wire_PutText.f at h
  by_cases hc : l0.length ≤ 400000 ∧ a1.size ≤ 400000
  · rw [if_pos hc] at h
    have H := Aside0.mk (Option.some.inj h)
    obtain ⟨hl, hi0⟩ := hc
    have HR := Aside0.mk hr0
    have HC := Aside0.mk hc0
    clear h hr0 hc0
    have kb := fun W => print_bytes (P := Try.prog) 9 22 5 Try.underlying9 Try.underlying22 Try.underlying5 a1 W
    go_enter Try.func17, Try.ntmps17
    go_wp2_with fail
    refine (code_any (a1.size : Int) _ (by omega) (by omega)).mono ?_
    rintro e w1 ⟨v, rfl, hR, hB⟩
    have hwl := wcode_len 9 (zz a1.size)
    obtain ⟨Ac, cc, rfl, hcl, hCc⟩ := Kd.R_reads hR
    have HRC := Aside0.mk (⟨hcl, hCc⟩ : (wcode 9 (zz a1.size)).length ≤ cc ∧ Kd.C (Kd.int .u8) w1 Ac (wcode 9 (zz a1.size)).length (wcode 9 (zz a1.size)))
    have HB := Aside0.mk hB
    clear hR hB hcl hCc
    generalize wcode 9 (zz a1.size) = cd at *
    have hbr := bytes_reads w1 5 a1 (by omega)
    have hbb := bytes_below (Below.refl w1.heap.size w1) (Nat.le_refl _) 5 a1
    have hcap := grownCap_ge w1 a1.size 0 5
    go_wp2_with fail
    generalize grownCap w1 a1.size 0 5 = cb at *
    have hrows : Kd.C (Kd.slice 5 (Kd.int .u8)) ((Lib.bytesWorld w1 5 a1).alloc (.cells #[.slice A0 l0.length c0, .slice Ac cd.length cc, .slice (some ⟨w1.heap.size, 0, none⟩) a1.size cb] 22)) (some ⟨(Lib.bytesWorld w1 5 a1).heap.size, 0, none⟩) [l0, cd, bytesOf a1].length [l0, cd, bytesOf a1] := by
      refine rows_of _ _ _ [.slice A0 l0.length c0, .slice Ac cd.length cc, .slice (some ⟨w1.heap.size, 0, none⟩) a1.size cb] (by simp) rfl ?_ ?_
      · intro j v hj
        match j, hj with
        | 0, hj => simp at hj; subst hj; simp
        | 1, hj => simp at hj; subst hj; simp
        | 2, hj => simp at hj; subst hj; simp
        | j + 3, hj => simp at hj
      · intro j p v hj hv
        match j, hj, hv with
        | 0, hj, hv => simp at hj hv; subst hj hv; exact ⟨_, _, rfl, HC.out, Kd.C_alloc (Kd.C_below (Kd.C_below HR.out HB.out) hbb) _⟩
        | 1, hj, hv => simp at hj hv; subst hj hv; exact ⟨_, _, rfl, HRC.out.1, Kd.C_alloc (Kd.C_below HRC.out.2 hbb) _⟩
        | 2, hj, hv =>
          simp at hj hv; subst hj hv
          have hC : Kd.C (Kd.int .u8) (Lib.bytesWorld w1 5 a1) (some ⟨w1.heap.size, 0, none⟩) a1.size (bytesOf a1) := Kd.C_of_reads (d := (0 : Int)) (h1 := fun _ => rfl) hbr
          exact ⟨some ⟨w1.heap.size, 0, none⟩, cb, by rw [bytesOf_length], by rw [bytesOf_length]; exact hcap, by rw [bytesOf_length]; exact Kd.C_alloc hC _⟩
        | j + 3, hj, hv => simp at hj
    have HBb := Aside0.mk (below_step HB.out hbb)
    clear hbr hbb hcap kb
    refine (joined_any (some ⟨(Lib.bytesWorld w1 5 a1).heap.size, 0, none⟩) 3 [l0, cd, bytesOf a1] _ hrows (by simp) (by simp [slen, bytesOf_length]; omega)).mono ?_
    rintro e w2 ⟨v, rfl, hR2, hB2⟩
    have HR2 := Aside0.mk hR2
    have HB2 := Aside0.mk hB2
    clear hR2 hB2 hrows
    go_wp2
    go_ret
    refine ⟨v, rfl, ?_, below_step (below_alloc HBb.out _) HB2.out⟩
    have := Kd.R_lower HR2.out (below_size (below_alloc HBb.out (.cells #[.slice A0 l0.length c0, .slice Ac cd.length cc, .slice (some ⟨w1.heap.size, 0, none⟩) a1.size cb] 22)))
    rw [← H.out]
    simpa [flat] using this
  · rw [if_neg hc] at h; cases h


end Go.Proofs.Ytnimfimcpjmbnaa.PWireBack
