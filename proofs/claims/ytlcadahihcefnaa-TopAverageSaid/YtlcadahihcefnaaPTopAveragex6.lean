/- Laid for this claim by a program of this session's (wip/mkprint.py, wip/ext.py); not trusted: Lean checks it. -/
import Derived.Test.YtlcadahihcefnaaPTopAveragex0
import Derived.Test.YtlcadahihcefnaaPTopAveragex5
namespace Go.Proofs.Ytlcadahihcefnaa.PTopAverage
open Go.RowKit Go.Proofs.YtlcadahihcefnaaW.PrintWords Go.Proofs.YtlcadahihcefnaaW.PrintLast Go.Proofs.YtlcadahihcefnaaW.PrintMore
attribute [local go_sem] max2_int min2_int max_two min_two max_three min_three max_four min_four   -- for this text's walks alone
set_option linter.unusedVariables false
set_option linter.unusedSimpArgs false

/-! ### share_Split: function 13 -/
theorem info_share : (Try.prog.info? 3).map (fun i=>(i.zero, i.size, i.bytes)) = some (some (.int .i64 0), 1, 8):=by kernel_rfl

/-! what share's functions tell, in closed form -/
def isum : List Int → Int
 | []=>0
 | a :: l=>a + isum l
def okMoney (n : Int) : Bool:=decide (0 ≤ n) && decide (n ≤ 1152921504606846976)
def bestGo (l : List Int) : List Int → Nat → Nat → Nat
 | [], _, b=>b
 | r :: rs, i, b=>bestGo l rs (i + 1) (if l.getD b 0 < r then i else b)
def best (l : List Int) : Nat:=bestGo l l 0 0
def giveOne (p : List Int × List Int) : List Int × List Int:=(p.1.set (best p.2) (p.1.getD (best p.2) 0 + 1), p.2.set (best p.2) (-1))
def giveMany : Nat → List Int × List Int → List Int × List Int
 | 0, p=>p
 | n + 1, p=>giveMany n (giveOne p)
def quos (total all : Int) (l : List Int) : List Int:=l.map fun w=>total * w / all
def remsOf (total all : Int) (l : List Int) : List Int:=l.map fun w=>total * w % all
def splitParts (total all : Int) (l : List Int) : List Int:=(giveMany (total - isum (quos total all l)).toNat (quos total all l, remsOf total all l)).1
def weighedOk (l : List Int) : Bool:=l.all okMoney && decide (isum l ≤ 1152921504606846976)

theorem isum_append (l m : List Int) : isum (l ++ m) = isum l + isum m:=by
 induction l with
 | nil=>simp [isum]
 | cons a l ih=>simp only [List.cons_append, isum, ih];omega
theorem okMoney_iff (n : Int) : okMoney n = true ↔ 0 ≤ n ∧ n ≤ 1152921504606846976:=by
 unfold okMoney;simp
theorem money_val (n : Int) : share_money.f n = some (okMoney n):=by
 unfold share_money.f okMoney
 by_cases h : n ≥ 0
 ·rw [if_pos h, decide_eq_true (show 0 ≤ n from h)];rfl
 ·rw [if_neg h, decide_eq_false (show ¬ 0 ≤ n from h)];rfl
theorem isum_take_le (l : List Int) (h : ∀ a ∈ l, 0 ≤ a) (i : Nat) : 0 ≤ isum (l.take i) ∧ isum (l.take i) ≤ isum l:=by
 induction l generalizing i with
 | nil=>simp [isum]
 | cons a l ih =>
  have ha:=h a List.mem_cons_self
  cases i with
  | zero=>have:=ih (fun b hb=>h b (List.mem_cons_of_mem _ hb)) l.length;simp only [List.take_length, List.take_zero, isum] at *;omega
  | succ i=>have:=ih (fun b hb=>h b (List.mem_cons_of_mem _ hb)) i;simp only [List.take_succ_cons, isum];omega
theorem rd_take (l : List Int) (i : Nat) (h : i < l.length) : l.take (i + 1) = l.take i ++ [rd l (i : Int)]:=by
 rw [List.take_succ_eq_append_getElem h]
 unfold rd
 rw [Int.toNat_natCast, List.getD_eq_getElem?_getD, List.getElem?_eq_getElem h]
 rfl
theorem rd_mem (l : List Int) (i : Nat) (h : i < l.length) : rd l (i : Int) ∈ l:=by
 unfold rd
 rw [Int.toNat_natCast, List.getD_eq_getElem?_getD, List.getElem?_eq_getElem h]
 exact List.getElem_mem h
theorem isum_succ (l : List Int) (i : Nat) (h : i < l.length) : isum (l.take (i + 1)) = isum (l.take i) + rd l (i : Int):=by
 rw [rd_take l i h, isum_append];simp [isum]
theorem w64 (n : Int) (h : -9223372036854775808 ≤ n) (h2 : n ≤ 9223372036854775807) : wrap64 n = n:=by unfold wrap64;omega
/-- The weights' loop: from place i on, the sum so far being right. -/
theorem weighed_go (l : List Int) (hlen : l.length ≤ 1024) (d : Nat) : ∀ (k i : Nat), l.length - i = d → i ≤ l.length → d < k → (∀ a ∈ l.take i, okMoney a = true) → isum (l.take i) ≤ 1152921504606846976 →
  share_weighed.l0 k (isum (l.take i)) l (l.length : Int) (i : Int) = some (if weighedOk l = true then (isum l, 0) else (0, 26)):=by
 induction d with
 | zero =>
  intro k i hd hi hk hm hs
  obtain ⟨k, rfl⟩ : ∃ m, k = m + 1:=⟨k - 1, by omega⟩
  have : i = l.length:=by omega
  subst this
  rw [List.take_length] at *
  have hw : weighedOk l = true:=by unfold weighedOk;simp only [Bool.and_eq_true, List.all_eq_true, decide_eq_true_eq];exact ⟨hm, hs⟩
  rw [share_weighed.l0, if_neg (by omega), if_pos hw]
 | succ d ih =>
  intro k i hd hi hk hm hs
  obtain ⟨k, rfl⟩ : ∃ m, k = m + 1:=⟨k - 1, by omega⟩
  have hlt : i < l.length:=by omega
  have h0 : 0 ≤ isum (l.take i):=by
   have : ∀ a ∈ l.take i, 0 ≤ a:=fun a ha=>((okMoney_iff a).1 (hm a ha)).1
   have h:=(isum_take_le (l.take i) this (l.take i).length).1
   rwa [List.take_length] at h
  rw [share_weighed.l0, if_pos (by omega), if_pos (by omega), if_pos (by omega), money_val, Option.bind_some]
  by_cases h1 : okMoney (rd l (i : Int)) = true
  ·have hr:=(okMoney_iff _).1 h1
   rw [if_pos h1, w64 _ (by omega) (by omega)]
   have hs':=isum_succ l i hlt
   by_cases h2 : rd l (i : Int) > 1152921504606846976 - isum (l.take i)
   ·rw [if_pos h2]
    have hf : ¬ weighedOk l = true:=by
     intro hw
     unfold weighedOk at hw
     simp only [Bool.and_eq_true, List.all_eq_true, decide_eq_true_eq] at hw
     have:=(isum_take_le l (fun a ha=>((okMoney_iff a).1 (hw.1 a ha)).1) (i + 1)).2
     omega
    rw [if_neg hf]
   ·rw [if_neg h2, w64 _ (by omega) (by omega), w64 _ (by omega) (by omega), ← hs']
    have e : ((i : Int) + 1) = ((i + 1 : Nat) : Int):=by omega
    rw [e]
    refine ih k (i + 1) (by omega) (by omega) (by omega) ?_ (by omega)
    intro a ha
    rw [rd_take l i hlt] at ha
    rcases List.mem_append.1 ha with h | h
    ·exact hm a h
    ·rw [List.mem_singleton.1 h];exact h1
  ·rw [if_neg h1]
   have hf : ¬ weighedOk l = true:=by
    intro hw
    unfold weighedOk at hw
    simp only [Bool.and_eq_true, List.all_eq_true, decide_eq_true_eq] at hw
    exact h1 (hw.1 _ (rd_mem l i hlt))
   rw [if_neg hf]
theorem weighed_val (l : List Int) (k : Nat) (hk : l.length < k ∨ 1024 < l.length) : share_weighed.f k l = some (if l.length > 1024 then (0, 8) else if weighedOk l = true then (isum l, 0) else (0, 26)):=by
 unfold share_weighed.f
 by_cases h : l.length > 1024
 ·rw [if_pos (by omega), if_pos h]
 ·rw [if_neg (by omega), if_neg h]
  have:=weighed_go l (by omega) l.length k 0 (by omega) (by omega) (by omega) (by simp) (by simp [isum])
  simpa [isum] using this
theorem two63 : (2 : Int) ^ 63 = 9223372036854775808:=by decide
theorem and_one (n : Int) (h : 0 ≤ n) (h2 : n ≤ 1152921504606846976) : Go.bits .and .i64 n 1 = n % 2:=by
 have h:=bits_mask .i64 63 (by decide) (fun n h0 h1=>by rw [two63] at h1;rw [IntKind.wrap_i64];omega) 1 (by decide) n h (by rw [two63];omega)
 have e : ((2 : Int) ^ 1 - 1) = 1:=by decide
 rw [e] at h
 rw [h]
 omega
theorem half_step (W : Int) (n : Nat) : W / 2 ^ n = 2 * (W / 2 ^ (n + 1)) + (W / 2 ^ n) % 2:=by
 have e : W / 2 ^ (n + 1) = (W / 2 ^ n) / 2:=by
  rw [show (2 : Int) ^ (n + 1) = 2 ^ n * 2 from Int.pow_succ 2 n, Int.ediv_ediv, if_neg (by have : (0 : Int) < 2 ^ n:=Int.pow_pos (by decide);omega), Int.sub_zero]
 rw [e];omega
theorem shr_val (W : Int) (i : Int) (h0 : 0 ≤ i) (h1 : i ≤ 60) : shr .i64 W (wrap64 (60 - i)) = W / 2 ^ (60 - i).toNat:=by
 rw [w64 _ (by omega) (by omega)]
 unfold shr
 rw [Nat.min_eq_left (by show (60 - i).toNat ≤ 64;omega)]
theorem quot_go (T A W : Int) (hT : 0 ≤ T ∧ T ≤ 1152921504606846976) (hA : 0 < A ∧ A ≤ 1152921504606846976) (hW : 0 ≤ W ∧ W ≤ A) (d : Nat) : ∀ (k : Nat) (i q r : Int), (61 - i) = d → 0 ≤ i → d < k → q * A + r = T * (W / 2 ^ (61 - i).toNat) → 0 ≤ q → 0 ≤ r → r < A →
  share_quotient.l0 k T W A q r i = some (T * W / A, T * W % A):=by
 induction d with
 | zero =>
  intro k i q r hd hi hk he hq hr hr2
  obtain ⟨k, rfl⟩ : ∃ m, k = m + 1:=⟨k - 1, by omega⟩
  rw [share_quotient.l0, if_neg (by omega)]
  rw [show (61 - i).toNat = 0 by omega, show (2 : Int) ^ 0 = 1 from rfl, Int.ediv_one] at he
  obtain ⟨h1, h2⟩:=(Int.ediv_emod_unique (a:=T * W) (q:=q) (r:=r) hA.1).2 ⟨by rw [← he, Int.mul_comm];omega, hr, hr2⟩
  rw [h1, h2]
 | succ d ih =>
  intro k i q r hd hi hk he hq hr hr2
  obtain ⟨k, rfl⟩ : ∃ m, k = m + 1:=⟨k - 1, by omega⟩
  have hs:=half_step W (60 - i).toNat
  rw [show (60 - i).toNat + 1 = (61 - i).toNat by omega] at hs
  have hpos : (0 : Int) < 2 ^ (60 - i).toNat:=Int.pow_pos (by decide)
  have hW1 : 0 ≤ W / 2 ^ (60 - i).toNat:=Int.ediv_nonneg hW.1 (Int.le_of_lt hpos)
  have hW2 : W / 2 ^ (60 - i).toNat ≤ W:=Int.ediv_le_self _ hW.1
  have hpos2 : (0 : Int) < 2 ^ (61 - i).toNat:=Int.pow_pos (by decide)
  have hV1 : 0 ≤ W / 2 ^ (61 - i).toNat:=Int.ediv_nonneg hW.1 (Int.le_of_lt hpos2)
  have hqT : q ≤ T:=by
   have h1 : T * (W / 2 ^ (61 - i).toNat) ≤ T * A:=Int.mul_le_mul_of_nonneg_left (by omega) hT.1
   exact Int.le_of_mul_le_mul_right (by omega) hA.1
  rw [share_quotient.l0, if_pos (by omega), if_pos (by rw [w64 (60 - i) (by omega) (by omega)];omega), shr_val W i hi (by omega), and_one _ hW1 (by omega), if_neg (show ¬ A = 0 by omega), if_neg (show ¬ A = 0 by omega)]
  generalize hWg : W / 2 ^ (60 - i).toNat = W' at *
  generalize hVg : W / 2 ^ (61 - i).toNat = V at *
  rw [w64 (i + 1) (by omega) (by omega), w64 (2 * q) (by omega) (by omega), w64 (2 * r) (by omega) (by omega)]
  have step : ∀ r' : Int, 0 ≤ r' → r' ≤ 3458764513820540928 → 2 * (T * V) + (r' - 2 * r) = T * W' →
    share_quotient.l0 k T W A (wrap64 (2 * q + wrap64 (Int.tdiv r' A))) (Int.tmod r' A) (i + 1) = some (T * W / A, T * W % A):=by
   intro r' h0 h1 h2
   rw [Int.tdiv_eq_ediv_of_nonneg h0, Int.tmod_eq_emod_of_nonneg h0]
   have hd0 : 0 ≤ r' / A:=Int.ediv_nonneg h0 (by omega)
   have hd1 : r' / A ≤ r':=Int.ediv_le_self _ h0
   have hm0 : 0 ≤ r' % A:=Int.emod_nonneg _ (by omega)
   have hm1 : r' % A < A:=Int.emod_lt_of_pos _ hA.1
   have hdm:=Int.mul_ediv_add_emod r' A
   rw [w64 (r' / A) (by omega) (by omega), w64 _ (by omega) (by omega)]
   refine ih k (i + 1) _ _ (by omega) (by omega) (by omega) ?_ (by omega) hm0 hm1
   rw [show (61 - (i + 1)).toNat = (60 - i).toNat by omega, hWg]
   rw [Int.add_mul, Int.mul_assoc, Int.mul_comm (r' / A) A];omega
  have hsT : T * W' = 2 * (T * V) + T * (W' % 2):=by
   conv=>lhs;rw [hs]
   rw [Int.mul_add, ← Int.mul_assoc, Int.mul_comm T 2, Int.mul_assoc]
  by_cases hb : W' % 2 = 1
  ·rw [if_pos hb, w64 (2 * r + T) (by omega) (by omega)]
   refine step _ (by omega) (by omega) ?_
   rw [hsT, hb];omega
  ·rw [if_neg hb]
   refine step _ (by omega) (by omega) ?_
   have hb0 : W' % 2 = 0:=by omega
   rw [hsT, hb0];omega
theorem quot_val (T W A : Int) (hT : 0 ≤ T ∧ T ≤ 1152921504606846976) (hA : 0 < A ∧ A ≤ 1152921504606846976) (hW : 0 ≤ W ∧ W ≤ A) (k : Nat) (hk : 61 < k) : share_quotient.f k T W A = some (T * W / A, T * W % A):=by
 unfold share_quotient.f
 refine quot_go T A W hT hA hW 61 k 0 0 0 (by omega) (by omega) hk ?_ (by omega) (by omega) hA.1
 have : W / 2 ^ (61 - (0 : Int)).toNat = 0:=Int.ediv_eq_zero_of_lt hW.1 (by show W < 2305843009213693952;omega)
 rw [this];simp

theorem bestGo_snoc (l xs : List Int) (r : Int) : ∀ i b, bestGo l (xs ++ [r]) i b = if l.getD (bestGo l xs i b) 0 < r then i + xs.length else bestGo l xs i b:=by
 induction xs with
 | nil=>intro i b;rfl
 | cons x xs ih=>intro i b;simp only [List.cons_append, bestGo, ih, List.length_cons];congr 1;omega
theorem bestGo_lt (l : List Int) (n : Nat) : ∀ (xs : List Int) i b, b < n → i + xs.length ≤ n → bestGo l xs i b < n:=by
 intro xs
 induction xs with
 | nil=>intro i b h _;exact h
 | cons x xs ih =>
  intro i b h hn
  simp only [bestGo]
  refine ih _ _ ?_ (by simp only [List.length_cons] at hn;omega)
  split
  ·simp only [List.length_cons] at hn;omega
  ·exact h
theorem best_lt (l : List Int) (h : 0 < l.length) : best l < l.length:=bestGo_lt l l.length l 0 0 h (by omega)
set_option maxHeartbeats 1000000 in
set_option maxRecDepth 100000 in
theorem greatest_any (g b c : Nat) (l : List Int) (w : World) (hpos : 0 < l.length) (hmax : l.length ≤ 1024) (hg : w.heap[g]? = some (.cells #[.slice (some ⟨b, 0, none⟩) l.length c] 29 (0, 0))) (hr : Kd.C (Kd.int .i64) w (some ⟨b, 0, none⟩) l.length l) :
  Calls Try.prog 32 #[.pointer (some ⟨g, 0, none⟩)] w fun e w'=>e = .returned (.int .i64 (best l : Int)) ∧ Drawn0 w w':=by
 have HG:=Aside0.mk hg
 have HR:=Aside0.mk hr
 have gc : w.cell? ⟨g, 0, none⟩ = some (.slice (some ⟨b, 0, none⟩) l.length c):=by rw [blk_cell hg 0];rfl
 clear hg hr
 go_enter Try.func32, Try.ntmps32
 go_wp2_with fail
 go_loop [2, 7] (fun v2 v7=>∃ (i j : Int), 0 ≤ i ∧ i ≤ l.length ∧ v7 = .int .i64 i ∧ v2 = .int .i64 j ∧ Aside0 (j = (bestGo l (l.take i.toNat) 0 0 : Nat))) (fun _ v7=>l.length - (intOf v7).toNat)
 case atStart=>exact ⟨0, 0, by omega, by omega, rfl, rfl, ⟨rfl⟩⟩
 case round =>
  obtain ⟨i, j, h0, h1, rfl, rfl, hj⟩:=hrel
  by_cases hlt : i < (l.length : Int)
  ·have hb : bestGo l (l.take i.toNat) 0 0 < l.length:=bestGo_lt l l.length (l.take i.toNat) 0 0 hpos (by rw [List.length_take];omega)
   have hj0 : 0 ≤ j:=by rw [hj.out];omega
   have hj1 : j < (l.length : Int):=by rw [hj.out];omega
   have hsn : ((bestGo l (l.take (i + 1).toNat) 0 0 : Nat) : Int) = if rd l j < rd l i then i else j:=by
    rw [show (i + 1).toNat = i.toNat + 1 by omega, rd_take l i.toNat (by omega), bestGo_snoc, List.length_take, Nat.min_eq_left (by omega), Nat.zero_add]
    have e1 : rd l j = l.getD (bestGo l (l.take i.toNat) 0 0) 0:=by unfold rd;rw [hj.out, Int.toNat_natCast]
    rw [e1, show ((i.toNat : Nat) : Int) = i by omega]
    have hjo:=hj.out
    split <;> omega
   have HS:=Aside0.mk hsn
   clear hsn hb
   obtain ⟨ad, e1, hc1⟩:=Kd.at_int HR.out i h0 hlt
   cases e1
   rw [add_plain] at hc1
   obtain ⟨ad, e2, hc2⟩:=Kd.at_int HR.out j hj0 hj1
   cases e2
   rw [add_plain] at hc2
   go_wp2
   all_goals go_round
   all_goals first
    | (show _ < _;simp [intOf];omega)
    | (refine ⟨i + 1, _, by omega, by omega, rfl, rfl, ⟨?_⟩⟩;rw [HS.out];first | rw [if_pos ‹_›] | rw [if_neg (by omega)])
  ·have : i = l.length:=by omega
   subst this
   go_wp2
   go_ret
   have hjb : j = (best l : Int):=by rw [hj.out, Int.toNat_natCast, List.take_length];rfl
   exact ⟨congrArg (fun z=>Ending.returned (.int .i64 z)) hjb, Drawn0.refl _⟩

theorem isum_quos (T A : Int) (hT : 0 ≤ T) (hA : 0 < A) (l : List Int) (h : ∀ a ∈ l, 0 ≤ a) : 0 ≤ isum (quos T A l) ∧ A * isum (quos T A l) ≤ T * isum l:=by
 induction l with
 | nil=>simp [quos, isum]
 | cons a l ih =>
  have ih:=ih (fun b hb=>h b (List.mem_cons_of_mem _ hb))
  have ha:=h a List.mem_cons_self
  have h1 : 0 ≤ T * a / A:=Int.ediv_nonneg (Int.mul_nonneg hT ha) (Int.le_of_lt hA)
  have h2:=Int.mul_ediv_add_emod (T * a) A
  have h3:=Int.emod_nonneg (T * a) (show A ≠ 0 by omega)
  simp only [quos, List.map_cons, isum] at *
  rw [Int.mul_add, Int.mul_add]
  omega
theorem left_range (T : Int) (l : List Int) (hT : 0 ≤ T) (hA : 0 < isum l) (h : ∀ a ∈ l, 0 ≤ a) (i : Nat) : 0 ≤ T - isum (quos T (isum l) (l.take i)) ∧ T - isum (quos T (isum l) (l.take i)) ≤ T:=by
 have h1:=isum_quos T (isum l) hT hA (l.take i) (fun a ha=>h a (List.mem_of_mem_take ha))
 have h2:=isum_take_le l h i
 have h3 : isum l * isum (quos T (isum l) (l.take i)) ≤ isum l * T:=by
  rw [Int.mul_comm (isum l) T]
  exact Int.le_trans h1.2 (Int.mul_le_mul_of_nonneg_left h2.2 hT)
 have:=Int.le_of_mul_le_mul_left h3 hA
 omega
theorem quos_snoc (T A : Int) (l : List Int) (i : Nat) (h : i < l.length) : quos T A (l.take (i + 1)) = quos T A (l.take i) ++ [T * rd l (i : Int) / A]:=by
 rw [rd_take l i h];simp [quos]
def restRow (T A : Int) (l : List Int) (i : Nat) : List Int:=remsOf T A (l.take i) ++ List.replicate (l.length - i) 0
theorem restRow_len (T A : Int) (l : List Int) (i : Nat) (h : i ≤ l.length) : (restRow T A l i).length = l.length:=by
 simp [restRow, remsOf];omega
theorem restRow_set (T A : Int) (l : List Int) (i : Nat) (h : i < l.length) : (restRow T A l i).set i (T * rd l (i : Int) % A) = restRow T A l (i + 1):=by
 unfold restRow
 have hn : (remsOf T A (l.take i)).length = i:=by simp [remsOf];omega
 rw [List.set_append_right _ _ (by omega), hn, Nat.sub_self, show l.length - i = (l.length - (i + 1)) + 1 by omega, List.replicate_succ, List.set_cons_zero, rd_take l i h]
 simp [remsOf]
theorem restRow_end (T A : Int) (l : List Int) : restRow T A l l.length = remsOf T A l:=by
 simp [restRow]
theorem giveMany_snoc (n : Nat) : ∀ p, giveMany (n + 1) p = giveOne (giveMany n p):=by
 induction n with
 | zero=>intro p;rfl
 | succ n ih=>intro p;rw [giveMany, ih];rfl
theorem giveMany_len (n : Nat) : ∀ p : List Int × List Int, (giveMany n p).1.length = p.1.length ∧ (giveMany n p).2.length = p.2.length:=by
 induction n with
 | zero=>intro p;exact ⟨rfl, rfl⟩
 | succ n ih=>intro p;rw [giveMany];have:=ih (giveOne p);simpa [giveOne] using this
theorem giveMany_le (n : Nat) (M : Int) : ∀ p : List Int × List Int, (∀ a ∈ p.1, 0 ≤ a ∧ a ≤ M) → ∀ a ∈ (giveMany n p).1, 0 ≤ a ∧ a ≤ M + n:=by
 induction n with
 | zero=>intro p h a ha;have:=h a ha;omega
 | succ n ih =>
  intro p h a ha
  rw [giveMany_snoc] at ha
  have ih:=ih p h
  unfold giveOne at ha
  rcases List.mem_or_eq_of_mem_set ha with h1 | h1
  ·have:=ih a h1;omega
  ·by_cases hb : best (giveMany n p).2 < (giveMany n p).1.length
   ·have:=ih _ (List.getElem_mem hb)
    rw [List.getD_eq_getElem?_getD, List.getElem?_eq_getElem hb] at h1
    simp only [Option.getD_some] at h1
    omega
   ·rw [List.getD_eq_getElem?_getD, List.getElem?_eq_none (by omega)] at h1
    simp only [Option.getD_none] at h1
    by_cases hz : (giveMany n p).1 = []
    ·rw [hz] at ha;simp at ha
    ·have h0:=ih _ (List.getElem_mem (List.length_pos_iff.2 hz))
     omega

theorem mem_le_isum (l : List Int) (h : ∀ a ∈ l, 0 ≤ a) (x : Int) (hx : x ∈ l) : x ≤ isum l:=by
 induction l with
 | nil=>simp at hx
 | cons a l ih =>
  have h0:=(isum_take_le l (fun b hb=>h b (List.mem_cons_of_mem _ hb)) l.length).1
  rw [List.take_length] at h0
  have ha:=h a List.mem_cons_self
  simp only [isum]
  rcases List.mem_cons.1 hx with rfl | hx
  ·omega
  ·have:=ih (fun b hb=>h b (List.mem_cons_of_mem _ hb)) hx;omega
def share_Split.f (a0 : Int) (l1 : List Int) : Option (List Int × Int):=some (if okMoney a0 = true then (if l1.length > 1024 then ([], 8) else if weighedOk l1 = true then (if isum l1 = 0 then ([], 26) else (splitParts a0 (isum l1) l1, 0)) else ([], 26)) else ([], 2))
set_option maxHeartbeats 1000000 in
set_option maxRecDepth 100000 in
theorem split_bad (a0 : Int) (A1 : Option Addr) (c1 : Nat) (l1 : List Int) (w : World) (HM : Aside0 (share_money.f a0 = some false)) :
  Calls Try.prog 13 #[.int .i64 a0, .slice A1 l1.length c1] w fun e w'=>e = .returned (.tuple #[.slice none 0 0, .int .i64 2]) ∧ Drawn0 w w':=by
 go_enter Try.func13, Try.ntmps13
 go_wp2_with (go_at_call 29;refine (share_money.calls a0 false _ HM.out).mono ?_;rintro e w1 ⟨rfl, hd⟩)
 go_ret2
 exact ⟨rfl, ‹_›⟩
set_option maxHeartbeats 1000000 in
set_option maxRecDepth 100000 in
theorem split_err (a0 : Int) (A1 : Option Addr) (c1 k : Nat) (l1 : List Int) (w : World) (HM : Aside0 (share_money.f a0 = some true)) (x e2 : Int) (HR : Aside0 (Kd.C (Kd.int .i64) w A1 l1.length l1)) (HC : Aside0 (l1.length ≤ c1)) (HW : Aside0 (share_weighed.f k l1 = some (x, e2))) (hne : ¬ e2 = 0) :
  Calls Try.prog 13 #[.int .i64 a0, .slice A1 l1.length c1] w fun e w'=>e = .returned (.tuple #[.slice none 0 0, .int .i64 e2]) ∧ Below w.heap.size w w':=by
 replace hne:=bne_iff_ne.2 hne
 go_enter Try.func13, Try.ntmps13
 go_wp2_with fail
 refine (share_money.calls a0 true _ HM.out).mono ?_
 rintro e w1 ⟨rfl, hd⟩
 go_wp2_with fail
 refine (share_weighed.calls k _ _ l1 x e2 _ (Kd.C_below HR.out hd.below) HC.out HW.out).mono ?_
 rintro e w2 ⟨rfl, hd2⟩
 go_wp2
 go_ret2
 exact ⟨rfl, below_step hd.below hd2.below⟩
set_option maxHeartbeats 1000000 in
set_option maxRecDepth 100000 in
theorem split_none (a0 : Int) (A1 : Option Addr) (c1 k : Nat) (l1 : List Int) (w : World) (HM : Aside0 (share_money.f a0 = some true)) (HR : Aside0 (Kd.C (Kd.int .i64) w A1 l1.length l1)) (HC : Aside0 (l1.length ≤ c1)) (HW : Aside0 (share_weighed.f k l1 = some (0, 0))) :
  Calls Try.prog 13 #[.int .i64 a0, .slice A1 l1.length c1] w fun e w'=>e = .returned (.tuple #[.slice none 0 0, .int .i64 26]) ∧ Below w.heap.size w w':=by
 go_enter Try.func13, Try.ntmps13
 go_wp2_with fail
 refine (share_money.calls a0 true _ HM.out).mono ?_
 rintro e w1 ⟨rfl, hd⟩
 go_wp2_with fail
 refine (share_weighed.calls k _ _ l1 0 0 _ (Kd.C_below HR.out hd.below) HC.out HW.out).mono ?_
 rintro e w2 ⟨rfl, hd2⟩
 go_wp2
 go_ret2
 exact ⟨rfl, below_step hd.below hd2.below⟩
set_option maxHeartbeats 4000000 in
set_option maxRecDepth 100000 in
theorem split_main (T : Int) (A1 : Option Addr) (c1 k : Nat) (l1 : List Int) (w : World) (hT0 : 0 ≤ T) (hT1 : T ≤ 1152921504606846976) (hlen : l1.length ≤ 1024) (A : Int) (HA : Aside0 (A = isum l1)) (hA0 : 0 < A) (hA1 : A ≤ 1152921504606846976) (HP : Aside0 (∀ a ∈ l1, 0 ≤ a)) (HM : Aside0 (share_money.f T = some true)) (HR : Aside0 (Kd.C (Kd.int .i64) w A1 l1.length l1)) (HC : Aside0 (l1.length ≤ c1)) (HW : Aside0 (share_weighed.f k l1 = some (A, 0))) :
  Calls Try.prog 13 #[.int .i64 T, .slice A1 l1.length c1] w fun e w'=>∃ v0_ : Value, e = .returned (.tuple #[v0_, .int .i64 0]) ∧ Kd.R (Kd.int .i64) 3 w' w.heap.size (fun _=>True) v0_ (splitParts T A l1) ∧ Below w.heap.size w w':=by
 have hAn : (A == 0) = false:=by simp;omega
 have hmk:=print_make (P:=Try.prog) 29 3 .i64 8 Try.underlying29 info_share (by decide) l1.length (by omega)
 go_enter Try.func13, Try.ntmps13
 go_wp2_with fail
 refine (share_money.calls T true _ HM.out).mono ?_
 rintro e w1 ⟨rfl, hd⟩
 go_wp2_with fail
 refine (share_weighed.calls k _ _ l1 A 0 _ (Kd.C_below HR.out hd.below) HC.out HW.out).mono ?_
 rintro e wA ⟨rfl, hd2⟩
 have HB:=Aside0.mk (below_step hd.below hd2.below)
 clear hd hd2
 have HZ:=Aside0.mk hA0
 have hpos : 0 < l1.length:=by
  cases hl : l1 with
  | nil=>rw [HA.out, hl] at hA0;simp [isum] at hA0
  | cons a l=>simp
 have HPos:=Aside0.mk hpos
 clear hpos
 go_wp2_with fail
 have hbb : w.heap.size ≤ wA.heap.size:=HB.out.size
 go_loopw [4, 8, 34] (fun v4 v8 v34 wr=>∃ (i lf : Int), 0 ≤ i ∧ i ≤ l1.length ∧ v34 = .int .i64 i ∧ v8 = .int .i64 lf ∧ Aside0 (lf = T - isum (quos T A (l1.take i.toNat))) ∧ Aside0 (Kd.R (Kd.int .i64) 3 wr w.heap.size (fun k=>k ≠ wA.heap.size ∧ k ≠ wA.heap.size + 1) v4 (quos T A (l1.take i.toNat))) ∧ Aside0 (Kd.R (Kd.int .i64) 3 wr w.heap.size (fun k=>k = wA.heap.size) (.slice (some ⟨wA.heap.size, 0, none⟩) l1.length l1.length) (restRow T A l1 i.toNat)) ∧ Aside0 (wr.heap[wA.heap.size + 1]? = some (.cells #[.slice (some ⟨wA.heap.size, 0, none⟩) l1.length l1.length] 29 (0, 0))) ∧ Aside0 (Below w.heap.size w wr)) (fun _ _ v34 _=>l1.length - (intOf v34).toNat)
 case atStart =>
  refine ⟨0, T, by omega, by omega, rfl, rfl, ⟨by simp [quos, isum]⟩, ⟨by simpa [quos] using Kd.R_nil (Kd.int .i64) 3 _ _ _⟩, ⟨?_⟩, ⟨?_⟩, ⟨below_alloc (below_alloc HB.out _) _⟩⟩
  ·have ho:=own_made wA w.heap.size 3 .i64 l1.length hbb (by omega)
   have hR : Kd.R (Kd.int .i64) 3 (wA.alloc (.cells (madeCells #[.int .i64 0] l1.length) 3)) w.heap.size (fun k=>k = wA.heap.size) (.slice (some ⟨wA.heap.size, 0, none⟩) l1.length l1.length) (List.replicate l1.length 0) :=
    Kd.R_of_own (by simpa [encs, nums] using ho) (by intro k_ hk;simp [Value.ownBlock] at hk;omega)
   have e0 : restRow T A l1 (0 : Int).toNat = List.replicate l1.length 0:=by simp [restRow, remsOf]
   rw [e0]
   exact Kd.R_alloc hR _
  ·have e1 : wA.heap.size + 1 = (wA.alloc (.cells (madeCells #[.int .i64 0] l1.length) 3)).heap.size:=by simp
   rw [e1]
   exact blk_new _ _
 case round =>
  obtain ⟨i, lf, h0, h1, rfl, rfl, HL, HO4, HOr, HG, HBr⟩:=hrel
  by_cases hlt : i < (l1.length : Int)
  ·have hrange:=left_range T l1 hT0 (by rw [← HA.out];exact HZ.out) HP.out i.toNat
   have hrange2:=left_range T l1 hT0 (by rw [← HA.out];exact HZ.out) HP.out (i.toNat + 1)
   have hle : rd l1 ((i.toNat : Nat) : Int) ≤ isum l1:=by
    have h1:=isum_succ l1 i.toNat (by omega)
    have h2:=isum_take_le l1 HP.out i.toNat
    have h3:=isum_take_le l1 HP.out (i.toNat + 1)
    omega
   rw [show ((i.toNat : Nat) : Int) = i by omega] at hle
   have hge : 0 ≤ rd l1 i:=by
    have:=HP.out _ (rd_mem l1 i.toNat (by omega))
    rwa [show ((i.toNat : Nat) : Int) = i by omega] at this
   have hqv:=quot_val T (rd l1 i) A ⟨hT0, hT1⟩ ⟨hA0, hA1⟩ ⟨hge, by rw [HA.out];exact hle⟩ 62 (by omega)
   have hqs:=quos_snoc T A l1 i.toNat (by omega)
   rw [show ((i.toNat : Nat) : Int) = i by omega] at hqs
   have hrs:=restRow_set T A l1 i.toNat (by omega)
   rw [show ((i.toNat : Nat) : Int) = i by omega] at hrs
   rw [← HA.out, hqs, isum_append] at hrange2
   rw [← HA.out] at hrange
   simp only [isum] at hrange2
   have hq0 : 0 ≤ T * rd l1 i / A:=Int.ediv_nonneg (Int.mul_nonneg hT0 hge) (by omega)
   have HQ:=Aside0.mk hqv
   have HQS:=Aside0.mk hqs
   have HRS:=Aside0.mk hrs
   clear hqv hqs hrs hle hge
   generalize T * rd l1 i / A = q at *
   generalize T * rd l1 i % A = r at *
   have hlf0 : 0 ≤ lf:=by rw [HL.out];omega
   have hlf1 : lf ≤ T:=by rw [HL.out];omega
   have hlq : 0 ≤ lf - q:=by rw [HL.out];omega
   clear hrange hrange2
   obtain ⟨ad, e1, hc1⟩:=Kd.at_int (Kd.C_below HR.out HBr.out) i h0 hlt
   cases e1
   go_wp2_with fail
   refine (share_quotient.calls 62 T (rd l1 i) A q r _ HQ.out).mono ?_
   rintro e w3 ⟨rfl, hd⟩
   have n4:=Aside0.mk (Kd.R_below HO4.out hd.below)
   have nr:=Aside0.mk (Kd.R_below HOr.out hd.below)
   have ng:=Aside0.mk (blk_below HG.out hd.below)
   have nb:=Aside0.mk (below_step HBr.out hd.below)
   clear HO4 HOr HG HBr hc1 hd
   have LL : (quos T A (l1.take i.toNat)).length ≤ 1024:=by unfold quos;rw [List.length_map, List.length_take];omega
   have LM:=Aside0.mk LL
   clear LL
   go_wp2_with (first | ((with_reducible refine gate_builtin (b:=.append) (xs:=#[.tmp 46, .tmp 48]) rfl ?_);at_builtin;refine Kd.R_append (Kd.int .i64) (w0:=w) w.heap.size rfl (.tmp 46) (.tmp 48) 29 3 (.int .i64 0) 8 rfl Try.underlying29 info_share rfl (by decide) (by omega) _ _ q [.int .i64 q] (fun k=>k ≠ wA.heap.size ∧ k ≠ wA.heap.size + 1) (fun _=>False) rfl rfl ?aP (fun _ hk=>hk.elim) ?aF n4.out nb.out ?aS ?aL ?_;(case aP=>exact rfl);(case aF=>intro k_ hk;have:=blk_lt ng.out;omega);(case aS=>exact below_size nb.out);(case aL=>have:=LM.out;omega);intro v6 w6 ho hb hg hat;have m4:=Aside0.mk ho;have mr:=Aside0.mk (Kd.R_grown nr.out hg (fun k hk he=>(n4.out.1 k he.symm).1 hk));have mg:=Aside0.mk (blk_grown ng.out hg (fun he=>(n4.out.1 _ he.symm).2 rfl));have mb:=Aside0.mk hb;clear n4 nr ng nb ho hb hg hat;have gc:=blk_cell mg.out 0;have hgs:=(Kd.R_celln 0 mr.out i h0 hlt).1;have hgf:=(Kd.R_celln 0 mr.out i h0 hlt).2))
   have e1 : (i + 1).toNat = i.toNat + 1:=by omega
   go_roundw
   case measure=>show _ < _;simp [intOf];omega
   case rel =>
    refine ⟨i + 1, lf - q, by omega, by omega, rfl, rfl, ⟨?_⟩, ⟨?_⟩, ⟨?_⟩, ⟨?_⟩, ⟨below_set mb.out hbb⟩⟩
    ·rw [e1, HQS.out, isum_append, HL.out];simp only [isum];omega
    ·rw [e1, HQS.out];exact Kd.R_far m4.out (fun k hk=>hk.1) _
    ·rw [e1, ← HRS.out];exact (Kd.R_putg mr.out i r).1
    ·exact blk_far mg.out (by simp) _
  ·have hi : i.toNat = l1.length:=by omega
   rw [hi, List.take_length] at HL HO4
   rw [hi, restRow_end] at HOr
   have hrange:=left_range T l1 hT0 (by rw [← HA.out];exact HZ.out) HP.out l1.length
   rw [List.take_length, ← HA.out] at hrange
   have hlf0 : 0 ≤ lf:=by rw [HL.out];exact hrange.1
   have hlf1 : lf ≤ T:=by rw [HL.out];exact hrange.2
   have ho4len : (quos T A l1).length = l1.length:=by simp [quos]
   have horlen : (remsOf T A l1).length = l1.length:=by simp [remsOf]
   have HL4:=Aside0.mk ho4len
   have HLr:=Aside0.mk horlen
   obtain ⟨g4, cap4, e4, hb4, _, _⟩:=Kd.R_form HO4.out (by rw [ho4len];exact HPos.out)
   rw [ho4len] at e4
   subst e4
   have hg4:=HO4.out.1 g4 (by simp [Value.ownBlock])
   have hqb : ∀ a ∈ quos T A l1, 0 ≤ a ∧ a ≤ T:=by
    intro a ha
    obtain ⟨x, hx, rfl⟩:=List.mem_map.1 ha
    have hx0:=HP.out x hx
    have hx1 : x ≤ A:=by rw [HA.out];exact mem_le_isum l1 HP.out x hx
    refine ⟨Int.ediv_nonneg (Int.mul_nonneg hT0 hx0) (by omega), ?_⟩
    have:=Int.ediv_le_ediv hA0 (Int.mul_le_mul_of_nonneg_left hx1 hT0)
    rwa [Int.mul_ediv_cancel _ (by omega)] at this
   have HQB:=Aside0.mk hqb
   clear hqb ho4len horlen hrange hi
   go_wp2_with fail
   go_loopw [60] (fun v60 wr=>∃ j : Int, 0 ≤ j ∧ j ≤ lf ∧ v60 = .int .i64 j ∧ Aside0 (Kd.R (Kd.int .i64) 3 wr w.heap.size (fun k=>k ≠ wA.heap.size ∧ k ≠ wA.heap.size + 1) (.slice (some ⟨g4, 0, none⟩) l1.length cap4) (giveMany j.toNat (quos T A l1, remsOf T A l1)).1) ∧ Aside0 (Kd.R (Kd.int .i64) 3 wr w.heap.size (fun k=>k = wA.heap.size) (.slice (some ⟨wA.heap.size, 0, none⟩) l1.length l1.length) (giveMany j.toNat (quos T A l1, remsOf T A l1)).2) ∧ Aside0 (wr.heap[wA.heap.size + 1]? = some (.cells #[.slice (some ⟨wA.heap.size, 0, none⟩) l1.length l1.length] 29 (0, 0))) ∧ Aside0 (Below w.heap.size w wr)) (fun v60 _=>(lf - intOf v60).toNat)
   case atStart=>exact ⟨0, by omega, hlf0, rfl, HO4, HOr, HG, HBr⟩
   case round =>
    clear HO4 HOr HG HBr
    obtain ⟨j, hj0, hj1, rfl, HO4, HOr, HG, HBr⟩:=hrel
    have hgl:=giveMany_len j.toNat (quos T A l1, remsOf T A l1)
    rw [HL4.out, HLr.out] at hgl
    have hgle:=giveMany_le j.toNat T (quos T A l1, remsOf T A l1) HQB.out
    by_cases hlt2 : j < lf
    ·have hsn : giveMany (j + 1).toNat (quos T A l1, remsOf T A l1) = giveOne (giveMany j.toNat (quos T A l1, remsOf T A l1)):=by
      rw [show (j + 1).toNat = j.toNat + 1 by omega, giveMany_snoc]
     have HSN:=Aside0.mk hsn
     have HGL:=Aside0.mk hgl
     clear hsn hgl
     generalize giveMany j.toNat (quos T A l1, remsOf T A l1) = p at *
     have hbl:=best_lt p.2 (by rw [HGL.out.2];exact HPos.out)
     rw [HGL.out.2] at hbl
     have hC:=(Kd.R_reads' HOr.out).2.2
     go_wp2_with fail
     refine (greatest_any (wA.heap.size + 1) wA.heap.size l1.length p.2 _ (by rw [HGL.out.2];exact HPos.out) (by rw [HGL.out.2];exact hlen) (by rw [HGL.out.2];exact HG.out) hC).mono ?_
     rintro e w4 ⟨rfl, hd⟩
     have hm0 : (0 : Int) ≤ ((best p.2 : Nat) : Int):=by omega
     have hm1 : ((best p.2 : Nat) : Int) < (l1.length : Int):=by omega
     generalize hm : ((best p.2 : Nat) : Int) = m at *
     have Hm:=Aside0.mk hm
     clear hm hbl hC
     have n4:=Kd.R_below HO4.out hd.below
     have nr:=Kd.R_below HOr.out hd.below
     have ng:=blk_below HG.out hd.below
     have NB:=Aside0.mk (below_step HBr.out hd.below)
     clear HO4 HOr HG HBr hd
     obtain ⟨hx, hxf⟩:=Kd.R_celln 0 n4 m hm0 hm1
     have hxr : 0 ≤ rdOf 0 p.1 m ∧ rdOf 0 p.1 m ≤ T + j:=by
      have hlt3 : m.toNat < p.1.length:=by rw [HGL.out.1];omega
      have h5:=hgle _ (List.getElem_mem hlt3)
      unfold rdOf
      rw [List.getD_eq_getElem?_getD, List.getElem?_eq_getElem hlt3]
      simp only [Option.getD_some]
      omega
     obtain ⟨hx0, hx1⟩:=hxr
     generalize hxn : rdOf 0 p.1 m = x at *
     have HX:=Aside0.mk hxn
     clear hxn hgle
     have m4:=(Kd.R_putg n4 m (x + 1)).1
     have mr:=Kd.R_far nr (p:=⟨g4, m.toNat, none⟩) (fun k hk=>by show k ≠ g4;omega) (.int .i64 (x + 1))
     have mg:=blk_far ng (p:=⟨g4, m.toNat, none⟩) (by show wA.heap.size + 1 ≠ g4;omega) (.int .i64 (x + 1))
     have gc:=blk_cell mg 0
     obtain ⟨hy, hyf⟩:=Kd.R_celln 0 mr m hm0 hm1
     have M4:=Aside0.mk (Kd.R_far m4 (p:=⟨wA.heap.size, m.toNat, none⟩) (fun k hk=>hk.1) (.int .i64 (-1)))
     have MR:=Aside0.mk (Kd.R_putg mr m (-1)).1
     have MG:=Aside0.mk (blk_far mg (p:=⟨wA.heap.size, m.toNat, none⟩) (by show wA.heap.size + 1 ≠ wA.heap.size;omega) (.int .i64 (-1)))
     have MB:=Aside0.mk (below_set (j:=m.toNat) (v:=.int .i64 (-1)) (below_set (j:=m.toNat) (v:=.int .i64 (x + 1)) NB.out hb4) hbb)
     clear n4 nr ng NB m4 mr mg
     go_wp2
     go_roundw
     case measure=>show _ < _;simp [intOf];omega
     case rel =>
      have hp1 : (giveOne p).1 = p.1.set m.toNat (x + 1):=by
       unfold giveOne
       rw [show best p.2 = m.toNat by have:=Hm.out;omega, ← HX.out]
       rfl
      have hp2 : (giveOne p).2 = p.2.set m.toNat (-1):=by
       unfold giveOne
       rw [show best p.2 = m.toNat by have:=Hm.out;omega]
      exact ⟨j + 1, by omega, by omega, rfl, ⟨by rw [HSN.out, hp1];exact M4.out⟩, ⟨by rw [HSN.out, hp2];exact MR.out⟩, MG, MB⟩
    ·have hj : j = lf:=by omega
     have hres : (giveMany j.toNat (quos T A l1, remsOf T A l1)).1 = splitParts T A l1:=by
      unfold splitParts;rw [hj, HL.out]
     rw [hres] at HO4
     have HJ:=Aside0.mk hj
     clear hj hres hgl hgle
     go_wp2
     go_ret2
     exact ⟨_, rfl, Kd.R_mono HO4.out (fun _ _=>trivial), HBr.out⟩
theorem share_Split.calls (a0 : Int) (A1 : Option Addr) (c1 : Nat) (l1 : List Int) (r1 : List Int) (r2 : Int) (w : World) (hr1 : Kd.C (Kd.int .i64) w A1 l1.length l1) (hc1 : l1.length ≤ c1) (h : share_Split.f a0 l1 = some (r1, r2)) :
  Calls Try.prog 13 #[.int .i64 a0, .slice A1 l1.length c1] w fun e w'=>∃ v0_ : Value, e = .returned (.tuple #[v0_, .int .i64 r2]) ∧ Kd.R (Kd.int .i64) 3 w' w.heap.size (fun _=>True) v0_ r1 ∧ Below w.heap.size w w':=by
 have nilR : ∀ (e2 : Int) (W : World), (∃ v0_ : Value, Ending.returned (.tuple #[.slice none 0 0, .int .i64 e2]) = .returned (.tuple #[v0_, .int .i64 e2]) ∧ Kd.R (Kd.int .i64) 3 W w.heap.size (fun _=>True) v0_ [] ∧ True):=fun e2 W=>⟨_, rfl, Kd.R_nil _ _ _ _ _, trivial⟩
 unfold share_Split.f at h
 simp only [Option.some.injEq] at h
 have hmv:=money_val a0
 by_cases hm : okMoney a0 = true
 ·rw [if_pos hm] at h
  rw [hm] at hmv
  have hwv:=weighed_val l1 (l1.length + 1) (by omega)
  by_cases hlen : l1.length > 1024
  ·rw [if_pos hlen] at h hwv
   simp only [Prod.mk.injEq] at h
   obtain ⟨rfl, rfl⟩:=h
   refine (split_err a0 A1 c1 _ l1 w ⟨hmv⟩ 0 8 ⟨hr1⟩ ⟨hc1⟩ ⟨hwv⟩ (by decide)).mono ?_
   rintro e w1 ⟨rfl, hb⟩
   exact ⟨_, rfl, Kd.R_nil _ _ _ _ _, hb⟩
  ·rw [if_neg hlen] at h hwv
   by_cases hw : weighedOk l1 = true
   ·rw [if_pos hw] at h hwv
    have hw2:=hw
    unfold weighedOk at hw2
    simp only [Bool.and_eq_true, List.all_eq_true, decide_eq_true_eq] at hw2
    by_cases hz : isum l1 = 0
    ·rw [if_pos hz] at h
     simp only [Prod.mk.injEq] at h
     obtain ⟨rfl, rfl⟩:=h
     rw [hz] at hwv
     refine (split_none a0 A1 c1 _ l1 w ⟨hmv⟩ ⟨hr1⟩ ⟨hc1⟩ ⟨hwv⟩).mono ?_
     rintro e w1 ⟨rfl, hb⟩
     exact ⟨_, rfl, Kd.R_nil _ _ _ _ _, hb⟩
    ·rw [if_neg hz] at h
     simp only [Prod.mk.injEq] at h
     obtain ⟨rfl, rfl⟩:=h
     have hp : ∀ a ∈ l1, 0 ≤ a:=fun a ha=>((okMoney_iff a).1 (hw2.1 a ha)).1
     have h0:=(isum_take_le l1 hp l1.length).1
     rw [List.take_length] at h0
     have hmm:=(okMoney_iff a0).1 hm
     exact split_main a0 A1 c1 _ l1 w hmm.1 hmm.2 (by omega) (isum l1) ⟨rfl⟩ (by omega) hw2.2 ⟨hp⟩ ⟨hmv⟩ ⟨hr1⟩ ⟨hc1⟩ ⟨hwv⟩
   ·rw [if_neg hw] at h hwv
    simp only [Prod.mk.injEq] at h
    obtain ⟨rfl, rfl⟩:=h
    refine (split_err a0 A1 c1 _ l1 w ⟨hmv⟩ 0 26 ⟨hr1⟩ ⟨hc1⟩ ⟨hwv⟩ (by decide)).mono ?_
    rintro e w1 ⟨rfl, hb⟩
    exact ⟨_, rfl, Kd.R_nil _ _ _ _ _, hb⟩
 ·rw [if_neg hm] at h
  simp only [Prod.mk.injEq] at h
  obtain ⟨rfl, rfl⟩:=h
  rw [Bool.eq_false_iff.2 hm] at hmv
  refine (split_bad a0 A1 c1 l1 w ⟨hmv⟩).mono ?_
  rintro e w1 ⟨rfl, hb⟩
  exact ⟨_, rfl, Kd.R_nil _ _ _ _ _, hb.below⟩


end Go.Proofs.Ytlcadahihcefnaa.PTopAverage
