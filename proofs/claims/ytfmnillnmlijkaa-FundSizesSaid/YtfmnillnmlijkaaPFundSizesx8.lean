/- Laid for this claim by a program of this session's (wip/mkprint.py, wip/ext.py); not trusted: Lean checks it. -/
import Derived.Test.YtfmnillnmlijkaaPFundSizesx0
import Derived.Test.YtfmnillnmlijkaaPFundSizesx2
import Derived.Test.YtfmnillnmlijkaaPFundSizesx6
import Derived.Test.YtfmnillnmlijkaaPFundSizesx7
namespace Go.Proofs.Ytfmnillnmlijkaa.PFundSizes
open Go.RowKit Go.Proofs.YtfmnillnmlijkaaW.PrintWords Go.Proofs.YtfmnillnmlijkaaW.PrintLast Go.Proofs.YtfmnillnmlijkaaW.PrintMore
attribute [local go_sem] max2_int min2_int max_two min_two max_three min_three max_four min_four   -- for this text's walks alone
set_option linter.unusedVariables false
set_option linter.unusedSimpArgs false

/-! ### fund_Parts: function 14 -/
/-! what the members give, in closed form -/
def fitsB (n : Int) : Bool := decide (-1152921504606846976 ≤ n) && decide (n ≤ 1152921504606846976)
theorem fits_some (n : Int) : cents_Fits.f n = some (fitsB n) := by
  unfold cents_Fits.f fitsB
  by_cases h : n ≥ (-1152921504606846976)
  · rw [if_pos h, decide_eq_true (show -1152921504606846976 ≤ n by omega)]; rfl
  · rw [if_neg h, decide_eq_false (show ¬ -1152921504606846976 ≤ n by omega)]; rfl
theorem fmoney_some (n : Int) : fund_money.f n = some (okMoney n) := by
  unfold fund_money.f
  by_cases h : n ≥ 0
  · rw [if_pos h, fits_some]
    show some (fitsB n) = _
    unfold fitsB okMoney
    rw [decide_eq_true (show -1152921504606846976 ≤ n by omega), decide_eq_true (show 0 ≤ n by omega)]
  · rw [if_neg h]; unfold okMoney; rw [decide_eq_false (show ¬ 0 ≤ n by omega)]; rfl
def cntPos : List Int → Int
  | [] => 0
  | n :: l => (if n > 0 then 1 else 0) + cntPos l
theorem cntPos_snoc (l : List Int) (n : Int) : cntPos (l ++ [n]) = cntPos l + (if n > 0 then 1 else 0) := by
  induction l with
  | nil => simp [cntPos]
  | cons a l ih => simp only [List.cons_append, cntPos, ih]; omega
theorem cntPos_range (l : List Int) : 0 ≤ cntPos l ∧ cntPos l ≤ l.length := by
  induction l with
  | nil => simp [cntPos]
  | cons a l ih => simp only [cntPos, List.length_cons]; split <;> omega
def partVal (g n least : Int) : Int := if n > 0 then wrap64 (g + least) else g
def partsGo (least : Int) : List Int → List Int → Int → List Int → List Int × Int
  | g :: gs, n :: ns, sum, acc => if fitsB (partVal g n least) = true ∧ fitsB (wrap64 (sum + partVal g n least)) = true then partsGo least gs ns (wrap64 (sum + partVal g n least)) (acc ++ [partVal g n least]) else ([], 3)
  | _, _, _, acc => (acc, 0)
def partsLeft (size many least : Int) : Int := if least ≤ size / many then size - many * least else 0
def overlay (ps : List Int) : List Int := ps.take 32 ++ List.replicate (32 - ps.length) 0
theorem overlay_len (ps : List Int) : (overlay ps).length = 32 := by
  simp [overlay]; omega
def fund_Parts.f (k : Nat) (size : Int) (needs : List Int) (least : Int) : Option (List Int × Int) :=
  if okMoney size = false ∨ okMoney least = false then some ([], 2)
  else if needs.length > 32 then some ([], 8)
  else if needs.all okMoney = false then some ([], 26)
  else (cents_Sum.f k needs).bind fun t =>
    if ¬ t.2 = 0 ∨ (cntPos needs = 0 ∧ size > 0) then some ([], 26)
    else if cntPos needs = 0 then some (partsGo least (List.replicate 32 0) needs 0 [])
    else (share_Split.f (partsLeft size (cntPos needs) least) needs).bind fun s => if s.2 = 0 then some (partsGo least (overlay s.1) needs 0 []) else some ([], s.2)
theorem fund_Parts.mono : ∀ a0 a1 a2 k, LeO (fund_Parts.f k a0 a1 a2) (fund_Parts.f (k + 1) a0 a1 a2) := by
  intro a0 a1 a2 k
  unfold fund_Parts.f
  refine LeO.ite (LeO.refl _) (LeO.ite (LeO.refl _) (LeO.ite (LeO.refl _) (LeO.bind (cents_Sum.mono _ k) fun t => LeO.refl _)))
set_option maxHeartbeats 1000000 in
set_option maxRecDepth 100000 in
theorem parts_2 (size : Int) (A1 : Option Addr) (c1 : Nat) (needs : List Int) (least : Int) (w : World) (h : okMoney size = false ∨ okMoney least = false) :
    Calls Try.prog 14 #[.int .i64 size, .slice A1 needs.length c1, .int .i64 least] w fun e w' => e = .returned (.tuple #[.slice none 0 0, .int .i64 2]) ∧ Below w.heap.size w w' := by
  have h1 := fmoney_some size
  have h2 := fmoney_some least
  cases hb : okMoney size with
  | false =>
    rw [hb] at h1
    have H1 := Aside0.mk h1
    clear h1 h2 h hb
    go_enter Try.func14, Try.ntmps14
    go_wp2_with (go_at_call 19; refine (fund_money.calls size false _ H1.out).mono ?_; rintro e w1 ⟨rfl, hd⟩)
    go_ret2
    exact ⟨rfl, hd.below⟩
  | true =>
    rw [hb] at h1
    have hc : okMoney least = false := h.resolve_left (by rw [hb]; simp)
    rw [hc] at h2
    have H1 := Aside0.mk h1
    have H2 := Aside0.mk h2
    clear h1 h2 h hb hc
    go_enter Try.func14, Try.ntmps14
    go_wp2_with (go_at_call 19; first | (refine (fund_money.calls size true _ H1.out).mono ?_; rintro e w1 ⟨rfl, ⟨⟨n1, rfl⟩⟩⟩) | (refine (fund_money.calls least false _ H2.out).mono ?_; rintro e w1 ⟨rfl, ⟨⟨n2, rfl⟩⟩⟩))
    go_ret2
    exact ⟨rfl, by repeat (first | exact Below.refl _ _ | apply pw_below_drewN)⟩
set_option maxHeartbeats 1000000 in
set_option maxRecDepth 100000 in
theorem parts_8 (size : Int) (A1 : Option Addr) (c1 : Nat) (needs : List Int) (least : Int) (w : World) (h0 : okMoney size = true) (h1 : okMoney least = true) (h : needs.length > 32) :
    Calls Try.prog 14 #[.int .i64 size, .slice A1 needs.length c1, .int .i64 least] w fun e w' => e = .returned (.tuple #[.slice none 0 0, .int .i64 8]) ∧ Below w.heap.size w w' := by
  have H1 := Aside0.mk ((fmoney_some size).trans (congrArg some h0))
  have H2 := Aside0.mk ((fmoney_some least).trans (congrArg some h1))
  clear h0 h1
  have hl : decide (32 < (needs.length : Int)) = true := decide_eq_true (by omega)
  have hl2 : decide (32 < needs.length) = true := decide_eq_true (by omega)
  go_enter Try.func14, Try.ntmps14
  go_wp2_with (go_at_call 19; first | (refine (fund_money.calls size true _ H1.out).mono ?_; rintro e w1 ⟨rfl, ⟨⟨n1, rfl⟩⟩⟩) | (refine (fund_money.calls least true _ H2.out).mono ?_; rintro e w1 ⟨rfl, ⟨⟨n2, rfl⟩⟩⟩))
  go_ret2
  exact ⟨rfl, by repeat (first | exact Below.refl _ _ | apply pw_below_drewN)⟩
set_option maxHeartbeats 1000000 in
set_option maxRecDepth 100000 in
theorem parts_26 (size : Int) (A1 : Option Addr) (c1 : Nat) (needs : List Int) (least : Int) (w : World) (hr : Kd.C (Kd.int .i64) w A1 needs.length needs) (h0 : okMoney size = true) (h1 : okMoney least = true) (h : needs.length ≤ 32) (ha : needs.all okMoney = false) :
    Calls Try.prog 14 #[.int .i64 size, .slice A1 needs.length c1, .int .i64 least] w fun e w' => e = .returned (.tuple #[.slice none 0 0, .int .i64 26]) ∧ Below w.heap.size w w' := by
  have H1 := Aside0.mk ((fmoney_some size).trans (congrArg some h0))
  have H2 := Aside0.mk ((fmoney_some least).trans (congrArg some h1))
  have HR := Aside0.mk hr
  have HA := Aside0.mk ha
  clear h0 h1 hr ha
  have hl : decide (32 < (needs.length : Int)) = false := decide_eq_false (by omega)
  have hl2 : decide (32 < needs.length) = false := decide_eq_false (by omega)
  go_enter Try.func14, Try.ntmps14
  go_wp2_with (go_at_call 19; first | (refine (fund_money.calls size true _ H1.out).mono ?_; rintro e w1 ⟨rfl, ⟨⟨n1, rfl⟩⟩⟩) | (refine (fund_money.calls least true _ H2.out).mono ?_; rintro e w1 ⟨rfl, ⟨⟨n2, rfl⟩⟩⟩))
  go_loopw [6, 7, 8, 33] (fun v6 v7 v8 v33 wr => ∃ (i : Nat) (m : Int) (nq : Nat), i ≤ needs.length ∧ v6 = .slice none 0 0 ∧ v7 = .int .i64 0 ∧ v8 = .int .i64 m ∧ v33 = .int .i64 i ∧ Aside0 ((needs.take i).all okMoney = true) ∧ Aside0 (0 ≤ m ∧ m ≤ i) ∧ wr = w.drewN nq) (fun _ _ _ v33 _ => needs.length - (intOf v33).toNat)
  case atStart => exact ⟨0, 0, _, by omega, rfl, rfl, rfl, rfl, ⟨rfl⟩, ⟨by omega⟩, rfl⟩
  case round =>
    obtain ⟨i, m, nq, hi, rfl, rfl, rfl, rfl, hall, hm, rfl⟩ := hrel
    by_cases hlt : i < needs.length
    · have hsn : (needs.take (i + 1)).all okMoney = okMoney (needs.getD i 0) := by
        rw [List.take_add_one, List.all_append, hall.out, Bool.true_and, List.getElem?_eq_getElem hlt, List.getD_eq_getElem?_getD, List.getElem?_eq_getElem hlt]; simp
      obtain ⟨ad, e1, hc1⟩ := Kd.at_int HR.out (i : Int) (by omega) (by omega)
      subst e1
      rw [show rd needs (i : Int) = needs.getD i 0 from rfl, Int.toNat_natCast] at hc1
      have hd1 : decide ((i : Int) < (needs.length : Int)) = true := decide_eq_true (by omega)
      have hd2 : decide (i < needs.length) = true := decide_eq_true hlt
      have hmr := hm.out
      have HS := Aside0.mk hsn
      clear hsn
      have HM := Aside0.mk (fmoney_some (needs.getD i 0))
      generalize needs.getD i 0 = n at *
      cases hb : okMoney n with
      | false =>
        rw [hb] at HM
        go_wp2_with (go_at_call 19; refine (fund_money.calls n false _ HM.out).mono ?_; rintro e w1 ⟨rfl, ⟨⟨n3, rfl⟩⟩⟩)
        go_ret2
        exact ⟨rfl, by repeat (first | exact Below.refl _ _ | apply pw_below_drewN)⟩
      | true =>
        rw [hb] at HM HS
        go_wp2_with (go_at_call 19; refine (fund_money.calls n true _ HM.out).mono ?_; rintro e w1 ⟨rfl, ⟨⟨n3, rfl⟩⟩⟩)
        all_goals go_roundw
        all_goals first
          | (show _ < _; simp [intOf]; omega)
          | exact ⟨i + 1, m + 1, nq + n3, by omega, rfl, rfl, by go_num, by go_num, ⟨HS.out⟩, ⟨by omega⟩, by first | rfl | simp [World.drewN_add]⟩
          | exact ⟨i + 1, m, nq + n3, by omega, rfl, rfl, rfl, by go_num, ⟨HS.out⟩, ⟨by omega⟩, by first | rfl | simp [World.drewN_add]⟩
    · have : i = needs.length := by omega
      subst this
      have := hall.out
      rw [List.take_length, HA.out] at this
      cases this
theorem set_mid (acc : List Int) (m : Nat) (x : Int) : (acc ++ List.replicate (m + 1) 0).set acc.length x = (acc ++ [x]) ++ List.replicate m 0 := by
  rw [List.set_append_right _ _ (Nat.le_refl _), Nat.sub_self, List.replicate_succ, List.set_cons_zero, List.append_assoc]; rfl
theorem partsGo_cons (least : Int) (give needs : List Int) (i : Nat) (hi : i < needs.length) (hg : needs.length ≤ give.length) (sum : Int) (acc : List Int) : partsGo least (give.drop i) (needs.drop i) sum acc = if fitsB (partVal (give.getD i 0) (needs.getD i 0) least) = true ∧ fitsB (wrap64 (sum + partVal (give.getD i 0) (needs.getD i 0) least)) = true then partsGo least (give.drop (i + 1)) (needs.drop (i + 1)) (wrap64 (sum + partVal (give.getD i 0) (needs.getD i 0) least)) (acc ++ [partVal (give.getD i 0) (needs.getD i 0) least]) else ([], 3) := by
  rw [List.drop_eq_getElem_cons (show i < give.length by omega), List.drop_eq_getElem_cons hi, partsGo]
  simp only [List.getD_eq_getElem?_getD, List.getElem?_eq_getElem hi, List.getElem?_eq_getElem (show i < give.length by omega), Option.getD_some]
theorem partsGo_end (least : Int) (give : List Int) (sum : Int) (acc : List Int) : partsGo least give [] sum acc = (acc, 0) := by
  cases give <;> rfl
/-- a row of whole numbers copied into the first places of a block -/
theorem copy_block {P : Program} {ops : Array Oper} {rest : List Oper} {o : Oper} {a : Act} {Q : Exit → Act → World → Prop} {W : World} (hgd : o.guard = none) (s x : Operand) (t t' e : TypeId)
    (ho : o.op = .call { callee := .builtin .copy, args := #[s, x], argTypes := #[t, t'] }) (ht : P.underlying t = some (.slice e)) (hs1 : (P.info? e).map (·.size) = some 1)
    (g T n c m : Nat) (A : Option Addr) (cur : Array Value) (ys : List Int) (hs : a.eval s = .slice (some ⟨g, 0, none⟩) n n) (hx : a.eval x = .slice A m c)
    (hg : W.heap[g]? = some (.cells cur T (0, 0))) (hsz : cur.size = n) (HR : Kd.C (Kd.int .i64) W A m ys) (hm : m ≤ n)
    (h : ∀ w1, w1.heap[g]? = some (.cells ((nums .i64 ys ++ cur.toList.drop m).toArray) T (0, 0)) → W.grownBy w1 (some g) → ∀ v, wpList P ops Q rest (a.put o.dst v) w1) : wpList P ops Q (o :: rest) a W := by
  have hmm : Nat.min m n = m := Nat.min_eq_left hm
  have hyl : ys.length = m := HR.1
  rcases Nat.eq_zero_or_pos m with h0 | hp
  · subst h0
    obtain rfl : ys = [] := List.eq_nil_of_length_eq_zero hyl
    refine wpList_plain hgd fun K hK => ?_
    unfold Oper.wp execOp
    have hr := run_copy_noneN (P := P) W t t' o.type e (some ⟨g, 0, none⟩) A n n 0 c 1 ht hs1 (Nat.zero_min _)
    simp only [ho, resolve, invoke, builtin, Sem.run_bind, Sem.run_pure, Result.andThen_ok, List.map_toArray, List.map_cons, List.map_nil, hs, hx, hr]
    refine hK _ _ (h W ?_ (World.grownBy.refl W _) _)
    simpa [nums] using hg
  · obtain ⟨ad, hA, hc0⟩ := HR.2.2 hp
    subst hA
    have hcl : (nums .i64 ys).length = m := by rw [nums_length, hyl]
    have hrun := run_copy_cellsN (P := P) W t t' o.type e g n n 1 ad m c (nums .i64 ys) ht hs1 (by rw [hcl, hmm, Nat.mul_one])
      (fun j u hu => by
        have hj : j < m := by rw [← hcl]; exact (List.getElem?_eq_some_iff.1 hu).1
        have hjl : j < ys.length := by omega
        obtain ⟨c', _, hK, hcell⟩ := hc0 j _ (List.getElem?_eq_getElem hjl)
        have : c' = [Value.int .i64 ys[j]] := hK
        subst this
        have h1 := hcell 0 _ rfl
        rw [show (Kd.int .i64).sz = 1 from rfl, Nat.mul_one, Nat.add_zero] at h1
        have h2 : u = .int .i64 ys[j] := by simpa [nums, hjl] using hu.symm
        rw [h2]; exact h1)
      (fun j hj => by rw [cell_of_row W g _ cur T (0, 0) hg]; simp; omega) (fun j _ => blk_frozen hg _) (fun u hu => by
        simp only [nums, List.mem_map] at hu
        obtain ⟨y, _, rfl⟩ := hu
        rfl)
    rw [hmm] at hrun
    obtain ⟨cur', h3, h4, h5⟩ := setCells_row (nums .i64 ys) 0 W cur hg (by omega)
    obtain ⟨s1, s2, s3, s4⟩ := setCells_same g (nums .i64 ys) 0 W
    have hgr : W.grownBy (W.setCells g 0 (nums .i64 ys)) (some g) := ⟨s1, s2, s3, by rw [s4]; exact Nat.le_refl _, fun q _ hq => setCells_far _ _ q (fun he => hq (by rw [he]))⟩
    refine wpList_plain hgd fun K hK => ?_
    unfold Oper.wp execOp
    simp only [ho, resolve, invoke, builtin, Sem.run_bind, Sem.run_pure, Result.andThen_ok, List.map_toArray, List.map_cons, List.map_nil, hs, hx, hrun]
    refine hK _ _ (h _ ?_ hgr _)
    rw [h3]
    have : cur' = (nums .i64 ys ++ cur.toList.drop m).toArray := by
      apply Array.toList_inj.1
      rw [h5, List.take_zero, List.nil_append, hcl, Nat.zero_add]
    rw [this]
set_option maxHeartbeats 2000000 in
set_option maxRecDepth 100000 in
theorem parts_sum (k : Nat) (size : Int) (A1 : Option Addr) (c1 : Nat) (needs : List Int) (least t e : Int) (w : World) (hr : Kd.C (Kd.int .i64) w A1 needs.length needs) (hc : needs.length ≤ c1) (h0 : okMoney size = true) (h1 : okMoney least = true) (h : needs.length ≤ 32) (ha : needs.all okMoney = true)
    (hs : cents_Sum.f k needs = some (t, e)) (hb : ¬ e = 0 ∨ (cntPos needs = 0 ∧ size > 0)) :
    Calls Try.prog 14 #[.int .i64 size, .slice A1 needs.length c1, .int .i64 least] w fun e w' => e = .returned (.tuple #[.slice none 0 0, .int .i64 26]) ∧ Below w.heap.size w w' := by
  have H1 := Aside0.mk ((fmoney_some size).trans (congrArg some h0))
  have H2 := Aside0.mk ((fmoney_some least).trans (congrArg some h1))
  have HR := Aside0.mk hr
  have HC := Aside0.mk hc
  have HA := Aside0.mk ha
  have HS := Aside0.mk hs
  have HB := Aside0.mk hb
  clear h0 h1 hr ha hs hc hb
  have hl : decide (32 < (needs.length : Int)) = false := decide_eq_false (by omega)
  have hl2 : decide (32 < needs.length) = false := decide_eq_false (by omega)
  go_enter Try.func14, Try.ntmps14
  go_wp2_with (go_at_call 19; first | (refine (fund_money.calls size true _ H1.out).mono ?_; rintro e w1 ⟨rfl, ⟨⟨n1, rfl⟩⟩⟩) | (refine (fund_money.calls least true _ H2.out).mono ?_; rintro e w1 ⟨rfl, ⟨⟨n2, rfl⟩⟩⟩))
  go_loopw [6, 7, 8, 33] (fun v6 v7 v8 v33 wr => ∃ (i : Nat) (nq : Nat), i ≤ needs.length ∧ v6 = .slice none 0 0 ∧ v7 = .int .i64 0 ∧ v8 = .int .i64 (cntPos (needs.take i)) ∧ v33 = .int .i64 i ∧ wr = w.drewN nq) (fun _ _ _ v33 _ => needs.length - (intOf v33).toNat)
  case atStart => exact ⟨0, _, by omega, rfl, rfl, rfl, rfl, rfl⟩
  case round =>
    obtain ⟨i, nq, hi, rfl, rfl, rfl, rfl, rfl⟩ := hrel
    have hm := cntPos_range (needs.take i)
    have hml : (needs.take i).length = i := by rw [List.length_take]; omega
    by_cases hlt : i < needs.length
    · have hn : okMoney (needs.getD i 0) = true := by
        have := List.all_eq_true.1 HA.out _ (List.getElem_mem hlt)
        rwa [List.getD_eq_getElem?_getD, List.getElem?_eq_getElem hlt]
      have hsn : cntPos (needs.take (i + 1)) = cntPos (needs.take i) + (if needs.getD i 0 > 0 then 1 else 0) := by
        rw [List.take_add_one, List.getElem?_eq_getElem hlt, List.getD_eq_getElem?_getD, List.getElem?_eq_getElem hlt]
        exact cntPos_snoc _ _
      obtain ⟨ad, e1, hc1⟩ := Kd.at_int HR.out (i : Int) (by omega) (by omega)
      subst e1
      rw [show rd needs (i : Int) = needs.getD i 0 from rfl, Int.toNat_natCast] at hc1
      have hd1 : decide ((i : Int) < (needs.length : Int)) = true := decide_eq_true (by omega)
      have hd2 : decide (i < needs.length) = true := decide_eq_true hlt
      have HSN := Aside0.mk hsn
      clear hsn
      have HM := Aside0.mk ((fmoney_some (needs.getD i 0)).trans (congrArg some hn))
      clear hn
      generalize cntPos (needs.take i) = m at *
      generalize needs.getD i 0 = n at *
      by_cases hp : n > 0
      · rw [if_pos hp] at HSN
        have hd3 : decide (0 < n) = true := decide_eq_true hp
        go_wp2_with (go_at_call 19; refine (fund_money.calls n true _ HM.out).mono ?_; rintro e w1 ⟨rfl, ⟨⟨n3, rfl⟩⟩⟩)
        go_roundw
        case measure => simp [intOf]; omega
        case rel => exact ⟨i + 1, nq + n3, by omega, rfl, rfl, by rw [HSN.out]; try go_num, by go_num, by first | rfl | simp [World.drewN_add]⟩
      · rw [if_neg hp, Int.add_zero] at HSN
        have hd3 : decide (0 < n) = false := decide_eq_false hp
        go_wp2_with (go_at_call 19; refine (fund_money.calls n true _ HM.out).mono ?_; rintro e w1 ⟨rfl, ⟨⟨n3, rfl⟩⟩⟩)
        go_roundw
        case measure => simp [intOf]; omega
        case rel => exact ⟨i + 1, nq + n3, by omega, rfl, rfl, by rw [HSN.out], by go_num, by first | rfl | simp [World.drewN_add]⟩
    · have : i = needs.length := by omega
      subst this
      rw [List.take_length] at *
      have hbb := HB.out
      generalize cntPos needs = m at *
      have hd1 : decide ((needs.length : Int) < (needs.length : Int)) = false := decide_eq_false (by omega)
      by_cases he : e = 0
      · have hm0 : m = 0 ∧ size > 0 := by rcases hbb with h | h
                                          · exact absurd he h
                                          · exact h
        obtain ⟨rfl, hsz⟩ := hm0
        subst he
        have hd2 : decide (0 < size) = true := decide_eq_true hsz
        clear hbb
        go_wp2_with (go_at_call 26; refine (cents_Sum.calls k A1 c1 needs t 0 _ (Kd.C_below HR.out (pw_below_drewN (Below.refl _ _) _)) HC.out HS.out).mono ?_; rintro e w1 ⟨rfl, ⟨⟨n4, rfl⟩⟩⟩)
        go_ret2
        exact ⟨rfl, by repeat (first | exact Below.refl _ _ | apply pw_below_drewN)⟩
      · have he1 : (e != 0) = true := bne_iff_ne.2 he
        clear hbb he
        go_wp2_with (go_at_call 26; refine (cents_Sum.calls k A1 c1 needs t e _ (Kd.C_below HR.out (pw_below_drewN (Below.refl _ _) _)) HC.out HS.out).mono ?_; rintro e w1 ⟨rfl, ⟨⟨n4, rfl⟩⟩⟩)
        go_ret2
        exact ⟨rfl, by repeat (first | exact Below.refl _ _ | apply pw_below_drewN)⟩
theorem left_some (size m least : Int) (hs : okMoney size = true) (hl : okMoney least = true) (hm : 0 < m) (hm2 : m ≤ 32) : wrap64 (Int.tdiv size m) = size / m := by
  have h1 := (okMoney_iff size).1 hs
  rw [Int.tdiv_eq_ediv_of_nonneg h1.1]
  have h2 : 0 ≤ size / m := Int.ediv_nonneg h1.1 (by omega)
  have h3 : size / m ≤ size := Int.ediv_le_self _ h1.1
  unfold wrap64; omega
theorem left_mul (size m least : Int) (hs : okMoney size = true) (hl : okMoney least = true) (hm : 0 < m) (hm2 : m ≤ 32) (hc : least ≤ size / m) : wrap64 (size - wrap64 (m * least)) = size - m * least := by
  have h1 := (okMoney_iff size).1 hs
  have h2 := (okMoney_iff least).1 hl
  have h3 : m * least ≤ m * (size / m) := Int.mul_le_mul_of_nonneg_left hc (by omega)
  have h4 : m * (size / m) ≤ size := Int.mul_ediv_self_le (by omega)
  have h5 : 0 ≤ m * least := Int.mul_nonneg (by omega) h2.1
  have e1 : wrap64 (m * least) = m * least := by unfold wrap64; omega
  rw [e1]; unfold wrap64; omega
theorem overlay_cells (ps : List Int) (h : ps.length ≤ 32) : (nums .i64 ps ++ (#[.int .i64 0, .int .i64 0, .int .i64 0, .int .i64 0, .int .i64 0, .int .i64 0, .int .i64 0, .int .i64 0, .int .i64 0, .int .i64 0, .int .i64 0, .int .i64 0, .int .i64 0, .int .i64 0, .int .i64 0, .int .i64 0, .int .i64 0, .int .i64 0, .int .i64 0, .int .i64 0, .int .i64 0, .int .i64 0, .int .i64 0, .int .i64 0, .int .i64 0, .int .i64 0, .int .i64 0, .int .i64 0, .int .i64 0, .int .i64 0, .int .i64 0, .int .i64 0] : Array Value).toList.drop ps.length).toArray = (nums .i64 (overlay ps)).toArray := by
  have e : (#[.int .i64 0, .int .i64 0, .int .i64 0, .int .i64 0, .int .i64 0, .int .i64 0, .int .i64 0, .int .i64 0, .int .i64 0, .int .i64 0, .int .i64 0, .int .i64 0, .int .i64 0, .int .i64 0, .int .i64 0, .int .i64 0, .int .i64 0, .int .i64 0, .int .i64 0, .int .i64 0, .int .i64 0, .int .i64 0, .int .i64 0, .int .i64 0, .int .i64 0, .int .i64 0, .int .i64 0, .int .i64 0, .int .i64 0, .int .i64 0, .int .i64 0, .int .i64 0] : Array Value).toList = List.replicate 32 (Value.int .i64 0) := rfl
  rw [e, List.drop_replicate]
  unfold overlay nums
  rw [List.map_append, List.take_of_length_le h, List.map_replicate]
theorem zero_cells : (#[.int .i64 0, .int .i64 0, .int .i64 0, .int .i64 0, .int .i64 0, .int .i64 0, .int .i64 0, .int .i64 0, .int .i64 0, .int .i64 0, .int .i64 0, .int .i64 0, .int .i64 0, .int .i64 0, .int .i64 0, .int .i64 0, .int .i64 0, .int .i64 0, .int .i64 0, .int .i64 0, .int .i64 0, .int .i64 0, .int .i64 0, .int .i64 0, .int .i64 0, .int .i64 0, .int .i64 0, .int .i64 0, .int .i64 0, .int .i64 0, .int .i64 0, .int .i64 0] : Array Value) = (nums .i64 (List.replicate 32 0)).toArray := rfl
theorem split_len2 (a0 : Int) (l1 : List Int) (r1 : List Int) (r2 : Int) (h : share_Split.f a0 l1 = some (r1, r2)) : r1.length ≤ l1.length := by
  unfold share_Split.f at h
  have h := Option.some.inj h
  by_cases c1 : okMoney a0 = true
  · rw [if_pos c1] at h
    by_cases c2 : l1.length > 1024
    · rw [if_pos c2] at h; cases h; simp
    · rw [if_neg c2] at h
      by_cases c3 : weighedOk l1 = true
      · rw [if_pos c3] at h
        by_cases c4 : isum l1 = 0
        · rw [if_pos c4] at h; cases h; simp
        · rw [if_neg c4] at h
          have h := congrArg Prod.fst h
          simp only at h
          subst h
          unfold splitParts
          rw [(giveMany_len _ _).1]; simp [quos]
      · rw [if_neg c3] at h; cases h; simp
  · rw [if_neg c1] at h; cases h; simp
set_option maxHeartbeats 4000000 in
set_option maxRecDepth 100000 in
theorem parts_good (k : Nat) (size : Int) (A1 : Option Addr) (c1 : Nat) (needs : List Int) (least t : Int) (r1 : List Int) (r2 : Int) (w : World) (hr : Kd.C (Kd.int .i64) w A1 needs.length needs) (hc : needs.length ≤ c1) (h0 : okMoney size = true) (h1 : okMoney least = true) (h : needs.length ≤ 32) (ha : needs.all okMoney = true)
    (hs : cents_Sum.f k needs = some (t, 0)) (hb : ¬ (cntPos needs = 0 ∧ size > 0)) (hf : (if cntPos needs = 0 then some (partsGo least (List.replicate 32 0) needs 0 []) else (share_Split.f (partsLeft size (cntPos needs) least) needs).bind fun s => if s.2 = 0 then some (partsGo least (overlay s.1) needs 0 []) else some ([], s.2)) = some (r1, r2)) :
    Calls Try.prog 14 #[.int .i64 size, .slice A1 needs.length c1, .int .i64 least] w fun e w' => ∃ v0_ : Value, e = .returned (.tuple #[v0_, .int .i64 r2]) ∧ Kd.R (Kd.int .i64) 3 w' w.heap.size (fun _ => True) v0_ r1 ∧ Below w.heap.size w w' := by
  have H1 := Aside0.mk ((fmoney_some size).trans (congrArg some h0))
  have H2 := Aside0.mk ((fmoney_some least).trans (congrArg some h1))
  have HQ := Aside0.mk (left_some size (cntPos needs) least h0 h1)
  have HQ2 := Aside0.mk (left_mul size (cntPos needs) least h0 h1)
  have HR := Aside0.mk hr
  have HC := Aside0.mk hc
  have HA := Aside0.mk ha
  have HS := Aside0.mk hs
  have HB := Aside0.mk hb
  have HF := Aside0.mk hf
  clear h0 h1 hr ha hs hc hb hf
  have hl : decide (32 < (needs.length : Int)) = false := decide_eq_false (by omega)
  have hl2 : decide (32 < needs.length) = false := decide_eq_false (by omega)
  have hu57 := Try.underlying57
  have hu23 := Try.underlying23
  go_enter Try.func14, Try.ntmps14
  go_wp2_with (go_at_call 19; first | (refine (fund_money.calls size true _ H1.out).mono ?_; rintro e w1 ⟨rfl, ⟨⟨n1, rfl⟩⟩⟩) | (refine (fund_money.calls least true _ H2.out).mono ?_; rintro e w1 ⟨rfl, ⟨⟨n2, rfl⟩⟩⟩))
  go_loopw [6, 7, 8, 33] (fun v6 v7 v8 v33 wr => ∃ (i : Nat) (nq : Nat), i ≤ needs.length ∧ v6 = .slice none 0 0 ∧ v7 = .int .i64 0 ∧ v8 = .int .i64 (cntPos (needs.take i)) ∧ v33 = .int .i64 i ∧ wr = w.drewN nq) (fun _ _ _ v33 _ => needs.length - (intOf v33).toNat)
  case atStart => exact ⟨0, _, by omega, rfl, rfl, rfl, rfl, rfl⟩
  case round =>
    obtain ⟨i, nq, hi, rfl, rfl, rfl, rfl, rfl⟩ := hrel
    have hm := cntPos_range (needs.take i)
    have hml : (needs.take i).length = i := by rw [List.length_take]; omega
    by_cases hlt : i < needs.length
    · have hn : okMoney (needs.getD i 0) = true := by
        have := List.all_eq_true.1 HA.out _ (List.getElem_mem hlt)
        rwa [List.getD_eq_getElem?_getD, List.getElem?_eq_getElem hlt]
      have hsn : cntPos (needs.take (i + 1)) = cntPos (needs.take i) + (if needs.getD i 0 > 0 then 1 else 0) := by
        rw [List.take_add_one, List.getElem?_eq_getElem hlt, List.getD_eq_getElem?_getD, List.getElem?_eq_getElem hlt]
        exact cntPos_snoc _ _
      obtain ⟨ad, e1, hc1⟩ := Kd.at_int HR.out (i : Int) (by omega) (by omega)
      subst e1
      rw [show rd needs (i : Int) = needs.getD i 0 from rfl, Int.toNat_natCast] at hc1
      have hd1 : decide ((i : Int) < (needs.length : Int)) = true := decide_eq_true (by omega)
      have hd2 : decide (i < needs.length) = true := decide_eq_true hlt
      have HSN := Aside0.mk hsn
      clear hsn
      have HM := Aside0.mk ((fmoney_some (needs.getD i 0)).trans (congrArg some hn))
      clear hn
      generalize cntPos (needs.take i) = m at *
      generalize needs.getD i 0 = n at *
      by_cases hp : n > 0
      · rw [if_pos hp] at HSN
        have hd3 : decide (0 < n) = true := decide_eq_true hp
        go_wp2_with (go_at_call 19; refine (fund_money.calls n true _ HM.out).mono ?_; rintro e w1 ⟨rfl, ⟨⟨n3, rfl⟩⟩⟩)
        go_roundw
        case measure => simp [intOf]; omega
        case rel => exact ⟨i + 1, nq + n3, by omega, rfl, rfl, by rw [HSN.out]; try go_num, by go_num, by first | rfl | simp [World.drewN_add]⟩
      · rw [if_neg hp, Int.add_zero] at HSN
        have hd3 : decide (0 < n) = false := decide_eq_false hp
        go_wp2_with (go_at_call 19; refine (fund_money.calls n true _ HM.out).mono ?_; rintro e w1 ⟨rfl, ⟨⟨n3, rfl⟩⟩⟩)
        go_roundw
        case measure => simp [intOf]; omega
        case rel => exact ⟨i + 1, nq + n3, by omega, rfl, rfl, by rw [HSN.out], by go_num, by first | rfl | simp [World.drewN_add]⟩
    · have : i = needs.length := by omega
      subst this
      rw [List.take_length] at *
      have hbb := HB.out
      have hm32 : cntPos needs ≤ 32 := by omega
      generalize hme : cntPos needs = m at *
      have hd1 : decide ((needs.length : Int) < (needs.length : Int)) = false := decide_eq_false (by omega)
      have hd2 : ((m == 0) && decide (0 < size)) = false := by
        by_cases hm0 : m = 0
        · rw [decide_eq_false (fun h => hbb ⟨hm0, h⟩), Bool.and_false]
        · rw [beq_eq_false_iff_ne.2 hm0, Bool.false_and]
      have hd3 : m = 0 → decide (0 < size) = false := fun h => decide_eq_false (fun h2 => hbb ⟨h, h2⟩)
      have HD := Aside0.mk hd3
      clear hbb hd3 hd2
      have HBL := Aside0.mk (pw_below_drewN (Below.refl w.heap.size w) nq)
      generalize w.drewN nq = w5 at *
      go_upto_region 15 with (go_at_call 26; refine (cents_Sum.calls k A1 c1 needs t 0 _ (Kd.C_below HR.out HBL.out) HC.out HS.out).mono ?_; rintro e w1 ⟨rfl, ⟨⟨n4, rfl⟩⟩⟩)
      go_cut [59] (fun v59 wc => v59 = .bool false ∧ Aside0 (Below w.heap.size w wc))
      case first =>
        by_cases hm0 : m = 0
        · have hd3 := HD.out hm0
          subst hm0
          go_wp2
          go_meet
          case rel => exact ⟨rfl, ⟨by repeat (first | exact HBL.out | apply pw_below_drewN)⟩⟩
        · have hd4 : (m == 0) = false := beq_eq_false_iff_ne.2 hm0
          go_wp2
          go_meet
          case rel => exact ⟨rfl, ⟨by repeat (first | exact HBL.out | apply pw_below_drewN)⟩⟩
      case rest =>
        clear HBL
        obtain ⟨rfl, HBL⟩ := hcut
        go_upto_region 19 with ((with_reducible refine gate_dst (N := 13) rfl ?_); refine box_event ?hg (N := 13) ?hd (cs := #[.int .i64 0, .int .i64 0, .int .i64 0, .int .i64 0, .int .i64 0, .int .i64 0, .int .i64 0, .int .i64 0, .int .i64 0, .int .i64 0, .int .i64 0, .int .i64 0, .int .i64 0, .int .i64 0, .int .i64 0, .int .i64 0, .int .i64 0, .int .i64 0, .int .i64 0, .int .i64 0, .int .i64 0, .int .i64 0, .int .i64 0, .int .i64 0, .int .i64 0, .int .i64 0, .int .i64 0, .int .i64 0, .int .i64 0, .int .i64 0, .int .i64 0, .int .i64 0]) (t := 57) ?hr ?_; (case hd => rfl); (case hg => rfl); (case hr => first | (go_simp; done) | (go_simp; rfl)); intro gb hgb w6 hbox hbl; have HG := Aside0.mk hbox; have HBN := Aside0.mk (below_step HBL.out hbl); have HGB := Aside0.mk (show w.heap.size ≤ gb by rw [hgb]; exact HBL.out.size); clear HBL hbl hbox hgb)
        go_cut [68] (fun v68 wc => v68 = .bool (decide (0 < m ∧ least ≤ size / m)) ∧ wc = w6)
        case first =>
          by_cases hm0 : 0 < m
          · have hq := HQ.out hm0 hm32
            have hd4 : decide (0 < m) = true := decide_eq_true hm0
            have hd5 : (m == 0) = false := beq_eq_false_iff_ne.2 (by omega)
            have hd6 : ¬ m = 0 := by omega
            go_wp2
            go_meet
            case rel => exact ⟨by (first | rw [hq] | skip); congr 1; exact decide_eq_decide.2 (by omega), rfl⟩
          · have hd4 : decide (0 < m) = false := decide_eq_false hm0
            go_wp2
            go_meet
            case rel => exact ⟨by rw [decide_eq_false (by omega)], rfl⟩
        case rest =>
          obtain ⟨rfl, hwc⟩ := hcut
          have hwc2 := hwc.symm
          clear hwc
          subst hwc2
          go_upto_if 68 with fail
          go_cut [14] (fun v14 wc => v14 = .int .i64 (if 0 < m then partsLeft size m least else 0) ∧ wc = w6)
          case first =>
            by_cases hm0 : 0 < m ∧ least ≤ size / m
            · have hd4 : decide (0 < m ∧ least ≤ size / m) = true := decide_eq_true hm0
              have hq := HQ2.out hm0.1 hm32 hm0.2
              rw [hd4]
              go_wp2
              go_meet
              case rel => exact ⟨by rw [if_pos hm0.1, partsLeft, if_pos hm0.2, hq], rfl⟩
            · have hd4 : decide (0 < m ∧ least ≤ size / m) = false := decide_eq_false hm0
              rw [hd4]
              go_wp2
              go_meet
              case rel => exact ⟨by split <;> first | rfl | (rw [partsLeft, if_neg (fun h => hm0 ⟨by assumption, h⟩)]), rfl⟩
          case rest =>
            obtain ⟨rfl, hwc⟩ := hcut
            have hwc2 := hwc.symm
            clear hwc
            subst hwc2
            go_upto_if 75 with fail
            go_cut [14] (fun v14 wc => ∃ give : List Int, Aside0 (give.length = 32) ∧ Aside0 (partsGo least give needs 0 [] = (r1, r2)) ∧ Aside0 (wc.heap[gb]? = some (.cells (nums .i64 give).toArray 57 (0, 0))) ∧ Aside0 (Below w.heap.size w wc))
            case first =>
              have hff := HF.out
              by_cases hm0 : 0 < m
              · have hd4 : decide (0 < m) = true := decide_eq_true hm0
                rw [if_pos hm0]
                rw [if_neg (show ¬ m = 0 by omega)] at hff
                obtain ⟨⟨ps, e2⟩, hsp, hff⟩ := Option.bind_eq_some_iff.1 hff
                simp only at hff
                have HSP := Aside0.mk hsp
                clear hsp
                by_cases he2 : e2 = 0
                · subst he2
                  rw [if_pos rfl] at hff
                  have HFF := Aside0.mk (Option.some.inj hff)
                  clear hff
                  have HPL := Aside0.mk (show ps.length ≤ needs.length from split_len2 _ _ _ _ HSP.out)
                  go_wp2_with (first
                    | (go_at_call 27; refine (share_Split.calls (partsLeft size m least) A1 c1 needs ps 0 _ (Kd.C_below HR.out HBN.out) HC.out HSP.out).mono ?_; rintro e w7 ⟨v0, rfl, hrow, hbl⟩; have HROW := Aside0.mk hrow; have HB7 := Aside0.mk (below_step HBN.out hbl); have HG7 := Aside0.mk ((hbl.block gb (blk_lt HG.out)).trans HG.out); obtain ⟨Ao, co, eo⟩ := Kd.R_slice hrow; subst eo; clear hrow hbl)
                    | ((with_reducible refine gate_builtin (b := .copy) (xs := #[.tmp 85, .tmp 86]) rfl ?_); refine copy_block rfl (.tmp 85) (.tmp 86) 23 23 3 rfl hu23 (by kernel_rfl) gb 57 32 co ps.length Ao #[.int .i64 0, .int .i64 0, .int .i64 0, .int .i64 0, .int .i64 0, .int .i64 0, .int .i64 0, .int .i64 0, .int .i64 0, .int .i64 0, .int .i64 0, .int .i64 0, .int .i64 0, .int .i64 0, .int .i64 0, .int .i64 0, .int .i64 0, .int .i64 0, .int .i64 0, .int .i64 0, .int .i64 0, .int .i64 0, .int .i64 0, .int .i64 0, .int .i64 0, .int .i64 0, .int .i64 0, .int .i64 0, .int .i64 0, .int .i64 0, .int .i64 0, .int .i64 0] ps rfl rfl HG7.out rfl (Kd.R_reads' HROW.out).2.2 (by have := HPL.out; omega) ?_; intro w8 hg8 hgr8 v8; have HG8 := Aside0.mk hg8; have HB8 := Aside0.mk (HB7.out.grown hgr8 HB7.out.size (fun j hj => by cases hj; exact HGB.out)); clear hg8 hgr8))
                  go_meet
                  case rel => exact ⟨overlay ps, ⟨overlay_len ps⟩, HFF, ⟨by rw [← overlay_cells ps (by have := HPL.out; omega)]; exact HG8.out⟩, HB8⟩
                · rw [if_neg he2] at hff
                  have he3 : (e2 != 0) = true := bne_iff_ne.2 he2
                  simp only [Option.some.injEq, Prod.mk.injEq] at hff
                  obtain ⟨rfl, rfl⟩ := hff
                  go_wp2_with (go_at_call 27; refine (share_Split.calls (partsLeft size m least) A1 c1 needs ps e2 _ (Kd.C_below HR.out HBN.out) HC.out HSP.out).mono ?_; rintro e w7 ⟨v0, rfl, hrow, hbl⟩; have HB7 := Aside0.mk (below_step HBN.out hbl); clear hrow hbl)
                  go_ret2
                  exact ⟨_, rfl, Kd.R_nil _ _ _ _ _, HB7.out⟩
              · have hd4 : decide (0 < m) = false := decide_eq_false hm0
                have := cntPos_range needs
                rw [if_pos (show m = 0 by omega)] at hff
                have HFF := Aside0.mk (Option.some.inj hff)
                clear hff
                go_wp2
                go_meet
                case rel => exact ⟨List.replicate 32 0, ⟨by simp⟩, HFF, ⟨HG.out⟩, HBN⟩
            case rest =>
              clear HF HG HBN
              obtain ⟨give, HGL, HFF, HG, HBN⟩ := hcut
              have hi3 : (Try.prog.info? 3).map (fun i => (i.zero, i.size, i.bytes)) = some (some (.int .i64 0), 1, 8) := by kernel_rfl
              go_wp2_with ((with_reducible refine gate_dst (N := 90) rfl ?_); (refine Kd.R_make (Kd.int .i64) (w0 := w) w.heap.size 3 rfl (N := 90) rfl 23 _ _ rfl (needs.length : Int) rfl rfl hu23 (.int .i64 0) 8 hi3 rfl (by decide) (by omega) 0 (ok := fun _ => True) (okp := fun _ => True) rfl (fun _ hk => hk) trivial (by omega) (by omega) HBN.out HBN.out.size ?_; intro v6 w9 ho hb hgn hnew; rw [Int.toNat_natCast] at ho; have HG9 := Aside0.mk (blk_grown HG.out hgn (by simp)); have HB9 := Aside0.mk hb; have HO := Aside0.mk ho; obtain ⟨Ao, co, eo⟩ := Kd.R_slice ho; rw [List.length_replicate] at eo; subst eo; clear ho hb hgn hnew))
              clear HG HBN
              go_loopw [6, 7, 17, 18, 19, 93] (fun v6 v7 v17 v18 v19 v93 wr => ∃ (i : Nat) (sum : Int) (acc : List Int), i ≤ needs.length ∧ v6 = .slice Ao needs.length co ∧ v17 = .int .i64 sum ∧ v93 = .int .i64 i ∧ Aside0 (acc.length = i) ∧ Aside0 (partsGo least (give.drop i) (needs.drop i) sum acc = (r1, r2)) ∧ Aside0 (Kd.R (Kd.int .i64) 3 wr w.heap.size (fun _ => True) (.slice Ao needs.length co) (acc ++ List.replicate (needs.length - i) 0)) ∧ Aside0 (wr.heap[gb]? = some (.cells (nums .i64 give).toArray 57 (0, 0))) ∧ Aside0 (Below w.heap.size w wr)) (fun _ _ _ _ _ v93 _ => needs.length - (intOf v93).toNat)
              case atStart => exact ⟨0, 0, [], by omega, rfl, rfl, rfl, ⟨rfl⟩, by rw [List.drop_zero, List.drop_zero]; exact HFF, by rw [List.nil_append]; exact HO, HG9, HB9⟩
              case round =>
                clear HO HG9 HB9 HFF
                obtain ⟨i, sum, acc, hi2, rfl, rfl, rfl, HAL, HFF, HO, HG9, HB9⟩ := hrel
                by_cases hlt2 : i < needs.length
                · have hff := HFF.out
                  rw [partsGo_cons least give needs i hlt2 (by rw [HGL.out]; omega)] at hff
                  have hal := HAL.out
                  obtain ⟨ad, e1, hc1⟩ := Kd.at_int (Kd.C_below HR.out HB9.out) (i : Int) (by omega) (by omega)
                  subst e1
                  rw [show rd needs (i : Int) = needs.getD i 0 from rfl, Int.toNat_natCast] at hc1
                  have hgc : wr.cell? ⟨gb, i, none⟩ = some (.int .i64 (give.getD i 0)) := by
                    rw [blk_cell HG9.out i]
                    have : i < give.length := by rw [HGL.out]; omega
                    simp [nums, List.getD_eq_getElem?_getD, this]
                  have hd1 : decide ((i : Int) < (needs.length : Int)) = true := decide_eq_true (by omega)
                  have hd2 : decide (i < needs.length) = true := decide_eq_true hlt2
                  have hd3 : decide ((i : Int) < 32) = true := decide_eq_true (by omega)
                  have hd4 : decide (i < 32) = true := decide_eq_true (by omega)
                  obtain ⟨go, cap, ev, hgo, _, _⟩ := Kd.R_form HO.out (by simp; omega)
                  injection ev with e1 e2 e3
                  subst e1
                  subst e3
                  clear e2
                  obtain ⟨hx1, hz1⟩ := Kd.R_celln (0 : Int) HO.out (i : Int) (by omega) (by omega)
                  rw [Int.toNat_natCast] at hx1 hz1
                  generalize give.getD i 0 = g at *
                  generalize needs.getD i 0 = n at *
                  have HP1 := Kd.R_putg HO.out (i : Int) g
                  rw [Int.toNat_natCast, show needs.length - i = (needs.length - (i + 1)) + 1 by omega, ← hal, set_mid acc, hal] at HP1
                  have HNE := Aside0.mk (Kd.R_ne HO.out HG9.out (by decide))
                  have HFF2 := Aside0.mk hff
                  clear hff HFF HO
                  go_upto_if 105 with ((with_reducible refine gate_store (t := 3) (p := 103) rfl ?_); (refine store_event (t := 3) (p := 103) (v := ?vo) (w1 := wr.setCell ⟨go, i, none⟩ (.int .i64 g)) ?hg ?ho ?hn ?hr ?_; (case ho => rfl); (case hg => rfl); (case hn => rfl); (case hr => first | (go_simp; done) | (go_simp; rfl)); intro w10 hw; have HO10 := Aside0.mk (show Kd.R (Kd.int .i64) 3 w10 w.heap.size (fun _ => True) (.slice (some ⟨go, 0, none⟩) needs.length co) ((acc ++ [g]) ++ List.replicate (needs.length - (i + 1)) 0) by rw [hw]; exact HP1.1); have HG10 := Aside0.mk (blk_grown HG9.out (show wr.grownBy w10 (some go) by rw [hw]; exact HP1.2) (by simpa [Value.ownBlock] using HNE.out)); have HB10 := Aside0.mk (show Below w.heap.size w w10 by rw [hw]; exact below_set HB9.out hgo); clear hw HP1 HG9 HB9 hx1 hz1 hgc))
                  go_cut [] (fun wc => Aside0 (Kd.R (Kd.int .i64) 3 wc w.heap.size (fun _ => True) (.slice (some ⟨go, 0, none⟩) needs.length co) ((acc ++ [partVal g n least]) ++ List.replicate (needs.length - (i + 1)) 0)) ∧ Aside0 (wc.heap[gb]? = some (.cells (nums .i64 give).toArray 57 (0, 0))) ∧ Aside0 (Below w.heap.size w wc))
                  case first =>
                    by_cases hp : n > 0
                    · have hd5 : decide (0 < n) = true := decide_eq_true hp
                      have epv : partVal g n least = wrap64 (g + least) := if_pos hp
                      obtain ⟨hx2, hz2⟩ := Kd.R_celln (0 : Int) HO10.out (i : Int) (by omega) (by omega)
                      have erd : rdOf 0 ((acc ++ [g]) ++ List.replicate (needs.length - (i + 1)) 0) (i : Int) = g := by
                        unfold rdOf; rw [Int.toNat_natCast, ← hal]; simp [List.getD_eq_getElem?_getD]
                      rw [erd, Int.toNat_natCast] at hx2
                      rw [Int.toNat_natCast] at hz2
                      have HP2 := Kd.R_putg HO10.out (i : Int) (wrap64 (g + least))
                      have eset : ((acc ++ [g]) ++ List.replicate (needs.length - (i + 1)) 0).set i (wrap64 (g + least)) = (acc ++ [wrap64 (g + least)]) ++ List.replicate (needs.length - (i + 1)) 0 := by
                        rw [← hal]; simp [List.set_append]
                      rw [Int.toNat_natCast, eset] at HP2
                      clear eset erd
                      go_wp2_with ((with_reducible refine gate_store (t := 3) (p := 112) rfl ?_); (refine store_event (t := 3) (p := 112) (v := ?vo2) (w1 := w10.setCell ⟨go, i, none⟩ (.int .i64 (wrap64 (g + least)))) ?hg ?ho ?hn ?hr ?_; (case ho => rfl); (case hg => rfl); (case hn => rfl); (case hr => first | (go_simp; done) | (go_simp; rfl)); intro w11 hw; have HO11 := Aside0.mk (show Kd.R (Kd.int .i64) 3 w11 w.heap.size (fun _ => True) (.slice (some ⟨go, 0, none⟩) needs.length co) ((acc ++ [wrap64 (g + least)]) ++ List.replicate (needs.length - (i + 1)) 0) by rw [hw]; exact HP2.1); have HG11 := Aside0.mk (blk_grown HG10.out (show w10.grownBy w11 (some go) by rw [hw]; exact HP2.2) (by simpa [Value.ownBlock] using HNE.out)); have HB11 := Aside0.mk (show Below w.heap.size w w11 by rw [hw]; exact below_set HB10.out hgo); clear hw HP2 hx2 hz2))
                      go_meet
                      case rel => exact ⟨by rw [epv]; exact HO11, HG11, HB11⟩
                    · have hd5 : decide (0 < n) = false := decide_eq_false hp
                      have epv : partVal g n least = g := if_neg hp
                      go_wp2
                      go_meet
                      case rel => exact ⟨by rw [epv]; exact HO10, HG10, HB10⟩
                  case rest =>
                    skip
                    clear HO10 HG10 HB10
                    obtain ⟨HO11, HG11, HB11⟩ := hcut
                    obtain ⟨hx2, hz2⟩ := Kd.R_celln (0 : Int) HO11.out (i : Int) (by omega) (by omega)
                    have hff := HFF2.out
                    clear HFF2
                    generalize partVal g n least = v at *
                    have erd : rdOf 0 ((acc ++ [v]) ++ List.replicate (needs.length - (i + 1)) 0) (i : Int) = v := by
                      unfold rdOf; rw [Int.toNat_natCast, ← hal]; simp [List.getD_eq_getElem?_getD]
                    rw [erd, Int.toNat_natCast] at hx2
                    clear hz2 erd
                    have HF1 := Aside0.mk (fits_some v)
                    have HF2 := Aside0.mk (fits_some (wrap64 (sum + v)))
                    generalize fitsB v = b1 at *
                    generalize hb2 : fitsB (wrap64 (sum + v)) = b2 at *
                    cases b1 with
                    | false =>
                      rw [if_neg (by simp)] at hff
                      cases hff
                      go_wp2_with (go_at_call 28; refine (cents_Fits.calls v false _ HF1.out).mono ?_; rintro e w1 ⟨rfl, ⟨⟨n8, rfl⟩⟩⟩)
                      go_ret2
                      exact ⟨_, rfl, Kd.R_nil _ _ _ _ _, pw_below_drewN HB11.out _⟩
                    | true =>
                      cases b2 with
                      | false =>
                        rw [if_neg (by simp)] at hff
                        cases hff
                        go_wp2_with (go_at_call 28; first | (refine (cents_Fits.calls v true _ HF1.out).mono ?_; rintro e w1 ⟨rfl, ⟨⟨n8, rfl⟩⟩⟩) | (refine (cents_Fits.calls (wrap64 (sum + v)) false _ HF2.out).mono ?_; rintro e w1 ⟨rfl, ⟨⟨n9, rfl⟩⟩⟩))
                        go_ret2
                        exact ⟨_, rfl, Kd.R_nil _ _ _ _ _, by repeat (first | exact HB11.out | apply pw_below_drewN)⟩
                      | true =>
                        rw [if_pos ⟨rfl, rfl⟩] at hff
                        have HFF3 := Aside0.mk hff
                        clear hff
                        go_wp2_with (go_at_call 28; first | (refine (cents_Fits.calls v true _ HF1.out).mono ?_; rintro e w1 ⟨rfl, ⟨⟨n8, rfl⟩⟩⟩) | (refine (cents_Fits.calls (wrap64 (sum + v)) true _ HF2.out).mono ?_; rintro e w1 ⟨rfl, ⟨⟨n9, rfl⟩⟩⟩))
                        go_roundw
                        case measure => simp [intOf]; omega
                        case rel => exact ⟨i + 1, wrap64 (sum + v), acc ++ [v], by omega, rfl, rfl, by go_num, ⟨by simp [hal]⟩, HFF3, ⟨by repeat (first | exact HO11.out | apply Kd.R_drewN)⟩, ⟨HG11.out⟩, ⟨by repeat (first | exact HB11.out | apply pw_below_drewN)⟩⟩
                · have : i = needs.length := by omega
                  subst this
                  have hff := HFF.out
                  have hal := HAL.out
                  rw [List.drop_length, partsGo_end] at hff
                  cases hff
                  have hd1 : decide ((needs.length : Int) < (needs.length : Int)) = false := decide_eq_false (by omega)
                  have ho := HO.out
                  rw [Nat.sub_self, List.replicate_zero, List.append_nil] at ho
                  have HO2 := Aside0.mk ho
                  clear ho HO HFF
                  go_wp2
                  go_ret2
                  exact ⟨_, rfl, by repeat (first | exact HO2.out | apply Kd.R_drewN), by repeat (first | exact HB9.out | apply pw_below_drewN)⟩
theorem fund_Parts.calls (k : Nat) (a0 : Int) (A1 : Option Addr) (c1 : Nat) (l1 : List Int) (a2 : Int) (r1 : List Int) (r2 : Int) (w : World) (hr1 : Kd.C (Kd.int .i64) w A1 l1.length l1) (hc1 : l1.length ≤ c1) (h : fund_Parts.f k a0 l1 a2 = some (r1, r2)) :
    Calls Try.prog 14 #[.int .i64 a0, .slice A1 l1.length c1, .int .i64 a2] w fun e w' => ∃ v0_ : Value, e = .returned (.tuple #[v0_, .int .i64 r2]) ∧ Kd.R (Kd.int .i64) 3 w' w.heap.size (fun _ => True) v0_ r1 ∧ Below w.heap.size w w' := by
  have bad : ∀ (e2 : Int) (W : World) (e : Ending), e = .returned (.tuple #[.slice none 0 0, .int .i64 e2]) ∧ Below w.heap.size w W → ([], e2) = (r1, r2) → ∃ v0_ : Value, e = .returned (.tuple #[v0_, .int .i64 r2]) ∧ Kd.R (Kd.int .i64) 3 W w.heap.size (fun _ => True) v0_ r1 ∧ Below w.heap.size w W := by
    intro e2 W e he hq
    cases hq
    exact ⟨_, he.1, Kd.R_nil _ _ _ _ _, he.2⟩
  unfold fund_Parts.f at h
  by_cases g1 : okMoney a0 = false ∨ okMoney a2 = false
  · rw [if_pos g1] at h
    exact (parts_2 a0 A1 c1 l1 a2 w g1).mono fun e W he => bad 2 W e he (Option.some.inj h)
  rw [if_neg g1] at h
  have m0 : okMoney a0 = true := by cases hb : okMoney a0 with
    | true => rfl
    | false => exact absurd (.inl hb) g1
  have m2 : okMoney a2 = true := by cases hb : okMoney a2 with
    | true => rfl
    | false => exact absurd (.inr hb) g1
  by_cases g2 : l1.length > 32
  · rw [if_pos g2] at h
    exact (parts_8 a0 A1 c1 l1 a2 w m0 m2 g2).mono fun e W he => bad 8 W e he (Option.some.inj h)
  rw [if_neg g2] at h
  by_cases g3 : l1.all okMoney = false
  · rw [if_pos g3] at h
    exact (parts_26 a0 A1 c1 l1 a2 w hr1 m0 m2 (by omega) g3).mono fun e W he => bad 26 W e he (Option.some.inj h)
  rw [if_neg g3] at h
  have m3 : l1.all okMoney = true := by simpa using g3
  obtain ⟨⟨t, e2⟩, hs, h⟩ := Option.bind_eq_some_iff.1 h
  simp only at h
  by_cases g4 : ¬ e2 = 0 ∨ (cntPos l1 = 0 ∧ a0 > 0)
  · rw [if_pos g4] at h
    exact (parts_sum k a0 A1 c1 l1 a2 t e2 w hr1 hc1 m0 m2 (by omega) m3 hs g4).mono fun e W he => bad 26 W e he (Option.some.inj h)
  rw [if_neg g4] at h
  have e0 : e2 = 0 := Classical.byContradiction fun hne => g4 (.inl hne)
  subst e0
  exact parts_good k a0 A1 c1 l1 a2 t r1 r2 w hr1 hc1 m0 m2 (by omega) m3 hs (fun hb => g4 (.inr hb)) h

/-! ### words_letter: function 53 -/
def words_letter.f (a0 : Int) : Option (Bool) := if 97 ≤ a0 then (some (decide (a0 ≤ 122))) else (some false)
set_option maxHeartbeats 8000000 in
set_option maxRecDepth 100000 in
theorem words_letter.calls (a0 : Int) (r : Bool) (w : World) (h : words_letter.f a0 = some r) :
    Calls Try.prog 53 #[.int .u8 a0] w fun e w' => e = .returned (.bool r) ∧ Drawn0 w w' := by
  have H : (if 97 ≤ a0 then (some (decide (a0 ≤ 122))) else (some false)) = some r := h
  clear h
  by_cases c2 : 97 ≤ a0
  · rw [if_pos c2] at H
    have c2b0 : decide (97 ≤ a0) = true := decide_eq_true c2
    clear c2
    obtain rfl := Option.some.inj H
    go_enter Try.func53, Try.ntmps53
    go_wp2
    go_ret
    exact ⟨by first | rfl | (simp; done) | (simp [*]; done), by repeat (first | exact Drawn0.refl _ | apply Drawn0.step)⟩
  · rw [if_neg c2] at H
    have c2b0 : decide (97 ≤ a0) = false := decide_eq_false c2
    clear c2
    obtain rfl := Option.some.inj H
    go_enter Try.func53, Try.ntmps53
    go_wp2
    go_ret
    exact ⟨by first | rfl | (simp; done) | (simp [*]; done), by repeat (first | exact Drawn0.refl _ | apply Drawn0.step)⟩

/-! ### words_digit: function 54 -/
def words_digit.f (a0 : Int) : Option (Bool) := if 48 ≤ a0 then (some (decide (a0 ≤ 57))) else (some false)
set_option maxHeartbeats 8000000 in
set_option maxRecDepth 100000 in
theorem words_digit.calls (a0 : Int) (r : Bool) (w : World) (h : words_digit.f a0 = some r) :
    Calls Try.prog 54 #[.int .u8 a0] w fun e w' => e = .returned (.bool r) ∧ Drawn0 w w' := by
  have H : (if 48 ≤ a0 then (some (decide (a0 ≤ 57))) else (some false)) = some r := h
  clear h
  by_cases c2 : 48 ≤ a0
  · rw [if_pos c2] at H
    have c2b0 : decide (48 ≤ a0) = true := decide_eq_true c2
    clear c2
    obtain rfl := Option.some.inj H
    go_enter Try.func54, Try.ntmps54
    go_wp2
    go_ret
    exact ⟨by first | rfl | (simp; done) | (simp [*]; done), by repeat (first | exact Drawn0.refl _ | apply Drawn0.step)⟩
  · rw [if_neg c2] at H
    have c2b0 : decide (48 ≤ a0) = false := decide_eq_false c2
    clear c2
    obtain rfl := Option.some.inj H
    go_enter Try.func54, Try.ntmps54
    go_wp2
    go_ret
    exact ⟨by first | rfl | (simp; done) | (simp [*]; done), by repeat (first | exact Drawn0.refl _ | apply Drawn0.step)⟩

end Go.Proofs.Ytfmnillnmlijkaa.PFundSizes
