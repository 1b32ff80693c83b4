/- The pure statement of the law NovateFlat, proved: plain Lean over numbers and lists, no program in sight. -/
import Derived.Test.YtpifobhpijnehaaPNovateFlatx7
namespace Go.Proofs.Ytpifobhpijnehaa.Pure
open Go.RowKit Go.Proofs.Ytpifobhpijnehaa.PNovateFlat Go.Proofs.YtpifobhpijnehaaW.PrintWords Go.Proofs.YtpifobhpijnehaaW.PrintLast Go.Proofs.YtpifobhpijnehaaW.PrintMore
set_option linter.unusedVariables false
set_option linter.unusedSimpArgs false
/-! ### from some number of rounds on: steps -/
theorem ev_pos {α : Type} {c : Prop} [Decidable c] {a b : Nat → Option α} {r : α} (h : c) (k : Ev a r) : Ev (fun n => if c then a n else b n) r := Ev.congr (fun _ => if_pos h) k
theorem ev_neg {α : Type} {c : Prop} [Decidable c] {a b : Nat → Option α} {r : α} (h : ¬ c) (k : Ev b r) : Ev (fun n => if c then a n else b n) r := Ev.congr (fun _ => if_neg h) k
theorem ev_val {α β : Type} {g : Option α} {f : Nat → α → Option β} {a : α} {r : β} (h : g = some a) (k : Ev (fun n => f n a) r) : Ev (fun n => g.bind (f n)) r := by
  subst h; exact k
theorem ev_some {α : Type} {x r : α} (h : x = r) : Ev (fun _ => some x) r := h ▸ Ev.now x
theorem ev_rw {α : Type} {g : Nat → Option α} {r s : α} (h : r = s) (k : Ev g r) : Ev g s := h ▸ k
theorem wsucc (i : Nat) (h : i ≤ 4611686018427387904) : wrap64 ((i : Int) + 1) = ((i + 1 : Nat) : Int) := by
  unfold wrap64; omega
theorem rd_nat (l : List Int) (i : Nat) : rd l (i : Int) = l.getD i 0 := rfl
/-! ### a loop, from its end backwards -/
theorem ev_down {ρ S : Type} {n : Nat} {g : Nat → Nat → S → Option ρ} {spec : Nat → S → ρ} {inv : Nat → S → Prop}
    (he : ∀ s, inv n s → Ev (fun k => g k n s) (spec n s))
    (hs : ∀ i s, i < n → inv i s → (∀ s', inv (i + 1) s' → Ev (fun k => g k (i + 1) s') (spec (i + 1) s')) → Ev (fun k => g k i s) (spec i s)) :
    ∀ i s, i ≤ n → inv i s → Ev (fun k => g k i s) (spec i s) := by
  intro i s hi h
  generalize hd : n - i = d
  induction d generalizing i s with
  | zero =>
    obtain rfl : i = n := by omega
    exact he s h
  | succ d ih => exact hs i s (by omega) h (fun s' h' => ih (i + 1) s' (by omega) h' (by omega))
theorem dropD {α : Type} (z : α) (l : List α) (i : Nat) (h : i < l.length) : l.drop i = l.getD i z :: l.drop (i + 1) := by
  rw [List.drop_eq_getElem_cons h, List.getD_eq_getElem?_getD, List.getElem?_eq_getElem h]; rfl
theorem getD_mem' {α : Type} (z : α) (l : List α) (i : Nat) (h : i < l.length) : l.getD i z ∈ l := by
  rw [List.getD_eq_getElem?_getD, List.getElem?_eq_getElem h]; exact List.getElem_mem h
theorem drop_end {α : Type} (l : List α) : l.drop l.length = [] := List.drop_length
theorem ev_bnd {α β : Type} {g : Nat → Option α} {f : Nat → α → Option β} {a : α} {r : β} (h : Ev g a) (k : Ev (fun n => f n a) r) : Ev (fun n => (g n).bind (f n)) r := h.bind k
theorem w64id (x : Int) (h0 : -9223372036854775808 ≤ x) (h1 : x ≤ 9223372036854775807) : wrap64 x = x := by unfold wrap64; omega
theorem ev_end {α : Type} {g : Nat → Option α} {x r : α} (hg : ∀ k, g (k + 1) = some x) (h : x = r) : Ev g r := Ev.step (f := fun _ => some x) hg (ev_some h)
theorem ev_iff {α : Type} {c d : Prop} [Decidable c] [Decidable d] {a b : Nat → Option α} {x y : α} (hd : c ↔ d) (h1 : c → Ev a x) (h2 : ¬ c → Ev b y) : Ev (fun n => if c then a n else b n) (if d then x else y) := by
  by_cases h : c
  · exact ev_pos h (ev_rw (if_pos (hd.1 h)).symm (h1 h))
  · exact ev_neg h (ev_rw (if_neg (fun k => h (hd.2 k))).symm (h2 h))
theorem ev_if {α : Type} {c : Prop} [Decidable c] {a b : Nat → Option α} {x y : α} (h1 : c → Ev a x) (h2 : ¬ c → Ev b y) : Ev (fun n => if c then a n else b n) (if c then x else y) := ev_iff Iff.rfl h1 h2
theorem ev_no {α : Type} {c : Prop} [Decidable c] {a b : Nat → Option α} {x : α} (h : ¬ c) (k : Ev b x) : Ev (fun n => if c then a n else b n) x := ev_neg h k
theorem goes13 : Ev (fun k => contangolaw13_goes.f k) true := Ev.of (fun k => contangolaw13_goes.mono k) (k := 200) (by decide +kernel)
theorem goes13t : Ev (fun k => (contangolaw13_goes.f k).bind fun t => some t) true := ev_bnd goes13 (ev_some rfl)
/-! ### the legs of trades are flat -/
def undoV (x : S41) : S41 := ⟨x.f0, x.f1, wrap64 (-x.f2), x.f3, x.f4⟩
theorem fitQ_in (n : Int) : 1 ≤ fitQ n ∧ fitQ n ≤ 1048576 := by
  unfold fitQ
  have h0 : 0 ≤ IntKind.u64.wrap n ∧ IntKind.u64.wrap n < 18446744073709551616 := by
    rw [IntKind.wrap_u64]; omega
  rw [Int.tmod_eq_emod_of_nonneg h0.1, w64id (IntKind.u64.wrap n % 1048576) (by omega) (by omega), w64id _ (by omega) (by omega)]
  omega
def goodB (x : S41) : Prop := -1048576 ≤ x.f2 ∧ x.f2 ≤ 1048576
theorem good_ok (x : S41) (h : goodB x) : badQ x.f2 = false := by
  unfold goodB at h
  unfold badQ
  rw [decide_eq_false (by omega), decide_eq_false (by omega)]; rfl
theorem ask_all (p : S41 → Bool) (l : List S41) (hl : l.length ≤ 2048) (hg : ∀ x ∈ l, goodB x) : askV p l = (l.filter p, 0) := by
  rw [askV_val, if_neg (by omega), if_neg (by
    intro hc
    obtain ⟨x, hx, hb⟩ := List.any_eq_true.1 hc
    rw [good_ok x (hg x hx)] at hb; cases hb)]
theorem sumQ_app13 (a b : List S41) : sumQ (a ++ b) = sumQ a + sumQ b := sumQ_app a b
theorem fit_good (m : List S39) : ∀ x ∈ allV (m.map fitT), goodB x := by
  intro x hx
  unfold allV at hx
  rw [List.mem_flatMap] at hx
  obtain ⟨t, ht, hx⟩ := hx
  rw [List.mem_map] at ht
  obtain ⟨u, _, rfl⟩ := ht
  have hq := fitQ_in u.f4
  simp only [List.mem_cons, List.mem_nil_iff, or_false] at hx
  unfold goodB
  rcases hx with rfl | rfl
  · show -1048576 ≤ fitQ u.f4 ∧ fitQ u.f4 ≤ 1048576; omega
  · show -1048576 ≤ wrap64 (-fitQ u.f4) ∧ wrap64 (-fitQ u.f4) ≤ 1048576
    rw [w64id _ (by omega) (by omega)]; omega
theorem fit_flat (s : S28) : ∀ m : List S39, sumF (allV (m.map fitT)) s = 0
  | [] => rfl
  | t :: m => by
    have ih := fit_flat s m
    have hq := fitQ_in t.f4
    unfold sumF allV at ih ⊢
    simp only [List.map_cons, List.flatMap_cons, List.filter_append, sumQ_app13, ih, Int.add_zero]
    have h1 : houseB s (boughtV (fitT t)) = serEq t.f3 s := rfl
    have h2 : houseB s (soldV (fitT t)) = serEq t.f3 s := rfl
    cases hs : serEq t.f3 s with
    | true =>
      simp only [List.filter_cons, h1, h2, hs, if_true, List.filter_nil, sumQ]
      show fitQ t.f4 + (wrap64 (-fitQ t.f4) + 0) = 0
      rw [w64id _ (by omega) (by omega)]; omega
    | false => simp [List.filter_cons, h1, h2, hs, sumQ]
theorem undo_sum (p : S41 → Bool) (hp : ∀ x, p (undoV x) = p x) : ∀ l : List S41, (∀ x ∈ l, goodB x) → sumQ ((l.map undoV).filter p) = -(sumQ (l.filter p))
  | [], _ => rfl
  | x :: l, h => by
    have ih := undo_sum p hp l (fun y hy => h y (List.mem_cons_of_mem _ hy))
    have hx := h x List.mem_cons_self
    unfold goodB at hx
    simp only [List.map_cons, List.filter_cons, hp]
    cases p x with
    | true =>
      simp only [if_true, sumQ, ih]
      show wrap64 (-x.f2) + _ = _
      rw [w64id _ (by omega) (by omega)]; omega
    | false => simpa using ih
theorem both_zero (p : S41 → Bool) (hp : ∀ x, p (undoV x) = p x) (l : List S41) (h : ∀ x ∈ l, goodB x) : sumQ ((l ++ l.map undoV).filter p) = 0 := by
  rw [List.filter_append, sumQ_app13, undo_sum p hp l h]; omega
theorem both_good (l : List S41) (h : ∀ x ∈ l, goodB x) : ∀ x ∈ l ++ l.map undoV, goodB x := by
  intro x hx
  rw [List.mem_append] at hx
  rcases hx with hx | hx
  · exact h x hx
  · obtain ⟨y, hy, rfl⟩ := List.mem_map.1 hx
    have := h y hy
    unfold goodB at this ⊢
    show -1048576 ≤ wrap64 (-y.f2) ∧ wrap64 (-y.f2) ≤ 1048576
    rw [w64id _ (by omega) (by omega)]; omega
theorem flat_true (l : List S41) (hl : l.length ≤ 2048) (hg : ∀ x ∈ l, goodB x) (hz : ∀ x ∈ l, sumF l x.f1 = 0) : flatV l = true := by
  unfold flatV
  rw [ask_all _ l hl hg, if_pos rfl]
  exact List.all_eq_true.2 fun x hx => beq_iff_eq.2 (hz x hx)
theorem rd_mem13 (l : List S41) (i : Nat) (h : i < l.length) : rd_T41 l (i : Int) ∈ l := by
  unfold rd_T41
  rw [Int.toNat_natCast, List.getD_eq_getElem?_getD, List.getElem?_eq_getElem h]
  exact List.getElem_mem _
theorem allV_len : ∀ l : List S39, (allV l).length = 2 * l.length
  | [] => rfl
  | t :: l => by
    have := allV_len l
    unfold allV at this ⊢
    simp only [List.flatMap_cons, List.length_append, List.length_cons, List.length_nil]
    omega
theorem all_val13 (l : List S39) (hl : l.length ≤ 1000000) : novate_All.f l = some (allV l) := by
  unfold novate_All.f
  rw [if_pos (by omega)]
theorem nf_l1 (A : List S41) (hA : A.length ≤ 200) (hg : ∀ x ∈ A, goodB x) (d : Nat) : ∀ i : Nat, i + d = A.length → Ev (fun k => contangolaw13_NovateFlat.l1 k A (A ++ A.map undoV) (A.length : Int) (i : Int)) true := by
  have hbg := both_good A hg
  have hbl : (A ++ A.map undoV).length ≤ 2048 := by rw [List.length_append, List.length_map]; omega
  induction d with
  | zero =>
    intro i hi
    obtain rfl : i = A.length := by omega
    refine Ev.step (fun _ => by rw [contangolaw13_NovateFlat.l1]) ?_
    refine ev_neg (by omega) (ev_val (show novate_Flat.f (A ++ A.map undoV) = some true from ?_) (ev_pos rfl goes13t))
    unfold novate_Flat.f
    rw [flat_true _ hbl hbg (fun x _ => both_zero (houseB x.f1) (fun _ => rfl) A hg)]
  | succ d ih =>
    intro i hi
    have ih := ih (i + 1) (by omega)
    refine Ev.step (fun _ => by rw [contangolaw13_NovateFlat.l1]) ?_
    refine ev_pos (by omega) (ev_pos (by omega) (ev_pos (by omega) ?_))
    have hx := hg _ (rd_mem13 A i (by omega))
    rw [wsucc i (by omega)]
    generalize rd_T41 A (i : Int) = x at *
    refine ev_val (show novate_Net.f (A ++ A.map undoV) x.f0.f0 x.f0.f1 x.f1.f0 x.f1.f1 x.f1.f2 x.f1.f3 = some (0, 0) from ?_) (ev_pos rfl (ev_pos rfl (ev_val rfl (ev_val rfl (ev_neg ?_ ih)))))
    · unfold novate_Net.f
      rw [ask_all _ _ hbl hbg, both_zero (ownB _ _) (fun _ => rfl) A hg]
    · unfold goodB at hx
      have hw : wrap64 (-(wrap64 (-x.f2))) = x.f2 := by rw [w64id (-x.f2) (by omega) (by omega), w64id _ (by omega) (by omega)]; omega
      simp [hw]
theorem nf_l0 (A : List S41) (hA : A.length ≤ 200) (hg : ∀ x ∈ A, goodB x) (d : Nat) : ∀ i : Nat, i + d = A.length → Ev (fun k => contangolaw13_NovateFlat.l0 k A (A ++ (A.take i).map undoV) (A.length : Int) (i : Int)) true := by
  induction d with
  | zero =>
    intro i hi
    obtain rfl : i = A.length := by omega
    refine Ev.step (fun _ => by rw [contangolaw13_NovateFlat.l0]) ?_
    rw [List.take_length]
    exact ev_neg (by omega) (nf_l1 A hA hg A.length 0 (by omega))
  | succ d ih =>
    intro i hi
    have ih := ih (i + 1) (by omega)
    rw [take_T41 A i (by omega), List.map_append, ← List.append_assoc] at ih
    refine Ev.step (fun _ => by rw [contangolaw13_NovateFlat.l0]) ?_
    refine ev_pos (by omega) (ev_pos (by omega) (ev_pos (by omega) (ev_val rfl (ev_pos (by rw [List.length_append, List.length_map, List.length_take]; omega) ?_))))
    rw [wsucc i (by omega)]
    exact ih
theorem NovateFlat : ∀ (l0 : List (S39)), l0.length ≤ maxLen → (∀ x0 ∈ l0, (Lit.int .i64 x0.f0).wf = true ∧ (Lit.int .i64 x0.f1).wf = true ∧ (Lit.int .i64 x0.f2).wf = true ∧ x0.f3.f0.size ≤ maxLen ∧ (Lit.int .i64 x0.f3.f1).wf = true ∧ (Lit.int .i64 x0.f3.f2).wf = true ∧ (Lit.int .i64 x0.f3.f3).wf = true ∧ (Lit.int .i64 x0.f4).wf = true ∧ (Lit.int .i64 x0.f5).wf = true ∧ x0.f6.f0.size ≤ maxLen ∧ x0.f6.f1.size ≤ maxLen ∧ x0.f7.f0.size ≤ maxLen ∧ x0.f7.f1.size ≤ maxLen) → ∃ k, contangolaw13_NovateFlat.f k l0 = some true := by
  intro l _ _
  refine Ev.rounds ?_
  unfold contangolaw13_NovateFlat.f
  refine ev_val (show contangolaw13_fit.f l = some ((l.take 100).map fitT) from rfl) ?_
  have hm : (l.take 100).length ≤ 100 := by rw [List.length_take]; omega
  generalize l.take 100 = m at *
  have hml : (m.map fitT).length ≤ 100 := by rw [List.length_map]; exact hm
  have hlen := allV_len (m.map fitT)
  have hg := fit_good m
  have hfl : novate_Flat.f (allV (m.map fitT)) = some true := by
    unfold novate_Flat.f
    rw [flat_true _ (by omega) hg (fun x _ => fit_flat x.f1 m)]
  refine ev_val (all_val13 (m.map fitT) (by omega)) ?_
  generalize m.map fitT = t at *
  generalize allV t = A at *
  refine ev_pos (by rw [w64id _ (by omega) (by omega)]; omega) (ev_val hfl ?_)
  refine Ev.step (fun _ => by rw [contangolaw13_NovateFlat.j0]) ?_
  refine ev_neg (by decide) (ev_val rfl (ev_pos (by simp only [List.length_nil]; omega) ?_))
  rw [List.nil_append]
  have := nf_l0 A (by omega) hg A.length 0 (by omega)
  rw [List.take_zero, List.map_nil, List.append_nil] at this
  exact this
end Go.Proofs.Ytpifobhpijnehaa.Pure
