/- The pure statement of the law NovateNets, proved: plain Lean over numbers and lists, no program in sight. -/
import Derived.Test.YtpifobhpijnehaaPNovateNetsx10
namespace Go.Proofs.Ytpifobhpijnehaa.Pure
open Go.RowKit Go.Proofs.Ytpifobhpijnehaa.PNovateNets Go.Proofs.YtpifobhpijnehaaW.PrintWords Go.Proofs.YtpifobhpijnehaaW.PrintLast Go.Proofs.YtpifobhpijnehaaW.PrintMore
set_option linter.unusedVariables false
set_option linter.unusedSimpArgs false
/-! ### from some number of rounds on: steps -/
theorem ev_pos {α : Type} {c : Prop} [Decidable c] {a b : Nat → Option α} {r : α} (h : c) (k : Ev a r) : Ev (fun n => if c then a n else b n) r := Ev.congr (fun _ => if_pos h) k
theorem ev_neg {α : Type} {c : Prop} [Decidable c] {a b : Nat → Option α} {r : α} (h : ¬ c) (k : Ev b r) : Ev (fun n => if c then a n else b n) r := Ev.congr (fun _ => if_neg h) k
theorem ev_val {α β : Type} {g : Option α} {f : Nat → α → Option β} {a : α} {r : β} (h : g = some a) (k : Ev (fun n => f n a) r) : Ev (fun n => g.bind (f n)) r := by
  subst h; exact k
theorem ev_some {α : Type} {x r : α} (h : x = r) : Ev (fun _ => some x) r := h ▸ Ev.now x
theorem ev_rw {α : Type} {g : Nat → Option α} {r s : α} (h : r = s) (k : Ev g r) : Ev g s := h ▸ k
theorem wsucc (i : Nat) (h : i ≤ 4611686018427387904) : wrap64 ((i : Int) + 1) = ((i + 1 : Nat) : Int) := by
  unfold wrap64; omega
theorem rd_nat (l : List Int) (i : Nat) : rd l (i : Int) = l.getD i 0 := rfl
/-! ### a loop, from its end backwards -/
theorem ev_down {ρ S : Type} {n : Nat} {g : Nat → Nat → S → Option ρ} {spec : Nat → S → ρ} {inv : Nat → S → Prop}
    (he : ∀ s, inv n s → Ev (fun k => g k n s) (spec n s))
    (hs : ∀ i s, i < n → inv i s → (∀ s', inv (i + 1) s' → Ev (fun k => g k (i + 1) s') (spec (i + 1) s')) → Ev (fun k => g k i s) (spec i s)) :
    ∀ i s, i ≤ n → inv i s → Ev (fun k => g k i s) (spec i s) := by
  intro i s hi h
  generalize hd : n - i = d
  induction d generalizing i s with
  | zero =>
    obtain rfl : i = n := by omega
    exact he s h
  | succ d ih => exact hs i s (by omega) h (fun s' h' => ih (i + 1) s' (by omega) h' (by omega))
theorem dropD {α : Type} (z : α) (l : List α) (i : Nat) (h : i < l.length) : l.drop i = l.getD i z :: l.drop (i + 1) := by
  rw [List.drop_eq_getElem_cons h, List.getD_eq_getElem?_getD, List.getElem?_eq_getElem h]; rfl
theorem getD_mem' {α : Type} (z : α) (l : List α) (i : Nat) (h : i < l.length) : l.getD i z ∈ l := by
  rw [List.getD_eq_getElem?_getD, List.getElem?_eq_getElem h]; exact List.getElem_mem h
theorem drop_end {α : Type} (l : List α) : l.drop l.length = [] := List.drop_length
theorem ev_bnd {α β : Type} {g : Nat → Option α} {f : Nat → α → Option β} {a : α} {r : β} (h : Ev g a) (k : Ev (fun n => f n a) r) : Ev (fun n => (g n).bind (f n)) r := h.bind k
theorem w64id (x : Int) (h0 : -9223372036854775808 ≤ x) (h1 : x ≤ 9223372036854775807) : wrap64 x = x := by unfold wrap64; omega
theorem ev_end {α : Type} {g : Nat → Option α} {x r : α} (hg : ∀ k, g (k + 1) = some x) (h : x = r) : Ev g r := Ev.step (f := fun _ => some x) hg (ev_some h)
theorem ev_iff {α : Type} {c d : Prop} [Decidable c] [Decidable d] {a b : Nat → Option α} {x y : α} (hd : c ↔ d) (h1 : c → Ev a x) (h2 : ¬ c → Ev b y) : Ev (fun n => if c then a n else b n) (if d then x else y) := by
  by_cases h : c
  · exact ev_pos h (ev_rw (if_pos (hd.1 h)).symm (h1 h))
  · exact ev_neg h (ev_rw (if_neg (fun k => h (hd.2 k))).symm (h2 h))
theorem ev_if {α : Type} {c : Prop} [Decidable c] {a b : Nat → Option α} {x y : α} (h1 : c → Ev a x) (h2 : ¬ c → Ev b y) : Ev (fun n => if c then a n else b n) (if c then x else y) := ev_iff Iff.rfl h1 h2
theorem ev_no {α : Type} {c : Prop} [Decidable c] {a b : Nat → Option α} {x : α} (h : ¬ c) (k : Ev b x) : Ev (fun n => if c then a n else b n) x := ev_neg h k
theorem goes13 : Ev (fun k => contangolaw13_goes.f k) true := Ev.of (fun k => contangolaw13_goes.mono k) (k := 200) (by decide +kernel)
theorem goes13t : Ev (fun k => (contangolaw13_goes.f k).bind fun t => some t) true := ev_bnd goes13 (ev_some rfl)
theorem rcheck13_ev (p : S41 → Bool) (l : List S41) : Ev (fun k => contangoref13_Check.f k l) (askV p l).2 := by
  rw [askV_val]
  unfold contangoref13_Check.f
  by_cases h : l.length > 2048
  · rw [if_pos h]; exact ev_pos (by omega) (ev_some rfl)
  · rw [if_neg h]
    refine ev_neg (by omega) ?_
    have hgo := ev_down (n := l.length) (g := fun k i (_ : Unit) => contangoref13_Check.l0 k l (i : Int)) (spec := fun i _ => if (l.drop i).any (fun x => badQ x.f2) = true then 18 else 0) (inv := fun _ _ => True)
      (fun _ _ => by
        refine Ev.step (fun _ => by rw [contangoref13_Check.l0]) ?_
        exact ev_neg (by omega) (ev_some (by rw [List.drop_length]; rfl)))
      (fun i _ hi _ ih => by
        have ih := ih () trivial
        refine Ev.step (fun _ => by rw [contangoref13_Check.l0]) ?_
        refine ev_pos (by omega) (ev_pos (by omega) ?_)
        rw [drop_T41 l i hi, List.any_cons]
        by_cases h1 : (rd_T41 l (i : Int)).f2 < -1048576
        · exact ev_pos h1 (ev_some (by rw [if_pos (by unfold badQ; rw [decide_eq_true h1]; rfl)]))
        · refine ev_neg h1 ?_
          by_cases h2 : (rd_T41 l (i : Int)).f2 > 1048576
          · exact ev_pos h2 (ev_some (by rw [if_pos (by unfold badQ; rw [decide_eq_true (show 1048576 < (rd_T41 l (i : Int)).f2 from h2)]; simp)]))
          · refine ev_neg h2 ?_
            have hb : badQ (rd_T41 l (i : Int)).f2 = false := by unfold badQ; rw [decide_eq_false h1, decide_eq_false (show ¬ 1048576 < (rd_T41 l (i : Int)).f2 from h2)]; rfl
            rw [hb, Bool.false_or, wsucc i (by omega)]
            exact ih)
    have := hgo 0 () (by omega) trivial
    rw [List.drop_zero] at this
    refine ev_rw ?_ this
    split <;> rfl
/-! ### the reference's Net, House and Flat -/
theorem in_T41 (l : List S41) (h : ∀ x ∈ l, badQ x.f2 = false) (i : Nat) (hi : i < l.length) : -1048576 ≤ (rd_T41 l (i : Int)).f2 ∧ (rd_T41 l (i : Int)).f2 ≤ 1048576 := by
  have h1 := h (rd_T41 l (i : Int)) (by
    unfold rd_T41
    rw [Int.toNat_natCast, List.getD_eq_getElem?_getD, List.getElem?_eq_getElem hi]
    exact List.getElem_mem _)
  simp only [badQ, Bool.or_eq_false_iff, decide_eq_false_iff_not] at h1
  omega
theorem rnet_go (a : S24) (sr : S28) (l : List S41) (hl : l.length ≤ 2048) (hin : ∀ x ∈ l, badQ x.f2 = false) : ∀ (i : Nat) (n : Int), i ≤ l.length → (-1048576 * (i : Int) ≤ n ∧ n ≤ 1048576 * (i : Int)) → Ev (fun k => contangoref13_Net.l0 k l n (i : Int) a.f0 a.f1 sr.f0 sr.f1 sr.f2 sr.f3) (n + sumQ ((l.drop i).filter (ownB a sr)), 0) :=
  ev_down (n := l.length) (g := fun k i n => contangoref13_Net.l0 k l n (i : Int) a.f0 a.f1 sr.f0 sr.f1 sr.f2 sr.f3) (spec := fun i n => (n + sumQ ((l.drop i).filter (ownB a sr)), 0)) (inv := fun i n => -1048576 * (i : Int) ≤ n ∧ n ≤ 1048576 * (i : Int))
    (fun n hn => by
      refine Ev.step (fun _ => by rw [contangoref13_Net.l0]) ?_
      exact ev_neg (by omega) (ev_some (by rw [List.drop_length]; simp [sumQ])))
    (fun i n hi hn ih => by
      have hq := in_T41 l hin i hi
      refine Ev.step (fun _ => by rw [contangoref13_Net.l0]) ?_
      refine ev_pos (by omega) (ev_pos (by omega) ?_)
      rw [drop_T41 l i hi, List.filter_cons]
      generalize rd_T41 l (i : Int) = x at *
      have ho : ownB a sr x = (accEq x.f0 a && serEq x.f1 sr) := rfl
      rw [wsucc i (by omega)]
      cases hc : accEq x.f0 a with
      | false =>
        rw [ho, hc, Bool.false_and, if_neg (show ¬ (false = true) by decide)]
        exact ev_neg (by rw [show (x.f0.f0.toList == a.f0.toList && (x.f0.f1.toList == a.f1.toList)) = false from hc]; decide) (ih n (by omega))
      | true =>
        refine ev_pos hc ?_
        rw [ho, hc, Bool.true_and]
        cases hd : serEq x.f1 sr with
        | false =>
          rw [if_neg (show ¬ (false = true) by decide)]
          exact ev_neg (by rw [show (x.f1.f0.toList == sr.f0.toList && (x.f1.f1 == sr.f1 && (x.f1.f2 == sr.f2 && (x.f1.f3 == sr.f3)))) = false from hd]; decide) (ih n (by omega))
        | true =>
          refine ev_pos hd ?_
          rw [if_pos rfl, w64id (n + x.f2) (by omega) (by omega)]
          exact ev_rw (by simp only [sumQ]; congr 1; omega) (ih (n + x.f2) (by omega)))
theorem rhouse_go (sr : S28) (l : List S41) (hl : l.length ≤ 2048) (hin : ∀ x ∈ l, badQ x.f2 = false) : ∀ (i : Nat) (n : Int), i ≤ l.length → (-1048576 * (i : Int) ≤ n ∧ n ≤ 1048576 * (i : Int)) → Ev (fun k => contangoref13_House.l0 k l n (i : Int) sr.f0 sr.f1 sr.f2 sr.f3) (n - sumQ ((l.drop i).filter (houseB sr)), 0) :=
  ev_down (n := l.length) (g := fun k i n => contangoref13_House.l0 k l n (i : Int) sr.f0 sr.f1 sr.f2 sr.f3) (spec := fun i n => (n - sumQ ((l.drop i).filter (houseB sr)), 0)) (inv := fun i n => -1048576 * (i : Int) ≤ n ∧ n ≤ 1048576 * (i : Int))
    (fun n hn => by
      refine Ev.step (fun _ => by rw [contangoref13_House.l0]) ?_
      exact ev_neg (by omega) (ev_some (by rw [List.drop_length]; simp [sumQ])))
    (fun i n hi hn ih => by
      have hq := in_T41 l hin i hi
      refine Ev.step (fun _ => by rw [contangoref13_House.l0]) ?_
      refine ev_pos (by omega) (ev_pos (by omega) ?_)
      rw [drop_T41 l i hi, List.filter_cons]
      generalize rd_T41 l (i : Int) = x at *
      have ho : houseB sr x = serEq x.f1 sr := rfl
      rw [wsucc i (by omega), ho]
      cases hd : serEq x.f1 sr with
      | false =>
        rw [if_neg (show ¬ (false = true) by decide)]
        exact ev_neg (by rw [show (x.f1.f0.toList == sr.f0.toList && (x.f1.f1 == sr.f1 && (x.f1.f2 == sr.f2 && (x.f1.f3 == sr.f3)))) = false from hd]; decide) (ih n (by omega))
      | true =>
        refine ev_pos hd ?_
        rw [if_pos rfl, w64id (n - x.f2) (by omega) (by omega)]
        exact ev_rw (by simp only [sumQ]; congr 1; omega) (ih (n - x.f2) (by omega)))
theorem ask_fst (p : S41 → Bool) (l : List S41) (h : (askV p l).2 = 0) : (askV p l).1 = l.filter p := by
  have hok := ask_ok _ _ h
  rw [askV_val, if_neg (by omega), if_neg (by
    intro hc
    obtain ⟨x, hx, hb⟩ := List.any_eq_true.1 hc
    rw [hok.2 x hx] at hb; cases hb)]
theorem ask_no (p : S41 → Bool) (l : List S41) (h : (askV p l).2 ≠ 0) : (askV p l).1 = [] := by
  rw [askV_val] at h ⊢
  split
  · rfl
  · split
    · rfl
    · rename_i h1 h2
      rw [if_neg h1, if_neg h2] at h
      exact absurd rfl h
theorem ask_snd (p q : S41 → Bool) (l : List S41) : (askV p l).2 = (askV q l).2 := by
  rw [askV_val, askV_val]
  split
  · rfl
  · split <;> rfl
theorem rnet_ev (a : S24) (sr : S28) (l : List S41) : Ev (fun k => contangoref13_Net.f k l a.f0 a.f1 sr.f0 sr.f1 sr.f2 sr.f3) (sumQ (askV (ownB a sr) l).1, (askV (ownB a sr) l).2) := by
  unfold contangoref13_Net.f
  refine ev_bnd (rcheck13_ev (ownB a sr) l) ?_
  by_cases he : (askV (ownB a sr) l).2 = 0
  · have hok := ask_ok _ _ he
    have h := rnet_go a sr l hok.1 hok.2 0 0 (by omega) (by omega)
    refine ev_pos he (ev_rw ?_ h)
    rw [he, ask_fst _ _ he, List.drop_zero, Int.zero_add]
  · exact ev_neg he (ev_some (by rw [ask_no _ _ he]; rfl))
theorem rhouse_ev (sr : S28) (l : List S41) : Ev (fun k => contangoref13_House.f k l sr.f0 sr.f1 sr.f2 sr.f3) (-(sumQ (askV (houseB sr) l).1), (askV (houseB sr) l).2) := by
  unfold contangoref13_House.f
  refine ev_bnd (rcheck13_ev (houseB sr) l) ?_
  by_cases he : (askV (houseB sr) l).2 = 0
  · have hok := ask_ok _ _ he
    have h := rhouse_go sr l hok.1 hok.2 0 0 (by omega) (by omega)
    refine ev_pos he (ev_rw ?_ h)
    rw [he, ask_fst _ _ he, List.drop_zero, Int.zero_sub]
  · exact ev_neg he (ev_some (by rw [ask_no _ _ he]; rfl))
theorem ask_nil (p : S41 → Bool) : (askV p []).2 = 0 := rfl
theorem rflat_ev (l : List S41) (hl : l.length ≤ 1000000) : Ev (fun k => contangoref13_Flat.f k l) (flatV l) := by
  unfold contangoref13_Flat.f flatV
  by_cases he : (askV (fun _ => false) l).2 = 0
  · rw [if_pos he]
    have hgo := ev_down (n := l.length) (g := fun k i (_ : Unit) => contangoref13_Flat.l0 k l (i : Int)) (spec := fun i _ => (l.drop i).all (fun x => sumF l x.f1 == 0)) (inv := fun _ _ => True)
      (fun _ _ => by
        refine Ev.step (fun _ => by rw [contangoref13_Flat.l0]) ?_
        exact ev_neg (by omega) (ev_some (by rw [List.drop_length]; rfl)))
      (fun i _ hi _ ih => by
        have ih := ih () trivial
        refine Ev.step (fun _ => by rw [contangoref13_Flat.l0]) ?_
        refine ev_pos (by omega) (ev_pos (by omega) ?_)
        rw [drop_T41 l i hi, List.all_cons]
        generalize rd_T41 l (i : Int) = x at *
        refine ev_bnd (rhouse_ev x.f1 l) ?_
        have he2 : (askV (houseB x.f1) l).2 = 0 := by rw [← he]; exact ask_snd _ _ _
        rw [ask_fst _ _ he2, he2]
        show Ev (fun k => if -(sumF l x.f1) = 0 then _ else _) _
        by_cases hz : sumF l x.f1 = 0
        · refine ev_pos (by omega) (ev_pos rfl ?_)
          rw [wsucc i (by omega), beq_iff_eq.2 hz, Bool.true_and]
          exact ih
        · exact ev_neg (by omega) (ev_some (by rw [beq_eq_false_iff_ne.2 hz]; rfl)))
    have := hgo 0 () (by omega) trivial
    rw [List.drop_zero] at this
    exact this
  · rw [if_neg he]
    have hne : 0 < l.length := by
      cases l with
      | nil => exact absurd rfl he
      | cons x l => simp
    refine Ev.step (fun _ => by rw [contangoref13_Flat.l0]) ?_
    refine ev_pos (by omega) (ev_pos (by omega) ?_)
    generalize rd_T41 l 0 = x at *
    refine ev_bnd (rhouse_ev x.f1 l) ?_
    have he2 : (askV (houseB x.f1) l).2 ≠ 0 := by rw [ask_snd (houseB x.f1) (fun _ => false) l]; exact he
    rw [ask_no _ _ he2]
    exact ev_pos rfl (ev_neg he2 (ev_some rfl))
theorem beq_no (a : Int) : (!(a == a)) = false := by simp
theorem beq_nol (a : List UInt8) : (!(a == a)) = false := by simp
theorem same13_ev (l : List S41) (hl : l.length ≤ 1000000) : Ev (fun k => contangoref13_Same.f k l l) true := by
  unfold contangoref13_Same.f
  refine ev_pos rfl ?_
  have hgo := ev_down (n := l.length) (g := fun k i (_ : Unit) => contangoref13_Same.l0 k l l (i : Int)) (spec := fun _ _ => true) (inv := fun _ _ => True)
    (fun _ _ => by
      refine Ev.step (fun _ => by rw [contangoref13_Same.l0]) ?_
      exact ev_neg (by omega) (ev_some rfl))
    (fun i _ hi _ ih => by
      have ih := ih () trivial
      refine Ev.step (fun _ => by rw [contangoref13_Same.l0]) ?_
      refine ev_pos (by omega) (ev_pos (by omega) (ev_pos (by omega) (ev_neg (by simp only [beq_no, beq_nol, Bool.or_self]; decide) ?_)))
      rw [wsucc i (by omega)]
      exact ih)
  exact hgo 0 () (by omega) trivial
theorem NovateNets : ∀ (l0 : List (S41)) (a1_0 : ByteArray) (a1_1 : ByteArray) (a2_0 : ByteArray) (a2_1 : Int) (a2_2 : Int) (a2_3 : Int), l0.length ≤ maxLen → (∀ x0 ∈ l0, x0.f0.f0.size ≤ maxLen ∧ x0.f0.f1.size ≤ maxLen ∧ x0.f1.f0.size ≤ maxLen ∧ (Lit.int .i64 x0.f1.f1).wf = true ∧ (Lit.int .i64 x0.f1.f2).wf = true ∧ (Lit.int .i64 x0.f1.f3).wf = true ∧ (Lit.int .i64 x0.f2).wf = true ∧ (Lit.int .i64 x0.f3).wf = true ∧ (Lit.int .i64 x0.f4).wf = true) → a1_0.size ≤ maxLen → a1_1.size ≤ maxLen → a2_0.size ≤ maxLen → (Lit.int .i64 a2_1).wf = true → (Lit.int .i64 a2_2).wf = true → (Lit.int .i64 a2_3).wf = true → ∃ k, contangolaw13_NovateNets.f k l0 a1_0 a1_1 a2_0 a2_1 a2_2 a2_3 = some true := by
  intro l a0 a1 s0 s1 s2 s3 _ _ _ _ _ _ _ _
  refine Ev.rounds ?_
  have hj : ∀ b : Bool, (b = false → l.length ≤ 3000) → Ev (fun k => contangolaw13_NovateNets.j0 k l b a0 a1 s0 s1 s2 s3) true := by
    intro b hb
    refine Ev.step (fun _ => by rw [contangolaw13_NovateNets.j0]) ?_
    cases b with
    | true => exact ev_pos rfl goes13t
    | false =>
      have hl := hb rfl
      refine ev_neg (by decide) (ev_val rfl (ev_pos (by simp only [List.length_nil]; omega) (ev_val rfl ?_)))
      rw [List.nil_append]
      refine ev_val (show novate_Net.f l a0 a1 s0 s1 s2 s3 = some _ from rfl) (ev_bnd (rnet_ev ⟨a0, a1⟩ ⟨s0, s1, s2, s3⟩ l) ?_)
      refine ev_val (show novate_House.f l s0 s1 s2 s3 = some _ from rfl) (ev_bnd (rhouse_ev ⟨s0, s1, s2, s3⟩ l) ?_)
      refine ev_pos rfl (ev_pos rfl (ev_pos rfl (ev_pos rfl ?_)))
      refine ev_val (show novate_Flat.f l = some _ from rfl) (ev_bnd (rflat_ev l (by omega)) (ev_pos (by simp) ?_))
      exact ev_bnd (same13_ev l (by omega)) (ev_pos rfl goes13t)
  unfold contangolaw13_NovateNets.f
  by_cases h1 : (l.length : Int) > 300
  · refine ev_pos h1 ?_
    by_cases h2 : (l.length : Int) ≤ 2048
    · exact ev_pos h2 (hj true (by simp))
    · exact ev_neg h2 (hj _ (fun h => by have := of_decide_eq_false h; omega))
  · exact ev_neg h1 (hj _ (fun h => by have := of_decide_eq_false h; omega))
end Go.Proofs.Ytpifobhpijnehaa.Pure
