/- The pure statement of the law NovateWhole, proved: plain Lean over numbers and lists, no program in sight. -/
import Derived.Test.YtpifobhpijnehaaPNovateWholex7
namespace Go.Proofs.Ytpifobhpijnehaa.Pure
open Go.RowKit Go.Proofs.Ytpifobhpijnehaa.PNovateWhole Go.Proofs.YtpifobhpijnehaaW.PrintWords Go.Proofs.YtpifobhpijnehaaW.PrintLast Go.Proofs.YtpifobhpijnehaaW.PrintMore
set_option linter.unusedVariables false
set_option linter.unusedSimpArgs false
/-! ### from some number of rounds on: steps -/
theorem ev_pos {α : Type} {c : Prop} [Decidable c] {a b : Nat → Option α} {r : α} (h : c) (k : Ev a r) : Ev (fun n => if c then a n else b n) r := Ev.congr (fun _ => if_pos h) k
theorem ev_neg {α : Type} {c : Prop} [Decidable c] {a b : Nat → Option α} {r : α} (h : ¬ c) (k : Ev b r) : Ev (fun n => if c then a n else b n) r := Ev.congr (fun _ => if_neg h) k
theorem ev_val {α β : Type} {g : Option α} {f : Nat → α → Option β} {a : α} {r : β} (h : g = some a) (k : Ev (fun n => f n a) r) : Ev (fun n => g.bind (f n)) r := by
  subst h; exact k
theorem ev_some {α : Type} {x r : α} (h : x = r) : Ev (fun _ => some x) r := h ▸ Ev.now x
theorem ev_rw {α : Type} {g : Nat → Option α} {r s : α} (h : r = s) (k : Ev g r) : Ev g s := h ▸ k
theorem wsucc (i : Nat) (h : i ≤ 4611686018427387904) : wrap64 ((i : Int) + 1) = ((i + 1 : Nat) : Int) := by
  unfold wrap64; omega
theorem rd_nat (l : List Int) (i : Nat) : rd l (i : Int) = l.getD i 0 := rfl
/-! ### a loop, from its end backwards -/
theorem ev_down {ρ S : Type} {n : Nat} {g : Nat → Nat → S → Option ρ} {spec : Nat → S → ρ} {inv : Nat → S → Prop}
    (he : ∀ s, inv n s → Ev (fun k => g k n s) (spec n s))
    (hs : ∀ i s, i < n → inv i s → (∀ s', inv (i + 1) s' → Ev (fun k => g k (i + 1) s') (spec (i + 1) s')) → Ev (fun k => g k i s) (spec i s)) :
    ∀ i s, i ≤ n → inv i s → Ev (fun k => g k i s) (spec i s) := by
  intro i s hi h
  generalize hd : n - i = d
  induction d generalizing i s with
  | zero =>
    obtain rfl : i = n := by omega
    exact he s h
  | succ d ih => exact hs i s (by omega) h (fun s' h' => ih (i + 1) s' (by omega) h' (by omega))
theorem dropD {α : Type} (z : α) (l : List α) (i : Nat) (h : i < l.length) : l.drop i = l.getD i z :: l.drop (i + 1) := by
  rw [List.drop_eq_getElem_cons h, List.getD_eq_getElem?_getD, List.getElem?_eq_getElem h]; rfl
theorem getD_mem' {α : Type} (z : α) (l : List α) (i : Nat) (h : i < l.length) : l.getD i z ∈ l := by
  rw [List.getD_eq_getElem?_getD, List.getElem?_eq_getElem h]; exact List.getElem_mem h
theorem drop_end {α : Type} (l : List α) : l.drop l.length = [] := List.drop_length
theorem ev_bnd {α β : Type} {g : Nat → Option α} {f : Nat → α → Option β} {a : α} {r : β} (h : Ev g a) (k : Ev (fun n => f n a) r) : Ev (fun n => (g n).bind (f n)) r := h.bind k
theorem w64id (x : Int) (h0 : -9223372036854775808 ≤ x) (h1 : x ≤ 9223372036854775807) : wrap64 x = x := by unfold wrap64; omega
theorem ev_end {α : Type} {g : Nat → Option α} {x r : α} (hg : ∀ k, g (k + 1) = some x) (h : x = r) : Ev g r := Ev.step (f := fun _ => some x) hg (ev_some h)
theorem ev_iff {α : Type} {c d : Prop} [Decidable c] [Decidable d] {a b : Nat → Option α} {x y : α} (hd : c ↔ d) (h1 : c → Ev a x) (h2 : ¬ c → Ev b y) : Ev (fun n => if c then a n else b n) (if d then x else y) := by
  by_cases h : c
  · exact ev_pos h (ev_rw (if_pos (hd.1 h)).symm (h1 h))
  · exact ev_neg h (ev_rw (if_neg (fun k => h (hd.2 k))).symm (h2 h))
theorem ev_if {α : Type} {c : Prop} [Decidable c] {a b : Nat → Option α} {x y : α} (h1 : c → Ev a x) (h2 : ¬ c → Ev b y) : Ev (fun n => if c then a n else b n) (if c then x else y) := ev_iff Iff.rfl h1 h2
theorem ev_no {α : Type} {c : Prop} [Decidable c] {a b : Nat → Option α} {x : α} (h : ¬ c) (k : Ev b x) : Ev (fun n => if c then a n else b n) x := ev_neg h k
theorem goes13 : Ev (fun k => contangolaw13_goes.f k) true := Ev.of (fun k => contangolaw13_goes.mono k) (k := 200) (by decide +kernel)
theorem goes13t : Ev (fun k => (contangolaw13_goes.f k).bind fun t => some t) true := ev_bnd goes13 (ev_some rfl)
theorem ask_fst (p : S41 → Bool) (l : List S41) (h : (askV p l).2 = 0) : (askV p l).1 = l.filter p := by
  have hok := ask_ok _ _ h
  rw [askV_val, if_neg (by omega), if_neg (by
    intro hc
    obtain ⟨x, hx, hb⟩ := List.any_eq_true.1 hc
    rw [hok.2 x hx] at hb; cases hb)]
theorem ask_no (p : S41 → Bool) (l : List S41) (h : (askV p l).2 ≠ 0) : (askV p l).1 = [] := by
  rw [askV_val] at h ⊢
  split
  · rfl
  · split
    · rfl
    · rename_i h1 h2
      rw [if_neg h1, if_neg h2] at h
      exact absurd rfl h
theorem ask_snd (p q : S41 → Bool) (l : List S41) : (askV p l).2 = (askV q l).2 := by
  rw [askV_val, askV_val]
  split
  · rfl
  · split <;> rfl
theorem tl_inj13 {a b : ByteArray} (h : (a.toList == b.toList) = true) : a = b := by
  have h := beq_iff_eq.1 h
  rw [ByteArray.toList_eq, ByteArray.toList_eq] at h
  exact ByteArray.ext (Array.toList_inj.1 h)
theorem accEq_eq {a k : S24} (h : accEq a k = true) : a = k := by
  unfold accEq at h
  simp only [Bool.and_eq_true] at h
  obtain ⟨a0, a1⟩ := a
  obtain ⟨k0, k1⟩ := k
  have h0 := tl_inj13 h.1
  have h1 := tl_inj13 h.2
  dsimp only at h0 h1
  subst h0; subst h1; rfl
theorem accEq_refl (a : S24) : accEq a a = true := by unfold accEq; simp
/-! ### all accounts together -/
theorem sumQ_or (p q : S41 → Bool) : ∀ l : List S41, (∀ x ∈ l, ¬ (p x = true ∧ q x = true)) → sumQ (l.filter (fun x => p x || q x)) = sumQ (l.filter p) + sumQ (l.filter q)
  | [], _ => rfl
  | x :: l, h => by
    have ih := sumQ_or p q l (fun y hy => h y (List.mem_cons_of_mem _ hy))
    have hx := h x List.mem_cons_self
    cases hp : p x with
    | true =>
      have hq : q x = false := by
        cases hq : q x with
        | false => rfl
        | true => exact absurd ⟨hp, hq⟩ hx
      simp [List.filter_cons, hp, hq, sumQ, ih]; omega
    | false =>
      cases hq : q x with
      | true => simp [List.filter_cons, hp, hq, sumQ, ih]; omega
      | false => simp [List.filter_cons, hp, hq, ih]
def seenB (l : List S41) (a : S24) : Bool := l.any (fun y => accEq y.f0 a)
def partQ (sr : S28) (l : List S41) (i : Nat) : Int := sumQ (l.filter (fun x => houseB sr x && seenB (l.take i) x.f0))
theorem seen_take (l : List S41) (i : Nat) (h : i < l.length) (a : S24) : seenB (l.take (i + 1)) a = (seenB (l.take i) a || accEq (rd_T41 l (i : Int)).f0 a) := by
  unfold seenB
  rw [take_T41 l i h, List.any_append]
  simp only [List.any_cons, List.any_nil, Bool.or_false]
theorem part_step (sr : S28) (l : List S41) (i : Nat) (h : i < l.length) : partQ sr l (i + 1) = partQ sr l i + (if seenB (l.take i) (rd_T41 l (i : Int)).f0 = true then 0 else sumQ (l.filter (ownB (rd_T41 l (i : Int)).f0 sr))) := by
  unfold partQ
  by_cases hs : seenB (l.take i) (rd_T41 l (i : Int)).f0 = true
  · rw [if_pos hs, Int.add_zero]
    congr 1
    refine List.filter_congr fun x _ => ?_
    rw [seen_take l i h]
    cases ha : accEq (rd_T41 l (i : Int)).f0 x.f0 with
    | false => rw [Bool.or_false]
    | true => rw [← accEq_eq ha, hs]; rfl
  · rw [if_neg hs, ← sumQ_or]
    · congr 1
      refine List.filter_congr fun x _ => ?_
      rw [seen_take l i h]
      have hc : accEq (rd_T41 l (i : Int)).f0 x.f0 = accEq x.f0 (rd_T41 l (i : Int)).f0 := by
        cases ha : accEq (rd_T41 l (i : Int)).f0 x.f0 with
        | true => rw [← accEq_eq ha, accEq_refl]
        | false =>
          cases hb : accEq x.f0 (rd_T41 l (i : Int)).f0 with
          | false => rfl
          | true => rw [accEq_eq hb, accEq_refl] at ha; cases ha
      unfold ownB houseB
      rw [hc]
      cases serEq x.f1 sr <;> cases seenB (l.take i) x.f0 <;> cases accEq x.f0 (rd_T41 l (i : Int)).f0 <;> rfl
    · intro x _ hx
      obtain ⟨h1, h2⟩ := hx
      unfold ownB at h2
      simp only [Bool.and_eq_true] at h1 h2
      rw [← accEq_eq h2.1] at hs
      exact hs h1.2
theorem part_zero (sr : S28) (l : List S41) : partQ sr l 0 = 0 := by
  unfold partQ
  have : (fun x : S41 => houseB sr x && seenB (l.take 0) x.f0) = fun _ => false := by
    funext x; simp [seenB]
  rw [this, List.filter_eq_nil_iff.2 (fun _ _ => by decide)]; rfl
theorem part_all (sr : S28) (l : List S41) : partQ sr l l.length = sumQ (l.filter (houseB sr)) := by
  unfold partQ
  congr 1
  refine List.filter_congr fun x hx => ?_
  have : seenB (l.take l.length) x.f0 = true := by
    unfold seenB
    rw [List.take_length]
    exact List.any_eq_true.2 ⟨x, hx, accEq_refl _⟩
  rw [this, Bool.and_true]
theorem filt_bound (l : List S41) (hl : l.length ≤ 200) (hin : ∀ x ∈ l, badQ x.f2 = false) (p : S41 → Bool) : -209715200 ≤ sumQ (l.filter p) ∧ sumQ (l.filter p) ≤ 209715200 := by
  have h1 := sumQ_bound (l.filter p) (fun x hx => hin x (List.mem_filter.1 hx).1)
  have h2 := List.length_filter_le p l
  omega
theorem whole_inner (l : List S41) (hl : l.length ≤ 200) (sr : S28) (i : Nat) (hi : i < l.length) (s : Int)
    (hend : Ev (fun k => (novate_Net.f l (rd_T41 l (i : Int)).f0.f0 (rd_T41 l (i : Int)).f0.f1 sr.f0 sr.f1 sr.f2 sr.f3).bind fun bt => if bt.2 = 0 then (if (!seenB (l.take i) (rd_T41 l (i : Int)).f0) = true then contangolaw13_NovateWhole.l0 k l (wrap64 (s + bt.1)) (l.length : Int) (wrap64 ((i : Int) + 1)) sr.f0 sr.f1 sr.f2 sr.f3 else contangolaw13_NovateWhole.l0 k l s (l.length : Int) (wrap64 ((i : Int) + 1)) sr.f0 sr.f1 sr.f2 sr.f3) else none) true) :
    ∀ (d j : Nat), j + d = i → Ev (fun k => contangolaw13_NovateWhole.l1 k l s (i : Int) (!seenB (l.take j) (rd_T41 l (i : Int)).f0) (j : Int) (l.length : Int) (i : Int) sr.f0 sr.f1 sr.f2 sr.f3) true := by
  intro d
  induction d with
  | zero =>
    intro j hj
    obtain rfl : j = i := by omega
    refine Ev.step (fun _ => by rw [contangolaw13_NovateWhole.l1]) ?_
    exact ev_neg (by omega) (ev_pos (by omega) (ev_pos (by omega) hend))
  | succ d ih =>
    intro j hj
    have ih := ih (j + 1) (by omega)
    rw [seen_take l j (by omega), Bool.not_or] at ih
    refine Ev.step (fun _ => by rw [contangolaw13_NovateWhole.l1]) ?_
    refine ev_pos (by omega) ?_
    rw [wsucc j (by omega)]
    cases hb : seenB (l.take j) (rd_T41 l (i : Int)).f0 with
    | true =>
      rw [hb] at ih
      exact ev_neg (by decide) ih
    | false =>
      rw [hb] at ih
      refine ev_pos rfl (ev_pos (by omega) (ev_pos (by omega) (ev_pos (by omega) (ev_pos (by omega) ?_))))
      have he : (!((((rd_T41 l (j : Int)).f0.f0).toList) == (((rd_T41 l (i : Int)).f0.f0).toList)) || (!((((rd_T41 l (j : Int)).f0.f1).toList) == (((rd_T41 l (i : Int)).f0.f1).toList)))) = (!false && !accEq (rd_T41 l (j : Int)).f0 (rd_T41 l (i : Int)).f0) := by
        unfold accEq
        rw [Bool.not_and]; rfl
      rw [he]
      exact ih
theorem whole_go (l : List S41) (hl : l.length ≤ 200) (sr : S28) (hz : (askV (houseB sr) l).2 = 0) (d : Nat) : ∀ i : Nat, i + d = l.length → Ev (fun k => contangolaw13_NovateWhole.l0 k l (-(sumQ (l.filter (houseB sr))) + partQ sr l i) (l.length : Int) (i : Int) sr.f0 sr.f1 sr.f2 sr.f3) true := by
  have hin := (ask_ok _ _ hz).2
  have hpb : ∀ i, -209715200 ≤ partQ sr l i ∧ partQ sr l i ≤ 209715200 := fun i => filt_bound l hl hin _
  have hhb := filt_bound l hl hin (houseB sr)
  induction d with
  | zero =>
    intro i hi
    obtain rfl : i = l.length := by omega
    refine Ev.step (fun _ => by rw [contangolaw13_NovateWhole.l0]) ?_
    refine ev_neg (by omega) (ev_pos (by rw [part_all]; omega) goes13t)
  | succ d ih =>
    intro i hi
    have ih := ih (i + 1) (by omega)
    rw [part_step sr l i (by omega)] at ih
    refine Ev.step (fun _ => by rw [contangolaw13_NovateWhole.l0]) ?_
    refine ev_pos (by omega) ?_
    have h := whole_inner l hl sr i (by omega) (-(sumQ (l.filter (houseB sr))) + partQ sr l i) ?_ i 0 (by omega)
    · exact h
    · have he : (askV (ownB (rd_T41 l (i : Int)).f0 sr) l).2 = 0 := by rw [← hz]; exact ask_snd _ _ _
      refine ev_val (show novate_Net.f l _ _ _ _ _ _ = some (sumQ (askV (ownB (rd_T41 l (i : Int)).f0 sr) l).1, (askV (ownB (rd_T41 l (i : Int)).f0 sr) l).2) from rfl) ?_
      rw [ask_fst _ _ he, he]
      refine ev_pos rfl ?_
      have hob := filt_bound l hl hin (ownB (rd_T41 l (i : Int)).f0 sr)
      have hp := hpb i
      rw [wsucc i (by omega)]
      cases hs : seenB (l.take i) (rd_T41 l (i : Int)).f0 with
      | true =>
        rw [hs, if_pos rfl, Int.add_zero] at ih
        exact ev_neg (by decide) ih
      | false =>
        rw [hs, if_neg (by decide)] at ih
        refine ev_pos rfl ?_
        rw [w64id _ (by omega) (by omega), Int.add_assoc]
        exact ih
theorem NovateWhole : ∀ (l0 : List (S41)) (a1_0 : ByteArray) (a1_1 : Int) (a1_2 : Int) (a1_3 : Int), l0.length ≤ maxLen → (∀ x0 ∈ l0, x0.f0.f0.size ≤ maxLen ∧ x0.f0.f1.size ≤ maxLen ∧ x0.f1.f0.size ≤ maxLen ∧ (Lit.int .i64 x0.f1.f1).wf = true ∧ (Lit.int .i64 x0.f1.f2).wf = true ∧ (Lit.int .i64 x0.f1.f3).wf = true ∧ (Lit.int .i64 x0.f2).wf = true ∧ (Lit.int .i64 x0.f3).wf = true ∧ (Lit.int .i64 x0.f4).wf = true) → a1_0.size ≤ maxLen → (Lit.int .i64 a1_1).wf = true → (Lit.int .i64 a1_2).wf = true → (Lit.int .i64 a1_3).wf = true → ∃ k, contangolaw13_NovateWhole.f k l0 a1_0 a1_1 a1_2 a1_3 = some true := by
  intro l s0 s1 s2 s3 _ _ _ _ _ _
  refine Ev.rounds ?_
  unfold contangolaw13_NovateWhole.f
  by_cases h : (l.length : Int) > 200
  · exact ev_pos h goes13t
  refine ev_neg h (ev_val (show novate_House.f l s0 s1 s2 s3 = some (-(sumQ (askV (houseB ⟨s0, s1, s2, s3⟩) l).1), (askV (houseB ⟨s0, s1, s2, s3⟩) l).2) from rfl) ?_)
  by_cases he : (askV (houseB ⟨s0, s1, s2, s3⟩) l).2 = 0
  · refine ev_pos he ?_
    rw [ask_fst _ _ he]
    have := whole_go l (by omega) ⟨s0, s1, s2, s3⟩ he l.length 0 (by omega)
    rw [part_zero, Int.add_zero] at this
    exact this
  · refine ev_neg he ?_
    rw [ask_no _ _ he]
    refine ev_pos rfl (ev_val (show novate_Flat.f l = some (flatV l) from rfl) ?_)
    have hf : flatV l = false := by
      unfold flatV
      rw [if_neg (by rw [ask_snd (fun _ => false) (houseB ⟨s0, s1, s2, s3⟩) l]; exact he)]
    rw [hf]
    exact ev_neg (by decide) goes13t
end Go.Proofs.Ytpifobhpijnehaa.Pure
