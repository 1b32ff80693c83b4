/- The pure statement of the law GiveupSides, proved: plain Lean over numbers and lists, no program in sight. -/
import Derived.Test.YtaffedkheehplaaPGiveupSidesx8
namespace Go.Proofs.Ytaffedkheehplaa.Pure
open Go.RowKit Go.Proofs.Ytaffedkheehplaa.PGiveupSides Go.Proofs.YtaffedkheehplaaW.PrintWords Go.Proofs.YtaffedkheehplaaW.PrintLast Go.Proofs.YtaffedkheehplaaW.PrintMore
set_option linter.unusedVariables false
set_option linter.unusedSimpArgs false
/-! ### from some number of rounds on: steps -/
theorem ev_pos {α : Type} {c : Prop} [Decidable c] {a b : Nat → Option α} {r : α} (h : c) (k : Ev a r) : Ev (fun n => if c then a n else b n) r := Ev.congr (fun _ => if_pos h) k
theorem ev_neg {α : Type} {c : Prop} [Decidable c] {a b : Nat → Option α} {r : α} (h : ¬ c) (k : Ev b r) : Ev (fun n => if c then a n else b n) r := Ev.congr (fun _ => if_neg h) k
theorem ev_val {α β : Type} {g : Option α} {f : Nat → α → Option β} {a : α} {r : β} (h : g = some a) (k : Ev (fun n => f n a) r) : Ev (fun n => g.bind (f n)) r := by
  subst h; exact k
theorem ev_some {α : Type} {x r : α} (h : x = r) : Ev (fun _ => some x) r := h ▸ Ev.now x
theorem ev_rw {α : Type} {g : Nat → Option α} {r s : α} (h : r = s) (k : Ev g r) : Ev g s := h ▸ k
theorem wsucc (i : Nat) (h : i ≤ 4611686018427387904) : wrap64 ((i : Int) + 1) = ((i + 1 : Nat) : Int) := by
  unfold wrap64; omega
theorem rd_nat (l : List Int) (i : Nat) : rd l (i : Int) = l.getD i 0 := rfl
/-! ### giveup: what Even tells, and the page's example -/
theorem w14 (x : Int) (h0 : -9223372036854775808 ≤ x) (h1 : x ≤ 9223372036854775807) : wrap64 x = x := by unfold wrap64; omega
theorem ev_bd {α β : Type} {g : Nat → Option α} {f : Nat → α → Option β} {a : α} {r : β} (h : Ev g a) (k : Ev (fun n => f n a) r) : Ev (fun n => (g n).bind (f n)) r := h.bind k
def wts (l : List S44) : List Int := l.map (fun p => p.f1)
def spV (rest : Int) (w : List Int) : List Int × Int := (share_Split.f rest w).getD ([], 0)
def evenV (l : List S42) (tick : Int) (parts : List S44) : Int × List Int × Int :=
  if (avgV l tick).2.2 = 0 then (if partV (sumT l) parts = 0 then (if (spV (avgV l tick).2.1 (wts parts)).2 = 0 then ((avgV l tick).1, (spV (avgV l tick).2.1 (wts parts)).1, 0) else (0, [], (spV (avgV l tick).2.1 (wts parts)).2)) else (0, [], partV (sumT l) parts)) else (0, [], (avgV l tick).2.2)
theorem avg_ok (l : List S42) (tick : Int) (h : (avgV l tick).2.2 = 0) : 1 ≤ tick ∧ tick ≤ 16777216 ∧ 1 ≤ l.length ∧ l.length ≤ 1024 ∧ l.all (fun t => lotsA t.f4) = true ∧ l.all (fun t => pricB t.f5) = true ∧ avgV l tick = avgEnd (sumT l) (costT l) tick := by
  unfold avgV at h ⊢
  by_cases h1 : tick < 1 ∨ tick > 16777216
  · rw [if_pos h1] at h; exact absurd h (by decide)
  · rw [if_neg h1] at h ⊢
    by_cases h2 : l.length = 0 ∨ l.length > 1024
    · rw [if_pos h2] at h; exact absurd h (by decide)
    · rw [if_neg h2] at h ⊢
      by_cases h3 : l.all (fun t => sEq t.f3 (rd_T42 l 0).f3) = true
      · rw [if_pos h3] at h ⊢
        by_cases h4 : l.all (fun t => lotsA t.f4) = true
        · rw [if_pos h4] at h ⊢
          by_cases h5 : l.all (fun t => pricB t.f5) = true
          · rw [if_pos h5]; exact ⟨by omega, by omega, by omega, by omega, h4, h5, rfl⟩
          · rw [if_neg h5] at h; exact absurd h (by decide)
        · rw [if_neg h4] at h; exact absurd h (by decide)
      · rw [if_neg h3] at h; exact absurd h (by decide)
theorem even_qty (parts : List S44) (price rest r : Int) (l : List S42) (hl : l.length ≤ 1024) (ha : l.all (fun t => lotsA t.f4) = true) (res : Int × List Int × Int) (hend : Ev (fun k => (giveup_parted.f (sumT l) parts).bind fun t110 => (if t110 = 0 then (giveup_Even.l1 k price rest ([] : List Int) parts (parts.length : Int) 0) else (some (0, ([] : List Int), t110)))) res) (n : Nat) :
    ∀ (i : Nat) (q : Int), i + n = l.length → 0 ≤ q → q ≤ 1048576 * i → q + sumT (l.drop i) = sumT l → Ev (fun k => giveup_Even.l0 k parts price rest q l (l.length : Int) (i : Int)) res := by
  induction n with
  | zero =>
    intro i q hi _ _ hs
    obtain rfl : i = l.length := by omega
    rw [List.drop_length] at hs
    simp only [sumT, Int.add_zero] at hs
    subst hs
    refine Ev.step (fun _ => by rw [giveup_Even.l0]) ?_
    exact ev_neg (by omega) hend
  | succ n ih =>
    intro i q hi h0 h1 hs
    have hp := lotsA_range _ (by have := List.all_eq_true.1 ha _ (mem_T42 l i (by omega)); exact this)
    rw [drop_T42 l i (by omega)] at hs
    simp only [sumT] at hs
    refine Ev.step (fun _ => by rw [giveup_Even.l0]) ?_
    refine ev_pos (by omega) (ev_pos (by omega) (ev_pos (by omega) ?_))
    rw [w14 (q + _) (by omega) (by omega), w14 ((i : Int) + 1) (by omega) (by omega)]
    exact ih (i + 1) _ (by omega) (by omega) (by omega) (by omega)
theorem even_wts (parts : List S44) (price rest : Int) (hl : parts.length ≤ 1024) (res : Int × List Int × Int) (hend : Ev (fun _ => (share_Split.f rest (wts parts)).bind fun bt => (if bt.2 = 0 then (some (price, bt.1, 0)) else (some (0, ([] : List Int), bt.2)))) res) (n : Nat) :
    ∀ (i : Nat), i + n = parts.length → Ev (fun k => giveup_Even.l1 k price rest (wts (parts.take i)) parts (parts.length : Int) (i : Int)) res := by
  induction n with
  | zero =>
    intro i hi
    obtain rfl : i = parts.length := by omega
    rw [List.take_length]
    refine Ev.step (fun _ => by rw [giveup_Even.l1]) ?_
    exact ev_neg (by omega) hend
  | succ n ih =>
    intro i hi
    have hw : (wts (parts.take i)).length = i := by unfold wts; rw [List.length_map, List.length_take]; omega
    have hn : wts (parts.take i) ++ [(rd_T44 parts (i : Int)).f1] = wts (parts.take (i + 1)) := by
      unfold wts rd_T44
      rw [List.take_add_one, List.map_append, List.getElem?_eq_getElem (by omega), Int.toNat_natCast, List.getD_eq_getElem?_getD, List.getElem?_eq_getElem (by omega)]
      rfl
    refine Ev.step (fun _ => by rw [giveup_Even.l1]) ?_
    refine ev_pos (by omega) (ev_pos (by omega) (ev_pos (by omega) (ev_pos (by rw [hw]; omega) ?_)))
    rw [hn, w14 ((i : Int) + 1) (by omega) (by omega)]
    exact ih (i + 1) (by omega)
theorem part_len (q : Int) (parts : List S44) (h : partV q parts = 0) : 1 ≤ parts.length ∧ parts.length ≤ 1024 := by
  unfold partV at h
  by_cases h1 : parts.length = 0 ∨ parts.length > 1024
  · rw [if_pos h1] at h; exact absurd h (by decide)
  · omega
theorem even_ev (l : List S42) (tick : Int) (parts : List S44) (hsp : ∀ rest w, ∃ r, share_Split.f rest w = some r) : Ev (fun k => giveup_Even.f k l tick parts) (evenV l tick parts) := by
  unfold giveup_Even.f evenV
  refine ev_val (show giveup_Average.f l tick = some (avgV l tick) from rfl) ?_
  by_cases h : (avgV l tick).2.2 = 0
  · refine ev_rw (if_pos h).symm (ev_pos h ?_)
    obtain ⟨_, _, _, h4, h5, _, _⟩ := avg_ok l tick h
    refine even_qty parts _ _ tick l h4 h5 _ ?_ l.length 0 0 (by omega) (by omega) (by omega) (by rw [List.drop_zero]; omega)
    refine ev_val (show giveup_parted.f (sumT l) parts = some (partV (sumT l) parts) from rfl) ?_
    by_cases hp : partV (sumT l) parts = 0
    · refine ev_rw (if_pos hp).symm (ev_pos hp ?_)
      refine even_wts parts _ _ (part_len _ _ hp).2 _ ?_ parts.length 0 (by omega)
      obtain ⟨r, hr⟩ := hsp (avgV l tick).2.1 (wts parts)
      have hv : spV (avgV l tick).2.1 (wts parts) = r := by unfold spV; rw [hr]; rfl
      rw [hv]
      refine ev_val hr ?_
      by_cases he : r.2 = 0
      · exact ev_rw (if_pos he).symm (ev_pos he (ev_some rfl))
      · exact ev_rw (if_neg he).symm (ev_neg he (ev_some rfl))
    · exact ev_rw (if_neg hp).symm (ev_neg hp (ev_some rfl))
  · exact ev_rw (if_neg h).symm (ev_neg h (ev_some rfl))
theorem sEq_refl (a : S38) : sEq a a = true := by unfold sEq; simp
theorem accEq_data (a b : S40) : accEq a b = ((a.f0.data.toList == b.f0.data.toList) && (a.f1.data.toList == b.f1.data.toList)) := by
  unfold accEq; rw [ByteArray.toList_eq, ByteArray.toList_eq, ByteArray.toList_eq, ByteArray.toList_eq]
def t14a : S42 := ⟨0, 0, 0, (⟨(⟨#[]⟩ : ByteArray), 0, 0, 0⟩ : S38), 2, 10, (⟨(⟨#[]⟩ : ByteArray), (⟨#[]⟩ : ByteArray)⟩ : S40), (⟨(⟨#[]⟩ : ByteArray), (⟨#[]⟩ : ByteArray)⟩ : S40)⟩
def t14b : S42 := ⟨0, 0, 0, (⟨(⟨#[]⟩ : ByteArray), 0, 0, 0⟩ : S38), 1, 12, (⟨(⟨#[]⟩ : ByteArray), (⟨#[]⟩ : ByteArray)⟩ : S40), (⟨(⟨#[]⟩ : ByteArray), (⟨#[]⟩ : ByteArray)⟩ : S40)⟩
def p14 : List S44 := [(⟨(⟨(⟨#[97, 108, 102, 97]⟩ : ByteArray), (⟨#[]⟩ : ByteArray)⟩ : S40), 1⟩ : S44), (⟨(⟨(⟨#[98, 114, 97, 118, 111]⟩ : ByteArray), (⟨#[]⟩ : ByteArray)⟩ : S40), 2⟩ : S44)]
theorem avg14 (tick : Int) (h1 : 1 ≤ tick) (h2 : tick ≤ 16777216) : avgV [t14a, t14b] tick = avgEnd 3 32 tick := by
  unfold avgV
  rw [if_neg (by omega), if_neg (by decide), if_pos (by
    have e : (rd_T42 [t14a, t14b] 0).f3 = t14a.f3 := rfl
    rw [e]
    simp only [List.all_cons, List.all_nil, Bool.and_true]
    rw [sEq_refl, show t14b.f3 = t14a.f3 from rfl, sEq_refl]; rfl), if_pos (by decide), if_pos (by decide)]
  rfl
theorem part14 : partV 3 p14 = 0 := by
  have hd : distGo [] p14 = true := by
    unfold p14
    simp only [distGo, List.any_nil, List.nil_append, List.any_cons, Bool.or_false]
    rw [accEq_data]
    decide
  unfold partV
  rw [if_neg (by decide), if_pos (by decide), if_pos (by decide), if_pos hd]
theorem goes14 : Ev (fun k => contangolaw14_goes.f k) true := by
  unfold contangolaw14_goes.f
  have a1 : avgV [t14a, t14b] 1 = (10, 2, 0) := by rw [avg14 1 (by omega) (by omega)]; decide +kernel
  have a4 : avgV [t14a, t14b] 4 = (8, 8, 0) := by rw [avg14 4 (by omega) (by omega)]; decide +kernel
  have sp : spV 2 (wts p14) = ([1, 1], 0) := by decide +kernel
  have ev : evenV [t14a, t14b] 1 p14 = (10, [1, 1], 0) := by
    unfold evenV
    rw [a1, show sumT [t14a, t14b] = 3 from rfl, part14, if_pos rfl, if_pos rfl, sp, if_pos rfl]
  refine ev_val (show _ = some [t14a, t14b] from rfl) ?_
  refine ev_val (show giveup_Average.f [t14a, t14b] 1 = some (10, 2, 0) from congrArg some a1) (ev_val (show giveup_Average.f [t14a, t14b] 4 = some (8, 8, 0) from congrArg some a4) (ev_bd (ev_rw ev (even_ev [t14a, t14b] 1 p14 (fun _ _ => ⟨_, rfl⟩))) ?_))
  refine ev_pos rfl (ev_pos rfl (ev_pos rfl (ev_pos rfl (ev_pos rfl (ev_pos rfl (ev_pos rfl (ev_pos rfl (ev_bd (a := true) ?_ (ev_some rfl)))))))))
  unfold contangoref14_Ints.f
  refine ev_pos rfl ?_
  refine Ev.step (fun _ => by rw [contangoref14_Ints.l0]) ?_
  refine ev_pos (by decide) (ev_pos (by decide) (ev_pos (by decide) (ev_pos (by decide) ?_)))
  rw [w14 (0 + 1) (by decide) (by decide)]
  refine Ev.step (fun _ => by rw [contangoref14_Ints.l0]) ?_
  refine ev_pos (by decide) (ev_pos (by decide) (ev_pos (by decide) (ev_pos (by decide) ?_)))
  rw [w14 (0 + 1 + 1) (by decide) (by decide)]
  refine Ev.step (fun _ => by rw [contangoref14_Ints.l0]) ?_
  exact ev_neg (by decide) (ev_some rfl)
/-! ### the sides, told of a list -/
def inS (t : S42) (s0 : ByteArray) (s1 s2 s3 : Int) : Bool := !((!((t.f3.f0.toList) == s0.toList) || (!(t.f3.f1 == s1) || (!(t.f3.f2 == s2) || (!(t.f3.f3 == s3))))))
def hit (a : S40) (x y : ByteArray) : Bool := a.f0.toList == x.toList && (a.f1.toList == y.toList)
def sdGo (x y s0 : ByteArray) (s1 s2 s3 : Int) : List S42 → Int → Int → Int × Int
  | [], b, s => (b, s)
  | t :: l, b, s => if (inS t s0 s1 s2 s3 && lotsA t.f4) = true then sdGo x y s0 s1 s2 s3 l (if hit t.f6 x y = true then wrap64 (b + t.f4) else b) (if hit t.f7 x y = true then wrap64 (s + t.f4) else s) else sdGo x y s0 s1 s2 s3 l b s
theorem sd_in (x z s0 : ByteArray) (s1 s2 s3 : Int) (t : S42) (l : List S42) (b s : Int) (h1 : inS t s0 s1 s2 s3 = true) (h2 : lotsA t.f4 = true) : sdGo x z s0 s1 s2 s3 (t :: l) b s = sdGo x z s0 s1 s2 s3 l (if hit t.f6 x z = true then wrap64 (b + t.f4) else b) (if hit t.f7 x z = true then wrap64 (s + t.f4) else s) := by
  rw [sdGo, h1, h2]; rfl
theorem sd_out (x z s0 : ByteArray) (s1 s2 s3 : Int) (t : S42) (l : List S42) (b s : Int) (h : inS t s0 s1 s2 s3 = false ∨ lotsA t.f4 = false) : sdGo x z s0 s1 s2 s3 (t :: l) b s = sdGo x z s0 s1 s2 s3 l b s := by
  rw [sdGo]
  rcases h with h | h <;> rw [h] <;> simp
theorem side_go (y : List S42) (hl : y.length ≤ 1024) (x z s0 : ByteArray) (s1 s2 s3 : Int) (n : Nat) : ∀ (i : Nat) (b s : Int), i + n = y.length → Ev (fun k => giveup_Sides.l0 k b s y (y.length : Int) (i : Int) x z s0 s1 s2 s3) (sdGo x z s0 s1 s2 s3 (y.drop i) b s) := by
  induction n with
  | zero =>
    intro i b s hi
    obtain rfl : i = y.length := by omega
    rw [List.drop_length]
    refine Ev.step (fun _ => by rw [giveup_Sides.l0]) ?_
    exact ev_neg (by omega) (ev_some rfl)
  | succ n ih =>
    intro i b s hi
    have ih := fun b s => ih (i + 1) b s (by omega)
    rw [drop_T42 y i (by omega)]
    have hskip : ∀ t0 t1 t2 t3 t4 t5 t6 t7 t8 t9 t10 t11 t12, Ev (fun k => giveup_Sides.j1 k b s y (y.length : Int) (i : Int) true x z s0 s1 s2 s3 t0 t1 t2 t3 t4 t5 t6 t7 t8 t9 t10 t11 t12) (sdGo x z s0 s1 s2 s3 (y.drop (i + 1)) b s) := by
      intro t0 t1 t2 t3 t4 t5 t6 t7 t8 t9 t10 t11 t12
      refine Ev.step (fun _ => by rw [giveup_Sides.j1]) ?_
      refine ev_pos rfl ?_
      rw [w14 ((i : Int) + 1) (by omega) (by omega)]
      exact ih b s
    refine Ev.step (fun _ => by rw [giveup_Sides.l0]) ?_
    refine ev_pos (by omega) (ev_pos (by omega) (ev_pos (by omega) ?_))
    generalize rd_T42 y (i : Int) = t
    by_cases hc : (!((t.f3.f0.toList) == s0.toList) || (!(t.f3.f1 == s1) || (!(t.f3.f2 == s2) || (!(t.f3.f3 == s3))))) = true
    · rw [sd_out _ _ _ _ _ _ _ _ _ _ (.inl (by unfold inS; rw [hc]; rfl))]
      exact ev_pos hc (hskip _ _ _ _ _ _ _ _ _ _ _ _ _)
    · have hin : inS t s0 s1 s2 s3 = true := by unfold inS; rw [Bool.eq_false_iff.2 hc]; rfl
      refine ev_neg hc (ev_val (lotsA_val _) ?_)
      cases hlot : lotsA t.f4 with
      | false =>
        rw [sd_out _ _ _ _ _ _ _ _ _ _ (.inr hlot)]
        exact hskip _ _ _ _ _ _ _ _ _ _ _ _ _
      | true =>
        rw [sd_in _ _ _ _ _ _ _ _ _ _ hin hlot]
        refine Ev.step (fun _ => by rw [giveup_Sides.j1]) ?_
        refine ev_neg (by decide) ?_
        rw [w14 ((i : Int) + 1) (by omega) (by omega)]
        by_cases h6 : hit t.f6 x z = true
        · have h6' := h6
          unfold hit at h6'
          refine ev_pos h6' ?_
          rw [if_pos h6]
          by_cases h7 : hit t.f7 x z = true
          · have h7' := h7
            unfold hit at h7'
            refine ev_pos h7' ?_
            rw [if_pos h7]; exact ih _ _
          · have h7' := h7
            unfold hit at h7'
            refine ev_neg h7' ?_
            rw [if_neg h7]; exact ih _ _
        · have h6' := h6
          unfold hit at h6'
          refine ev_neg h6' ?_
          rw [if_neg h6]
          by_cases h7 : hit t.f7 x z = true
          · have h7' := h7
            unfold hit at h7'
            refine ev_pos h7' ?_
            rw [if_pos h7]; exact ih _ _
          · have h7' := h7
            unfold hit at h7'
            refine ev_neg h7' ?_
            rw [if_neg h7]; exact ih _ _
theorem take_at (l : List S42) (m i : Nat) (h : i < m) (h2 : i < l.length) : (l.take m).drop i = rd_T42 l (i : Int) :: (l.take m).drop (i + 1) := by
  have hi : i < (l.take m).length := by rw [List.length_take]; omega
  rw [drop_T42 _ i hi]
  unfold rd_T42
  rw [Int.toNat_natCast, List.getD_eq_getElem?_getD, List.getD_eq_getElem?_getD, List.getElem?_take, if_pos h]
theorem refside_go (l : List S42) (m : Nat) (hm : m = min l.length 1024) (x z s0 : ByteArray) (s1 s2 s3 : Int) (n : Nat) : ∀ (i : Nat) (b s : Int), i + n = m → Ev (fun k => contangoref14_Sides.l0 k l b s (i : Int) x z s0 s1 s2 s3) (sdGo x z s0 s1 s2 s3 ((l.take m).drop i) b s) := by
  induction n with
  | zero =>
    intro i b s hi
    rw [List.drop_of_length_le (by rw [List.length_take]; omega)]
    have hend : Ev (fun k => contangoref14_Sides.j1 k l b s (i : Int) false x z s0 s1 s2 s3) (b, s) := by
      refine Ev.step (fun _ => by rw [contangoref14_Sides.j1]) ?_
      exact ev_neg (by decide) (ev_some rfl)
    refine Ev.step (fun _ => by rw [contangoref14_Sides.l0]) ?_
    by_cases hlt : (i : Int) < (l.length : Int)
    · refine ev_pos hlt ?_
      rw [decide_eq_false (by omega)]
      exact hend
    · exact ev_neg hlt hend
  | succ n ih =>
    intro i b s hi
    have ih := fun b s => ih (i + 1) b s (by omega)
    rw [take_at l m i (by omega) (by omega)]
    have hskip : Ev (fun k => contangoref14_Sides.j2 k l b s (i : Int) true x z s0 s1 s2 s3) (sdGo x z s0 s1 s2 s3 ((l.take m).drop (i + 1)) b s) := by
      refine Ev.step (fun _ => by rw [contangoref14_Sides.j2]) ?_
      refine ev_pos rfl ?_
      rw [w14 ((i : Int) + 1) (by omega) (by omega)]
      exact ih b s
    refine Ev.step (fun _ => by rw [contangoref14_Sides.l0]) ?_
    refine ev_pos (by omega) ?_
    rw [decide_eq_true (by omega)]
    refine Ev.step (fun _ => by rw [contangoref14_Sides.j1]) ?_
    refine ev_pos rfl (ev_pos (by omega) (ev_pos (by omega) ?_))
    have hgo : ∀ t, t = rd_T42 l (i : Int) → inS t s0 s1 s2 s3 = true → lotsA t.f4 = true → Ev (fun k => contangoref14_Sides.j2 k l b s (i : Int) false x z s0 s1 s2 s3) (sdGo x z s0 s1 s2 s3 (t :: (l.take m).drop (i + 1)) b s) := by
      intro t ht hin hlot
      rw [sd_in _ _ _ _ _ _ _ _ _ _ hin hlot]
      refine Ev.step (fun _ => by rw [contangoref14_Sides.j2]) ?_
      refine ev_neg (by decide) (ev_pos (by omega) (ev_pos (by omega) ?_))
      rw [w14 ((i : Int) + 1) (by omega) (by omega), ← ht]
      by_cases h6 : hit t.f6 x z = true
      · have h6' := h6
        unfold hit at h6'
        refine ev_pos h6' ?_
        rw [if_pos h6]
        by_cases h7 : hit t.f7 x z = true
        · have h7' := h7
          unfold hit at h7'
          refine ev_pos h7' ?_
          rw [if_pos h7]; exact ih _ _
        · have h7' := h7
          unfold hit at h7'
          refine ev_neg h7' ?_
          rw [if_neg h7]; exact ih _ _
      · have h6' := h6
        unfold hit at h6'
        refine ev_neg h6' ?_
        rw [if_neg h6]
        by_cases h7 : hit t.f7 x z = true
        · have h7' := h7
          unfold hit at h7'
          refine ev_pos h7' ?_
          rw [if_pos h7]; exact ih _ _
        · have h7' := h7
          unfold hit at h7'
          refine ev_neg h7' ?_
          rw [if_neg h7]; exact ih _ _
    have hgo := hgo _ rfl
    generalize rd_T42 l (i : Int) = t at *
    by_cases hc : (!((t.f3.f0.toList) == s0.toList) || (!(t.f3.f1 == s1) || (!(t.f3.f2 == s2) || (!(t.f3.f3 == s3))))) = true
    · rw [sd_out _ _ _ _ _ _ _ _ _ _ (.inl (by unfold inS; rw [hc]; rfl))]
      exact ev_pos hc hskip
    · have hin : inS t s0 s1 s2 s3 = true := by unfold inS; rw [Bool.eq_false_iff.2 hc]; rfl
      refine ev_neg hc ?_
      have hlv : lotsA t.f4 = (decide (1 ≤ t.f4) && decide (t.f4 ≤ 1048576)) := rfl
      by_cases h1 : t.f4 < 1
      · rw [sd_out _ _ _ _ _ _ _ _ _ _ (.inr (by rw [hlv, decide_eq_false (by omega)]; rfl))]
        exact ev_pos h1 hskip
      · refine ev_neg h1 ?_
        by_cases h2 : t.f4 > 1048576
        · rw [sd_out _ _ _ _ _ _ _ _ _ _ (.inr (by rw [hlv, decide_eq_false (show ¬ t.f4 ≤ 1048576 by omega), Bool.and_false])), decide_eq_true h2]
          exact hskip
        · rw [decide_eq_false h2]
          exact hgo hin (by rw [hlv, decide_eq_true (by omega), decide_eq_true (by omega)]; rfl)
theorem GiveupSides : ∀ (l0 : List (S42)) (a1_0 : ByteArray) (a1_1 : ByteArray) (a2_0 : ByteArray) (a2_1 : Int) (a2_2 : Int) (a2_3 : Int), l0.length ≤ maxLen → (∀ x0 ∈ l0, (Lit.int .i64 x0.f0).wf = true ∧ (Lit.int .i64 x0.f1).wf = true ∧ (Lit.int .i64 x0.f2).wf = true ∧ x0.f3.f0.size ≤ maxLen ∧ (Lit.int .i64 x0.f3.f1).wf = true ∧ (Lit.int .i64 x0.f3.f2).wf = true ∧ (Lit.int .i64 x0.f3.f3).wf = true ∧ (Lit.int .i64 x0.f4).wf = true ∧ (Lit.int .i64 x0.f5).wf = true ∧ x0.f6.f0.size ≤ maxLen ∧ x0.f6.f1.size ≤ maxLen ∧ x0.f7.f0.size ≤ maxLen ∧ x0.f7.f1.size ≤ maxLen) → a1_0.size ≤ maxLen → a1_1.size ≤ maxLen → a2_0.size ≤ maxLen → (Lit.int .i64 a2_1).wf = true → (Lit.int .i64 a2_2).wf = true → (Lit.int .i64 a2_3).wf = true → ∃ k, contangolaw14_GiveupSides.f k l0 a1_0 a1_1 a2_0 a2_1 a2_2 a2_3 = some true := by
  intro l x z s0 s1 s2 s3 hl _ _ _ _ _ _ _
  refine Ev.rounds ?_
  unfold contangolaw14_GiveupSides.f
  have hm : (mn (l.length : Int) 1024) = ((min l.length 1024 : Nat) : Int) := by unfold mn; split <;> omega
  have e1 : Ev (fun k => giveup_Sides.f k l x z s0 s1 s2 s3) (sdGo x z s0 s1 s2 s3 (l.take (min l.length 1024)) 0 0) := by
    unfold giveup_Sides.f
    rw [hm, Int.toNat_natCast]
    refine ev_pos (by omega) (ev_pos (by omega) (ev_val rfl ?_))
    have := side_go (l.take (min l.length 1024)) (by rw [List.length_take]; omega) x z s0 s1 s2 s3 _ 0 0 0 (Nat.zero_add _)
    rw [List.drop_zero] at this
    exact this
  have e2 : Ev (fun k => contangoref14_Sides.f k l x z s0 s1 s2 s3) (sdGo x z s0 s1 s2 s3 (l.take (min l.length 1024)) 0 0) := by
    unfold contangoref14_Sides.f
    have := refside_go l _ rfl x z s0 s1 s2 s3 _ 0 0 0 (Nat.zero_add _)
    rw [List.drop_zero] at this
    exact this
  exact ev_bd e1 (ev_bd e2 (ev_pos rfl (ev_pos rfl (ev_bd goes14 (ev_some rfl)))))
end Go.Proofs.Ytaffedkheehplaa.Pure
