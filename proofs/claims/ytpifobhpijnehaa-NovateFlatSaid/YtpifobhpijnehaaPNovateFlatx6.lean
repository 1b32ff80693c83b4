/- Laid for this claim by a program of this session's (wip/mkprint.py, wip/ext.py); not trusted: Lean checks it. -/
import Derived.Test.YtpifobhpijnehaaPNovateFlatx0
import Derived.Test.YtpifobhpijnehaaPNovateFlatx3
import Derived.Test.YtpifobhpijnehaaPNovateFlatx5
namespace Go.Proofs.Ytpifobhpijnehaa.PNovateFlat
open Go.RowKit Go.Proofs.YtpifobhpijnehaaW.PrintWords Go.Proofs.YtpifobhpijnehaaW.PrintLast Go.Proofs.YtpifobhpijnehaaW.PrintMore
attribute [local go_sem] max2_int min2_int max_two min_two max_three min_three max_four min_four   -- for this text's walks alone
set_option linter.unusedVariables false
set_option linter.unusedSimpArgs false

/-! ### novate_Flat: function 22 -/
attribute [local go_sem high] accA serA
/-! ### a map from series to numbers, kept by its own function -/
def serV (a : S28) : Value := .agg #[.string a.f0, .int .i64 a.f1, .int .i64 a.f2, .int .i64 a.f3]
theorem tl_inj {a b : ByteArray} (h : (a.toList == b.toList) = true) : a = b := by
  have h := beq_iff_eq.1 h
  rw [ByteArray.toList_eq, ByteArray.toList_eq] at h
  exact ByteArray.ext (Array.toList_inj.1 h)
theorem serEq_eq {a k : S28} (h : serEq a k = true) : a = k := by
  unfold serEq at h
  simp only [Bool.and_eq_true] at h
  obtain ⟨a0, a1, a2, a3⟩ := a
  obtain ⟨k0, k1, k2, k3⟩ := k
  have h0 := tl_inj h.1
  have h1 := beq_iff_eq.1 h.2.1
  have h2 := beq_iff_eq.1 h.2.2.1
  have h3 := beq_iff_eq.1 h.2.2.2
  dsimp only at h0 h1 h2 h3
  subst h0; subst h1; subst h2; subst h3; rfl
theorem serEq_refl (a : S28) : serEq a a = true := by unfold serEq; simp
theorem find_ser (a : S28) (w : World) : ∀ (es : List MapEntry) (ks : List S28) (i : Nat), es.map (fun e => e.key) = ks.map serV →
    ((Instr.findAsking 28 (serV a) es i).run Try.prog w = .ok none w ∧ a ∉ ks) ∨ (∃ j e, (Instr.findAsking 28 (serV a) es i).run Try.prog w = .ok (some (i + j, e.val)) w ∧ es[j]? = some e ∧ ks[j]? = some a)
  | [], ks, i, h => by
    have hk : ks = [] := by cases ks with
      | nil => rfl
      | cons a l => simp at h
    subst hk
    exact .inl ⟨rfl, by simp⟩
  | e :: es, ks, i, h => by
    cases ks with
    | nil => simp at h
    | cons k ks =>
      simp only [List.map_cons, List.cons.injEq] at h
      obtain ⟨h1, h2⟩ := h
      have he : (Op.equal 28 (serV a) e.key).run Try.prog w = .ok (serEq a k) w := by
        rw [h1]
        exact serA _ w a.f0 k.f0 a.f1 k.f1 a.f2 k.f2 a.f3 k.f3
      cases hq : serEq a k with
      | true =>
        refine .inr ⟨0, e, ?_, rfl, by simp [serEq_eq hq]⟩
        simp [Instr.findAsking, he, hq, Result.andThen]
      | false =>
        have hne : a ≠ k := fun e => by rw [e, serEq_refl] at hq; cases hq
        rcases find_ser a w es ks (i + 1) h2 with ⟨r1, r2⟩ | ⟨j, e', r1, r2, r3⟩
        · refine .inl ⟨?_, by simp [hne, r2]⟩
          simp [Instr.findAsking, he, hq, Result.andThen, r1]
        · refine .inr ⟨j + 1, e', ?_, r2, r3⟩
          simp only [Instr.findAsking]
          simp [he, hq, Result.andThen, r1]
          omega
theorem findKey_ser (a : S28) (w : World) (es : List MapEntry) : (Instr.findKey 28 (serV a) es).run Try.prog w = (Instr.findAsking 28 (serV a) es 0).run Try.prog w := by
  have hn : ∀ kind, kind = TypeDesc.struct (Try.prog.fieldsOf 28) → es ≠ [] → Instr.findNow kind (serV a) es 0 = none := by
    intro kind hk hne
    cases es with
    | nil => exact absurd rfl hne
    | cons e l => subst hk; simp [Instr.findNow, Instr.sameNow]
  cases es with
  | nil => simp [Instr.findKey, Instr.findAsking, run_underlying Try.underlying28, Instr.findNow, Result.andThen]
  | cons e l =>
    simp [Instr.findKey, run_underlying Try.underlying28, Instr.findNow, Instr.sameNow, serV, Result.andThen]
theorem check_ser (a : S28) (b : Bool) (w : World) : (Instr.checkKey b 10000 28 (serV a)).run Try.prog w = .ok () w := by
  unfold serV
  kernel_rfl
theorem stays_ser (a : S28) (w : World) : (Instr.keyThatStays (serV a) (serV a)).run Try.prog w = .ok (serV a) w := by
  have hs : Instr.sameBits 10000 (serV a) (serV a) = true := by
    unfold serV
    simp [Instr.sameBits]
    show (a.f0.data == a.f0.data) = true
    simp
  unfold Instr.keyThatStays
  rw [hs]
  rfl
def Sums (w : World) (b : Nat) (f : S28 → Int) : Prop := ∃ (es : Array MapEntry) (clock : Nat) (ks : List S28), w.heap[b]? = some (.map es clock) ∧ es.toList.map (fun e => e.key) = ks.map serV ∧ es.toList.map (fun e => e.val) = ks.map (fun k => .int .i64 (f k)) ∧ ks.Nodup ∧ (∀ k, k ∉ ks → f k = 0) ∧ (∀ e ∈ es.toList, e.born < clock) ∧ (es.toList.map (fun e => e.born)).Nodup
theorem sums_made (w : World) : Sums (w.alloc (.map #[] 0)) w.heap.size (fun _ => 0) := ⟨#[], 0, [], heap_alloc_new w _, rfl, rfl, by simp, by simp, by simp, by simp⟩
theorem sums_kept {w w' : World} {b : Nat} {f : S28 → Int} (h : Sums w b f) (hg : ∀ {o : Obj}, w.heap[b]? = some o → w'.heap[b]? = some o) : Sums w' b f := by
  obtain ⟨es, clock, ks, h1, h2⟩ := h
  exact ⟨es, clock, ks, hg h1, h2⟩
theorem sums_look {w : World} {b : Nat} {f : S28 → Int} (h : Sums w b f) (a : S28) : (Instr.lookup 73 (.map (some b)) (serV a) false).run Try.prog w = .ok (.int .i64 (f a)) w := by
  obtain ⟨es, clock, ks, h1, h2, h3, _, h5, _⟩ := h
  have hz : (zeroValue 3).run Try.prog w = .ok (.int .i64 0) w := by kernel_rfl
  rcases find_ser a w es.toList ks 0 h2 with ⟨r1, r2⟩ | ⟨j, e, r1, r2, r3⟩
  · simp [Instr.lookup, run_underlying Try.underlying73, MapKept.run_getObj_map h1, check_ser, findKey_ser, r1, h5 a r2, hz, Result.andThen]
  · have hv : e.val = .int .i64 (f a) := by
      have h4 : (es.toList.map (fun e => e.val))[j]? = (ks.map (fun k => Value.int .i64 (f k)))[j]? := by rw [h3]
      rw [List.getElem?_map, List.getElem?_map, r2, r3] at h4
      simpa using h4
    simp [Instr.lookup, run_underlying Try.underlying73, MapKept.run_getObj_map h1, check_ser, findKey_ser, r1, hv, hz, Result.andThen]
theorem findIdx_born' {l : List MapEntry} (hn : (l.map (·.born)).Nodup) {j : Nat} {e0 : MapEntry} (h : l[j]? = some e0) : l.findIdx? (fun e => ((e.born : Nat) : Int) == ((e0.born : Nat) : Int)) = some j := by
  induction l generalizing j with
  | nil => simp at h
  | cons a r ih =>
    simp only [List.map_cons, List.nodup_cons] at hn
    cases j with
    | zero =>
      simp only [List.getElem?_cons_zero, Option.some.injEq] at h
      subst h
      simp [List.findIdx?_cons]
    | succ j =>
      simp only [List.getElem?_cons_succ] at h
      have hne : a.born ≠ e0.born := fun e1 => hn.1 (List.mem_map.2 ⟨e0, List.mem_of_getElem? h, e1.symm⟩)
      have hb : (((a.born : Nat) : Int) == ((e0.born : Nat) : Int)) = false := by
        simp only [beq_eq_false_iff_ne, ne_eq, Int.natCast_inj]
        exact hne
      rw [List.findIdx?_cons, hb]
      simp [ih hn.2 h]
theorem born_arr (xs : Array MapEntry) (p : MapEntry → Bool) : xs.findIdx? p = xs.toList.findIdx? p := by
  cases xs
  simp
theorem map_mod {α β : Type} (g : α → β) (f : α → α) (l : List α) (j : Nat) (h : ∀ x, l[j]? = some x → g (f x) = g x) : (l.modify j f).map g = l.map g := by
  apply List.ext_getElem?
  intro i
  simp only [List.getElem?_map, List.getElem?_modify]
  by_cases hij : j = i
  · subst hij
    cases hx : l[j]? with
    | none => simp
    | some x => simp [h x hx]
  · simp [hij]
theorem mod_last {α : Type} (f : α → α) (a : α) : ∀ l : List α, (l ++ [a]).modify l.length f = l ++ [f a]
  | [] => rfl
  | b :: r => by simp [List.modify_succ_cons, mod_last f a r]
theorem mem_mod {α : Type} (f : α → α) (l : List α) (j : Nat) (x : α) (h : x ∈ l.modify j f) : x ∈ l ∨ ∃ y, y ∈ l ∧ x = f y := by
  obtain ⟨i, hi⟩ := List.mem_iff_getElem?.1 h
  rw [List.getElem?_modify] at hi
  by_cases hij : j = i
  · subst hij
    cases hx : l[j]? with
    | none => simp [hx] at hi
    | some y => simp [hx] at hi; exact .inr ⟨y, List.mem_of_getElem? hx, hi.symm⟩
  · simp [hij] at hi
    exact .inl (List.mem_of_getElem? hi)
theorem sums_entry {w : World} {b : Nat} {f : S28 → Int} (h : Sums w b f) (a : S28) (v : Int) : ∃ (v0 : Value) (st : Int) (w1 w2 : World), (Instr.mapEntry 73 (.map (some b)) (serV a)).run Try.prog w = .ok (.tuple #[v0, .int .i64 st]) w1 ∧ (Instr.entryStore 73 (.map (some b)) (.int .i64 st) (.int .i64 v)).run Try.prog w1 = .ok () w2 ∧ Sums w2 b (fun t => if serEq t a = true then v else f t) ∧ Sums w1 b f ∧ w.grownBy w1 (some b) ∧ w.grownBy w2 (some b) := by
  obtain ⟨es, clock, ks, h1, h2, h3, h4, h5, h6, h7⟩ := h
  have hset : ∀ (u : World) (o : Obj) (es' : Array MapEntry) (c' : Nat), u.heap[b]? = some (.map es' c') → (setObj b o).run Try.prog u = .ok () (Go.ChangeMaps.setBlock u b o) := fun u o es' c' hu => by
    simp only [setObj, Sem.run, hu]
    rfl
  have hsz : ∀ (u : World) (o : Obj), (Go.ChangeMaps.setBlock u b o).heap.size = u.heap.size := fun u o => by simp [Go.ChangeMaps.setBlock]
  have hb : b < w.heap.size := blk_lt h1
  have hgr : ∀ (u : World) (o : Obj), u.grownBy (Go.ChangeMaps.setBlock u b o) (some b) := fun u o => ⟨rfl, rfl, rfl, by rw [hsz]; exact Nat.le_refl _, fun k hk hne => by
    have : b ≠ k := fun e => hne (by rw [e])
    simp [Go.ChangeMaps.setBlock, Array.getElem?_setIfInBounds_ne this]⟩
  have hat : ∀ (u : World) (o : Obj), b < u.heap.size → (Go.ChangeMaps.setBlock u b o).heap[b]? = some o := fun u o hu => by simp [Go.ChangeMaps.setBlock, hu]
  have hz : (zeroValue 3).run Try.prog w = .ok (.int .i64 0) w := by kernel_rfl
  have hsame : ∀ k, k ∈ ks → (serEq k a = true) → k = a := fun k _ he => serEq_eq he
  rcases find_ser a w es.toList ks 0 h2 with ⟨r1, r2⟩ | ⟨j, e, r1, r2, r3⟩
  · have hb1 : b < (Go.ChangeMaps.setBlock w b (.map (es.push ⟨serV a, .int .i64 0, clock⟩) (clock + 1))).heap.size := by rw [hsz]; exact hb
    have hidx : (es.push ⟨serV a, .int .i64 0, clock⟩).findIdx? (fun e => ((e.born : Nat) : Int) == ((clock : Nat) : Int)) = some es.size := by
      rw [born_arr]
      have := findIdx_born' (l := (es.push ⟨serV a, .int .i64 0, clock⟩).toList) (j := es.size) (e0 := ⟨serV a, .int .i64 0, clock⟩) (by
        simp only [Array.toList_push, List.map_append, List.map_cons, List.map_nil]
        refine List.nodup_append.2 ⟨h7, by simp, fun x hx c hc e1 => ?_⟩
        simp only [List.mem_singleton] at hc
        obtain ⟨y, hy, rfl⟩ := List.mem_map.1 hx
        have := h6 y hy
        omega) (by simp)
      exact this
    refine ⟨.int .i64 0, clock, Go.ChangeMaps.setBlock w b (.map (es.push ⟨serV a, .int .i64 0, clock⟩) (clock + 1)), Go.ChangeMaps.setBlock (Go.ChangeMaps.setBlock w b (.map (es.push ⟨serV a, .int .i64 0, clock⟩) (clock + 1))) b (.map ((es.push ⟨serV a, .int .i64 0, clock⟩).modify es.size fun e => { e with val := .int .i64 v }) (clock + 1)), ?_, ?_, ?_, ?_, hgr _ _, (hgr _ _).andThen (hgr _ _) (fun j hj => .inr hj)⟩
    · simp [Instr.mapEntry, run_underlying Try.underlying73, MapKept.run_getObj_map h1, check_ser, findKey_ser, r1, hz, hset _ _ _ _ h1, Result.andThen]
      rfl
    · simp [Instr.entryStore, MapKept.run_getObj_map (hat w _ hb), asInt, asIntOf, hidx, hset _ _ _ _ (hat w _ hb), Result.andThen]
    · have hl : ((es.push ⟨serV a, .int .i64 0, clock⟩).modify es.size fun e => { e with val := .int .i64 v }).toList = es.toList ++ [⟨serV a, .int .i64 v, clock⟩] := by
        rw [Array.toList_modify, Array.toList_push, ← Array.length_toList, mod_last]
      refine ⟨_, _, ks ++ [a], hat _ _ hb1, ?_, ?_, ?_, ?_, ?_, ?_⟩
      · rw [hl]; simp [h2]
      · rw [hl]
        simp only [List.map_append, h3, List.map_cons, List.map_nil, serEq_refl, if_true]
        congr 1
        exact List.map_congr_left fun k hk => by rw [if_neg (fun he : serEq k a = true => r2 (by rw [← serEq_eq he]; exact hk))]
      · exact List.nodup_append.2 ⟨h4, by simp, fun x hx c hc e1 => by simp at hc; subst hc; subst e1; exact r2 hx⟩
      · intro k hk
        simp only [List.mem_append, List.mem_singleton, not_or] at hk
        show (if serEq k a = true then v else f k) = 0
        rw [if_neg (fun he : serEq k a = true => hk.2 (serEq_eq he))]
        exact h5 k hk.1
      · rw [hl]
        intro x hx
        simp only [List.mem_append, List.mem_singleton] at hx
        rcases hx with hx | rfl
        · exact Nat.lt_succ_of_lt (h6 x hx)
        · exact Nat.lt_succ_self _
      · rw [hl]
        simp only [List.map_append, List.map_cons, List.map_nil]
        refine List.nodup_append.2 ⟨h7, by simp, fun x hx c hc e1 => ?_⟩
        simp only [List.mem_singleton] at hc
        obtain ⟨y, hy, rfl⟩ := List.mem_map.1 hx
        have := h6 y hy
        omega
    · refine ⟨_, _, ks ++ [a], hat _ _ hb, ?_, ?_, ?_, ?_, ?_, ?_⟩
      · simp [h2]
      · simp [h3, h5 a r2]
      · exact List.nodup_append.2 ⟨h4, by simp, fun x hx c hc e1 => by simp at hc; subst hc; subst e1; exact r2 hx⟩
      · intro k hk
        simp only [List.mem_append, List.mem_singleton, not_or] at hk
        exact h5 k hk.1
      · rw [Array.toList_push]
        intro x hx
        simp only [List.mem_append, List.mem_singleton] at hx
        rcases hx with hx | rfl
        · exact Nat.lt_succ_of_lt (h6 x hx)
        · exact Nat.lt_succ_self _
      · rw [Array.toList_push]
        simp only [List.map_append, List.map_cons, List.map_nil]
        refine List.nodup_append.2 ⟨h7, by simp, fun x hx c hc e1 => ?_⟩
        simp only [List.mem_singleton] at hc
        obtain ⟨y, hy, rfl⟩ := List.mem_map.1 hx
        have := h6 y hy
        omega
  · have hej : es[j]? = some e := by simpa using r2
    have hk : e.key = serV a := by
      have h8 : (es.toList.map (fun e => e.key))[j]? = (ks.map serV)[j]? := by rw [h2]
      rw [List.getElem?_map, List.getElem?_map, r2, r3] at h8
      simpa using h8
    have hst : (Instr.keyThatStays (((es[j]?).map (fun x => x.key)).getD (serV a)) (serV a)).run Try.prog w = .ok (serV a) w := by
      rw [hej]
      show (Instr.keyThatStays e.key (serV a)).run Try.prog w = _
      rw [hk]; exact stays_ser a w
    have hb1 : b < (Go.ChangeMaps.setBlock w b (.map (es.modify j fun e => { e with key := serV a }) clock)).heap.size := by rw [hsz]; exact hb
    have hborn : (es.modify j fun e => { e with key := serV a }).toList.map (fun e => e.born) = es.toList.map (fun e => e.born) := by
      rw [Array.toList_modify]; exact map_mod _ _ _ _ (fun _ _ => rfl)
    have hkeys : (es.modify j fun e => { e with key := serV a }).toList.map (fun e => e.key) = es.toList.map (fun e => e.key) := by
      rw [Array.toList_modify]; exact map_mod _ _ _ _ (fun x hx => by rw [Array.getElem?_toList, hej] at hx; cases hx; exact hk.symm)
    have hvals : (es.modify j fun e => { e with key := serV a }).toList.map (fun e => e.val) = es.toList.map (fun e => e.val) := by
      rw [Array.toList_modify]; exact map_mod _ _ _ _ (fun _ _ => rfl)
    have hidx : (es.modify j fun e => { e with key := serV a }).findIdx? (fun x => ((x.born : Nat) : Int) == ((e.born : Nat) : Int)) = some j := by
      rw [born_arr]
      exact findIdx_born' (e0 := { e with key := serV a }) (by rw [hborn]; exact h7) (by rw [Array.toList_modify, List.getElem?_modify, Array.getElem?_toList, hej]; simp)
    refine ⟨e.val, e.born, Go.ChangeMaps.setBlock w b (.map (es.modify j fun e => { e with key := serV a }) clock), Go.ChangeMaps.setBlock (Go.ChangeMaps.setBlock w b (.map (es.modify j fun e => { e with key := serV a }) clock)) b (.map ((es.modify j fun e => { e with key := serV a }).modify j fun e => { e with val := .int .i64 v }) clock), ?_, ?_, ?_, ?_, hgr _ _, (hgr _ _).andThen (hgr _ _) (fun j hj => .inr hj)⟩
    · simp [Instr.mapEntry, run_underlying Try.underlying73, MapKept.run_getObj_map h1, check_ser, findKey_ser, r1, Result.andThen]
      rw [hst]
      simp [hset _ _ _ _ h1, Result.andThen, hej]
      rfl
    · simp [Instr.entryStore, MapKept.run_getObj_map (hat w _ hb), asInt, asIntOf, hidx, hset _ _ _ _ (hat w _ hb), Result.andThen]
    · refine ⟨_, _, ks, hat _ _ hb1, ?_, ?_, h4, ?_, ?_, ?_⟩
      · rw [Array.toList_modify, map_mod (fun e => e.key) (fun e : MapEntry => { e with val := .int .i64 v }) _ _ (fun _ _ => rfl), hkeys, h2]
      · apply List.ext_getElem?
        intro i
        rw [Array.toList_modify, List.getElem?_map, List.getElem?_modify, List.getElem?_map]
        have h9 : ((es.modify j fun e => { e with key := serV a }).toList.map (fun e => e.val))[i]? = (ks.map (fun k => Value.int .i64 (f k)))[i]? := by rw [hvals, h3]
        rw [List.getElem?_map, List.getElem?_map] at h9
        by_cases hij : j = i
        · subst hij
          rw [r3] at h9 ⊢
          cases hx : (es.modify j fun e => { e with key := serV a }).toList[j]? with
          | none => rw [hx] at h9; simp at h9
          | some x => simp [serEq_refl]
        · simp only [if_neg hij]
          cases hki : ks[i]? with
          | none => rw [hki] at h9; simpa using h9
          | some k =>
            rw [hki] at h9
            have hne : ¬ serEq k a = true := fun he => by
              have hka := serEq_eq he
              subst hka
              exact hij ((List.getElem?_inj (List.getElem?_eq_some_iff.1 r3).1 h4).1 (r3.trans hki.symm))
            simp only [Option.map_some, if_neg hne]
            simpa [Functor.map] using h9
      · intro k hk
        show (if serEq k a = true then v else f k) = 0
        rw [if_neg (fun he : serEq k a = true => hk (by rw [serEq_eq he]; exact List.mem_of_getElem? r3))]
        exact h5 k hk
      · intro x hx
        rw [Array.toList_modify] at hx
        rcases mem_mod _ _ _ _ hx with hx | ⟨y, hy, rfl⟩
        · rw [Array.toList_modify] at hx
          rcases mem_mod _ _ _ _ hx with hx | ⟨y, hy, rfl⟩
          · exact h6 x hx
          · exact h6 y hy
        · rw [Array.toList_modify] at hy
          rcases mem_mod _ _ _ _ hy with hy | ⟨z, hz, rfl⟩
          · exact h6 y hy
          · exact h6 z hz
      · rw [Array.toList_modify, map_mod (fun e => e.born) (fun e : MapEntry => { e with val := .int .i64 v }) _ _ (fun _ _ => rfl), hborn]
        exact h7
    · refine ⟨_, _, ks, hat _ _ hb, ?_, ?_, h4, h5, ?_, ?_⟩
      · rw [hkeys, h2]
      · rw [hvals, h3]
      · intro x hx
        rw [Array.toList_modify] at hx
        rcases mem_mod _ _ _ _ hx with hx | ⟨y, hy, rfl⟩
        · exact h6 x hx
        · exact h6 y hy
      · rw [hborn]; exact h7
/-! ### novate.Flat -/
def sumF (l : List S41) (t : S28) : Int := sumQ (l.filter (houseB t))
theorem sumQ_app : ∀ (a b : List S41), sumQ (a ++ b) = sumQ a + sumQ b
  | [], b => by simp [sumQ]
  | x :: a, b => by simp only [List.cons_append, sumQ, sumQ_app a b]; omega
theorem take_T41 (l : List S41) (i : Nat) (h : i < l.length) : l.take (i + 1) = l.take i ++ [rd_T41 l (i : Int)] := by
  rw [List.take_add_one, List.getElem?_eq_getElem h]
  congr 1
  unfold rd_T41
  rw [Int.toNat_natCast, List.getD_eq_getElem?_getD, List.getElem?_eq_getElem h]; rfl
theorem serEq_comm (a b : S28) : serEq a b = serEq b a := by
  cases h : serEq a b with
  | true => rw [serEq_eq h, serEq_refl]
  | false =>
    cases h2 : serEq b a with
    | false => rfl
    | true => rw [serEq_eq h2, serEq_refl] at h; cases h
theorem sumF_step (l : List S41) (i : Nat) (h : i < l.length) : (fun t => if serEq t (rd_T41 l (i : Int)).f1 = true then sumF (l.take i) (rd_T41 l (i : Int)).f1 + (rd_T41 l (i : Int)).f2 else sumF (l.take i) t) = sumF (l.take (i + 1)) := by
  funext t
  unfold sumF
  rw [take_T41 l i h, List.filter_append, sumQ_app]
  by_cases hc : serEq t (rd_T41 l (i : Int)).f1 = true
  · rw [if_pos hc]
    have := serEq_eq hc
    subst this
    simp [houseB, serEq_refl, sumQ]
  · rw [if_neg hc]
    have : houseB t (rd_T41 l (i : Int)) = false := by
      unfold houseB
      rw [serEq_comm]
      exact Bool.eq_false_iff.2 hc
    simp [this, sumQ]
theorem sumF_bound (l : List S41) (h : ∀ x ∈ l, badQ x.f2 = false) (t : S28) : -1048576 * (l.length : Int) ≤ sumF l t ∧ sumF l t ≤ 1048576 * (l.length : Int) := by
  have h1 := sumQ_bound (l.filter (houseB t)) (fun x hx => h x (List.mem_filter.1 hx).1)
  have h2 := List.length_filter_le (houseB t) l
  unfold sumF
  omega
def flatV (l : List S41) : Bool := if (askV (fun _ => false) l).2 = 0 then l.all (fun x => sumF l x.f1 == 0) else false
theorem ask_ok (p : S41 → Bool) (l : List S41) (h : (askV p l).2 = 0) : l.length ≤ 2048 ∧ ∀ x ∈ l, badQ x.f2 = false := by
  rw [askV_val] at h
  by_cases h1 : l.length > 2048
  · rw [if_pos h1] at h; cases h
  · rw [if_neg h1] at h
    by_cases h2 : l.any (fun x => badQ x.f2) = true
    · rw [if_pos h2] at h; cases h
    · refine ⟨by omega, fun x hx => ?_⟩
      cases hb : badQ x.f2 with
      | false => rfl
      | true => exact absurd (List.any_eq_true.2 ⟨x, hx, hb⟩) h2
def novate_Flat.f (l0 : List (S41)) : Option (Bool) := some (flatV l0)
set_option maxHeartbeats 4000000 in
set_option maxRecDepth 100000 in
theorem flat1_any (x : S41) (w : World) : Calls Try.prog 37 #[.agg #[.string x.f0.f0, .string x.f0.f1, .string x.f1.f0, .int .i64 x.f1.f1, .int .i64 x.f1.f2, .int .i64 x.f1.f3, .int .i64 x.f2, .int .i64 x.f3, .int .i64 x.f4]] w fun e w' => e = .returned (.bool false) ∧ Below w.heap.size w w' := by
  go_enter Try.func37, Try.ntmps37
  go_wp2_with fail
  go_ret
  exact ⟨rfl, by repeat (first | exact Below.refl _ _ | apply below_drew1 | apply below_alloc)⟩
set_option maxHeartbeats 16000000 in
set_option maxRecDepth 100000 in
theorem novate_Flat.calls (A0 : Option Addr) (c0 : Nat) (l0 : List (S41)) (r : Bool) (w : World) (hr0 : Kd.C k41 w A0 l0.length l0) (hc0 : l0.length ≤ c0) (h : novate_Flat.f l0 = some r) :
    Calls Try.prog 22 #[.slice A0 l0.length c0] w fun e w' => e = .returned (.bool r) ∧ Below w.heap.size w w' := by
  have hu41 := Try.underlying41
  have hu28 := Try.underlying28
  unfold novate_Flat.f at h
  have h := Option.some.inj h
  unfold flatV at h
  have hok := ask_ok (fun _ => false) l0
  obtain ⟨xs, e0, hav⟩ : ∃ xs e0, askV (fun _ => false) l0 = (xs, e0) := ⟨_, _, rfl⟩
  rw [hav] at h hok
  simp only at h hok
  have hcall : Calls Try.prog 25 #[.slice A0 l0.length c0, .func (.func 37) #[] #[]] w fun e w' => ∃ v0_ : Value, e = .returned (.tuple #[v0_, .int .i64 e0]) ∧ Kd.R k41 41 w' w.heap.size (fun _ => True) v0_ xs ∧ Below w.heap.size w w' :=
    asked_any (fun _ => false) _ #[] A0 c0 l0 w hr0 hc0 xs e0 hav (fun _ _ => rfl) (fun W' x hB' => flat1_any x W')
  have HCALL := Aside0.mk hcall
  have HR := Aside0.mk hr0
  clear hcall hav hr0
  by_cases he : e0 = 0
  · subst he
    rw [if_pos rfl] at h
    have hok := hok rfl
    have hlen := hok.1
    have HIN := Aside0.mk hok.2
    have HRES := Aside0.mk h
    clear h hok
    have hmm := @run_makeMap Try.prog
    go_enter Try.func22, Try.ntmps22
    go_wp2_with fail
    refine HCALL.out.mono ?_
    rintro e w3 ⟨v0, rfl, hR, hb⟩
    have HB3 := Aside0.mk hb
    clear HCALL hb hR
    go_wp2_with fail
    have HS0 := Aside0.mk (sums_made w3)
    have HB4 := Aside0.mk (below_alloc HB3.out (.map #[] 0))
    have hbm : w.heap.size ≤ w3.heap.size := below_size HB3.out
    generalize w3.heap.size = bm at *
    clear HB3
    go_loopw [20] (fun v20 wr => ∃ (i : Nat), i ≤ l0.length ∧ v20 = .int .i64 (i : Int) ∧ Aside0 (Sums wr bm (sumF (l0.take i))) ∧ Aside0 (Below w.heap.size w wr)) (fun v20 _ => l0.length - (intOf v20).toNat)
    case atStart => exact ⟨0, by omega, rfl, HS0, HB4⟩
    case round =>
      clear HS0 HB4
      obtain ⟨i, hi, rfl, HS, HB⟩ := hrel
      by_cases hlt : i < l0.length
      · obtain ⟨ad, ex, hx0, hx1, hx2, hx3, hx4, hx5, hx6, hx7, hx8⟩ := at_T41 (Kd.C_below HR.out HB.out) (i : Int) (by omega) (by omega)
        cases ex
        simp only [Int.toNat_natCast] at hx0 hx1 hx2 hx3 hx4 hx5 hx6 hx7 hx8
        have hlti : (i : Int) < (l0.length : Int) := by omega
        have hstep := sumF_step l0 i hlt
        have hbd := sumF_bound (l0.take i) (fun x hx => HIN.out x (List.mem_of_mem_take hx)) (rd_T41 l0 (i : Int)).f1
        have hq : badQ (rd_T41 l0 (i : Int)).f2 = false := by
          refine HIN.out _ ?_
          unfold rd_T41
          rw [Int.toNat_natCast, List.getD_eq_getElem?_getD, List.getElem?_eq_getElem hlt]
          exact List.getElem_mem _
        rw [List.length_take_of_le hi] at hbd
        generalize rd_T41 l0 (i : Int) = x at *
        have hw : wrap64 (sumF (l0.take i) x.f1 + x.f2) = sumF (l0.take i) x.f1 + x.f2 := by
          simp only [badQ, Bool.or_eq_false_iff, decide_eq_false_iff_not] at hq
          exact xwl _ (by omega) (by omega)
        have HST := Aside0.mk hstep
        have HW := Aside0.mk hw
        clear hstep hbd hq hw
        have hs1 : Sums (wr.alloc (.cells #[.string x.f0.f0, .string x.f0.f1, .string x.f1.f0, .int .i64 x.f1.f1, .int .i64 x.f1.f2, .int .i64 x.f1.f3, .int .i64 x.f2, .int .i64 x.f3, .int .i64 x.f4] 41)).drew bm (sumF (l0.take i)) := sums_kept HS.out (fun h => blk_drew (blk_alloc h _))
        generalize sumF (l0.take i) = f at *
        have hlk := sums_look hs1 x.f1
        obtain ⟨v0m, stm, w1m, w2m, hme, hes, hs2, hs1m, hg1, hg2⟩ := sums_entry hs1 x.f1 (f x.f1 + x.f2)
        have hlk1 := sums_look hs1m x.f1
        unfold serV at hlk hme hlk1
        have hwv := HW.out
        rw [← hwv] at hes
        have HG2 := Aside0.mk hg2
        have HS2 := Aside0.mk hs2
        clear hs1 hg1 hg2 hs2 HS hs1m hwv
        go_wp2_with fail
        go_region
        have HBd : Below w.heap.size w (wr.alloc (.cells #[.string x.f0.f0, .string x.f0.f1, .string x.f1.f0, .int .i64 x.f1.f1, .int .i64 x.f1.f2, .int .i64 x.f1.f3, .int .i64 x.f2, .int .i64 x.f3, .int .i64 x.f4] 41)).drew := below_drew1 (below_alloc HB.out _)
        have HB5 := Aside0.mk (pw_below_grown HBd (some bm) (below_size HBd) HG2.out (fun k hk => by cases hk; exact hbm))
        have HS5 := HS2.out
        rw [HST.out] at HS5
        have HS6 := Aside0.mk HS5
        clear HS2 HG2 HBd HB HST HW HS5 hlk hlk1 hme hes
        go_wp2_with fail
        go_roundw
        case measure => show _ < _; simp [intOf]; omega
        case rel => exact ⟨i + 1, by omega, by go_num, HS6, HB5⟩
      · obtain rfl : i = l0.length := by omega
        have hs := HS.out
        rw [List.take_length] at hs
        have HS1 := Aside0.mk hs
        clear hs HS
        go_wp2_with fail
        go_loopw [36] (fun v36 wr => ∃ (i : Nat), i ≤ l0.length ∧ v36 = .int .i64 (i : Int) ∧ Aside0 ((l0.drop i).all (fun x => sumF l0 x.f1 == 0) = r) ∧ Aside0 (Sums wr bm (sumF l0)) ∧ Aside0 (Below w.heap.size w wr)) (fun v36 _ => l0.length - (intOf v36).toNat)
        case atStart => exact ⟨0, by omega, rfl, HRES, HS1, HB⟩
        case round =>
          clear HS1 HB HRES
          obtain ⟨i, hi, rfl, HRES, HS, HB⟩ := hrel
          by_cases hlt : i < l0.length
          · obtain ⟨ad, ex, hx0, hx1, hx2, hx3, hx4, hx5, hx6, hx7, hx8⟩ := at_T41 (Kd.C_below HR.out HB.out) (i : Int) (by omega) (by omega)
            cases ex
            simp only [Int.toNat_natCast] at hx0 hx1 hx2 hx3 hx4 hx5 hx6 hx7 hx8
            have hlti : (i : Int) < (l0.length : Int) := by omega
            have hres := HRES.out
            rw [drop_T41 l0 i hlt, List.all_cons] at hres
            generalize rd_T41 l0 (i : Int) = x at *
            have hs1 : Sums (wr.alloc (.cells #[.string x.f0.f0, .string x.f0.f1, .string x.f1.f0, .int .i64 x.f1.f1, .int .i64 x.f1.f2, .int .i64 x.f1.f3, .int .i64 x.f2, .int .i64 x.f3, .int .i64 x.f4] 41)) bm (sumF l0) := sums_kept HS.out (fun h => blk_alloc h _)
            have hlk := sums_look hs1 x.f1
            unfold serV at hlk
            have HS5 := Aside0.mk hs1
            have HB5 := Aside0.mk (below_alloc HB.out (.cells #[.string x.f0.f0, .string x.f0.f1, .string x.f1.f0, .int .i64 x.f1.f1, .int .i64 x.f1.f2, .int .i64 x.f1.f3, .int .i64 x.f2, .int .i64 x.f3, .int .i64 x.f4] 41))
            clear hs1 HS
            by_cases hz : sumF l0 x.f1 = 0
            · have hres2 : (l0.drop (i + 1)).all (fun x => sumF l0 x.f1 == 0) = r := by rw [← hres, hz]; simp
              have HRES2 := Aside0.mk hres2
              rw [hz] at hlk
              clear hres hres2 HRES hz HB
              go_wp2_with fail
              go_roundw
              case measure => show _ < _; simp [intOf]; omega
              case rel => exact ⟨i + 1, by omega, by go_num, HRES2, HS5, HB5⟩
            · have hr : r = false := by
                rw [← hres]
                have : (sumF l0 x.f1 == 0) = false := beq_eq_false_iff_ne.2 hz
                rw [this]; rfl
              subst hr
              have hne : (sumF l0 x.f1 != 0) = true := bne_iff_ne.2 hz
              clear hres HRES HB hz
              go_wp2_with fail
              go_ret
              exact ⟨rfl, HB5.out⟩
          · obtain rfl : i = l0.length := by omega
            have hres := HRES.out
            rw [List.drop_length] at hres
            simp only [List.all_nil] at hres
            subst hres
            go_wp2_with fail
            go_ret
            exact ⟨rfl, HB.out⟩
  · rw [if_neg he] at h
    subst h
    have hne : (e0 != 0) = true := bne_iff_ne.2 he
    go_enter Try.func22, Try.ntmps22
    go_wp2_with fail
    refine HCALL.out.mono ?_
    rintro e w3 ⟨v0, rfl, hR, hb⟩
    have HB3 := Aside0.mk hb
    clear HCALL hb hR
    go_wp2_with fail
    go_ret
    exact ⟨rfl, HB3.out⟩

/-! ### contangolaw13_goes: function 8 -/
def contangolaw13_goes.f (k : Nat)  : Option (Bool) := (novate_All.f (([(⟨7, 0, 0, (⟨(⟨#[111, 105, 108]⟩ : ByteArray), 1, 9576, 0⟩ : S28), 3, 50, (⟨(⟨#[97]⟩ : ByteArray), (⟨#[120]⟩ : ByteArray)⟩ : S24), (⟨(⟨#[98]⟩ : ByteArray), (⟨#[120]⟩ : ByteArray)⟩ : S24)⟩ : S39)] : List (S39)))).bind fun t124 => ((novate_Cost.f k t124 (⟨#[97]⟩ : ByteArray) (⟨#[120]⟩ : ByteArray) (⟨#[111, 105, 108]⟩ : ByteArray) 0 10 5 0 100 false (⟨#[111, 105, 108]⟩ : ByteArray) 1 9576 0).bind fun bt127 => ((novate_Cost.f k t124 (⟨#[98]⟩ : ByteArray) (⟨#[120]⟩ : ByteArray) (⟨#[111, 105, 108]⟩ : ByteArray) 0 10 5 0 100 false (⟨#[111, 105, 108]⟩ : ByteArray) 1 9576 0).bind fun bt129 => (if (t124.length : Int) = 2 then (if 0 < (t124.length : Int) then (if ((rd_T41 t124 0).f2) = 3 then (if 1 < (t124.length : Int) then (if ((rd_T41 t124 1).f2) = (-3) then (if bt127.1 = 1500 then (if bt129.1 = (-1500) then (if bt127.2 = 0 then (if bt129.2 = 0 then ((novate_Flat.f t124).bind fun t133 => (some t133)) else (none)) else (none)) else (none)) else (none)) else (none)) else (none)) else (none)) else (none)) else (none))))
theorem contangolaw13_goes.mono : ∀ k, LeO (contangolaw13_goes.f k ) (contangolaw13_goes.f (k + 1) ) := by
  intro  k
  unfold contangolaw13_goes.f
  repeat' first
      | (with_reducible exact novate_Cost.mono _ _ _ _ _ _ _ _ _ _ _ _ _ _ _)
      | (with_reducible exact LeO.refl _)
      | (with_reducible exact LeO.none _)
      | (with_reducible refine LeO.ite ?_ ?_)
      | (with_reducible refine LeO.bind ?_ (fun _ => ?_))
      | exact novate_Cost.mono _ _ _ _ _ _ _ _ _ _ _ _ _ _ _
      | exact LeO.none _
      | refine LeO.ite ?_ ?_
      | refine LeO.bind ?_ (fun _ => ?_)
set_option maxHeartbeats 8000000 in
set_option maxRecDepth 100000 in
theorem contangolaw13_goes.calls (k : Nat)  (r : Bool) (w : World) (h : contangolaw13_goes.f k  = some r) :
    Calls Try.prog 8 #[] w fun e w' => e = .returned (.bool r) ∧ Below w.heap.size w w' := by
  have hu26 := Try.underlying26
  have hu28 := Try.underlying28
  have hu24 := Try.underlying24
  have hu39 := Try.underlying39
  have HB := Aside0.mk (Below.refl w.heap.size w)
  have H : ((novate_All.f (([(⟨7, 0, 0, (⟨(⟨#[111, 105, 108]⟩ : ByteArray), 1, 9576, 0⟩ : S28), 3, 50, (⟨(⟨#[97]⟩ : ByteArray), (⟨#[120]⟩ : ByteArray)⟩ : S24), (⟨(⟨#[98]⟩ : ByteArray), (⟨#[120]⟩ : ByteArray)⟩ : S24)⟩ : S39)] : List (S39)))).bind fun t124 => ((novate_Cost.f k t124 (⟨#[97]⟩ : ByteArray) (⟨#[120]⟩ : ByteArray) (⟨#[111, 105, 108]⟩ : ByteArray) 0 10 5 0 100 false (⟨#[111, 105, 108]⟩ : ByteArray) 1 9576 0).bind fun bt127 => ((novate_Cost.f k t124 (⟨#[98]⟩ : ByteArray) (⟨#[120]⟩ : ByteArray) (⟨#[111, 105, 108]⟩ : ByteArray) 0 10 5 0 100 false (⟨#[111, 105, 108]⟩ : ByteArray) 1 9576 0).bind fun bt129 => (if (t124.length : Int) = 2 then (if 0 < (t124.length : Int) then (if ((rd_T41 t124 0).f2) = 3 then (if 1 < (t124.length : Int) then (if ((rd_T41 t124 1).f2) = (-3) then (if bt127.1 = 1500 then (if bt129.1 = (-1500) then (if bt127.2 = 0 then (if bt129.2 = 0 then ((novate_Flat.f t124).bind fun t133 => (some t133)) else (none)) else (none)) else (none)) else (none)) else (none)) else (none)) else (none)) else (none)) else (none))))) = some r := h
  clear h
  obtain ⟨y121, hy121⟩ : ∃ y_ : List (S39), y_ = (([(⟨7, 0, 0, (⟨(⟨#[111, 105, 108]⟩ : ByteArray), 1, 9576, 0⟩ : S28), 3, 50, (⟨(⟨#[97]⟩ : ByteArray), (⟨#[120]⟩ : ByteArray)⟩ : S24), (⟨(⟨#[98]⟩ : ByteArray), (⟨#[120]⟩ : ByteArray)⟩ : S24)⟩ : S39)] : List (S39))) := ⟨_, rfl⟩
  replace H : ((novate_All.f y121).bind fun t124 => ((novate_Cost.f k t124 (⟨#[97]⟩ : ByteArray) (⟨#[120]⟩ : ByteArray) (⟨#[111, 105, 108]⟩ : ByteArray) 0 10 5 0 100 false (⟨#[111, 105, 108]⟩ : ByteArray) 1 9576 0).bind fun bt127 => ((novate_Cost.f k t124 (⟨#[98]⟩ : ByteArray) (⟨#[120]⟩ : ByteArray) (⟨#[111, 105, 108]⟩ : ByteArray) 0 10 5 0 100 false (⟨#[111, 105, 108]⟩ : ByteArray) 1 9576 0).bind fun bt129 => (if (t124.length : Int) = 2 then (if 0 < (t124.length : Int) then (if ((rd_T41 t124 0).f2) = 3 then (if 1 < (t124.length : Int) then (if ((rd_T41 t124 1).f2) = (-3) then (if bt127.1 = 1500 then (if bt129.1 = (-1500) then (if bt127.2 = 0 then (if bt129.2 = 0 then ((novate_Flat.f t124).bind fun t133 => (some t133)) else (none)) else (none)) else (none)) else (none)) else (none)) else (none)) else (none)) else (none)) else (none))))) = some r := by first | (rw [hy121]; with_reducible exact H) | (have H2_ := (Option.bind_some _ _).symm.trans H; rw [hy121]; with_reducible exact H2_) | (have H2_ := (Option.bind_some _ _).symm.trans H; with_reducible exact H2_) | with_reducible exact H | (rw [hy121]; exact H) | exact H
  have Ny121 := Aside0.mk hy121
  clear hy121
  replace H := Option.bind_eq_some_iff.mp H
  obtain ⟨t124, A10, H⟩ := H
  replace H : ((novate_Cost.f k t124 (⟨#[97]⟩ : ByteArray) (⟨#[120]⟩ : ByteArray) (⟨#[111, 105, 108]⟩ : ByteArray) 0 10 5 0 100 false (⟨#[111, 105, 108]⟩ : ByteArray) 1 9576 0).bind fun bt127 => ((novate_Cost.f k t124 (⟨#[98]⟩ : ByteArray) (⟨#[120]⟩ : ByteArray) (⟨#[111, 105, 108]⟩ : ByteArray) 0 10 5 0 100 false (⟨#[111, 105, 108]⟩ : ByteArray) 1 9576 0).bind fun bt129 => (if (t124.length : Int) = 2 then (if 0 < (t124.length : Int) then (if ((rd_T41 t124 0).f2) = 3 then (if 1 < (t124.length : Int) then (if ((rd_T41 t124 1).f2) = (-3) then (if bt127.1 = 1500 then (if bt129.1 = (-1500) then (if bt127.2 = 0 then (if bt129.2 = 0 then ((novate_Flat.f t124).bind fun t133 => (some t133)) else (none)) else (none)) else (none)) else (none)) else (none)) else (none)) else (none)) else (none)) else (none)))) = some r := H
  have A1 := Aside0.mk A10
  clear A10
  replace H := Option.bind_eq_some_iff.mp H
  obtain ⟨⟨t127, t128⟩, A20, H⟩ := H
  replace H : ((novate_Cost.f k t124 (⟨#[98]⟩ : ByteArray) (⟨#[120]⟩ : ByteArray) (⟨#[111, 105, 108]⟩ : ByteArray) 0 10 5 0 100 false (⟨#[111, 105, 108]⟩ : ByteArray) 1 9576 0).bind fun bt129 => (if (t124.length : Int) = 2 then (if 0 < (t124.length : Int) then (if ((rd_T41 t124 0).f2) = 3 then (if 1 < (t124.length : Int) then (if ((rd_T41 t124 1).f2) = (-3) then (if t127 = 1500 then (if bt129.1 = (-1500) then (if t128 = 0 then (if bt129.2 = 0 then ((novate_Flat.f t124).bind fun t133 => (some t133)) else (none)) else (none)) else (none)) else (none)) else (none)) else (none)) else (none)) else (none)) else (none))) = some r := H
  have A2 := Aside0.mk A20
  clear A20
  replace H := Option.bind_eq_some_iff.mp H
  obtain ⟨⟨t129, t130⟩, A30, H⟩ := H
  replace H : (if (t124.length : Int) = 2 then (if 0 < (t124.length : Int) then (if ((rd_T41 t124 0).f2) = 3 then (if 1 < (t124.length : Int) then (if ((rd_T41 t124 1).f2) = (-3) then (if t127 = 1500 then (if t129 = (-1500) then (if t128 = 0 then (if t130 = 0 then ((novate_Flat.f t124).bind fun t133 => (some t133)) else (none)) else (none)) else (none)) else (none)) else (none)) else (none)) else (none)) else (none)) else (none)) = some r := H
  have A3 := Aside0.mk A30
  clear A30
  by_cases c4 : (t124.length : Int) = 2
  · rw [if_pos c4] at H
    have c4b0 : ((t124.length : Int) == 2) = true := beq_iff_eq.mpr c4
    have c4b1 : ((t124.length : Int) != 2) = false := bne_eq_false_iff_eq.mpr c4
    clear c4
    by_cases c5 : 0 < (t124.length : Int)
    · rw [if_pos c5] at H
      have c5b0 : decide (0 < (t124.length : Int)) = true := decide_eq_true c5
      have c5b1 : decide (0 < t124.length) = true := decide_eq_true (by omega)
      clear c5
      by_cases c6 : ((rd_T41 t124 0).f2) = 3
      · rw [if_pos c6] at H
        have c6b0 : (((rd_T41 t124 0).f2) == 3) = true := beq_iff_eq.mpr c6
        have c6b1 : (((rd_T41 t124 0).f2) != 3) = false := bne_eq_false_iff_eq.mpr c6
        clear c6
        by_cases c7 : 1 < (t124.length : Int)
        · rw [if_pos c7] at H
          have c7b0 : decide (1 < (t124.length : Int)) = true := decide_eq_true c7
          have c7b1 : decide (1 < t124.length) = true := decide_eq_true (by omega)
          clear c7
          by_cases c8 : ((rd_T41 t124 1).f2) = (-3)
          · rw [if_pos c8] at H
            have c8b0 : (((rd_T41 t124 1).f2) == (-3)) = true := beq_iff_eq.mpr c8
            have c8b1 : (((rd_T41 t124 1).f2) != (-3)) = false := bne_eq_false_iff_eq.mpr c8
            clear c8
            by_cases c9 : t127 = 1500
            · rw [if_pos c9] at H
              have c9b0 : (t127 == 1500) = true := beq_iff_eq.mpr c9
              have c9b1 : (t127 != 1500) = false := bne_eq_false_iff_eq.mpr c9
              clear c9
              by_cases c10 : t129 = (-1500)
              · rw [if_pos c10] at H
                have c10b0 : (t129 == (-1500)) = true := beq_iff_eq.mpr c10
                have c10b1 : (t129 != (-1500)) = false := bne_eq_false_iff_eq.mpr c10
                clear c10
                by_cases c11 : t128 = 0
                · rw [if_pos c11] at H
                  have c11b0 : (t128 == 0) = true := beq_iff_eq.mpr c11
                  have c11b1 : (t128 != 0) = false := bne_eq_false_iff_eq.mpr c11
                  clear c11
                  by_cases c12 : t130 = 0
                  · rw [if_pos c12] at H
                    have c12b0 : (t130 == 0) = true := beq_iff_eq.mpr c12
                    have c12b1 : (t130 != 0) = false := bne_eq_false_iff_eq.mpr c12
                    clear c12
                    replace H := Option.bind_eq_some_iff.mp H
                    obtain ⟨t133, A130, H⟩ := H
                    replace H : (some t133) = some r := H
                    have A13 := Aside0.mk A130
                    clear A130
                    obtain rfl := Option.some.inj H
                    go_enter Try.func8, Try.ntmps8
                    go_wp2_with (first | ((with_reducible refine gate_dst (N := 1) rfl ?_); refine box_event ?hg (N := 1) ?hd (cs := #[.string (⟨#[]⟩ : ByteArray), .int .i64 0, .int .i64 0, .int .i64 0, .int .i64 0, .int .i64 0, .bool false]) (t := 26) ?hr ?_; (case hd => rfl); (case hg => rfl); (case hr => first | (go_simp; done) | (go_simp; rfl)); intro gb119 hg w14 hbox hb; have n0_ := Aside0.mk (below_step (by repeat (first | (with_reducible first | exact HB.out | apply below_alloc | apply pw_below_drewN | apply below_drew1) | exact HB.out)) hb); have n1_ := Aside0.mk (hbox); have n2_ := Aside0.mk ((by rw [hg]; exact (below_size (by repeat (first | (with_reducible first | exact HB.out | apply below_alloc | apply pw_below_drewN | apply below_drew1) | exact HB.out))) : w.heap.size ≤ gb119)); have n3_ := Aside0.mk ((by rw [hg]; exact (below_size (by repeat (first | (with_reducible first | exact HB.out | apply below_alloc | apply pw_below_drewN | apply below_drew1) | exact HB.out))) : w.heap.size ≤ gb119)); clear HB; have HB := n0_; have BK119 := n1_; have GW119 := n2_; have GE119 := n3_; clear n0_ n1_ n2_ n3_; clear hb hbox hg; have hcz15_0 : w14.cell? ⟨gb119, 0, none⟩ = some (.string (⟨#[]⟩ : ByteArray)) := (blk_cell BK119.out 0).trans rfl; have hcz15_1 : w14.cell? ⟨gb119, 1, none⟩ = some (.int .i64 0) := (blk_cell BK119.out 1).trans rfl; have hcz15_2 : w14.cell? ⟨gb119, 2, none⟩ = some (.int .i64 0) := (blk_cell BK119.out 2).trans rfl; have hcz15_3 : w14.cell? ⟨gb119, 3, none⟩ = some (.int .i64 0) := (blk_cell BK119.out 3).trans rfl; have hcz15_4 : w14.cell? ⟨gb119, 4, none⟩ = some (.int .i64 0) := (blk_cell BK119.out 4).trans rfl; have hcz15_5 : w14.cell? ⟨gb119, 5, none⟩ = some (.int .i64 0) := (blk_cell BK119.out 5).trans rfl; have hcz15_6 : w14.cell? ⟨gb119, 6, none⟩ = some (.bool false) := (blk_cell BK119.out 6).trans rfl; have hfz15_0 := blk_frozen BK119.out 0; have hfz15_1 := blk_frozen BK119.out 1; have hfz15_2 := blk_frozen BK119.out 2; have hfz15_3 := blk_frozen BK119.out 3; have hfz15_4 := blk_frozen BK119.out 4; have hfz15_5 := blk_frozen BK119.out 5; have hfz15_6 := blk_frozen BK119.out 6) | ((with_reducible refine gate_dst (N := 2) rfl ?_); refine box_event ?hg (N := 2) ?hd (cs := #[.int .i64 0, .int .i64 0, .int .i64 0, .string (⟨#[]⟩ : ByteArray), .int .i64 0, .int .i64 0, .int .i64 0, .int .i64 0, .int .i64 0, .string (⟨#[]⟩ : ByteArray), .string (⟨#[]⟩ : ByteArray), .string (⟨#[]⟩ : ByteArray), .string (⟨#[]⟩ : ByteArray)]) (t := 39) ?hr ?_; (case hd => rfl); (case hg => rfl); (case hr => first | (go_simp; done) | (go_simp; rfl)); intro gb120 hg w16 hbox hb; have n0_ := Aside0.mk (blk_below (g := gb119) (o := .cells #[.string (⟨#[111, 105, 108]⟩ : ByteArray), .int .i64 0, .int .i64 10, .int .i64 5, .int .i64 0, .int .i64 100, .bool false] 26 (0, 0)) (by (with_reducible repeat (first | refine blk_drewN ?_ _ | refine blk_drew ?_ | refine blk_alloc ?_ _)); refine blk_put (cs := #[.string (⟨#[111, 105, 108]⟩ : ByteArray), .int .i64 0, .int .i64 10, .int .i64 5, .int .i64 0, .int .i64 100, .bool false]) ?_ 6 _ rfl; (with_reducible repeat (first | refine blk_drewN ?_ _ | refine blk_drew ?_ | refine blk_alloc ?_ _)); refine blk_put (cs := #[.string (⟨#[111, 105, 108]⟩ : ByteArray), .int .i64 0, .int .i64 10, .int .i64 5, .int .i64 0, .int .i64 0, .bool false]) ?_ 5 _ rfl; (with_reducible repeat (first | refine blk_drewN ?_ _ | refine blk_drew ?_ | refine blk_alloc ?_ _)); refine blk_put (cs := #[.string (⟨#[111, 105, 108]⟩ : ByteArray), .int .i64 0, .int .i64 10, .int .i64 5, .int .i64 0, .int .i64 0, .bool false]) ?_ 4 _ rfl; (with_reducible repeat (first | refine blk_drewN ?_ _ | refine blk_drew ?_ | refine blk_alloc ?_ _)); refine blk_put (cs := #[.string (⟨#[111, 105, 108]⟩ : ByteArray), .int .i64 0, .int .i64 10, .int .i64 0, .int .i64 0, .int .i64 0, .bool false]) ?_ 3 _ rfl; (with_reducible repeat (first | refine blk_drewN ?_ _ | refine blk_drew ?_ | refine blk_alloc ?_ _)); refine blk_put (cs := #[.string (⟨#[111, 105, 108]⟩ : ByteArray), .int .i64 0, .int .i64 0, .int .i64 0, .int .i64 0, .int .i64 0, .bool false]) ?_ 2 _ rfl; (with_reducible repeat (first | refine blk_drewN ?_ _ | refine blk_drew ?_ | refine blk_alloc ?_ _)); refine blk_put (cs := #[.string (⟨#[111, 105, 108]⟩ : ByteArray), .int .i64 0, .int .i64 0, .int .i64 0, .int .i64 0, .int .i64 0, .bool false]) ?_ 1 _ rfl; (with_reducible repeat (first | refine blk_drewN ?_ _ | refine blk_drew ?_ | refine blk_alloc ?_ _)); refine blk_put (cs := #[.string (⟨#[]⟩ : ByteArray), .int .i64 0, .int .i64 0, .int .i64 0, .int .i64 0, .int .i64 0, .bool false]) ?_ 0 _ rfl; (with_reducible repeat (first | refine blk_drewN ?_ _ | refine blk_drew ?_ | refine blk_alloc ?_ _)); exact BK119.out) hb); have n1_ := Aside0.mk (below_step (by repeat (first | (with_reducible first | exact HB.out | apply below_alloc | apply pw_below_drewN | apply below_drew1 | refine below_set ?_ GE119.out) | exact HB.out)) hb); have n2_ := Aside0.mk (hbox); have n3_ := Aside0.mk ((by rw [hg]; exact (below_size (by repeat (first | (with_reducible first | exact HB.out | apply below_alloc | apply pw_below_drewN | apply below_drew1 | refine below_set ?_ GE119.out) | exact HB.out))) : w.heap.size ≤ gb120)); have n4_ := Aside0.mk ((by rw [hg]; exact (below_size (by repeat (first | (with_reducible first | exact HB.out | apply below_alloc | apply pw_below_drewN | apply below_drew1 | refine below_set ?_ GE119.out) | exact HB.out))) : w.heap.size ≤ gb120)); have n5_ := Aside0.mk ((by rw [hg]; exact Nat.ne_of_lt (blk_lt (g := gb119) (o := .cells #[.string (⟨#[111, 105, 108]⟩ : ByteArray), .int .i64 0, .int .i64 10, .int .i64 5, .int .i64 0, .int .i64 100, .bool false] 26 (0, 0)) (by (with_reducible repeat (first | refine blk_drewN ?_ _ | refine blk_drew ?_ | refine blk_alloc ?_ _)); refine blk_put (cs := #[.string (⟨#[111, 105, 108]⟩ : ByteArray), .int .i64 0, .int .i64 10, .int .i64 5, .int .i64 0, .int .i64 100, .bool false]) ?_ 6 _ rfl; (with_reducible repeat (first | refine blk_drewN ?_ _ | refine blk_drew ?_ | refine blk_alloc ?_ _)); refine blk_put (cs := #[.string (⟨#[111, 105, 108]⟩ : ByteArray), .int .i64 0, .int .i64 10, .int .i64 5, .int .i64 0, .int .i64 0, .bool false]) ?_ 5 _ rfl; (with_reducible repeat (first | refine blk_drewN ?_ _ | refine blk_drew ?_ | refine blk_alloc ?_ _)); refine blk_put (cs := #[.string (⟨#[111, 105, 108]⟩ : ByteArray), .int .i64 0, .int .i64 10, .int .i64 5, .int .i64 0, .int .i64 0, .bool false]) ?_ 4 _ rfl; (with_reducible repeat (first | refine blk_drewN ?_ _ | refine blk_drew ?_ | refine blk_alloc ?_ _)); refine blk_put (cs := #[.string (⟨#[111, 105, 108]⟩ : ByteArray), .int .i64 0, .int .i64 10, .int .i64 0, .int .i64 0, .int .i64 0, .bool false]) ?_ 3 _ rfl; (with_reducible repeat (first | refine blk_drewN ?_ _ | refine blk_drew ?_ | refine blk_alloc ?_ _)); refine blk_put (cs := #[.string (⟨#[111, 105, 108]⟩ : ByteArray), .int .i64 0, .int .i64 0, .int .i64 0, .int .i64 0, .int .i64 0, .bool false]) ?_ 2 _ rfl; (with_reducible repeat (first | refine blk_drewN ?_ _ | refine blk_drew ?_ | refine blk_alloc ?_ _)); refine blk_put (cs := #[.string (⟨#[111, 105, 108]⟩ : ByteArray), .int .i64 0, .int .i64 0, .int .i64 0, .int .i64 0, .int .i64 0, .bool false]) ?_ 1 _ rfl; (with_reducible repeat (first | refine blk_drewN ?_ _ | refine blk_drew ?_ | refine blk_alloc ?_ _)); refine blk_put (cs := #[.string (⟨#[]⟩ : ByteArray), .int .i64 0, .int .i64 0, .int .i64 0, .int .i64 0, .int .i64 0, .bool false]) ?_ 0 _ rfl; (with_reducible repeat (first | refine blk_drewN ?_ _ | refine blk_drew ?_ | refine blk_alloc ?_ _)); exact BK119.out)) : gb119 ≠ gb120)); have n6_ := Aside0.mk ((by rw [hg]; exact Nat.ne_of_gt (blk_lt (g := gb119) (o := .cells #[.string (⟨#[111, 105, 108]⟩ : ByteArray), .int .i64 0, .int .i64 10, .int .i64 5, .int .i64 0, .int .i64 100, .bool false] 26 (0, 0)) (by (with_reducible repeat (first | refine blk_drewN ?_ _ | refine blk_drew ?_ | refine blk_alloc ?_ _)); refine blk_put (cs := #[.string (⟨#[111, 105, 108]⟩ : ByteArray), .int .i64 0, .int .i64 10, .int .i64 5, .int .i64 0, .int .i64 100, .bool false]) ?_ 6 _ rfl; (with_reducible repeat (first | refine blk_drewN ?_ _ | refine blk_drew ?_ | refine blk_alloc ?_ _)); refine blk_put (cs := #[.string (⟨#[111, 105, 108]⟩ : ByteArray), .int .i64 0, .int .i64 10, .int .i64 5, .int .i64 0, .int .i64 0, .bool false]) ?_ 5 _ rfl; (with_reducible repeat (first | refine blk_drewN ?_ _ | refine blk_drew ?_ | refine blk_alloc ?_ _)); refine blk_put (cs := #[.string (⟨#[111, 105, 108]⟩ : ByteArray), .int .i64 0, .int .i64 10, .int .i64 5, .int .i64 0, .int .i64 0, .bool false]) ?_ 4 _ rfl; (with_reducible repeat (first | refine blk_drewN ?_ _ | refine blk_drew ?_ | refine blk_alloc ?_ _)); refine blk_put (cs := #[.string (⟨#[111, 105, 108]⟩ : ByteArray), .int .i64 0, .int .i64 10, .int .i64 0, .int .i64 0, .int .i64 0, .bool false]) ?_ 3 _ rfl; (with_reducible repeat (first | refine blk_drewN ?_ _ | refine blk_drew ?_ | refine blk_alloc ?_ _)); refine blk_put (cs := #[.string (⟨#[111, 105, 108]⟩ : ByteArray), .int .i64 0, .int .i64 0, .int .i64 0, .int .i64 0, .int .i64 0, .bool false]) ?_ 2 _ rfl; (with_reducible repeat (first | refine blk_drewN ?_ _ | refine blk_drew ?_ | refine blk_alloc ?_ _)); refine blk_put (cs := #[.string (⟨#[111, 105, 108]⟩ : ByteArray), .int .i64 0, .int .i64 0, .int .i64 0, .int .i64 0, .int .i64 0, .bool false]) ?_ 1 _ rfl; (with_reducible repeat (first | refine blk_drewN ?_ _ | refine blk_drew ?_ | refine blk_alloc ?_ _)); refine blk_put (cs := #[.string (⟨#[]⟩ : ByteArray), .int .i64 0, .int .i64 0, .int .i64 0, .int .i64 0, .int .i64 0, .bool false]) ?_ 0 _ rfl; (with_reducible repeat (first | refine blk_drewN ?_ _ | refine blk_drew ?_ | refine blk_alloc ?_ _)); exact BK119.out)) : gb120 ≠ gb119)); clear BK119; clear HB; have BK119 := n0_; have HB := n1_; have BK120 := n2_; have GW120 := n3_; have GE120 := n4_; have NB119_120 := n5_; have NB120_119 := n6_; clear n0_ n1_ n2_ n3_ n4_ n5_ n6_; clear hb hbox hg; have hnb17 := NB120_119.out; have hnc17 := NB119_120.out; have hcz18_0 : w16.cell? ⟨gb120, 0, none⟩ = some (.int .i64 0) := (blk_cell BK120.out 0).trans rfl; have hcz18_1 : w16.cell? ⟨gb120, 1, none⟩ = some (.int .i64 0) := (blk_cell BK120.out 1).trans rfl; have hcz18_2 : w16.cell? ⟨gb120, 2, none⟩ = some (.int .i64 0) := (blk_cell BK120.out 2).trans rfl; have hcz18_3 : w16.cell? ⟨gb120, 3, none⟩ = some (.string (⟨#[]⟩ : ByteArray)) := (blk_cell BK120.out 3).trans rfl; have hcz18_4 : w16.cell? ⟨gb120, 4, none⟩ = some (.int .i64 0) := (blk_cell BK120.out 4).trans rfl; have hcz18_5 : w16.cell? ⟨gb120, 5, none⟩ = some (.int .i64 0) := (blk_cell BK120.out 5).trans rfl; have hcz18_6 : w16.cell? ⟨gb120, 6, none⟩ = some (.int .i64 0) := (blk_cell BK120.out 6).trans rfl; have hcz18_7 : w16.cell? ⟨gb120, 7, none⟩ = some (.int .i64 0) := (blk_cell BK120.out 7).trans rfl; have hcz18_8 : w16.cell? ⟨gb120, 8, none⟩ = some (.int .i64 0) := (blk_cell BK120.out 8).trans rfl; have hcz18_9 : w16.cell? ⟨gb120, 9, none⟩ = some (.string (⟨#[]⟩ : ByteArray)) := (blk_cell BK120.out 9).trans rfl; have hcz18_10 : w16.cell? ⟨gb120, 10, none⟩ = some (.string (⟨#[]⟩ : ByteArray)) := (blk_cell BK120.out 10).trans rfl; have hcz18_11 : w16.cell? ⟨gb120, 11, none⟩ = some (.string (⟨#[]⟩ : ByteArray)) := (blk_cell BK120.out 11).trans rfl; have hcz18_12 : w16.cell? ⟨gb120, 12, none⟩ = some (.string (⟨#[]⟩ : ByteArray)) := (blk_cell BK120.out 12).trans rfl; have hfz18_0 := blk_frozen BK120.out 0; have hfz18_1 := blk_frozen BK120.out 1; have hfz18_2 := blk_frozen BK120.out 2; have hfz18_3 := blk_frozen BK120.out 3; have hfz18_4 := blk_frozen BK120.out 4; have hfz18_5 := blk_frozen BK120.out 5; have hfz18_6 := blk_frozen BK120.out 6; have hfz18_7 := blk_frozen BK120.out 7; have hfz18_8 := blk_frozen BK120.out 8; have hfz18_9 := blk_frozen BK120.out 9; have hfz18_10 := blk_frozen BK120.out 10; have hfz18_11 := blk_frozen BK120.out 11; have hfz18_12 := blk_frozen BK120.out 12) | ((with_reducible refine gate_dst (N := 14) rfl ?_); refine Kd.R_lit k39 _ 39 ?hg (N := 14) ?hd (xs := ([(⟨7, 0, 0, (⟨(⟨#[111, 105, 108]⟩ : ByteArray), 1, 9576, 0⟩ : S28), 3, 50, (⟨(⟨#[97]⟩ : ByteArray), (⟨#[120]⟩ : ByteArray)⟩ : S24), (⟨(⟨#[98]⟩ : ByteArray), (⟨#[120]⟩ : ByteArray)⟩ : S24)⟩ : S39)] : List (S39))) (inner := [.int .i64 7, .int .i64 0, .int .i64 0, .string (⟨#[111, 105, 108]⟩ : ByteArray), .int .i64 1, .int .i64 9576, .int .i64 0, .int .i64 3, .int .i64 50, .string (⟨#[97]⟩ : ByteArray), .string (⟨#[120]⟩ : ByteArray), .string (⟨#[98]⟩ : ByteArray), .string (⟨#[120]⟩ : ByteArray)]) (ok := fun _ => True) (okp := fun _ => True) ?hr ?hp (fun _ hk => hk) trivial (Below.refl _ _) (Nat.le_refl _) (by simp) ?_; (case hd => rfl); (case hg => rfl); (case hr => first | (go_simp; done) | (go_simp; rfl)); (case hp => exact (Reps.front (show Kd.M k39 _ _ _ (⟨7, 0, 0, (⟨(⟨#[111, 105, 108]⟩ : ByteArray), 1, 9576, 0⟩ : S28), 3, 50, (⟨(⟨#[97]⟩ : ByteArray), (⟨#[120]⟩ : ByteArray)⟩ : S24), (⟨(⟨#[98]⟩ : ByteArray), (⟨#[120]⟩ : ByteArray)⟩ : S24)⟩ : S39) [.int .i64 7, .int .i64 0, .int .i64 0, .string (⟨#[111, 105, 108]⟩ : ByteArray), .int .i64 1, .int .i64 9576, .int .i64 0, .int .i64 3, .int .i64 50, .string (⟨#[97]⟩ : ByteArray), .string (⟨#[120]⟩ : ByteArray), .string (⟨#[98]⟩ : ByteArray), .string (⟨#[120]⟩ : ByteArray)] from (k39_mkM _ _ _ (⟨7, 0, 0, (⟨(⟨#[111, 105, 108]⟩ : ByteArray), 1, 9576, 0⟩ : S28), 3, 50, (⟨(⟨#[97]⟩ : ByteArray), (⟨#[120]⟩ : ByteArray)⟩ : S24), (⟨(⟨#[98]⟩ : ByteArray), (⟨#[120]⟩ : ByteArray)⟩ : S24)⟩ : S39) )) rfl (Reps.none _ _) rfl)); intro v122 w19 ho20 hb hg_ hnew_; clear hg_ hnew_; (first | rw [← Ny121.out] at ho20 | (simp only [Int.reduceToNat] at ho20; rw [← Ny121.out] at ho20)); have n0_ := Aside0.mk (Kd.R_lower (Kd.R_newB ho20 (g := gb120) (o := .cells #[.int .i64 7, .int .i64 0, .int .i64 0, .string (⟨#[111, 105, 108]⟩ : ByteArray), .int .i64 1, .int .i64 9576, .int .i64 0, .int .i64 3, .int .i64 50, .string (⟨#[97]⟩ : ByteArray), .string (⟨#[120]⟩ : ByteArray), .string (⟨#[98]⟩ : ByteArray), .string (⟨#[120]⟩ : ByteArray)] 39 (0, 0)) (by (with_reducible repeat (first | refine blk_drewN ?_ _ | refine blk_drew ?_ | refine blk_alloc ?_ _)); refine blk_put (cs := #[.int .i64 7, .int .i64 0, .int .i64 0, .string (⟨#[111, 105, 108]⟩ : ByteArray), .int .i64 1, .int .i64 9576, .int .i64 0, .int .i64 3, .int .i64 50, .string (⟨#[97]⟩ : ByteArray), .string (⟨#[120]⟩ : ByteArray), .string (⟨#[98]⟩ : ByteArray), .string (⟨#[]⟩ : ByteArray)]) ?_ 12 _ rfl; (with_reducible repeat (first | refine blk_drewN ?_ _ | refine blk_drew ?_ | refine blk_alloc ?_ _)); refine blk_put (cs := #[.int .i64 7, .int .i64 0, .int .i64 0, .string (⟨#[111, 105, 108]⟩ : ByteArray), .int .i64 1, .int .i64 9576, .int .i64 0, .int .i64 3, .int .i64 50, .string (⟨#[97]⟩ : ByteArray), .string (⟨#[120]⟩ : ByteArray), .string (⟨#[]⟩ : ByteArray), .string (⟨#[]⟩ : ByteArray)]) ?_ 11 _ rfl; (with_reducible repeat (first | refine blk_drewN ?_ _ | refine blk_drew ?_ | refine blk_alloc ?_ _)); refine blk_put (cs := #[.int .i64 7, .int .i64 0, .int .i64 0, .string (⟨#[111, 105, 108]⟩ : ByteArray), .int .i64 1, .int .i64 9576, .int .i64 0, .int .i64 3, .int .i64 50, .string (⟨#[97]⟩ : ByteArray), .string (⟨#[]⟩ : ByteArray), .string (⟨#[]⟩ : ByteArray), .string (⟨#[]⟩ : ByteArray)]) ?_ 10 _ rfl; (with_reducible repeat (first | refine blk_drewN ?_ _ | refine blk_drew ?_ | refine blk_alloc ?_ _)); refine blk_put (cs := #[.int .i64 7, .int .i64 0, .int .i64 0, .string (⟨#[111, 105, 108]⟩ : ByteArray), .int .i64 1, .int .i64 9576, .int .i64 0, .int .i64 3, .int .i64 50, .string (⟨#[]⟩ : ByteArray), .string (⟨#[]⟩ : ByteArray), .string (⟨#[]⟩ : ByteArray), .string (⟨#[]⟩ : ByteArray)]) ?_ 9 _ rfl; (with_reducible repeat (first | refine blk_drewN ?_ _ | refine blk_drew ?_ | refine blk_alloc ?_ _)); refine blk_put (cs := #[.int .i64 7, .int .i64 0, .int .i64 0, .string (⟨#[111, 105, 108]⟩ : ByteArray), .int .i64 1, .int .i64 9576, .int .i64 0, .int .i64 3, .int .i64 0, .string (⟨#[]⟩ : ByteArray), .string (⟨#[]⟩ : ByteArray), .string (⟨#[]⟩ : ByteArray), .string (⟨#[]⟩ : ByteArray)]) ?_ 8 _ rfl; (with_reducible repeat (first | refine blk_drewN ?_ _ | refine blk_drew ?_ | refine blk_alloc ?_ _)); refine blk_put (cs := #[.int .i64 7, .int .i64 0, .int .i64 0, .string (⟨#[111, 105, 108]⟩ : ByteArray), .int .i64 1, .int .i64 9576, .int .i64 0, .int .i64 0, .int .i64 0, .string (⟨#[]⟩ : ByteArray), .string (⟨#[]⟩ : ByteArray), .string (⟨#[]⟩ : ByteArray), .string (⟨#[]⟩ : ByteArray)]) ?_ 7 _ rfl; (with_reducible repeat (first | refine blk_drewN ?_ _ | refine blk_drew ?_ | refine blk_alloc ?_ _)); refine blk_put (cs := #[.int .i64 7, .int .i64 0, .int .i64 0, .string (⟨#[111, 105, 108]⟩ : ByteArray), .int .i64 1, .int .i64 9576, .int .i64 0, .int .i64 0, .int .i64 0, .string (⟨#[]⟩ : ByteArray), .string (⟨#[]⟩ : ByteArray), .string (⟨#[]⟩ : ByteArray), .string (⟨#[]⟩ : ByteArray)]) ?_ 6 _ rfl; (with_reducible repeat (first | refine blk_drewN ?_ _ | refine blk_drew ?_ | refine blk_alloc ?_ _)); refine blk_put (cs := #[.int .i64 7, .int .i64 0, .int .i64 0, .string (⟨#[111, 105, 108]⟩ : ByteArray), .int .i64 1, .int .i64 0, .int .i64 0, .int .i64 0, .int .i64 0, .string (⟨#[]⟩ : ByteArray), .string (⟨#[]⟩ : ByteArray), .string (⟨#[]⟩ : ByteArray), .string (⟨#[]⟩ : ByteArray)]) ?_ 5 _ rfl; (with_reducible repeat (first | refine blk_drewN ?_ _ | refine blk_drew ?_ | refine blk_alloc ?_ _)); refine blk_put (cs := #[.int .i64 7, .int .i64 0, .int .i64 0, .string (⟨#[111, 105, 108]⟩ : ByteArray), .int .i64 0, .int .i64 0, .int .i64 0, .int .i64 0, .int .i64 0, .string (⟨#[]⟩ : ByteArray), .string (⟨#[]⟩ : ByteArray), .string (⟨#[]⟩ : ByteArray), .string (⟨#[]⟩ : ByteArray)]) ?_ 4 _ rfl; (with_reducible repeat (first | refine blk_drewN ?_ _ | refine blk_drew ?_ | refine blk_alloc ?_ _)); refine blk_put (cs := #[.int .i64 7, .int .i64 0, .int .i64 0, .string (⟨#[]⟩ : ByteArray), .int .i64 0, .int .i64 0, .int .i64 0, .int .i64 0, .int .i64 0, .string (⟨#[]⟩ : ByteArray), .string (⟨#[]⟩ : ByteArray), .string (⟨#[]⟩ : ByteArray), .string (⟨#[]⟩ : ByteArray)]) ?_ 3 _ rfl; (with_reducible repeat (first | refine blk_drewN ?_ _ | refine blk_drew ?_ | refine blk_alloc ?_ _)); refine blk_put (cs := #[.int .i64 7, .int .i64 0, .int .i64 0, .string (⟨#[]⟩ : ByteArray), .int .i64 0, .int .i64 0, .int .i64 0, .int .i64 0, .int .i64 0, .string (⟨#[]⟩ : ByteArray), .string (⟨#[]⟩ : ByteArray), .string (⟨#[]⟩ : ByteArray), .string (⟨#[]⟩ : ByteArray)]) ?_ 2 _ rfl; (with_reducible repeat (first | refine blk_drewN ?_ _ | refine blk_drew ?_ | refine blk_alloc ?_ _)); refine blk_put (cs := #[.int .i64 7, .int .i64 0, .int .i64 0, .string (⟨#[]⟩ : ByteArray), .int .i64 0, .int .i64 0, .int .i64 0, .int .i64 0, .int .i64 0, .string (⟨#[]⟩ : ByteArray), .string (⟨#[]⟩ : ByteArray), .string (⟨#[]⟩ : ByteArray), .string (⟨#[]⟩ : ByteArray)]) ?_ 1 _ rfl; (with_reducible repeat (first | refine blk_drewN ?_ _ | refine blk_drew ?_ | refine blk_alloc ?_ _)); refine blk_put (cs := #[.int .i64 0, .int .i64 0, .int .i64 0, .string (⟨#[]⟩ : ByteArray), .int .i64 0, .int .i64 0, .int .i64 0, .int .i64 0, .int .i64 0, .string (⟨#[]⟩ : ByteArray), .string (⟨#[]⟩ : ByteArray), .string (⟨#[]⟩ : ByteArray), .string (⟨#[]⟩ : ByteArray)]) ?_ 0 _ rfl; (with_reducible repeat (first | refine blk_drewN ?_ _ | refine blk_drew ?_ | refine blk_alloc ?_ _)); exact BK120.out)) (below_size (by repeat (first | (with_reducible first | exact HB.out | apply below_alloc | apply pw_below_drewN | apply below_drew1 | refine below_set ?_ GE119.out | refine below_set ?_ GE120.out) | exact HB.out)))); have n1_ := Aside0.mk (blk_below (g := gb119) (o := .cells #[.string (⟨#[111, 105, 108]⟩ : ByteArray), .int .i64 0, .int .i64 10, .int .i64 5, .int .i64 0, .int .i64 100, .bool false] 26 (0, 0)) (by (with_reducible repeat (first | refine blk_drewN ?_ _ | refine blk_drew ?_ | refine blk_alloc ?_ _)); refine blk_far ?_ NB119_120.out _; (with_reducible repeat (first | refine blk_drewN ?_ _ | refine blk_drew ?_ | refine blk_alloc ?_ _)); refine blk_far ?_ NB119_120.out _; (with_reducible repeat (first | refine blk_drewN ?_ _ | refine blk_drew ?_ | refine blk_alloc ?_ _)); refine blk_far ?_ NB119_120.out _; (with_reducible repeat (first | refine blk_drewN ?_ _ | refine blk_drew ?_ | refine blk_alloc ?_ _)); refine blk_far ?_ NB119_120.out _; (with_reducible repeat (first | refine blk_drewN ?_ _ | refine blk_drew ?_ | refine blk_alloc ?_ _)); refine blk_far ?_ NB119_120.out _; (with_reducible repeat (first | refine blk_drewN ?_ _ | refine blk_drew ?_ | refine blk_alloc ?_ _)); refine blk_far ?_ NB119_120.out _; (with_reducible repeat (first | refine blk_drewN ?_ _ | refine blk_drew ?_ | refine blk_alloc ?_ _)); refine blk_far ?_ NB119_120.out _; (with_reducible repeat (first | refine blk_drewN ?_ _ | refine blk_drew ?_ | refine blk_alloc ?_ _)); refine blk_far ?_ NB119_120.out _; (with_reducible repeat (first | refine blk_drewN ?_ _ | refine blk_drew ?_ | refine blk_alloc ?_ _)); refine blk_far ?_ NB119_120.out _; (with_reducible repeat (first | refine blk_drewN ?_ _ | refine blk_drew ?_ | refine blk_alloc ?_ _)); refine blk_far ?_ NB119_120.out _; (with_reducible repeat (first | refine blk_drewN ?_ _ | refine blk_drew ?_ | refine blk_alloc ?_ _)); refine blk_far ?_ NB119_120.out _; (with_reducible repeat (first | refine blk_drewN ?_ _ | refine blk_drew ?_ | refine blk_alloc ?_ _)); refine blk_far ?_ NB119_120.out _; (with_reducible repeat (first | refine blk_drewN ?_ _ | refine blk_drew ?_ | refine blk_alloc ?_ _)); refine blk_far ?_ NB119_120.out _; (with_reducible repeat (first | refine blk_drewN ?_ _ | refine blk_drew ?_ | refine blk_alloc ?_ _)); exact BK119.out) hb); have n2_ := Aside0.mk (blk_below (g := gb120) (o := .cells #[.int .i64 7, .int .i64 0, .int .i64 0, .string (⟨#[111, 105, 108]⟩ : ByteArray), .int .i64 1, .int .i64 9576, .int .i64 0, .int .i64 3, .int .i64 50, .string (⟨#[97]⟩ : ByteArray), .string (⟨#[120]⟩ : ByteArray), .string (⟨#[98]⟩ : ByteArray), .string (⟨#[120]⟩ : ByteArray)] 39 (0, 0)) (by (with_reducible repeat (first | refine blk_drewN ?_ _ | refine blk_drew ?_ | refine blk_alloc ?_ _)); refine blk_put (cs := #[.int .i64 7, .int .i64 0, .int .i64 0, .string (⟨#[111, 105, 108]⟩ : ByteArray), .int .i64 1, .int .i64 9576, .int .i64 0, .int .i64 3, .int .i64 50, .string (⟨#[97]⟩ : ByteArray), .string (⟨#[120]⟩ : ByteArray), .string (⟨#[98]⟩ : ByteArray), .string (⟨#[]⟩ : ByteArray)]) ?_ 12 _ rfl; (with_reducible repeat (first | refine blk_drewN ?_ _ | refine blk_drew ?_ | refine blk_alloc ?_ _)); refine blk_put (cs := #[.int .i64 7, .int .i64 0, .int .i64 0, .string (⟨#[111, 105, 108]⟩ : ByteArray), .int .i64 1, .int .i64 9576, .int .i64 0, .int .i64 3, .int .i64 50, .string (⟨#[97]⟩ : ByteArray), .string (⟨#[120]⟩ : ByteArray), .string (⟨#[]⟩ : ByteArray), .string (⟨#[]⟩ : ByteArray)]) ?_ 11 _ rfl; (with_reducible repeat (first | refine blk_drewN ?_ _ | refine blk_drew ?_ | refine blk_alloc ?_ _)); refine blk_put (cs := #[.int .i64 7, .int .i64 0, .int .i64 0, .string (⟨#[111, 105, 108]⟩ : ByteArray), .int .i64 1, .int .i64 9576, .int .i64 0, .int .i64 3, .int .i64 50, .string (⟨#[97]⟩ : ByteArray), .string (⟨#[]⟩ : ByteArray), .string (⟨#[]⟩ : ByteArray), .string (⟨#[]⟩ : ByteArray)]) ?_ 10 _ rfl; (with_reducible repeat (first | refine blk_drewN ?_ _ | refine blk_drew ?_ | refine blk_alloc ?_ _)); refine blk_put (cs := #[.int .i64 7, .int .i64 0, .int .i64 0, .string (⟨#[111, 105, 108]⟩ : ByteArray), .int .i64 1, .int .i64 9576, .int .i64 0, .int .i64 3, .int .i64 50, .string (⟨#[]⟩ : ByteArray), .string (⟨#[]⟩ : ByteArray), .string (⟨#[]⟩ : ByteArray), .string (⟨#[]⟩ : ByteArray)]) ?_ 9 _ rfl; (with_reducible repeat (first | refine blk_drewN ?_ _ | refine blk_drew ?_ | refine blk_alloc ?_ _)); refine blk_put (cs := #[.int .i64 7, .int .i64 0, .int .i64 0, .string (⟨#[111, 105, 108]⟩ : ByteArray), .int .i64 1, .int .i64 9576, .int .i64 0, .int .i64 3, .int .i64 0, .string (⟨#[]⟩ : ByteArray), .string (⟨#[]⟩ : ByteArray), .string (⟨#[]⟩ : ByteArray), .string (⟨#[]⟩ : ByteArray)]) ?_ 8 _ rfl; (with_reducible repeat (first | refine blk_drewN ?_ _ | refine blk_drew ?_ | refine blk_alloc ?_ _)); refine blk_put (cs := #[.int .i64 7, .int .i64 0, .int .i64 0, .string (⟨#[111, 105, 108]⟩ : ByteArray), .int .i64 1, .int .i64 9576, .int .i64 0, .int .i64 0, .int .i64 0, .string (⟨#[]⟩ : ByteArray), .string (⟨#[]⟩ : ByteArray), .string (⟨#[]⟩ : ByteArray), .string (⟨#[]⟩ : ByteArray)]) ?_ 7 _ rfl; (with_reducible repeat (first | refine blk_drewN ?_ _ | refine blk_drew ?_ | refine blk_alloc ?_ _)); refine blk_put (cs := #[.int .i64 7, .int .i64 0, .int .i64 0, .string (⟨#[111, 105, 108]⟩ : ByteArray), .int .i64 1, .int .i64 9576, .int .i64 0, .int .i64 0, .int .i64 0, .string (⟨#[]⟩ : ByteArray), .string (⟨#[]⟩ : ByteArray), .string (⟨#[]⟩ : ByteArray), .string (⟨#[]⟩ : ByteArray)]) ?_ 6 _ rfl; (with_reducible repeat (first | refine blk_drewN ?_ _ | refine blk_drew ?_ | refine blk_alloc ?_ _)); refine blk_put (cs := #[.int .i64 7, .int .i64 0, .int .i64 0, .string (⟨#[111, 105, 108]⟩ : ByteArray), .int .i64 1, .int .i64 0, .int .i64 0, .int .i64 0, .int .i64 0, .string (⟨#[]⟩ : ByteArray), .string (⟨#[]⟩ : ByteArray), .string (⟨#[]⟩ : ByteArray), .string (⟨#[]⟩ : ByteArray)]) ?_ 5 _ rfl; (with_reducible repeat (first | refine blk_drewN ?_ _ | refine blk_drew ?_ | refine blk_alloc ?_ _)); refine blk_put (cs := #[.int .i64 7, .int .i64 0, .int .i64 0, .string (⟨#[111, 105, 108]⟩ : ByteArray), .int .i64 0, .int .i64 0, .int .i64 0, .int .i64 0, .int .i64 0, .string (⟨#[]⟩ : ByteArray), .string (⟨#[]⟩ : ByteArray), .string (⟨#[]⟩ : ByteArray), .string (⟨#[]⟩ : ByteArray)]) ?_ 4 _ rfl; (with_reducible repeat (first | refine blk_drewN ?_ _ | refine blk_drew ?_ | refine blk_alloc ?_ _)); refine blk_put (cs := #[.int .i64 7, .int .i64 0, .int .i64 0, .string (⟨#[]⟩ : ByteArray), .int .i64 0, .int .i64 0, .int .i64 0, .int .i64 0, .int .i64 0, .string (⟨#[]⟩ : ByteArray), .string (⟨#[]⟩ : ByteArray), .string (⟨#[]⟩ : ByteArray), .string (⟨#[]⟩ : ByteArray)]) ?_ 3 _ rfl; (with_reducible repeat (first | refine blk_drewN ?_ _ | refine blk_drew ?_ | refine blk_alloc ?_ _)); refine blk_put (cs := #[.int .i64 7, .int .i64 0, .int .i64 0, .string (⟨#[]⟩ : ByteArray), .int .i64 0, .int .i64 0, .int .i64 0, .int .i64 0, .int .i64 0, .string (⟨#[]⟩ : ByteArray), .string (⟨#[]⟩ : ByteArray), .string (⟨#[]⟩ : ByteArray), .string (⟨#[]⟩ : ByteArray)]) ?_ 2 _ rfl; (with_reducible repeat (first | refine blk_drewN ?_ _ | refine blk_drew ?_ | refine blk_alloc ?_ _)); refine blk_put (cs := #[.int .i64 7, .int .i64 0, .int .i64 0, .string (⟨#[]⟩ : ByteArray), .int .i64 0, .int .i64 0, .int .i64 0, .int .i64 0, .int .i64 0, .string (⟨#[]⟩ : ByteArray), .string (⟨#[]⟩ : ByteArray), .string (⟨#[]⟩ : ByteArray), .string (⟨#[]⟩ : ByteArray)]) ?_ 1 _ rfl; (with_reducible repeat (first | refine blk_drewN ?_ _ | refine blk_drew ?_ | refine blk_alloc ?_ _)); refine blk_put (cs := #[.int .i64 0, .int .i64 0, .int .i64 0, .string (⟨#[]⟩ : ByteArray), .int .i64 0, .int .i64 0, .int .i64 0, .int .i64 0, .int .i64 0, .string (⟨#[]⟩ : ByteArray), .string (⟨#[]⟩ : ByteArray), .string (⟨#[]⟩ : ByteArray), .string (⟨#[]⟩ : ByteArray)]) ?_ 0 _ rfl; (with_reducible repeat (first | refine blk_drewN ?_ _ | refine blk_drew ?_ | refine blk_alloc ?_ _)); exact BK120.out) hb); have n3_ := Aside0.mk (below_step (by repeat (first | (with_reducible first | exact HB.out | apply below_alloc | apply pw_below_drewN | apply below_drew1 | refine below_set ?_ GE119.out | refine below_set ?_ GE120.out) | exact HB.out)) hb); clear BK119; clear BK120; clear HB; have HO123 := n0_; have BK119 := n1_; have BK120 := n2_; have HB := n3_; clear n0_ n1_ n2_ n3_; clear hb ho20; obtain ⟨Ao21, co21, eo21⟩ := Kd.R_slice HO123.out; subst eo21) | ((with_reducible refine gate_callee (f := 13) rfl ?_); refine goesL_ (some 15) rfl rfl Try.func13 (by kernel_rfl) rfl #[.slice Ao21 y121.length co21] rfl (by (try simp only [List.map_toArray, List.map_cons, List.map_nil]); first | done | rfl | (simp only [List.length_drop, List.length_take]; rfl)) ?_; (with_reducible refine (novate_All.calls _ _ y121 t124 _ ?side1 ?side2 A1.out).mono ?_); (case side1 => repeat (first | exact (Kd.R_reads' HO123.out).2.2 | (with_reducible refine Kd.C_alloc ?_ _) | (with_reducible refine Kd.C_drewN ?_ _) | (with_reducible refine Kd.C_drew ?_))); (case side2 => exact (Kd.R_reads' HO123.out).2.1); rintro e w22 ⟨v125, rfl, ho0, hb⟩; refine ⟨_, rfl, ?_⟩; have n0_ := Aside0.mk (Kd.R_below (by (with_reducible repeat (first | apply Kd.R_alloc | apply Kd.R_drewN | apply Kd.R_drew)); exact HO123.out) hb); have n1_ := Aside0.mk (Kd.R_lower ho0 (below_size (by repeat (first | (with_reducible first | exact HB.out | apply below_alloc | apply pw_below_drewN | apply below_drew1 | refine below_set ?_ GE119.out | refine below_set ?_ GE120.out) | exact HB.out)))); have n2_ := Aside0.mk (blk_below (g := gb119) (o := .cells #[.string (⟨#[111, 105, 108]⟩ : ByteArray), .int .i64 0, .int .i64 10, .int .i64 5, .int .i64 0, .int .i64 100, .bool false] 26 (0, 0)) (by (with_reducible repeat (first | refine blk_drewN ?_ _ | refine blk_drew ?_ | refine blk_alloc ?_ _)); exact BK119.out) hb); have n3_ := Aside0.mk (blk_below (g := gb120) (o := .cells #[.int .i64 7, .int .i64 0, .int .i64 0, .string (⟨#[111, 105, 108]⟩ : ByteArray), .int .i64 1, .int .i64 9576, .int .i64 0, .int .i64 3, .int .i64 50, .string (⟨#[97]⟩ : ByteArray), .string (⟨#[120]⟩ : ByteArray), .string (⟨#[98]⟩ : ByteArray), .string (⟨#[120]⟩ : ByteArray)] 39 (0, 0)) (by (with_reducible repeat (first | refine blk_drewN ?_ _ | refine blk_drew ?_ | refine blk_alloc ?_ _)); exact BK120.out) hb); have n4_ := Aside0.mk (below_step (by repeat (first | (with_reducible first | exact HB.out | apply below_alloc | apply pw_below_drewN | apply below_drew1 | refine below_set ?_ GE119.out | refine below_set ?_ GE120.out) | exact HB.out)) hb); clear HO123; clear BK119; clear BK120; clear HB; have HO123 := n0_; have HO126 := n1_; have BK119 := n2_; have BK120 := n3_; have HB := n4_; clear n0_ n1_ n2_ n3_ n4_; (try clear hb); (try clear hb2); (try clear hk); (try clear hi); (try clear ho0); have hcz23_0 : w22.cell? ⟨gb120, 0, none⟩ = some (.int .i64 7) := (blk_cell BK120.out 0).trans rfl; have hcz23_1 : w22.cell? ⟨gb120, 1, none⟩ = some (.int .i64 0) := (blk_cell BK120.out 1).trans rfl; have hcz23_2 : w22.cell? ⟨gb120, 2, none⟩ = some (.int .i64 0) := (blk_cell BK120.out 2).trans rfl; have hcz23_3 : w22.cell? ⟨gb120, 3, none⟩ = some (.string (⟨#[111, 105, 108]⟩ : ByteArray)) := (blk_cell BK120.out 3).trans rfl; have hcz23_4 : w22.cell? ⟨gb120, 4, none⟩ = some (.int .i64 1) := (blk_cell BK120.out 4).trans rfl; have hcz23_5 : w22.cell? ⟨gb120, 5, none⟩ = some (.int .i64 9576) := (blk_cell BK120.out 5).trans rfl; have hcz23_6 : w22.cell? ⟨gb120, 6, none⟩ = some (.int .i64 0) := (blk_cell BK120.out 6).trans rfl; have hcz23_7 : w22.cell? ⟨gb120, 7, none⟩ = some (.int .i64 3) := (blk_cell BK120.out 7).trans rfl; have hcz23_8 : w22.cell? ⟨gb120, 8, none⟩ = some (.int .i64 50) := (blk_cell BK120.out 8).trans rfl; have hcz23_9 : w22.cell? ⟨gb120, 9, none⟩ = some (.string (⟨#[97]⟩ : ByteArray)) := (blk_cell BK120.out 9).trans rfl; have hcz23_10 : w22.cell? ⟨gb120, 10, none⟩ = some (.string (⟨#[120]⟩ : ByteArray)) := (blk_cell BK120.out 10).trans rfl; have hcz23_11 : w22.cell? ⟨gb120, 11, none⟩ = some (.string (⟨#[98]⟩ : ByteArray)) := (blk_cell BK120.out 11).trans rfl; have hcz23_12 : w22.cell? ⟨gb120, 12, none⟩ = some (.string (⟨#[120]⟩ : ByteArray)) := (blk_cell BK120.out 12).trans rfl; have hfz23_0 := blk_frozen BK120.out 0; have hfz23_1 := blk_frozen BK120.out 1; have hfz23_2 := blk_frozen BK120.out 2; have hfz23_3 := blk_frozen BK120.out 3; have hfz23_4 := blk_frozen BK120.out 4; have hfz23_5 := blk_frozen BK120.out 5; have hfz23_6 := blk_frozen BK120.out 6; have hfz23_7 := blk_frozen BK120.out 7; have hfz23_8 := blk_frozen BK120.out 8; have hfz23_9 := blk_frozen BK120.out 9; have hfz23_10 := blk_frozen BK120.out 10; have hfz23_11 := blk_frozen BK120.out 11; have hfz23_12 := blk_frozen BK120.out 12; have hcz24_0 : w22.cell? ⟨gb119, 0, none⟩ = some (.string (⟨#[111, 105, 108]⟩ : ByteArray)) := (blk_cell BK119.out 0).trans rfl; have hcz24_1 : w22.cell? ⟨gb119, 1, none⟩ = some (.int .i64 0) := (blk_cell BK119.out 1).trans rfl; have hcz24_2 : w22.cell? ⟨gb119, 2, none⟩ = some (.int .i64 10) := (blk_cell BK119.out 2).trans rfl; have hcz24_3 : w22.cell? ⟨gb119, 3, none⟩ = some (.int .i64 5) := (blk_cell BK119.out 3).trans rfl; have hcz24_4 : w22.cell? ⟨gb119, 4, none⟩ = some (.int .i64 0) := (blk_cell BK119.out 4).trans rfl; have hcz24_5 : w22.cell? ⟨gb119, 5, none⟩ = some (.int .i64 100) := (blk_cell BK119.out 5).trans rfl; have hcz24_6 : w22.cell? ⟨gb119, 6, none⟩ = some (.bool false) := (blk_cell BK119.out 6).trans rfl; have hfz24_0 := blk_frozen BK119.out 0; have hfz24_1 := blk_frozen BK119.out 1; have hfz24_2 := blk_frozen BK119.out 2; have hfz24_3 := blk_frozen BK119.out 3; have hfz24_4 := blk_frozen BK119.out 4; have hfz24_5 := blk_frozen BK119.out 5; have hfz24_6 := blk_frozen BK119.out 6; obtain ⟨Ao25, co25, eo25⟩ := Kd.R_slice HO126.out; subst eo25) | ((with_reducible refine gate_callee (f := 9) rfl ?_); refine goesL_ (some 23) rfl rfl Try.func9 (by kernel_rfl) rfl #[.slice Ao25 t124.length co25, .agg #[.string (⟨#[97]⟩ : ByteArray), .string (⟨#[120]⟩ : ByteArray)], .agg #[.string (⟨#[111, 105, 108]⟩ : ByteArray), .int .i64 0, .int .i64 10, .int .i64 5, .int .i64 0, .int .i64 100, .bool false], .agg #[.string (⟨#[111, 105, 108]⟩ : ByteArray), .int .i64 1, .int .i64 9576, .int .i64 0]] rfl (by (try simp only [List.map_toArray, List.map_cons, List.map_nil]); first | done | rfl | (simp only [List.length_drop, List.length_take]; rfl)) ?_; (with_reducible refine (novate_Cost.calls k _ _ t124 (⟨#[97]⟩ : ByteArray) (⟨#[120]⟩ : ByteArray) (⟨#[111, 105, 108]⟩ : ByteArray) 0 10 5 0 100 false (⟨#[111, 105, 108]⟩ : ByteArray) 1 9576 0 t127 t128 _ ?side1 ?side2 A2.out).mono ?_); (case side1 => repeat (first | exact (Kd.R_reads' HO126.out).2.2 | (with_reducible refine Kd.C_alloc ?_ _) | (with_reducible refine Kd.C_drewN ?_ _) | (with_reducible refine Kd.C_drew ?_))); (case side2 => exact (Kd.R_reads' HO126.out).2.1); rintro e w26 ⟨rfl, hb⟩; refine ⟨_, rfl, ?_⟩; have n0_ := Aside0.mk (Kd.R_below (by (with_reducible repeat (first | apply Kd.R_alloc | apply Kd.R_drewN | apply Kd.R_drew)); exact HO123.out) hb); have n1_ := Aside0.mk (Kd.R_below (by (with_reducible repeat (first | apply Kd.R_alloc | apply Kd.R_drewN | apply Kd.R_drew)); exact HO126.out) hb); have n2_ := Aside0.mk (blk_below (g := gb119) (o := .cells #[.string (⟨#[111, 105, 108]⟩ : ByteArray), .int .i64 0, .int .i64 10, .int .i64 5, .int .i64 0, .int .i64 100, .bool false] 26 (0, 0)) (by (with_reducible repeat (first | refine blk_drewN ?_ _ | refine blk_drew ?_ | refine blk_alloc ?_ _)); exact BK119.out) hb); have n3_ := Aside0.mk (blk_below (g := gb120) (o := .cells #[.int .i64 7, .int .i64 0, .int .i64 0, .string (⟨#[111, 105, 108]⟩ : ByteArray), .int .i64 1, .int .i64 9576, .int .i64 0, .int .i64 3, .int .i64 50, .string (⟨#[97]⟩ : ByteArray), .string (⟨#[120]⟩ : ByteArray), .string (⟨#[98]⟩ : ByteArray), .string (⟨#[120]⟩ : ByteArray)] 39 (0, 0)) (by (with_reducible repeat (first | refine blk_drewN ?_ _ | refine blk_drew ?_ | refine blk_alloc ?_ _)); exact BK120.out) hb); have n4_ := Aside0.mk (below_step (by repeat (first | (with_reducible first | exact HB.out | apply below_alloc | apply pw_below_drewN | apply below_drew1 | refine below_set ?_ GE119.out | refine below_set ?_ GE120.out) | exact HB.out)) hb); clear HO123; clear HO126; clear BK119; clear BK120; clear HB; have HO123 := n0_; have HO126 := n1_; have BK119 := n2_; have BK120 := n3_; have HB := n4_; clear n0_ n1_ n2_ n3_ n4_; (try clear hb); (try clear hb2); (try clear hk); (try clear hi); have hcz27_0 : w26.cell? ⟨gb120, 0, none⟩ = some (.int .i64 7) := (blk_cell BK120.out 0).trans rfl; have hcz27_1 : w26.cell? ⟨gb120, 1, none⟩ = some (.int .i64 0) := (blk_cell BK120.out 1).trans rfl; have hcz27_2 : w26.cell? ⟨gb120, 2, none⟩ = some (.int .i64 0) := (blk_cell BK120.out 2).trans rfl; have hcz27_3 : w26.cell? ⟨gb120, 3, none⟩ = some (.string (⟨#[111, 105, 108]⟩ : ByteArray)) := (blk_cell BK120.out 3).trans rfl; have hcz27_4 : w26.cell? ⟨gb120, 4, none⟩ = some (.int .i64 1) := (blk_cell BK120.out 4).trans rfl; have hcz27_5 : w26.cell? ⟨gb120, 5, none⟩ = some (.int .i64 9576) := (blk_cell BK120.out 5).trans rfl; have hcz27_6 : w26.cell? ⟨gb120, 6, none⟩ = some (.int .i64 0) := (blk_cell BK120.out 6).trans rfl; have hcz27_7 : w26.cell? ⟨gb120, 7, none⟩ = some (.int .i64 3) := (blk_cell BK120.out 7).trans rfl; have hcz27_8 : w26.cell? ⟨gb120, 8, none⟩ = some (.int .i64 50) := (blk_cell BK120.out 8).trans rfl; have hcz27_9 : w26.cell? ⟨gb120, 9, none⟩ = some (.string (⟨#[97]⟩ : ByteArray)) := (blk_cell BK120.out 9).trans rfl; have hcz27_10 : w26.cell? ⟨gb120, 10, none⟩ = some (.string (⟨#[120]⟩ : ByteArray)) := (blk_cell BK120.out 10).trans rfl; have hcz27_11 : w26.cell? ⟨gb120, 11, none⟩ = some (.string (⟨#[98]⟩ : ByteArray)) := (blk_cell BK120.out 11).trans rfl; have hcz27_12 : w26.cell? ⟨gb120, 12, none⟩ = some (.string (⟨#[120]⟩ : ByteArray)) := (blk_cell BK120.out 12).trans rfl; have hfz27_0 := blk_frozen BK120.out 0; have hfz27_1 := blk_frozen BK120.out 1; have hfz27_2 := blk_frozen BK120.out 2; have hfz27_3 := blk_frozen BK120.out 3; have hfz27_4 := blk_frozen BK120.out 4; have hfz27_5 := blk_frozen BK120.out 5; have hfz27_6 := blk_frozen BK120.out 6; have hfz27_7 := blk_frozen BK120.out 7; have hfz27_8 := blk_frozen BK120.out 8; have hfz27_9 := blk_frozen BK120.out 9; have hfz27_10 := blk_frozen BK120.out 10; have hfz27_11 := blk_frozen BK120.out 11; have hfz27_12 := blk_frozen BK120.out 12; have hcz28_0 : w26.cell? ⟨gb119, 0, none⟩ = some (.string (⟨#[111, 105, 108]⟩ : ByteArray)) := (blk_cell BK119.out 0).trans rfl; have hcz28_1 : w26.cell? ⟨gb119, 1, none⟩ = some (.int .i64 0) := (blk_cell BK119.out 1).trans rfl; have hcz28_2 : w26.cell? ⟨gb119, 2, none⟩ = some (.int .i64 10) := (blk_cell BK119.out 2).trans rfl; have hcz28_3 : w26.cell? ⟨gb119, 3, none⟩ = some (.int .i64 5) := (blk_cell BK119.out 3).trans rfl; have hcz28_4 : w26.cell? ⟨gb119, 4, none⟩ = some (.int .i64 0) := (blk_cell BK119.out 4).trans rfl; have hcz28_5 : w26.cell? ⟨gb119, 5, none⟩ = some (.int .i64 100) := (blk_cell BK119.out 5).trans rfl; have hcz28_6 : w26.cell? ⟨gb119, 6, none⟩ = some (.bool false) := (blk_cell BK119.out 6).trans rfl; have hfz28_0 := blk_frozen BK119.out 0; have hfz28_1 := blk_frozen BK119.out 1; have hfz28_2 := blk_frozen BK119.out 2; have hfz28_3 := blk_frozen BK119.out 3; have hfz28_4 := blk_frozen BK119.out 4; have hfz28_5 := blk_frozen BK119.out 5; have hfz28_6 := blk_frozen BK119.out 6) | ((with_reducible refine gate_callee (f := 9) rfl ?_); refine goesL_ (some 33) rfl rfl Try.func9 (by kernel_rfl) rfl #[.slice Ao25 t124.length co25, .agg #[.string (⟨#[98]⟩ : ByteArray), .string (⟨#[120]⟩ : ByteArray)], .agg #[.string (⟨#[111, 105, 108]⟩ : ByteArray), .int .i64 0, .int .i64 10, .int .i64 5, .int .i64 0, .int .i64 100, .bool false], .agg #[.string (⟨#[111, 105, 108]⟩ : ByteArray), .int .i64 1, .int .i64 9576, .int .i64 0]] rfl (by (try simp only [List.map_toArray, List.map_cons, List.map_nil]); first | done | rfl | (simp only [List.length_drop, List.length_take]; rfl)) ?_; (with_reducible refine (novate_Cost.calls k _ _ t124 (⟨#[98]⟩ : ByteArray) (⟨#[120]⟩ : ByteArray) (⟨#[111, 105, 108]⟩ : ByteArray) 0 10 5 0 100 false (⟨#[111, 105, 108]⟩ : ByteArray) 1 9576 0 t129 t130 _ ?side1 ?side2 A3.out).mono ?_); (case side1 => repeat (first | exact (Kd.R_reads' HO126.out).2.2 | (with_reducible refine Kd.C_alloc ?_ _) | (with_reducible refine Kd.C_drewN ?_ _) | (with_reducible refine Kd.C_drew ?_))); (case side2 => exact (Kd.R_reads' HO126.out).2.1); rintro e w29 ⟨rfl, hb⟩; refine ⟨_, rfl, ?_⟩; have n0_ := Aside0.mk (Kd.R_below (by (with_reducible repeat (first | apply Kd.R_alloc | apply Kd.R_drewN | apply Kd.R_drew)); exact HO123.out) hb); have n1_ := Aside0.mk (Kd.R_below (by (with_reducible repeat (first | apply Kd.R_alloc | apply Kd.R_drewN | apply Kd.R_drew)); exact HO126.out) hb); have n2_ := Aside0.mk (blk_below (g := gb119) (o := .cells #[.string (⟨#[111, 105, 108]⟩ : ByteArray), .int .i64 0, .int .i64 10, .int .i64 5, .int .i64 0, .int .i64 100, .bool false] 26 (0, 0)) (by (with_reducible repeat (first | refine blk_drewN ?_ _ | refine blk_drew ?_ | refine blk_alloc ?_ _)); exact BK119.out) hb); have n3_ := Aside0.mk (blk_below (g := gb120) (o := .cells #[.int .i64 7, .int .i64 0, .int .i64 0, .string (⟨#[111, 105, 108]⟩ : ByteArray), .int .i64 1, .int .i64 9576, .int .i64 0, .int .i64 3, .int .i64 50, .string (⟨#[97]⟩ : ByteArray), .string (⟨#[120]⟩ : ByteArray), .string (⟨#[98]⟩ : ByteArray), .string (⟨#[120]⟩ : ByteArray)] 39 (0, 0)) (by (with_reducible repeat (first | refine blk_drewN ?_ _ | refine blk_drew ?_ | refine blk_alloc ?_ _)); exact BK120.out) hb); have n4_ := Aside0.mk (below_step (by repeat (first | (with_reducible first | exact HB.out | apply below_alloc | apply pw_below_drewN | apply below_drew1 | refine below_set ?_ GE119.out | refine below_set ?_ GE120.out) | exact HB.out)) hb); clear HO123; clear HO126; clear BK119; clear BK120; clear HB; have HO123 := n0_; have HO126 := n1_; have BK119 := n2_; have BK120 := n3_; have HB := n4_; clear n0_ n1_ n2_ n3_ n4_; (try clear hb); (try clear hb2); (try clear hk); (try clear hi); have p131 : 0 ≤ (0 : Int) := (by omega); have q131 : 0 < (t124.length : Int) := of_decide_eq_true (by first | (with_reducible assumption) | assumption); obtain ⟨ad131, e131, hx131_0, hx131_1, hx131_2, hx131_3, hx131_4, hx131_5, hx131_6, hx131_7, hx131_8⟩ := at_T41 (Kd.R_reads' HO126.out).2.2 0 p131 q131; cases e131; have qi131 : (0 < t124.length) = True := eq_true (by omega); (try rw [show ((0 : Int)).toNat = 0 from rfl] at hx131_0); (try rw [show 0 * 9 = 0 from rfl] at hx131_0); (try rw [Addr.add_zero'] at hx131_0); (try rw [show ((0 : Int)).toNat = 0 from rfl] at hx131_1); (try rw [show 0 * 9 = 0 from rfl] at hx131_1); (try rw [Addr.add_zero'] at hx131_1); (try rw [show ((0 : Int)).toNat = 0 from rfl] at hx131_2); (try rw [show 0 * 9 = 0 from rfl] at hx131_2); (try rw [Addr.add_zero'] at hx131_2); (try rw [show ((0 : Int)).toNat = 0 from rfl] at hx131_3); (try rw [show 0 * 9 = 0 from rfl] at hx131_3); (try rw [Addr.add_zero'] at hx131_3); (try rw [show ((0 : Int)).toNat = 0 from rfl] at hx131_4); (try rw [show 0 * 9 = 0 from rfl] at hx131_4); (try rw [Addr.add_zero'] at hx131_4); (try rw [show ((0 : Int)).toNat = 0 from rfl] at hx131_5); (try rw [show 0 * 9 = 0 from rfl] at hx131_5); (try rw [Addr.add_zero'] at hx131_5); (try rw [show ((0 : Int)).toNat = 0 from rfl] at hx131_6); (try rw [show 0 * 9 = 0 from rfl] at hx131_6); (try rw [Addr.add_zero'] at hx131_6); (try rw [show ((0 : Int)).toNat = 0 from rfl] at hx131_7); (try rw [show 0 * 9 = 0 from rfl] at hx131_7); (try rw [Addr.add_zero'] at hx131_7); (try rw [show ((0 : Int)).toNat = 0 from rfl] at hx131_8); (try rw [show 0 * 9 = 0 from rfl] at hx131_8); (try rw [Addr.add_zero'] at hx131_8); replace p131 := eq_true p131; replace q131 := eq_true q131; have p132 : 0 ≤ (1 : Int) := (by omega); have q132 : 1 < (t124.length : Int) := of_decide_eq_true (by first | (with_reducible assumption) | assumption); obtain ⟨ad132, e132, hx132_0, hx132_1, hx132_2, hx132_3, hx132_4, hx132_5, hx132_6, hx132_7, hx132_8⟩ := at_T41 (Kd.R_reads' HO126.out).2.2 1 p132 q132; obtain rfl : ad131 = ad132 := (by injection e132); (try simp only [show (1 : Int).toNat = 1 from rfl, Nat.reduceMul, Nat.reduceEqDiff, Go.Addr.add, ↓reduceIte] at hx132_0); (try simp only [show (1 : Int).toNat = 1 from rfl, Nat.reduceMul, Nat.reduceEqDiff, Go.Addr.add, ↓reduceIte] at hx132_1); (try simp only [show (1 : Int).toNat = 1 from rfl, Nat.reduceMul, Nat.reduceEqDiff, Go.Addr.add, ↓reduceIte] at hx132_2); (try simp only [show (1 : Int).toNat = 1 from rfl, Nat.reduceMul, Nat.reduceEqDiff, Go.Addr.add, ↓reduceIte] at hx132_3); (try simp only [show (1 : Int).toNat = 1 from rfl, Nat.reduceMul, Nat.reduceEqDiff, Go.Addr.add, ↓reduceIte] at hx132_4); (try simp only [show (1 : Int).toNat = 1 from rfl, Nat.reduceMul, Nat.reduceEqDiff, Go.Addr.add, ↓reduceIte] at hx132_5); (try simp only [show (1 : Int).toNat = 1 from rfl, Nat.reduceMul, Nat.reduceEqDiff, Go.Addr.add, ↓reduceIte] at hx132_6); (try simp only [show (1 : Int).toNat = 1 from rfl, Nat.reduceMul, Nat.reduceEqDiff, Go.Addr.add, ↓reduceIte] at hx132_7); (try simp only [show (1 : Int).toNat = 1 from rfl, Nat.reduceMul, Nat.reduceEqDiff, Go.Addr.add, ↓reduceIte] at hx132_8); have qi132 : (1 < t124.length) = True := eq_true (by omega); (try rw [show ((1 : Int)).toNat = 1 from rfl] at hx132_0); (try rw [show 1 * 9 = 9 from rfl] at hx132_0); (try rw [show ((1 : Int)).toNat = 1 from rfl] at hx132_1); (try rw [show 1 * 9 = 9 from rfl] at hx132_1); (try rw [show ((1 : Int)).toNat = 1 from rfl] at hx132_2); (try rw [show 1 * 9 = 9 from rfl] at hx132_2); (try rw [show ((1 : Int)).toNat = 1 from rfl] at hx132_3); (try rw [show 1 * 9 = 9 from rfl] at hx132_3); (try rw [show ((1 : Int)).toNat = 1 from rfl] at hx132_4); (try rw [show 1 * 9 = 9 from rfl] at hx132_4); (try rw [show ((1 : Int)).toNat = 1 from rfl] at hx132_5); (try rw [show 1 * 9 = 9 from rfl] at hx132_5); (try rw [show ((1 : Int)).toNat = 1 from rfl] at hx132_6); (try rw [show 1 * 9 = 9 from rfl] at hx132_6); (try rw [show ((1 : Int)).toNat = 1 from rfl] at hx132_7); (try rw [show 1 * 9 = 9 from rfl] at hx132_7); (try rw [show ((1 : Int)).toNat = 1 from rfl] at hx132_8); (try rw [show 1 * 9 = 9 from rfl] at hx132_8); replace p132 := eq_true p132; replace q132 := eq_true q132) | (go_at_call 22; (with_reducible refine (novate_Flat.calls _ _ t124 t133 _ ?side1 ?side2 A13.out).mono ?_); (case side1 => repeat (first | exact (Kd.R_reads' HO126.out).2.2 | (with_reducible refine Kd.C_alloc ?_ _) | (with_reducible refine Kd.C_drewN ?_ _) | (with_reducible refine Kd.C_drew ?_))); (case side2 => exact (Kd.R_reads' HO126.out).2.1); rintro e w30 ⟨rfl, hb⟩; have n0_ := Aside0.mk (Kd.R_below (by (with_reducible repeat (first | apply Kd.R_alloc | apply Kd.R_drewN | apply Kd.R_drew)); exact HO123.out) hb); have n1_ := Aside0.mk (Kd.R_below (by (with_reducible repeat (first | apply Kd.R_alloc | apply Kd.R_drewN | apply Kd.R_drew)); exact HO126.out) hb); have n2_ := Aside0.mk (blk_below (g := gb119) (o := .cells #[.string (⟨#[111, 105, 108]⟩ : ByteArray), .int .i64 0, .int .i64 10, .int .i64 5, .int .i64 0, .int .i64 100, .bool false] 26 (0, 0)) (by (with_reducible repeat (first | refine blk_drewN ?_ _ | refine blk_drew ?_ | refine blk_alloc ?_ _)); exact BK119.out) hb); have n3_ := Aside0.mk (blk_below (g := gb120) (o := .cells #[.int .i64 7, .int .i64 0, .int .i64 0, .string (⟨#[111, 105, 108]⟩ : ByteArray), .int .i64 1, .int .i64 9576, .int .i64 0, .int .i64 3, .int .i64 50, .string (⟨#[97]⟩ : ByteArray), .string (⟨#[120]⟩ : ByteArray), .string (⟨#[98]⟩ : ByteArray), .string (⟨#[120]⟩ : ByteArray)] 39 (0, 0)) (by (with_reducible repeat (first | refine blk_drewN ?_ _ | refine blk_drew ?_ | refine blk_alloc ?_ _)); exact BK120.out) hb); have n4_ := Aside0.mk (below_step (by repeat (first | (with_reducible first | exact HB.out | apply below_alloc | apply pw_below_drewN | apply below_drew1 | refine below_set ?_ GE119.out | refine below_set ?_ GE120.out) | exact HB.out)) hb); clear HO123; clear HO126; clear BK119; clear BK120; clear HB; have HO123 := n0_; have HO126 := n1_; have BK119 := n2_; have BK120 := n3_; have HB := n4_; clear n0_ n1_ n2_ n3_ n4_; (try clear hb); (try clear hb2); (try clear hk); (try clear hi)))
                    go_ret
                    exact ⟨by first | rfl | (simp [errW_none, errW_some] <;> rfl) | (simp [*, errW_none, errW_some] <;> rfl), by repeat (first | (with_reducible first | exact HB.out | apply below_alloc | apply pw_below_drewN | apply below_drew1 | refine below_set ?_ GE119.out | refine below_set ?_ GE120.out) | exact HB.out)⟩
                  · rw [if_neg c12] at H
                    exact absurd H (by simp)
                · rw [if_neg c11] at H
                  exact absurd H (by simp)
              · rw [if_neg c10] at H
                exact absurd H (by simp)
            · rw [if_neg c9] at H
              exact absurd H (by simp)
          · rw [if_neg c8] at H
            exact absurd H (by simp)
        · rw [if_neg c7] at H
          exact absurd H (by simp)
      · rw [if_neg c6] at H
        exact absurd H (by simp)
    · rw [if_neg c5] at H
      exact absurd H (by simp)
  · rw [if_neg c4] at H
    exact absurd H (by simp)

/-! ### novate_Undo: function 14 -/
def novate_Undo.f (a0_0 : ByteArray) (a0_1 : ByteArray) (a0_2 : ByteArray) (a0_3 : Int) (a0_4 : Int) (a0_5 : Int) (a0_6 : Int) (a0_7 : Int) (a0_8 : Int) : Option (ByteArray × ByteArray × ByteArray × Int × Int × Int × Int × Int × Int) := some (a0_0, a0_1, a0_2, a0_3, a0_4, a0_5, wrap64 (-a0_6), a0_7, a0_8)
set_option maxHeartbeats 8000000 in
set_option maxRecDepth 100000 in
theorem novate_Undo.calls (a0_0 : ByteArray) (a0_1 : ByteArray) (a0_2 : ByteArray) (a0_3 : Int) (a0_4 : Int) (a0_5 : Int) (a0_6 : Int) (a0_7 : Int) (a0_8 : Int) (r1 : ByteArray) (r2 : ByteArray) (r3 : ByteArray) (r4 : Int) (r5 : Int) (r6 : Int) (r7 : Int) (r8 : Int) (r9 : Int) (w : World) (h : novate_Undo.f a0_0 a0_1 a0_2 a0_3 a0_4 a0_5 a0_6 a0_7 a0_8 = some (r1, r2, r3, r4, r5, r6, r7, r8, r9)) :
    Calls Try.prog 14 #[.agg #[.string a0_0, .string a0_1, .string a0_2, .int .i64 a0_3, .int .i64 a0_4, .int .i64 a0_5, .int .i64 a0_6, .int .i64 a0_7, .int .i64 a0_8]] w fun e w' => e = .returned (.agg #[.string r1, .string r2, .string r3, .int .i64 r4, .int .i64 r5, .int .i64 r6, .int .i64 r7, .int .i64 r8, .int .i64 r9]) ∧ Below w.heap.size w w' := by
  have hu41 := Try.underlying41
  have HB := Aside0.mk (Below.refl w.heap.size w)
  have H : (some (a0_0, a0_1, a0_2, a0_3, a0_4, a0_5, wrap64 (-a0_6), a0_7, a0_8)) = some (r1, r2, r3, r4, r5, r6, r7, r8, r9) := h
  clear h
  simp only [Option.some.injEq, Prod.mk.injEq] at H
  obtain ⟨rfl, rfl, rfl, rfl, rfl, rfl, rfl, rfl, rfl⟩ := H
  go_enter Try.func14, Try.ntmps14
  go_wp2_with (first | ((with_reducible refine gate_dst (N := 1) rfl ?_); refine box_event ?hg (N := 1) ?hd (cs := #[.string a0_0, .string a0_1, .string a0_2, .int .i64 a0_3, .int .i64 a0_4, .int .i64 a0_5, .int .i64 a0_6, .int .i64 a0_7, .int .i64 a0_8]) (t := 41) ?hr ?_; (case hd => rfl); (case hg => rfl); (case hr => first | (go_simp; done) | (go_simp; rfl)); intro gb134 hg w2 hbox hb; have n0_ := Aside0.mk (below_step (by repeat (first | (with_reducible first | exact HB.out | apply below_alloc | apply pw_below_drewN | apply below_drew1) | exact HB.out)) hb); have n1_ := Aside0.mk (hbox); have n2_ := Aside0.mk ((by rw [hg]; exact (below_size (by repeat (first | (with_reducible first | exact HB.out | apply below_alloc | apply pw_below_drewN | apply below_drew1) | exact HB.out))) : w.heap.size ≤ gb134)); have n3_ := Aside0.mk ((by rw [hg]; exact (below_size (by repeat (first | (with_reducible first | exact HB.out | apply below_alloc | apply pw_below_drewN | apply below_drew1) | exact HB.out))) : w.heap.size ≤ gb134)); clear HB; have HB := n0_; have BK134 := n1_; have GW134 := n2_; have GE134 := n3_; clear n0_ n1_ n2_ n3_; clear hb hbox hg) | ((with_reducible refine gate_dst (N := 2) rfl ?_); refine box_event ?hg (N := 2) ?hd (cs := #[.string (⟨#[]⟩ : ByteArray), .string (⟨#[]⟩ : ByteArray), .string (⟨#[]⟩ : ByteArray), .int .i64 0, .int .i64 0, .int .i64 0, .int .i64 0, .int .i64 0, .int .i64 0]) (t := 41) ?hr ?_; (case hd => rfl); (case hg => rfl); (case hr => first | (go_simp; done) | (go_simp; rfl)); intro gb135 hg w3 hbox hb; have n0_ := Aside0.mk (blk_below (g := gb134) (o := .cells #[.string a0_0, .string a0_1, .string a0_2, .int .i64 a0_3, .int .i64 a0_4, .int .i64 a0_5, .int .i64 a0_6, .int .i64 a0_7, .int .i64 a0_8] 41 (0, 0)) (by (with_reducible repeat (first | refine blk_drewN ?_ _ | refine blk_drew ?_ | refine blk_alloc ?_ _)); exact BK134.out) hb); have n1_ := Aside0.mk (below_step (by repeat (first | (with_reducible first | exact HB.out | apply below_alloc | apply pw_below_drewN | apply below_drew1 | refine below_set ?_ GE134.out) | exact HB.out)) hb); have n2_ := Aside0.mk (hbox); have n3_ := Aside0.mk ((by rw [hg]; exact (below_size (by repeat (first | (with_reducible first | exact HB.out | apply below_alloc | apply pw_below_drewN | apply below_drew1 | refine below_set ?_ GE134.out) | exact HB.out))) : w.heap.size ≤ gb135)); have n4_ := Aside0.mk ((by rw [hg]; exact (below_size (by repeat (first | (with_reducible first | exact HB.out | apply below_alloc | apply pw_below_drewN | apply below_drew1 | refine below_set ?_ GE134.out) | exact HB.out))) : w.heap.size ≤ gb135)); have n5_ := Aside0.mk ((by rw [hg]; exact Nat.ne_of_lt (blk_lt (g := gb134) (o := .cells #[.string a0_0, .string a0_1, .string a0_2, .int .i64 a0_3, .int .i64 a0_4, .int .i64 a0_5, .int .i64 a0_6, .int .i64 a0_7, .int .i64 a0_8] 41 (0, 0)) (by (with_reducible repeat (first | refine blk_drewN ?_ _ | refine blk_drew ?_ | refine blk_alloc ?_ _)); exact BK134.out)) : gb134 ≠ gb135)); have n6_ := Aside0.mk ((by rw [hg]; exact Nat.ne_of_gt (blk_lt (g := gb134) (o := .cells #[.string a0_0, .string a0_1, .string a0_2, .int .i64 a0_3, .int .i64 a0_4, .int .i64 a0_5, .int .i64 a0_6, .int .i64 a0_7, .int .i64 a0_8] 41 (0, 0)) (by (with_reducible repeat (first | refine blk_drewN ?_ _ | refine blk_drew ?_ | refine blk_alloc ?_ _)); exact BK134.out)) : gb135 ≠ gb134)); clear BK134; clear HB; have BK134 := n0_; have HB := n1_; have BK135 := n2_; have GW135 := n3_; have GE135 := n4_; have NB134_135 := n5_; have NB135_134 := n6_; clear n0_ n1_ n2_ n3_ n4_ n5_ n6_; clear hb hbox hg; have hnb4 := NB134_135.out; have hnc4 := NB135_134.out; have hcz5_0 : w3.cell? ⟨gb134, 0, none⟩ = some (.string a0_0) := (blk_cell BK134.out 0).trans rfl; have hcz5_1 : w3.cell? ⟨gb134, 1, none⟩ = some (.string a0_1) := (blk_cell BK134.out 1).trans rfl; have hcz5_2 : w3.cell? ⟨gb134, 2, none⟩ = some (.string a0_2) := (blk_cell BK134.out 2).trans rfl; have hcz5_3 : w3.cell? ⟨gb134, 3, none⟩ = some (.int .i64 a0_3) := (blk_cell BK134.out 3).trans rfl; have hcz5_4 : w3.cell? ⟨gb134, 4, none⟩ = some (.int .i64 a0_4) := (blk_cell BK134.out 4).trans rfl; have hcz5_5 : w3.cell? ⟨gb134, 5, none⟩ = some (.int .i64 a0_5) := (blk_cell BK134.out 5).trans rfl; have hcz5_6 : w3.cell? ⟨gb134, 6, none⟩ = some (.int .i64 a0_6) := (blk_cell BK134.out 6).trans rfl; have hcz5_7 : w3.cell? ⟨gb134, 7, none⟩ = some (.int .i64 a0_7) := (blk_cell BK134.out 7).trans rfl; have hcz5_8 : w3.cell? ⟨gb134, 8, none⟩ = some (.int .i64 a0_8) := (blk_cell BK134.out 8).trans rfl; have hfz5_0 := blk_frozen BK134.out 0; have hfz5_1 := blk_frozen BK134.out 1; have hfz5_2 := blk_frozen BK134.out 2; have hfz5_3 := blk_frozen BK134.out 3; have hfz5_4 := blk_frozen BK134.out 4; have hfz5_5 := blk_frozen BK134.out 5; have hfz5_6 := blk_frozen BK134.out 6; have hfz5_7 := blk_frozen BK134.out 7; have hfz5_8 := blk_frozen BK134.out 8; have hcz6_0 : w3.cell? ⟨gb135, 0, none⟩ = some (.string (⟨#[]⟩ : ByteArray)) := (blk_cell BK135.out 0).trans rfl; have hcz6_1 : w3.cell? ⟨gb135, 1, none⟩ = some (.string (⟨#[]⟩ : ByteArray)) := (blk_cell BK135.out 1).trans rfl; have hcz6_2 : w3.cell? ⟨gb135, 2, none⟩ = some (.string (⟨#[]⟩ : ByteArray)) := (blk_cell BK135.out 2).trans rfl; have hcz6_3 : w3.cell? ⟨gb135, 3, none⟩ = some (.int .i64 0) := (blk_cell BK135.out 3).trans rfl; have hcz6_4 : w3.cell? ⟨gb135, 4, none⟩ = some (.int .i64 0) := (blk_cell BK135.out 4).trans rfl; have hcz6_5 : w3.cell? ⟨gb135, 5, none⟩ = some (.int .i64 0) := (blk_cell BK135.out 5).trans rfl; have hcz6_6 : w3.cell? ⟨gb135, 6, none⟩ = some (.int .i64 0) := (blk_cell BK135.out 6).trans rfl; have hcz6_7 : w3.cell? ⟨gb135, 7, none⟩ = some (.int .i64 0) := (blk_cell BK135.out 7).trans rfl; have hcz6_8 : w3.cell? ⟨gb135, 8, none⟩ = some (.int .i64 0) := (blk_cell BK135.out 8).trans rfl; have hfz6_0 := blk_frozen BK135.out 0; have hfz6_1 := blk_frozen BK135.out 1; have hfz6_2 := blk_frozen BK135.out 2; have hfz6_3 := blk_frozen BK135.out 3; have hfz6_4 := blk_frozen BK135.out 4; have hfz6_5 := blk_frozen BK135.out 5; have hfz6_6 := blk_frozen BK135.out 6; have hfz6_7 := blk_frozen BK135.out 7; have hfz6_8 := blk_frozen BK135.out 8))
  refine bodyPost_ret (results_cell_row rfl _ _ gb135 41 #[.string a0_0, .string a0_1, .string a0_2, .int .i64 a0_3, .int .i64 a0_4, .int .i64 a0_5, .int .i64 (wrap64 (-a0_6)), .int .i64 a0_7, .int .i64 a0_8] (0, 0) _ rfl (by (with_reducible repeat (first | refine blk_drewN ?_ _ | refine blk_drew ?_ | refine blk_alloc ?_ _)); refine blk_put (cs := #[.string a0_0, .string a0_1, .string a0_2, .int .i64 a0_3, .int .i64 a0_4, .int .i64 a0_5, .int .i64 (wrap64 (-a0_6)), .int .i64 a0_7, .int .i64 0]) ?_ 8 _ rfl; (with_reducible repeat (first | refine blk_drewN ?_ _ | refine blk_drew ?_ | refine blk_alloc ?_ _)); refine blk_put (cs := #[.string a0_0, .string a0_1, .string a0_2, .int .i64 a0_3, .int .i64 a0_4, .int .i64 a0_5, .int .i64 (wrap64 (-a0_6)), .int .i64 0, .int .i64 0]) ?_ 7 _ rfl; (with_reducible repeat (first | refine blk_drewN ?_ _ | refine blk_drew ?_ | refine blk_alloc ?_ _)); refine blk_put (cs := #[.string a0_0, .string a0_1, .string a0_2, .int .i64 a0_3, .int .i64 a0_4, .int .i64 a0_5, .int .i64 0, .int .i64 0, .int .i64 0]) ?_ 6 _ rfl; (with_reducible repeat (first | refine blk_drewN ?_ _ | refine blk_drew ?_ | refine blk_alloc ?_ _)); refine blk_put (cs := #[.string a0_0, .string a0_1, .string a0_2, .int .i64 a0_3, .int .i64 a0_4, .int .i64 0, .int .i64 0, .int .i64 0, .int .i64 0]) ?_ 5 _ rfl; (with_reducible repeat (first | refine blk_drewN ?_ _ | refine blk_drew ?_ | refine blk_alloc ?_ _)); refine blk_put (cs := #[.string a0_0, .string a0_1, .string a0_2, .int .i64 a0_3, .int .i64 0, .int .i64 0, .int .i64 0, .int .i64 0, .int .i64 0]) ?_ 4 _ rfl; (with_reducible repeat (first | refine blk_drewN ?_ _ | refine blk_drew ?_ | refine blk_alloc ?_ _)); refine blk_put (cs := #[.string a0_0, .string a0_1, .string a0_2, .int .i64 0, .int .i64 0, .int .i64 0, .int .i64 0, .int .i64 0, .int .i64 0]) ?_ 3 _ rfl; (with_reducible repeat (first | refine blk_drewN ?_ _ | refine blk_drew ?_ | refine blk_alloc ?_ _)); refine blk_put (cs := #[.string a0_0, .string a0_1, .string (⟨#[]⟩ : ByteArray), .int .i64 0, .int .i64 0, .int .i64 0, .int .i64 0, .int .i64 0, .int .i64 0]) ?_ 2 _ rfl; (with_reducible repeat (first | refine blk_drewN ?_ _ | refine blk_drew ?_ | refine blk_alloc ?_ _)); refine blk_put (cs := #[.string a0_0, .string (⟨#[]⟩ : ByteArray), .string (⟨#[]⟩ : ByteArray), .int .i64 0, .int .i64 0, .int .i64 0, .int .i64 0, .int .i64 0, .int .i64 0]) ?_ 1 _ rfl; (with_reducible repeat (first | refine blk_drewN ?_ _ | refine blk_drew ?_ | refine blk_alloc ?_ _)); refine blk_put (cs := #[.string (⟨#[]⟩ : ByteArray), .string (⟨#[]⟩ : ByteArray), .string (⟨#[]⟩ : ByteArray), .int .i64 0, .int .i64 0, .int .i64 0, .int .i64 0, .int .i64 0, .int .i64 0]) ?_ 0 _ rfl; (with_reducible repeat (first | refine blk_drewN ?_ _ | refine blk_drew ?_ | refine blk_alloc ?_ _)); refine blk_far ?_ NB135_134.out _; (with_reducible repeat (first | refine blk_drewN ?_ _ | refine blk_drew ?_ | refine blk_alloc ?_ _)); exact BK135.out) Try.underlying41 rfl (by kernel_rfl)) rfl ?_
  exact ⟨by first | rfl | (simp [errW_none, errW_some] <;> rfl) | (simp [*, errW_none, errW_some] <;> rfl), by repeat (first | (with_reducible first | exact HB.out | apply below_alloc | apply pw_below_drewN | apply below_drew1 | refine below_set ?_ GE134.out | refine below_set ?_ GE135.out) | exact HB.out)⟩

/-! ### novate_lots: function 35 -/
def novate_lots.l0 : Nat → Int → List (S41) → Int → Int → Option (Int)
  | 0, _, _, _, _ => none
  | k + 1, x2, x5, x6, x7 => if x7 < x6 then (if 0 ≤ x7 then (if x7 < (x5.length : Int) then (novate_lots.l0 k (wrap64 (x2 + ((rd_T41 x5 x7).f2))) x5 x6 (wrap64 (x7 + 1))) else (none)) else (none)) else (some x2)
def novate_lots.f (k : Nat) (l0 : List (S41)) : Option (Int) := novate_lots.l0 k 0 l0 (l0.length : Int) 0
theorem novate_lots.mono_l : ∀ k, (∀ y0 y1 y2 y3, LeO (novate_lots.l0 k y0 y1 y2 y3) (novate_lots.l0 (k + 1) y0 y1 y2 y3))
  | 0 => fun _ _ _ _ r h => by simp [novate_lots.l0] at h
  | k + 1 => by
    have ih0 := novate_lots.mono_l k
    · intro y0 y1 y2 y3
      unfold novate_lots.l0
      repeat' first
      | (with_reducible exact ih0 _ _ _ _)
      | (with_reducible exact LeO.refl _)
      | (with_reducible exact LeO.none _)
      | (with_reducible refine LeO.ite ?_ ?_)
      | (with_reducible refine LeO.bind ?_ (fun _ => ?_))
      | exact ih0 _ _ _ _
      | exact LeO.none _
      | refine LeO.ite ?_ ?_
      | refine LeO.bind ?_ (fun _ => ?_)
theorem novate_lots.mono : ∀ a0 k, LeO (novate_lots.f k a0) (novate_lots.f (k + 1) a0) := by
  intro a0 k
  have ih0 := novate_lots.mono_l k
  unfold novate_lots.f
  repeat' first
      | (with_reducible exact ih0 _ _ _ _)
      | (with_reducible exact LeO.refl _)
      | (with_reducible exact LeO.none _)
      | (with_reducible refine LeO.ite ?_ ?_)
      | (with_reducible refine LeO.bind ?_ (fun _ => ?_))
      | exact ih0 _ _ _ _
      | exact LeO.none _
      | refine LeO.ite ?_ ?_
      | refine LeO.bind ?_ (fun _ => ?_)
set_option maxHeartbeats 8000000 in
set_option maxRecDepth 100000 in
theorem novate_lots.calls (k : Nat) (A0 : Option Addr) (c0 : Nat) (l0 : List (S41)) (r : Int) (w : World) (hr0 : Kd.C k41 w A0 l0.length l0) (hc0 : l0.length ≤ c0) (h : novate_lots.f k l0 = some r) :
    Calls Try.prog 35 #[.slice A0 l0.length c0] w fun e w' => e = .returned (.int .i64 r) ∧ Below w.heap.size w w' := by
  have hu41 := Try.underlying41
  have HR0 := Aside0.mk hr0
  have HC0 := Aside0.mk hc0
  clear hr0 hc0
  have HB := Aside0.mk (Below.refl w.heap.size w)
  have H : (novate_lots.l0 k 0 l0 (l0.length : Int) 0) = some r := h
  clear h
  have H' := Aside0.mk H
  clear H
  go_enter Try.func35, Try.ntmps35
  go_wp2
  go_loopg [2, 7] k (fun kq v2 v7 w' => ∃ (x2_1 : Int) (x7_1 : Int), v2 = .int .i64 x2_1 ∧ v7 = .int .i64 x7_1 ∧ Aside0 (novate_lots.l0 kq x2_1 l0 (l0.length : Int) x7_1 = some r) ∧ Aside0 (kq ≤ k) ∧ Aside0 (Below w.heap.size w w'))
  case atStart => exact ⟨(0), (0), (by first | rfl | (simp; done) | (simp [*]; done)), (by first | rfl | (simp; done) | (simp [*]; done)), H', ⟨Nat.le_refl _⟩, ⟨by repeat (first | (with_reducible first | exact HB.out | apply below_alloc | apply pw_below_drewN | apply below_drew1) | exact HB.out)⟩⟩
  case round =>
    clear H'
    obtain ⟨x2_1, x7_1, rfl, rfl, HA, HK1, HB⟩ := hrel
    cases gk with
    | zero => exact absurd HA.out (by simp [novate_lots.l0])
    | succ k1 =>
      have H := HA.out
      clear HA
      simp only [novate_lots.l0] at H
      by_cases c2 : x7_1 < (l0.length : Int)
      · rw [if_pos c2] at H
        have c2b0 : decide (x7_1 < (l0.length : Int)) = true := decide_eq_true c2
        clear c2
        by_cases c3 : 0 ≤ x7_1
        · rw [if_pos c3] at H
          have c3b0 : decide (0 ≤ x7_1) = true := decide_eq_true c3
          clear c3
          by_cases c4 : x7_1 < (l0.length : Int)
          · rw [if_pos c4] at H
            have c4b0 : decide (x7_1 < (l0.length : Int)) = true := decide_eq_true c4
            clear c4
            have H' := Aside0.mk H
            clear H
            have p136 : 0 ≤ (x7_1 : Int) := of_decide_eq_true (by first | (with_reducible assumption) | assumption)
            have q136 : x7_1 < (l0.length : Int) := of_decide_eq_true (by first | (with_reducible assumption) | assumption)
            obtain ⟨ad136, e136, hx136_0, hx136_1, hx136_2, hx136_3, hx136_4, hx136_5, hx136_6, hx136_7, hx136_8⟩ := at_T41 HR0.out x7_1 p136 q136
            cases e136
            replace hx136_0 := (HB.out.cell (World.block_lt_of_cell? w _ hx136_0)).trans hx136_0
            replace hx136_1 := (HB.out.cell (World.block_lt_of_cell? w _ hx136_1)).trans hx136_1
            replace hx136_2 := (HB.out.cell (World.block_lt_of_cell? w _ hx136_2)).trans hx136_2
            replace hx136_3 := (HB.out.cell (World.block_lt_of_cell? w _ hx136_3)).trans hx136_3
            replace hx136_4 := (HB.out.cell (World.block_lt_of_cell? w _ hx136_4)).trans hx136_4
            replace hx136_5 := (HB.out.cell (World.block_lt_of_cell? w _ hx136_5)).trans hx136_5
            replace hx136_6 := (HB.out.cell (World.block_lt_of_cell? w _ hx136_6)).trans hx136_6
            replace hx136_7 := (HB.out.cell (World.block_lt_of_cell? w _ hx136_7)).trans hx136_7
            replace hx136_8 := (HB.out.cell (World.block_lt_of_cell? w _ hx136_8)).trans hx136_8
            replace p136 := eq_true p136
            replace q136 := eq_true q136
            go_wp2_with (first | ((with_reducible refine gate_dst (N := 4) rfl ?_); refine box_event ?hg (N := 4) ?hd (cs := #[.string (⟨#[]⟩ : ByteArray), .string (⟨#[]⟩ : ByteArray), .string (⟨#[]⟩ : ByteArray), .int .i64 0, .int .i64 0, .int .i64 0, .int .i64 0, .int .i64 0, .int .i64 0]) (t := 41) ?hr ?_; (case hd => rfl); (case hg => rfl); (case hr => first | (go_simp; done) | (go_simp; rfl)); intro gb137 hg w5 hbox hb; have n0_ := Aside0.mk (below_step (by repeat (first | (with_reducible first | exact HB.out | apply below_alloc | apply pw_below_drewN | apply below_drew1) | exact HB.out)) hb); have n1_ := Aside0.mk (hbox); have n2_ := Aside0.mk ((by rw [hg]; exact (below_size (by repeat (first | (with_reducible first | exact HB.out | apply below_alloc | apply pw_below_drewN | apply below_drew1) | exact HB.out))) : w.heap.size ≤ gb137)); have n3_ := Aside0.mk ((by rw [hg]; exact (below_size (by repeat (first | (with_reducible first | exact HB.out | apply below_alloc | apply pw_below_drewN | apply below_drew1) | exact HB.out))) : w.heap.size ≤ gb137)); clear HB; have HB := n0_; have BK137 := n1_; have GW137 := n2_; have GE137 := n3_; clear n0_ n1_ n2_ n3_; clear hb hbox hg; have hcz6_0 : w5.cell? ⟨gb137, 0, none⟩ = some (.string (⟨#[]⟩ : ByteArray)) := (blk_cell BK137.out 0).trans rfl; have hcz6_1 : w5.cell? ⟨gb137, 1, none⟩ = some (.string (⟨#[]⟩ : ByteArray)) := (blk_cell BK137.out 1).trans rfl; have hcz6_2 : w5.cell? ⟨gb137, 2, none⟩ = some (.string (⟨#[]⟩ : ByteArray)) := (blk_cell BK137.out 2).trans rfl; have hcz6_3 : w5.cell? ⟨gb137, 3, none⟩ = some (.int .i64 0) := (blk_cell BK137.out 3).trans rfl; have hcz6_4 : w5.cell? ⟨gb137, 4, none⟩ = some (.int .i64 0) := (blk_cell BK137.out 4).trans rfl; have hcz6_5 : w5.cell? ⟨gb137, 5, none⟩ = some (.int .i64 0) := (blk_cell BK137.out 5).trans rfl; have hcz6_6 : w5.cell? ⟨gb137, 6, none⟩ = some (.int .i64 0) := (blk_cell BK137.out 6).trans rfl; have hcz6_7 : w5.cell? ⟨gb137, 7, none⟩ = some (.int .i64 0) := (blk_cell BK137.out 7).trans rfl; have hcz6_8 : w5.cell? ⟨gb137, 8, none⟩ = some (.int .i64 0) := (blk_cell BK137.out 8).trans rfl; have hfz6_0 := blk_frozen BK137.out 0; have hfz6_1 := blk_frozen BK137.out 1; have hfz6_2 := blk_frozen BK137.out 2; have hfz6_3 := blk_frozen BK137.out 3; have hfz6_4 := blk_frozen BK137.out 4; have hfz6_5 := blk_frozen BK137.out 5; have hfz6_6 := blk_frozen BK137.out 6; have hfz6_7 := blk_frozen BK137.out 7; have hfz6_8 := blk_frozen BK137.out 8))
            go_roundg k1
            case measure => have := HK1.out; omega
            case rel => exact ⟨(wrap64 (x2_1 + ((rd_T41 l0 x7_1).f2))), (wrap64 (x7_1 + 1)), (by first | rfl | (simp; done) | (simp [*]; done)), (by first | rfl | (simp; done) | (simp [*]; done)), H', ⟨by have := HK1.out; omega⟩, ⟨by repeat (first | (with_reducible first | exact HB.out | apply below_alloc | apply pw_below_drewN | apply below_drew1 | refine below_set ?_ GE137.out) | exact HB.out)⟩⟩
          · rw [if_neg c4] at H
            exact absurd H (by simp)
        · rw [if_neg c3] at H
          exact absurd H (by simp)
      · rw [if_neg c2] at H
        have c2b0 : decide (x7_1 < (l0.length : Int)) = false := decide_eq_false c2
        clear c2
        obtain rfl := Option.some.inj H
        go_wp2
        go_ret
        exact ⟨by first | rfl | (simp [errW_none, errW_some] <;> rfl) | (simp [*, errW_none, errW_some] <;> rfl), by repeat (first | (with_reducible first | exact HB.out | apply below_alloc | apply pw_below_drewN | apply below_drew1) | exact HB.out)⟩

/-! ### novate_Net: function 18 -/
attribute [local go_sem high] accA serA
theorem lots_go (l : List S41) (hl : l.length ≤ 4096) (hb : ∀ x ∈ l, badQ x.f2 = false) : ∀ (n i : Nat), i + n = l.length → ∀ s : Int, -1048576 * (i : Int) ≤ s → s ≤ 1048576 * (i : Int) → novate_lots.l0 (n + 1) s l (l.length : Int) (i : Int) = some (s + sumQ (l.drop i)) := by
  intro n
  induction n with
  | zero =>
    intro i hi s _ _
    obtain rfl : i = l.length := by omega
    rw [novate_lots.l0, if_neg (by omega), List.drop_length]
    simp [sumQ]
  | succ n ih =>
    intro i hi s h1 h2
    have hm : rd_T41 l (i : Int) ∈ l := by
      unfold rd_T41
      rw [Int.toNat_natCast, List.getD_eq_getElem?_getD, List.getElem?_eq_getElem (by omega)]
      exact List.getElem_mem _
    have h3 := hb _ hm
    simp only [badQ, Bool.or_eq_false_iff, decide_eq_false_iff_not] at h3
    rw [novate_lots.l0, if_pos (by omega), if_pos (by omega), if_pos (by omega), drop_T41 l i (by omega), xwl (s + _) (by omega) (by omega), xwl ((i : Int) + 1) (by omega) (by omega), show ((i : Int) + 1) = ((i + 1 : Nat) : Int) by omega]
    rw [ih (i + 1) (by omega) _ (by omega) (by omega)]
    simp only [sumQ]
    congr 1; omega
theorem lots_val (l : List S41) (hl : l.length ≤ 4096) (hb : ∀ x ∈ l, badQ x.f2 = false) : novate_lots.f (l.length + 1) l = some (sumQ l) := by
  have h := lots_go l hl hb l.length 0 (by omega) 0 (by omega) (by omega)
  rw [List.drop_zero, Int.zero_add] at h
  exact h
def novate_Net.f (l0 : List (S41)) (a1_0 : ByteArray) (a1_1 : ByteArray) (a2_0 : ByteArray) (a2_1 : Int) (a2_2 : Int) (a2_3 : Int) : Option (Int × Int) := some (sumQ (askV (ownB ⟨a1_0, a1_1⟩ ⟨a2_0, a2_1, a2_2, a2_3⟩) l0).1, (askV (ownB ⟨a1_0, a1_1⟩ ⟨a2_0, a2_1, a2_2, a2_3⟩) l0).2)
set_option maxHeartbeats 4000000 in
set_option maxRecDepth 100000 in
theorem novate_Net.calls (A0 : Option Addr) (c0 : Nat) (l0 : List (S41)) (a1_0 : ByteArray) (a1_1 : ByteArray) (a2_0 : ByteArray) (a2_1 : Int) (a2_2 : Int) (a2_3 : Int) (r1 : Int) (r2 : Int) (w : World) (hr0 : Kd.C k41 w A0 l0.length l0) (hc0 : l0.length ≤ c0) (h : novate_Net.f l0 a1_0 a1_1 a2_0 a2_1 a2_2 a2_3 = some (r1, r2)) :
    Calls Try.prog 18 #[.slice A0 l0.length c0, .agg #[.string a1_0, .string a1_1], .agg #[.string a2_0, .int .i64 a2_1, .int .i64 a2_2, .int .i64 a2_3]] w fun e w' => e = .returned (.tuple #[.int .i64 r1, .int .i64 r2]) ∧ Below w.heap.size w w' := by
  unfold novate_Net.f at h
  simp only [Option.some.injEq, Prod.mk.injEq] at h
  have hv := askV_in (ownB ⟨a1_0, a1_1⟩ ⟨a2_0, a2_1, a2_2, a2_3⟩) l0
  have hlv := lots_val _ (Nat.le_trans hv.1 (by omega)) hv.2
  obtain ⟨xs, hxs⟩ : ∃ xs, xs = (askV (ownB ⟨a1_0, a1_1⟩ ⟨a2_0, a2_1, a2_2, a2_3⟩) l0).1 := ⟨_, rfl⟩
  have hav : askV (ownB ⟨a1_0, a1_1⟩ ⟨a2_0, a2_1, a2_2, a2_3⟩) l0 = (xs, r2) := by rw [hxs, ← h.2]
  rw [← hxs] at hlv h
  rw [h.1] at hlv
  clear h hv hxs
  have hcall : ∀ (W : World) (g1 g2 : Nat), Below w.heap.size w W → W.heap[g1]? = some (.cells #[.string a1_0, .string a1_1] 24 (0, 0)) → W.heap[g2]? = some (.cells #[.string a2_0, .int .i64 a2_1, .int .i64 a2_2, .int .i64 a2_3] 28 (0, 0)) → Calls Try.prog 25 #[.slice A0 l0.length c0, .func (.func 38) #[] #[.pointer (some ⟨g1, 0, none⟩), .pointer (some ⟨g2, 0, none⟩)]] W fun e w' => ∃ v0_ : Value, e = .returned (.tuple #[v0_, .int .i64 r2]) ∧ Kd.R k41 41 w' W.heap.size (fun _ => True) v0_ xs ∧ Below W.heap.size W w' :=
    fun W g1 g2 hB h1 h2 => asked_any (ownB ⟨a1_0, a1_1⟩ ⟨a2_0, a2_1, a2_2, a2_3⟩) _ _ A0 c0 l0 W (Kd.C_below hr0 hB) hc0 xs r2 hav (fun _ _ => rfl) (fun W' x hB' => own1_any ⟨a1_0, a1_1⟩ ⟨a2_0, a2_1, a2_2, a2_3⟩ x g1 g2 W' (blk_below h1 hB') (blk_below h2 hB'))
  have HCALL := Aside0.mk hcall
  have HLV := Aside0.mk hlv
  clear hcall hlv hav hr0
  go_enter Try.func18, Try.ntmps18
  go_wp2_with fail
  refine (own_any ⟨a1_0, a1_1⟩ ⟨a2_0, a2_1, a2_2, a2_3⟩ _).mono ?_
  rintro e w2 ⟨g1, g2, rfl, h1, h2, hb⟩
  have HB := Aside0.mk (below_step (below_alloc (below_alloc (Below.refl w.heap.size w) _) _) hb)
  have H1 := Aside0.mk h1
  have H2 := Aside0.mk h2
  clear hb h1 h2
  go_wp2_with fail
  refine (HCALL.out w2 g1 g2 HB.out H1.out H2.out).mono ?_
  rintro e w3 ⟨v0, rfl, hR, hb⟩
  have HB3 := Aside0.mk (below_step HB.out hb)
  obtain ⟨A, c, rfl, hxc, hC⟩ := Kd.R_reads hR
  have HC := Aside0.mk hC
  clear HB HCALL H1 H2 hb hR hC
  go_wp2_with fail
  refine (novate_lots.calls _ A c xs r1 w3 HC.out hxc HLV.out).mono ?_
  rintro e w4 ⟨rfl, hb⟩
  have HB4 := Aside0.mk (below_step HB3.out hb)
  clear HB3 hb
  go_wp2_with fail
  go_ret2
  exact ⟨rfl, HB4.out⟩

/-! ### contangolaw13_fit: function 24 -/
theorem infoTrade : (Try.prog.info? 39).map (fun i => (i.zero, i.size, i.bytes)) = some (some (.agg #[(.int .i64 0), (.int .i64 0), (.int .i64 0), (.string ⟨#[]⟩), (.int .i64 0), (.int .i64 0), (.int .i64 0), (.int .i64 0), (.int .i64 0), (.string ⟨#[]⟩), (.string ⟨#[]⟩), (.string ⟨#[]⟩), (.string ⟨#[]⟩)]), 13, 144) := by kernel_rfl
def fitQ (n : Int) : Int := wrap64 (1 + (wrap64 (Int.tmod (IntKind.u64.wrap n) 1048576)))
def fitT (t : S39) : S39 := ⟨t.f0, t.f1, t.f2, t.f3, fitQ t.f4, t.f5, t.f6, t.f7⟩
def fitGo : Nat → List S39 → List S39 → List S39
  | _, xs, [] => xs
  | 0, xs, _ :: _ => xs
  | n + 1, xs, t :: l => fitGo n (xs ++ [fitT t]) l
theorem fitGo_val : ∀ (n : Nat) (l xs : List S39), fitGo n xs l = xs ++ (l.take n).map fitT
  | n, [], xs => by cases n <;> simp [fitGo]
  | 0, t :: l, xs => by simp [fitGo]
  | n + 1, t :: l, xs => by rw [fitGo, fitGo_val n l]; simp
def contangolaw13_fit.f (l0 : List (S39)) : Option ((List (S39))) := some ((l0.take 100).map fitT)
set_option maxHeartbeats 16000000 in
set_option maxRecDepth 100000 in
theorem contangolaw13_fit.calls (A0 : Option Addr) (c0 : Nat) (l0 : List (S39)) (r : List (S39)) (w : World) (hr0 : Kd.C k39 w A0 l0.length l0) (hc0 : l0.length ≤ c0) (h : contangolaw13_fit.f l0 = some r) :
    Calls Try.prog 24 #[.slice A0 l0.length c0] w fun e w' => ∃ v0_ : Value, e = .returned (v0_) ∧ Kd.R k39 39 w' w.heap.size (fun _ => True) v0_ r ∧ Below w.heap.size w w' := by
  have hu39 := Try.underlying39
  unfold contangolaw13_fit.f at h
  have h := Option.some.inj h
  have h2 : fitGo 100 [] l0 = r := by rw [fitGo_val, List.nil_append]; exact h
  have HRES := Aside0.mk h2
  have HR := Aside0.mk hr0
  have HLEN := Aside0.mk (Kd.C_max hr0)
  clear h h2 hr0
  go_enter Try.func24, Try.ntmps24
  go_wp2_with (first | ((with_reducible refine gate_dst (N := 6) rfl ?_); refine Kd.R_lit k39 _ 39 ?hg (N := 6) ?hd (xs := ([] : List (S39))) (inner := []) (ok := fun _ => True) (okp := fun _ => True) ?hr ?hp (fun _ hk => hk) trivial (Below.refl _ _) (Nat.le_refl _) (by simp) ?_; (case hd => rfl); (case hg => rfl); (case hr => first | (go_simp; done) | (go_simp; rfl)); (case hp => exact (Reps.none _ _)); intro v139 w2 ho3 hb hg_ hnew_; clear hg_ hnew_; have HO := Aside0.mk ho3; have HB := Aside0.mk hb; clear hb ho3))
  go_loopw [3, 4] (fun v3 v4 wr => ∃ (i : Nat) (xs : List S39), i ≤ l0.length ∧ i ≤ 100 ∧ xs.length = i ∧ v4 = .int .i64 (i : Int) ∧ Aside0 (fitGo (100 - i) xs (l0.drop i) = r) ∧ Aside0 (Kd.R k39 39 wr w.heap.size (fun _ => True) v3 xs) ∧ Aside0 (Below w.heap.size w wr)) (fun _ v4 _ => 100 - (intOf v4).toNat)
  case atStart => exact ⟨0, [], by omega, by omega, rfl, rfl, ⟨by rw [List.drop_zero]; exact HRES.out⟩, HO, HB⟩
  case round =>
    clear HRES HO HB
    obtain ⟨i, xs, hi, hi2, hxl, rfl, HRES, HO, HB⟩ := hrel
    have hlen := HLEN.out
    by_cases hlt : i < l0.length
    · have hlti : (i : Int) < (l0.length : Int) := by omega
      by_cases hl2 : i < 100
      · obtain ⟨ad, ex, hx0, hx1, hx2, hx3, hx4, hx5, hx6, hx7, hx8, hx9, hx10, hx11, hx12⟩ := at_T39 (Kd.C_below HR.out HB.out) (i : Int) (by omega) (by omega)
        cases ex
        simp only [Int.toNat_natCast] at hx0 hx1 hx2 hx3 hx4 hx5 hx6 hx7 hx8 hx9 hx10 hx11 hx12
        have hl100 : (i : Int) < 100 := by omega
        have hres := HRES.out
        rw [drop_T39 l0 i hlt, show 100 - i = (100 - (i + 1)) + 1 by omega, fitGo] at hres
        generalize rd_T39 l0 (i : Int) = t at *
        have HRES2 := Aside0.mk hres
        clear hres HRES
        go_upto_region 7 with fail
        obtain ⟨W5, hW5⟩ : ∃ W5 : World, W5 = wr.alloc (.cells #[.int .i64 t.f0, .int .i64 t.f1, .int .i64 t.f2, .string t.f3.f0, .int .i64 t.f3.f1, .int .i64 t.f3.f2, .int .i64 t.f3.f3, .int .i64 (wrap64 (1 + wrap64 ((IntKind.u64.wrap t.f4).tmod 1048576))), .int .i64 t.f5, .string t.f6.f0, .string t.f6.f1, .string t.f7.f0, .string t.f7.f1] 39) := ⟨_, rfl⟩
        rw [← hW5]
        have hft : fitT t = ⟨t.f0, t.f1, t.f2, t.f3, wrap64 (1 + wrap64 ((IntKind.u64.wrap t.f4).tmod 1048576)), t.f5, t.f6, t.f7⟩ := rfl
        generalize wrap64 (1 + wrap64 ((IntKind.u64.wrap t.f4).tmod 1048576)) = q at *
        have hb5 : Below wr.heap.size wr W5 := by rw [hW5]; exact below_alloc (Below.refl _ _) _
        have hx5 : W5.heap[wr.heap.size]? = some (.cells #[.int .i64 t.f0, .int .i64 t.f1, .int .i64 t.f2, .string t.f3.f0, .int .i64 t.f3.f1, .int .i64 t.f3.f2, .int .i64 t.f3.f3, .int .i64 q, .int .i64 t.f5, .string t.f6.f0, .string t.f6.f1, .string t.f7.f0, .string t.f7.f1] 39 (0, 0)) := by rw [hW5]; exact blk_new _ _
        have ho5 := Aside0.mk (Kd.R_below HO.out hb5)
        have HB5 := Aside0.mk (below_step HB.out hb5)
        have hs5 : w.heap.size ≤ W5.heap.size := below_size HB5.out
        generalize wr.heap.size = gw at *
        have hx5_0 : W5.cell? ⟨gw, 0, none⟩ = some (.int .i64 t.f0) := (blk_cell hx5 0).trans rfl
        have hx5_1 : W5.cell? ⟨gw, 1, none⟩ = some (.int .i64 t.f1) := (blk_cell hx5 1).trans rfl
        have hx5_2 : W5.cell? ⟨gw, 2, none⟩ = some (.int .i64 t.f2) := (blk_cell hx5 2).trans rfl
        have hx5_3 : W5.cell? ⟨gw, 3, none⟩ = some (.string t.f3.f0) := (blk_cell hx5 3).trans rfl
        have hx5_4 : W5.cell? ⟨gw, 4, none⟩ = some (.int .i64 t.f3.f1) := (blk_cell hx5 4).trans rfl
        have hx5_5 : W5.cell? ⟨gw, 5, none⟩ = some (.int .i64 t.f3.f2) := (blk_cell hx5 5).trans rfl
        have hx5_6 : W5.cell? ⟨gw, 6, none⟩ = some (.int .i64 t.f3.f3) := (blk_cell hx5 6).trans rfl
        have hx5_7 : W5.cell? ⟨gw, 7, none⟩ = some (.int .i64 q) := (blk_cell hx5 7).trans rfl
        have hx5_8 : W5.cell? ⟨gw, 8, none⟩ = some (.int .i64 t.f5) := (blk_cell hx5 8).trans rfl
        have hx5_9 : W5.cell? ⟨gw, 9, none⟩ = some (.string t.f6.f0) := (blk_cell hx5 9).trans rfl
        have hx5_10 : W5.cell? ⟨gw, 10, none⟩ = some (.string t.f6.f1) := (blk_cell hx5 10).trans rfl
        have hx5_11 : W5.cell? ⟨gw, 11, none⟩ = some (.string t.f7.f0) := (blk_cell hx5 11).trans rfl
        have hx5_12 : W5.cell? ⟨gw, 12, none⟩ = some (.string t.f7.f1) := (blk_cell hx5 12).trans rfl
        clear hx5 hb5 hW5 HO HB
        rw [hft] at HRES2
        clear hft
        go_wp2_with ((with_reducible refine gate_builtin (b := .append) (xs := #[.tmp 28, .tmp 30]) rfl ?_); (try (refine gate_guard (by rfl) ?_; dsimp only)); at_builtin; refine Kd.R_append k39 (w0 := w) w.heap.size rfl (.tmp 28) (.tmp 30) 42 39 (.agg #[(.int .i64 0), (.int .i64 0), (.int .i64 0), (.string ⟨#[]⟩), (.int .i64 0), (.int .i64 0), (.int .i64 0), (.int .i64 0), (.int .i64 0), (.string ⟨#[]⟩), (.string ⟨#[]⟩), (.string ⟨#[]⟩), (.string ⟨#[]⟩)]) 144 rfl Try.underlying42 infoTrade rfl (by decide) (by omega) u3 xs (⟨t.f0, t.f1, t.f2, t.f3, q, t.f5, t.f6, t.f7⟩ : S39) [.int .i64 t.f0, .int .i64 t.f1, .int .i64 t.f2, .string t.f3.f0, .int .i64 t.f3.f1, .int .i64 t.f3.f2, .int .i64 t.f3.f3, .int .i64 q, .int .i64 t.f5, .string t.f6.f0, .string t.f6.f1, .string t.f7.f0, .string t.f7.f1] (fun _ => True) (fun _ => False) rfl (by first | (go_simp; done) | (go_simp; rfl)) ?aP (fun _ hk => hk.elim) ?aF ?aO ?aB ?aS ?aL ?_; (case aP => exact k39_mkM _ _ _ (⟨t.f0, t.f1, t.f2, t.f3, q, t.f5, t.f6, t.f7⟩ : S39)); (case aF => intro k_ hk; trivial); (case aO => exact ho5.out); (case aB => exact HB5.out); (case aS => exact hs5); (case aL => omega); intro v164 w28 ho hb hg hat; have n1_ := Aside0.mk hb; have n2_ := Aside0.mk ho; clear ho hb hg hat)
        go_roundw
        case measure => show _ < _; simp [intOf]; omega
        case rel => exact ⟨i + 1, xs ++ [(⟨t.f0, t.f1, t.f2, t.f3, q, t.f5, t.f6, t.f7⟩ : S39)], by omega, by omega, by rw [List.length_append]; simp; omega, by go_num, HRES2, n2_, n1_⟩
      · obtain rfl : i = 100 := by omega
        have hres := HRES.out
        have hr : r = xs := by
          rw [Nat.sub_self, drop_T39 l0 100 hlt, fitGo] at hres
          exact hres.symm
        subst hr
        go_wp2_with fail
        go_ret
        exact ⟨_, rfl, HO.out, HB.out⟩
    · have hres := HRES.out
      have hr : r = xs := by
        rw [List.drop_eq_nil_of_le (by omega)] at hres
        cases hn : 100 - i with
        | zero => rw [hn, fitGo] at hres; exact hres.symm
        | succ n => rw [hn, fitGo] at hres; exact hres.symm
      subst hr
      obtain rfl : i = l0.length := by omega
      go_wp2_with fail
      go_ret
      exact ⟨_, rfl, HO.out, HB.out⟩

end Go.Proofs.Ytpifobhpijnehaa.PNovateFlat
