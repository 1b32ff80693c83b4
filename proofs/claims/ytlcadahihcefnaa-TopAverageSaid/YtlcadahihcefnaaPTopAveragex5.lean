/- Laid for this claim by a program of this session's (wip/mkprint.py, wip/ext.py); not trusted: Lean checks it. -/
import Derived.Test.YtlcadahihcefnaaPTopAveragex0
import Derived.Test.YtlcadahihcefnaaPTopAveragex4
namespace Go.Proofs.Ytlcadahihcefnaa.PTopAverage
open Go.RowKit Go.Proofs.YtlcadahihcefnaaW.PrintWords Go.Proofs.YtlcadahihcefnaaW.PrintLast Go.Proofs.YtlcadahihcefnaaW.PrintMore
attribute [local go_sem] max2_int min2_int max_two min_two max_three min_three max_four min_four   -- for this text's walks alone
set_option linter.unusedVariables false
set_option linter.unusedSimpArgs false

/-! ### giveup_parted: function 12 -/
/-! ### a map whose keys are accounts, kept by its own function -/
def accV (a : S39) : Value:=.agg #[.string a.f0, .string a.f1]
def accEq (a b : S39) : Bool:=a.f0.toList == b.f0.toList && (a.f1.toList == b.f1.toList)
theorem accA (d : Nat) (w : World) (x0 y0 : ByteArray) (x1 y1 : ByteArray) :
  (Op.equalIn (d + 2) 39 (.agg #[.string x0, .string x1]) (.agg #[.string y0, .string y1])).run Try.prog w = .ok (x0.toList == y0.toList && (x1.toList == y1.toList)) w:=by
 refine eqA_of Try.underlying39 (by kernel_rfl) ?_
 refine eqf_cons (by rfl) (by go_simp;rfl) (by go_simp;rfl) (by go_simp) ?_
 exact eqf_last (by rfl) (by go_simp;rfl) (by go_simp;rfl) (by go_simp)
def Seen (w : World) (b : Nat) (ks : List S39) : Prop:=∃ (es : Array MapEntry) (clock : Nat), w.heap[b]? = some (.map es clock) ∧ es.toList.map (fun e=>e.key) = ks.map accV ∧ ∀ e ∈ es.toList, e.val = .agg #[]
theorem find_acc (a : S39) (w : World) : ∀ (es : List MapEntry) (ks : List S39) (i : Nat), es.map (fun e=>e.key) = ks.map accV →
  ((Instr.findAsking 39 (accV a) es i).run Try.prog w = .ok none w ∧ ks.any (accEq a) = false) ∨ (∃ j e, (Instr.findAsking 39 (accV a) es i).run Try.prog w = .ok (some (i + j, e.val)) w ∧ es[j]? = some e ∧ ks.any (accEq a) = true ∧ ∃ k, ks[j]? = some k ∧ accEq a k = true)
 | [], ks, i, h=>by
  have hk : ks = []:=by cases ks with
   | nil=>rfl
   | cons a l=>simp at h
  subst hk
  exact .inl ⟨rfl, rfl⟩
 | e :: es, ks, i, h=>by
  cases ks with
  | nil=>simp at h
  | cons k ks =>
   simp only [List.map_cons, List.cons.injEq] at h
   obtain ⟨h1, h2⟩:=h
   have he : (Op.equal 39 (accV a) e.key).run Try.prog w = .ok (accEq a k) w:=by
    rw [h1]
    exact accA _ w a.f0 k.f0 a.f1 k.f1
   cases hq : accEq a k with
   | true =>
    refine .inr ⟨0, e, ?_, rfl, by simp [hq], k, rfl, hq⟩
    simp [Instr.findAsking, he, hq, Result.andThen]
   | false =>
    rcases find_acc a w es ks (i + 1) h2 with ⟨r1, r2⟩ | ⟨j, e', r1, r2, r3, r4⟩
    ·refine .inl ⟨?_, by simp [hq, r2]⟩
     simp [Instr.findAsking, he, hq, Result.andThen, r1]
    ·refine .inr ⟨j + 1, e', ?_, r2, by simp [r3], r4⟩
     simp only [Instr.findAsking]
     simp [he, hq, Result.andThen, r1]
     omega
theorem findKey_acc (a : S39) (w : World) (es : List MapEntry) : (Instr.findKey 39 (accV a) es).run Try.prog w = (Instr.findAsking 39 (accV a) es 0).run Try.prog w:=by
 have hn : ∀ kind, kind = TypeDesc.struct (Try.prog.fieldsOf 39) → es ≠ [] → Instr.findNow kind (accV a) es 0 = none:=by
  intro kind hk hne
  cases es with
  | nil=>exact absurd rfl hne
  | cons e l=>subst hk;simp [Instr.findNow, Instr.sameNow]
 cases es with
 | nil=>simp [Instr.findKey, Instr.findAsking, run_underlying Try.underlying39, Instr.findNow, Result.andThen]
 | cons e l =>
  simp [Instr.findKey, run_underlying Try.underlying39, Instr.findNow, Instr.sameNow, accV, Result.andThen]
theorem check_acc (a : S39) (b : Bool) (w : World) : (Instr.checkKey b 10000 39 (accV a)).run Try.prog w = .ok () w:=by
 unfold accV
 kernel_rfl
theorem toList_inj {a b : ByteArray} (h : (a.toList == b.toList) = true) : a = b:=by
 have h:=beq_iff_eq.1 h
 rw [ByteArray.toList_eq, ByteArray.toList_eq] at h
 exact ByteArray.ext (Array.toList_inj.1 h)
theorem accEq_eq {a k : S39} (h : accEq a k = true) : a = k:=by
 unfold accEq at h
 simp only [Bool.and_eq_true] at h
 obtain ⟨a0, a1⟩:=a
 obtain ⟨k0, k1⟩:=k
 have h0:=toList_inj h.1
 have h1:=toList_inj h.2
 dsimp only at h0 h1
 subst h0;subst h1;rfl
theorem accEq_refl (a : S39) : accEq a a = true:=by
 unfold accEq;simp
theorem stays_acc (a : S39) (w : World) : (Instr.keyThatStays (accV a) (accV a)).run Try.prog w = .ok (accV a) w:=by
 have hs : Instr.sameBits 10000 (accV a) (accV a) = true:=by
  unfold accV
  simp [Instr.sameBits]
  exact ⟨by show (a.f0.data == a.f0.data) = true;simp, by show (a.f1.data == a.f1.data) = true;simp⟩
 unfold Instr.keyThatStays
 rw [hs]
 rfl
theorem seen_made (w : World) : Seen (w.alloc (.map #[] 0)) w.heap.size []:=⟨#[], 0, heap_alloc_new w _, rfl, by simp⟩
theorem seen_kept {w w' : World} {b : Nat} {ks : List S39} (h : Seen w b ks) (hg : ∀ {o : Obj}, w.heap[b]? = some o → w'.heap[b]? = some o) : Seen w' b ks:=by
 obtain ⟨es, clock, h1, h2, h3⟩:=h
 exact ⟨es, clock, hg h1, h2, h3⟩
theorem seen_look {w : World} {b : Nat} {ks : List S39} (h : Seen w b ks) (a : S39) : (Instr.lookup 64 (.map (some b)) (accV a) true).run Try.prog w = .ok (.tuple #[.agg #[], .bool (ks.any (accEq a))]) w:=by
 obtain ⟨es, clock, h1, h2, h3⟩:=h
 have hz : (zeroValue 65).run Try.prog w = .ok (.agg #[]) w:=by kernel_rfl
 rcases find_acc a w es.toList ks 0 h2 with ⟨r1, r2⟩ | ⟨j, e, r1, r2, r3, _⟩
 ·simp [Instr.lookup, run_underlying Try.underlying64, MapKept.run_getObj_map h1, check_acc, findKey_acc, r1, r2, hz, Result.andThen]
 ·have hv : e.val = .agg #[]:=h3 e (List.mem_of_getElem? r2)
  simp [Instr.lookup, run_underlying Try.underlying64, MapKept.run_getObj_map h1, check_acc, findKey_acc, r1, r3, hv, Result.andThen]
theorem seen_put {w : World} {b : Nat} {ks : List S39} (h : Seen w b ks) (a : S39) : ∃ w', (Instr.mapUpdate 64 (.map (some b)) (accV a) (.agg #[])).run Try.prog w = .ok () w' ∧ Seen w' b (if ks.any (accEq a) = true then ks else ks ++ [a]) ∧ w.grownBy w' (some b):=by
 obtain ⟨es, clock, h1, h2, h3⟩:=h
 have hset : ∀ o : Obj, (setObj b o).run Try.prog w = .ok () (Go.ChangeMaps.setBlock w b o):=fun o=>by
  simp only [setObj, Sem.run, h1]
  rfl
 have hsz : ∀ o : Obj, (Go.ChangeMaps.setBlock w b o).heap.size = w.heap.size:=fun o=>by simp [Go.ChangeMaps.setBlock]
 have hb : b < w.heap.size:=blk_lt h1
 have hgr : ∀ o : Obj, w.grownBy (Go.ChangeMaps.setBlock w b o) (some b):=fun o=>⟨rfl, rfl, rfl, by rw [hsz];exact Nat.le_refl _, fun k hk hne=>by
  have : b ≠ k:=fun e=>hne (by rw [e])
  simp [Go.ChangeMaps.setBlock, Array.getElem?_setIfInBounds_ne this]⟩
 have hat : ∀ o : Obj, (Go.ChangeMaps.setBlock w b o).heap[b]? = some o:=fun o=>by simp [Go.ChangeMaps.setBlock, hb]
 rcases find_acc a w es.toList ks 0 h2 with ⟨r1, r2⟩ | ⟨j, e, r1, r2, r3, k, r4, r5⟩
 ·refine ⟨Go.ChangeMaps.setBlock w b (.map (es.push { key:=accV a, val:=.agg #[], born:=clock }) (clock + 1)), ?_, ?_, hgr _⟩
  ·simp [Instr.mapUpdate, run_underlying Try.underlying64, MapKept.run_getObj_map h1, check_acc, findKey_acc, r1, hset, Result.andThen]
  ·rw [r2, if_neg (by decide)]
   exact ⟨_, _, hat _, by simp [h2], fun x hx=>by
    rcases (by simpa using hx : x ∈ es ∨ x = _) with h | h
    ·exact h3 x (by simpa using h)
    ·rw [h]⟩
 ·have hk : e.key = accV a:=by
   have h4 : (es.toList.map (fun e=>e.key))[j]? = (ks.map accV)[j]?:=by rw [h2]
   rw [List.getElem?_map, List.getElem?_map, r2, r4] at h4
   have h5 : e.key = accV k:=by simpa using h4
   rw [h5, ← accEq_eq r5]
  have hej : es[j]? = some e:=by simpa using r2
  have hst : (Instr.keyThatStays (((es[j]?).map (fun x=>x.key)).getD (accV a)) (accV a)).run Try.prog w = .ok (accV a) w:=by
   rw [hej]
   show (Instr.keyThatStays e.key (accV a)).run Try.prog w = _
   rw [hk];exact stays_acc a w
  refine ⟨Go.ChangeMaps.setBlock w b (.map (es.modify j fun e=>{ e with key:=accV a, val:=.agg #[] }) clock), ?_, ?_, hgr _⟩
  ·simp [Instr.mapUpdate, run_underlying Try.underlying64, MapKept.run_getObj_map h1, check_acc, findKey_acc, r1, Result.andThen]
   rw [hst]
   exact hset _
  ·rw [r3, if_pos rfl]
   refine ⟨_, _, hat _, ?_, ?_⟩
   ·rw [← h2]
    apply List.ext_getElem?
    intro i
    simp only [List.getElem?_map, Array.getElem?_toList, Array.getElem?_modify]
    by_cases hij : j = i
    ·subst hij;simp [hej, hk]
    ·simp [hij]
   ·intro x hx
    obtain ⟨i, hi⟩:=List.mem_iff_getElem?.1 hx
    rw [Array.getElem?_toList, Array.getElem?_modify] at hi
    by_cases hij : j = i
    ·subst hij
     simp [hej] at hi
     rw [← hi]
    ·simp [hij] at hi
     exact h3 x (List.mem_of_getElem? (by simpa using hi))

/-! ### the closures -/
def lotsB (n : Int) : Bool:=decide (1 ≤ n) && decide (n ≤ 1048576)
theorem lots_val (n : Int) : giveup_lots.f n = some (lotsB n):=by
 unfold giveup_lots.f lotsB
 by_cases h : n ≥ 1
 ·rw [if_pos h, decide_eq_true (show 1 ≤ n from h)];rfl
 ·rw [if_neg h, decide_eq_false (show ¬ 1 ≤ n from h)];rfl
set_option maxHeartbeats 4000000 in
set_option maxRecDepth 100000 in
theorem two_any (p : S43) (w : World) :
  Calls Try.prog 25 #[.agg #[.string p.f0.f0, .string p.f0.f1, .int .i64 p.f1]] w fun e w'=>e = .returned (.bool (lotsB p.f1)) ∧ Below w.heap.size w w':=by
 have HL:=Aside0.mk (lots_val p.f1)
 generalize lotsB p.f1 = b at *
 go_enter Try.func25, Try.ntmps25
 go_wp2_with (go_at_call 22;(with_reducible refine (giveup_lots.calls p.f1 b _ HL.out).mono ?_);rintro e w2 ⟨rfl, hd⟩;have HB:=Aside0.mk (below_step (below_alloc (Below.refl _ _) _) hd.below);clear hd)
 go_ret
 exact ⟨rfl, HB.out⟩
set_option maxHeartbeats 4000000 in
set_option maxRecDepth 100000 in
theorem once_any (p : S43) (gs b base : Nat) (ks : List S39) (w0 w : World) (hbelow : Below base w0 w) (hbase : base ≤ w.heap.size) (hgs : base ≤ gs) (hb : base ≤ b) (h1 : w.heap[gs]? = some (.cells #[.map (some b)] 64 (0, 0))) (hs : Seen w b ks) :
  Calls Try.prog 23 #[.agg #[.string p.f0.f0, .string p.f0.f1, .int .i64 p.f1], .pointer (some ⟨gs, 0, none⟩)] w fun e w'=>e = .returned (.bool (!ks.any (accEq p.f0))) ∧ Seen w' b (if ks.any (accEq p.f0) = true then ks else ks ++ [p.f0]) ∧ w.grownBy w' (some b):=by
 have hc:=(blk_cell h1 0).trans (rfl : _ = some (Value.map (some b)))
 have hne : gs ≠ b:=by
  obtain ⟨es, clock, h2, _⟩:=hs
  rintro rfl
  rw [h1] at h2;cases h2
 have hgb : b < w.heap.size:=by obtain ⟨es, clock, h2, _⟩:=hs;exact blk_lt h2
 have hs1 : Seen (w.alloc (.cells #[.string p.f0.f0, .string p.f0.f1, .int .i64 p.f1] 43)) b ks:=seen_kept hs (fun h=>blk_alloc h _)
 have hs2 : Seen ((w.alloc (.cells #[.string p.f0.f0, .string p.f0.f1, .int .i64 p.f1] 43)).alloc (.cells #[] 65)) b ks:=seen_kept hs1 (fun h=>blk_alloc h _)
 have hc1 : (w.alloc (.cells #[.string p.f0.f0, .string p.f0.f1, .int .i64 p.f1] 43)).cell? ⟨gs, 0, none⟩ = some (.map (some b)):=(blk_cell (blk_alloc h1 _) 0).trans rfl
 have hc2 : ((w.alloc (.cells #[.string p.f0.f0, .string p.f0.f1, .int .i64 p.f1] 43)).alloc (.cells #[] 65)).cell? ⟨gs, 0, none⟩ = some (.map (some b)):=(blk_cell (blk_alloc (blk_alloc h1 _) _) 0).trans rfl
 obtain ⟨w3, hput, hs3, hg3⟩:=seen_put hs2 p.f0
 have hl1:=seen_look hs1 p.f0
 have hl2:=seen_look hs2 p.f0
 have hg:=((World.grownBy_alloc w (.cells #[.string p.f0.f0, .string p.f0.f1, .int .i64 p.f1] 43) (some b)).andThen (World.grownBy_alloc _ (.cells #[] 65) (some b)) (fun j hj=>.inr hj)).andThen hg3 (fun j hj=>.inr hj)
 unfold accV at hput hl1 hl2
 have HS:=Aside0.mk hs3
 have HGR:=Aside0.mk hg
 generalize ks.any (accEq p.f0) = bq at *
 generalize (if bq = true then ks else ks ++ [p.f0]) = ks' at *
 clear hs hs1 hs2 hs3 hg hg3 h1 hc
 go_enter Try.func23, Try.ntmps23
 go_wp2_with fail
 go_ret
 exact ⟨rfl, HS.out, HGR.out⟩

def nextK (ks : List S39) (a : S39) : List S39:=if ks.any (accEq a) = true then ks else ks ++ [a]
set_option maxHeartbeats 8000000 in
set_option maxRecDepth 100000 in
theorem all_any (p : S43) (gc gs b base : Nat) (ks : List S39) (w0 w : World) (hbelow : Below base w0 w) (hbase : base ≤ w.heap.size) (hgs : base ≤ gs) (hb : base ≤ b) (h1 : w.heap[gs]? = some (.cells #[.map (some b)] 64 (0, 0))) (hs : Seen w b ks) (hc : w.heap[gc]? = some (.cells #[.func (.func 23) #[] #[.pointer (some ⟨gs, 0, none⟩)]] 67 (0, 0))) :
  Calls Try.prog 28 #[.agg #[.string p.f0.f0, .string p.f0.f1, .int .i64 p.f1], .slice (some ⟨gc, 0, none⟩) 1 1] w fun e w'=>e = .returned (.bool (!ks.any (accEq p.f0))) ∧ Seen w' b (nextK ks p.f0) ∧ w.grownBy w' (some b):=by
 have hb1 : Below base w0 (w.alloc (.cells #[.string p.f0.f0, .string p.f0.f1, .int .i64 p.f1] 43)):=hbelow.alloc hbase _
 have hcall:=once_any p gs b base ks w0 (w.alloc (.cells #[.string p.f0.f0, .string p.f0.f1, .int .i64 p.f1] 43)) hb1 (by simp;omega) hgs hb (blk_alloc h1 _) (seen_kept hs (fun h=>blk_alloc h _))
 have HCALL:=Aside0.mk hcall
 have hcc : (w.alloc (.cells #[.string p.f0.f0, .string p.f0.f1, .int .i64 p.f1] 43)).cell? ⟨gc, 0, none⟩ = some (.func (.func 23) #[] #[.pointer (some ⟨gs, 0, none⟩)]):=(blk_cell (blk_alloc hc _) 0).trans rfl
 have hg0:=World.grownBy_alloc w (.cells #[.string p.f0.f0, .string p.f0.f1, .int .i64 p.f1] 43) (some b)
 unfold nextK
 generalize (if ks.any (accEq p.f0) = true then ks else ks ++ [p.f0]) = ks' at *
 generalize (!ks.any (accEq p.f0)) = bq at *
 clear hcall hs h1 hc hbelow hb1
 cases bq with
 | true =>
  go_enter Try.func28, Try.ntmps28
  go_wp2_with fail
  refine wp_loop_rounds 3 ?_
  rw [rounds_succ]
  go_wp2_with fail
  refine HCALL.out.mono ?_
  rintro e w2 ⟨rfl, hs2, hg2⟩
  have HS:=Aside0.mk hs2
  have HG:=Aside0.mk (hg0.andThen hg2 (fun j hj=>.inr hj))
  clear hs2 hg2
  go_wp2_with fail
  rw [rounds_succ]
  go_wp2_with fail
  go_ret
  exact ⟨rfl, HS.out, HG.out⟩
 | false =>
  go_enter Try.func28, Try.ntmps28
  go_wp2_with fail
  refine wp_loop_rounds 3 ?_
  rw [rounds_succ]
  go_wp2_with fail
  refine HCALL.out.mono ?_
  rintro e w2 ⟨rfl, hs2, hg2⟩
  have HS:=Aside0.mk hs2
  have HG:=Aside0.mk (hg0.andThen hg2 (fun j hj=>.inr hj))
  clear hs2 hg2
  go_wp2_with fail
  go_ret
  exact ⟨rfl, HS.out, HG.out⟩
set_option maxHeartbeats 8000000 in
set_option maxRecDepth 100000 in
theorem three_any (p : S43) (go gs b base : Nat) (ks : List S39) (w0 w : World) (hbelow : Below base w0 w) (hbase : base ≤ w.heap.size) (hgs : base ≤ gs) (hb : base ≤ b) (h1 : w.heap[gs]? = some (.cells #[.map (some b)] 64 (0, 0))) (hs : Seen w b ks) (h2 : w.heap[go]? = some (.cells #[.func (.func 23) #[] #[.pointer (some ⟨gs, 0, none⟩)]] 67 (0, 0))) :
  Calls Try.prog 27 #[.agg #[.string p.f0.f0, .string p.f0.f1, .int .i64 p.f1], .pointer (some ⟨go, 0, none⟩)] w fun e w'=>e = .returned (.bool (!ks.any (accEq p.f0))) ∧ Seen w' b (nextK ks p.f0) ∧ w.grownBy w' (some b):=by
 have hb1 : Below base w0 ((w.alloc (.cells #[.string p.f0.f0, .string p.f0.f1, .int .i64 p.f1] 43)).alloc (.cells #[.func (.func 23) #[] #[.pointer (some ⟨gs, 0, none⟩)]] 67)):=(hbelow.alloc hbase _).alloc (by simp;omega) _
 have hcall:=all_any p (w.heap.size + 1) gs b base ks w0 _ hb1 (by simp;omega) hgs hb (blk_alloc (blk_alloc h1 _) _) (seen_kept hs (fun h=>blk_alloc (blk_alloc h _) _)) (by rw [show w.heap.size + 1 = (w.alloc (.cells #[.string p.f0.f0, .string p.f0.f1, .int .i64 p.f1] 43)).heap.size by simp];exact blk_new _ _)
 have HCALL:=Aside0.mk hcall
 have hcc : (w.alloc (.cells #[.string p.f0.f0, .string p.f0.f1, .int .i64 p.f1] 43)).cell? ⟨go, 0, none⟩ = some (.func (.func 23) #[] #[.pointer (some ⟨gs, 0, none⟩)]):=(blk_cell (blk_alloc h2 _) 0).trans rfl
 have hg0:=(World.grownBy_alloc w (.cells #[.string p.f0.f0, .string p.f0.f1, .int .i64 p.f1] 43) (some b)).andThen (World.grownBy_alloc _ (.cells #[.func (.func 23) #[] #[.pointer (some ⟨gs, 0, none⟩)]] 67) (some b)) (fun j hj=>.inr hj)
 generalize nextK ks p.f0 = ks' at *
 generalize (!ks.any (accEq p.f0)) = bq at *
 clear hcall hs h1 h2 hbelow hb1
 go_enter Try.func27, Try.ntmps27
 go_wp2_with (go_at_call 28;(with_reducible refine HCALL.out.mono ?_);rintro e w2 ⟨rfl, hs2, hg2⟩;have HS:=Aside0.mk hs2;have HG:=Aside0.mk (hg0.andThen hg2 (fun j hj=>.inr hj));clear hs2 hg2)
 go_ret
 exact ⟨rfl, HS.out, HG.out⟩
def distGo (ks : List S39) : List S43 → Bool
 | []=>true
 | p :: l=>if ks.any (accEq p.f0) = true then false else distGo (ks ++ [p.f0]) l
def sumQ : List S43 → Int
 | []=>0
 | p :: l=>p.f1 + sumQ l
def partV (qty : Int) (l : List S43) : Int:=if l.length = 0 ∨ l.length > 1024 then 8 else if l.all (fun p=>lotsB p.f1) = true then (if sumQ l = qty then (if distGo [] l = true then 0 else 21) else 18) else 18
def giveup_parted.f (a0 : Int) (l1 : List S43) : Option Int:=some (partV a0 l1)
theorem drop_T43 (l : List S43) (i : Nat) (h : i < l.length) : l.drop i = rd_T43 l (i : Int) :: l.drop (i + 1):=by
 rw [List.drop_eq_getElem_cons h]
 unfold rd_T43
 rw [Int.toNat_natCast, List.getD_eq_getElem?_getD, List.getElem?_eq_getElem h];rfl
theorem lots_range (n : Int) (h : lotsB n = true) : 1 ≤ n ∧ n ≤ 1048576:=by
 unfold lotsB at h;simpa using h
theorem qty_go (l : List S43) (hl : l.length ≤ 1024) (ha : l.all (fun p=>lotsB p.f1) = true) (n : Nat) : ∀ (i : Nat) (s : Int), i + n = l.length → 0 ≤ s → s ≤ 1048576 * i → ∃ k, giveup_shares_qty.l0 k s l (l.length : Int) (i : Int) = some (s + sumQ (l.drop i)):=by
 induction n with
 | zero =>
  intro i s hi _ _
  obtain rfl : i = l.length:=by omega
  refine ⟨1, ?_⟩
  rw [giveup_shares_qty.l0, if_neg (by omega), List.drop_length]
  simp [sumQ]
 | succ n ih =>
  intro i s hi h0 h1
  have hp:=lots_range _ (List.all_eq_true.1 ha (rd_T43 l (i : Int)) (by
   unfold rd_T43
   rw [Int.toNat_natCast, List.getD_eq_getElem?_getD, List.getElem?_eq_getElem (by omega)]
   exact List.getElem_mem _))
  obtain ⟨k, hk⟩:=ih (i + 1) (s + (rd_T43 l (i : Int)).f1) (by omega) (by omega) (by omega)
  refine ⟨k + 1, ?_⟩
  have e1 : wrap64 (s + (rd_T43 l (i : Int)).f1) = s + (rd_T43 l (i : Int)).f1:=by unfold wrap64;omega
  have e2 : wrap64 ((i : Int) + 1) = ((i + 1 : Nat) : Int):=by unfold wrap64;omega
  rw [giveup_shares_qty.l0, if_pos (by omega), if_pos (by omega), if_pos (by omega), e1, e2, hk, drop_T43 l i (by omega)]
  simp only [sumQ]
  congr 1;omega
theorem qty_val (l : List S43) (hl : l.length ≤ 1024) (ha : l.all (fun p=>lotsB p.f1) = true) : ∃ k, giveup_shares_qty.f k l = some (sumQ l):=by
 obtain ⟨k, hk⟩:=qty_go l hl ha l.length 0 0 (by omega) (by omega) (by omega)
 refine ⟨k, ?_⟩
 unfold giveup_shares_qty.f
 have hk : giveup_shares_qty.l0 k 0 l (l.length : Int) 0 = some (0 + sumQ (l.drop 0)):=hk
 rw [hk, List.drop_zero, Int.zero_add]
set_option maxHeartbeats 8000000 in
set_option maxRecDepth 100000 in
theorem each_lots (A0 : Option Addr) (c0 : Nat) (l : List S43) (w : World) (hl : l.length ≤ 1024) (hr0 : Kd.C k43 w A0 l.length l) (hc0 : l.length ≤ c0) :
  Calls Try.prog 24 #[.slice A0 l.length c0, .func (.func 25) #[] #[]] w fun e w'=>e = .returned (.bool (l.all (fun p=>lotsB p.f1))) ∧ Below w.heap.size w w':=by
 have HR:=Aside0.mk hr0
 have HRES:=Aside0.mk (show (l.drop 0).all (fun p=>lotsB p.f1) = l.all (fun p=>lotsB p.f1) from by rw [List.drop_zero])
 generalize l.all (fun p=>lotsB p.f1) = res at *
 clear hr0
 go_enter Try.func24, Try.ntmps24
 go_wp2_with fail
 go_loopw [9] (fun v9 wr=>∃ i : Nat, i ≤ l.length ∧ v9 = .int .i64 (i : Int) ∧ Aside0 ((l.drop i).all (fun p=>lotsB p.f1) = res) ∧ Aside0 (Below w.heap.size w wr)) (fun v9 _=>l.length - (intOf v9).toNat)
 case atStart=>exact ⟨0, by omega, rfl, HRES, ⟨Below.refl _ _⟩⟩
 case round =>
  clear HRES
  obtain ⟨i, hi, rfl, HRES, HB⟩:=hrel
  by_cases hlt : i < l.length
  ·have hres:=HRES.out
   rw [drop_T43 l i hlt, List.all_cons] at hres
   obtain ⟨ad, e1, hx0, hx1, hx2⟩:=at_T43 (Kd.C_below HR.out HB.out) (i : Int) (by omega) (by omega)
   cases e1
   simp only [Int.toNat_natCast] at hx0 hx1 hx2
   have HCALL:=Aside0.mk (fun (W : World)=>two_any (rd_T43 l (i : Int)) W)
   generalize rd_T43 l (i : Int) = p at *
   have hlti : (i : Int) < (l.length : Int):=by omega
   cases hb : lotsB p.f1 with
   | true =>
    rw [hb] at HCALL
    rw [hb, Bool.true_and] at hres
    have HRES2:=Aside0.mk hres
    clear hres HRES hb
    go_wp2_with fail
    refine (HCALL.out _).mono ?_
    rintro e w2 ⟨rfl, hbb⟩
    have HB2:=Aside0.mk (below_step (below_alloc HB.out _) hbb)
    clear hbb hx0 hx1 hx2 HB
    go_wp2
    go_roundw
    case measure=>show _ < _;simp [intOf];omega
    case rel=>exact ⟨i + 1, by omega, by go_num, HRES2, HB2⟩
   | false =>
    rw [hb] at HCALL
    rw [hb, Bool.false_and] at hres
    subst hres
    clear HRES hb
    go_wp2_with fail
    refine (HCALL.out _).mono ?_
    rintro e w2 ⟨rfl, hbb⟩
    have HB2:=Aside0.mk (below_step (below_alloc HB.out _) hbb)
    clear hbb hx0 hx1 hx2 HB
    go_wp2
    go_ret
    exact ⟨rfl, HB2.out⟩
  ·obtain rfl : i = l.length:=by omega
   have hres:=HRES.out
   rw [List.drop_length] at hres
   have hres : true = res:=hres
   subst hres
   go_wp2
   go_ret
   exact ⟨rfl, HB.out⟩
theorem add_block (a : Addr) (n : Nat) : (a.add n).block = a.block:=by
 unfold Addr.add;split <;> rfl
theorem kept_cell {w w' : World} {b : Nat} {a : Addr} {v : Value} (hg : w.grownBy w' (some b)) (hne : a.block ≠ b) (h : w.cell? a = some v) : w'.cell? a = some v :=
 (World.cell?_of_block (w:=w) (hg.block a.block (World.block_lt_of_cell? _ _ h) (fun e=>hne (Option.some.inj e)))).trans h
set_option maxHeartbeats 8000000 in
set_option maxRecDepth 100000 in
theorem each_once (A0 : Option Addr) (c0 : Nat) (l : List S43) (gs go b : Nat) (w : World) (hl : l.length ≤ 1024) (hr0 : Kd.C k43 w A0 l.length l) (hc0 : l.length ≤ c0) (hA : ∀ a, A0 = some a → a.block ≠ b) (h1 : w.heap[gs]? = some (.cells #[.map (some b)] 64 (0, 0))) (hs : Seen w b []) (h2 : w.heap[go]? = some (.cells #[.func (.func 23) #[] #[.pointer (some ⟨gs, 0, none⟩)]] 67 (0, 0))) :
  Calls Try.prog 24 #[.slice A0 l.length c0, .func (.func 27) #[] #[.pointer (some ⟨go, 0, none⟩)]] w fun e w'=>e = .returned (.bool (distGo [] l)) ∧ w.grownBy w' (some b):=by
 have hgsb : gs ≠ b:=by
  obtain ⟨es, clock, h3, _⟩:=hs
  rintro rfl
  rw [h1] at h3;cases h3
 have hgob : go ≠ b:=by
  obtain ⟨es, clock, h3, _⟩:=hs
  rintro rfl
  rw [h2] at h3;cases h3
 have HR:=Aside0.mk hr0
 have HS:=Aside0.mk hs
 have H1:=Aside0.mk h1
 have H2:=Aside0.mk h2
 have HAD:=Aside0.mk hA
 have HRES:=Aside0.mk (show distGo [] (l.drop 0) = distGo [] l from by rw [List.drop_zero])
 generalize distGo [] l = res at *
 clear hr0 hs h1 h2 hA
 go_enter Try.func24, Try.ntmps24
 go_wp2_with fail
 go_loopw [9] (fun v9 wr=>∃ (i : Nat) (ks : List S39), i ≤ l.length ∧ v9 = .int .i64 (i : Int) ∧ Aside0 (distGo ks (l.drop i) = res) ∧ Aside0 (Seen wr b ks) ∧ Aside0 (w.grownBy wr (some b))) (fun v9 _=>l.length - (intOf v9).toNat)
 case atStart=>exact ⟨0, [], by omega, rfl, HRES, HS, ⟨⟨rfl, rfl, rfl, Nat.le_refl _, fun _ _ _=>rfl⟩⟩⟩
 case round =>
  clear HRES HS
  obtain ⟨i, ks, hi, rfl, HRES, HS, HG⟩:=hrel
  by_cases hlt : i < l.length
  ·have hres:=HRES.out
   rw [drop_T43 l i hlt, distGo] at hres
   obtain ⟨ad, e1, hx0, hx1, hx2⟩:=at_T43 HR.out (i : Int) (by omega) (by omega)
   have hab:=HAD.out ad e1
   cases e1
   simp only [Int.toNat_natCast] at hx0 hx1 hx2
   replace hx0:=kept_cell HG.out (by first | exact hab | (rw [add_block];exact hab)) hx0
   replace hx1:=kept_cell HG.out (by first | exact hab | (show (ad.add _).block ≠ b;rw [add_block];exact hab)) hx1
   replace hx2:=kept_cell HG.out (by first | exact hab | (show (ad.add _).block ≠ b;rw [add_block];exact hab)) hx2
   have h1r:=blk_grown H1.out HG.out (by intro e;exact hgsb (Option.some.inj e))
   have h2r:=blk_grown H2.out HG.out (by intro e;exact hgob (Option.some.inj e))
   have HCALL:=Aside0.mk (fun (o : Obj)=>three_any (rd_T43 l (i : Int)) go gs b 0 ks (wr.alloc o) (wr.alloc o) (Below.refl _ _) (Nat.zero_le _) (Nat.zero_le _) (Nat.zero_le _) (blk_alloc h1r o) (seen_kept HS.out (fun h=>blk_alloc h o)) (blk_alloc h2r o))
   unfold nextK at HCALL
   generalize rd_T43 l (i : Int) = p at *
   have hlti : (i : Int) < (l.length : Int):=by omega
   clear h1r h2r
   cases hb : ks.any (accEq p.f0) with
   | false =>
    rw [hb] at HCALL
    rw [hb, if_neg (by decide)] at hres
    have HRES2:=Aside0.mk hres
    rw [if_neg (by decide)] at HCALL
    clear hres HRES hb
    go_wp2_with fail
    refine (HCALL.out _).mono ?_
    rintro e w2 ⟨rfl, hs2, hg2⟩
    have HS2:=Aside0.mk hs2
    have HG2:=Aside0.mk (HG.out.andThen ((World.grownBy_alloc wr _ (some b)).andThen hg2 (fun j hj=>.inr hj)) (fun j hj=>.inr hj))
    clear hs2 hg2 hx0 hx1 hx2 HG HS
    go_wp2
    go_roundw
    case measure=>show _ < _;simp [intOf];omega
    case rel=>exact ⟨i + 1, ks ++ [p.f0], by omega, by go_num, HRES2, HS2, HG2⟩
   | true =>
    rw [hb] at HCALL
    rw [hb, if_pos rfl] at hres
    rw [if_pos rfl] at HCALL
    subst hres
    clear HRES hb
    go_wp2_with fail
    refine (HCALL.out _).mono ?_
    rintro e w2 ⟨rfl, hs2, hg2⟩
    have HG2:=Aside0.mk (HG.out.andThen ((World.grownBy_alloc wr _ (some b)).andThen hg2 (fun j hj=>.inr hj)) (fun j hj=>.inr hj))
    clear hs2 hg2 hx0 hx1 hx2 HG HS
    go_wp2
    go_ret
    exact ⟨rfl, HG2.out⟩
  ·obtain rfl : i = l.length:=by omega
   have hres:=HRES.out
   rw [List.drop_length] at hres
   have hres : true = res:=hres
   subst hres
   go_wp2
   go_ret
   exact ⟨rfl, HG.out⟩
theorem store_new (P : Program) (V : World) (x v : Value) (t : TypeId) (hv : v.oneCell' = true) : (store ⟨V.heap.size, 0, none⟩ v).run P (V.alloc (.cells #[x] t)) = .ok () (V.alloc (.cells #[v] t)):=by
 have hc:=(blk_cell (blk_new V (.cells #[x] t)) 0).trans (rfl : _ = some x)
 have hf:=blk_frozen (blk_new V (.cells #[x] t)) 0
 rw [run_store P _ _ _ _ hv]
 simp [hc, hf, World.setCell_alloc_at]
set_option maxHeartbeats 8000000 in
set_option maxRecDepth 100000 in
theorem parted_long (A0 : Option Addr) (c0 : Nat) (l : List S43) (qty : Int) (w : World) (h : l.length = 0 ∨ l.length > 1024) :
  Calls Try.prog 12 #[.int .i64 qty, .slice A0 l.length c0] w fun e w'=>e = .returned (.int .i64 8) ∧ Below w.heap.size w w':=by
 have hmf : ∀ (fn : Fn) (first cap : Array Value) (w : World), (Instr.makeFunc fn first cap).run Try.prog w = .ok (.func fn first cap) w:=fun _ _ _ _=>rfl
 have hmm:=@run_makeMap Try.prog
 have hst : (store ⟨w.heap.size + 1 + 1, 0, none⟩ (.func (.func 23) #[] #[.pointer (some ⟨w.heap.size + 1, 0, none⟩)])).run Try.prog (((w.alloc (.map #[] 0)).alloc (.cells #[.map (some w.heap.size)] 64)).alloc (.cells #[.nilFunc] 67)) = .ok () (((w.alloc (.map #[] 0)).alloc (.cells #[.map (some w.heap.size)] 64)).alloc (.cells #[.func (.func 23) #[] #[.pointer (some ⟨w.heap.size + 1, 0, none⟩)]] 67)):=by
  have h:=store_new Try.prog ((w.alloc (.map #[] 0)).alloc (.cells #[.map (some w.heap.size)] 64)) .nilFunc (.func (.func 23) #[] #[.pointer (some ⟨w.heap.size + 1, 0, none⟩)]) 67 rfl
  rw [show ((w.alloc (.map #[] 0)).alloc (.cells #[.map (some w.heap.size)] 64)).heap.size = w.heap.size + 1 + 1 by simp] at h
  exact h
 generalize l.length = n at *
 by_cases h0 : n = 0
 ·subst h0
  clear h
  go_enter Try.func12, Try.ntmps12
  go_wp2_with fail
  go_ret
  exact ⟨rfl, below_alloc (below_alloc (below_alloc (Below.refl _ _) _) _) _⟩
 ·have e1 : (n == 0) = false:=beq_eq_false_iff_ne.2 h0
  have e2 : ((n : Int) == 0) = false:=by simp;omega
  have e3 : decide (1024 < (n : Int)) = true:=decide_eq_true (by omega)
  have e4 : decide (1024 < n) = true:=decide_eq_true (by omega)
  clear h h0
  go_enter Try.func12, Try.ntmps12
  go_wp2_with fail
  go_ret
  exact ⟨rfl, below_alloc (below_alloc (below_alloc (Below.refl _ _) _) _) _⟩
set_option maxHeartbeats 16000000 in
set_option maxRecDepth 100000 in
theorem parted_main (A0 : Option Addr) (c0 : Nat) (l : List S43) (qty r : Int) (w : World) (hr0 : Kd.C k43 w A0 l.length l) (hc0 : l.length ≤ c0) (h : ¬ (l.length = 0 ∨ l.length > 1024)) (hr : (if l.all (fun p=>lotsB p.f1) = true then (if sumQ l = qty then (if distGo [] l = true then 0 else 21) else 18) else 18) = r) :
  Calls Try.prog 12 #[.int .i64 qty, .slice A0 l.length c0] w fun e w'=>e = .returned (.int .i64 r) ∧ Below w.heap.size w w':=by
 have hmf : ∀ (fn : Fn) (first cap : Array Value) (w : World), (Instr.makeFunc fn first cap).run Try.prog w = .ok (.func fn first cap) w:=fun _ _ _ _=>rfl
 have hmm:=@run_makeMap Try.prog
 have hst : (store ⟨w.heap.size + 1 + 1, 0, none⟩ (.func (.func 23) #[] #[.pointer (some ⟨w.heap.size + 1, 0, none⟩)])).run Try.prog (((w.alloc (.map #[] 0)).alloc (.cells #[.map (some w.heap.size)] 64)).alloc (.cells #[.nilFunc] 67)) = .ok () (((w.alloc (.map #[] 0)).alloc (.cells #[.map (some w.heap.size)] 64)).alloc (.cells #[.func (.func 23) #[] #[.pointer (some ⟨w.heap.size + 1, 0, none⟩)]] 67)):=by
  have h:=store_new Try.prog ((w.alloc (.map #[] 0)).alloc (.cells #[.map (some w.heap.size)] 64)) .nilFunc (.func (.func 23) #[] #[.pointer (some ⟨w.heap.size + 1, 0, none⟩)]) 67 rfl
  rw [show ((w.alloc (.map #[] 0)).alloc (.cells #[.map (some w.heap.size)] 64)).heap.size = w.heap.size + 1 + 1 by simp] at h
  exact h
 have e1 : (l.length == 0) = false:=beq_eq_false_iff_ne.2 (by omega)
 have e2 : ((l.length : Int) == 0) = false:=beq_eq_false_iff_ne.2 (by omega)
 have e3 : decide (1024 < (l.length : Int)) = false:=decide_eq_false (by omega)
 have e4 : decide (1024 < l.length) = false:=decide_eq_false (by omega)
 have hl : l.length ≤ 1024:=by omega
 have hA : ∀ a, A0 = some a → a.block ≠ w.heap.size:=by
  intro a ha
  subst ha
  obtain ⟨ad, e, hx, _⟩:=at_T43 hr0 0 (by omega) (by omega)
  cases e
  have:=World.block_lt_of_cell? _ _ hx
  rw [add_block] at this
  omega
 have hEL:=fun (W : World) (hB : Below w.heap.size w W)=>each_lots A0 c0 l W hl (Kd.C_below hr0 hB) hc0
 have hEO:=fun (W : World) (gs go : Nat) (hB : Below w.heap.size w W)=>each_once A0 c0 l gs go w.heap.size W hl (Kd.C_below hr0 hB) hc0 hA
 have hQ : l.all (fun p=>lotsB p.f1) = true → ∀ W : World, Below w.heap.size w W → Calls Try.prog 26 #[.slice A0 l.length c0] W fun e w'=>e = .returned (.int .i64 (sumQ l)) ∧ Below W.heap.size W w':=fun ha W hB=>by
  obtain ⟨k, hk⟩:=qty_val l hl ha
  exact giveup_shares_qty.calls k A0 c0 l (sumQ l) W (Kd.C_below hr0 hB) hc0 hk
 have hs0 : Seen (((w.alloc (.map #[] 0)).alloc (.cells #[.map (some w.heap.size)] 64)).alloc (.cells #[.func (.func 23) #[] #[.pointer (some ⟨w.heap.size + 1, 0, none⟩)]] 67)) w.heap.size []:=seen_kept (seen_made w) (fun h=>blk_alloc (blk_alloc h _) _)
 have h1 : (((w.alloc (.map #[] 0)).alloc (.cells #[.map (some w.heap.size)] 64)).alloc (.cells #[.func (.func 23) #[] #[.pointer (some ⟨w.heap.size + 1, 0, none⟩)]] 67)).heap[w.heap.size + 1]? = some (.cells #[.map (some w.heap.size)] 64 (0, 0)):=blk_alloc (by rw [show w.heap.size + 1 = (w.alloc (.map #[] 0)).heap.size by simp];exact blk_new _ _) _
 have h2 : (((w.alloc (.map #[] 0)).alloc (.cells #[.map (some w.heap.size)] 64)).alloc (.cells #[.func (.func 23) #[] #[.pointer (some ⟨w.heap.size + 1, 0, none⟩)]] 67)).heap[w.heap.size + 2]? = some (.cells #[.func (.func 23) #[] #[.pointer (some ⟨w.heap.size + 1, 0, none⟩)]] 67 (0, 0)):=by
  rw [show w.heap.size + 2 = ((w.alloc (.map #[] 0)).alloc (.cells #[.map (some w.heap.size)] 64)).heap.size by simp];exact blk_new _ _
 have hB3 : Below w.heap.size w (((w.alloc (.map #[] 0)).alloc (.cells #[.map (some w.heap.size)] 64)).alloc (.cells #[.func (.func 23) #[] #[.pointer (some ⟨w.heap.size + 1, 0, none⟩)]] 67)):=below_alloc (below_alloc (below_alloc (Below.refl _ _) _) _) _
 have EL:=Aside0.mk hEL
 have EO:=Aside0.mk hEO
 have QQ:=Aside0.mk hQ
 have HS:=Aside0.mk hs0
 have H1:=Aside0.mk h1
 have H2:=Aside0.mk h2
 have HB:=Aside0.mk hB3
 clear hEL hEO hQ hs0 h1 h2 hB3 hr0 hA h
 go_enter Try.func12, Try.ntmps12
 go_wp2_with fail
 have hEL:=EL.out _ HB.out
 cases hb : l.all (fun p=>lotsB p.f1) with
 | false =>
  rw [hb] at hEL
  rw [hb, if_neg (by decide)] at hr
  subst hr
  clear QQ EO
  refine hEL.mono ?_
  rintro e w4 ⟨rfl, hbb⟩
  have HB4:=Aside0.mk (below_step HB.out hbb)
  clear hbb hEL
  go_wp2
  go_ret
  exact ⟨rfl, HB4.out⟩
 | true =>
  rw [hb] at hEL
  rw [hb, if_pos rfl] at hr
  have HQ:=Aside0.mk (QQ.out hb)
  clear QQ
  refine hEL.mono ?_
  rintro e w4 ⟨rfl, hbb⟩
  have HB4:=Aside0.mk (below_step HB.out hbb)
  have H14:=Aside0.mk (blk_below H1.out hbb)
  have H24:=Aside0.mk (blk_below H2.out hbb)
  have HS4:=Aside0.mk (seen_kept HS.out (fun h=>blk_below h hbb))
  clear hbb hEL HS H1 H2
  by_cases hq : sumQ l = qty
  ·rw [if_pos hq] at hr
   have dq : (sumQ l != qty) = false:=bne_eq_false_iff_eq.2 hq
   have hEO:=fun W gs go=>EO.out W gs go
   generalize sumQ l = q at *
   go_wp2_with (go_at_call 26;(with_reducible refine (HQ.out _ HB4.out).mono ?_);rintro e w5 ⟨rfl, hbb⟩;have HB5:=Aside0.mk (below_step HB4.out hbb);have H15:=Aside0.mk (blk_below H14.out hbb);have H25:=Aside0.mk (blk_below H24.out hbb);have HS5:=Aside0.mk (seen_kept HS4.out (fun h=>blk_below h hbb));clear hbb)
   have hres:=EO.out _ _ _ HB5.out H15.out HS5.out H25.out
   cases hd : distGo [] l with
   | true =>
    rw [hd] at hres
    rw [hd, if_pos rfl] at hr
    subst hr
    refine hres.mono ?_
    rintro e w6 ⟨rfl, hg⟩
    have HB6:=Aside0.mk (HB5.out.grown hg HB5.out.size (fun j hj=>by cases hj;exact Nat.le_refl _))
    clear hg hres
    go_wp2
    go_ret
    exact ⟨rfl, HB6.out⟩
   | false =>
    rw [hd] at hres
    rw [hd, if_neg (by decide)] at hr
    subst hr
    refine hres.mono ?_
    rintro e w6 ⟨rfl, hg⟩
    have HB6:=Aside0.mk (HB5.out.grown hg HB5.out.size (fun j hj=>by cases hj;exact Nat.le_refl _))
    clear hg hres
    go_wp2
    go_ret
    exact ⟨rfl, HB6.out⟩
  ·rw [if_neg hq] at hr
   subst hr
   have dq : (sumQ l != qty) = true:=bne_iff_ne.2 hq
   generalize sumQ l = q at *
   go_wp2_with (go_at_call 26;(with_reducible refine (HQ.out _ HB4.out).mono ?_);rintro e w5 ⟨rfl, hbb⟩;have HB5:=Aside0.mk (below_step HB4.out hbb);clear hbb)
   go_ret
   exact ⟨rfl, HB5.out⟩
theorem giveup_parted.calls (a0 : Int) (A1 : Option Addr) (c1 : Nat) (l1 : List S43) (r : Int) (w : World) (hr1 : Kd.C k43 w A1 l1.length l1) (hc1 : l1.length ≤ c1) (h : giveup_parted.f a0 l1 = some r) :
  Calls Try.prog 12 #[.int .i64 a0, .slice A1 l1.length c1] w fun e w'=>e = .returned (.int .i64 r) ∧ Below w.heap.size w w':=by
 have h:=Option.some.inj h
 unfold partV at h
 by_cases hc : l1.length = 0 ∨ l1.length > 1024
 ·rw [if_pos hc] at h
  subst h
  exact parted_long A1 c1 l1 a0 w hc
 ·rw [if_neg hc] at h
  exact parted_main A1 c1 l1 a0 r w hr1 hc1 hc h

/-! ### share_money: function 29 -/
def share_money.f (a0 : Int) : Option (Bool):=if a0 ≥ 0 then (some (decide (a0 ≤ 1152921504606846976))) else (some false)
set_option maxHeartbeats 8000000 in
set_option maxRecDepth 100000 in
theorem share_money.calls (a0 : Int) (r : Bool) (w : World) (h : share_money.f a0 = some r) :
  Calls Try.prog 29 #[.int .i64 a0] w fun e w'=>e = .returned (.bool r) ∧ Drawn0 w w':=by
 have H : (if a0 ≥ 0 then (some (decide (a0 ≤ 1152921504606846976))) else (some false)) = some r:=h
 clear h
 by_cases c2 : a0 ≥ 0
 ·rw [if_pos c2] at H
  have c2b0 : decide (0 ≤ a0) = true:=decide_eq_true c2
  clear c2
  obtain rfl:=Option.some.inj H
  go_enter Try.func29, Try.ntmps29
  go_wp2
  go_ret
  exact ⟨by first | rfl | (simp;done) | (simp [*];done), by repeat (first | exact Drawn0.refl _ | apply Drawn0.step)⟩
 ·rw [if_neg c2] at H
  have c2b0 : decide (0 ≤ a0) = false:=decide_eq_false c2
  clear c2
  obtain rfl:=Option.some.inj H
  go_enter Try.func29, Try.ntmps29
  go_wp2
  go_ret
  exact ⟨by first | rfl | (simp;done) | (simp [*];done), by repeat (first | exact Drawn0.refl _ | apply Drawn0.step)⟩

/-! ### share_weighed: function 30 -/
def share_weighed.l0 : Nat → Int → List Int → Int → Int → Option (Int × Int)
 | 0, _, _, _, _=>none
 | k + 1, x2, x9, x10, x11=>if x11 < x10 then (if 0 ≤ x11 then (if x11 < (x9.length : Int) then ((share_money.f (rd x9 x11)).bind fun t126=>(if t126 = true then (if (rd x9 x11) > (wrap64 (1152921504606846976 - x2)) then (some (0, 26)) else (share_weighed.l0 k (wrap64 (x2 + (rd x9 x11))) x9 x10 (wrap64 (x11 + 1)))) else (some (0, 26)))) else (none)) else (none)) else (some (x2, 0))
def share_weighed.f (k : Nat) (l0 : List Int) : Option (Int × Int):=if (l0.length : Int) > 1024 then (some (0, 8)) else (share_weighed.l0 k 0 l0 (l0.length : Int) 0)
theorem share_weighed.mono_l : ∀ k, (∀ y0 y1 y2 y3, LeO (share_weighed.l0 k y0 y1 y2 y3) (share_weighed.l0 (k + 1) y0 y1 y2 y3))
 | 0=>fun _ _ _ _ r h=>by simp [share_weighed.l0] at h
 | k + 1=>by
  have ih0:=share_weighed.mono_l k
  ·intro y0 y1 y2 y3
   unfold share_weighed.l0
   repeat' first
   | (with_reducible exact ih0 _ _ _ _)
   | (with_reducible exact LeO.refl _)
   | (with_reducible exact LeO.none _)
   | (with_reducible refine LeO.ite ?_ ?_)
   | (with_reducible refine LeO.bind ?_ (fun _=>?_))
   | exact ih0 _ _ _ _
   | exact LeO.none _
   | refine LeO.ite ?_ ?_
   | refine LeO.bind ?_ (fun _=>?_)
theorem share_weighed.mono : ∀ a0 k, LeO (share_weighed.f k a0) (share_weighed.f (k + 1) a0):=by
 intro a0 k
 have ih0:=share_weighed.mono_l k
 unfold share_weighed.f
 repeat' first
   | (with_reducible exact ih0 _ _ _ _)
   | (with_reducible exact LeO.refl _)
   | (with_reducible exact LeO.none _)
   | (with_reducible refine LeO.ite ?_ ?_)
   | (with_reducible refine LeO.bind ?_ (fun _=>?_))
   | exact ih0 _ _ _ _
   | exact LeO.none _
   | refine LeO.ite ?_ ?_
   | refine LeO.bind ?_ (fun _=>?_)
set_option maxHeartbeats 8000000 in
set_option maxRecDepth 100000 in
theorem share_weighed.calls (k : Nat) (A0 : Option Addr) (c0 : Nat) (l0 : List Int) (r1 : Int) (r2 : Int) (w : World) (hr0 : Kd.C (Kd.int .i64) w A0 l0.length l0) (hc0 : l0.length ≤ c0) (h : share_weighed.f k l0 = some (r1, r2)) :
  Calls Try.prog 30 #[.slice A0 l0.length c0] w fun e w'=>e = .returned (.tuple #[.int .i64 r1, .int .i64 r2]) ∧ Drawn0 w w':=by
 have HR0:=Aside0.mk hr0
 have HC0:=Aside0.mk hc0
 clear hr0 hc0
 have H : (if (l0.length : Int) > 1024 then (some (0, 8)) else (share_weighed.l0 k 0 l0 (l0.length : Int) 0)) = some (r1, r2):=h
 clear h
 by_cases c2 : (l0.length : Int) > 1024
 ·rw [if_pos c2] at H
  have c2b0 : decide (1024 < (l0.length : Int)) = true:=decide_eq_true c2
  have c2b1 : decide (1024 < l0.length) = true:=decide_eq_true (by omega)
  clear c2
  simp only [Option.some.injEq, Prod.mk.injEq] at H
  obtain ⟨rfl, rfl⟩:=H
  go_enter Try.func30, Try.ntmps30
  go_wp2
  go_ret2
  exact ⟨by first | rfl | (simp;done) | (simp [*];done), by repeat (first | exact Drawn0.refl _ | apply Drawn0.step)⟩
 ·rw [if_neg c2] at H
  have c2b0 : decide (1024 < (l0.length : Int)) = false:=decide_eq_false c2
  have c2b1 : decide (1024 < l0.length) = false:=decide_eq_false (by omega)
  clear c2
  have H':=Aside0.mk H
  clear H
  go_enter Try.func30, Try.ntmps30
  go_wp2
  go_loopg [2, 11] k (fun kq v2 v11 w'=>∃ (x2_1 : Int) (x11_1 : Int), v2 = .int .i64 x2_1 ∧ v11 = .int .i64 x11_1 ∧ Aside0 (share_weighed.l0 kq x2_1 l0 (l0.length : Int) x11_1 = some (r1, r2)) ∧ Aside0 (kq ≤ k) ∧ Drawn0 w w')
  case atStart=>exact ⟨(0), (0), (by first | rfl | (simp;done) | (simp [*];done)), (by first | rfl | (simp;done) | (simp [*];done)), H', ⟨Nat.le_refl _⟩, by repeat (first | exact Drawn0.refl _ | apply Drawn0.step)⟩
  case round =>
   clear H'
   try clear c2
   try clear c2b0
   try clear c2b1
   try clear p2
   obtain ⟨x2_1, x11_1, rfl, rfl, HA, HK1, ⟨m1, rfl⟩⟩:=hrel
   cases gk with
   | zero=>exact absurd HA.out (by simp [share_weighed.l0])
   | succ k1 =>
    have H:=HA.out
    clear HA
    simp only [share_weighed.l0] at H
    by_cases c3 : x11_1 < (l0.length : Int)
    ·rw [if_pos c3] at H
     have c3b0 : decide (x11_1 < (l0.length : Int)) = true:=decide_eq_true c3
     clear c3
     by_cases c4 : 0 ≤ x11_1
     ·rw [if_pos c4] at H
      have c4b0 : decide (0 ≤ x11_1) = true:=decide_eq_true c4
      clear c4
      by_cases c5 : x11_1 < (l0.length : Int)
      ·rw [if_pos c5] at H
       have c5b0 : decide (x11_1 < (l0.length : Int)) = true:=decide_eq_true c5
       clear c5
       replace H:=Option.bind_eq_some_iff.mp H
       obtain ⟨t126, A60, H⟩:=H
       replace H : (if t126 = true then (if (rd l0 x11_1) > (wrap64 (1152921504606846976 - x2_1)) then (some (0, 26)) else (share_weighed.l0 k1 (wrap64 (x2_1 + (rd l0 x11_1))) l0 (l0.length : Int) (wrap64 (x11_1 + 1)))) else (some (0, 26))) = some (r1, r2):=H
       have A6:=Aside0.mk A60
       clear A60
       by_cases c7 : t126 = true
       ·subst c7
        have H1 : (if (rd l0 x11_1) > (wrap64 (1152921504606846976 - x2_1)) then (some (0, 26)) else (share_weighed.l0 k1 (wrap64 (x2_1 + (rd l0 x11_1))) l0 (l0.length : Int) (wrap64 (x11_1 + 1)))) = some (r1, r2):=by rw [if_pos rfl] at H;exact H
        clear H
        have H:=H1
        clear H1
        by_cases c8 : (rd l0 x11_1) > (wrap64 (1152921504606846976 - x2_1))
        ·rw [if_pos c8] at H
         have c8b0 : decide ((wrap64 (1152921504606846976 - x2_1)) < (rd l0 x11_1)) = true:=decide_eq_true c8
         clear c8
         simp only [Option.some.injEq, Prod.mk.injEq] at H
         obtain ⟨rfl, rfl⟩:=H
         have p125 : 0 ≤ (x11_1 : Int):=of_decide_eq_true (by first | (with_reducible assumption) | assumption)
         have q125 : x11_1 < (l0.length : Int):=of_decide_eq_true (by first | (with_reducible assumption) | assumption)
         obtain ⟨ad125, e125, hx125_0⟩:=Kd.at_int HR0.out x11_1 p125 q125
         cases e125
         replace p125:=eq_true p125
         replace q125:=eq_true q125
         go_wp2_with (first | ((with_reducible refine gate_callee (f:=29) rfl ?_);refine goesL_ (some 16) rfl rfl Try.func29 (by kernel_rfl) rfl #[.int .i64 (rd l0 x11_1)] rfl (by (try simp only [List.map_toArray, List.map_cons, List.map_nil]);first | done | rfl | (simp only [List.length_drop, List.length_take];rfl)) ?_;(with_reducible refine (share_money.calls (rd l0 x11_1) true _ A6.out).mono ?_);rintro e w' ⟨rfl, ⟨nd, rfl⟩⟩;refine ⟨_, rfl, ?_⟩))
         go_ret2
         exact ⟨by first | rfl | (simp;done) | (simp [*];done), by repeat (first | exact Drawn0.refl _ | apply Drawn0.step)⟩
        ·rw [if_neg c8] at H
         have c8b0 : decide ((wrap64 (1152921504606846976 - x2_1)) < (rd l0 x11_1)) = false:=decide_eq_false c8
         clear c8
         have H':=Aside0.mk H
         clear H
         have p125 : 0 ≤ (x11_1 : Int):=of_decide_eq_true (by first | (with_reducible assumption) | assumption)
         have q125 : x11_1 < (l0.length : Int):=of_decide_eq_true (by first | (with_reducible assumption) | assumption)
         obtain ⟨ad125, e125, hx125_0⟩:=Kd.at_int HR0.out x11_1 p125 q125
         cases e125
         replace p125:=eq_true p125
         replace q125:=eq_true q125
         go_wp2_with (first | ((with_reducible refine gate_callee (f:=29) rfl ?_);refine goesL_ (some 16) rfl rfl Try.func29 (by kernel_rfl) rfl #[.int .i64 (rd l0 x11_1)] rfl (by (try simp only [List.map_toArray, List.map_cons, List.map_nil]);first | done | rfl | (simp only [List.length_drop, List.length_take];rfl)) ?_;(with_reducible refine (share_money.calls (rd l0 x11_1) true _ A6.out).mono ?_);rintro e w' ⟨rfl, ⟨nd, rfl⟩⟩;refine ⟨_, rfl, ?_⟩))
         go_roundg k1
         case measure=>have:=HK1.out;omega
         case rel=>exact ⟨(wrap64 (x2_1 + (rd l0 x11_1))), (wrap64 (x11_1 + 1)), (by first | rfl | (simp;done) | (simp [*];done)), (by first | rfl | (simp;done) | (simp [*];done)), H', ⟨by have:=HK1.out;omega⟩, by repeat (first | exact Drawn0.refl _ | apply Drawn0.step)⟩
       ·replace c7:=Bool.eq_false_iff.mpr c7
        subst c7
        have H1 : (some (0, 26)) = some (r1, r2):=by rw [if_neg (show ¬ (false = true) by decide)] at H;exact H
        clear H
        have H:=H1
        clear H1
        simp only [Option.some.injEq, Prod.mk.injEq] at H
        obtain ⟨rfl, rfl⟩:=H
        have p125 : 0 ≤ (x11_1 : Int):=of_decide_eq_true (by first | (with_reducible assumption) | assumption)
        have q125 : x11_1 < (l0.length : Int):=of_decide_eq_true (by first | (with_reducible assumption) | assumption)
        obtain ⟨ad125, e125, hx125_0⟩:=Kd.at_int HR0.out x11_1 p125 q125
        cases e125
        replace p125:=eq_true p125
        replace q125:=eq_true q125
        go_wp2_with (first | ((with_reducible refine gate_callee (f:=29) rfl ?_);refine goesL_ (some 16) rfl rfl Try.func29 (by kernel_rfl) rfl #[.int .i64 (rd l0 x11_1)] rfl (by (try simp only [List.map_toArray, List.map_cons, List.map_nil]);first | done | rfl | (simp only [List.length_drop, List.length_take];rfl)) ?_;(with_reducible refine (share_money.calls (rd l0 x11_1) false _ A6.out).mono ?_);rintro e w' ⟨rfl, ⟨nd, rfl⟩⟩;refine ⟨_, rfl, ?_⟩))
        go_ret2
        exact ⟨by first | rfl | (simp;done) | (simp [*];done), by repeat (first | exact Drawn0.refl _ | apply Drawn0.step)⟩
      ·rw [if_neg c5] at H
       exact absurd H (by simp)
     ·rw [if_neg c4] at H
      exact absurd H (by simp)
    ·rw [if_neg c3] at H
     have c3b0 : decide (x11_1 < (l0.length : Int)) = false:=decide_eq_false c3
     clear c3
     simp only [Option.some.injEq, Prod.mk.injEq] at H
     obtain ⟨rfl, rfl⟩:=H
     go_wp2
     go_ret2
     exact ⟨by first | rfl | (simp;done) | (simp [*];done), by repeat (first | exact Drawn0.refl _ | apply Drawn0.step)⟩

/-! ### share_quotient: function 31 -/
def share_quotient.l0 : Nat → Int → Int → Int → Int → Int → Int → Option (Int × Int)
 | 0, _, _, _, _, _, _=>none
 | k + 1, x0, x1, x2, x6, x7, x9=>if x9 < 61 then (if 0 ≤ (wrap64 (60 - x9)) then (if (Go.bits .and .i64 (shr .i64 x1 (wrap64 (60 - x9))) 1) = 1 then (if x2 = 0 then (none) else (share_quotient.l0 k x0 x1 x2 (wrap64 ((wrap64 (2 * x6)) + (wrap64 (Int.tdiv (wrap64 ((wrap64 (2 * x7)) + x0)) x2)))) (Int.tmod (wrap64 ((wrap64 (2 * x7)) + x0)) x2) (wrap64 (x9 + 1)))) else (if x2 = 0 then (none) else (share_quotient.l0 k x0 x1 x2 (wrap64 ((wrap64 (2 * x6)) + (wrap64 (Int.tdiv (wrap64 (2 * x7)) x2)))) (Int.tmod (wrap64 (2 * x7)) x2) (wrap64 (x9 + 1))))) else (none)) else (some (x6, x7))
def share_quotient.f (k : Nat) (a0 : Int) (a1 : Int) (a2 : Int) : Option (Int × Int):=share_quotient.l0 k a0 a1 a2 0 0 0
theorem share_quotient.mono_l : ∀ k, (∀ y0 y1 y2 y3 y4 y5, LeO (share_quotient.l0 k y0 y1 y2 y3 y4 y5) (share_quotient.l0 (k + 1) y0 y1 y2 y3 y4 y5))
 | 0=>fun _ _ _ _ _ _ r h=>by simp [share_quotient.l0] at h
 | k + 1=>by
  have ih0:=share_quotient.mono_l k
  ·intro y0 y1 y2 y3 y4 y5
   unfold share_quotient.l0
   repeat' first
   | (with_reducible exact ih0 _ _ _ _ _ _)
   | (with_reducible exact LeO.refl _)
   | (with_reducible exact LeO.none _)
   | (with_reducible refine LeO.ite ?_ ?_)
   | (with_reducible refine LeO.bind ?_ (fun _=>?_))
   | exact ih0 _ _ _ _ _ _
   | exact LeO.none _
   | refine LeO.ite ?_ ?_
   | refine LeO.bind ?_ (fun _=>?_)
theorem share_quotient.mono : ∀ a0 a1 a2 k, LeO (share_quotient.f k a0 a1 a2) (share_quotient.f (k + 1) a0 a1 a2):=by
 intro a0 a1 a2 k
 have ih0:=share_quotient.mono_l k
 unfold share_quotient.f
 repeat' first
   | (with_reducible exact ih0 _ _ _ _ _ _)
   | (with_reducible exact LeO.refl _)
   | (with_reducible exact LeO.none _)
   | (with_reducible refine LeO.ite ?_ ?_)
   | (with_reducible refine LeO.bind ?_ (fun _=>?_))
   | exact ih0 _ _ _ _ _ _
   | exact LeO.none _
   | refine LeO.ite ?_ ?_
   | refine LeO.bind ?_ (fun _=>?_)
set_option maxHeartbeats 8000000 in
set_option maxRecDepth 100000 in
theorem share_quotient.calls (k : Nat) (a0 : Int) (a1 : Int) (a2 : Int) (r1 : Int) (r2 : Int) (w : World) (h : share_quotient.f k a0 a1 a2 = some (r1, r2)) :
  Calls Try.prog 31 #[.int .i64 a0, .int .i64 a1, .int .i64 a2] w fun e w'=>e = .returned (.tuple #[.int .i64 r1, .int .i64 r2]) ∧ Drawn0 w w':=by
 have H : (share_quotient.l0 k a0 a1 a2 0 0 0) = some (r1, r2):=h
 clear h
 have H':=Aside0.mk H
 clear H
 go_enter Try.func31, Try.ntmps31
 go_wp2
 go_loopg [6, 7, 9] k (fun kq v6 v7 v9 w'=>∃ (x6_1 : Int) (x7_1 : Int) (x9_1 : Int), v6 = .int .i64 x6_1 ∧ v7 = .int .i64 x7_1 ∧ v9 = .int .i64 x9_1 ∧ Aside0 (share_quotient.l0 kq a0 a1 a2 x6_1 x7_1 x9_1 = some (r1, r2)) ∧ Aside0 (kq ≤ k) ∧ Drawn0 w w')
 case atStart=>exact ⟨(0), (0), (0), (by first | rfl | (simp;done) | (simp [*];done)), (by first | rfl | (simp;done) | (simp [*];done)), (by first | rfl | (simp;done) | (simp [*];done)), H', ⟨Nat.le_refl _⟩, by repeat (first | exact Drawn0.refl _ | apply Drawn0.step)⟩
 case round =>
  clear H'
  try clear p2
  try clear c3
  obtain ⟨x6_1, x7_1, x9_1, rfl, rfl, rfl, HA, HK1, ⟨m1, rfl⟩⟩:=hrel
  cases gk with
  | zero=>exact absurd HA.out (by simp [share_quotient.l0])
  | succ k1 =>
   have H:=HA.out
   clear HA
   simp only [share_quotient.l0] at H
   by_cases c4 : x9_1 < 61
   ·rw [if_pos c4] at H
    have c4b0 : decide (x9_1 < 61) = true:=decide_eq_true c4
    clear c4
    obtain ⟨ji5, hji5⟩ : ∃ j_ : Int, (wrap64 (60 - x9_1)) = j_:=⟨_, rfl⟩
    replace H : (if 0 ≤ (ji5) then (if (Go.bits .and .i64 (shr .i64 a1 (ji5)) 1) = 1 then (if a2 = 0 then (none) else (share_quotient.l0 k1 a0 a1 a2 (wrap64 ((wrap64 (2 * x6_1)) + (wrap64 (Int.tdiv (wrap64 ((wrap64 (2 * x7_1)) + a0)) a2)))) (Int.tmod (wrap64 ((wrap64 (2 * x7_1)) + a0)) a2) (wrap64 (x9_1 + 1)))) else (if a2 = 0 then (none) else (share_quotient.l0 k1 a0 a1 a2 (wrap64 ((wrap64 (2 * x6_1)) + (wrap64 (Int.tdiv (wrap64 (2 * x7_1)) a2)))) (Int.tmod (wrap64 (2 * x7_1)) a2) (wrap64 (x9_1 + 1))))) else (none)) = some (r1, r2):=by first | (rw [hji5] at H;exact H) | (simp only [hji5] at H ⊢;exact H)
    have hji5w : (IntKind.i64.wrap (60 - x9_1)) = ji5:=(i64_w _).trans hji5
    by_cases c6 : 0 ≤ (ji5)
    ·rw [if_pos c6] at H
     have c6b0:=eq_true c6
     have c6b1 : decide (0 ≤ (ji5)) = true:=decide_eq_true c6
     clear c6
     obtain ⟨ji7, hji7⟩ : ∃ j_ : Int, (shr .i64 a1 (ji5)) = j_:=⟨_, rfl⟩
     replace H : (if (Go.bits .and .i64 (ji7) 1) = 1 then (if a2 = 0 then (none) else (share_quotient.l0 k1 a0 a1 a2 (wrap64 ((wrap64 (2 * x6_1)) + (wrap64 (Int.tdiv (wrap64 ((wrap64 (2 * x7_1)) + a0)) a2)))) (Int.tmod (wrap64 ((wrap64 (2 * x7_1)) + a0)) a2) (wrap64 (x9_1 + 1)))) else (if a2 = 0 then (none) else (share_quotient.l0 k1 a0 a1 a2 (wrap64 ((wrap64 (2 * x6_1)) + (wrap64 (Int.tdiv (wrap64 (2 * x7_1)) a2)))) (Int.tmod (wrap64 (2 * x7_1)) a2) (wrap64 (x9_1 + 1))))) = some (r1, r2):=by first | (rw [hji7] at H;exact H) | (simp only [hji7] at H ⊢;exact H)
     have hji7_ : (a1 / 2 ^ min (ji5).toNat 64) = ji7:=hji7
     have hji7z : (ji5) ≤ 64 → (a1 / 2 ^ (ji5).toNat) = ji7:=shr_small hji7
     by_cases c8 : (Go.bits .and .i64 (ji7) 1) = 1
     ·rw [if_pos c8] at H
      have c8b0 : ((Go.bits .and .i64 (ji7) 1) == 1) = true:=beq_iff_eq.mpr c8
      have c8b1 : ((Go.bits .and .i64 (ji7) 1) != 1) = false:=bne_eq_false_iff_eq.mpr c8
      clear c8
      by_cases c9 : a2 = 0
      ·rw [if_pos c9] at H
       exact absurd H (by simp)
      ·rw [if_neg c9] at H
       have c9b0 : (a2 == 0) = false:=beq_eq_false_iff_ne.mpr c9
       have c9b1 : (a2 != 0) = true:=bne_iff_ne.mpr c9
       have H':=Aside0.mk H
       clear H
       go_wp2
       go_roundg k1
       case measure=>have:=HK1.out;omega
       case rel=>exact ⟨(wrap64 ((wrap64 (2 * x6_1)) + (wrap64 (Int.tdiv (wrap64 ((wrap64 (2 * x7_1)) + a0)) a2)))), (Int.tmod (wrap64 ((wrap64 (2 * x7_1)) + a0)) a2), (wrap64 (x9_1 + 1)), (by first | rfl | (simp;done) | (simp [*];done)), (by first | rfl | (simp;done) | (simp [*];done)), (by first | rfl | (simp;done) | (simp [*];done)), H', ⟨by have:=HK1.out;omega⟩, by repeat (first | exact Drawn0.refl _ | apply Drawn0.step)⟩
     ·rw [if_neg c8] at H
      have c8b0 : ((Go.bits .and .i64 (ji7) 1) == 1) = false:=beq_eq_false_iff_ne.mpr c8
      have c8b1 : ((Go.bits .and .i64 (ji7) 1) != 1) = true:=bne_iff_ne.mpr c8
      by_cases c10 : a2 = 0
      ·rw [if_pos c10] at H
       exact absurd H (by simp)
      ·rw [if_neg c10] at H
       have c10b0 : (a2 == 0) = false:=beq_eq_false_iff_ne.mpr c10
       have c10b1 : (a2 != 0) = true:=bne_iff_ne.mpr c10
       have H':=Aside0.mk H
       clear H
       go_wp2
       go_roundg k1
       case measure=>have:=HK1.out;omega
       case rel=>exact ⟨(wrap64 ((wrap64 (2 * x6_1)) + (wrap64 (Int.tdiv (wrap64 (2 * x7_1)) a2)))), (Int.tmod (wrap64 (2 * x7_1)) a2), (wrap64 (x9_1 + 1)), (by first | rfl | (simp;done) | (simp [*];done)), (by first | rfl | (simp;done) | (simp [*];done)), (by first | rfl | (simp;done) | (simp [*];done)), H', ⟨by have:=HK1.out;omega⟩, by repeat (first | exact Drawn0.refl _ | apply Drawn0.step)⟩
    ·rw [if_neg c6] at H
     exact absurd H (by simp)
   ·rw [if_neg c4] at H
    have c4b0 : decide (x9_1 < 61) = false:=decide_eq_false c4
    clear c4
    simp only [Option.some.injEq, Prod.mk.injEq] at H
    obtain ⟨rfl, rfl⟩:=H
    go_wp2
    go_ret2
    exact ⟨by first | rfl | (simp;done) | (simp [*];done), by repeat (first | exact Drawn0.refl _ | apply Drawn0.step)⟩

-- NOT PRINTED: function 32 (share_Split_1)

end Go.Proofs.Ytlcadahihcefnaa.PTopAverage
