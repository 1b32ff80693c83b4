/- Laid for this claim by a program of this session's (wip/mkprint.py, wip/ext.py); not trusted: Lean checks it. -/
import Derived.Test.YtlkdilfheplmhaaPTopLossesx0
import Derived.Test.YtlkdilfheplmhaaPTopLossesx3
import Derived.Test.YtlkdilfheplmhaaPTopLossesx4
import Derived.Test.YtlkdilfheplmhaaPTopLossesx5
import Derived.Test.YtlkdilfheplmhaaPTopLossesx6
namespace Go.Proofs.Ytlkdilfheplmhaa.PTopLosses
open Go.RowKit Go.Proofs.YtlkdilfheplmhaaW.PrintWords Go.Proofs.YtlkdilfheplmhaaW.PrintLast Go.Proofs.YtlkdilfheplmhaaW.PrintMore
attribute [local go_sem] max2_int min2_int max_two min_two max_three min_three max_four min_four   -- for this text's walks alone
set_option linter.unusedVariables false
set_option linter.unusedSimpArgs false

/-! ### waterfall_Absorb: function 6 -/
theorem infoIntW : (Try.prog.info? 3).map (fun i=>(i.zero, i.size, i.bytes)) = some (some (.int .i64 0), 1, 8):=by kernel_rfl
def absGo (k : Nat) (has : List Int) : List Int → List Int → Int → Option (List Int × Int)
 | a :: b :: r, out, left=>if 0 < left then (if 0 ≤ a ∧ a < b ∧ b ≤ (has.length : Int) ∧ b ≤ (out.length : Int) then (takeF k left ((has.take b.toNat).drop a.toNat)).bind fun q=>if q.1.length ≤ b.toNat - a.toNat then absGo k has (b :: r) (overlay out a.toNat q.1) q.2 else none else none) else some (out, left)
 | _, out, left=>some (out, left)
def waterfall_Absorb.f (k : Nat) (a0 : Int) (l1 : List (S33)) : Option (List Int × Int × Int):=(waterfall_Check.f k l1).bind fun e=>if e = 0 then (waterfall_money.f a0).bind fun m=>if m = true then (if l1.length ≤ 1024 then (waterfall_amounts.f k l1).bind fun has=>(waterfall_turns.f k l1).bind fun at_=>if 0 < at_.length ∧ at_.length ≤ 1048576 then (absGo k has at_ (List.replicate l1.length 0) a0).bind fun q=>some (q.1, q.2, 0) else none else none) else some ([], 0, 2) else some ([], 0, e)
theorem absGo_none (k : Nat) (has l out : List Int) (left : Int) (h : ¬ 0 < left) : absGo k has l out left = some (out, left):=by
 match l with
 | []=>rfl
 | [_]=>rfl
 | a :: b :: r=>rw [absGo, if_neg h]
theorem absGo_short (k : Nat) (has l out : List Int) (left : Int) (h : l.length ≤ 1) : absGo k has l out left = some (out, left):=by
 match l, h with
 | [], _=>rfl
 | [_], _=>rfl
 | a :: b :: r, h=>simp at h
theorem rowR {w : World} {g base : Nat} {l : List Int} (hb : base ≤ g) (hl : l.length ≤ 1048576) (h : w.heap[g]? = some (.cells (nums .i64 l).toArray 3 (0, 0))) : Kd.R (Kd.int .i64) 3 w base (fun _=>True) (.slice (some ⟨g, 0, none⟩) l.length l.length) l :=
 Kd.R_of_own ⟨by simp [encs], .inr ⟨g, l.length, _, rfl, hb, h, Nat.le_refl _, by unfold maxLen;omega, by simp [nums], by rw [Nat.mul_one];exact (List.take_of_length_le (by simp [nums])).trans (by simp [nums, encs])⟩⟩ (fun _ _=>trivial)
theorem made_zero (n : Nat) : madeCells #[.int .i64 0] n = (nums .i64 (List.replicate n 0)).toArray:=by
 unfold madeCells nums
 apply Array.ext'
 simp only [Array.toList_map, Array.toList_range, List.map_replicate]
 apply List.ext_getElem
 ·simp
 ·intro i h1 h2
  simp [Nat.mod_one]
theorem apartR {w1 w2 : World} {b base g : Nat} {v : Value} {xs : List Int} (h : Kd.R (Kd.int .i64) 3 w1 b (fun _=>True) v xs) (hb : Below w1.heap.size w1 w2) (hbase : base ≤ b) (hne : ∀ k, b ≤ k → k < w1.heap.size → k ≠ g) : Kd.R (Kd.int .i64) 3 w2 base (fun k=>k ≠ g) v xs :=
 Kd.R_lower (Kd.R_below (Kd.R_mono (Kd.R_bound h) (fun k hk=>hne k hk.2.1 hk.2.2.1)) hb) hbase
set_option maxHeartbeats 16000000 in
set_option maxRecDepth 100000 in
theorem absorb_any (k : Nat) (a0 : Int) (A1 : Option Addr) (c1 : Nat) (l1 : List (S33)) (has at_ : List Int) (r1 : List Int) (r2 : Int) (w : World) (hr1 : Kd.C k33 w A1 l1.length l1) (hc1 : l1.length ≤ c1)
  (hck : waterfall_Check.f k l1 = some 0) (hmo : waterfall_money.f a0 = some true) (hlen : l1.length ≤ 1024) (ham : waterfall_amounts.f k l1 = some has) (htu : waterfall_turns.f k l1 = some at_) (hal : 0 < at_.length ∧ at_.length ≤ 1048576) (h : absGo k has at_ (List.replicate l1.length 0) a0 = some (r1, r2)) :
  Calls Try.prog 6 #[.int .i64 a0, .slice A1 l1.length c1] w fun e w'=>∃ v0_ : Value, e = .returned (.tuple #[v0_, .int .i64 r2, .int .i64 0]) ∧ Kd.R (Kd.int .i64) 3 w' w.heap.size (fun _=>True) v0_ r1 ∧ Below w.heap.size w w':=by
 have HR:=Aside0.mk hr1
 have HCK:=Aside0.mk hck
 have HMO:=Aside0.mk hmo
 have HAM:=Aside0.mk ham
 have HTU:=Aside0.mk htu
 have HRES:=Aside0.mk h
 have hmk : ∀ W : World, (Instr.makeSlice 26 (.int .i64 (l1.length : Int)) (.int .i64 (l1.length : Int))).run Try.prog W = .ok (.slice (some ⟨W.heap.size, 0, none⟩) l1.length l1.length) (W.alloc (.cells (nums .i64 (List.replicate l1.length 0)).toArray 3)):=by
  intro W
  have h:=run_make_row' (P:=Try.prog) 26 3 (.int .i64 0) 8 Try.underlying26 infoIntW rfl .i64 .i64 l1.length (by omega) (by omega) W
  rw [made_zero] at h
  exact h
 clear hr1 hck hmo ham htu h
 go_enter Try.func6, Try.ntmps6
 go_wp2_with fail
 refine (waterfall_Check.calls k A1 c1 l1 0 _ HR.out hc1 HCK.out).mono ?_
 rintro e w2 ⟨rfl, hb⟩
 have HB2:=Aside0.mk hb
 clear hb
 go_wp2_with fail
 refine (waterfall_money.calls a0 true _ HMO.out).mono ?_
 rintro e w3 ⟨rfl, ⟨⟨n3, rfl⟩⟩⟩
 have HB3:=Aside0.mk (pw_below_drewN HB2.out n3)
 clear HB2
 generalize w2.drewN n3 = w3 at *
 go_wp2_with fail
 go_cut [8, 9, 10] (fun v8 v9 v10 wc=>∃ (g c9 c10 : Nat) (A9 A10 : Option Addr), v8 = .slice (some ⟨g, 0, none⟩) l1.length l1.length ∧ v9 = .slice A9 has.length c9 ∧ v10 = .slice A10 at_.length c10 ∧ Aside0 (w.heap.size ≤ g) ∧ Aside0 (wc.heap[g]? = some (.cells (nums .i64 (List.replicate l1.length 0)).toArray 3 (0, 0))) ∧ Aside0 (Kd.R (Kd.int .i64) 3 wc w.heap.size (fun k=>k ≠ g) (.slice A9 has.length c9) has) ∧ Aside0 (Kd.R (Kd.int .i64) 3 wc w.heap.size (fun k=>k ≠ g) (.slice A10 at_.length c10) at_) ∧ Aside0 (Below w.heap.size w wc))
 case first =>
  go_region_with (first | (go_at_call 15;(with_reducible refine (waterfall_amounts.calls k A1 c1 l1 has _ (Kd.C_below HR.out (by repeat (first | exact HB3.out | exact HBA.out | exact HBT.out | apply below_drew1 | apply below_alloc))) hc1 HAM.out).mono ?_);rintro e wa ⟨va, rfl, hRa, hba⟩;obtain ⟨A9, c9, rfl⟩:=Kd.R_slice hRa;have HRA:=Aside0.mk hRa;have HDA:=Aside0.mk hba;have HBA:=Aside0.mk (below_step (by repeat (first | exact HB3.out | exact HBA.out | exact HBT.out | apply below_drew1 | apply below_alloc)) hba);clear hRa hba) | (go_at_call 16;(with_reducible refine (waterfall_turns.calls k A1 c1 l1 at_ _ (Kd.C_below HR.out (by repeat (first | exact HB3.out | exact HBA.out | exact HBT.out | apply below_drew1 | apply below_alloc))) hc1 HTU.out).mono ?_);rintro e wt ⟨vt, rfl, hRt, hbt⟩;obtain ⟨A10, c10, rfl⟩:=Kd.R_slice hRt;have HRT:=Aside0.mk hRt;have HDT:=Aside0.mk hbt;have HBT:=Aside0.mk (below_step (by repeat (first | exact HB3.out | exact HBA.out | exact HBT.out | apply below_drew1 | apply below_alloc)) hbt);clear hRt hbt))
  ·go_wp2
   go_meet
   case rel=>exact ⟨_, _, _, _, _, rfl, rfl, rfl, ⟨below_size HB3.out⟩, ⟨blk_below (blk_below (blk_new w3.drew _) HDA.out) HDT.out⟩, ⟨apartR HRA.out HDT.out (by have e0:=below_size HB3.out;have e1:=HDA.out.size;have e2:=HDT.out.size;simp at e0 e1 e2 ⊢;omega) (by intro k h1 h2;have e1:=HDA.out.size;have e2:=HDT.out.size;simp at h1 h2 e1 e2;omega)⟩, ⟨apartR HRT.out (Below.refl _ _) (by have e0:=below_size HB3.out;have e1:=HDA.out.size;have e2:=HDT.out.size;simp at e0 e1 e2 ⊢;omega) (by intro k h1 h2;have e1:=HDA.out.size;have e2:=HDT.out.size;simp at h1 h2 e1 e2;omega)⟩, HBT⟩
  ·go_wp2
   go_meet
   case rel=>exact ⟨_, _, _, _, _, rfl, rfl, rfl, ⟨below_size HBA.out⟩, ⟨blk_below (blk_new wa _) HDT.out⟩, ⟨apartR HRA.out (below_step (below_alloc (Below.refl wa.heap.size wa) _) HDT.out) (by have e0:=below_size HB3.out;have e1:=HDA.out.size;have e2:=HDT.out.size;simp at e0 e1 e2 ⊢;omega) (by intro k h1 h2;have e1:=HDA.out.size;have e2:=HDT.out.size;simp at h1 h2 e1 e2;omega)⟩, ⟨apartR HRT.out (Below.refl _ _) (by have e0:=below_size HB3.out;have e1:=HDA.out.size;have e2:=HDT.out.size;simp at e0 e1 e2 ⊢;omega) (by intro k h1 h2;have e1:=HDA.out.size;have e2:=HDT.out.size;simp at h1 h2 e1 e2;omega)⟩, HBT⟩
  ·go_wp2
   go_meet
   case rel=>exact ⟨_, _, _, _, _, rfl, rfl, rfl, ⟨below_size HBT.out⟩, ⟨blk_new wt _⟩, ⟨apartR HRA.out (below_step HDT.out (below_alloc (Below.refl wt.heap.size wt) _)) (by have e0:=below_size HB3.out;have e1:=HDA.out.size;have e2:=HDT.out.size;simp at e0 e1 e2 ⊢;omega) (by intro k h1 h2;have e1:=HDA.out.size;have e2:=HDT.out.size;simp at h1 h2 e1 e2;omega)⟩, ⟨apartR HRT.out (below_alloc (Below.refl wt.heap.size wt) _) (by have e0:=below_size HB3.out;have e1:=HDA.out.size;have e2:=HDT.out.size;simp at e0 e1 e2 ⊢;omega) (by intro k h1 h2;have e1:=HDA.out.size;have e2:=HDT.out.size;simp at h1 h2 e1 e2;omega)⟩, ⟨below_alloc HBT.out _⟩⟩
 case rest =>
  obtain ⟨g, c9, c10, A9, A10, rfl, rfl, rfl, HG, HZ, HRA, HRT, HB⟩:=hcut
  clear HB3
  generalize hZ : List.replicate l1.length (0 : Int) = zs at *
  go_wp2_with fail
  refine (taker_any wc.heap.size (some ⟨g, 0, none⟩) l1.length l1.length _).mono ?_
  rintro e w6 ⟨gb, gc, rfl, hgb, hgc, hb1, hc1', hb6⟩
  have hlg:=blk_lt HZ.out
  have hba:=below_alloc (Below.refl wc.heap.size wc) (.cells #[.int .i64 a0] 3)
  have hbs:=below_step hba hb6
  simp only [World.size_alloc] at hgb hgc
  have HB6:=Aside0.mk (below_step HB.out hbs)
  have HL:=Aside0.mk (blk_below (blk_new wc (.cells #[.int .i64 a0] 3)) hb6)
  have HO:=Aside0.mk (blk_below HZ.out hbs)
  have HH:=Aside0.mk (Kd.R_below (Kd.R_elderB HRA.out wc.heap.size (Nat.le_refl _)) hbs)
  have HA:=Aside0.mk (Kd.R_below (Kd.R_elderB HRT.out wc.heap.size (Nat.le_refl _)) hbs)
  have HB1:=Aside0.mk hb1
  have HC1:=Aside0.mk hc1'
  have hwg:=HG.out
  have hwl : w.heap.size ≤ wc.heap.size:=below_size HB.out
  have hzl : zs.length = l1.length:=by rw [← hZ];simp
  have hgl : g ≠ wc.heap.size:=by omega
  generalize wc.heap.size = gL at *
  clear HB HZ HRA HRT hba hbs hb1 hc1' hb6 HG hZ
  go_wp2_with fail
  go_loopw [13] (fun v13 wr=>∃ (i : Nat) (out : List Int) (left : Int), i < at_.length ∧ out.length = l1.length ∧ v13 = .int .i64 (i : Int) ∧ Aside0 (absGo k has (at_.drop i) out left = some (r1, r2)) ∧ Aside0 (wr.heap[gL]? = some (.cells #[.int .i64 left] 3 (0, 0))) ∧ Aside0 (wr.heap[g]? = some (.cells (nums .i64 out).toArray 3 (0, 0))) ∧ Aside0 (wr.heap[gb]? = some (.cells #[.pointer (some ⟨gL, 0, none⟩)] 44 (0, 0))) ∧ Aside0 (wr.heap[gc]? = some (.cells #[.slice (some ⟨g, 0, none⟩) l1.length l1.length] 26 (0, 0))) ∧ Aside0 (Kd.R (Kd.int .i64) 3 wr w.heap.size (fun k=>k ≠ g ∧ k ≠ gL) (.slice A9 has.length c9) has) ∧ Aside0 (Kd.R (Kd.int .i64) 3 wr w.heap.size (fun k=>k ≠ g ∧ k ≠ gL) (.slice A10 at_.length c10) at_) ∧ Aside0 (Below w.heap.size w wr)) (fun v13 _=>at_.length - (intOf v13).toNat)
  case atStart=>exact ⟨0, zs, a0, hal.1, hzl, rfl, ⟨by rw [List.drop_zero];exact HRES.out⟩, HL, HO, HB1, HC1, HH, HA, HB6⟩
  case round =>
   clear HRES HL HO HB1 HC1 HH HA HB6
   obtain ⟨i, out, left, hi, hol, rfl, HRES, HL, HO, HB1, HC1, HH, HA, HB⟩:=hrel
   have hq3 : wr.cell? ⟨gL, 0, none⟩ = some (.int .i64 left):=(blk_cell HL.out 0).trans rfl
   by_cases hpos : 0 < left
   ·have d1 : decide (0 < left) = true:=decide_eq_true hpos
    by_cases hlt : i + 1 < at_.length
    ·have hlti : (i : Int) + 1 < (at_.length : Int):=by omega
     have d2 : decide ((i : Int) + 1 < (at_.length : Int)) = true:=decide_eq_true hlti
     have hres:=HRES.out
     rw [List.drop_eq_getElem_cons (by omega), List.drop_eq_getElem_cons hlt, absGo, if_pos hpos] at hres
     have ea : at_[i] = rd at_ (i : Int):=by unfold rd;rw [Int.toNat_natCast, List.getD_eq_getElem?_getD, List.getElem?_eq_getElem (by omega)];rfl
     have eb : at_[i + 1] = rd at_ ((i : Int) + 1):=by unfold rd;rw [show ((i : Int) + 1).toNat = i + 1 by omega, List.getD_eq_getElem?_getD, List.getElem?_eq_getElem hlt];rfl
     rw [ea, eb] at hres
     obtain ⟨ad, ex, hx0⟩:=Kd.at_int (Kd.R_reads' HA.out).2.2 (i : Int) (by omega) (by omega)
     cases ex
     obtain ⟨ad', ex, hx1⟩:=Kd.at_int (Kd.R_reads' HA.out).2.2 ((i : Int) + 1) (by omega) (by omega)
     cases ex
     have hback : rd at_ ((i : Int) + 1) :: List.drop (i + 1 + 1) at_ = at_.drop (i + 1):=by rw [← eb];exact (List.drop_eq_getElem_cons hlt).symm
     rw [hback] at hres
     have hx1r:=hx1
     simp only [Int.toNat_natCast, show ((i : Int) + 1).toNat = i + 1 by omega] at hx0 hx1
     have hx1s : wr.cell? ⟨ad.block, ad.off + (i + 1), none⟩ = some (.int .i64 (rd at_ ((i : Int) + 1))):=by first | exact hx1 | simpa [Addr.add] using hx1
     generalize rd at_ (i : Int) = a at *
     generalize rd at_ ((i : Int) + 1) = b at *
     by_cases hab : 0 ≤ a ∧ a < b ∧ b ≤ (has.length : Int) ∧ b ≤ (out.length : Int)
     ·rw [if_pos hab, Option.bind_eq_some_iff] at hres
      obtain ⟨⟨p, l2⟩, htk, hres⟩:=hres
      simp only at hres
      by_cases hpl : p.length ≤ b.toNat - a.toNat
      ·rw [if_pos hpl] at hres
       have HTK:=Aside0.mk htk
       have HRES2:=Aside0.mk hres
       clear htk hres ea eb hback HRES
       obtain ⟨h0a, hab1, hbh, hbo⟩:=hab
       have hca:=(Kd.R_reads' HH.out).2.1
       have hwi : IntKind.i64.wrap ((i : Int) + 1) = (i : Int) + 1:=by rw [i64_w];unfold wrap64;omega
       have h0i : 0 ≤ (i : Int) + 1:=by omega
       have hti : ((i : Int) + 1).toNat = i + 1:=by omega
       have hable : a ≤ b:=by omega
       have hbc9 : b ≤ (c9 : Int):=by omega
       have h0b : 0 ≤ b:=by omega
       go_wp2_with fail
       go_still_tail 16, (by kernel_rfl)
       change wpList _ _ _ _ _ wr.drew
       have HL2:=Aside0.mk (blk_drew HL.out)
       have HO2:=Aside0.mk (blk_drew HO.out)
       have HB12:=Aside0.mk (blk_drew HB1.out)
       have HC12:=Aside0.mk (blk_drew HC1.out)
       have HH2:=Aside0.mk (Kd.R_drew HH.out)
       have HA2:=Aside0.mk (Kd.R_drew HA.out)
       have HBd:=Aside0.mk (below_drew1 HB.out)
       clear HL HO HB1 HC1 HH HA HB hq3 hx0 hx1 hx1r hx1s
       generalize wr.drew = wd at *
       have hln : ((has.take b.toNat).drop a.toNat).length = b.toNat - a.toNat:=by rw [List.length_drop, List.length_take];omega
       have hCm:=Kd.C_mid (k:=Kd.int .i64) (lo:=a.toNat) (hi:=b.toNat) (Kd.R_reads' HH2.out).2.2 (by omega) (by omega) hca
       rw [if_neg (show ¬ c9 = a.toNat by omega)]
       rw [if_neg (show ¬ c9 = a.toNat by omega)] at hCm
       have hown : ∀ ad9, Option.map (fun x : Addr=>x.add (a.toNat * (Kd.int .i64).sz)) A9 = some ad9 → ad9.block ≠ g ∧ ad9.block ≠ gL:=by
        intro ad9 he
        cases A9 with
        | none=>cases he
        | some z =>
         have hz:=HH2.out.1 z.block rfl
         cases he
         rw [add_block];exact hz
       have hCALL:=take_any k a.toNat ((has.take b.toNat).drop a.toNat) out _ (c9 - a.toNat) left l2 p gb gc gL g wd hCm (by omega) (by omega) (by omega) (by omega) HB12.out (by rw [hol];exact HC12.out) HL2.out HO2.out hgl hown HTK.out (by omega)
       rw [hln, show ((a.toNat : Nat) : Int) = a by omega, show a.toNat * (Kd.int .i64).sz = a.toNat from Nat.mul_one _] at hCALL
       have HCALL:=Aside0.mk hCALL
       clear hCm hown hCALL HTK
       go_wp2_with fail
       refine HCALL.out.mono ?_
       rintro e w8 ⟨rfl, hL8, hO8, hk8⟩
       have hwd:=below_size HBd.out
       have HL8:=Aside0.mk hL8
       have HO8:=Aside0.mk hO8
       have hb8 : gb ≠ gL ∧ gb ≠ g:=by
        have e1:=HB12.out
        constructor
        ·rintro rfl
         have he:=Option.some.inj (e1.symm.trans HL2.out)
         injection he with _ he2 _
         exact absurd he2 (by decide)
        ·rintro rfl
         have he:=Option.some.inj (e1.symm.trans HO2.out)
         injection he with _ he2 _
         exact absurd he2 (by decide)
       have hc8 : gc ≠ gL ∧ gc ≠ g:=by
        have e1:=HC12.out
        constructor
        ·rintro rfl
         have he:=Option.some.inj (e1.symm.trans HL2.out)
         injection he with _ he2 _
         exact absurd he2 (by decide)
        ·rintro rfl
         have he:=Option.some.inj (e1.symm.trans HO2.out)
         injection he with _ he2 _
         exact absurd he2 (by decide)
       have HB18:=Aside0.mk (hk8.blk HB12.out hb8.1 hb8.2)
       have HC18:=Aside0.mk (hk8.blk HC12.out hc8.1 hc8.2)
       have HH8:=Aside0.mk (hk8.row HH2.out (fun _ h=>⟨h.2, h.1⟩))
       have HA8:=Aside0.mk (hk8.row HA2.out (fun _ h=>⟨h.2, h.1⟩))
       have HB8:=Aside0.mk (hk8.below HBd.out hwd (by omega) hwg)
       have hovl : (overlay out a.toNat p).length = l1.length:=by
        unfold overlay
        rw [List.length_append, List.length_append, List.length_take, List.length_drop];omega
       clear HCALL hL8 hO8 hk8 HL2 HO2 HB12 HC12 HH2 HA2 HBd
       go_wp2_with fail
       go_roundw
       case measure=>show _ < _;simp [intOf];omega
       case rel=>exact ⟨i + 1, overlay out a.toNat p, l2, by omega, hovl, by go_num, HRES2, HL8, HO8, HB18, HC18, HH8, HA8, HB8⟩
      ·rw [if_neg hpl] at hres;cases hres
     ·rw [if_neg hab] at hres;cases hres
    ·have d2 : decide ((i : Int) + 1 < (at_.length : Int)) = false:=decide_eq_false (by omega)
     have hres:=HRES.out
     have hstop : absGo k has (at_.drop i) out left = some (out, left):=absGo_short k has _ out left (by rw [List.length_drop];omega)
     rw [hstop] at hres
     have hres:=Option.some.inj hres
     simp only [Prod.mk.injEq] at hres
     obtain ⟨rfl, rfl⟩:=hres
     clear HRES hstop
     go_wp2_with fail
     go_region
     go_wp2_with fail
     go_ret3
     exact ⟨_, rfl, by rw [← hol];exact rowR hwg (by omega) (blk_drew HO.out), below_drew1 HB.out⟩
   ·have d1 : decide (0 < left) = false:=decide_eq_false hpos
    have hres:=HRES.out
    have hstop : absGo k has (at_.drop i) out left = some (out, left):=absGo_none k has _ out left hpos
    rw [hstop] at hres
    have hres:=Option.some.inj hres
    simp only [Prod.mk.injEq] at hres
    obtain ⟨rfl, rfl⟩:=hres
    clear HRES hstop
    go_wp2_with fail
    go_region
    go_wp2_with fail
    go_ret3
    exact ⟨_, rfl, by rw [← hol];exact rowR hwg (by omega) (blk_drew HO.out), below_drew1 HB.out⟩
theorem takeF_mono (k : Nat) (left : Int) (has : List Int) : LeO (takeF k left has) (takeF (k + 1) left has):=by
 unfold takeF
 exact LeO.bind (waterfall_total.mono _ _) fun t=>LeO.ite (LeO.bind (LeO.refl _) fun q=>LeO.bind (waterfall_total.mono _ _) fun u=>LeO.refl _) (LeO.bind (waterfall_total.mono _ _) fun u=>LeO.refl _)
theorem absGo_mono (k : Nat) (has : List Int) : ∀ (l out : List Int) (left : Int), LeO (absGo k has l out left) (absGo (k + 1) has l out left)
 | [], _, _=>LeO.refl _
 | [_], _, _=>LeO.refl _
 | a :: b :: r, out, left=>by
  unfold absGo
  exact LeO.ite (LeO.ite (LeO.bind (takeF_mono _ _ _) fun q=>LeO.ite (absGo_mono k has (b :: r) _ _) (LeO.refl _)) (LeO.refl _)) (LeO.refl _)
theorem waterfall_Absorb.mono : ∀ a0 a1 k, LeO (waterfall_Absorb.f k a0 a1) (waterfall_Absorb.f (k + 1) a0 a1):=by
 intro a0 a1 k
 unfold waterfall_Absorb.f
 exact LeO.bind (waterfall_Check.mono _ _) fun e=>LeO.ite (LeO.bind (LeO.refl _) fun m=>LeO.ite (LeO.ite (LeO.bind (waterfall_amounts.mono _ _) fun has=>LeO.bind (waterfall_turns.mono _ _) fun at_=>LeO.ite (LeO.bind (absGo_mono _ _ _ _ _) fun q=>LeO.refl _) (LeO.refl _)) (LeO.refl _)) (LeO.refl _)) (LeO.refl _)
set_option maxHeartbeats 4000000 in
set_option maxRecDepth 100000 in
theorem waterfall_Absorb.calls (k : Nat) (a0 : Int) (A1 : Option Addr) (c1 : Nat) (l1 : List (S33)) (r1 : List Int) (r2 : Int) (r3 : Int) (w : World) (hr1 : Kd.C k33 w A1 l1.length l1) (hc1 : l1.length ≤ c1) (h : waterfall_Absorb.f k a0 l1 = some (r1, r2, r3)) :
  Calls Try.prog 6 #[.int .i64 a0, .slice A1 l1.length c1] w fun e w'=>∃ v0_ : Value, e = .returned (.tuple #[v0_, .int .i64 r2, .int .i64 r3]) ∧ Kd.R (Kd.int .i64) 3 w' w.heap.size (fun _=>True) v0_ r1 ∧ Below w.heap.size w w':=by
 unfold waterfall_Absorb.f at h
 rw [Option.bind_eq_some_iff] at h
 obtain ⟨e0, hck, h⟩:=h
 by_cases he : e0 = 0
 ·subst he
  rw [if_pos rfl, Option.bind_eq_some_iff] at h
  obtain ⟨m, hmo, h⟩:=h
  cases m with
  | true =>
   rw [if_pos rfl] at h
   by_cases hlen : l1.length ≤ 1024
   ·rw [if_pos hlen, Option.bind_eq_some_iff] at h
    obtain ⟨has, ham, h⟩:=h
    rw [Option.bind_eq_some_iff] at h
    obtain ⟨at_, htu, h⟩:=h
    by_cases hal : 0 < at_.length ∧ at_.length ≤ 1048576
    ·rw [if_pos hal, Option.bind_eq_some_iff] at h
     obtain ⟨⟨q1, q2⟩, hq, h⟩:=h
     simp only [Option.some.injEq, Prod.mk.injEq] at h
     obtain ⟨rfl, rfl, rfl⟩:=h
     exact absorb_any k a0 A1 c1 l1 has at_ q1 q2 w hr1 hc1 hck hmo hlen ham htu hal hq
    ·rw [if_neg hal] at h;cases h
   ·rw [if_neg hlen] at h;cases h
  | false =>
   rw [if_neg (by decide)] at h
   simp only [Option.some.injEq, Prod.mk.injEq] at h
   obtain ⟨rfl, rfl, rfl⟩:=h
   go_enter Try.func6, Try.ntmps6
   go_wp2_with fail
   refine (waterfall_Check.calls k A1 c1 l1 0 _ hr1 hc1 hck).mono ?_
   rintro e w2 ⟨rfl, hb⟩
   have HB2:=Aside0.mk hb
   clear hb
   go_wp2_with fail
   refine (waterfall_money.calls a0 false _ hmo).mono ?_
   rintro e w3 ⟨rfl, ⟨⟨n3, rfl⟩⟩⟩
   go_wp2_with fail
   go_ret3
   exact ⟨_, rfl, Kd.R_nil _ _ _ _ _, pw_below_drewN HB2.out n3⟩
 ·rw [if_neg he] at h
  simp only [Option.some.injEq, Prod.mk.injEq] at h
  obtain ⟨rfl, rfl, rfl⟩:=h
  have hne : (e0 != 0) = true:=bne_iff_ne.mpr he
  go_enter Try.func6, Try.ntmps6
  go_wp2_with fail
  refine (waterfall_Check.calls k A1 c1 l1 e0 _ hr1 hc1 hck).mono ?_
  rintro e w2 ⟨rfl, hb⟩
  have HB2:=Aside0.mk hb
  clear hb
  go_wp2_with fail
  go_ret3
  exact ⟨_, rfl, Kd.R_nil _ _ _ _ _, HB2.out⟩

/-! ### assess_money: function 20 -/
def assess_money.f (a0 : Int) : Option (Bool):=if a0 ≥ 0 then (some (decide (a0 ≤ 1152921504606846976))) else (some false)
set_option maxHeartbeats 8000000 in
set_option maxRecDepth 100000 in
theorem assess_money.calls (a0 : Int) (r : Bool) (w : World) (h : assess_money.f a0 = some r) :
  Calls Try.prog 20 #[.int .i64 a0] w fun e w'=>e = .returned (.bool r) ∧ Drawn0 w w':=by
 have H : (if a0 ≥ 0 then (some (decide (a0 ≤ 1152921504606846976))) else (some false)) = some r:=h
 clear h
 by_cases c2 : a0 ≥ 0
 ·rw [if_pos c2] at H
  have c2b0 : decide (0 ≤ a0) = true:=decide_eq_true c2
  clear c2
  obtain rfl:=Option.some.inj H
  go_enter Try.func20, Try.ntmps20
  go_wp2
  go_ret
  exact ⟨by first | rfl | (simp;done) | (simp [*];done), by repeat (first | exact Drawn0.refl _ | apply Drawn0.step)⟩
 ·rw [if_neg c2] at H
  have c2b0 : decide (0 ≤ a0) = false:=decide_eq_false c2
  clear c2
  obtain rfl:=Option.some.inj H
  go_enter Try.func20, Try.ntmps20
  go_wp2
  go_ret
  exact ⟨by first | rfl | (simp;done) | (simp [*];done), by repeat (first | exact Drawn0.refl _ | apply Drawn0.step)⟩

/-! ### bits_Mul64: function 40 -/
def bits_Mul64.f (a0 : Int) (a1 : Int) : Option (Int × Int):=some (IntKind.u64.wrap ((IntKind.u64.wrap ((IntKind.u64.wrap ((a0 / 4294967296) * (a1 / 4294967296))) + ((IntKind.u64.wrap ((IntKind.u64.wrap ((a0 / 4294967296) * (Go.bits .and .u64 a1 4294967295))) + ((IntKind.u64.wrap ((Go.bits .and .u64 a0 4294967295) * (Go.bits .and .u64 a1 4294967295))) / 4294967296))) / 4294967296))) + ((IntKind.u64.wrap ((Go.bits .and .u64 (IntKind.u64.wrap ((IntKind.u64.wrap ((a0 / 4294967296) * (Go.bits .and .u64 a1 4294967295))) + ((IntKind.u64.wrap ((Go.bits .and .u64 a0 4294967295) * (Go.bits .and .u64 a1 4294967295))) / 4294967296))) 4294967295) + (IntKind.u64.wrap ((Go.bits .and .u64 a0 4294967295) * (a1 / 4294967296))))) / 4294967296)), IntKind.u64.wrap (a0 * a1))
set_option maxHeartbeats 8000000 in
set_option maxRecDepth 100000 in
theorem bits_Mul64.calls (a0 : Int) (a1 : Int) (r1 : Int) (r2 : Int) (w : World) (h : bits_Mul64.f a0 a1 = some (r1, r2)) :
  Calls Try.prog 40 #[.int .u64 a0, .int .u64 a1] w fun e w'=>e = .returned (.tuple #[.int .u64 r1, .int .u64 r2]) ∧ Drawn0 w w':=by
 have H : (some (IntKind.u64.wrap ((IntKind.u64.wrap ((IntKind.u64.wrap ((a0 / 4294967296) * (a1 / 4294967296))) + ((IntKind.u64.wrap ((IntKind.u64.wrap ((a0 / 4294967296) * (Go.bits .and .u64 a1 4294967295))) + ((IntKind.u64.wrap ((Go.bits .and .u64 a0 4294967295) * (Go.bits .and .u64 a1 4294967295))) / 4294967296))) / 4294967296))) + ((IntKind.u64.wrap ((Go.bits .and .u64 (IntKind.u64.wrap ((IntKind.u64.wrap ((a0 / 4294967296) * (Go.bits .and .u64 a1 4294967295))) + ((IntKind.u64.wrap ((Go.bits .and .u64 a0 4294967295) * (Go.bits .and .u64 a1 4294967295))) / 4294967296))) 4294967295) + (IntKind.u64.wrap ((Go.bits .and .u64 a0 4294967295) * (a1 / 4294967296))))) / 4294967296)), IntKind.u64.wrap (a0 * a1))) = some (r1, r2):=h
 clear h
 simp only [Option.some.injEq, Prod.mk.injEq] at H
 obtain ⟨rfl, rfl⟩:=H
 go_enter Try.func40, Try.ntmps40
 go_wp2
 go_ret2
 exact ⟨by first | rfl | (simp;done) | (simp [*];done), by repeat (first | exact Drawn0.refl _ | apply Drawn0.step)⟩

/-! ### cents_size: function 41 -/
def cents_size.f (a0 : Int) : Option (Int):=if a0 < 0 then (some (IntKind.u64.wrap (wrap64 (-a0)))) else (some (IntKind.u64.wrap (a0)))
set_option maxHeartbeats 8000000 in
set_option maxRecDepth 100000 in
theorem cents_size.calls (a0 : Int) (r : Int) (w : World) (h : cents_size.f a0 = some r) :
  Calls Try.prog 41 #[.int .i64 a0] w fun e w'=>e = .returned (.int .u64 r) ∧ Drawn0 w w':=by
 have H : (if a0 < 0 then (some (IntKind.u64.wrap (wrap64 (-a0)))) else (some (IntKind.u64.wrap (a0)))) = some r:=h
 clear h
 by_cases c2 : a0 < 0
 ·rw [if_pos c2] at H
  have c2b0 : decide (a0 < 0) = true:=decide_eq_true c2
  clear c2
  obtain rfl:=Option.some.inj H
  go_enter Try.func41, Try.ntmps41
  go_wp2
  go_ret
  exact ⟨by first | rfl | (simp;done) | (simp [*];done), by repeat (first | exact Drawn0.refl _ | apply Drawn0.step)⟩
 ·rw [if_neg c2] at H
  have c2b0 : decide (a0 < 0) = false:=decide_eq_false c2
  clear c2
  obtain rfl:=Option.some.inj H
  go_enter Try.func41, Try.ntmps41
  go_wp2
  go_ret
  exact ⟨by first | rfl | (simp;done) | (simp [*];done), by repeat (first | exact Drawn0.refl _ | apply Drawn0.step)⟩

/-! ### bits_Len64: function 47 -/
def len64 (x : Int) : Int:=if x = 0 then 0 else ((Nat.log2 x.toNat + 1 : Nat) : Int)
theorem log2_shift (n c : Nat) (h : 0 < n / 2 ^ c) : Nat.log2 n = c + Nat.log2 (n / 2 ^ c):=by
 have hp : 0 < 2 ^ c:=Nat.pow_pos (by decide)
 have hn : n ≠ 0:=by rintro rfl;simp at h
 have hm : n / 2 ^ c ≠ 0:=by omega
 apply Nat.le_antisymm
 ·have h1 : n / 2 ^ c < 2 ^ (Nat.log2 (n / 2 ^ c) + 1):=(Nat.log2_lt hm).1 (Nat.lt_succ_self _)
  have h2 : n < 2 ^ (c + Nat.log2 (n / 2 ^ c) + 1):=by
   rw [Nat.add_assoc, Nat.pow_add, Nat.mul_comm]
   exact (Nat.div_lt_iff_lt_mul hp).1 h1
  have:=(Nat.log2_lt hn).2 h2
  omega
 ·have h1 : 2 ^ Nat.log2 (n / 2 ^ c) ≤ n / 2 ^ c:=(Nat.le_log2 hm).1 (Nat.le_refl _)
  have h2 : 2 ^ (c + Nat.log2 (n / 2 ^ c)) ≤ n:=by
   rw [Nat.pow_add, Nat.mul_comm]
   exact (Nat.le_div_iff_mul_le hp).1 h1
  exact (Nat.le_log2 hn).2 h2
theorem len_shift (x : Int) (c : Nat) (h0 : 0 ≤ x) (h : 0 < x / 2 ^ c) : len64 x = c + len64 (x / 2 ^ c):=by
 have hp : (0 : Int) < 2 ^ c:=Int.pow_pos (by decide)
 have hx : ¬ x = 0:=by rintro rfl;simp at h
 have e : (x / 2 ^ c).toNat = x.toNat / 2 ^ c:=by
  have h1 : x / 2 ^ c = ((x.toNat / 2 ^ c : Nat) : Int):=by
   rw [Int.natCast_ediv, Int.toNat_of_nonneg h0];simp
  rw [h1, Int.toNat_natCast]
 unfold len64
 rw [if_neg hx, if_neg (by omega), e, log2_shift x.toNat c (by omega)]
 omega
theorem len32 (x : Int) (h0 : 0 ≤ x) (h : 4294967296 ≤ x) : len64 x = 32 + len64 (x / 4294967296):=len_shift x 32 h0 (by show 0 < x / 4294967296;omega)
theorem len16 (x : Int) (h0 : 0 ≤ x) (h : 65536 ≤ x) : len64 x = 16 + len64 (x / 65536):=len_shift x 16 h0 (by show 0 < x / 65536;omega)
theorem len8 (x : Int) (h0 : 0 ≤ x) (h : 256 ≤ x) : len64 x = 8 + len64 (x / 256):=len_shift x 8 h0 (by show 0 < x / 256;omega)
set_option maxRecDepth 100000 in
theorem len_tab : ∀ t : Fin 256, bt (⟨([0, 1, 2, 2, 3, 3, 3, 3, 4, 4, 4, 4, 4, 4, 4, 4, 5, 5, 5, 5, 5, 5, 5, 5, 5, 5, 5, 5, 5, 5, 5, 5, 6, 6, 6, 6, 6, 6, 6, 6, 6, 6, 6, 6, 6, 6, 6, 6, 6, 6, 6, 6, 6, 6, 6, 6, 6, 6, 6, 6, 6, 6, 6, 6, 7, 7, 7, 7, 7, 7, 7, 7, 7, 7, 7, 7, 7, 7, 7, 7, 7, 7, 7, 7, 7, 7, 7, 7, 7, 7, 7, 7, 7, 7, 7, 7, 7, 7, 7, 7, 7, 7, 7, 7, 7, 7, 7, 7, 7, 7, 7, 7, 7, 7, 7, 7, 7, 7, 7, 7, 7, 7, 7, 7, 7, 7, 7, 7, 8, 8, 8, 8, 8, 8, 8, 8, 8, 8, 8, 8, 8, 8, 8, 8, 8, 8, 8, 8, 8, 8, 8, 8, 8, 8, 8, 8, 8, 8, 8, 8, 8, 8, 8, 8, 8, 8, 8, 8, 8, 8, 8, 8, 8, 8, 8, 8, 8, 8, 8, 8, 8, 8, 8, 8, 8, 8, 8, 8, 8, 8, 8, 8, 8, 8, 8, 8, 8, 8, 8, 8, 8, 8, 8, 8, 8, 8, 8, 8, 8, 8, 8, 8, 8, 8, 8, 8, 8, 8, 8, 8, 8, 8, 8, 8, 8, 8, 8, 8, 8, 8, 8, 8, 8, 8, 8, 8, 8, 8, 8, 8, 8, 8, 8, 8, 8, 8, 8, 8, 8, 8, 8, 8, 8, 8, 8, 8] : List UInt8).toArray⟩ : ByteArray) (t.val : Int) = len64 (t.val : Int):=by decide +kernel
set_option maxRecDepth 100000 in
theorem len_end (w : World) (x c t : Int) (h : t.toNat < ((⟨([0, 1, 2, 2, 3, 3, 3, 3, 4, 4, 4, 4, 4, 4, 4, 4, 5, 5, 5, 5, 5, 5, 5, 5, 5, 5, 5, 5, 5, 5, 5, 5, 6, 6, 6, 6, 6, 6, 6, 6, 6, 6, 6, 6, 6, 6, 6, 6, 6, 6, 6, 6, 6, 6, 6, 6, 6, 6, 6, 6, 6, 6, 6, 6, 7, 7, 7, 7, 7, 7, 7, 7, 7, 7, 7, 7, 7, 7, 7, 7, 7, 7, 7, 7, 7, 7, 7, 7, 7, 7, 7, 7, 7, 7, 7, 7, 7, 7, 7, 7, 7, 7, 7, 7, 7, 7, 7, 7, 7, 7, 7, 7, 7, 7, 7, 7, 7, 7, 7, 7, 7, 7, 7, 7, 7, 7, 7, 7, 8, 8, 8, 8, 8, 8, 8, 8, 8, 8, 8, 8, 8, 8, 8, 8, 8, 8, 8, 8, 8, 8, 8, 8, 8, 8, 8, 8, 8, 8, 8, 8, 8, 8, 8, 8, 8, 8, 8, 8, 8, 8, 8, 8, 8, 8, 8, 8, 8, 8, 8, 8, 8, 8, 8, 8, 8, 8, 8, 8, 8, 8, 8, 8, 8, 8, 8, 8, 8, 8, 8, 8, 8, 8, 8, 8, 8, 8, 8, 8, 8, 8, 8, 8, 8, 8, 8, 8, 8, 8, 8, 8, 8, 8, 8, 8, 8, 8, 8, 8, 8, 8, 8, 8, 8, 8, 8, 8, 8, 8, 8, 8, 8, 8, 8, 8, 8, 8, 8, 8, 8, 8, 8, 8, 8, 8, 8, 8] : List UInt8).toArray⟩ : ByteArray) : ByteArray).size) (h0 : 0 ≤ t) (hc : 0 ≤ c) (hc2 : c ≤ 100) (hx : len64 x = c + len64 t) : Ending.returned (.int .i64 (wrap64 (c + wrap64 (((⟨([0, 1, 2, 2, 3, 3, 3, 3, 4, 4, 4, 4, 4, 4, 4, 4, 5, 5, 5, 5, 5, 5, 5, 5, 5, 5, 5, 5, 5, 5, 5, 5, 6, 6, 6, 6, 6, 6, 6, 6, 6, 6, 6, 6, 6, 6, 6, 6, 6, 6, 6, 6, 6, 6, 6, 6, 6, 6, 6, 6, 6, 6, 6, 6, 7, 7, 7, 7, 7, 7, 7, 7, 7, 7, 7, 7, 7, 7, 7, 7, 7, 7, 7, 7, 7, 7, 7, 7, 7, 7, 7, 7, 7, 7, 7, 7, 7, 7, 7, 7, 7, 7, 7, 7, 7, 7, 7, 7, 7, 7, 7, 7, 7, 7, 7, 7, 7, 7, 7, 7, 7, 7, 7, 7, 7, 7, 7, 7, 8, 8, 8, 8, 8, 8, 8, 8, 8, 8, 8, 8, 8, 8, 8, 8, 8, 8, 8, 8, 8, 8, 8, 8, 8, 8, 8, 8, 8, 8, 8, 8, 8, 8, 8, 8, 8, 8, 8, 8, 8, 8, 8, 8, 8, 8, 8, 8, 8, 8, 8, 8, 8, 8, 8, 8, 8, 8, 8, 8, 8, 8, 8, 8, 8, 8, 8, 8, 8, 8, 8, 8, 8, 8, 8, 8, 8, 8, 8, 8, 8, 8, 8, 8, 8, 8, 8, 8, 8, 8, 8, 8, 8, 8, 8, 8, 8, 8, 8, 8, 8, 8, 8, 8, 8, 8, 8, 8, 8, 8, 8, 8, 8, 8, 8, 8, 8, 8, 8, 8, 8, 8, 8, 8, 8, 8, 8, 8] : List UInt8).toArray⟩ : ByteArray)[t.toNat]'h).toNat : Int)))) = .returned (.int .i64 (len64 x)):=by
 have hb:=bt_at (⟨([0, 1, 2, 2, 3, 3, 3, 3, 4, 4, 4, 4, 4, 4, 4, 4, 5, 5, 5, 5, 5, 5, 5, 5, 5, 5, 5, 5, 5, 5, 5, 5, 6, 6, 6, 6, 6, 6, 6, 6, 6, 6, 6, 6, 6, 6, 6, 6, 6, 6, 6, 6, 6, 6, 6, 6, 6, 6, 6, 6, 6, 6, 6, 6, 7, 7, 7, 7, 7, 7, 7, 7, 7, 7, 7, 7, 7, 7, 7, 7, 7, 7, 7, 7, 7, 7, 7, 7, 7, 7, 7, 7, 7, 7, 7, 7, 7, 7, 7, 7, 7, 7, 7, 7, 7, 7, 7, 7, 7, 7, 7, 7, 7, 7, 7, 7, 7, 7, 7, 7, 7, 7, 7, 7, 7, 7, 7, 7, 8, 8, 8, 8, 8, 8, 8, 8, 8, 8, 8, 8, 8, 8, 8, 8, 8, 8, 8, 8, 8, 8, 8, 8, 8, 8, 8, 8, 8, 8, 8, 8, 8, 8, 8, 8, 8, 8, 8, 8, 8, 8, 8, 8, 8, 8, 8, 8, 8, 8, 8, 8, 8, 8, 8, 8, 8, 8, 8, 8, 8, 8, 8, 8, 8, 8, 8, 8, 8, 8, 8, 8, 8, 8, 8, 8, 8, 8, 8, 8, 8, 8, 8, 8, 8, 8, 8, 8, 8, 8, 8, 8, 8, 8, 8, 8, 8, 8, 8, 8, 8, 8, 8, 8, 8, 8, 8, 8, 8, 8, 8, 8, 8, 8, 8, 8, 8, 8, 8, 8, 8, 8, 8, 8, 8, 8, 8, 8] : List UInt8).toArray⟩ : ByteArray) t h
 have hr:=bt_range (⟨([0, 1, 2, 2, 3, 3, 3, 3, 4, 4, 4, 4, 4, 4, 4, 4, 5, 5, 5, 5, 5, 5, 5, 5, 5, 5, 5, 5, 5, 5, 5, 5, 6, 6, 6, 6, 6, 6, 6, 6, 6, 6, 6, 6, 6, 6, 6, 6, 6, 6, 6, 6, 6, 6, 6, 6, 6, 6, 6, 6, 6, 6, 6, 6, 7, 7, 7, 7, 7, 7, 7, 7, 7, 7, 7, 7, 7, 7, 7, 7, 7, 7, 7, 7, 7, 7, 7, 7, 7, 7, 7, 7, 7, 7, 7, 7, 7, 7, 7, 7, 7, 7, 7, 7, 7, 7, 7, 7, 7, 7, 7, 7, 7, 7, 7, 7, 7, 7, 7, 7, 7, 7, 7, 7, 7, 7, 7, 7, 8, 8, 8, 8, 8, 8, 8, 8, 8, 8, 8, 8, 8, 8, 8, 8, 8, 8, 8, 8, 8, 8, 8, 8, 8, 8, 8, 8, 8, 8, 8, 8, 8, 8, 8, 8, 8, 8, 8, 8, 8, 8, 8, 8, 8, 8, 8, 8, 8, 8, 8, 8, 8, 8, 8, 8, 8, 8, 8, 8, 8, 8, 8, 8, 8, 8, 8, 8, 8, 8, 8, 8, 8, 8, 8, 8, 8, 8, 8, 8, 8, 8, 8, 8, 8, 8, 8, 8, 8, 8, 8, 8, 8, 8, 8, 8, 8, 8, 8, 8, 8, 8, 8, 8, 8, 8, 8, 8, 8, 8, 8, 8, 8, 8, 8, 8, 8, 8, 8, 8, 8, 8, 8, 8, 8, 8, 8, 8] : List UInt8).toArray⟩ : ByteArray) t
 have ht : t.toNat < 256:=h
 have h2:=len_tab ⟨t.toNat, ht⟩
 simp only [Int.toNat_of_nonneg h0] at h2
 rw [h2] at hr
 rw [hb, h2]
 clear hb h2
 have e1 : wrap64 (len64 t) = len64 t:=by unfold wrap64;omega
 have e2 : wrap64 (c + len64 t) = c + len64 t:=by unfold wrap64;omega
 rw [e1, e2, hx]
set_option maxRecDepth 100000 in
theorem len_end0 (w : World) (t : Int) (h : t.toNat < ((⟨([0, 1, 2, 2, 3, 3, 3, 3, 4, 4, 4, 4, 4, 4, 4, 4, 5, 5, 5, 5, 5, 5, 5, 5, 5, 5, 5, 5, 5, 5, 5, 5, 6, 6, 6, 6, 6, 6, 6, 6, 6, 6, 6, 6, 6, 6, 6, 6, 6, 6, 6, 6, 6, 6, 6, 6, 6, 6, 6, 6, 6, 6, 6, 6, 7, 7, 7, 7, 7, 7, 7, 7, 7, 7, 7, 7, 7, 7, 7, 7, 7, 7, 7, 7, 7, 7, 7, 7, 7, 7, 7, 7, 7, 7, 7, 7, 7, 7, 7, 7, 7, 7, 7, 7, 7, 7, 7, 7, 7, 7, 7, 7, 7, 7, 7, 7, 7, 7, 7, 7, 7, 7, 7, 7, 7, 7, 7, 7, 8, 8, 8, 8, 8, 8, 8, 8, 8, 8, 8, 8, 8, 8, 8, 8, 8, 8, 8, 8, 8, 8, 8, 8, 8, 8, 8, 8, 8, 8, 8, 8, 8, 8, 8, 8, 8, 8, 8, 8, 8, 8, 8, 8, 8, 8, 8, 8, 8, 8, 8, 8, 8, 8, 8, 8, 8, 8, 8, 8, 8, 8, 8, 8, 8, 8, 8, 8, 8, 8, 8, 8, 8, 8, 8, 8, 8, 8, 8, 8, 8, 8, 8, 8, 8, 8, 8, 8, 8, 8, 8, 8, 8, 8, 8, 8, 8, 8, 8, 8, 8, 8, 8, 8, 8, 8, 8, 8, 8, 8, 8, 8, 8, 8, 8, 8, 8, 8, 8, 8, 8, 8, 8, 8, 8, 8, 8, 8] : List UInt8).toArray⟩ : ByteArray) : ByteArray).size) (h0 : 0 ≤ t) : Ending.returned (.int .i64 (wrap64 (wrap64 (((⟨([0, 1, 2, 2, 3, 3, 3, 3, 4, 4, 4, 4, 4, 4, 4, 4, 5, 5, 5, 5, 5, 5, 5, 5, 5, 5, 5, 5, 5, 5, 5, 5, 6, 6, 6, 6, 6, 6, 6, 6, 6, 6, 6, 6, 6, 6, 6, 6, 6, 6, 6, 6, 6, 6, 6, 6, 6, 6, 6, 6, 6, 6, 6, 6, 7, 7, 7, 7, 7, 7, 7, 7, 7, 7, 7, 7, 7, 7, 7, 7, 7, 7, 7, 7, 7, 7, 7, 7, 7, 7, 7, 7, 7, 7, 7, 7, 7, 7, 7, 7, 7, 7, 7, 7, 7, 7, 7, 7, 7, 7, 7, 7, 7, 7, 7, 7, 7, 7, 7, 7, 7, 7, 7, 7, 7, 7, 7, 7, 8, 8, 8, 8, 8, 8, 8, 8, 8, 8, 8, 8, 8, 8, 8, 8, 8, 8, 8, 8, 8, 8, 8, 8, 8, 8, 8, 8, 8, 8, 8, 8, 8, 8, 8, 8, 8, 8, 8, 8, 8, 8, 8, 8, 8, 8, 8, 8, 8, 8, 8, 8, 8, 8, 8, 8, 8, 8, 8, 8, 8, 8, 8, 8, 8, 8, 8, 8, 8, 8, 8, 8, 8, 8, 8, 8, 8, 8, 8, 8, 8, 8, 8, 8, 8, 8, 8, 8, 8, 8, 8, 8, 8, 8, 8, 8, 8, 8, 8, 8, 8, 8, 8, 8, 8, 8, 8, 8, 8, 8, 8, 8, 8, 8, 8, 8, 8, 8, 8, 8, 8, 8, 8, 8, 8, 8, 8, 8] : List UInt8).toArray⟩ : ByteArray)[t.toNat]'h).toNat : Int)))) = .returned (.int .i64 (len64 t)):=by
 have:=len_end w t 0 t h h0 (by omega) (by omega) (by omega)
 rwa [Int.zero_add] at this
def bits_Len64.f (a0 : Int) : Option Int:=if 0 ≤ a0 ∧ a0 ≤ 18446744073709551615 then some (len64 a0) else none
set_option maxHeartbeats 4000000 in
set_option maxRecDepth 100000 in
theorem len_walk (x : Int) (w : World) (hx : 0 ≤ x) (hx2 : x ≤ 18446744073709551615) :
  Calls Try.prog 47 #[.int .u64 x] w fun e w'=>e = .returned (.int .i64 (len64 x)) ∧ Drawn0 w w':=by
 go_enter Try.func47, Try.ntmps47
 go_wp2
 all_goals go_ret
 all_goals refine ⟨?_, Drawn0.refl _⟩
 all_goals first
  | exact len_end0 w _ _ (by omega)
  | (refine len_end w x _ _ _ (by omega) (by decide) (by decide) ?_;first
    | exact len32 x hx ‹_›
    | exact len16 x hx ‹_›
    | exact len8 x hx ‹_›
    | (rw [len32 x hx ‹_›, len16 (x / 4294967296) (by omega) ‹_›, len8 (x / 4294967296 / 65536) (by omega) ‹_›];omega)
    | (rw [len32 x hx ‹_›, len16 (x / 4294967296) (by omega) ‹_›];omega)
    | (rw [len32 x hx ‹_›, len8 (x / 4294967296) (by omega) ‹_›];omega)
    | (rw [len16 x hx ‹_›, len8 (x / 65536) (by omega) ‹_›];omega))
theorem bits_Len64.calls (a0 : Int) (r : Int) (w : World) (h : bits_Len64.f a0 = some r) :
  Calls Try.prog 47 #[.int .u64 a0] w fun e w'=>e = .returned (.int .i64 r) ∧ Drawn0 w w':=by
 unfold bits_Len64.f at h
 by_cases hc : 0 ≤ a0 ∧ a0 ≤ 18446744073709551615
 ·rw [if_pos hc] at h
  obtain rfl:=Option.some.inj h
  exact len_walk a0 w hc.1 hc.2
 ·rw [if_neg hc] at h;cases h


/-! ### bits_LeadingZeros64: function 45 -/
def bits_LeadingZeros64.f (a0 : Int) : Option (Int):=(bits_Len64.f a0).bind fun t162=>(some (wrap64 (64 - t162)))
set_option maxHeartbeats 8000000 in
set_option maxRecDepth 100000 in
theorem bits_LeadingZeros64.calls (a0 : Int) (r : Int) (w : World) (h : bits_LeadingZeros64.f a0 = some r) :
  Calls Try.prog 45 #[.int .u64 a0] w fun e w'=>e = .returned (.int .i64 r) ∧ Drawn0 w w':=by
 have H : ((bits_Len64.f a0).bind fun t162=>(some (wrap64 (64 - t162)))) = some r:=h
 clear h
 replace H:=Option.bind_eq_some_iff.mp H
 obtain ⟨t162, A20, H⟩:=H
 replace H : (some (wrap64 (64 - t162))) = some r:=H
 have A2:=Aside0.mk A20
 clear A20
 obtain rfl:=Option.some.inj H
 go_enter Try.func45, Try.ntmps45
 go_wp2_with (first | ((with_reducible refine gate_callee (f:=47) rfl ?_);refine goesL_ (some 4) rfl rfl Try.func47 (by kernel_rfl) rfl #[.int .u64 a0] rfl (by (try simp only [List.map_toArray, List.map_cons, List.map_nil]);first | done | rfl | (simp only [List.length_drop, List.length_take];rfl)) ?_;(with_reducible refine (bits_Len64.calls a0 t162 _ A2.out).mono ?_);rintro e w' ⟨rfl, ⟨nd, rfl⟩⟩;refine ⟨_, rfl, ?_⟩))
 go_ret
 exact ⟨by first | rfl | (simp;done) | (simp [*];done), by repeat (first | exact Drawn0.refl _ | apply Drawn0.step)⟩

end Go.Proofs.Ytlkdilfheplmhaa.PTopLosses
