/- Laid for this claim by a program of this session's (wip/mkprint.py, wip/ext.py); not trusted: Lean checks it. -/
import Derived.Test.YtmhjomahikaphaaPTopAssessx0
import Derived.Test.YtmhjomahikaphaaPTopAssessx6
import Derived.Test.YtmhjomahikaphaaPTopAssessx7
import Derived.Test.YtmhjomahikaphaaPTopAssessx8
import Derived.Test.YtmhjomahikaphaaPTopAssessx9
namespace Go.Proofs.Ytmhjomahikaphaa.PTopAssess
open Go.RowKit Go.Proofs.YtmhjomahikaphaaW.PrintWords Go.Proofs.YtmhjomahikaphaaW.PrintLast Go.Proofs.YtmhjomahikaphaaW.PrintMore
attribute [local go_sem] max2_int min2_int max_two min_two max_three min_three max_four min_four   -- for this text's walks alone
set_option linter.unusedVariables false
set_option linter.unusedSimpArgs false

/-! ### waterfall_Absorb: function 10 -/
theorem infoIntW : (Try.prog.info? 3).map (fun i=>(i.zero, i.size, i.bytes)) = some (some (.int .i64 0), 1, 8):=by kernel_rfl
def absGo (k : Nat) (has : List Int) : List Int → List Int → Int → Option (List Int × Int)
 | a :: b :: r, out, left=>if 0 < left then (if 0 ≤ a ∧ a < b ∧ b ≤ (has.length : Int) ∧ b ≤ (out.length : Int) then (takeF k left ((has.take b.toNat).drop a.toNat)).bind fun q=>if q.1.length ≤ b.toNat - a.toNat then absGo k has (b :: r) (overlay out a.toNat q.1) q.2 else none else none) else some (out, left)
 | _, out, left=>some (out, left)
def waterfall_Absorb.f (k : Nat) (a0 : Int) (l1 : List (S38)) : Option (List Int × Int × Int):=(waterfall_Check.f k l1).bind fun e=>if e = 0 then (waterfall_money.f a0).bind fun m=>if m = true then (if l1.length ≤ 1024 then (waterfall_amounts.f k l1).bind fun has=>(waterfall_turns.f k l1).bind fun at_=>if 0 < at_.length ∧ at_.length ≤ 1048576 then (absGo k has at_ (List.replicate l1.length 0) a0).bind fun q=>some (q.1, q.2, 0) else none else none) else some ([], 0, 2) else some ([], 0, e)
theorem absGo_none (k : Nat) (has l out : List Int) (left : Int) (h : ¬ 0 < left) : absGo k has l out left = some (out, left):=by
 match l with
 | []=>rfl
 | [_]=>rfl
 | a :: b :: r=>rw [absGo, if_neg h]
theorem absGo_short (k : Nat) (has l out : List Int) (left : Int) (h : l.length ≤ 1) : absGo k has l out left = some (out, left):=by
 match l, h with
 | [], _=>rfl
 | [_], _=>rfl
 | a :: b :: r, h=>simp at h
theorem rowR {w : World} {g base : Nat} {l : List Int} (hb : base ≤ g) (hl : l.length ≤ 1048576) (h : w.heap[g]? = some (.cells (nums .i64 l).toArray 3 (0, 0))) : Kd.R (Kd.int .i64) 3 w base (fun _=>True) (.slice (some ⟨g, 0, none⟩) l.length l.length) l :=
 Kd.R_of_own ⟨by simp [encs], .inr ⟨g, l.length, _, rfl, hb, h, Nat.le_refl _, by unfold maxLen;omega, by simp [nums], by rw [Nat.mul_one];exact (List.take_of_length_le (by simp [nums])).trans (by simp [nums, encs])⟩⟩ (fun _ _=>trivial)
theorem made_zero (n : Nat) : madeCells #[.int .i64 0] n = (nums .i64 (List.replicate n 0)).toArray:=by
 unfold madeCells nums
 apply Array.ext'
 simp only [Array.toList_map, Array.toList_range, List.map_replicate]
 apply List.ext_getElem
 ·simp
 ·intro i h1 h2
  simp [Nat.mod_one]
theorem apartR {w1 w2 : World} {b base g : Nat} {v : Value} {xs : List Int} (h : Kd.R (Kd.int .i64) 3 w1 b (fun _=>True) v xs) (hb : Below w1.heap.size w1 w2) (hbase : base ≤ b) (hne : ∀ k, b ≤ k → k < w1.heap.size → k ≠ g) : Kd.R (Kd.int .i64) 3 w2 base (fun k=>k ≠ g) v xs :=
 Kd.R_lower (Kd.R_below (Kd.R_mono (Kd.R_bound h) (fun k hk=>hne k hk.2.1 hk.2.2.1)) hb) hbase
set_option maxHeartbeats 16000000 in
set_option maxRecDepth 100000 in
theorem absorb_any (k : Nat) (a0 : Int) (A1 : Option Addr) (c1 : Nat) (l1 : List (S38)) (has at_ : List Int) (r1 : List Int) (r2 : Int) (w : World) (hr1 : Kd.C k38 w A1 l1.length l1) (hc1 : l1.length ≤ c1)
  (hck : waterfall_Check.f k l1 = some 0) (hmo : waterfall_money.f a0 = some true) (hlen : l1.length ≤ 1024) (ham : waterfall_amounts.f k l1 = some has) (htu : waterfall_turns.f k l1 = some at_) (hal : 0 < at_.length ∧ at_.length ≤ 1048576) (h : absGo k has at_ (List.replicate l1.length 0) a0 = some (r1, r2)) :
  Calls Try.prog 10 #[.int .i64 a0, .slice A1 l1.length c1] w fun e w'=>∃ v0_ : Value, e = .returned (.tuple #[v0_, .int .i64 r2, .int .i64 0]) ∧ Kd.R (Kd.int .i64) 3 w' w.heap.size (fun _=>True) v0_ r1 ∧ Below w.heap.size w w':=by
 have HR:=Aside0.mk hr1
 have HCK:=Aside0.mk hck
 have HMO:=Aside0.mk hmo
 have HAM:=Aside0.mk ham
 have HTU:=Aside0.mk htu
 have HRES:=Aside0.mk h
 have hmk : ∀ W : World, (Instr.makeSlice 22 (.int .i64 (l1.length : Int)) (.int .i64 (l1.length : Int))).run Try.prog W = .ok (.slice (some ⟨W.heap.size, 0, none⟩) l1.length l1.length) (W.alloc (.cells (nums .i64 (List.replicate l1.length 0)).toArray 3)):=by
  intro W
  have h:=run_make_row' (P:=Try.prog) 22 3 (.int .i64 0) 8 Try.underlying22 infoIntW rfl .i64 .i64 l1.length (by omega) (by omega) W
  rw [made_zero] at h
  exact h
 clear hr1 hck hmo ham htu h
 go_enter Try.func10, Try.ntmps10
 go_wp2_with fail
 refine (waterfall_Check.calls k A1 c1 l1 0 _ HR.out hc1 HCK.out).mono ?_
 rintro e w2 ⟨rfl, hb⟩
 have HB2:=Aside0.mk hb
 clear hb
 go_wp2_with fail
 refine (waterfall_money.calls a0 true _ HMO.out).mono ?_
 rintro e w3 ⟨rfl, ⟨⟨n3, rfl⟩⟩⟩
 have HB3:=Aside0.mk (pw_below_drewN HB2.out n3)
 clear HB2
 generalize w2.drewN n3 = w3 at *
 go_wp2_with fail
 go_cut [8, 9, 10] (fun v8 v9 v10 wc=>∃ (g c9 c10 : Nat) (A9 A10 : Option Addr), v8 = .slice (some ⟨g, 0, none⟩) l1.length l1.length ∧ v9 = .slice A9 has.length c9 ∧ v10 = .slice A10 at_.length c10 ∧ Aside0 (w.heap.size ≤ g) ∧ Aside0 (wc.heap[g]? = some (.cells (nums .i64 (List.replicate l1.length 0)).toArray 3 (0, 0))) ∧ Aside0 (Kd.R (Kd.int .i64) 3 wc w.heap.size (fun k=>k ≠ g) (.slice A9 has.length c9) has) ∧ Aside0 (Kd.R (Kd.int .i64) 3 wc w.heap.size (fun k=>k ≠ g) (.slice A10 at_.length c10) at_) ∧ Aside0 (Below w.heap.size w wc))
 case first =>
  go_region_with (first | (go_at_call 20;(with_reducible refine (waterfall_amounts.calls k A1 c1 l1 has _ (Kd.C_below HR.out (by repeat (first | exact HB3.out | exact HBA.out | exact HBT.out | apply below_drew1 | apply below_alloc))) hc1 HAM.out).mono ?_);rintro e wa ⟨va, rfl, hRa, hba⟩;obtain ⟨A9, c9, rfl⟩:=Kd.R_slice hRa;have HRA:=Aside0.mk hRa;have HDA:=Aside0.mk hba;have HBA:=Aside0.mk (below_step (by repeat (first | exact HB3.out | exact HBA.out | exact HBT.out | apply below_drew1 | apply below_alloc)) hba);clear hRa hba) | (go_at_call 21;(with_reducible refine (waterfall_turns.calls k A1 c1 l1 at_ _ (Kd.C_below HR.out (by repeat (first | exact HB3.out | exact HBA.out | exact HBT.out | apply below_drew1 | apply below_alloc))) hc1 HTU.out).mono ?_);rintro e wt ⟨vt, rfl, hRt, hbt⟩;obtain ⟨A10, c10, rfl⟩:=Kd.R_slice hRt;have HRT:=Aside0.mk hRt;have HDT:=Aside0.mk hbt;have HBT:=Aside0.mk (below_step (by repeat (first | exact HB3.out | exact HBA.out | exact HBT.out | apply below_drew1 | apply below_alloc)) hbt);clear hRt hbt))
  ·go_wp2
   go_meet
   case rel=>exact ⟨_, _, _, _, _, rfl, rfl, rfl, ⟨below_size HB3.out⟩, ⟨blk_below (blk_below (blk_new w3.drew _) HDA.out) HDT.out⟩, ⟨apartR HRA.out HDT.out (by have e0:=below_size HB3.out;have e1:=HDA.out.size;have e2:=HDT.out.size;simp at e0 e1 e2 ⊢;omega) (by intro k h1 h2;have e1:=HDA.out.size;have e2:=HDT.out.size;simp at h1 h2 e1 e2;omega)⟩, ⟨apartR HRT.out (Below.refl _ _) (by have e0:=below_size HB3.out;have e1:=HDA.out.size;have e2:=HDT.out.size;simp at e0 e1 e2 ⊢;omega) (by intro k h1 h2;have e1:=HDA.out.size;have e2:=HDT.out.size;simp at h1 h2 e1 e2;omega)⟩, HBT⟩
  ·go_wp2
   go_meet
   case rel=>exact ⟨_, _, _, _, _, rfl, rfl, rfl, ⟨below_size HBA.out⟩, ⟨blk_below (blk_new wa _) HDT.out⟩, ⟨apartR HRA.out (below_step (below_alloc (Below.refl wa.heap.size wa) _) HDT.out) (by have e0:=below_size HB3.out;have e1:=HDA.out.size;have e2:=HDT.out.size;simp at e0 e1 e2 ⊢;omega) (by intro k h1 h2;have e1:=HDA.out.size;have e2:=HDT.out.size;simp at h1 h2 e1 e2;omega)⟩, ⟨apartR HRT.out (Below.refl _ _) (by have e0:=below_size HB3.out;have e1:=HDA.out.size;have e2:=HDT.out.size;simp at e0 e1 e2 ⊢;omega) (by intro k h1 h2;have e1:=HDA.out.size;have e2:=HDT.out.size;simp at h1 h2 e1 e2;omega)⟩, HBT⟩
  ·go_wp2
   go_meet
   case rel=>exact ⟨_, _, _, _, _, rfl, rfl, rfl, ⟨below_size HBT.out⟩, ⟨blk_new wt _⟩, ⟨apartR HRA.out (below_step HDT.out (below_alloc (Below.refl wt.heap.size wt) _)) (by have e0:=below_size HB3.out;have e1:=HDA.out.size;have e2:=HDT.out.size;simp at e0 e1 e2 ⊢;omega) (by intro k h1 h2;have e1:=HDA.out.size;have e2:=HDT.out.size;simp at h1 h2 e1 e2;omega)⟩, ⟨apartR HRT.out (below_alloc (Below.refl wt.heap.size wt) _) (by have e0:=below_size HB3.out;have e1:=HDA.out.size;have e2:=HDT.out.size;simp at e0 e1 e2 ⊢;omega) (by intro k h1 h2;have e1:=HDA.out.size;have e2:=HDT.out.size;simp at h1 h2 e1 e2;omega)⟩, ⟨below_alloc HBT.out _⟩⟩
 case rest =>
  obtain ⟨g, c9, c10, A9, A10, rfl, rfl, rfl, HG, HZ, HRA, HRT, HB⟩:=hcut
  clear HB3
  generalize hZ : List.replicate l1.length (0 : Int) = zs at *
  go_wp2_with fail
  refine (taker_any wc.heap.size (some ⟨g, 0, none⟩) l1.length l1.length _).mono ?_
  rintro e w6 ⟨gb, gc, rfl, hgb, hgc, hb1, hc1', hb6⟩
  have hlg:=blk_lt HZ.out
  have hba:=below_alloc (Below.refl wc.heap.size wc) (.cells #[.int .i64 a0] 3)
  have hbs:=below_step hba hb6
  simp only [World.size_alloc] at hgb hgc
  have HB6:=Aside0.mk (below_step HB.out hbs)
  have HL:=Aside0.mk (blk_below (blk_new wc (.cells #[.int .i64 a0] 3)) hb6)
  have HO:=Aside0.mk (blk_below HZ.out hbs)
  have HH:=Aside0.mk (Kd.R_below (Kd.R_elderB HRA.out wc.heap.size (Nat.le_refl _)) hbs)
  have HA:=Aside0.mk (Kd.R_below (Kd.R_elderB HRT.out wc.heap.size (Nat.le_refl _)) hbs)
  have HB1:=Aside0.mk hb1
  have HC1:=Aside0.mk hc1'
  have hwg:=HG.out
  have hwl : w.heap.size ≤ wc.heap.size:=below_size HB.out
  have hzl : zs.length = l1.length:=by rw [← hZ];simp
  have hgl : g ≠ wc.heap.size:=by omega
  generalize wc.heap.size = gL at *
  clear HB HZ HRA HRT hba hbs hb1 hc1' hb6 HG hZ
  go_wp2_with fail
  go_loopw [13] (fun v13 wr=>∃ (i : Nat) (out : List Int) (left : Int), i < at_.length ∧ out.length = l1.length ∧ v13 = .int .i64 (i : Int) ∧ Aside0 (absGo k has (at_.drop i) out left = some (r1, r2)) ∧ Aside0 (wr.heap[gL]? = some (.cells #[.int .i64 left] 3 (0, 0))) ∧ Aside0 (wr.heap[g]? = some (.cells (nums .i64 out).toArray 3 (0, 0))) ∧ Aside0 (wr.heap[gb]? = some (.cells #[.pointer (some ⟨gL, 0, none⟩)] 51 (0, 0))) ∧ Aside0 (wr.heap[gc]? = some (.cells #[.slice (some ⟨g, 0, none⟩) l1.length l1.length] 22 (0, 0))) ∧ Aside0 (Kd.R (Kd.int .i64) 3 wr w.heap.size (fun k=>k ≠ g ∧ k ≠ gL) (.slice A9 has.length c9) has) ∧ Aside0 (Kd.R (Kd.int .i64) 3 wr w.heap.size (fun k=>k ≠ g ∧ k ≠ gL) (.slice A10 at_.length c10) at_) ∧ Aside0 (Below w.heap.size w wr)) (fun v13 _=>at_.length - (intOf v13).toNat)
  case atStart=>exact ⟨0, zs, a0, hal.1, hzl, rfl, ⟨by rw [List.drop_zero];exact HRES.out⟩, HL, HO, HB1, HC1, HH, HA, HB6⟩
  case round =>
   clear HRES HL HO HB1 HC1 HH HA HB6
   obtain ⟨i, out, left, hi, hol, rfl, HRES, HL, HO, HB1, HC1, HH, HA, HB⟩:=hrel
   have hq3 : wr.cell? ⟨gL, 0, none⟩ = some (.int .i64 left):=(blk_cell HL.out 0).trans rfl
   by_cases hpos : 0 < left
   ·have d1 : decide (0 < left) = true:=decide_eq_true hpos
    by_cases hlt : i + 1 < at_.length
    ·have hlti : (i : Int) + 1 < (at_.length : Int):=by omega
     have d2 : decide ((i : Int) + 1 < (at_.length : Int)) = true:=decide_eq_true hlti
     have hres:=HRES.out
     rw [List.drop_eq_getElem_cons (by omega), List.drop_eq_getElem_cons hlt, absGo, if_pos hpos] at hres
     have ea : at_[i] = rd at_ (i : Int):=by unfold rd;rw [Int.toNat_natCast, List.getD_eq_getElem?_getD, List.getElem?_eq_getElem (by omega)];rfl
     have eb : at_[i + 1] = rd at_ ((i : Int) + 1):=by unfold rd;rw [show ((i : Int) + 1).toNat = i + 1 by omega, List.getD_eq_getElem?_getD, List.getElem?_eq_getElem hlt];rfl
     rw [ea, eb] at hres
     obtain ⟨ad, ex, hx0⟩:=Kd.at_int (Kd.R_reads' HA.out).2.2 (i : Int) (by omega) (by omega)
     cases ex
     obtain ⟨ad', ex, hx1⟩:=Kd.at_int (Kd.R_reads' HA.out).2.2 ((i : Int) + 1) (by omega) (by omega)
     cases ex
     have hback : rd at_ ((i : Int) + 1) :: List.drop (i + 1 + 1) at_ = at_.drop (i + 1):=by rw [← eb];exact (List.drop_eq_getElem_cons hlt).symm
     rw [hback] at hres
     have hx1r:=hx1
     simp only [Int.toNat_natCast, show ((i : Int) + 1).toNat = i + 1 by omega] at hx0 hx1
     have hx1s : wr.cell? ⟨ad.block, ad.off + (i + 1), none⟩ = some (.int .i64 (rd at_ ((i : Int) + 1))):=by first | exact hx1 | simpa [Addr.add] using hx1
     generalize rd at_ (i : Int) = a at *
     generalize rd at_ ((i : Int) + 1) = b at *
     by_cases hab : 0 ≤ a ∧ a < b ∧ b ≤ (has.length : Int) ∧ b ≤ (out.length : Int)
     ·rw [if_pos hab, Option.bind_eq_some_iff] at hres
      obtain ⟨⟨p, l2⟩, htk, hres⟩:=hres
      simp only at hres
      by_cases hpl : p.length ≤ b.toNat - a.toNat
      ·rw [if_pos hpl] at hres
       have HTK:=Aside0.mk htk
       have HRES2:=Aside0.mk hres
       clear htk hres ea eb hback HRES
       obtain ⟨h0a, hab1, hbh, hbo⟩:=hab
       have hca:=(Kd.R_reads' HH.out).2.1
       have hwi : IntKind.i64.wrap ((i : Int) + 1) = (i : Int) + 1:=by rw [i64_w];unfold wrap64;omega
       have h0i : 0 ≤ (i : Int) + 1:=by omega
       have hti : ((i : Int) + 1).toNat = i + 1:=by omega
       have hable : a ≤ b:=by omega
       have hbc9 : b ≤ (c9 : Int):=by omega
       have h0b : 0 ≤ b:=by omega
       go_wp2_with fail
       go_still_tail 16, (by kernel_rfl)
       change wpList _ _ _ _ _ wr.drew
       have HL2:=Aside0.mk (blk_drew HL.out)
       have HO2:=Aside0.mk (blk_drew HO.out)
       have HB12:=Aside0.mk (blk_drew HB1.out)
       have HC12:=Aside0.mk (blk_drew HC1.out)
       have HH2:=Aside0.mk (Kd.R_drew HH.out)
       have HA2:=Aside0.mk (Kd.R_drew HA.out)
       have HBd:=Aside0.mk (below_drew1 HB.out)
       clear HL HO HB1 HC1 HH HA HB hq3 hx0 hx1 hx1r hx1s
       generalize wr.drew = wd at *
       have hln : ((has.take b.toNat).drop a.toNat).length = b.toNat - a.toNat:=by rw [List.length_drop, List.length_take];omega
       have hCm:=Kd.C_mid (k:=Kd.int .i64) (lo:=a.toNat) (hi:=b.toNat) (Kd.R_reads' HH2.out).2.2 (by omega) (by omega) hca
       rw [if_neg (show ¬ c9 = a.toNat by omega)]
       rw [if_neg (show ¬ c9 = a.toNat by omega)] at hCm
       have hown : ∀ ad9, Option.map (fun x : Addr=>x.add (a.toNat * (Kd.int .i64).sz)) A9 = some ad9 → ad9.block ≠ g ∧ ad9.block ≠ gL:=by
        intro ad9 he
        cases A9 with
        | none=>cases he
        | some z =>
         have hz:=HH2.out.1 z.block rfl
         cases he
         rw [add_block];exact hz
       have hCALL:=take_any k a.toNat ((has.take b.toNat).drop a.toNat) out _ (c9 - a.toNat) left l2 p gb gc gL g wd hCm (by omega) (by omega) (by omega) (by omega) HB12.out (by rw [hol];exact HC12.out) HL2.out HO2.out hgl hown HTK.out (by omega)
       rw [hln, show ((a.toNat : Nat) : Int) = a by omega, show a.toNat * (Kd.int .i64).sz = a.toNat from Nat.mul_one _] at hCALL
       have HCALL:=Aside0.mk hCALL
       clear hCm hown hCALL HTK
       go_wp2_with fail
       refine HCALL.out.mono ?_
       rintro e w8 ⟨rfl, hL8, hO8, hk8⟩
       have hwd:=below_size HBd.out
       have HL8:=Aside0.mk hL8
       have HO8:=Aside0.mk hO8
       have hb8 : gb ≠ gL ∧ gb ≠ g:=by
        have e1:=HB12.out
        constructor
        ·rintro rfl
         have he:=Option.some.inj (e1.symm.trans HL2.out)
         injection he with _ he2 _
         exact absurd he2 (by decide)
        ·rintro rfl
         have he:=Option.some.inj (e1.symm.trans HO2.out)
         injection he with _ he2 _
         exact absurd he2 (by decide)
       have hc8 : gc ≠ gL ∧ gc ≠ g:=by
        have e1:=HC12.out
        constructor
        ·rintro rfl
         have he:=Option.some.inj (e1.symm.trans HL2.out)
         injection he with _ he2 _
         exact absurd he2 (by decide)
        ·rintro rfl
         have he:=Option.some.inj (e1.symm.trans HO2.out)
         injection he with _ he2 _
         exact absurd he2 (by decide)
       have HB18:=Aside0.mk (hk8.blk HB12.out hb8.1 hb8.2)
       have HC18:=Aside0.mk (hk8.blk HC12.out hc8.1 hc8.2)
       have HH8:=Aside0.mk (hk8.row HH2.out (fun _ h=>⟨h.2, h.1⟩))
       have HA8:=Aside0.mk (hk8.row HA2.out (fun _ h=>⟨h.2, h.1⟩))
       have HB8:=Aside0.mk (hk8.below HBd.out hwd (by omega) hwg)
       have hovl : (overlay out a.toNat p).length = l1.length:=by
        unfold overlay
        rw [List.length_append, List.length_append, List.length_take, List.length_drop];omega
       clear HCALL hL8 hO8 hk8 HL2 HO2 HB12 HC12 HH2 HA2 HBd
       go_wp2_with fail
       go_roundw
       case measure=>show _ < _;simp [intOf];omega
       case rel=>exact ⟨i + 1, overlay out a.toNat p, l2, by omega, hovl, by go_num, HRES2, HL8, HO8, HB18, HC18, HH8, HA8, HB8⟩
      ·rw [if_neg hpl] at hres;cases hres
     ·rw [if_neg hab] at hres;cases hres
    ·have d2 : decide ((i : Int) + 1 < (at_.length : Int)) = false:=decide_eq_false (by omega)
     have hres:=HRES.out
     have hstop : absGo k has (at_.drop i) out left = some (out, left):=absGo_short k has _ out left (by rw [List.length_drop];omega)
     rw [hstop] at hres
     have hres:=Option.some.inj hres
     simp only [Prod.mk.injEq] at hres
     obtain ⟨rfl, rfl⟩:=hres
     clear HRES hstop
     go_wp2_with fail
     go_region
     go_wp2_with fail
     go_ret3
     exact ⟨_, rfl, by rw [← hol];exact rowR hwg (by omega) (blk_drew HO.out), below_drew1 HB.out⟩
   ·have d1 : decide (0 < left) = false:=decide_eq_false hpos
    have hres:=HRES.out
    have hstop : absGo k has (at_.drop i) out left = some (out, left):=absGo_none k has _ out left hpos
    rw [hstop] at hres
    have hres:=Option.some.inj hres
    simp only [Prod.mk.injEq] at hres
    obtain ⟨rfl, rfl⟩:=hres
    clear HRES hstop
    go_wp2_with fail
    go_region
    go_wp2_with fail
    go_ret3
    exact ⟨_, rfl, by rw [← hol];exact rowR hwg (by omega) (blk_drew HO.out), below_drew1 HB.out⟩
theorem takeF_mono (k : Nat) (left : Int) (has : List Int) : LeO (takeF k left has) (takeF (k + 1) left has):=by
 unfold takeF
 exact LeO.bind (waterfall_total.mono _ _) fun t=>LeO.ite (LeO.bind (LeO.refl _) fun q=>LeO.bind (waterfall_total.mono _ _) fun u=>LeO.refl _) (LeO.bind (waterfall_total.mono _ _) fun u=>LeO.refl _)
theorem absGo_mono (k : Nat) (has : List Int) : ∀ (l out : List Int) (left : Int), LeO (absGo k has l out left) (absGo (k + 1) has l out left)
 | [], _, _=>LeO.refl _
 | [_], _, _=>LeO.refl _
 | a :: b :: r, out, left=>by
  unfold absGo
  exact LeO.ite (LeO.ite (LeO.bind (takeF_mono _ _ _) fun q=>LeO.ite (absGo_mono k has (b :: r) _ _) (LeO.refl _)) (LeO.refl _)) (LeO.refl _)
theorem waterfall_Absorb.mono : ∀ a0 a1 k, LeO (waterfall_Absorb.f k a0 a1) (waterfall_Absorb.f (k + 1) a0 a1):=by
 intro a0 a1 k
 unfold waterfall_Absorb.f
 exact LeO.bind (waterfall_Check.mono _ _) fun e=>LeO.ite (LeO.bind (LeO.refl _) fun m=>LeO.ite (LeO.ite (LeO.bind (waterfall_amounts.mono _ _) fun has=>LeO.bind (waterfall_turns.mono _ _) fun at_=>LeO.ite (LeO.bind (absGo_mono _ _ _ _ _) fun q=>LeO.refl _) (LeO.refl _)) (LeO.refl _)) (LeO.refl _)) (LeO.refl _)
set_option maxHeartbeats 4000000 in
set_option maxRecDepth 100000 in
theorem waterfall_Absorb.calls (k : Nat) (a0 : Int) (A1 : Option Addr) (c1 : Nat) (l1 : List (S38)) (r1 : List Int) (r2 : Int) (r3 : Int) (w : World) (hr1 : Kd.C k38 w A1 l1.length l1) (hc1 : l1.length ≤ c1) (h : waterfall_Absorb.f k a0 l1 = some (r1, r2, r3)) :
  Calls Try.prog 10 #[.int .i64 a0, .slice A1 l1.length c1] w fun e w'=>∃ v0_ : Value, e = .returned (.tuple #[v0_, .int .i64 r2, .int .i64 r3]) ∧ Kd.R (Kd.int .i64) 3 w' w.heap.size (fun _=>True) v0_ r1 ∧ Below w.heap.size w w':=by
 unfold waterfall_Absorb.f at h
 rw [Option.bind_eq_some_iff] at h
 obtain ⟨e0, hck, h⟩:=h
 by_cases he : e0 = 0
 ·subst he
  rw [if_pos rfl, Option.bind_eq_some_iff] at h
  obtain ⟨m, hmo, h⟩:=h
  cases m with
  | true =>
   rw [if_pos rfl] at h
   by_cases hlen : l1.length ≤ 1024
   ·rw [if_pos hlen, Option.bind_eq_some_iff] at h
    obtain ⟨has, ham, h⟩:=h
    rw [Option.bind_eq_some_iff] at h
    obtain ⟨at_, htu, h⟩:=h
    by_cases hal : 0 < at_.length ∧ at_.length ≤ 1048576
    ·rw [if_pos hal, Option.bind_eq_some_iff] at h
     obtain ⟨⟨q1, q2⟩, hq, h⟩:=h
     simp only [Option.some.injEq, Prod.mk.injEq] at h
     obtain ⟨rfl, rfl, rfl⟩:=h
     exact absorb_any k a0 A1 c1 l1 has at_ q1 q2 w hr1 hc1 hck hmo hlen ham htu hal hq
    ·rw [if_neg hal] at h;cases h
   ·rw [if_neg hlen] at h;cases h
  | false =>
   rw [if_neg (by decide)] at h
   simp only [Option.some.injEq, Prod.mk.injEq] at h
   obtain ⟨rfl, rfl, rfl⟩:=h
   go_enter Try.func10, Try.ntmps10
   go_wp2_with fail
   refine (waterfall_Check.calls k A1 c1 l1 0 _ hr1 hc1 hck).mono ?_
   rintro e w2 ⟨rfl, hb⟩
   have HB2:=Aside0.mk hb
   clear hb
   go_wp2_with fail
   refine (waterfall_money.calls a0 false _ hmo).mono ?_
   rintro e w3 ⟨rfl, ⟨⟨n3, rfl⟩⟩⟩
   go_wp2_with fail
   go_ret3
   exact ⟨_, rfl, Kd.R_nil _ _ _ _ _, pw_below_drewN HB2.out n3⟩
 ·rw [if_neg he] at h
  simp only [Option.some.injEq, Prod.mk.injEq] at h
  obtain ⟨rfl, rfl, rfl⟩:=h
  have hne : (e0 != 0) = true:=bne_iff_ne.mpr he
  go_enter Try.func10, Try.ntmps10
  go_wp2_with fail
  refine (waterfall_Check.calls k A1 c1 l1 e0 _ hr1 hc1 hck).mono ?_
  rintro e w2 ⟨rfl, hb⟩
  have HB2:=Aside0.mk hb
  clear hb
  go_wp2_with fail
  go_ret3
  exact ⟨_, rfl, Kd.R_nil _ _ _ _ _, HB2.out⟩

/-! ### waterfall_Layer: function 11 -/
mutual
def waterfall_Layer.j0 : Nat → List (S38) → Int → Bool → Option (Int × Int)
 | 0, _, _, _=>none
 | k + 1, x0, x1, x20=>if x20 = true then (some (0, 2)) else (waterfall_Layer.l0 k x1 0 x0 (x0.length : Int) 0)
def waterfall_Layer.l0 : Nat → Int → Int → List (S38) → Int → Int → Option (Int × Int)
 | 0, _, _, _, _, _=>none
 | k + 1, x1, x7, x21, x22, x23=>if x23 < x22 then (if 0 ≤ x23 then (if x23 < (x21.length : Int) then (if ((rd_T38 x21 x23).f0) = x1 then (waterfall_Layer.l0 k x1 (wrap64 (x7 + ((rd_T38 x21 x23).f3))) x21 x22 (wrap64 (x23 + 1))) else (waterfall_Layer.l0 k x1 x7 x21 x22 (wrap64 (x23 + 1)))) else (none)) else (none)) else (some (x7, 0))
end
def waterfall_Layer.f (k : Nat) (l0 : List (S38)) (a1 : Int) : Option (Int × Int):=(waterfall_Check.f k l0).bind fun t237=>(if t237 = 0 then (if a1 < 1 then (waterfall_Layer.j0 k l0 a1 true) else (waterfall_Layer.j0 k l0 a1 (decide (a1 > 8)))) else (some (0, t237)))
theorem waterfall_Layer.mono_l : ∀ k, (∀ y0 y1 y2, LeO (waterfall_Layer.j0 k y0 y1 y2) (waterfall_Layer.j0 (k + 1) y0 y1 y2)) ∧ (∀ y0 y1 y2 y3 y4, LeO (waterfall_Layer.l0 k y0 y1 y2 y3 y4) (waterfall_Layer.l0 (k + 1) y0 y1 y2 y3 y4))
 | 0=>⟨fun _ _ _ r h=>by simp [waterfall_Layer.j0] at h, fun _ _ _ _ _ r h=>by simp [waterfall_Layer.l0] at h⟩
 | k + 1=>by
  obtain ⟨ih0, ih1⟩:=waterfall_Layer.mono_l k
  refine ⟨?_, ?_⟩
  ·intro y0 y1 y2
   unfold waterfall_Layer.j0
   repeat' first
   | (with_reducible exact ih0 _ _ _)
   | (with_reducible exact ih1 _ _ _ _ _)
   | (with_reducible exact waterfall_Check.mono _ _)
   | (with_reducible exact LeO.refl _)
   | (with_reducible exact LeO.none _)
   | (with_reducible refine LeO.ite ?_ ?_)
   | (with_reducible refine LeO.bind ?_ (fun _=>?_))
   | exact ih0 _ _ _
   | exact ih1 _ _ _ _ _
   | exact waterfall_Check.mono _ _
   | exact LeO.none _
   | refine LeO.ite ?_ ?_
   | refine LeO.bind ?_ (fun _=>?_)
  ·intro y0 y1 y2 y3 y4
   unfold waterfall_Layer.l0
   repeat' first
   | (with_reducible exact ih0 _ _ _)
   | (with_reducible exact ih1 _ _ _ _ _)
   | (with_reducible exact waterfall_Check.mono _ _)
   | (with_reducible exact LeO.refl _)
   | (with_reducible exact LeO.none _)
   | (with_reducible refine LeO.ite ?_ ?_)
   | (with_reducible refine LeO.bind ?_ (fun _=>?_))
   | exact ih0 _ _ _
   | exact ih1 _ _ _ _ _
   | exact waterfall_Check.mono _ _
   | exact LeO.none _
   | refine LeO.ite ?_ ?_
   | refine LeO.bind ?_ (fun _=>?_)
theorem waterfall_Layer.mono : ∀ a0 a1 k, LeO (waterfall_Layer.f k a0 a1) (waterfall_Layer.f (k + 1) a0 a1):=by
 intro a0 a1 k
 obtain ⟨ih0, ih1⟩:=waterfall_Layer.mono_l k
 unfold waterfall_Layer.f
 repeat' first
   | (with_reducible exact ih0 _ _ _)
   | (with_reducible exact ih1 _ _ _ _ _)
   | (with_reducible exact waterfall_Check.mono _ _)
   | (with_reducible exact LeO.refl _)
   | (with_reducible exact LeO.none _)
   | (with_reducible refine LeO.ite ?_ ?_)
   | (with_reducible refine LeO.bind ?_ (fun _=>?_))
   | exact ih0 _ _ _
   | exact ih1 _ _ _ _ _
   | exact waterfall_Check.mono _ _
   | exact LeO.none _
   | refine LeO.ite ?_ ?_
   | refine LeO.bind ?_ (fun _=>?_)
set_option maxHeartbeats 8000000 in
set_option maxRecDepth 100000 in
theorem waterfall_Layer.calls (k : Nat) (A0 : Option Addr) (c0 : Nat) (l0 : List (S38)) (a1 : Int) (r1 : Int) (r2 : Int) (w : World) (hr0 : Kd.C k38 w A0 l0.length l0) (hc0 : l0.length ≤ c0) (h : waterfall_Layer.f k l0 a1 = some (r1, r2)) :
  Calls Try.prog 11 #[.slice A0 l0.length c0, .int .i64 a1] w fun e w'=>e = .returned (.tuple #[.int .i64 r1, .int .i64 r2]) ∧ Below w.heap.size w w':=by
 have hu38:=Try.underlying38
 have HR0:=Aside0.mk hr0
 have HC0:=Aside0.mk hc0
 clear hr0 hc0
 have HB:=Aside0.mk (Below.refl w.heap.size w)
 have H : ((waterfall_Check.f k l0).bind fun t237=>(if t237 = 0 then (if a1 < 1 then (waterfall_Layer.j0 k l0 a1 true) else (waterfall_Layer.j0 k l0 a1 (decide (a1 > 8)))) else (some (0, t237)))) = some (r1, r2):=h
 clear h
 replace H:=Option.bind_eq_some_iff.mp H
 obtain ⟨t237, A30, H⟩:=H
 replace H : (if t237 = 0 then (if a1 < 1 then (waterfall_Layer.j0 k l0 a1 true) else (waterfall_Layer.j0 k l0 a1 (decide (a1 > 8)))) else (some (0, t237))) = some (r1, r2):=H
 have A3:=Aside0.mk A30
 clear A30
 by_cases c4 : t237 = 0
 ·rw [if_pos c4] at H
  have c4b0 : (t237 == 0) = true:=beq_iff_eq.mpr c4
  have c4b1 : (t237 != 0) = false:=bne_eq_false_iff_eq.mpr c4
  clear c4
  have HC5:=Aside0.mk H
  clear H
  go_enter Try.func11, Try.ntmps11
  go_upto_region 4 with (first | ((with_reducible refine gate_callee (f:=18) rfl ?_);refine goesL_ (some 11) rfl rfl Try.func18 (by kernel_rfl) rfl #[.slice A0 l0.length c0] rfl (by (try simp only [List.map_toArray, List.map_cons, List.map_nil]);first | done | rfl | (simp only [List.length_drop, List.length_take];rfl)) ?_;(with_reducible refine (waterfall_Check.calls k _ _ l0 t237 _ ?side1 ?side2 A3.out).mono ?_);(case side1=>repeat (first | exact HR0.out | (with_reducible refine Kd.C_alloc ?_ _) | (with_reducible refine Kd.C_drewN ?_ _) | (with_reducible refine Kd.C_drew ?_)));(case side2=>exact HC0.out);rintro e w6 ⟨rfl, hb⟩;refine ⟨_, rfl, ?_⟩;have n0_:=Aside0.mk (below_step (by repeat (first | (with_reducible first | exact HB.out | apply below_alloc | apply pw_below_drewN | apply below_drew1) | exact HB.out)) hb);clear HB;have HB:=n0_;clear n0_;(try clear hb);(try clear hb2);(try clear hk);(try clear hi)))
  (try simp only [Act.put, List.setIfInBounds_toArray, List.set_cons_zero, List.set_cons_succ])
  go_cut [20] (fun v20 wc=>∃ (kq : Nat) (x20_4 : Bool), v20 = .bool x20_4 ∧ Aside0 (waterfall_Layer.j0 kq l0 a1 x20_4 = some (r1, r2)) ∧ Aside0 (kq ≤ k) ∧ Aside0 (Below w.heap.size w wc))
  case first =>
   have H:=HC5.out
   clear HC5
   by_cases c7 : a1 < 1
   ·rw [if_pos c7] at H
    have c7b0 : decide (a1 < 1) = true:=decide_eq_true c7
    clear c7
    (first | rw [c7b0] | (simp only [i64_w, i32_w];rw [c7b0]) | skip)
    have H':=Aside0.mk H
    clear H
    go_wp2
    go_meet
    case rel=>exact ⟨_, (true), (by first | rfl | (simp;done) | (simp [*];done)), H', ⟨by first | omega | exact Nat.le_refl _⟩, ⟨by repeat (first | (with_reducible first | exact HB.out | apply below_alloc | apply pw_below_drewN | apply below_drew1) | exact HB.out)⟩⟩
   ·rw [if_neg c7] at H
    have c7b0 : decide (a1 < 1) = false:=decide_eq_false c7
    clear c7
    (first | rw [c7b0] | (simp only [i64_w, i32_w];rw [c7b0]) | skip)
    have H':=Aside0.mk H
    clear H
    go_wp2
    go_meet
    case rel=>exact ⟨_, (decide (a1 > 8)), (by first | rfl | (simp;done) | (simp [*];done)), H', ⟨by first | omega | exact Nat.le_refl _⟩, ⟨by repeat (first | (with_reducible first | exact HB.out | apply below_alloc | apply pw_below_drewN | apply below_drew1) | exact HB.out)⟩⟩
  case rest =>
   clear HC5
   try clear c1
   try clear p2
   try clear c4
   try clear c4b0
   try clear c4b1
   try clear c7
   try clear c7b0
   obtain ⟨kq, x20_4, rfl, HA, HJ4, HB⟩:=hcut
   cases kq with
   | zero=>exact absurd HA.out (by simp [waterfall_Layer.j0])
   | succ kj4 =>
    have H:=HA.out
    clear HA
    simp only [waterfall_Layer.j0] at H
    by_cases c8 : x20_4 = true
    ·subst c8
     have H1 : (some (0, 2)) = some (r1, r2):=by rw [if_pos rfl] at H;exact H
     clear H
     have H:=H1
     clear H1
     simp only [Option.some.injEq, Prod.mk.injEq] at H
     obtain ⟨rfl, rfl⟩:=H
     go_wp2
     go_ret2
     exact ⟨by first | rfl | (simp [errW_none, errW_some] <;> rfl) | (simp [*, errW_none, errW_some] <;> rfl), by repeat (first | (with_reducible first | exact HB.out | apply below_alloc | apply pw_below_drewN | apply below_drew1) | exact HB.out)⟩
    ·replace c8:=Bool.eq_false_iff.mpr c8
     subst c8
     have H1 : (waterfall_Layer.l0 kj4 a1 0 l0 (l0.length : Int) 0) = some (r1, r2):=by rw [if_neg (show ¬ (false = true) by decide)] at H;exact H
     clear H
     have H:=H1
     clear H1
     have H':=Aside0.mk H
     clear H
     go_wp2
     go_loopg [7, 23] kj4 (fun kq v7 v23 w'=>∃ (x7_2 : Int) (x23_2 : Int), v7 = .int .i64 x7_2 ∧ v23 = .int .i64 x23_2 ∧ Aside0 (waterfall_Layer.l0 kq a1 x7_2 l0 (l0.length : Int) x23_2 = some (r1, r2)) ∧ Aside0 (kq ≤ kj4) ∧ Aside0 (Below w.heap.size w w'))
     case atStart=>exact ⟨(0), (0), (by first | rfl | (simp;done) | (simp [*];done)), (by first | rfl | (simp;done) | (simp [*];done)), H', ⟨Nat.le_refl _⟩, ⟨by repeat (first | (with_reducible first | exact HB.out | apply below_alloc | apply pw_below_drewN | apply below_drew1) | exact HB.out)⟩⟩
     case round =>
      clear H'
      try clear c1
      try clear p2
      try clear c4
      try clear c4b0
      try clear c4b1
      try clear c7
      try clear c7b0
      try clear c8
      try clear p2
      obtain ⟨x7_2, x23_2, rfl, rfl, HA, HK2, HB⟩:=hrel
      cases gk with
      | zero=>exact absurd HA.out (by simp [waterfall_Layer.l0])
      | succ k2 =>
       have H:=HA.out
       clear HA
       simp only [waterfall_Layer.l0] at H
       by_cases c9 : x23_2 < (l0.length : Int)
       ·rw [if_pos c9] at H
        have c9b0 : decide (x23_2 < (l0.length : Int)) = true:=decide_eq_true c9
        clear c9
        by_cases c10 : 0 ≤ x23_2
        ·rw [if_pos c10] at H
         have c10b0 : decide (0 ≤ x23_2) = true:=decide_eq_true c10
         clear c10
         by_cases c11 : x23_2 < (l0.length : Int)
         ·rw [if_pos c11] at H
          have c11b0 : decide (x23_2 < (l0.length : Int)) = true:=decide_eq_true c11
          clear c11
          by_cases c12 : ((rd_T38 l0 x23_2).f0) = a1
          ·rw [if_pos c12] at H
           have c12b0 : (((rd_T38 l0 x23_2).f0) == a1) = true:=beq_iff_eq.mpr c12
           have c12b1 : (((rd_T38 l0 x23_2).f0) != a1) = false:=bne_eq_false_iff_eq.mpr c12
           clear c12
           have H':=Aside0.mk H
           clear H
           have p238 : 0 ≤ (x23_2 : Int):=of_decide_eq_true (by first | (with_reducible assumption) | assumption)
           have q238 : x23_2 < (l0.length : Int):=of_decide_eq_true (by first | (with_reducible assumption) | assumption)
           obtain ⟨ad238, e238, hx238_0, hx238_1, hx238_2, hx238_3⟩:=at_T38 HR0.out x23_2 p238 q238
           cases e238
           replace hx238_0:=(HB.out.cell (World.block_lt_of_cell? w _ hx238_0)).trans hx238_0
           replace hx238_1:=(HB.out.cell (World.block_lt_of_cell? w _ hx238_1)).trans hx238_1
           replace hx238_2:=(HB.out.cell (World.block_lt_of_cell? w _ hx238_2)).trans hx238_2
           replace hx238_3:=(HB.out.cell (World.block_lt_of_cell? w _ hx238_3)).trans hx238_3
           replace p238:=eq_true p238
           replace q238:=eq_true q238
           go_wp2_with (first | ((with_reducible refine gate_dst (N:=9) rfl ?_);refine box_event ?hg (N:=9) ?hd (cs:=#[.int .i64 0, .int .i64 0, .string (⟨#[]⟩ : ByteArray), .int .i64 0]) (t:=38) ?hr ?_;(case hd=>rfl);(case hg=>rfl);(case hr=>first | (go_simp;done) | (go_simp;rfl));intro gb239 hg w13 hbox hb;have n0_:=Aside0.mk (below_step (by repeat (first | (with_reducible first | exact HB.out | apply below_alloc | apply pw_below_drewN | apply below_drew1) | exact HB.out)) hb);have n1_:=Aside0.mk (hbox);have n2_:=Aside0.mk ((by rw [hg];exact (below_size (by repeat (first | (with_reducible first | exact HB.out | apply below_alloc | apply pw_below_drewN | apply below_drew1) | exact HB.out))) : w.heap.size ≤ gb239));have n3_:=Aside0.mk ((by rw [hg];exact (below_size (by repeat (first | (with_reducible first | exact HB.out | apply below_alloc | apply pw_below_drewN | apply below_drew1) | exact HB.out))) : w.heap.size ≤ gb239));clear HB;have HB:=n0_;have BK239:=n1_;have GW239:=n2_;have GE239:=n3_;clear n0_ n1_ n2_ n3_ hb hbox hg;have hcz14_0 : w13.cell? ⟨gb239, 0, none⟩ = some (.int .i64 0):=(blk_cell BK239.out 0).trans rfl;have hcz14_1 : w13.cell? ⟨gb239, 1, none⟩ = some (.int .i64 0):=(blk_cell BK239.out 1).trans rfl;have hcz14_2 : w13.cell? ⟨gb239, 2, none⟩ = some (.string (⟨#[]⟩ : ByteArray)):=(blk_cell BK239.out 2).trans rfl;have hcz14_3 : w13.cell? ⟨gb239, 3, none⟩ = some (.int .i64 0):=(blk_cell BK239.out 3).trans rfl;have hfz14_0:=blk_frozen BK239.out 0;have hfz14_1:=blk_frozen BK239.out 1;have hfz14_2:=blk_frozen BK239.out 2;have hfz14_3:=blk_frozen BK239.out 3))
           go_roundg k2
           case measure=>have:=HJ4.out;have:=HK2.out;omega
           case rel=>exact ⟨(wrap64 (x7_2 + ((rd_T38 l0 x23_2).f3))), (wrap64 (x23_2 + 1)), (by first | rfl | (simp;done) | (simp [*];done)), (by first | rfl | (simp;done) | (simp [*];done)), H', ⟨by have:=HJ4.out;have:=HK2.out;omega⟩, ⟨by repeat (first | (with_reducible first | exact HB.out | apply below_alloc | apply pw_below_drewN | apply below_drew1 | refine below_set ?_ GE239.out) | exact HB.out)⟩⟩
          ·rw [if_neg c12] at H
           have c12b0 : (((rd_T38 l0 x23_2).f0) == a1) = false:=beq_eq_false_iff_ne.mpr c12
           have c12b1 : (((rd_T38 l0 x23_2).f0) != a1) = true:=bne_iff_ne.mpr c12
           have H':=Aside0.mk H
           clear H
           have p238 : 0 ≤ (x23_2 : Int):=of_decide_eq_true (by first | (with_reducible assumption) | assumption)
           have q238 : x23_2 < (l0.length : Int):=of_decide_eq_true (by first | (with_reducible assumption) | assumption)
           obtain ⟨ad238, e238, hx238_0, hx238_1, hx238_2, hx238_3⟩:=at_T38 HR0.out x23_2 p238 q238
           cases e238
           replace hx238_0:=(HB.out.cell (World.block_lt_of_cell? w _ hx238_0)).trans hx238_0
           replace hx238_1:=(HB.out.cell (World.block_lt_of_cell? w _ hx238_1)).trans hx238_1
           replace hx238_2:=(HB.out.cell (World.block_lt_of_cell? w _ hx238_2)).trans hx238_2
           replace hx238_3:=(HB.out.cell (World.block_lt_of_cell? w _ hx238_3)).trans hx238_3
           replace p238:=eq_true p238
           replace q238:=eq_true q238
           go_wp2_with (first | ((with_reducible refine gate_dst (N:=9) rfl ?_);refine box_event ?hg (N:=9) ?hd (cs:=#[.int .i64 0, .int .i64 0, .string (⟨#[]⟩ : ByteArray), .int .i64 0]) (t:=38) ?hr ?_;(case hd=>rfl);(case hg=>rfl);(case hr=>first | (go_simp;done) | (go_simp;rfl));intro gb239 hg w15 hbox hb;have n0_:=Aside0.mk (below_step (by repeat (first | (with_reducible first | exact HB.out | apply below_alloc | apply pw_below_drewN | apply below_drew1) | exact HB.out)) hb);have n1_:=Aside0.mk (hbox);have n2_:=Aside0.mk ((by rw [hg];exact (below_size (by repeat (first | (with_reducible first | exact HB.out | apply below_alloc | apply pw_below_drewN | apply below_drew1) | exact HB.out))) : w.heap.size ≤ gb239));have n3_:=Aside0.mk ((by rw [hg];exact (below_size (by repeat (first | (with_reducible first | exact HB.out | apply below_alloc | apply pw_below_drewN | apply below_drew1) | exact HB.out))) : w.heap.size ≤ gb239));clear HB;have HB:=n0_;have BK239:=n1_;have GW239:=n2_;have GE239:=n3_;clear n0_ n1_ n2_ n3_ hb hbox hg;have hcz16_0 : w15.cell? ⟨gb239, 0, none⟩ = some (.int .i64 0):=(blk_cell BK239.out 0).trans rfl;have hcz16_1 : w15.cell? ⟨gb239, 1, none⟩ = some (.int .i64 0):=(blk_cell BK239.out 1).trans rfl;have hcz16_2 : w15.cell? ⟨gb239, 2, none⟩ = some (.string (⟨#[]⟩ : ByteArray)):=(blk_cell BK239.out 2).trans rfl;have hcz16_3 : w15.cell? ⟨gb239, 3, none⟩ = some (.int .i64 0):=(blk_cell BK239.out 3).trans rfl;have hfz16_0:=blk_frozen BK239.out 0;have hfz16_1:=blk_frozen BK239.out 1;have hfz16_2:=blk_frozen BK239.out 2;have hfz16_3:=blk_frozen BK239.out 3))
           go_roundg k2
           case measure=>have:=HJ4.out;have:=HK2.out;omega
           case rel=>exact ⟨(x7_2), (wrap64 (x23_2 + 1)), (by first | rfl | (simp;done) | (simp [*];done)), (by first | rfl | (simp;done) | (simp [*];done)), H', ⟨by have:=HJ4.out;have:=HK2.out;omega⟩, ⟨by repeat (first | (with_reducible first | exact HB.out | apply below_alloc | apply pw_below_drewN | apply below_drew1 | refine below_set ?_ GE239.out) | exact HB.out)⟩⟩
         ·rw [if_neg c11] at H
          exact absurd H (by simp)
        ·rw [if_neg c10] at H
         exact absurd H (by simp)
       ·rw [if_neg c9] at H
        have c9b0 : decide (x23_2 < (l0.length : Int)) = false:=decide_eq_false c9
        clear c9
        simp only [Option.some.injEq, Prod.mk.injEq] at H
        obtain ⟨rfl, rfl⟩:=H
        go_wp2
        go_ret2
        exact ⟨by first | rfl | (simp [errW_none, errW_some] <;> rfl) | (simp [*, errW_none, errW_some] <;> rfl), by repeat (first | (with_reducible first | exact HB.out | apply below_alloc | apply pw_below_drewN | apply below_drew1) | exact HB.out)⟩
 ·rw [if_neg c4] at H
  have c4b0 : (t237 == 0) = false:=beq_eq_false_iff_ne.mpr c4
  have c4b1 : (t237 != 0) = true:=bne_iff_ne.mpr c4
  simp only [Option.some.injEq, Prod.mk.injEq] at H
  obtain ⟨rfl, rfl⟩:=H
  go_enter Try.func11, Try.ntmps11
  go_wp2_with (first | ((with_reducible refine gate_callee (f:=18) rfl ?_);refine goesL_ (some 11) rfl rfl Try.func18 (by kernel_rfl) rfl #[.slice A0 l0.length c0] rfl (by (try simp only [List.map_toArray, List.map_cons, List.map_nil]);first | done | rfl | (simp only [List.length_drop, List.length_take];rfl)) ?_;(with_reducible refine (waterfall_Check.calls k _ _ l0 t237 _ ?side1 ?side2 A3.out).mono ?_);(case side1=>repeat (first | exact HR0.out | (with_reducible refine Kd.C_alloc ?_ _) | (with_reducible refine Kd.C_drewN ?_ _) | (with_reducible refine Kd.C_drew ?_)));(case side2=>exact HC0.out);rintro e w17 ⟨rfl, hb⟩;refine ⟨_, rfl, ?_⟩;have n0_:=Aside0.mk (below_step (by repeat (first | (with_reducible first | exact HB.out | apply below_alloc | apply pw_below_drewN | apply below_drew1) | exact HB.out)) hb);clear HB;have HB:=n0_;clear n0_;(try clear hb);(try clear hb2);(try clear hk);(try clear hi)))
  go_ret2
  exact ⟨by first | rfl | (simp [errW_none, errW_some] <;> rfl) | (simp [*, errW_none, errW_some] <;> rfl), by repeat (first | (with_reducible first | exact HB.out | apply below_alloc | apply pw_below_drewN | apply below_drew1) | exact HB.out)⟩

/-! ### contangotop_goes24: function 12 -/
def contangotop_goes24.f (k : Nat)  : Option (Bool):=(waterfall_Absorb.f k 180 (([(⟨1, 0, (⟨#[97]⟩ : ByteArray), 100⟩ : S38), (⟨3, 0, (⟨#[104, 111, 117, 115, 101]⟩ : ByteArray), 50⟩ : S38), (⟨4, 0, (⟨#[98]⟩ : ByteArray), 30⟩ : S38), (⟨4, 0, (⟨#[99]⟩ : ByteArray), 60⟩ : S38)] : List (S38)))).bind fun bt243=>((assess_Call.f k 400 (([100, 300] : List Int)) 2000 (([50, 0] : List Int))).bind fun bt254=>(if bt243.2.2 = 0 then (if bt243.2.1 = 0 then (if (bt243.1.length : Int) = 4 then (if 2 < (bt243.1.length : Int) then (if (rd bt243.1 2) = 10 then (if 3 < (bt243.1.length : Int) then (if (rd bt243.1 3) = 20 then (if bt254.2.2 = 0 then (if bt254.2.1 = 0 then (if (bt254.1.length : Int) = 2 then (if 0 < (bt254.1.length : Int) then (if (rd bt254.1 0) = 100 then (if 1 < (bt254.1.length : Int) then (some ((rd bt254.1 1) == 300)) else (none)) else (none)) else (none)) else (none)) else (none)) else (none)) else (none)) else (none)) else (none)) else (none)) else (none)) else (none)) else (none)))
theorem contangotop_goes24.mono : ∀ k, LeO (contangotop_goes24.f k ) (contangotop_goes24.f (k + 1) ):=by
 intro  k
 unfold contangotop_goes24.f
 repeat' first
   | (with_reducible exact assess_Call.mono _ _ _ _ _)
   | (with_reducible exact waterfall_Absorb.mono _ _ _)
   | (with_reducible exact LeO.refl _)
   | (with_reducible exact LeO.none _)
   | (with_reducible refine LeO.ite ?_ ?_)
   | (with_reducible refine LeO.bind ?_ (fun _=>?_))
   | exact assess_Call.mono _ _ _ _ _
   | exact waterfall_Absorb.mono _ _ _
   | exact LeO.none _
   | refine LeO.ite ?_ ?_
   | refine LeO.bind ?_ (fun _=>?_)
set_option maxHeartbeats 8000000 in
set_option maxRecDepth 100000 in
theorem contangotop_goes24.calls (k : Nat)  (r : Bool) (w : World) (h : contangotop_goes24.f k  = some r) :
  Calls Try.prog 12 #[] w fun e w'=>e = .returned (.bool r) ∧ Below w.heap.size w w':=by
 have hu38:=Try.underlying38
 have HB:=Aside0.mk (Below.refl w.heap.size w)
 have H : ((waterfall_Absorb.f k 180 (([(⟨1, 0, (⟨#[97]⟩ : ByteArray), 100⟩ : S38), (⟨3, 0, (⟨#[104, 111, 117, 115, 101]⟩ : ByteArray), 50⟩ : S38), (⟨4, 0, (⟨#[98]⟩ : ByteArray), 30⟩ : S38), (⟨4, 0, (⟨#[99]⟩ : ByteArray), 60⟩ : S38)] : List (S38)))).bind fun bt243=>((assess_Call.f k 400 (([100, 300] : List Int)) 2000 (([50, 0] : List Int))).bind fun bt254=>(if bt243.2.2 = 0 then (if bt243.2.1 = 0 then (if (bt243.1.length : Int) = 4 then (if 2 < (bt243.1.length : Int) then (if (rd bt243.1 2) = 10 then (if 3 < (bt243.1.length : Int) then (if (rd bt243.1 3) = 20 then (if bt254.2.2 = 0 then (if bt254.2.1 = 0 then (if (bt254.1.length : Int) = 2 then (if 0 < (bt254.1.length : Int) then (if (rd bt254.1 0) = 100 then (if 1 < (bt254.1.length : Int) then (some ((rd bt254.1 1) == 300)) else (none)) else (none)) else (none)) else (none)) else (none)) else (none)) else (none)) else (none)) else (none)) else (none)) else (none)) else (none)) else (none)))) = some r:=h
 clear h
 obtain ⟨y240, hy240⟩ : ∃ y_ : List (S38), y_ = (([(⟨1, 0, (⟨#[97]⟩ : ByteArray), 100⟩ : S38), (⟨3, 0, (⟨#[104, 111, 117, 115, 101]⟩ : ByteArray), 50⟩ : S38), (⟨4, 0, (⟨#[98]⟩ : ByteArray), 30⟩ : S38), (⟨4, 0, (⟨#[99]⟩ : ByteArray), 60⟩ : S38)] : List (S38))):=⟨_, rfl⟩
 replace H : ((waterfall_Absorb.f k 180 y240).bind fun bt243=>((assess_Call.f k 400 (([100, 300] : List Int)) 2000 (([50, 0] : List Int))).bind fun bt254=>(if bt243.2.2 = 0 then (if bt243.2.1 = 0 then (if (bt243.1.length : Int) = 4 then (if 2 < (bt243.1.length : Int) then (if (rd bt243.1 2) = 10 then (if 3 < (bt243.1.length : Int) then (if (rd bt243.1 3) = 20 then (if bt254.2.2 = 0 then (if bt254.2.1 = 0 then (if (bt254.1.length : Int) = 2 then (if 0 < (bt254.1.length : Int) then (if (rd bt254.1 0) = 100 then (if 1 < (bt254.1.length : Int) then (some ((rd bt254.1 1) == 300)) else (none)) else (none)) else (none)) else (none)) else (none)) else (none)) else (none)) else (none)) else (none)) else (none)) else (none)) else (none)) else (none)))) = some r:=by first | (rw [hy240];with_reducible exact H) | (have H2_:=(Option.bind_some _ _).symm.trans H;rw [hy240];with_reducible exact H2_) | (have H2_:=(Option.bind_some _ _).symm.trans H;with_reducible exact H2_) | with_reducible exact H | (rw [hy240];exact H) | exact H
 have Ny240:=Aside0.mk hy240
 clear hy240
 replace H:=Option.bind_eq_some_iff.mp H
 obtain ⟨⟨t243, t244, t245⟩, A10, H⟩:=H
 replace H : ((assess_Call.f k 400 (([100, 300] : List Int)) 2000 (([50, 0] : List Int))).bind fun bt254=>(if t245 = 0 then (if t244 = 0 then (if (t243.length : Int) = 4 then (if 2 < (t243.length : Int) then (if (rd t243 2) = 10 then (if 3 < (t243.length : Int) then (if (rd t243 3) = 20 then (if bt254.2.2 = 0 then (if bt254.2.1 = 0 then (if (bt254.1.length : Int) = 2 then (if 0 < (bt254.1.length : Int) then (if (rd bt254.1 0) = 100 then (if 1 < (bt254.1.length : Int) then (some ((rd bt254.1 1) == 300)) else (none)) else (none)) else (none)) else (none)) else (none)) else (none)) else (none)) else (none)) else (none)) else (none)) else (none)) else (none)) else (none))) = some r:=H
 have A1:=Aside0.mk A10
 clear A10
 obtain ⟨y248, hy248⟩ : ∃ y_ : List Int, y_ = (([100, 300] : List Int)):=⟨_, rfl⟩
 replace H : ((assess_Call.f k 400 y248 2000 (([50, 0] : List Int))).bind fun bt254=>(if t245 = 0 then (if t244 = 0 then (if (t243.length : Int) = 4 then (if 2 < (t243.length : Int) then (if (rd t243 2) = 10 then (if 3 < (t243.length : Int) then (if (rd t243 3) = 20 then (if bt254.2.2 = 0 then (if bt254.2.1 = 0 then (if (bt254.1.length : Int) = 2 then (if 0 < (bt254.1.length : Int) then (if (rd bt254.1 0) = 100 then (if 1 < (bt254.1.length : Int) then (some ((rd bt254.1 1) == 300)) else (none)) else (none)) else (none)) else (none)) else (none)) else (none)) else (none)) else (none)) else (none)) else (none)) else (none)) else (none)) else (none))) = some r:=by first | (rw [hy248];with_reducible exact H) | (have H2_:=(Option.bind_some _ _).symm.trans H;rw [hy248];with_reducible exact H2_) | (have H2_:=(Option.bind_some _ _).symm.trans H;with_reducible exact H2_) | with_reducible exact H | (rw [hy248];exact H) | exact H
 have Ny248:=Aside0.mk hy248
 clear hy248
 obtain ⟨y251, hy251⟩ : ∃ y_ : List Int, y_ = (([50, 0] : List Int)):=⟨_, rfl⟩
 replace H : ((assess_Call.f k 400 y248 2000 y251).bind fun bt254=>(if t245 = 0 then (if t244 = 0 then (if (t243.length : Int) = 4 then (if 2 < (t243.length : Int) then (if (rd t243 2) = 10 then (if 3 < (t243.length : Int) then (if (rd t243 3) = 20 then (if bt254.2.2 = 0 then (if bt254.2.1 = 0 then (if (bt254.1.length : Int) = 2 then (if 0 < (bt254.1.length : Int) then (if (rd bt254.1 0) = 100 then (if 1 < (bt254.1.length : Int) then (some ((rd bt254.1 1) == 300)) else (none)) else (none)) else (none)) else (none)) else (none)) else (none)) else (none)) else (none)) else (none)) else (none)) else (none)) else (none)) else (none))) = some r:=by first | (rw [hy251];with_reducible exact H) | (have H2_:=(Option.bind_some _ _).symm.trans H;rw [hy251];with_reducible exact H2_) | (have H2_:=(Option.bind_some _ _).symm.trans H;with_reducible exact H2_) | with_reducible exact H | (rw [hy251];exact H) | exact H
 have Ny251:=Aside0.mk hy251
 clear hy251
 replace H:=Option.bind_eq_some_iff.mp H
 obtain ⟨⟨t254, t255, t256⟩, A20, H⟩:=H
 replace H : (if t245 = 0 then (if t244 = 0 then (if (t243.length : Int) = 4 then (if 2 < (t243.length : Int) then (if (rd t243 2) = 10 then (if 3 < (t243.length : Int) then (if (rd t243 3) = 20 then (if t256 = 0 then (if t255 = 0 then (if (t254.length : Int) = 2 then (if 0 < (t254.length : Int) then (if (rd t254 0) = 100 then (if 1 < (t254.length : Int) then (some ((rd t254 1) == 300)) else (none)) else (none)) else (none)) else (none)) else (none)) else (none)) else (none)) else (none)) else (none)) else (none)) else (none)) else (none)) else (none)) = some r:=H
 have A2:=Aside0.mk A20
 clear A20
 by_cases c3 : t245 = 0
 ·rw [if_pos c3] at H
  have c3b0 : (t245 == 0) = true:=beq_iff_eq.mpr c3
  have c3b1 : (t245 != 0) = false:=bne_eq_false_iff_eq.mpr c3
  clear c3
  by_cases c4 : t244 = 0
  ·rw [if_pos c4] at H
   have c4b0 : (t244 == 0) = true:=beq_iff_eq.mpr c4
   have c4b1 : (t244 != 0) = false:=bne_eq_false_iff_eq.mpr c4
   clear c4
   by_cases c5 : (t243.length : Int) = 4
   ·rw [if_pos c5] at H
    have c5b0 : ((t243.length : Int) == 4) = true:=beq_iff_eq.mpr c5
    have c5b1 : ((t243.length : Int) != 4) = false:=bne_eq_false_iff_eq.mpr c5
    clear c5
    by_cases c6 : 2 < (t243.length : Int)
    ·rw [if_pos c6] at H
     have c6b0 : decide (2 < (t243.length : Int)) = true:=decide_eq_true c6
     have c6b1 : decide (2 < t243.length) = true:=decide_eq_true (by omega)
     clear c6
     by_cases c7 : (rd t243 2) = 10
     ·rw [if_pos c7] at H
      have c7b0 : ((rd t243 2) == 10) = true:=beq_iff_eq.mpr c7
      have c7b1 : ((rd t243 2) != 10) = false:=bne_eq_false_iff_eq.mpr c7
      clear c7
      by_cases c8 : 3 < (t243.length : Int)
      ·rw [if_pos c8] at H
       have c8b0 : decide (3 < (t243.length : Int)) = true:=decide_eq_true c8
       have c8b1 : decide (3 < t243.length) = true:=decide_eq_true (by omega)
       clear c8
       by_cases c9 : (rd t243 3) = 20
       ·rw [if_pos c9] at H
        have c9b0 : ((rd t243 3) == 20) = true:=beq_iff_eq.mpr c9
        have c9b1 : ((rd t243 3) != 20) = false:=bne_eq_false_iff_eq.mpr c9
        clear c9
        by_cases c10 : t256 = 0
        ·rw [if_pos c10] at H
         have c10b0 : (t256 == 0) = true:=beq_iff_eq.mpr c10
         have c10b1 : (t256 != 0) = false:=bne_eq_false_iff_eq.mpr c10
         clear c10
         by_cases c11 : t255 = 0
         ·rw [if_pos c11] at H
          have c11b0 : (t255 == 0) = true:=beq_iff_eq.mpr c11
          have c11b1 : (t255 != 0) = false:=bne_eq_false_iff_eq.mpr c11
          clear c11
          by_cases c12 : (t254.length : Int) = 2
          ·rw [if_pos c12] at H
           have c12b0 : ((t254.length : Int) == 2) = true:=beq_iff_eq.mpr c12
           have c12b1 : ((t254.length : Int) != 2) = false:=bne_eq_false_iff_eq.mpr c12
           clear c12
           by_cases c13 : 0 < (t254.length : Int)
           ·rw [if_pos c13] at H
            have c13b0 : decide (0 < (t254.length : Int)) = true:=decide_eq_true c13
            have c13b1 : decide (0 < t254.length) = true:=decide_eq_true (by omega)
            clear c13
            by_cases c14 : (rd t254 0) = 100
            ·rw [if_pos c14] at H
             have c14b0 : ((rd t254 0) == 100) = true:=beq_iff_eq.mpr c14
             have c14b1 : ((rd t254 0) != 100) = false:=bne_eq_false_iff_eq.mpr c14
             clear c14
             by_cases c15 : 1 < (t254.length : Int)
             ·rw [if_pos c15] at H
              have c15b0 : decide (1 < (t254.length : Int)) = true:=decide_eq_true c15
              have c15b1 : decide (1 < t254.length) = true:=decide_eq_true (by omega)
              clear c15
              obtain rfl:=Option.some.inj H
              go_enter Try.func12, Try.ntmps12
              go_wp2_with (first | ((with_reducible refine gate_dst (N:=12) rfl ?_);(try (refine gate_guard (by rfl) ?_;dsimp only));refine Kd.R_lit k38 _ 38 ?hg (N:=12) ?hd (xs:=([(⟨1, 0, (⟨#[97]⟩ : ByteArray), 100⟩ : S38), (⟨3, 0, (⟨#[104, 111, 117, 115, 101]⟩ : ByteArray), 50⟩ : S38), (⟨4, 0, (⟨#[98]⟩ : ByteArray), 30⟩ : S38), (⟨4, 0, (⟨#[99]⟩ : ByteArray), 60⟩ : S38)] : List (S38))) (inner:=[.int .i64 1, .int .i64 0, .string (⟨#[97]⟩ : ByteArray), .int .i64 100, .int .i64 3, .int .i64 0, .string (⟨#[104, 111, 117, 115, 101]⟩ : ByteArray), .int .i64 50, .int .i64 4, .int .i64 0, .string (⟨#[98]⟩ : ByteArray), .int .i64 30, .int .i64 4, .int .i64 0, .string (⟨#[99]⟩ : ByteArray), .int .i64 60]) (ok:=fun _=>True) (okp:=fun _=>True) ?hr ?hp (fun _ hk=>hk) trivial (Below.refl _ _) (Nat.le_refl _) (by simp) ?_;(case hd=>rfl);(case hg=>rfl);(case hr=>first | (go_simp;done) | (go_simp;rfl));(case hp=>exact (Reps.c4 (show Kd.M k38 _ _ _ (⟨1, 0, (⟨#[97]⟩ : ByteArray), 100⟩ : S38) [.int .i64 1, .int .i64 0, .string (⟨#[97]⟩ : ByteArray), .int .i64 100] from (k38_mkM _ _ _ (⟨1, 0, (⟨#[97]⟩ : ByteArray), 100⟩ : S38) )) (Reps.c4 (show Kd.M k38 _ _ _ (⟨3, 0, (⟨#[104, 111, 117, 115, 101]⟩ : ByteArray), 50⟩ : S38) [.int .i64 3, .int .i64 0, .string (⟨#[104, 111, 117, 115, 101]⟩ : ByteArray), .int .i64 50] from (k38_mkM _ _ _ (⟨3, 0, (⟨#[104, 111, 117, 115, 101]⟩ : ByteArray), 50⟩ : S38) )) (Reps.c4 (show Kd.M k38 _ _ _ (⟨4, 0, (⟨#[98]⟩ : ByteArray), 30⟩ : S38) [.int .i64 4, .int .i64 0, .string (⟨#[98]⟩ : ByteArray), .int .i64 30] from (k38_mkM _ _ _ (⟨4, 0, (⟨#[98]⟩ : ByteArray), 30⟩ : S38) )) (Reps.c4 (show Kd.M k38 _ _ _ (⟨4, 0, (⟨#[99]⟩ : ByteArray), 60⟩ : S38) [.int .i64 4, .int .i64 0, .string (⟨#[99]⟩ : ByteArray), .int .i64 60] from (k38_mkM _ _ _ (⟨4, 0, (⟨#[99]⟩ : ByteArray), 60⟩ : S38) )) (Reps.none _ _))))));intro v241 w16 ho17 hb hg_ hnew_;clear hg_ hnew_;(first | rw [← Ny240.out] at ho17 | (simp only [Int.reduceToNat] at ho17;rw [← Ny240.out] at ho17));have n0_:=Aside0.mk (Kd.R_lower ho17 (below_size (by repeat (first | (with_reducible first | exact HB.out | apply below_alloc | apply pw_below_drewN | apply below_drew1) | exact HB.out))));have n1_:=Aside0.mk (below_step (by repeat (first | (with_reducible first | exact HB.out | apply below_alloc | apply pw_below_drewN | apply below_drew1) | exact HB.out)) hb);clear HB;have HO242:=n0_;have HB:=n1_;clear n0_ n1_ hb ho17;obtain ⟨Ao18, co18, eo18⟩:=Kd.R_slice HO242.out;subst eo18) | ((with_reducible refine gate_callee (f:=10) rfl ?_);refine goesL_ (some 15) rfl rfl Try.func10 (by kernel_rfl) rfl #[.int .i64 180, .slice Ao18 y240.length co18] rfl (by (try simp only [List.map_toArray, List.map_cons, List.map_nil]);first | done | rfl | (simp only [List.length_drop, List.length_take];rfl)) ?_;(with_reducible refine (waterfall_Absorb.calls k 180 _ _ y240 t243 t244 t245 _ ?side1 ?side2 A1.out).mono ?_);(case side1=>repeat (first | exact (Kd.R_reads' HO242.out).2.2 | (with_reducible refine Kd.C_alloc ?_ _) | (with_reducible refine Kd.C_drewN ?_ _) | (with_reducible refine Kd.C_drew ?_)));(case side2=>exact (Kd.R_reads' HO242.out).2.1);rintro e w19 ⟨v246, rfl, ho0, hb⟩;refine ⟨_, rfl, ?_⟩;have n0_:=Aside0.mk (Kd.R_below (by (with_reducible repeat (first | apply Kd.R_alloc | apply Kd.R_drewN | apply Kd.R_drew));exact HO242.out) hb);have n1_:=Aside0.mk (Kd.R_lower ho0 (below_size (by repeat (first | (with_reducible first | exact HB.out | apply below_alloc | apply pw_below_drewN | apply below_drew1) | exact HB.out))));have n2_:=Aside0.mk (below_step (by repeat (first | (with_reducible first | exact HB.out | apply below_alloc | apply pw_below_drewN | apply below_drew1) | exact HB.out)) hb);clear HO242 HB;have HO242:=n0_;have HO247:=n1_;have HB:=n2_;clear n0_ n1_ n2_;(try clear hb);(try clear hb2);(try clear hk);(try clear hi);(try clear ho0)) | ((with_reducible refine gate_dst (N:=20) rfl ?_);(try (refine gate_guard (by rfl) ?_;dsimp only));refine Kd.R_lit (Kd.int .i64) _ 3 ?hg (N:=20) ?hd (xs:=([100, 300] : List Int)) (inner:=[.int .i64 100, .int .i64 300]) (ok:=fun _=>True) (okp:=fun _=>True) ?hr ?hp (fun _ hk=>hk) trivial (Below.refl _ _) (Nat.le_refl _) (by simp) ?_;(case hd=>rfl);(case hg=>rfl);(case hr=>first | (go_simp;done) | (go_simp;rfl));(case hp=>exact (Reps.one (show Kd.M (Kd.int .i64) _ _ _ 100 [.int .i64 100] from rfl) (Reps.one (show Kd.M (Kd.int .i64) _ _ _ 300 [.int .i64 300] from rfl) (Reps.none _ _))));intro v249 w20 ho21 hb hg_ hnew_;clear hg_ hnew_;(first | rw [← Ny248.out] at ho21 | (simp only [Int.reduceToNat] at ho21;rw [← Ny248.out] at ho21));have n0_:=Aside0.mk (Kd.R_below (by (with_reducible repeat (first | apply Kd.R_alloc | apply Kd.R_drewN | apply Kd.R_drew));exact HO242.out) hb);have n1_:=Aside0.mk (Kd.R_elder' (by (with_reducible repeat (first | apply Kd.R_alloc | apply Kd.R_drewN | apply Kd.R_drew));exact HO247.out) (Kd.R_base ho21) hb);have n2_:=Aside0.mk (Kd.R_lower (Kd.R_new' ho21 (Kd.R_lt (by (with_reducible repeat (first | apply Kd.R_alloc | apply Kd.R_drewN | apply Kd.R_drew));exact HO247.out))) (below_size (by repeat (first | (with_reducible first | exact HB.out | apply below_alloc | apply pw_below_drewN | apply below_drew1) | exact HB.out))));have n3_:=Aside0.mk (below_step (by repeat (first | (with_reducible first | exact HB.out | apply below_alloc | apply pw_below_drewN | apply below_drew1) | exact HB.out)) hb);clear HO242 HO247 HB;have HO242:=n0_;have HO247:=n1_;have HO250:=n2_;have HB:=n3_;clear n0_ n1_ n2_ n3_ hb ho21) | ((with_reducible refine gate_dst (N:=21) rfl ?_);(try (refine gate_guard (by rfl) ?_;dsimp only));refine Kd.R_lit (Kd.int .i64) _ 3 ?hg (N:=21) ?hd (xs:=([50, 0] : List Int)) (inner:=[.int .i64 50, .int .i64 0]) (ok:=fun _=>True) (okp:=fun _=>True) ?hr ?hp (fun _ hk=>hk) trivial (Below.refl _ _) (Nat.le_refl _) (by simp) ?_;(case hd=>rfl);(case hg=>rfl);(case hr=>first | (go_simp;done) | (go_simp;rfl));(case hp=>exact (Reps.one (show Kd.M (Kd.int .i64) _ _ _ 50 [.int .i64 50] from rfl) (Reps.one (show Kd.M (Kd.int .i64) _ _ _ 0 [.int .i64 0] from rfl) (Reps.none _ _))));intro v252 w22 ho23 hb hg_ hnew_;clear hg_ hnew_;(first | rw [← Ny251.out] at ho23 | (simp only [Int.reduceToNat] at ho23;rw [← Ny251.out] at ho23));have n0_:=Aside0.mk (Kd.R_below (by (with_reducible repeat (first | apply Kd.R_alloc | apply Kd.R_drewN | apply Kd.R_drew));exact HO242.out) hb);have n1_:=Aside0.mk (Kd.R_elder' (by (with_reducible repeat (first | apply Kd.R_alloc | apply Kd.R_drewN | apply Kd.R_drew));exact HO247.out) (Kd.R_base ho23) hb);have n2_:=Aside0.mk (Kd.R_elder' (by (with_reducible repeat (first | apply Kd.R_alloc | apply Kd.R_drewN | apply Kd.R_drew));exact HO250.out) (Kd.R_base ho23) hb);have n3_:=Aside0.mk (Kd.R_lower (Kd.R_new' (Kd.R_new' ho23 (Kd.R_lt (by (with_reducible repeat (first | apply Kd.R_alloc | apply Kd.R_drewN | apply Kd.R_drew));exact HO247.out))) (Kd.R_lt (by (with_reducible repeat (first | apply Kd.R_alloc | apply Kd.R_drewN | apply Kd.R_drew));exact HO250.out))) (below_size (by repeat (first | (with_reducible first | exact HB.out | apply below_alloc | apply pw_below_drewN | apply below_drew1) | exact HB.out))));have n4_:=Aside0.mk (below_step (by repeat (first | (with_reducible first | exact HB.out | apply below_alloc | apply pw_below_drewN | apply below_drew1) | exact HB.out)) hb);clear HO242 HO247 HO250 HB;have HO242:=n0_;have HO247:=n1_;have HO250:=n2_;have HO253:=n3_;have HB:=n4_;clear n0_ n1_ n2_ n3_ n4_ hb ho23;obtain ⟨Ao24, co24, eo24⟩:=Kd.R_slice HO250.out;subst eo24;obtain ⟨Ao25, co25, eo25⟩:=Kd.R_slice HO253.out;subst eo25) | ((with_reducible refine gate_callee (f:=5) rfl ?_);refine goesL_ (some 22) rfl rfl Try.func5 (by kernel_rfl) rfl #[.int .i64 400, .slice Ao24 y248.length co24, .int .i64 2000, .slice Ao25 y251.length co25] rfl (by (try simp only [List.map_toArray, List.map_cons, List.map_nil]);first | done | rfl | (simp only [List.length_drop, List.length_take];rfl)) ?_;(with_reducible refine (assess_Call.calls k 400 _ _ y248 2000 _ _ y251 t254 t255 t256 _ ?side1 ?side2 ?side3 ?side4 A2.out).mono ?_);(case side1=>repeat (first | exact (Kd.R_reads' HO250.out).2.2 | (with_reducible refine Kd.C_alloc ?_ _) | (with_reducible refine Kd.C_drewN ?_ _) | (with_reducible refine Kd.C_drew ?_)));(case side2=>exact (Kd.R_reads' HO250.out).2.1);(case side3=>repeat (first | exact (Kd.R_reads' HO253.out).2.2 | (with_reducible refine Kd.C_alloc ?_ _) | (with_reducible refine Kd.C_drewN ?_ _) | (with_reducible refine Kd.C_drew ?_)));(case side4=>exact (Kd.R_reads' HO253.out).2.1);rintro e w26 ⟨v257, rfl, ho0, hb⟩;refine ⟨_, rfl, ?_⟩;have n0_:=Aside0.mk (Kd.R_below (by (with_reducible repeat (first | apply Kd.R_alloc | apply Kd.R_drewN | apply Kd.R_drew));exact HO242.out) hb);have n1_:=Aside0.mk (Kd.R_elder' (by (with_reducible repeat (first | apply Kd.R_alloc | apply Kd.R_drewN | apply Kd.R_drew));exact HO247.out) (Kd.R_base ho0) hb);have n2_:=Aside0.mk (Kd.R_elder' (by (with_reducible repeat (first | apply Kd.R_alloc | apply Kd.R_drewN | apply Kd.R_drew));exact HO250.out) (Kd.R_base ho0) hb);have n3_:=Aside0.mk (Kd.R_elder' (by (with_reducible repeat (first | apply Kd.R_alloc | apply Kd.R_drewN | apply Kd.R_drew));exact HO253.out) (Kd.R_base ho0) hb);have n4_:=Aside0.mk (Kd.R_lower (Kd.R_new' (Kd.R_new' (Kd.R_new' ho0 (Kd.R_lt (by (with_reducible repeat (first | apply Kd.R_alloc | apply Kd.R_drewN | apply Kd.R_drew));exact HO247.out))) (Kd.R_lt (by (with_reducible repeat (first | apply Kd.R_alloc | apply Kd.R_drewN | apply Kd.R_drew));exact HO250.out))) (Kd.R_lt (by (with_reducible repeat (first | apply Kd.R_alloc | apply Kd.R_drewN | apply Kd.R_drew));exact HO253.out))) (below_size (by repeat (first | (with_reducible first | exact HB.out | apply below_alloc | apply pw_below_drewN | apply below_drew1) | exact HB.out))));have n5_:=Aside0.mk (below_step (by repeat (first | (with_reducible first | exact HB.out | apply below_alloc | apply pw_below_drewN | apply below_drew1) | exact HB.out)) hb);clear HO242 HO247 HO250 HO253 HB;have HO242:=n0_;have HO247:=n1_;have HO250:=n2_;have HO253:=n3_;have HO258:=n4_;have HB:=n5_;clear n0_ n1_ n2_ n3_ n4_ n5_;(try clear hb);(try clear hb2);(try clear hk);(try clear hi);(try clear ho0);obtain ⟨Ao27, co27, eo27⟩:=Kd.R_slice HO247.out;subst eo27;have p259 : 0 ≤ (2 : Int):=(by omega);have q259 : 2 < (t243.length : Int):=of_decide_eq_true (by first | (with_reducible assumption) | assumption);obtain ⟨ad259, e259, hx259_0⟩:=Kd.at_int (Kd.R_reads' HO247.out).2.2 2 p259 q259;cases e259;(try simp only [show (2 : Int).toNat = 2 from rfl, Nat.reduceMul, Nat.reduceEqDiff, Go.Addr.add, ↓reduceIte] at hx259_0);have qi259 : (2 < t243.length) = True:=eq_true (by omega);(try rw [show ((2 : Int)).toNat = 2 from rfl] at hx259_0);replace p259:=eq_true p259;replace q259:=eq_true q259;have p260 : 0 ≤ (3 : Int):=(by omega);have q260 : 3 < (t243.length : Int):=of_decide_eq_true (by first | (with_reducible assumption) | assumption);obtain ⟨ad260, e260, hx260_0⟩:=Kd.at_int (Kd.R_reads' HO247.out).2.2 3 p260 q260;obtain rfl : ad259 = ad260:=(by injection e260);(try simp only [show (3 : Int).toNat = 3 from rfl, Nat.reduceMul, Nat.reduceEqDiff, Go.Addr.add, ↓reduceIte] at hx260_0);have qi260 : (3 < t243.length) = True:=eq_true (by omega);(try rw [show ((3 : Int)).toNat = 3 from rfl] at hx260_0);replace p260:=eq_true p260;replace q260:=eq_true q260;obtain ⟨Ao28, co28, eo28⟩:=Kd.R_slice HO258.out;subst eo28;have p261 : 0 ≤ (0 : Int):=(by omega);have q261 : 0 < (t254.length : Int):=of_decide_eq_true (by first | (with_reducible assumption) | assumption);obtain ⟨ad261, e261, hx261_0⟩:=Kd.at_int (Kd.R_reads' HO258.out).2.2 0 p261 q261;cases e261;have qi261 : (0 < t254.length) = True:=eq_true (by omega);(try rw [show ((0 : Int)).toNat = 0 from rfl] at hx261_0);(try rw [Addr.add_zero'] at hx261_0);replace p261:=eq_true p261;replace q261:=eq_true q261;have p262 : 0 ≤ (1 : Int):=(by omega);have q262 : 1 < (t254.length : Int):=of_decide_eq_true (by first | (with_reducible assumption) | assumption);obtain ⟨ad262, e262, hx262_0⟩:=Kd.at_int (Kd.R_reads' HO258.out).2.2 1 p262 q262;obtain rfl : ad261 = ad262:=(by injection e262);(try simp only [show (1 : Int).toNat = 1 from rfl, Nat.reduceMul, Nat.reduceEqDiff, Go.Addr.add, ↓reduceIte] at hx262_0);have qi262 : (1 < t254.length) = True:=eq_true (by omega);(try rw [show ((1 : Int)).toNat = 1 from rfl] at hx262_0);replace p262:=eq_true p262;replace q262:=eq_true q262))
              go_ret
              exact ⟨by first | rfl | (simp [errW_none, errW_some] <;> rfl) | (simp [*, errW_none, errW_some] <;> rfl), by repeat (first | (with_reducible first | exact HB.out | apply below_alloc | apply pw_below_drewN | apply below_drew1) | exact HB.out)⟩
             ·rw [if_neg c15] at H
              exact absurd H (by simp)
            ·rw [if_neg c14] at H
             exact absurd H (by simp)
           ·rw [if_neg c13] at H
            exact absurd H (by simp)
          ·rw [if_neg c12] at H
           exact absurd H (by simp)
         ·rw [if_neg c11] at H
          exact absurd H (by simp)
        ·rw [if_neg c10] at H
         exact absurd H (by simp)
       ·rw [if_neg c9] at H
        exact absurd H (by simp)
      ·rw [if_neg c8] at H
       exact absurd H (by simp)
     ·rw [if_neg c7] at H
      exact absurd H (by simp)
    ·rw [if_neg c6] at H
     exact absurd H (by simp)
   ·rw [if_neg c5] at H
    exact absurd H (by simp)
  ·rw [if_neg c4] at H
   exact absurd H (by simp)
 ·rw [if_neg c3] at H
  exact absurd H (by simp)

end Go.Proofs.Ytmhjomahikaphaa.PTopAssess
