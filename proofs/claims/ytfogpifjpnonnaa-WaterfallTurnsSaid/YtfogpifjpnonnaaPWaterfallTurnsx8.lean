/- Laid for this claim by a program of this session's (wip/mkprint.py, wip/ext.py); not trusted: Lean checks it. -/
import Derived.Test.YtfogpifjpnonnaaPWaterfallTurnsx0
import Derived.Test.YtfogpifjpnonnaaPWaterfallTurnsx3
import Derived.Test.YtfogpifjpnonnaaPWaterfallTurnsx4
import Derived.Test.YtfogpifjpnonnaaPWaterfallTurnsx5
import Derived.Test.YtfogpifjpnonnaaPWaterfallTurnsx7
namespace Go.Proofs.Ytfogpifjpnonnaa.PWaterfallTurns
open Go.RowKit Go.Proofs.YtfogpifjpnonnaaW.PrintWords Go.Proofs.YtfogpifjpnonnaaW.PrintLast Go.Proofs.YtfogpifjpnonnaaW.PrintMore
attribute [local go_sem] max2_int min2_int max_two min_two max_three min_three max_four min_four   -- for this text's walks alone
set_option linter.unusedVariables false
set_option linter.unusedSimpArgs false

/-! ### waterfall_Turns: function 18 -/
def judStep (k : Nat) (H P : List Int) (short : Bool) : Option (Option Bool) :=
 (if short = true then (waterfall_total.f k P).bind fun t=>some (decide (t > 0)) else some false).bind fun late =>
  if late = true then some none else (waterfall_alike.f k H P).bind fun al=>if al = true then (if short = true then some (some true) else (slices_Equal_int_int.f k H P).bind fun eq=>some (some (!eq))) else some none
theorem judStep_t {k : Nat} {H P : List Int} {s2 : Bool} (h : judStep k H P true = some (some s2)) : s2 = true:=by
 unfold judStep at h
 rw [if_pos rfl, Option.bind_eq_some_iff] at h
 obtain ⟨late, _, h⟩:=h
 cases late with
 | true=>rw [if_pos rfl] at h;cases h
 | false =>
  rw [if_neg (show ¬ (false = true) by decide), Option.bind_eq_some_iff] at h
  obtain ⟨al, _, h⟩:=h
  cases al with
  | true=>rw [if_pos rfl, if_pos rfl] at h;cases h;rfl
  | false=>rw [if_neg (show ¬ (false = true) by decide)] at h;cases h
theorem judStep_f {k : Nat} {H P : List Int} {s2 : Bool} (h : judStep k H P false = some (some s2)) : ∃ eq, slices_Equal_int_int.f k H P = some eq ∧ s2 = !eq:=by
 unfold judStep at h
 rw [if_neg (show ¬ (false = true) by decide), Option.bind_some, if_neg (show ¬ (false = true) by decide), Option.bind_eq_some_iff] at h
 obtain ⟨al, _, h⟩:=h
 cases al with
 | true =>
  rw [if_pos rfl, if_neg (show ¬ (false = true) by decide), Option.bind_eq_some_iff] at h
  obtain ⟨eq, he, h⟩:=h
  cases h
  exact ⟨eq, he, rfl⟩
 | false=>rw [if_neg (show ¬ (false = true) by decide)] at h;cases h
def judGo (k : Nat) (has paid : List Int) : List Int → Bool → Option Bool
 | a :: b :: r, short=>if 0 ≤ a ∧ a < b ∧ b ≤ (has.length : Int) ∧ b ≤ (paid.length : Int) then (judStep k ((has.take b.toNat).drop a.toNat) ((paid.take b.toNat).drop a.toNat) short).bind fun s=>match s with | none=>some false | some s2=>judGo k has paid (b :: r) s2 else none
 | _, _=>some true
theorem judGo_short (k : Nat) (has paid l : List Int) (s : Bool) (h : l.length ≤ 1) : judGo k has paid l s = some true:=by
 match l, h with
 | [], _=>rfl
 | [_], _=>rfl
 | a :: b :: r, h=>simp at h
def waterfall_Turns.f (k : Nat) (l0 : List (S37)) (l1 : List Int) : Option (Bool × Int):=(waterfall_check.f k l0 l1 0).bind fun e=>if e = 0 then (waterfall_amounts.f k l0).bind fun has=>(waterfall_turns.f k l0).bind fun at_=>if 0 < at_.length ∧ at_.length ≤ 1048576 then (judGo k has l1 at_ false).bind fun b=>some (b, 0) else none else some (false, e)
theorem waterfall_total.same (k : Nat) (A0 : Option Addr) (c0 : Nat) (l0 : List Int) (r : Int) (w : World) (hr0 : Kd.C (Kd.int .i64) w A0 l0.length l0) (hc0 : l0.length ≤ c0) (h : waterfall_total.f k l0 = some r) :
  Calls Try.prog 44 #[.slice A0 l0.length c0] w fun e w'=>e = .returned (.int .i64 r) ∧ w' = w:=by
 have HR0:=Aside0.mk hr0
 have HC0:=Aside0.mk hc0
 clear hr0 hc0
 have H : (waterfall_total.l0 k 0 l0 (l0.length : Int) 0) = some r:=h
 clear h
 have H':=Aside0.mk H
 clear H
 go_enter Try.func44, Try.ntmps44
 go_wp2
 go_loopg [3, 8] k (fun kq v3 v8 w'=>∃ (x3_1 : Int) (x8_1 : Int), v3 = .int .i64 x3_1 ∧ v8 = .int .i64 x8_1 ∧ Aside0 (waterfall_total.l0 kq x3_1 l0 (l0.length : Int) x8_1 = some r) ∧ Aside0 (kq ≤ k) ∧ w' = w)
 case atStart=>exact ⟨(0), (0), (by first | rfl | (simp;done) | (simp [*];done)), (by first | rfl | (simp;done) | (simp [*];done)), H', ⟨Nat.le_refl _⟩, rfl⟩
 case round =>
  clear H'
  obtain ⟨x3_1, x8_1, rfl, rfl, HA, HK1, rfl⟩:=hrel
  cases gk with
  | zero=>exact absurd HA.out (by simp [waterfall_total.l0])
  | succ k1 =>
   have H:=HA.out
   clear HA
   simp only [waterfall_total.l0] at H
   by_cases c2 : x8_1 < (l0.length : Int)
   ·rw [if_pos c2] at H
    have c2b0 : decide (x8_1 < (l0.length : Int)) = true:=decide_eq_true c2
    clear c2
    by_cases c3 : 0 ≤ x8_1
    ·rw [if_pos c3] at H
     have c3b0 : decide (0 ≤ x8_1) = true:=decide_eq_true c3
     clear c3
     by_cases c4 : x8_1 < (l0.length : Int)
     ·rw [if_pos c4] at H
      have c4b0 : decide (x8_1 < (l0.length : Int)) = true:=decide_eq_true c4
      clear c4
      have H':=Aside0.mk H
      clear H
      have p149 : 0 ≤ (x8_1 : Int):=of_decide_eq_true (by first | (with_reducible assumption) | assumption)
      have q149 : x8_1 < (l0.length : Int):=of_decide_eq_true (by first | (with_reducible assumption) | assumption)
      obtain ⟨ad149, e149, hx149_0⟩:=Kd.at_int HR0.out x8_1 p149 q149
      cases e149
      replace p149:=eq_true p149
      replace q149:=eq_true q149
      go_wp2
      go_roundg k1
      case measure=>have:=HK1.out;omega
      case rel=>exact ⟨(wrap64 (x3_1 + (rd l0 x8_1))), (wrap64 (x8_1 + 1)), (by first | rfl | (simp;done) | (simp [*];done)), (by first | rfl | (simp;done) | (simp [*];done)), H', ⟨by have:=HK1.out;omega⟩, rfl⟩
     ·rw [if_neg c4] at H
      exact absurd H (by simp)
    ·rw [if_neg c3] at H
     exact absurd H (by simp)
   ·rw [if_neg c2] at H
    have c2b0 : decide (x8_1 < (l0.length : Int)) = false:=decide_eq_false c2
    clear c2
    obtain rfl:=Option.some.inj H
    go_wp2
    go_ret
    exact ⟨by first | rfl | (simp;done) | (simp [*];done), rfl⟩
section
attribute [local irreducible] wpStill
set_option maxHeartbeats 16000000 in
set_option maxRecDepth 100000 in
theorem turns_any (k : Nat) (A0 : Option Addr) (c0 : Nat) (l0 : List (S37)) (A1 : Option Addr) (c1 : Nat) (l1 has at_ : List Int) (r : Bool) (w : World) (hr0 : Kd.C k37 w A0 l0.length l0) (hc0 : l0.length ≤ c0) (hr1 : Kd.C (Kd.int .i64) w A1 l1.length l1) (hc1 : l1.length ≤ c1)
  (hck : waterfall_check.f k l0 l1 0 = some 0) (ham : waterfall_amounts.f k l0 = some has) (htu : waterfall_turns.f k l0 = some at_) (hal : 0 < at_.length ∧ at_.length ≤ 1048576) (h : judGo k has l1 at_ false = some r) :
  Calls Try.prog 18 #[.slice A0 l0.length c0, .slice A1 l1.length c1] w fun e w'=>e = .returned (.tuple #[.bool r, .int .i64 0]) ∧ Below w.heap.size w w':=by
 have HR:=Aside0.mk hr0
 have HP:=Aside0.mk hr1
 have HCK:=Aside0.mk hck
 have HAM:=Aside0.mk ham
 have HTU:=Aside0.mk htu
 have HRES:=Aside0.mk h
 clear hr0 hr1 hck ham htu h
 go_enter Try.func18, Try.ntmps18
 go_wp2_with fail
 go_step3
 go_wp2_with fail
 refine (waterfall_check.calls k A0 c0 l0 A1 c1 l1 0 0 _ HR.out hc0 HP.out hc1 HCK.out).mono ?_
 rintro e w2 ⟨rfl, hb⟩
 have HB2:=Aside0.mk hb
 clear hb
 go_wp2_with fail
 refine (waterfall_amounts.calls k A0 c0 l0 has _ (Kd.C_below HR.out HB2.out) hc0 HAM.out).mono ?_
 rintro e w3 ⟨v9, rfl, hR9, hb⟩
 have HB3:=Aside0.mk (below_step HB2.out hb)
 obtain ⟨A9, c9, rfl, hc9, hC9⟩:=Kd.R_reads hR9
 have HC9:=Aside0.mk hC9
 clear hb hR9 hC9
 go_wp2_with fail
 refine (waterfall_turns.calls k A0 c0 l0 at_ _ (Kd.C_below HR.out HB3.out) hc0 HTU.out).mono ?_
 rintro e w4 ⟨v10, rfl, hR10, hb⟩
 have HB4:=Aside0.mk (below_step HB3.out hb)
 have HH4:=Aside0.mk (Kd.C_below HC9.out hb)
 obtain ⟨A10, c10, rfl, hc10, hC10⟩:=Kd.R_reads hR10
 have HA4:=Aside0.mk hC10
 clear hb hR10 hC10 HB2 HB3 HC9
 go_wp2_with fail
 go_step3
 go_wp2_with fail
 go_loopw [9, 10, 11] (fun v9 v10 v11 wr=>∃ (i : Nat) (short : Bool), i < at_.length ∧ v9 = .bool true ∧ v10 = .bool short ∧ v11 = .int .i64 (i : Int) ∧ Aside0 (judGo k has l1 (at_.drop i) short = some r) ∧ Aside0 (Kd.C (Kd.int .i64) wr A9 has.length has) ∧ Aside0 (Kd.C (Kd.int .i64) wr A10 at_.length at_) ∧ Aside0 (Below w.heap.size w wr)) (fun _ _ v11 _=>at_.length - (intOf v11).toNat)
 case atStart=>exact ⟨0, false, hal.1, rfl, rfl, rfl, ⟨by rw [List.drop_zero];exact HRES.out⟩, HH4, HA4, HB4⟩
 case round =>
  clear HRES HH4 HA4 HB4
  obtain ⟨i, short, hi, rfl, rfl, rfl, HRES, HH, HA, HB⟩:=hrel
  by_cases hlt : i + 1 < at_.length
  ·have hlti : (i : Int) + 1 < (at_.length : Int):=by omega
   have hlti0 : (i : Int) < (at_.length : Int):=by omega
   have hres:=HRES.out
   rw [List.drop_eq_getElem_cons (by omega), List.drop_eq_getElem_cons hlt, judGo] at hres
   have ea : at_[i] = rd at_ (i : Int):=by unfold rd;rw [Int.toNat_natCast, List.getD_eq_getElem?_getD, List.getElem?_eq_getElem (by omega)];rfl
   have eb : at_[i + 1] = rd at_ ((i : Int) + 1):=by unfold rd;rw [show ((i : Int) + 1).toNat = i + 1 by omega, List.getD_eq_getElem?_getD, List.getElem?_eq_getElem hlt];rfl
   rw [ea, eb] at hres
   obtain ⟨ad, ex, hx0⟩:=Kd.at_int HA.out (i : Int) (by omega) (by omega)
   cases ex
   obtain ⟨ad', ex, hx1⟩:=Kd.at_int HA.out ((i : Int) + 1) (by omega) (by omega)
   cases ex
   have hback : rd at_ ((i : Int) + 1) :: List.drop (i + 1 + 1) at_ = at_.drop (i + 1):=by rw [← eb];exact (List.drop_eq_getElem_cons hlt).symm
   rw [hback] at hres
   simp only [Int.toNat_natCast, show ((i : Int) + 1).toNat = i + 1 by omega] at hx0 hx1
   have hx1s : wr.cell? ⟨ad.block, ad.off + (i + 1), none⟩ = some (.int .i64 (rd at_ ((i : Int) + 1))):=by first | exact hx1 | simpa [Addr.add] using hx1
   generalize rd at_ (i : Int) = a at *
   generalize rd at_ ((i : Int) + 1) = b at *
   have hwi : IntKind.i64.wrap ((i : Int) + 1) = (i : Int) + 1:=by rw [i64_w];unfold wrap64;omega
   have h0i : 0 ≤ (i : Int) + 1:=by omega
   by_cases hab : 0 ≤ a ∧ a < b ∧ b ≤ (has.length : Int) ∧ b ≤ (l1.length : Int)
   ·rw [if_pos hab, Option.bind_eq_some_iff] at hres
    obtain ⟨s, hst, hres⟩:=hres
    obtain ⟨h0a, hab1, hbh, hbo⟩:=hab
    have hable : a ≤ b:=by omega
    have hbc9 : b ≤ (c9 : Int):=by omega
    have hbc1 : b ≤ (c1 : Int):=by omega
    have h0b : 0 ≤ b:=by omega
    have n9 : ¬ c9 = a.toNat:=by omega
    have n1 : ¬ c1 = a.toNat:=by omega
    have hlnH : ((has.take b.toNat).drop a.toNat).length = b.toNat - a.toNat:=by rw [List.length_drop, List.length_take];omega
    have hlnP : ((l1.take b.toNat).drop a.toNat).length = b.toNat - a.toNat:=by rw [List.length_drop, List.length_take];omega
    have hCH : ∀ W : World, Below wr.heap.size wr W → Kd.C (Kd.int .i64) W (Option.map (fun x : Addr=>x.add a.toNat) A9) ((has.take b.toNat).drop a.toNat).length ((has.take b.toNat).drop a.toNat):=fun W hB=>by
     have h:=Kd.C_mid (k:=Kd.int .i64) (lo:=a.toNat) (hi:=b.toNat) (Kd.C_below HH.out hB) (by omega) (by omega) hc9
     rwa [show a.toNat * (Kd.int .i64).sz = a.toNat from Nat.mul_one _, if_neg (by first | exact n9 | exact n1)] at h
    have hCP : ∀ W : World, Below wr.heap.size wr W → Kd.C (Kd.int .i64) W (Option.map (fun x : Addr=>x.add a.toNat) A1) ((l1.take b.toNat).drop a.toNat).length ((l1.take b.toNat).drop a.toNat):=fun W hB=>by
     have h:=Kd.C_mid (k:=Kd.int .i64) (lo:=a.toNat) (hi:=b.toNat) (Kd.C_below HP.out (below_step HB.out hB)) (by omega) (by omega) hc1
     rwa [show a.toNat * (Kd.int .i64).sz = a.toNat from Nat.mul_one _, if_neg (by first | exact n9 | exact n1)] at h
    have hTOT : ∀ (t : Int), waterfall_total.f k ((l1.take b.toNat).drop a.toNat) = some t → ∀ W : World, Below wr.heap.size wr W → Calls Try.prog 44 #[.slice (Option.map (fun x : Addr=>x.add a.toNat) A1) (b.toNat - a.toNat) (c1 - a.toNat)] W fun e w'=>e = .returned (.int .i64 t) ∧ w' = W:=fun t ht W hB=>by
     have h:=waterfall_total.same k _ (c1 - a.toNat) _ t W (hCP W hB) (by omega) ht
     rwa [hlnP] at h
    have hALK : ∀ (al : Bool), waterfall_alike.f k ((has.take b.toNat).drop a.toNat) ((l1.take b.toNat).drop a.toNat) = some al → ∀ W : World, Below wr.heap.size wr W → Calls Try.prog 45 #[.slice (Option.map (fun x : Addr=>x.add a.toNat) A9) (b.toNat - a.toNat) (c9 - a.toNat), .slice (Option.map (fun x : Addr=>x.add a.toNat) A1) (b.toNat - a.toNat) (c1 - a.toNat)] W fun e w'=>e = .returned (.bool al) ∧ Below W.heap.size W w':=fun al ht W hB=>by
     have h:=waterfall_alike.calls k _ (c9 - a.toNat) _ _ (c1 - a.toNat) _ al W (hCH W hB) (by omega) (hCP W hB) (by omega) ht
     rwa [hlnP, hlnH] at h
    have hEQ : ∀ (al : Bool), slices_Equal_int_int.f k ((has.take b.toNat).drop a.toNat) ((l1.take b.toNat).drop a.toNat) = some al → ∀ W : World, Below wr.heap.size wr W → Calls Try.prog 46 #[.slice (Option.map (fun x : Addr=>x.add a.toNat) A9) (b.toNat - a.toNat) (c9 - a.toNat), .slice (Option.map (fun x : Addr=>x.add a.toNat) A1) (b.toNat - a.toNat) (c1 - a.toNat)] W fun e w'=>e = .returned (.bool al) ∧ ∃ m, w' = W.drewN m:=fun al ht W hB=>by
     have h:=slices_Equal_int_int.calls k _ (c9 - a.toNat) _ _ (c1 - a.toNat) _ al W (hCH W hB) (by omega) (hCP W hB) (by omega) ht
     rw [hlnP, hlnH] at h
     exact h.mono fun _ _ hh=>⟨hh.1, by obtain ⟨m, hm⟩:=hh.2;exact ⟨m, hm⟩⟩
    have HTOT:=Aside0.mk hTOT
    have HALK:=Aside0.mk hALK
    have HEQ:=Aside0.mk hEQ
    have HST:=Aside0.mk hst
    have HRES2:=Aside0.mk hres
    clear hTOT hALK hEQ hCH hCP hst hres HRES ea eb hback
    generalize (has.take b.toNat).drop a.toNat = H at *
    generalize (l1.take b.toNat).drop a.toNat = P at *
    go_wp2_with fail
    go_region
    go_wp2_with fail
    have HBW:=Aside0.mk (below_drew1 (Below.refl wr.heap.size wr))
    clear hx0 hx1 hx1s
    generalize wr.drew = wd at *
    go_cut [60] (fun v60 wc=>v60 = .bool s.isNone ∧ Aside0 (Below wr.heap.size wr wc))
    case first =>
     have hst:=HST.out
     unfold judStep at hst
     cases short with
     | false =>
      rw [if_neg (show ¬ (false = true) by decide), Option.bind_some, if_neg (show ¬ (false = true) by decide), Option.bind_eq_some_iff] at hst
      obtain ⟨al, hal2, hst⟩:=hst
      have HC:=Aside0.mk (HALK.out al hal2)
      have hs : s.isNone = !al:=by
       cases al with
       | true =>
        rw [if_pos rfl, if_neg (show ¬ (false = true) by decide), Option.bind_eq_some_iff] at hst
        obtain ⟨eq, _, hst⟩:=hst
        cases hst;rfl
       | false=>rw [if_neg (show ¬ (false = true) by decide)] at hst;cases hst;rfl
      clear hst hal2 HST HTOT HALK HEQ HRES2
      go_still_tail 18, (by kernel_rfl)
      change wpList _ _ _ _ _ wd.drew
      go_wp2_with (first | (go_at_call 45;refine (HC.out _ (below_drew1 HBW.out)).mono ?_;rintro e wz ⟨rfl, hb⟩;have HBZ:=Aside0.mk (below_step (below_drew1 HBW.out) hb);clear hb))
      go_meet
      case rel=>exact ⟨by first | exact congrArg Value.bool hs.symm | (cases al <;> simp [hs]), HBZ⟩
     | true =>
      rw [if_pos rfl, Option.bind_eq_some_iff] at hst
      obtain ⟨late, hlate, hst⟩:=hst
      rw [Option.bind_eq_some_iff] at hlate
      obtain ⟨tt, htt, hlate⟩:=hlate
      have hlate:=Option.some.inj hlate
      have HTC:=Aside0.mk (HTOT.out tt htt)
      cases late with
      | true =>
       rw [if_pos rfl] at hst
       have hs : s.isNone = true:=by cases hst;rfl
       have dl : decide (0 < tt) = true:=hlate
       clear hst htt HST HTOT HALK HEQ HRES2 hlate
       refine wp_region_still_tail 18 (by kernel_rfl) (by kernel_rfl) ?_
       simp only [List.take_succ_cons, List.take_zero, List.drop_succ_cons, List.drop_zero]
       repeat still_step
       still_call (HTC.out _ (below_drew1 HBW.out))
       repeat still_step
       refine wpStill_nil ?_
       change wpList _ _ _ _ _ wd.drew
       go_wp2_with fail
       go_meet
       case rel=>exact ⟨congrArg Value.bool hs.symm, ⟨below_drew1 HBW.out⟩⟩

      | false =>
       rw [if_neg (show ¬ (false = true) by decide), Option.bind_eq_some_iff] at hst
       obtain ⟨al, hal2, hst⟩:=hst
       have HC:=Aside0.mk (HALK.out al hal2)
       have hs : s.isNone = !al:=by
        cases al with
        | true=>rw [if_pos rfl, if_pos rfl] at hst;cases hst;rfl
        | false=>rw [if_neg (show ¬ (false = true) by decide)] at hst;cases hst;rfl
       have dl : decide (0 < tt) = false:=hlate
       clear hst hal2 htt HST HTOT HALK HEQ HRES2 hlate
       refine wp_region_still_tail 18 (by kernel_rfl) (by kernel_rfl) ?_
       simp only [List.take_succ_cons, List.take_zero, List.drop_succ_cons, List.drop_zero]
       repeat still_step
       still_call (HTC.out _ (below_drew1 HBW.out))
       repeat still_step
       refine wpStill_nil ?_
       change wpList _ _ _ _ _ wd.drew
       go_wp2_with (first | (go_at_call 45;refine (HC.out _ (below_drew1 HBW.out)).mono ?_;rintro e wz ⟨rfl, hb⟩;have HBZ:=Aside0.mk (below_step (below_drew1 HBW.out) hb);clear hb))
       go_meet
       case rel=>exact ⟨by first | exact congrArg Value.bool hs.symm | (cases al <;> simp [hs]), HBZ⟩

    case rest =>
     obtain ⟨rfl, HBC⟩:=hcut
     cases s with
     | none =>
      have hr:=HRES2.out
      simp only [Option.some.injEq] at hr
      subst hr
      have HBF:=Aside0.mk (below_step HB.out HBC.out)
      clear HRES2 HST HTOT HALK HEQ
      simp only [Option.isNone_none]
      go_wp2_with fail
      (try rw [Exit.noGoto_ret])
      go_ret2
      exact ⟨rfl, HBF.out⟩
     | some s2 =>
      have hr:=HRES2.out
      simp only at hr
      have HRES3:=Aside0.mk hr
      simp only [Option.isNone_some]
      cases short with
      | true =>
       have hs2:=judStep_t HST.out
       subst hs2
       clear HRES2 HST HTOT HALK HEQ hr
       go_wp2_with fail
       go_still (by kernel_rfl)
       change Exit.inBlock 1 _ Exit.normal _ wc.drew
       all_goals (go_wp2;go_roundw;(case measure=>show _ < _;simp [intOf] <;> omega);(case rel=>exact ⟨i + 1, true, hlt, rfl, by first | rfl | simp, by go_num, HRES3, ⟨Kd.C_below HH.out (by repeat (first | exact HBC.out | apply below_drew1 | apply pw_below_drewN))⟩, ⟨Kd.C_below HA.out (by repeat (first | exact HBC.out | apply below_drew1 | apply pw_below_drewN))⟩, ⟨below_step HB.out (by repeat (first | exact HBC.out | apply below_drew1 | apply pw_below_drewN))⟩⟩))
      | false =>
       obtain ⟨eq, heq, hs2⟩:=judStep_f HST.out
       have HC:=Aside0.mk (HEQ.out eq heq)
       subst hs2
       clear HRES2 HST HTOT HALK HEQ hr heq
       go_wp2_with fail
       go_quiet ((go_at_call 46;refine Calls.quiet_of (HC.out _ (by repeat (first | exact HBC.out | apply below_drew1 | apply pw_below_drewN)))))
       all_goals (go_wp2;go_roundw;(case measure=>show _ < _;simp [intOf] <;> omega);(case rel=>exact ⟨i + 1, !eq, hlt, rfl, by first | rfl | simp, by go_num, HRES3, ⟨Kd.C_below HH.out (by repeat (first | exact HBC.out | apply below_drew1 | apply pw_below_drewN))⟩, ⟨Kd.C_below HA.out (by repeat (first | exact HBC.out | apply below_drew1 | apply pw_below_drewN))⟩, ⟨below_step HB.out (by repeat (first | exact HBC.out | apply below_drew1 | apply pw_below_drewN))⟩⟩))
   ·rw [if_neg hab] at hres;cases hres
  ·have d2 : decide ((i : Int) + 1 < (at_.length : Int)) = false:=decide_eq_false (by omega)
   have hres:=HRES.out
   have hstop : judGo k has l1 (at_.drop i) short = some true:=judGo_short k has l1 _ short (by rw [List.length_drop];omega)
   rw [hstop] at hres
   have hres:=Option.some.inj hres
   subst hres
   clear HRES hstop
   go_wp2_with fail
   (try rw [Exit.noGoto_ret])
   go_ret2
   exact ⟨rfl, HB.out⟩
end
theorem judStep_mono (k : Nat) (H P : List Int) (s : Bool) : LeO (judStep k H P s) (judStep (k + 1) H P s):=by
 unfold judStep
 exact LeO.bind (LeO.ite (LeO.bind (waterfall_total.mono _ _) fun t=>LeO.refl _) (LeO.refl _)) fun late=>LeO.ite (LeO.refl _) (LeO.bind (waterfall_alike.mono _ _ _) fun al=>LeO.ite (LeO.ite (LeO.refl _) (LeO.bind (slices_Equal_int_int.mono _ _ _) fun eq=>LeO.refl _)) (LeO.refl _))
theorem judGo_mono (k : Nat) (has paid : List Int) : ∀ (l : List Int) (s : Bool), LeO (judGo k has paid l s) (judGo (k + 1) has paid l s)
 | [], _=>LeO.refl _
 | [_], _=>LeO.refl _
 | a :: b :: r, s=>by
  rw [judGo, judGo]
  refine LeO.ite (LeO.bind (judStep_mono _ _ _ _) fun s=>?_) (LeO.refl _)
  cases s with
  | none=>exact LeO.refl _
  | some s2=>exact judGo_mono k has paid (b :: r) s2
theorem waterfall_Turns.mono : ∀ a0 a1 k, LeO (waterfall_Turns.f k a0 a1) (waterfall_Turns.f (k + 1) a0 a1):=by
 intro a0 a1 k
 unfold waterfall_Turns.f
 exact LeO.bind (waterfall_check.mono _ _ _ _) fun e=>LeO.ite (LeO.bind (waterfall_amounts.mono _ _) fun has=>LeO.bind (waterfall_turns.mono _ _) fun at_=>LeO.ite (LeO.bind (judGo_mono _ _ _ _ _) fun b=>LeO.refl _) (LeO.refl _)) (LeO.refl _)
set_option maxHeartbeats 4000000 in
set_option maxRecDepth 100000 in
theorem waterfall_Turns.calls (k : Nat) (A0 : Option Addr) (c0 : Nat) (l0 : List (S37)) (A1 : Option Addr) (c1 : Nat) (l1 : List Int) (r1 : Bool) (r2 : Int) (w : World) (hr0 : Kd.C k37 w A0 l0.length l0) (hc0 : l0.length ≤ c0) (hr1 : Kd.C (Kd.int .i64) w A1 l1.length l1) (hc1 : l1.length ≤ c1) (h : waterfall_Turns.f k l0 l1 = some (r1, r2)) :
  Calls Try.prog 18 #[.slice A0 l0.length c0, .slice A1 l1.length c1] w fun e w'=>e = .returned (.tuple #[.bool r1, .int .i64 r2]) ∧ Below w.heap.size w w':=by
 unfold waterfall_Turns.f at h
 rw [Option.bind_eq_some_iff] at h
 obtain ⟨e0, hck, h⟩:=h
 by_cases he : e0 = 0
 ·subst he
  rw [if_pos rfl, Option.bind_eq_some_iff] at h
  obtain ⟨has, ham, h⟩:=h
  rw [Option.bind_eq_some_iff] at h
  obtain ⟨at_, htu, h⟩:=h
  by_cases hal : 0 < at_.length ∧ at_.length ≤ 1048576
  ·rw [if_pos hal, Option.bind_eq_some_iff] at h
   obtain ⟨b, hb, h⟩:=h
   simp only [Option.some.injEq, Prod.mk.injEq] at h
   obtain ⟨rfl, rfl⟩:=h
   exact turns_any k A0 c0 l0 A1 c1 l1 has at_ b w hr0 hc0 hr1 hc1 hck ham htu hal hb
  ·rw [if_neg hal] at h;cases h
 ·rw [if_neg he] at h
  simp only [Option.some.injEq, Prod.mk.injEq] at h
  obtain ⟨rfl, rfl⟩:=h
  have hne : (e0 != 0) = true:=bne_iff_ne.mpr he
  go_enter Try.func18, Try.ntmps18
  go_wp2_with fail
  go_step3
  go_wp2_with fail
  refine (waterfall_check.calls k A0 c0 l0 A1 c1 l1 0 e0 _ hr0 hc0 hr1 hc1 hck).mono ?_
  rintro e w2 ⟨rfl, hb⟩
  have HB2:=Aside0.mk hb
  clear hb
  go_wp2_with fail
  (try rw [Exit.noGoto_ret])
  go_ret2
  exact ⟨rfl, HB2.out⟩

/-! ### waterfall_Return: function 20 -/
def retGo (k : Nat) (has at_ : List Int) : Nat → List Int → Int → Option (List Int × Int)
 | 0, out, left=>some (out, left)
 | i + 1, out, left=>if 0 < left then (if 0 ≤ rd at_ (i : Int) ∧ rd at_ (i : Int) < rd at_ ((i : Int) + 1) ∧ rd at_ ((i : Int) + 1) ≤ (has.length : Int) ∧ rd at_ ((i : Int) + 1) ≤ (out.length : Int) then (takeF k left ((has.take (rd at_ ((i : Int) + 1)).toNat).drop (rd at_ (i : Int)).toNat)).bind fun q=>if q.1.length ≤ (rd at_ ((i : Int) + 1)).toNat - (rd at_ (i : Int)).toNat then retGo k has at_ i (overlay out (rd at_ (i : Int)).toNat q.1) q.2 else none else none) else some (out, left)
theorem retGo_none (k : Nat) (has at_ : List Int) (i : Nat) (out : List Int) (left : Int) (h : ¬ 0 < left) : retGo k has at_ i out left = some (out, left):=by
 cases i with
 | zero=>rfl
 | succ i=>rw [retGo, if_neg h]
def waterfall_Return.f (k : Nat) (a0 : Int) (l1 : List (S37)) (l2 : List Int) : Option (List Int × Int × Int):=(waterfall_check.f k l1 l2 a0).bind fun e=>if e = 0 then (if l1.length ≤ 1024 then (waterfall_turns.f k l1).bind fun at_=>if 0 < at_.length ∧ at_.length ≤ 1048576 then (retGo k l2 at_ (at_.length - 1) (List.replicate l1.length 0) a0).bind fun q=>some (q.1, q.2, 0) else none else none) else some ([], 0, e)
theorem retGo_mono (k : Nat) (has at_ : List Int) : ∀ (i : Nat) (out : List Int) (left : Int), LeO (retGo k has at_ i out left) (retGo (k + 1) has at_ i out left)
 | 0, _, _=>LeO.refl _
 | i + 1, out, left=>by
  unfold retGo
  exact LeO.ite (LeO.ite (LeO.bind (takeF_mono _ _ _) fun q=>LeO.ite (retGo_mono k has at_ i _ _) (LeO.refl _)) (LeO.refl _)) (LeO.refl _)
theorem waterfall_Return.mono : ∀ a0 a1 a2 k, LeO (waterfall_Return.f k a0 a1 a2) (waterfall_Return.f (k + 1) a0 a1 a2):=by
 intro a0 a1 a2 k
 unfold waterfall_Return.f
 exact LeO.bind (waterfall_check.mono _ _ _ _) fun e=>LeO.ite (LeO.ite (LeO.bind (waterfall_turns.mono _ _) fun at_=>LeO.ite (LeO.bind (retGo_mono _ _ _ _ _ _) fun q=>LeO.refl _) (LeO.refl _)) (LeO.refl _)) (LeO.refl _)
set_option maxHeartbeats 16000000 in
set_option maxRecDepth 100000 in
theorem return_any (k : Nat) (a0 : Int) (A1 : Option Addr) (c1 : Nat) (l1 : List (S37)) (A2 : Option Addr) (c2 : Nat) (has at_ : List Int) (r1 : List Int) (r2 : Int) (w : World) (hr1 : Kd.C k37 w A1 l1.length l1) (hc1 : l1.length ≤ c1) (hr2 : Kd.C (Kd.int .i64) w A2 has.length has) (hc2 : has.length ≤ c2)
  (hck : waterfall_check.f k l1 has a0 = some 0) (hlen : l1.length ≤ 1024) (htu : waterfall_turns.f k l1 = some at_) (hal : 0 < at_.length ∧ at_.length ≤ 1048576) (h : retGo k has at_ (at_.length - 1) (List.replicate l1.length 0) a0 = some (r1, r2)) :
  Calls Try.prog 20 #[.int .i64 a0, .slice A1 l1.length c1, .slice A2 has.length c2] w fun e w'=>∃ v0_ : Value, e = .returned (.tuple #[v0_, .int .i64 r2, .int .i64 0]) ∧ Kd.R (Kd.int .i64) 3 w' w.heap.size (fun _=>True) v0_ r1 ∧ Below w.heap.size w w':=by
 have HR:=Aside0.mk hr1
 have HCK:=Aside0.mk hck
 have HP:=Aside0.mk hr2
 have HTU:=Aside0.mk htu
 have HRES:=Aside0.mk h
 have hmk : ∀ W : World, (Instr.makeSlice 25 (.int .i64 (l1.length : Int)) (.int .i64 (l1.length : Int))).run Try.prog W = .ok (.slice (some ⟨W.heap.size, 0, none⟩) l1.length l1.length) (W.alloc (.cells (nums .i64 (List.replicate l1.length 0)).toArray 3)):=by
  intro W
  have h:=run_make_row' (P:=Try.prog) 25 3 (.int .i64 0) 8 Try.underlying25 infoIntW rfl .i64 .i64 l1.length (by omega) (by omega) W
  rw [made_zero] at h
  exact h
 have HPB : Aside0 (∀ ad, A2 = some ad → 0 < has.length → ad.block < w.heap.size):=⟨fun ad he hn=>by
  subst he
  obtain ⟨ad', e', hx⟩:=Kd.at_int hr2 0 (by omega) (by omega)
  cases e'
  have:=World.block_lt_of_cell? _ _ hx
  rwa [add_block] at this⟩
 clear hr1 hck htu h hr2
 go_enter Try.func20, Try.ntmps20
 go_wp2_with fail
 refine (waterfall_check.calls k A1 c1 l1 A2 c2 has a0 0 _ HR.out hc1 HP.out hc2 HCK.out).mono ?_
 rintro e w3 ⟨rfl, hb⟩
 have HB3:=Aside0.mk hb
 clear hb
 go_wp2_with fail
 go_cut [10, 11] (fun v10 v11 wc=>∃ (g c10 : Nat) (A10 : Option Addr), v10 = .slice (some ⟨g, 0, none⟩) l1.length l1.length ∧ v11 = .slice A10 at_.length c10 ∧ Aside0 (w.heap.size ≤ g) ∧ Aside0 (wc.heap[g]? = some (.cells (nums .i64 (List.replicate l1.length 0)).toArray 3 (0, 0))) ∧ Aside0 (Kd.R (Kd.int .i64) 3 wc w.heap.size (fun k=>k ≠ g) (.slice A10 at_.length c10) at_) ∧ Aside0 (Below w.heap.size w wc))
 case first =>
  go_region_with (go_at_call 31;(with_reducible refine (waterfall_turns.calls k A1 c1 l1 at_ _ (Kd.C_below HR.out (by repeat (first | exact HB3.out | exact HBT.out | apply below_drew1 | apply below_alloc))) hc1 HTU.out).mono ?_);rintro e wt ⟨vt, rfl, hRt, hbt⟩;obtain ⟨A10, c10, rfl⟩:=Kd.R_slice hRt;have HRT:=Aside0.mk hRt;have HDT:=Aside0.mk hbt;have HBT:=Aside0.mk (below_step (by repeat (first | exact HB3.out | exact HBT.out | apply below_drew1 | apply below_alloc)) hbt);clear hRt hbt)
  ·go_wp2
   go_meet
   case rel=>exact ⟨_, _, _, rfl, rfl, ⟨below_size HB3.out⟩, ⟨blk_below (blk_new w3.drew _) HDT.out⟩, ⟨apartR HRT.out (Below.refl _ _) (by have e0:=below_size HB3.out;have e2:=HDT.out.size;simp at e0 e2 ⊢;omega) (by intro k h1 h2;have e2:=HDT.out.size;simp at h1 h2 e2;omega)⟩, HBT⟩
  ·go_wp2
   go_meet
   case rel=>exact ⟨_, _, _, rfl, rfl, ⟨below_size HBT.out⟩, ⟨blk_new wt _⟩, ⟨apartR HRT.out (below_alloc (Below.refl wt.heap.size wt) _) (by have e0:=below_size HB3.out;have e2:=HDT.out.size;simp at e0 e2 ⊢;omega) (by intro k h1 h2;have e2:=HDT.out.size;simp at h1 h2 e2;omega)⟩, ⟨below_alloc HBT.out _⟩⟩
 case rest =>
  obtain ⟨g, c10, A10, rfl, rfl, HG, HZ, HRT, HB⟩:=hcut
  clear HB3
  generalize hZ : List.replicate l1.length (0 : Int) = zs at *
  go_wp2_with fail
  refine (taker_any wc.heap.size (some ⟨g, 0, none⟩) l1.length l1.length _).mono ?_
  rintro e w6 ⟨gb, gc, rfl, hgb, hgc, hb1, hc1', hb6⟩
  have hlg:=blk_lt HZ.out
  have hba:=below_alloc (Below.refl wc.heap.size wc) (.cells #[.int .i64 a0] 3)
  have hbs:=below_step hba hb6
  simp only [World.size_alloc] at hgb hgc
  have HB6:=Aside0.mk (below_step HB.out hbs)
  have HL:=Aside0.mk (blk_below (blk_new wc (.cells #[.int .i64 a0] 3)) hb6)
  have HO:=Aside0.mk (blk_below HZ.out hbs)
  have HA:=Aside0.mk (Kd.R_below (Kd.R_elderB HRT.out wc.heap.size (Nat.le_refl _)) hbs)
  have HB1:=Aside0.mk hb1
  have HC1:=Aside0.mk hc1'
  have hwg:=HG.out
  have hwl : w.heap.size ≤ wc.heap.size:=below_size HB.out
  have hzl : zs.length = l1.length:=by rw [← hZ];simp
  have hgl : g ≠ wc.heap.size:=by omega
  generalize wc.heap.size = gL at *
  clear HB HZ HRT hba hbs hb1 hc1' hb6 HG hZ
  go_wp2_with fail
  go_loopw [14] (fun v14 wr=>∃ (i : Nat) (out : List Int) (left : Int), i < at_.length ∧ out.length = l1.length ∧ v14 = .int .i64 ((i : Int) - 1) ∧ Aside0 (retGo k has at_ i out left = some (r1, r2)) ∧ Aside0 (wr.heap[gL]? = some (.cells #[.int .i64 left] 3 (0, 0))) ∧ Aside0 (wr.heap[g]? = some (.cells (nums .i64 out).toArray 3 (0, 0))) ∧ Aside0 (wr.heap[gb]? = some (.cells #[.pointer (some ⟨gL, 0, none⟩)] 63 (0, 0))) ∧ Aside0 (wr.heap[gc]? = some (.cells #[.slice (some ⟨g, 0, none⟩) l1.length l1.length] 25 (0, 0))) ∧ Aside0 (Kd.R (Kd.int .i64) 3 wr w.heap.size (fun k=>k ≠ g ∧ k ≠ gL) (.slice A10 at_.length c10) at_) ∧ Aside0 (Below w.heap.size w wr)) (fun v14 _=>(intOf v14 + 1).toNat)
  case atStart=>exact ⟨at_.length - 1, zs, a0, by omega, hzl, by congr 1;omega, HRES, HL, HO, HB1, HC1, HA, HB6⟩
  case round =>
   clear HRES HL HO HB1 HC1 HA HB6
   obtain ⟨i, out, left, hi, hol, rfl, HRES, HL, HO, HB1, HC1, HA, HB⟩:=hrel
   have hq3 : wr.cell? ⟨gL, 0, none⟩ = some (.int .i64 left):=(blk_cell HL.out 0).trans rfl
   by_cases hpos : 0 < left
   ·have d1 : decide (0 < left) = true:=decide_eq_true hpos
    cases i with
    | succ i =>
     have hpi : ((i + 1 : Nat) : Int) - 1 = (i : Int):=by omega
     rw [hpi]
     have d2 : decide (0 ≤ (i : Int)) = true:=decide_eq_true (by omega)
     have hres:=HRES.out
     rw [retGo, if_pos hpos] at hres
     obtain ⟨ad, ex, hx0⟩:=Kd.at_int (Kd.R_reads' HA.out).2.2 (i : Int) (by omega) (by omega)
     cases ex
     obtain ⟨ad', ex, hx1⟩:=Kd.at_int (Kd.R_reads' HA.out).2.2 ((i : Int) + 1) (by omega) (by omega)
     cases ex
     have hx1r:=hx1
     simp only [Int.toNat_natCast, show ((i : Int) + 1).toNat = i + 1 by omega] at hx0 hx1
     have hx1s : wr.cell? ⟨ad.block, ad.off + (i + 1), none⟩ = some (.int .i64 (rd at_ ((i : Int) + 1))):=by first | exact hx1 | simpa [Addr.add] using hx1
     have hlti : (i : Int) + 1 < (at_.length : Int):=by omega
     have hlti0 : (i : Int) < (at_.length : Int):=by omega
     generalize rd at_ (i : Int) = a at *
     generalize rd at_ ((i : Int) + 1) = b at *
     by_cases hab : 0 ≤ a ∧ a < b ∧ b ≤ (has.length : Int) ∧ b ≤ (out.length : Int)
     ·rw [if_pos hab, Option.bind_eq_some_iff] at hres
      obtain ⟨⟨p, l2⟩, htk, hres⟩:=hres
      simp only at hres
      by_cases hpl : p.length ≤ b.toNat - a.toNat
      ·rw [if_pos hpl] at hres
       have HTK:=Aside0.mk htk
       have HRES2:=Aside0.mk hres
       clear htk hres HRES
       obtain ⟨h0a, hab1, hbh, hbo⟩:=hab
       have hca:=hc2
       have hwi : IntKind.i64.wrap ((i : Int) + 1) = (i : Int) + 1:=by rw [i64_w];unfold wrap64;omega
       have h0i : 0 ≤ (i : Int) + 1:=by omega
       have hti : ((i : Int) + 1).toNat = i + 1:=by omega
       have hable : a ≤ b:=by omega
       have hbc2 : b ≤ (c2 : Int):=by omega
       have h0b : 0 ≤ b:=by omega
       go_wp2_with fail
       go_still_tail 16, (by kernel_rfl)
       change wpList _ _ _ _ _ wr.drew
       have HL2:=Aside0.mk (blk_drew HL.out)
       have HO2:=Aside0.mk (blk_drew HO.out)
       have HB12:=Aside0.mk (blk_drew HB1.out)
       have HC12:=Aside0.mk (blk_drew HC1.out)
       have HA2:=Aside0.mk (Kd.R_drew HA.out)
       have HBd:=Aside0.mk (below_drew1 HB.out)
       clear HL HO HB1 HC1 HA HB hq3 hx0 hx1 hx1r hx1s
       generalize wr.drew = wd at *
       have hln : ((has.take b.toNat).drop a.toNat).length = b.toNat - a.toNat:=by rw [List.length_drop, List.length_take];omega
       have hCm:=Kd.C_mid (k:=Kd.int .i64) (lo:=a.toNat) (hi:=b.toNat) (Kd.C_below HP.out HBd.out) (by omega) (by omega) hca
       rw [if_neg (show ¬ c2 = a.toNat by omega)]
       rw [if_neg (show ¬ c2 = a.toNat by omega)] at hCm
       have hown : ∀ ad9, Option.map (fun x : Addr=>x.add (a.toNat * (Kd.int .i64).sz)) A2 = some ad9 → ad9.block ≠ g ∧ ad9.block ≠ gL:=by
        intro ad9 he
        cases A2 with
        | none=>cases he
        | some z =>
         have hz:=HPB.out z rfl (by omega)
         cases he
         rw [add_block]
         exact ⟨by omega, by omega⟩
       have hCALL:=take_any k a.toNat ((has.take b.toNat).drop a.toNat) out _ (c2 - a.toNat) left l2 p gb gc gL g wd hCm (by omega) (by omega) (by omega) (by omega) HB12.out (by rw [hol];exact HC12.out) HL2.out HO2.out hgl hown HTK.out (by omega)
       rw [hln, show ((a.toNat : Nat) : Int) = a by omega, show a.toNat * (Kd.int .i64).sz = a.toNat from Nat.mul_one _] at hCALL
       have HCALL:=Aside0.mk hCALL
       clear hCm hown hCALL HTK
       go_wp2_with fail
       refine HCALL.out.mono ?_
       rintro e w8 ⟨rfl, hL8, hO8, hk8⟩
       have hwd:=below_size HBd.out
       have HL8:=Aside0.mk hL8
       have HO8:=Aside0.mk hO8
       have hb8 : gb ≠ gL ∧ gb ≠ g:=by
        have e1:=HB12.out
        constructor
        ·rintro rfl
         have he:=Option.some.inj (e1.symm.trans HL2.out)
         injection he with _ he2 _
         exact absurd he2 (by decide)
        ·rintro rfl
         have he:=Option.some.inj (e1.symm.trans HO2.out)
         injection he with _ he2 _
         exact absurd he2 (by decide)
       have hc8 : gc ≠ gL ∧ gc ≠ g:=by
        have e1:=HC12.out
        constructor
        ·rintro rfl
         have he:=Option.some.inj (e1.symm.trans HL2.out)
         injection he with _ he2 _
         exact absurd he2 (by decide)
        ·rintro rfl
         have he:=Option.some.inj (e1.symm.trans HO2.out)
         injection he with _ he2 _
         exact absurd he2 (by decide)
       have HB18:=Aside0.mk (hk8.blk HB12.out hb8.1 hb8.2)
       have HC18:=Aside0.mk (hk8.blk HC12.out hc8.1 hc8.2)
       have HA8:=Aside0.mk (hk8.row HA2.out (fun _ h=>⟨h.2, h.1⟩))
       have HB8:=Aside0.mk (hk8.below HBd.out hwd (by omega) hwg)
       have hovl : (overlay out a.toNat p).length = l1.length:=by
        unfold overlay
        rw [List.length_append, List.length_append, List.length_take, List.length_drop];omega
       clear HCALL hL8 hO8 hk8 HL2 HO2 HB12 HC12 HA2 HBd
       go_wp2_with fail
       go_roundw
       case measure=>show _ < _;simp [intOf] <;> omega
       case rel=>exact ⟨i, overlay out a.toNat p, l2, by omega, hovl, rfl, HRES2, HL8, HO8, HB18, HC18, HA8, HB8⟩
      ·rw [if_neg hpl] at hres;cases hres
     ·rw [if_neg hab] at hres;cases hres
    | zero =>
     have hpi : ((0 : Nat) : Int) - 1 = -1:=rfl
     rw [hpi]
     have hres:=HRES.out
     have hstop : retGo k has at_ 0 out left = some (out, left):=rfl
     rw [hstop] at hres
     have hres:=Option.some.inj hres
     simp only [Prod.mk.injEq] at hres
     obtain ⟨rfl, rfl⟩:=hres
     clear HRES hstop
     go_wp2_with fail
     go_region
     go_wp2_with fail
     go_ret3
     exact ⟨_, rfl, by rw [← hol];exact rowR hwg (by omega) (blk_drew HO.out), below_drew1 HB.out⟩
   ·have d1 : decide (0 < left) = false:=decide_eq_false hpos
    have hres:=HRES.out
    have hstop : retGo k has at_ i out left = some (out, left):=retGo_none k has at_ i out left hpos
    rw [hstop] at hres
    have hres:=Option.some.inj hres
    simp only [Prod.mk.injEq] at hres
    obtain ⟨rfl, rfl⟩:=hres
    clear HRES hstop
    go_wp2_with fail
    go_region
    go_wp2_with fail
    go_ret3
    exact ⟨_, rfl, by rw [← hol];exact rowR hwg (by omega) (blk_drew HO.out), below_drew1 HB.out⟩
set_option maxHeartbeats 4000000 in
set_option maxRecDepth 100000 in
theorem waterfall_Return.calls (k : Nat) (a0 : Int) (A1 : Option Addr) (c1 : Nat) (l1 : List (S37)) (A2 : Option Addr) (c2 : Nat) (l2 : List Int) (r1 : List Int) (r2 : Int) (r3 : Int) (w : World) (hr1 : Kd.C k37 w A1 l1.length l1) (hc1 : l1.length ≤ c1) (hr2 : Kd.C (Kd.int .i64) w A2 l2.length l2) (hc2 : l2.length ≤ c2) (h : waterfall_Return.f k a0 l1 l2 = some (r1, r2, r3)) :
  Calls Try.prog 20 #[.int .i64 a0, .slice A1 l1.length c1, .slice A2 l2.length c2] w fun e w'=>∃ v0_ : Value, e = .returned (.tuple #[v0_, .int .i64 r2, .int .i64 r3]) ∧ Kd.R (Kd.int .i64) 3 w' w.heap.size (fun _=>True) v0_ r1 ∧ Below w.heap.size w w':=by
 unfold waterfall_Return.f at h
 rw [Option.bind_eq_some_iff] at h
 obtain ⟨e0, hck, h⟩:=h
 by_cases he : e0 = 0
 ·subst he
  rw [if_pos rfl] at h
  by_cases hlen : l1.length ≤ 1024
  ·rw [if_pos hlen, Option.bind_eq_some_iff] at h
   obtain ⟨at_, htu, h⟩:=h
   by_cases hal : 0 < at_.length ∧ at_.length ≤ 1048576
   ·rw [if_pos hal, Option.bind_eq_some_iff] at h
    obtain ⟨⟨q1, q2⟩, hq, h⟩:=h
    simp only [Option.some.injEq, Prod.mk.injEq] at h
    obtain ⟨rfl, rfl, rfl⟩:=h
    exact return_any k a0 A1 c1 l1 A2 c2 l2 at_ q1 q2 w hr1 hc1 hr2 hc2 hck hlen htu hal hq
   ·rw [if_neg hal] at h;cases h
  ·rw [if_neg hlen] at h;cases h
 ·rw [if_neg he] at h
  simp only [Option.some.injEq, Prod.mk.injEq] at h
  obtain ⟨rfl, rfl, rfl⟩:=h
  have hne : (e0 != 0) = true:=bne_iff_ne.mpr he
  go_enter Try.func20, Try.ntmps20
  go_wp2_with fail
  refine (waterfall_check.calls k A1 c1 l1 A2 c2 l2 a0 e0 _ hr1 hc1 hr2 hc2 hck).mono ?_
  rintro e w2 ⟨rfl, hb⟩
  have HB2:=Aside0.mk hb
  clear hb
  go_wp2_with fail
  go_ret3
  exact ⟨_, rfl, Kd.R_nil _ _ _ _ _, HB2.out⟩

/-! ### cl47_some: function 28 -/
def cl47_some.f  : Option ((List (S37))):=some (([(⟨1, 0, (⟨#[97]⟩ : ByteArray), 100⟩ : S37), (⟨3, 0, (⟨#[104, 111, 117, 115, 101]⟩ : ByteArray), 50⟩ : S37), (⟨4, 0, (⟨#[98]⟩ : ByteArray), 30⟩ : S37), (⟨4, 0, (⟨#[99]⟩ : ByteArray), 60⟩ : S37)] : List (S37)))
set_option maxHeartbeats 8000000 in
set_option maxRecDepth 100000 in
theorem cl47_some.calls  (r : List (S37)) (w : World) (h : cl47_some.f  = some r) :
  Calls Try.prog 28 #[] w fun e w'=>∃ v0_ : Value, e = .returned (v0_) ∧ Kd.R k37 37 w' w.heap.size (fun _=>True) v0_ r ∧ Below w.heap.size w w':=by
 have hu37:=Try.underlying37
 have HB:=Aside0.mk (Below.refl w.heap.size w)
 have H : (some (([(⟨1, 0, (⟨#[97]⟩ : ByteArray), 100⟩ : S37), (⟨3, 0, (⟨#[104, 111, 117, 115, 101]⟩ : ByteArray), 50⟩ : S37), (⟨4, 0, (⟨#[98]⟩ : ByteArray), 30⟩ : S37), (⟨4, 0, (⟨#[99]⟩ : ByteArray), 60⟩ : S37)] : List (S37)))) = some r:=h
 clear h
 obtain ⟨y171, hy171⟩ : ∃ y_ : List (S37), y_ = (([(⟨1, 0, (⟨#[97]⟩ : ByteArray), 100⟩ : S37), (⟨3, 0, (⟨#[104, 111, 117, 115, 101]⟩ : ByteArray), 50⟩ : S37), (⟨4, 0, (⟨#[98]⟩ : ByteArray), 30⟩ : S37), (⟨4, 0, (⟨#[99]⟩ : ByteArray), 60⟩ : S37)] : List (S37))):=⟨_, rfl⟩
 replace H : (some y171) = some r:=by first | (rw [hy171];with_reducible exact H) | (have H2_:=(Option.bind_some _ _).symm.trans H;rw [hy171];with_reducible exact H2_) | (have H2_:=(Option.bind_some _ _).symm.trans H;with_reducible exact H2_) | with_reducible exact H | (rw [hy171];exact H) | exact H
 have Ny171:=Aside0.mk hy171
 clear hy171
 obtain rfl:=Option.some.inj H
 go_enter Try.func28, Try.ntmps28
 go_wp2_with (first | ((with_reducible refine gate_dst (N:=5) rfl ?_);refine Kd.R_lit k37 _ 37 ?hg (N:=5) ?hd (xs:=([(⟨1, 0, (⟨#[97]⟩ : ByteArray), 100⟩ : S37), (⟨3, 0, (⟨#[104, 111, 117, 115, 101]⟩ : ByteArray), 50⟩ : S37), (⟨4, 0, (⟨#[98]⟩ : ByteArray), 30⟩ : S37), (⟨4, 0, (⟨#[99]⟩ : ByteArray), 60⟩ : S37)] : List (S37))) (inner:=[.int .i64 1, .int .i64 0, .string (⟨#[97]⟩ : ByteArray), .int .i64 100, .int .i64 3, .int .i64 0, .string (⟨#[104, 111, 117, 115, 101]⟩ : ByteArray), .int .i64 50, .int .i64 4, .int .i64 0, .string (⟨#[98]⟩ : ByteArray), .int .i64 30, .int .i64 4, .int .i64 0, .string (⟨#[99]⟩ : ByteArray), .int .i64 60]) (ok:=fun _=>True) (okp:=fun _=>True) ?hr ?hp (fun _ hk=>hk) trivial (Below.refl _ _) (Nat.le_refl _) (by simp) ?_;(case hd=>rfl);(case hg=>rfl);(case hr=>first | (go_simp;done) | (go_simp;rfl));(case hp=>exact (Reps.c4 (show Kd.M k37 _ _ _ (⟨1, 0, (⟨#[97]⟩ : ByteArray), 100⟩ : S37) [.int .i64 1, .int .i64 0, .string (⟨#[97]⟩ : ByteArray), .int .i64 100] from (k37_mkM _ _ _ (⟨1, 0, (⟨#[97]⟩ : ByteArray), 100⟩ : S37) )) (Reps.c4 (show Kd.M k37 _ _ _ (⟨3, 0, (⟨#[104, 111, 117, 115, 101]⟩ : ByteArray), 50⟩ : S37) [.int .i64 3, .int .i64 0, .string (⟨#[104, 111, 117, 115, 101]⟩ : ByteArray), .int .i64 50] from (k37_mkM _ _ _ (⟨3, 0, (⟨#[104, 111, 117, 115, 101]⟩ : ByteArray), 50⟩ : S37) )) (Reps.c4 (show Kd.M k37 _ _ _ (⟨4, 0, (⟨#[98]⟩ : ByteArray), 30⟩ : S37) [.int .i64 4, .int .i64 0, .string (⟨#[98]⟩ : ByteArray), .int .i64 30] from (k37_mkM _ _ _ (⟨4, 0, (⟨#[98]⟩ : ByteArray), 30⟩ : S37) )) (Reps.c4 (show Kd.M k37 _ _ _ (⟨4, 0, (⟨#[99]⟩ : ByteArray), 60⟩ : S37) [.int .i64 4, .int .i64 0, .string (⟨#[99]⟩ : ByteArray), .int .i64 60] from (k37_mkM _ _ _ (⟨4, 0, (⟨#[99]⟩ : ByteArray), 60⟩ : S37) )) (Reps.none _ _))))));intro v172 w1 ho2 hb hg_ hnew_;clear hg_ hnew_;(first | rw [← Ny171.out] at ho2 | (simp only [Int.reduceToNat] at ho2;rw [← Ny171.out] at ho2));have n0_:=Aside0.mk (Kd.R_lower ho2 (below_size (by repeat (first | (with_reducible first | exact HB.out | apply below_alloc | apply pw_below_drewN | apply below_drew1) | exact HB.out))));have n1_:=Aside0.mk (below_step (by repeat (first | (with_reducible first | exact HB.out | apply below_alloc | apply pw_below_drewN | apply below_drew1) | exact HB.out)) hb);clear HB;have HO173:=n0_;have HB:=n1_;clear n0_ n1_ hb ho2))
 go_ret
 exact ⟨_, by first | rfl | (simp [errW_none, errW_some] <;> rfl) | (simp [*, errW_none, errW_some] <;> rfl), by (with_reducible repeat (first | apply Kd.R_alloc | apply Kd.R_drewN | apply Kd.R_drew));exact HO173.out, by repeat (first | (with_reducible first | exact HB.out | apply below_alloc | apply pw_below_drewN | apply below_drew1) | exact HB.out)⟩

/-! ### cl47_goes: function 10 -/
def cl47_goes.f (k : Nat)  : Option (Bool):=(cl47_some.f).bind fun t174=>((waterfall_Absorb.f k 180 t174).bind fun bt177=>((cl47_some.f).bind fun t182=>((waterfall_Return.f k 25 t182 bt177.1).bind fun bt185=>((cl47_some.f).bind fun t190=>((waterfall_Turns.f k t190 bt177.1).bind fun bt193=>((cr02_Same.f k bt177.1 (([100, 50, 10, 20] : List Int))).bind fun t198=>(if t198 = true then (if bt177.2.1 = 0 then (if bt177.2.2 = 0 then ((cr02_Same.f k bt185.1 (([0, 0, 8, 17] : List Int))).bind fun t202=>(if t202 = true then (if bt185.2.1 = 0 then (if bt185.2.2 = 0 then (if bt193.1 = true then (if bt193.2 = 0 then (some true) else (none)) else (none)) else (none)) else (none)) else (none))) else (none)) else (none)) else (none))))))))
theorem cl47_goes.mono : ∀ k, LeO (cl47_goes.f k ) (cl47_goes.f (k + 1) ):=by
 intro  k
 unfold cl47_goes.f
 repeat' first
   | (with_reducible exact cr02_Same.mono _ _ _)
   | (with_reducible exact waterfall_Absorb.mono _ _ _)
   | (with_reducible exact waterfall_Return.mono _ _ _ _)
   | (with_reducible exact waterfall_Turns.mono _ _ _)
   | (with_reducible exact LeO.refl _)
   | (with_reducible exact LeO.none _)
   | (with_reducible refine LeO.ite ?_ ?_)
   | (with_reducible refine LeO.bind ?_ (fun _=>?_))
   | exact cr02_Same.mono _ _ _
   | exact waterfall_Absorb.mono _ _ _
   | exact waterfall_Return.mono _ _ _ _
   | exact waterfall_Turns.mono _ _ _
   | exact LeO.none _
   | refine LeO.ite ?_ ?_
   | refine LeO.bind ?_ (fun _=>?_)
set_option maxHeartbeats 8000000 in
set_option maxRecDepth 100000 in
theorem cl47_goes.calls (k : Nat)  (r : Bool) (w : World) (h : cl47_goes.f k  = some r) :
  Calls Try.prog 10 #[] w fun e w'=>e = .returned (.bool r) ∧ Below w.heap.size w w':=by
 have HB:=Aside0.mk (Below.refl w.heap.size w)
 have H : ((cl47_some.f).bind fun t174=>((waterfall_Absorb.f k 180 t174).bind fun bt177=>((cl47_some.f).bind fun t182=>((waterfall_Return.f k 25 t182 bt177.1).bind fun bt185=>((cl47_some.f).bind fun t190=>((waterfall_Turns.f k t190 bt177.1).bind fun bt193=>((cr02_Same.f k bt177.1 (([100, 50, 10, 20] : List Int))).bind fun t198=>(if t198 = true then (if bt177.2.1 = 0 then (if bt177.2.2 = 0 then ((cr02_Same.f k bt185.1 (([0, 0, 8, 17] : List Int))).bind fun t202=>(if t202 = true then (if bt185.2.1 = 0 then (if bt185.2.2 = 0 then (if bt193.1 = true then (if bt193.2 = 0 then (some true) else (none)) else (none)) else (none)) else (none)) else (none))) else (none)) else (none)) else (none))))))))) = some r:=h
 clear h
 replace H:=Option.bind_eq_some_iff.mp H
 obtain ⟨t174, A10, H⟩:=H
 replace H : ((waterfall_Absorb.f k 180 t174).bind fun bt177=>((cl47_some.f).bind fun t182=>((waterfall_Return.f k 25 t182 bt177.1).bind fun bt185=>((cl47_some.f).bind fun t190=>((waterfall_Turns.f k t190 bt177.1).bind fun bt193=>((cr02_Same.f k bt177.1 (([100, 50, 10, 20] : List Int))).bind fun t198=>(if t198 = true then (if bt177.2.1 = 0 then (if bt177.2.2 = 0 then ((cr02_Same.f k bt185.1 (([0, 0, 8, 17] : List Int))).bind fun t202=>(if t202 = true then (if bt185.2.1 = 0 then (if bt185.2.2 = 0 then (if bt193.1 = true then (if bt193.2 = 0 then (some true) else (none)) else (none)) else (none)) else (none)) else (none))) else (none)) else (none)) else (none)))))))) = some r:=H
 have A1:=Aside0.mk A10
 clear A10
 replace H:=Option.bind_eq_some_iff.mp H
 obtain ⟨⟨t177, t178, t179⟩, A20, H⟩:=H
 replace H : ((cl47_some.f).bind fun t182=>((waterfall_Return.f k 25 t182 t177).bind fun bt185=>((cl47_some.f).bind fun t190=>((waterfall_Turns.f k t190 t177).bind fun bt193=>((cr02_Same.f k t177 (([100, 50, 10, 20] : List Int))).bind fun t198=>(if t198 = true then (if t178 = 0 then (if t179 = 0 then ((cr02_Same.f k bt185.1 (([0, 0, 8, 17] : List Int))).bind fun t202=>(if t202 = true then (if bt185.2.1 = 0 then (if bt185.2.2 = 0 then (if bt193.1 = true then (if bt193.2 = 0 then (some true) else (none)) else (none)) else (none)) else (none)) else (none))) else (none)) else (none)) else (none))))))) = some r:=H
 have A2:=Aside0.mk A20
 clear A20
 replace H:=Option.bind_eq_some_iff.mp H
 obtain ⟨t182, A30, H⟩:=H
 replace H : ((waterfall_Return.f k 25 t182 t177).bind fun bt185=>((cl47_some.f).bind fun t190=>((waterfall_Turns.f k t190 t177).bind fun bt193=>((cr02_Same.f k t177 (([100, 50, 10, 20] : List Int))).bind fun t198=>(if t198 = true then (if t178 = 0 then (if t179 = 0 then ((cr02_Same.f k bt185.1 (([0, 0, 8, 17] : List Int))).bind fun t202=>(if t202 = true then (if bt185.2.1 = 0 then (if bt185.2.2 = 0 then (if bt193.1 = true then (if bt193.2 = 0 then (some true) else (none)) else (none)) else (none)) else (none)) else (none))) else (none)) else (none)) else (none)))))) = some r:=H
 have A3:=Aside0.mk A30
 clear A30
 replace H:=Option.bind_eq_some_iff.mp H
 obtain ⟨⟨t185, t186, t187⟩, A40, H⟩:=H
 replace H : ((cl47_some.f).bind fun t190=>((waterfall_Turns.f k t190 t177).bind fun bt193=>((cr02_Same.f k t177 (([100, 50, 10, 20] : List Int))).bind fun t198=>(if t198 = true then (if t178 = 0 then (if t179 = 0 then ((cr02_Same.f k t185 (([0, 0, 8, 17] : List Int))).bind fun t202=>(if t202 = true then (if t186 = 0 then (if t187 = 0 then (if bt193.1 = true then (if bt193.2 = 0 then (some true) else (none)) else (none)) else (none)) else (none)) else (none))) else (none)) else (none)) else (none))))) = some r:=H
 have A4:=Aside0.mk A40
 clear A40
 replace H:=Option.bind_eq_some_iff.mp H
 obtain ⟨t190, A50, H⟩:=H
 replace H : ((waterfall_Turns.f k t190 t177).bind fun bt193=>((cr02_Same.f k t177 (([100, 50, 10, 20] : List Int))).bind fun t198=>(if t198 = true then (if t178 = 0 then (if t179 = 0 then ((cr02_Same.f k t185 (([0, 0, 8, 17] : List Int))).bind fun t202=>(if t202 = true then (if t186 = 0 then (if t187 = 0 then (if bt193.1 = true then (if bt193.2 = 0 then (some true) else (none)) else (none)) else (none)) else (none)) else (none))) else (none)) else (none)) else (none)))) = some r:=H
 have A5:=Aside0.mk A50
 clear A50
 replace H:=Option.bind_eq_some_iff.mp H
 obtain ⟨⟨t193, t194⟩, A60, H⟩:=H
 replace H : ((cr02_Same.f k t177 (([100, 50, 10, 20] : List Int))).bind fun t198=>(if t198 = true then (if t178 = 0 then (if t179 = 0 then ((cr02_Same.f k t185 (([0, 0, 8, 17] : List Int))).bind fun t202=>(if t202 = true then (if t186 = 0 then (if t187 = 0 then (if t193 = true then (if t194 = 0 then (some true) else (none)) else (none)) else (none)) else (none)) else (none))) else (none)) else (none)) else (none))) = some r:=H
 have A6:=Aside0.mk A60
 clear A60
 obtain ⟨y195, hy195⟩ : ∃ y_ : List Int, y_ = (([100, 50, 10, 20] : List Int)):=⟨_, rfl⟩
 replace H : ((cr02_Same.f k t177 y195).bind fun t198=>(if t198 = true then (if t178 = 0 then (if t179 = 0 then ((cr02_Same.f k t185 (([0, 0, 8, 17] : List Int))).bind fun t202=>(if t202 = true then (if t186 = 0 then (if t187 = 0 then (if t193 = true then (if t194 = 0 then (some true) else (none)) else (none)) else (none)) else (none)) else (none))) else (none)) else (none)) else (none))) = some r:=by first | (rw [hy195];with_reducible exact H) | (have H2_:=(Option.bind_some _ _).symm.trans H;rw [hy195];with_reducible exact H2_) | (have H2_:=(Option.bind_some _ _).symm.trans H;with_reducible exact H2_) | with_reducible exact H | (rw [hy195];exact H) | exact H
 have Ny195:=Aside0.mk hy195
 clear hy195
 replace H:=Option.bind_eq_some_iff.mp H
 obtain ⟨t198, A70, H⟩:=H
 replace H : (if t198 = true then (if t178 = 0 then (if t179 = 0 then ((cr02_Same.f k t185 (([0, 0, 8, 17] : List Int))).bind fun t202=>(if t202 = true then (if t186 = 0 then (if t187 = 0 then (if t193 = true then (if t194 = 0 then (some true) else (none)) else (none)) else (none)) else (none)) else (none))) else (none)) else (none)) else (none)) = some r:=H
 have A7:=Aside0.mk A70
 clear A70
 by_cases c8 : t198 = true
 ·subst c8
  have H1 : (if t178 = 0 then (if t179 = 0 then ((cr02_Same.f k t185 (([0, 0, 8, 17] : List Int))).bind fun t202=>(if t202 = true then (if t186 = 0 then (if t187 = 0 then (if t193 = true then (if t194 = 0 then (some true) else (none)) else (none)) else (none)) else (none)) else (none))) else (none)) else (none)) = some r:=by rw [if_pos rfl] at H;exact H
  clear H
  have H:=H1
  clear H1
  by_cases c9 : t178 = 0
  ·rw [if_pos c9] at H
   have c9b0 : (t178 == 0) = true:=beq_iff_eq.mpr c9
   have c9b1 : (t178 != 0) = false:=bne_eq_false_iff_eq.mpr c9
   clear c9
   by_cases c10 : t179 = 0
   ·rw [if_pos c10] at H
    have c10b0 : (t179 == 0) = true:=beq_iff_eq.mpr c10
    have c10b1 : (t179 != 0) = false:=bne_eq_false_iff_eq.mpr c10
    clear c10
    obtain ⟨y199, hy199⟩ : ∃ y_ : List Int, y_ = (([0, 0, 8, 17] : List Int)):=⟨_, rfl⟩
    replace H : ((cr02_Same.f k t185 y199).bind fun t202=>(if t202 = true then (if t186 = 0 then (if t187 = 0 then (if t193 = true then (if t194 = 0 then (some true) else (none)) else (none)) else (none)) else (none)) else (none))) = some r:=by first | (rw [hy199];with_reducible exact H) | (have H2_:=(Option.bind_some _ _).symm.trans H;rw [hy199];with_reducible exact H2_) | (have H2_:=(Option.bind_some _ _).symm.trans H;with_reducible exact H2_) | with_reducible exact H | (rw [hy199];exact H) | exact H
    have Ny199:=Aside0.mk hy199
    clear hy199
    replace H:=Option.bind_eq_some_iff.mp H
    obtain ⟨t202, A110, H⟩:=H
    replace H : (if t202 = true then (if t186 = 0 then (if t187 = 0 then (if t193 = true then (if t194 = 0 then (some true) else (none)) else (none)) else (none)) else (none)) else (none)) = some r:=H
    have A11:=Aside0.mk A110
    clear A110
    by_cases c12 : t202 = true
    ·subst c12
     have H1 : (if t186 = 0 then (if t187 = 0 then (if t193 = true then (if t194 = 0 then (some true) else (none)) else (none)) else (none)) else (none)) = some r:=by rw [if_pos rfl] at H;exact H
     clear H
     have H:=H1
     clear H1
     by_cases c13 : t186 = 0
     ·rw [if_pos c13] at H
      have c13b0 : (t186 == 0) = true:=beq_iff_eq.mpr c13
      have c13b1 : (t186 != 0) = false:=bne_eq_false_iff_eq.mpr c13
      clear c13
      by_cases c14 : t187 = 0
      ·rw [if_pos c14] at H
       have c14b0 : (t187 == 0) = true:=beq_iff_eq.mpr c14
       have c14b1 : (t187 != 0) = false:=bne_eq_false_iff_eq.mpr c14
       clear c14
       by_cases c15 : t193 = true
       ·subst c15
        have H1 : (if t194 = 0 then (some true) else (none)) = some r:=by rw [if_pos rfl] at H;exact H
        clear H
        have H:=H1
        clear H1
        by_cases c16 : t194 = 0
        ·rw [if_pos c16] at H
         have c16b0 : (t194 == 0) = true:=beq_iff_eq.mpr c16
         have c16b1 : (t194 != 0) = false:=bne_eq_false_iff_eq.mpr c16
         clear c16
         obtain rfl:=Option.some.inj H
         go_enter Try.func10, Try.ntmps10
         go_wp2_with (first | ((with_reducible refine gate_callee (f:=28) rfl ?_);refine goesL_ (some 10) rfl rfl Try.func28 (by kernel_rfl) rfl #[] rfl (by (try simp only [List.map_toArray, List.map_cons, List.map_nil]);first | done | rfl | (simp only [List.length_drop, List.length_take];rfl)) ?_;(with_reducible refine (cl47_some.calls  t174 _ A1.out).mono ?_);rintro e w17 ⟨v175, rfl, ho0, hb⟩;refine ⟨_, rfl, ?_⟩;have n0_:=Aside0.mk (Kd.R_lower ho0 (below_size (by repeat (first | (with_reducible first | exact HB.out | apply below_alloc | apply pw_below_drewN | apply below_drew1) | exact HB.out))));have n1_:=Aside0.mk (below_step (by repeat (first | (with_reducible first | exact HB.out | apply below_alloc | apply pw_below_drewN | apply below_drew1) | exact HB.out)) hb);clear HB;have HO176:=n0_;have HB:=n1_;clear n0_ n1_;(try clear hb);(try clear hb2);(try clear hk);(try clear hi);(try clear ho0);obtain ⟨Ao18, co18, eo18⟩:=Kd.R_slice HO176.out;subst eo18) | ((with_reducible refine gate_callee (f:=11) rfl ?_);refine goesL_ (some 11) rfl rfl Try.func11 (by kernel_rfl) rfl #[.int .i64 180, .slice Ao18 t174.length co18] rfl (by (try simp only [List.map_toArray, List.map_cons, List.map_nil]);first | done | rfl | (simp only [List.length_drop, List.length_take];rfl)) ?_;(with_reducible refine (waterfall_Absorb.calls k 180 _ _ t174 t177 t178 t179 _ ?side1 ?side2 A2.out).mono ?_);(case side1=>repeat (first | exact (Kd.R_reads' HO176.out).2.2 | (with_reducible refine Kd.C_alloc ?_ _) | (with_reducible refine Kd.C_drewN ?_ _) | (with_reducible refine Kd.C_drew ?_)));(case side2=>exact (Kd.R_reads' HO176.out).2.1);rintro e w19 ⟨v180, rfl, ho0, hb⟩;refine ⟨_, rfl, ?_⟩;have n0_:=Aside0.mk (Kd.R_below (by (with_reducible repeat (first | apply Kd.R_alloc | apply Kd.R_drewN | apply Kd.R_drew));exact HO176.out) hb);have n1_:=Aside0.mk (Kd.R_lower ho0 (below_size (by repeat (first | (with_reducible first | exact HB.out | apply below_alloc | apply pw_below_drewN | apply below_drew1) | exact HB.out))));have n2_:=Aside0.mk (below_step (by repeat (first | (with_reducible first | exact HB.out | apply below_alloc | apply pw_below_drewN | apply below_drew1) | exact HB.out)) hb);clear HO176 HB;have HO176:=n0_;have HO181:=n1_;have HB:=n2_;clear n0_ n1_ n2_;(try clear hb);(try clear hb2);(try clear hk);(try clear hi);(try clear ho0)) | ((with_reducible refine gate_callee (f:=28) rfl ?_);refine goesL_ (some 16) rfl rfl Try.func28 (by kernel_rfl) rfl #[] rfl (by (try simp only [List.map_toArray, List.map_cons, List.map_nil]);first | done | rfl | (simp only [List.length_drop, List.length_take];rfl)) ?_;(with_reducible refine (cl47_some.calls  t182 _ A3.out).mono ?_);rintro e w20 ⟨v183, rfl, ho0, hb⟩;refine ⟨_, rfl, ?_⟩;have n0_:=Aside0.mk (Kd.R_elder' (by (with_reducible repeat (first | apply Kd.R_alloc | apply Kd.R_drewN | apply Kd.R_drew));exact HO176.out) (Kd.R_base ho0) hb);have n1_:=Aside0.mk (Kd.R_below (by (with_reducible repeat (first | apply Kd.R_alloc | apply Kd.R_drewN | apply Kd.R_drew));exact HO181.out) hb);have n2_:=Aside0.mk (Kd.R_lower (Kd.R_new' ho0 (Kd.R_lt (by (with_reducible repeat (first | apply Kd.R_alloc | apply Kd.R_drewN | apply Kd.R_drew));exact HO176.out))) (below_size (by repeat (first | (with_reducible first | exact HB.out | apply below_alloc | apply pw_below_drewN | apply below_drew1) | exact HB.out))));have n3_:=Aside0.mk (below_step (by repeat (first | (with_reducible first | exact HB.out | apply below_alloc | apply pw_below_drewN | apply below_drew1) | exact HB.out)) hb);clear HO176 HO181 HB;have HO176:=n0_;have HO181:=n1_;have HO184:=n2_;have HB:=n3_;clear n0_ n1_ n2_ n3_;(try clear hb);(try clear hb2);(try clear hk);(try clear hi);(try clear ho0);obtain ⟨Ao21, co21, eo21⟩:=Kd.R_slice HO184.out;subst eo21;obtain ⟨Ao22, co22, eo22⟩:=Kd.R_slice HO181.out;subst eo22) | ((with_reducible refine gate_callee (f:=20) rfl ?_);refine goesL_ (some 18) rfl rfl Try.func20 (by kernel_rfl) rfl #[.int .i64 25, .slice Ao21 t182.length co21, .slice Ao22 t177.length co22] rfl (by (try simp only [List.map_toArray, List.map_cons, List.map_nil]);first | done | rfl | (simp only [List.length_drop, List.length_take];rfl)) ?_;(with_reducible refine (waterfall_Return.calls k 25 _ _ t182 _ _ t177 t185 t186 t187 _ ?side1 ?side2 ?side3 ?side4 A4.out).mono ?_);(case side1=>repeat (first | exact (Kd.R_reads' HO184.out).2.2 | (with_reducible refine Kd.C_alloc ?_ _) | (with_reducible refine Kd.C_drewN ?_ _) | (with_reducible refine Kd.C_drew ?_)));(case side2=>exact (Kd.R_reads' HO184.out).2.1);(case side3=>repeat (first | exact (Kd.R_reads' HO181.out).2.2 | (with_reducible refine Kd.C_alloc ?_ _) | (with_reducible refine Kd.C_drewN ?_ _) | (with_reducible refine Kd.C_drew ?_)));(case side4=>exact (Kd.R_reads' HO181.out).2.1);rintro e w23 ⟨v188, rfl, ho0, hb⟩;refine ⟨_, rfl, ?_⟩;have n0_:=Aside0.mk (Kd.R_below (by (with_reducible repeat (first | apply Kd.R_alloc | apply Kd.R_drewN | apply Kd.R_drew));exact HO176.out) hb);have n1_:=Aside0.mk (Kd.R_elder' (by (with_reducible repeat (first | apply Kd.R_alloc | apply Kd.R_drewN | apply Kd.R_drew));exact HO181.out) (Kd.R_base ho0) hb);have n2_:=Aside0.mk (Kd.R_below (by (with_reducible repeat (first | apply Kd.R_alloc | apply Kd.R_drewN | apply Kd.R_drew));exact HO184.out) hb);have n3_:=Aside0.mk (Kd.R_lower (Kd.R_new' ho0 (Kd.R_lt (by (with_reducible repeat (first | apply Kd.R_alloc | apply Kd.R_drewN | apply Kd.R_drew));exact HO181.out))) (below_size (by repeat (first | (with_reducible first | exact HB.out | apply below_alloc | apply pw_below_drewN | apply below_drew1) | exact HB.out))));have n4_:=Aside0.mk (below_step (by repeat (first | (with_reducible first | exact HB.out | apply below_alloc | apply pw_below_drewN | apply below_drew1) | exact HB.out)) hb);clear HO176 HO181 HO184 HB;have HO176:=n0_;have HO181:=n1_;have HO184:=n2_;have HO189:=n3_;have HB:=n4_;clear n0_ n1_ n2_ n3_ n4_;(try clear hb);(try clear hb2);(try clear hk);(try clear hi);(try clear ho0)) | ((with_reducible refine gate_callee (f:=28) rfl ?_);refine goesL_ (some 23) rfl rfl Try.func28 (by kernel_rfl) rfl #[] rfl (by (try simp only [List.map_toArray, List.map_cons, List.map_nil]);first | done | rfl | (simp only [List.length_drop, List.length_take];rfl)) ?_;(with_reducible refine (cl47_some.calls  t190 _ A5.out).mono ?_);rintro e w24 ⟨v191, rfl, ho0, hb⟩;refine ⟨_, rfl, ?_⟩;have n0_:=Aside0.mk (Kd.R_elder' (by (with_reducible repeat (first | apply Kd.R_alloc | apply Kd.R_drewN | apply Kd.R_drew));exact HO176.out) (Kd.R_base ho0) hb);have n1_:=Aside0.mk (Kd.R_below (by (with_reducible repeat (first | apply Kd.R_alloc | apply Kd.R_drewN | apply Kd.R_drew));exact HO181.out) hb);have n2_:=Aside0.mk (Kd.R_elder' (by (with_reducible repeat (first | apply Kd.R_alloc | apply Kd.R_drewN | apply Kd.R_drew));exact HO184.out) (Kd.R_base ho0) hb);have n3_:=Aside0.mk (Kd.R_below (by (with_reducible repeat (first | apply Kd.R_alloc | apply Kd.R_drewN | apply Kd.R_drew));exact HO189.out) hb);have n4_:=Aside0.mk (Kd.R_lower (Kd.R_new' (Kd.R_new' ho0 (Kd.R_lt (by (with_reducible repeat (first | apply Kd.R_alloc | apply Kd.R_drewN | apply Kd.R_drew));exact HO176.out))) (Kd.R_lt (by (with_reducible repeat (first | apply Kd.R_alloc | apply Kd.R_drewN | apply Kd.R_drew));exact HO184.out))) (below_size (by repeat (first | (with_reducible first | exact HB.out | apply below_alloc | apply pw_below_drewN | apply below_drew1) | exact HB.out))));have n5_:=Aside0.mk (below_step (by repeat (first | (with_reducible first | exact HB.out | apply below_alloc | apply pw_below_drewN | apply below_drew1) | exact HB.out)) hb);clear HO176 HO181 HO184 HO189 HB;have HO176:=n0_;have HO181:=n1_;have HO184:=n2_;have HO189:=n3_;have HO192:=n4_;have HB:=n5_;clear n0_ n1_ n2_ n3_ n4_ n5_;(try clear hb);(try clear hb2);(try clear hk);(try clear hi);(try clear ho0);obtain ⟨Ao25, co25, eo25⟩:=Kd.R_slice HO192.out;subst eo25) | ((with_reducible refine gate_callee (f:=18) rfl ?_);refine goesL_ (some 25) rfl rfl Try.func18 (by kernel_rfl) rfl #[.slice Ao25 t190.length co25, .slice Ao22 t177.length co22] rfl (by (try simp only [List.map_toArray, List.map_cons, List.map_nil]);first | done | rfl | (simp only [List.length_drop, List.length_take];rfl)) ?_;(with_reducible refine (waterfall_Turns.calls k _ _ t190 _ _ t177 true t194 _ ?side1 ?side2 ?side3 ?side4 A6.out).mono ?_);(case side1=>repeat (first | exact (Kd.R_reads' HO192.out).2.2 | (with_reducible refine Kd.C_alloc ?_ _) | (with_reducible refine Kd.C_drewN ?_ _) | (with_reducible refine Kd.C_drew ?_)));(case side2=>exact (Kd.R_reads' HO192.out).2.1);(case side3=>repeat (first | exact (Kd.R_reads' HO181.out).2.2 | (with_reducible refine Kd.C_alloc ?_ _) | (with_reducible refine Kd.C_drewN ?_ _) | (with_reducible refine Kd.C_drew ?_)));(case side4=>exact (Kd.R_reads' HO181.out).2.1);rintro e w26 ⟨rfl, hb⟩;refine ⟨_, rfl, ?_⟩;have n0_:=Aside0.mk (Kd.R_below (by (with_reducible repeat (first | apply Kd.R_alloc | apply Kd.R_drewN | apply Kd.R_drew));exact HO176.out) hb);have n1_:=Aside0.mk (Kd.R_below (by (with_reducible repeat (first | apply Kd.R_alloc | apply Kd.R_drewN | apply Kd.R_drew));exact HO181.out) hb);have n2_:=Aside0.mk (Kd.R_below (by (with_reducible repeat (first | apply Kd.R_alloc | apply Kd.R_drewN | apply Kd.R_drew));exact HO184.out) hb);have n3_:=Aside0.mk (Kd.R_below (by (with_reducible repeat (first | apply Kd.R_alloc | apply Kd.R_drewN | apply Kd.R_drew));exact HO189.out) hb);have n4_:=Aside0.mk (Kd.R_below (by (with_reducible repeat (first | apply Kd.R_alloc | apply Kd.R_drewN | apply Kd.R_drew));exact HO192.out) hb);have n5_:=Aside0.mk (below_step (by repeat (first | (with_reducible first | exact HB.out | apply below_alloc | apply pw_below_drewN | apply below_drew1) | exact HB.out)) hb);clear HO176 HO181 HO184 HO189 HO192 HB;have HO176:=n0_;have HO181:=n1_;have HO184:=n2_;have HO189:=n3_;have HO192:=n4_;have HB:=n5_;clear n0_ n1_ n2_ n3_ n4_ n5_;(try clear hb);(try clear hb2);(try clear hk);(try clear hi)) | ((with_reducible refine gate_dst (N:=29) rfl ?_);(try (refine gate_guard (by rfl) ?_;dsimp only));refine Kd.R_lit (Kd.int .i64) _ 3 ?hg (N:=29) ?hd (xs:=([100, 50, 10, 20] : List Int)) (inner:=[.int .i64 100, .int .i64 50, .int .i64 10, .int .i64 20]) (ok:=fun _=>True) (okp:=fun _=>True) ?hr ?hp (fun _ hk=>hk) trivial (Below.refl _ _) (Nat.le_refl _) (by simp) ?_;(case hd=>rfl);(case hg=>rfl);(case hr=>first | (go_simp;done) | (go_simp;rfl));(case hp=>exact (Reps.one (show Kd.M (Kd.int .i64) _ _ _ 100 [.int .i64 100] from rfl) (Reps.one (show Kd.M (Kd.int .i64) _ _ _ 50 [.int .i64 50] from rfl) (Reps.one (show Kd.M (Kd.int .i64) _ _ _ 10 [.int .i64 10] from rfl) (Reps.one (show Kd.M (Kd.int .i64) _ _ _ 20 [.int .i64 20] from rfl) (Reps.none _ _))))));intro v196 w27 ho28 hb hg_ hnew_;clear hg_ hnew_;(first | rw [← Ny195.out] at ho28 | (simp only [Int.reduceToNat] at ho28;rw [← Ny195.out] at ho28));have n0_:=Aside0.mk (Kd.R_below (by (with_reducible repeat (first | apply Kd.R_alloc | apply Kd.R_drewN | apply Kd.R_drew));exact HO176.out) hb);have n1_:=Aside0.mk (Kd.R_elder' (by (with_reducible repeat (first | apply Kd.R_alloc | apply Kd.R_drewN | apply Kd.R_drew));exact HO181.out) (Kd.R_base ho28) hb);have n2_:=Aside0.mk (Kd.R_below (by (with_reducible repeat (first | apply Kd.R_alloc | apply Kd.R_drewN | apply Kd.R_drew));exact HO184.out) hb);have n3_:=Aside0.mk (Kd.R_elder' (by (with_reducible repeat (first | apply Kd.R_alloc | apply Kd.R_drewN | apply Kd.R_drew));exact HO189.out) (Kd.R_base ho28) hb);have n4_:=Aside0.mk (Kd.R_below (by (with_reducible repeat (first | apply Kd.R_alloc | apply Kd.R_drewN | apply Kd.R_drew));exact HO192.out) hb);have n5_:=Aside0.mk (Kd.R_lower (Kd.R_new' (Kd.R_new' ho28 (Kd.R_lt (by (with_reducible repeat (first | apply Kd.R_alloc | apply Kd.R_drewN | apply Kd.R_drew));exact HO181.out))) (Kd.R_lt (by (with_reducible repeat (first | apply Kd.R_alloc | apply Kd.R_drewN | apply Kd.R_drew));exact HO189.out))) (below_size (by repeat (first | (with_reducible first | exact HB.out | apply below_alloc | apply pw_below_drewN | apply below_drew1) | exact HB.out))));have n6_:=Aside0.mk (below_step (by repeat (first | (with_reducible first | exact HB.out | apply below_alloc | apply pw_below_drewN | apply below_drew1) | exact HB.out)) hb);clear HO176 HO181 HO184 HO189 HO192 HB;have HO176:=n0_;have HO181:=n1_;have HO184:=n2_;have HO189:=n3_;have HO192:=n4_;have HO197:=n5_;have HB:=n6_;clear n0_ n1_ n2_ n3_ n4_ n5_ n6_ hb ho28;obtain ⟨Ao29, co29, eo29⟩:=Kd.R_slice HO197.out;subst eo29) | ((with_reducible refine gate_callee (f:=13) rfl ?_);refine goesL_ (some 30) rfl rfl Try.func13 (by kernel_rfl) rfl #[.slice Ao22 t177.length co22, .slice Ao29 y195.length co29] rfl (by (try simp only [List.map_toArray, List.map_cons, List.map_nil]);first | done | rfl | (simp only [List.length_drop, List.length_take];rfl)) ?_;(with_reducible refine (cr02_Same.calls k _ _ t177 _ _ y195 true _ ?side1 ?side2 ?side3 ?side4 A7.out).mono ?_);(case side1=>repeat (first | exact (Kd.R_reads' HO181.out).2.2 | (with_reducible refine Kd.C_alloc ?_ _) | (with_reducible refine Kd.C_drewN ?_ _) | (with_reducible refine Kd.C_drew ?_)));(case side2=>exact (Kd.R_reads' HO181.out).2.1);(case side3=>repeat (first | exact (Kd.R_reads' HO197.out).2.2 | (with_reducible refine Kd.C_alloc ?_ _) | (with_reducible refine Kd.C_drewN ?_ _) | (with_reducible refine Kd.C_drew ?_)));(case side4=>exact (Kd.R_reads' HO197.out).2.1);rintro e w' ⟨rfl, ⟨nd, rfl⟩⟩;refine ⟨_, rfl, ?_⟩) | ((with_reducible refine gate_dst (N:=41) rfl ?_);(try (refine gate_guard (by rfl) ?_;dsimp only));refine Kd.R_lit (Kd.int .i64) _ 3 ?hg (N:=41) ?hd (xs:=([0, 0, 8, 17] : List Int)) (inner:=[.int .i64 0, .int .i64 0, .int .i64 8, .int .i64 17]) (ok:=fun _=>True) (okp:=fun _=>True) ?hr ?hp (fun _ hk=>hk) trivial (Below.refl _ _) (Nat.le_refl _) (by simp) ?_;(case hd=>rfl);(case hg=>rfl);(case hr=>first | (go_simp;done) | (go_simp;rfl));(case hp=>exact (Reps.one (show Kd.M (Kd.int .i64) _ _ _ 0 [.int .i64 0] from rfl) (Reps.one (show Kd.M (Kd.int .i64) _ _ _ 0 [.int .i64 0] from rfl) (Reps.one (show Kd.M (Kd.int .i64) _ _ _ 8 [.int .i64 8] from rfl) (Reps.one (show Kd.M (Kd.int .i64) _ _ _ 17 [.int .i64 17] from rfl) (Reps.none _ _))))));intro v200 w30 ho31 hb hg_ hnew_;clear hg_ hnew_;(first | rw [← Ny199.out] at ho31 | (simp only [Int.reduceToNat] at ho31;rw [← Ny199.out] at ho31));have n0_:=Aside0.mk (Kd.R_below (by (with_reducible repeat (first | apply Kd.R_alloc | apply Kd.R_drewN | apply Kd.R_drew));exact HO176.out) hb);have n1_:=Aside0.mk (Kd.R_elder' (by (with_reducible repeat (first | apply Kd.R_alloc | apply Kd.R_drewN | apply Kd.R_drew));exact HO181.out) (Kd.R_base ho31) hb);have n2_:=Aside0.mk (Kd.R_below (by (with_reducible repeat (first | apply Kd.R_alloc | apply Kd.R_drewN | apply Kd.R_drew));exact HO184.out) hb);have n3_:=Aside0.mk (Kd.R_elder' (by (with_reducible repeat (first | apply Kd.R_alloc | apply Kd.R_drewN | apply Kd.R_drew));exact HO189.out) (Kd.R_base ho31) hb);have n4_:=Aside0.mk (Kd.R_below (by (with_reducible repeat (first | apply Kd.R_alloc | apply Kd.R_drewN | apply Kd.R_drew));exact HO192.out) hb);have n5_:=Aside0.mk (Kd.R_elder' (by (with_reducible repeat (first | apply Kd.R_alloc | apply Kd.R_drewN | apply Kd.R_drew));exact HO197.out) (Kd.R_base ho31) hb);have n6_:=Aside0.mk (Kd.R_lower (Kd.R_new' (Kd.R_new' (Kd.R_new' ho31 (Kd.R_lt (by (with_reducible repeat (first | apply Kd.R_alloc | apply Kd.R_drewN | apply Kd.R_drew));exact HO181.out))) (Kd.R_lt (by (with_reducible repeat (first | apply Kd.R_alloc | apply Kd.R_drewN | apply Kd.R_drew));exact HO189.out))) (Kd.R_lt (by (with_reducible repeat (first | apply Kd.R_alloc | apply Kd.R_drewN | apply Kd.R_drew));exact HO197.out))) (below_size (by repeat (first | (with_reducible first | exact HB.out | apply below_alloc | apply pw_below_drewN | apply below_drew1) | exact HB.out))));have n7_:=Aside0.mk (below_step (by repeat (first | (with_reducible first | exact HB.out | apply below_alloc | apply pw_below_drewN | apply below_drew1) | exact HB.out)) hb);clear HO176 HO181 HO184 HO189 HO192 HO197 HB;have HO176:=n0_;have HO181:=n1_;have HO184:=n2_;have HO189:=n3_;have HO192:=n4_;have HO197:=n5_;have HO201:=n6_;have HB:=n7_;clear n0_ n1_ n2_ n3_ n4_ n5_ n6_ n7_ hb ho31;obtain ⟨Ao32, co32, eo32⟩:=Kd.R_slice HO189.out;subst eo32;obtain ⟨Ao33, co33, eo33⟩:=Kd.R_slice HO201.out;subst eo33) | (go_at_call 13;(with_reducible refine (cr02_Same.calls k _ _ t185 _ _ y199 true _ ?side1 ?side2 ?side3 ?side4 A11.out).mono ?_);(case side1=>repeat (first | exact (Kd.R_reads' HO189.out).2.2 | (with_reducible refine Kd.C_alloc ?_ _) | (with_reducible refine Kd.C_drewN ?_ _) | (with_reducible refine Kd.C_drew ?_)));(case side2=>exact (Kd.R_reads' HO189.out).2.1);(case side3=>repeat (first | exact (Kd.R_reads' HO201.out).2.2 | (with_reducible refine Kd.C_alloc ?_ _) | (with_reducible refine Kd.C_drewN ?_ _) | (with_reducible refine Kd.C_drew ?_)));(case side4=>exact (Kd.R_reads' HO201.out).2.1);rintro e w' ⟨rfl, ⟨nd, rfl⟩⟩))
         go_ret
         exact ⟨by first | rfl | (simp [errW_none, errW_some] <;> rfl) | (simp [*, errW_none, errW_some] <;> rfl), by repeat (first | (with_reducible first | exact HB.out | apply below_alloc | apply pw_below_drewN | apply below_drew1) | exact HB.out)⟩
        ·rw [if_neg c16] at H
         exact absurd H (by simp)
       ·replace c15:=Bool.eq_false_iff.mpr c15
        subst c15
        have H1 : (none) = some r:=by rw [if_neg (show ¬ (false = true) by decide)] at H;exact H
        clear H
        have H:=H1
        clear H1
        exact absurd H (by simp)
      ·rw [if_neg c14] at H
       exact absurd H (by simp)
     ·rw [if_neg c13] at H
      exact absurd H (by simp)
    ·replace c12:=Bool.eq_false_iff.mpr c12
     subst c12
     have H1 : (none) = some r:=by rw [if_neg (show ¬ (false = true) by decide)] at H;exact H
     clear H
     have H:=H1
     clear H1
     exact absurd H (by simp)
   ·rw [if_neg c10] at H
    exact absurd H (by simp)
  ·rw [if_neg c9] at H
   exact absurd H (by simp)
 ·replace c8:=Bool.eq_false_iff.mpr c8
  subst c8
  have H1 : (none) = some r:=by rw [if_neg (show ¬ (false = true) by decide)] at H;exact H
  clear H
  have H:=H1
  clear H1
  exact absurd H (by simp)

/-! ### cr47_Turn: function 17 -/
def cr47_Turn.f (a0_0 : Int) (a0_1 : Int) (a0_2 : ByteArray) (a0_3 : Int) (a1_0 : Int) (a1_1 : Int) (a1_2 : ByteArray) (a1_3 : Int) : Option (Bool):=if a0_0 = a1_0 then (some (a0_1 == a1_1)) else (some false)
set_option maxHeartbeats 8000000 in
set_option maxRecDepth 100000 in
theorem cr47_Turn.calls (a0_0 : Int) (a0_1 : Int) (a0_2 : ByteArray) (a0_3 : Int) (a1_0 : Int) (a1_1 : Int) (a1_2 : ByteArray) (a1_3 : Int) (r : Bool) (w : World) (h : cr47_Turn.f a0_0 a0_1 a0_2 a0_3 a1_0 a1_1 a1_2 a1_3 = some r) :
  Calls Try.prog 17 #[.agg #[.int .i64 a0_0, .int .i64 a0_1, .string a0_2, .int .i64 a0_3], .agg #[.int .i64 a1_0, .int .i64 a1_1, .string a1_2, .int .i64 a1_3]] w fun e w'=>e = .returned (.bool r) ∧ Below w.heap.size w w':=by
 have hu37:=Try.underlying37
 have HB:=Aside0.mk (Below.refl w.heap.size w)
 have H : (if a0_0 = a1_0 then (some (a0_1 == a1_1)) else (some false)) = some r:=h
 clear h
 by_cases c3 : a0_0 = a1_0
 ·rw [if_pos c3] at H
  have c3b0 : (a0_0 == a1_0) = true:=beq_iff_eq.mpr c3
  have c3b1 : (a0_0 != a1_0) = false:=bne_eq_false_iff_eq.mpr c3
  clear c3
  obtain rfl:=Option.some.inj H
  go_enter Try.func17, Try.ntmps17
  go_wp2_with (first | ((with_reducible refine gate_dst (N:=2) rfl ?_);refine box_event ?hg (N:=2) ?hd (cs:=#[.int .i64 a0_0, .int .i64 a0_1, .string a0_2, .int .i64 a0_3]) (t:=37) ?hr ?_;(case hd=>rfl);(case hg=>rfl);(case hr=>first | (go_simp;done) | (go_simp;rfl));intro gb203 hg w4 hbox hb;have n0_:=Aside0.mk (below_step (by repeat (first | (with_reducible first | exact HB.out | apply below_alloc | apply pw_below_drewN | apply below_drew1) | exact HB.out)) hb);have n1_:=Aside0.mk (hbox);have n2_:=Aside0.mk ((by rw [hg];exact (below_size (by repeat (first | (with_reducible first | exact HB.out | apply below_alloc | apply pw_below_drewN | apply below_drew1) | exact HB.out))) : w.heap.size ≤ gb203));have n3_:=Aside0.mk ((by rw [hg];exact (below_size (by repeat (first | (with_reducible first | exact HB.out | apply below_alloc | apply pw_below_drewN | apply below_drew1) | exact HB.out))) : w.heap.size ≤ gb203));clear HB;have HB:=n0_;have BK203:=n1_;have GW203:=n2_;have GE203:=n3_;clear n0_ n1_ n2_ n3_ hb hbox hg) | ((with_reducible refine gate_dst (N:=3) rfl ?_);refine box_event ?hg (N:=3) ?hd (cs:=#[.int .i64 a1_0, .int .i64 a1_1, .string a1_2, .int .i64 a1_3]) (t:=37) ?hr ?_;(case hd=>rfl);(case hg=>rfl);(case hr=>first | (go_simp;done) | (go_simp;rfl));intro gb204 hg w5 hbox hb;have n0_:=Aside0.mk (blk_below (g:=gb203) (o:=.cells #[.int .i64 a0_0, .int .i64 a0_1, .string a0_2, .int .i64 a0_3] 37 (0, 0)) (by (with_reducible repeat (first | refine blk_drewN ?_ _ | refine blk_drew ?_ | refine blk_alloc ?_ _));exact BK203.out) hb);have n1_:=Aside0.mk (below_step (by repeat (first | (with_reducible first | exact HB.out | apply below_alloc | apply pw_below_drewN | apply below_drew1 | refine below_set ?_ GE203.out) | exact HB.out)) hb);have n2_:=Aside0.mk (hbox);have n3_:=Aside0.mk ((by rw [hg];exact (below_size (by repeat (first | (with_reducible first | exact HB.out | apply below_alloc | apply pw_below_drewN | apply below_drew1 | refine below_set ?_ GE203.out) | exact HB.out))) : w.heap.size ≤ gb204));have n4_:=Aside0.mk ((by rw [hg];exact (below_size (by repeat (first | (with_reducible first | exact HB.out | apply below_alloc | apply pw_below_drewN | apply below_drew1 | refine below_set ?_ GE203.out) | exact HB.out))) : w.heap.size ≤ gb204));have n5_:=Aside0.mk ((by rw [hg];exact Nat.ne_of_lt (blk_lt (g:=gb203) (o:=.cells #[.int .i64 a0_0, .int .i64 a0_1, .string a0_2, .int .i64 a0_3] 37 (0, 0)) (by (with_reducible repeat (first | refine blk_drewN ?_ _ | refine blk_drew ?_ | refine blk_alloc ?_ _));exact BK203.out)) : gb203 ≠ gb204));have n6_:=Aside0.mk ((by rw [hg];exact Nat.ne_of_gt (blk_lt (g:=gb203) (o:=.cells #[.int .i64 a0_0, .int .i64 a0_1, .string a0_2, .int .i64 a0_3] 37 (0, 0)) (by (with_reducible repeat (first | refine blk_drewN ?_ _ | refine blk_drew ?_ | refine blk_alloc ?_ _));exact BK203.out)) : gb204 ≠ gb203));clear BK203 HB;have BK203:=n0_;have HB:=n1_;have BK204:=n2_;have GW204:=n3_;have GE204:=n4_;have NB203_204:=n5_;have NB204_203:=n6_;clear n0_ n1_ n2_ n3_ n4_ n5_ n6_ hb hbox hg;have hnb6:=NB203_204.out;have hnc6:=NB204_203.out;have hcz7_0 : w5.cell? ⟨gb203, 0, none⟩ = some (.int .i64 a0_0):=(blk_cell BK203.out 0).trans rfl;have hcz7_1 : w5.cell? ⟨gb203, 1, none⟩ = some (.int .i64 a0_1):=(blk_cell BK203.out 1).trans rfl;have hcz7_2 : w5.cell? ⟨gb203, 2, none⟩ = some (.string a0_2):=(blk_cell BK203.out 2).trans rfl;have hcz7_3 : w5.cell? ⟨gb203, 3, none⟩ = some (.int .i64 a0_3):=(blk_cell BK203.out 3).trans rfl;have hfz7_0:=blk_frozen BK203.out 0;have hfz7_1:=blk_frozen BK203.out 1;have hfz7_2:=blk_frozen BK203.out 2;have hfz7_3:=blk_frozen BK203.out 3;have hcz8_0 : w5.cell? ⟨gb204, 0, none⟩ = some (.int .i64 a1_0):=(blk_cell BK204.out 0).trans rfl;have hcz8_1 : w5.cell? ⟨gb204, 1, none⟩ = some (.int .i64 a1_1):=(blk_cell BK204.out 1).trans rfl;have hcz8_2 : w5.cell? ⟨gb204, 2, none⟩ = some (.string a1_2):=(blk_cell BK204.out 2).trans rfl;have hcz8_3 : w5.cell? ⟨gb204, 3, none⟩ = some (.int .i64 a1_3):=(blk_cell BK204.out 3).trans rfl;have hfz8_0:=blk_frozen BK204.out 0;have hfz8_1:=blk_frozen BK204.out 1;have hfz8_2:=blk_frozen BK204.out 2;have hfz8_3:=blk_frozen BK204.out 3))
  go_ret
  exact ⟨by first | rfl | (simp [errW_none, errW_some] <;> rfl) | (simp [*, errW_none, errW_some] <;> rfl), by repeat (first | (with_reducible first | exact HB.out | apply below_alloc | apply pw_below_drewN | apply below_drew1 | refine below_set ?_ GE203.out | refine below_set ?_ GE204.out) | exact HB.out)⟩
 ·rw [if_neg c3] at H
  have c3b0 : (a0_0 == a1_0) = false:=beq_eq_false_iff_ne.mpr c3
  have c3b1 : (a0_0 != a1_0) = true:=bne_iff_ne.mpr c3
  obtain rfl:=Option.some.inj H
  go_enter Try.func17, Try.ntmps17
  go_wp2_with (first | ((with_reducible refine gate_dst (N:=2) rfl ?_);refine box_event ?hg (N:=2) ?hd (cs:=#[.int .i64 a0_0, .int .i64 a0_1, .string a0_2, .int .i64 a0_3]) (t:=37) ?hr ?_;(case hd=>rfl);(case hg=>rfl);(case hr=>first | (go_simp;done) | (go_simp;rfl));intro gb203 hg w9 hbox hb;have n0_:=Aside0.mk (below_step (by repeat (first | (with_reducible first | exact HB.out | apply below_alloc | apply pw_below_drewN | apply below_drew1) | exact HB.out)) hb);have n1_:=Aside0.mk (hbox);have n2_:=Aside0.mk ((by rw [hg];exact (below_size (by repeat (first | (with_reducible first | exact HB.out | apply below_alloc | apply pw_below_drewN | apply below_drew1) | exact HB.out))) : w.heap.size ≤ gb203));have n3_:=Aside0.mk ((by rw [hg];exact (below_size (by repeat (first | (with_reducible first | exact HB.out | apply below_alloc | apply pw_below_drewN | apply below_drew1) | exact HB.out))) : w.heap.size ≤ gb203));clear HB;have HB:=n0_;have BK203:=n1_;have GW203:=n2_;have GE203:=n3_;clear n0_ n1_ n2_ n3_ hb hbox hg) | ((with_reducible refine gate_dst (N:=3) rfl ?_);refine box_event ?hg (N:=3) ?hd (cs:=#[.int .i64 a1_0, .int .i64 a1_1, .string a1_2, .int .i64 a1_3]) (t:=37) ?hr ?_;(case hd=>rfl);(case hg=>rfl);(case hr=>first | (go_simp;done) | (go_simp;rfl));intro gb204 hg w10 hbox hb;have n0_:=Aside0.mk (blk_below (g:=gb203) (o:=.cells #[.int .i64 a0_0, .int .i64 a0_1, .string a0_2, .int .i64 a0_3] 37 (0, 0)) (by (with_reducible repeat (first | refine blk_drewN ?_ _ | refine blk_drew ?_ | refine blk_alloc ?_ _));exact BK203.out) hb);have n1_:=Aside0.mk (below_step (by repeat (first | (with_reducible first | exact HB.out | apply below_alloc | apply pw_below_drewN | apply below_drew1 | refine below_set ?_ GE203.out) | exact HB.out)) hb);have n2_:=Aside0.mk (hbox);have n3_:=Aside0.mk ((by rw [hg];exact (below_size (by repeat (first | (with_reducible first | exact HB.out | apply below_alloc | apply pw_below_drewN | apply below_drew1 | refine below_set ?_ GE203.out) | exact HB.out))) : w.heap.size ≤ gb204));have n4_:=Aside0.mk ((by rw [hg];exact (below_size (by repeat (first | (with_reducible first | exact HB.out | apply below_alloc | apply pw_below_drewN | apply below_drew1 | refine below_set ?_ GE203.out) | exact HB.out))) : w.heap.size ≤ gb204));have n5_:=Aside0.mk ((by rw [hg];exact Nat.ne_of_lt (blk_lt (g:=gb203) (o:=.cells #[.int .i64 a0_0, .int .i64 a0_1, .string a0_2, .int .i64 a0_3] 37 (0, 0)) (by (with_reducible repeat (first | refine blk_drewN ?_ _ | refine blk_drew ?_ | refine blk_alloc ?_ _));exact BK203.out)) : gb203 ≠ gb204));have n6_:=Aside0.mk ((by rw [hg];exact Nat.ne_of_gt (blk_lt (g:=gb203) (o:=.cells #[.int .i64 a0_0, .int .i64 a0_1, .string a0_2, .int .i64 a0_3] 37 (0, 0)) (by (with_reducible repeat (first | refine blk_drewN ?_ _ | refine blk_drew ?_ | refine blk_alloc ?_ _));exact BK203.out)) : gb204 ≠ gb203));clear BK203 HB;have BK203:=n0_;have HB:=n1_;have BK204:=n2_;have GW204:=n3_;have GE204:=n4_;have NB203_204:=n5_;have NB204_203:=n6_;clear n0_ n1_ n2_ n3_ n4_ n5_ n6_ hb hbox hg;have hnb11:=NB203_204.out;have hnc11:=NB204_203.out;have hcz12_0 : w10.cell? ⟨gb203, 0, none⟩ = some (.int .i64 a0_0):=(blk_cell BK203.out 0).trans rfl;have hcz12_1 : w10.cell? ⟨gb203, 1, none⟩ = some (.int .i64 a0_1):=(blk_cell BK203.out 1).trans rfl;have hcz12_2 : w10.cell? ⟨gb203, 2, none⟩ = some (.string a0_2):=(blk_cell BK203.out 2).trans rfl;have hcz12_3 : w10.cell? ⟨gb203, 3, none⟩ = some (.int .i64 a0_3):=(blk_cell BK203.out 3).trans rfl;have hfz12_0:=blk_frozen BK203.out 0;have hfz12_1:=blk_frozen BK203.out 1;have hfz12_2:=blk_frozen BK203.out 2;have hfz12_3:=blk_frozen BK203.out 3;have hcz13_0 : w10.cell? ⟨gb204, 0, none⟩ = some (.int .i64 a1_0):=(blk_cell BK204.out 0).trans rfl;have hcz13_1 : w10.cell? ⟨gb204, 1, none⟩ = some (.int .i64 a1_1):=(blk_cell BK204.out 1).trans rfl;have hcz13_2 : w10.cell? ⟨gb204, 2, none⟩ = some (.string a1_2):=(blk_cell BK204.out 2).trans rfl;have hcz13_3 : w10.cell? ⟨gb204, 3, none⟩ = some (.int .i64 a1_3):=(blk_cell BK204.out 3).trans rfl;have hfz13_0:=blk_frozen BK204.out 0;have hfz13_1:=blk_frozen BK204.out 1;have hfz13_2:=blk_frozen BK204.out 2;have hfz13_3:=blk_frozen BK204.out 3))
  go_ret
  exact ⟨by first | rfl | (simp [errW_none, errW_some] <;> rfl) | (simp [*, errW_none, errW_some] <;> rfl), by repeat (first | (with_reducible first | exact HB.out | apply below_alloc | apply pw_below_drewN | apply below_drew1 | refine below_set ?_ GE203.out | refine below_set ?_ GE204.out) | exact HB.out)⟩

end Go.Proofs.Ytfogpifjpnonnaa.PWaterfallTurns
