/- Laid for this claim by a program of this session's (wip/mkprint.py, wip/ext.py); not trusted: Lean checks it. -/
import Derived.Test.YtlkdilfheplmhaaPTopLossesx0
import Derived.Test.YtlkdilfheplmhaaPTopLossesx5
import Derived.Test.YtlkdilfheplmhaaPTopLossesx6
import Derived.Test.YtlkdilfheplmhaaPTopLossesx9
namespace Go.Proofs.Ytlkdilfheplmhaa.PTopLosses
open Go.RowKit Go.Proofs.YtlkdilfheplmhaaW.PrintWords Go.Proofs.YtlkdilfheplmhaaW.PrintLast Go.Proofs.YtlkdilfheplmhaaW.PrintMore
attribute [local go_sem] max2_int min2_int max_two min_two max_three min_three max_four min_four   -- for this text's walks alone
set_option linter.unusedVariables false
set_option linter.unusedSimpArgs false

/-! ### share_Capped: function 21 -/
mutual
def share_Capped.j0 : Nat → Int → List Int → List Int → Bool → Option (List Int × Int × Int)
 | 0, _, _, _, _=>none
 | k + 1, x0, x1, x2, x41=>if x41 = true then (some (([] : List Int), 0, 2)) else (if 0 ≤ (x1.length : Int) then (if ((x1.length : Int) : Int).toNat ≤ 35184372088832 then (share_Capped.l0 k x1 x2 (List.replicate ((x1.length : Int) : Int).toNat 0) x0) else (none)) else (none))
def share_Capped.l0 : Nat → List Int → List Int → List Int → Int → Option (List Int × Int × Int)
 | 0, _, _, _, _=>none
 | k + 1, x1, x2, x6, x9=>if x9 > 0 then (if 0 ≤ (x1.length : Int) then (if ((x1.length : Int) : Int).toNat ≤ 35184372088832 then (share_Capped.l1 k x1 x2 x6 x9 (List.replicate ((x1.length : Int) : Int).toNat 0) false x1 (x1.length : Int) 0) else (none)) else (none)) else (some (x6, x9, 0))
def share_Capped.l1 : Nat → List Int → List Int → List Int → Int → List Int → Bool → List Int → Int → Int → Option (List Int × Int × Int)
 | 0, _, _, _, _, _, _, _, _, _=>none
 | k + 1, x1, x2, x6, x9, x10, x11, x51, x52, x53=>if x53 < x52 then (if 0 ≤ x53 then (if x53 < (x51.length : Int) then (if (rd x51 x53) > 0 then (if x53 < (x6.length : Int) then (if x53 < (x2.length : Int) then (if (rd x6 x53) < (rd x2 x53) then (if x53 < (x10.length : Int) then (share_Capped.l1 k x1 x2 x6 x9 (x10.set (x53 : Int).toNat (rd x51 x53)) true x51 x52 (wrap64 (x53 + 1))) else (none)) else (share_Capped.l1 k x1 x2 x6 x9 x10 x11 x51 x52 (wrap64 (x53 + 1)))) else (none)) else (none)) else (share_Capped.l1 k x1 x2 x6 x9 x10 x11 x51 x52 (wrap64 (x53 + 1)))) else (none)) else (none)) else (if x11 = true then ((share_Split.f x9 x10).bind fun bt180=>(share_Capped.l2 k x1 x2 x6 x9 bt180.1 false bt180.1 (bt180.1.length : Int) 0)) else (some (x6, x9, 0)))
def share_Capped.l2 : Nat → List Int → List Int → List Int → Int → List Int → Bool → List Int → Int → Int → Option (List Int × Int × Int)
 | 0, _, _, _, _, _, _, _, _, _=>none
 | k + 1, x1, x2, x6, x9, x14, x16, x84, x85, x86=>if x86 < x85 then (if 0 ≤ x86 then (if x86 < (x84.length : Int) then (if x86 < (x2.length : Int) then (if (rd x84 x86) > (rd x2 x86) then (if x86 < (x6.length : Int) then (share_Capped.l2 k x1 x2 (x6.set (x86 : Int).toNat (rd x2 x86)) (wrap64 (x9 - (rd x2 x86))) x14 true x84 x85 (wrap64 (x86 + 1))) else (none)) else (share_Capped.l2 k x1 x2 x6 x9 x14 x16 x84 x85 (wrap64 (x86 + 1)))) else (none)) else (none)) else (none)) else (if x16 = true then (share_Capped.l0 k x1 x2 x6 x9) else (share_Capped.l3 k x1 x2 x6 x14 (x14.length : Int) 0))
def share_Capped.l3 : Nat → List Int → List Int → List Int → List Int → Int → Int → Option (List Int × Int × Int)
 | 0, _, _, _, _, _, _=>none
 | k + 1, x1, x2, x6, x112, x113, x114=>if x114 < x113 then (if 0 ≤ x114 then (if x114 < (x112.length : Int) then (if x114 < (x6.length : Int) then (share_Capped.l3 k x1 x2 (x6.set (x114 : Int).toNat (wrap64 ((rd x6 x114) + (rd x112 x114)))) x112 x113 (wrap64 (x114 + 1))) else (none)) else (none)) else (none)) else (share_Capped.l0 k x1 x2 x6 0)
end
def share_Capped.f (k : Nat) (a0 : Int) (l1 : List Int) (l2 : List Int) : Option (List Int × Int × Int):=(share_money.f a0).bind fun t166=>(if t166 = true then ((share_weighed.f k l1).bind fun bt167=>(if bt167.2 = 0 then (if (l2.length : Int) = (l1.length : Int) then ((share_capped.f k l2).bind fun t169=>(share_Capped.j0 k a0 l1 l2 (!t169))) else (share_Capped.j0 k a0 l1 l2 true)) else (some (([] : List Int), 0, bt167.2)))) else (some (([] : List Int), 0, 2)))
theorem share_Capped.mono_l : ∀ k, (∀ y0 y1 y2 y3, LeO (share_Capped.j0 k y0 y1 y2 y3) (share_Capped.j0 (k + 1) y0 y1 y2 y3)) ∧ (∀ y0 y1 y2 y3, LeO (share_Capped.l0 k y0 y1 y2 y3) (share_Capped.l0 (k + 1) y0 y1 y2 y3)) ∧ (∀ y0 y1 y2 y3 y4 y5 y6 y7 y8, LeO (share_Capped.l1 k y0 y1 y2 y3 y4 y5 y6 y7 y8) (share_Capped.l1 (k + 1) y0 y1 y2 y3 y4 y5 y6 y7 y8)) ∧ (∀ y0 y1 y2 y3 y4 y5 y6 y7 y8, LeO (share_Capped.l2 k y0 y1 y2 y3 y4 y5 y6 y7 y8) (share_Capped.l2 (k + 1) y0 y1 y2 y3 y4 y5 y6 y7 y8)) ∧ (∀ y0 y1 y2 y3 y4 y5, LeO (share_Capped.l3 k y0 y1 y2 y3 y4 y5) (share_Capped.l3 (k + 1) y0 y1 y2 y3 y4 y5))
 | 0=>⟨fun _ _ _ _ r h=>by simp [share_Capped.j0] at h, fun _ _ _ _ r h=>by simp [share_Capped.l0] at h, fun _ _ _ _ _ _ _ _ _ r h=>by simp [share_Capped.l1] at h, fun _ _ _ _ _ _ _ _ _ r h=>by simp [share_Capped.l2] at h, fun _ _ _ _ _ _ r h=>by simp [share_Capped.l3] at h⟩
 | k + 1=>by
  obtain ⟨ih0, ih1, ih2, ih3, ih4⟩:=share_Capped.mono_l k
  refine ⟨?_, ?_, ?_, ?_, ?_⟩
  ·intro y0 y1 y2 y3
   unfold share_Capped.j0
   repeat' first
   | (with_reducible exact ih0 _ _ _ _)
   | (with_reducible exact ih1 _ _ _ _)
   | (with_reducible exact ih2 _ _ _ _ _ _ _ _ _)
   | (with_reducible exact ih3 _ _ _ _ _ _ _ _ _)
   | (with_reducible exact ih4 _ _ _ _ _ _)
   | (with_reducible exact share_capped.mono _ _)
   | (with_reducible exact share_weighed.mono _ _)
   | (with_reducible exact LeO.refl _)
   | (with_reducible exact LeO.none _)
   | (with_reducible refine LeO.ite ?_ ?_)
   | (with_reducible refine LeO.bind ?_ (fun _=>?_))
   | exact ih0 _ _ _ _
   | exact ih1 _ _ _ _
   | exact ih2 _ _ _ _ _ _ _ _ _
   | exact ih3 _ _ _ _ _ _ _ _ _
   | exact ih4 _ _ _ _ _ _
   | exact share_capped.mono _ _
   | exact share_weighed.mono _ _
   | exact LeO.none _
   | refine LeO.ite ?_ ?_
   | refine LeO.bind ?_ (fun _=>?_)
  ·intro y0 y1 y2 y3
   unfold share_Capped.l0
   repeat' first
   | (with_reducible exact ih0 _ _ _ _)
   | (with_reducible exact ih1 _ _ _ _)
   | (with_reducible exact ih2 _ _ _ _ _ _ _ _ _)
   | (with_reducible exact ih3 _ _ _ _ _ _ _ _ _)
   | (with_reducible exact ih4 _ _ _ _ _ _)
   | (with_reducible exact share_capped.mono _ _)
   | (with_reducible exact share_weighed.mono _ _)
   | (with_reducible exact LeO.refl _)
   | (with_reducible exact LeO.none _)
   | (with_reducible refine LeO.ite ?_ ?_)
   | (with_reducible refine LeO.bind ?_ (fun _=>?_))
   | exact ih0 _ _ _ _
   | exact ih1 _ _ _ _
   | exact ih2 _ _ _ _ _ _ _ _ _
   | exact ih3 _ _ _ _ _ _ _ _ _
   | exact ih4 _ _ _ _ _ _
   | exact share_capped.mono _ _
   | exact share_weighed.mono _ _
   | exact LeO.none _
   | refine LeO.ite ?_ ?_
   | refine LeO.bind ?_ (fun _=>?_)
  ·intro y0 y1 y2 y3 y4 y5 y6 y7 y8
   unfold share_Capped.l1
   repeat' first
   | (with_reducible exact ih0 _ _ _ _)
   | (with_reducible exact ih1 _ _ _ _)
   | (with_reducible exact ih2 _ _ _ _ _ _ _ _ _)
   | (with_reducible exact ih3 _ _ _ _ _ _ _ _ _)
   | (with_reducible exact ih4 _ _ _ _ _ _)
   | (with_reducible exact share_capped.mono _ _)
   | (with_reducible exact share_weighed.mono _ _)
   | (with_reducible exact LeO.refl _)
   | (with_reducible exact LeO.none _)
   | (with_reducible refine LeO.ite ?_ ?_)
   | (with_reducible refine LeO.bind ?_ (fun _=>?_))
   | exact ih0 _ _ _ _
   | exact ih1 _ _ _ _
   | exact ih2 _ _ _ _ _ _ _ _ _
   | exact ih3 _ _ _ _ _ _ _ _ _
   | exact ih4 _ _ _ _ _ _
   | exact share_capped.mono _ _
   | exact share_weighed.mono _ _
   | exact LeO.none _
   | refine LeO.ite ?_ ?_
   | refine LeO.bind ?_ (fun _=>?_)
  ·intro y0 y1 y2 y3 y4 y5 y6 y7 y8
   unfold share_Capped.l2
   repeat' first
   | (with_reducible exact ih0 _ _ _ _)
   | (with_reducible exact ih1 _ _ _ _)
   | (with_reducible exact ih2 _ _ _ _ _ _ _ _ _)
   | (with_reducible exact ih3 _ _ _ _ _ _ _ _ _)
   | (with_reducible exact ih4 _ _ _ _ _ _)
   | (with_reducible exact share_capped.mono _ _)
   | (with_reducible exact share_weighed.mono _ _)
   | (with_reducible exact LeO.refl _)
   | (with_reducible exact LeO.none _)
   | (with_reducible refine LeO.ite ?_ ?_)
   | (with_reducible refine LeO.bind ?_ (fun _=>?_))
   | exact ih0 _ _ _ _
   | exact ih1 _ _ _ _
   | exact ih2 _ _ _ _ _ _ _ _ _
   | exact ih3 _ _ _ _ _ _ _ _ _
   | exact ih4 _ _ _ _ _ _
   | exact share_capped.mono _ _
   | exact share_weighed.mono _ _
   | exact LeO.none _
   | refine LeO.ite ?_ ?_
   | refine LeO.bind ?_ (fun _=>?_)
  ·intro y0 y1 y2 y3 y4 y5
   unfold share_Capped.l3
   repeat' first
   | (with_reducible exact ih0 _ _ _ _)
   | (with_reducible exact ih1 _ _ _ _)
   | (with_reducible exact ih2 _ _ _ _ _ _ _ _ _)
   | (with_reducible exact ih3 _ _ _ _ _ _ _ _ _)
   | (with_reducible exact ih4 _ _ _ _ _ _)
   | (with_reducible exact share_capped.mono _ _)
   | (with_reducible exact share_weighed.mono _ _)
   | (with_reducible exact LeO.refl _)
   | (with_reducible exact LeO.none _)
   | (with_reducible refine LeO.ite ?_ ?_)
   | (with_reducible refine LeO.bind ?_ (fun _=>?_))
   | exact ih0 _ _ _ _
   | exact ih1 _ _ _ _
   | exact ih2 _ _ _ _ _ _ _ _ _
   | exact ih3 _ _ _ _ _ _ _ _ _
   | exact ih4 _ _ _ _ _ _
   | exact share_capped.mono _ _
   | exact share_weighed.mono _ _
   | exact LeO.none _
   | refine LeO.ite ?_ ?_
   | refine LeO.bind ?_ (fun _=>?_)
theorem share_Capped.mono : ∀ a0 a1 a2 k, LeO (share_Capped.f k a0 a1 a2) (share_Capped.f (k + 1) a0 a1 a2):=by
 intro a0 a1 a2 k
 obtain ⟨ih0, ih1, ih2, ih3, ih4⟩:=share_Capped.mono_l k
 unfold share_Capped.f
 repeat' first
   | (with_reducible exact ih0 _ _ _ _)
   | (with_reducible exact ih1 _ _ _ _)
   | (with_reducible exact ih2 _ _ _ _ _ _ _ _ _)
   | (with_reducible exact ih3 _ _ _ _ _ _ _ _ _)
   | (with_reducible exact ih4 _ _ _ _ _ _)
   | (with_reducible exact share_capped.mono _ _)
   | (with_reducible exact share_weighed.mono _ _)
   | (with_reducible exact LeO.refl _)
   | (with_reducible exact LeO.none _)
   | (with_reducible refine LeO.ite ?_ ?_)
   | (with_reducible refine LeO.bind ?_ (fun _=>?_))
   | exact ih0 _ _ _ _
   | exact ih1 _ _ _ _
   | exact ih2 _ _ _ _ _ _ _ _ _
   | exact ih3 _ _ _ _ _ _ _ _ _
   | exact ih4 _ _ _ _ _ _
   | exact share_capped.mono _ _
   | exact share_weighed.mono _ _
   | exact LeO.none _
   | refine LeO.ite ?_ ?_
   | refine LeO.bind ?_ (fun _=>?_)
set_option maxHeartbeats 8000000 in
set_option maxRecDepth 100000 in
theorem share_Capped.calls (k : Nat) (a0 : Int) (A1 : Option Addr) (c1 : Nat) (l1 : List Int) (A2 : Option Addr) (c2 : Nat) (l2 : List Int) (r1 : List Int) (r2 : Int) (r3 : Int) (w : World) (hr1 : Kd.C (Kd.int .i64) w A1 l1.length l1) (hc1 : l1.length ≤ c1) (hr2 : Kd.C (Kd.int .i64) w A2 l2.length l2) (hc2 : l2.length ≤ c2) (h : share_Capped.f k a0 l1 l2 = some (r1, r2, r3)) :
  Calls Try.prog 21 #[.int .i64 a0, .slice A1 l1.length c1, .slice A2 l2.length c2] w fun e w'=>∃ v0_ : Value, e = .returned (.tuple #[v0_, .int .i64 r2, .int .i64 r3]) ∧ Kd.R (Kd.int .i64) 3 w' w.heap.size (fun _=>True) v0_ r1 ∧ Below w.heap.size w w':=by
 have HR1:=Aside0.mk hr1
 have HC1:=Aside0.mk hc1
 clear hr1 hc1
 have HR2:=Aside0.mk hr2
 have HC2:=Aside0.mk hc2
 clear hr2 hc2
 have HB:=Aside0.mk (Below.refl w.heap.size w)
 have H : ((share_money.f a0).bind fun t166=>(if t166 = true then ((share_weighed.f k l1).bind fun bt167=>(if bt167.2 = 0 then (if (l2.length : Int) = (l1.length : Int) then ((share_capped.f k l2).bind fun t169=>(share_Capped.j0 k a0 l1 l2 (!t169))) else (share_Capped.j0 k a0 l1 l2 true)) else (some (([] : List Int), 0, bt167.2)))) else (some (([] : List Int), 0, 2)))) = some (r1, r2, r3):=h
 clear h
 replace H:=Option.bind_eq_some_iff.mp H
 obtain ⟨t166, A40, H⟩:=H
 replace H : (if t166 = true then ((share_weighed.f k l1).bind fun bt167=>(if bt167.2 = 0 then (if (l2.length : Int) = (l1.length : Int) then ((share_capped.f k l2).bind fun t169=>(share_Capped.j0 k a0 l1 l2 (!t169))) else (share_Capped.j0 k a0 l1 l2 true)) else (some (([] : List Int), 0, bt167.2)))) else (some (([] : List Int), 0, 2))) = some (r1, r2, r3):=H
 have A4:=Aside0.mk A40
 clear A40
 by_cases c5 : t166 = true
 ·subst c5
  have H1 : ((share_weighed.f k l1).bind fun bt167=>(if bt167.2 = 0 then (if (l2.length : Int) = (l1.length : Int) then ((share_capped.f k l2).bind fun t169=>(share_Capped.j0 k a0 l1 l2 (!t169))) else (share_Capped.j0 k a0 l1 l2 true)) else (some (([] : List Int), 0, bt167.2)))) = some (r1, r2, r3):=by rw [if_pos rfl] at H;exact H
  clear H
  have H:=H1
  clear H1
  replace H:=Option.bind_eq_some_iff.mp H
  obtain ⟨⟨t167, t168⟩, A60, H⟩:=H
  replace H : (if t168 = 0 then (if (l2.length : Int) = (l1.length : Int) then ((share_capped.f k l2).bind fun t169=>(share_Capped.j0 k a0 l1 l2 (!t169))) else (share_Capped.j0 k a0 l1 l2 true)) else (some (([] : List Int), 0, t168))) = some (r1, r2, r3):=H
  have A6:=Aside0.mk A60
  clear A60
  by_cases c7 : t168 = 0
  ·rw [if_pos c7] at H
   have c7b0 : (t168 == 0) = true:=beq_iff_eq.mpr c7
   have c7b1 : (t168 != 0) = false:=bne_eq_false_iff_eq.mpr c7
   clear c7
   have HC8:=Aside0.mk H
   clear H
   go_enter Try.func21, Try.ntmps21
   go_upto_region 6 with (first | (go_at_call 29;(with_reducible refine (share_money.calls a0 true _ A4.out).mono ?_);rintro e w' ⟨rfl, ⟨nd, rfl⟩⟩;(try first | exact ⟨rfl, _, World.drewN_drewN _ _ _⟩ | exact ⟨rfl, _, Eq.trans (World.drewN_drewN _ _ _) (congrArg (World.drewN _) (Nat.add_assoc _ _ _))⟩)) | (go_at_call 30;(with_reducible refine (share_weighed.calls k _ _ l1 t167 t168 _ ?side1 ?side2 A6.out).mono ?_);(case side1=>repeat (first | exact HR1.out | (with_reducible refine Kd.C_alloc ?_ _) | (with_reducible refine Kd.C_drewN ?_ _) | (with_reducible refine Kd.C_drew ?_)));(case side2=>exact HC1.out);rintro e w' ⟨rfl, ⟨nd, rfl⟩⟩;(try first | exact ⟨rfl, _, World.drewN_drewN _ _ _⟩ | exact ⟨rfl, _, Eq.trans (World.drewN_drewN _ _ _) (congrArg (World.drewN _) (Nat.add_assoc _ _ _))⟩)))
   repeat (go_quiet (first | (go_at_call 29;(with_reducible refine (share_money.calls a0 true _ A4.out).mono ?_);rintro e w' ⟨rfl, ⟨nd, rfl⟩⟩;(try first | exact ⟨rfl, _, World.drewN_drewN _ _ _⟩ | exact ⟨rfl, _, Eq.trans (World.drewN_drewN _ _ _) (congrArg (World.drewN _) (Nat.add_assoc _ _ _))⟩)) | (go_at_call 30;(with_reducible refine (share_weighed.calls k _ _ l1 t167 t168 _ ?side1 ?side2 A6.out).mono ?_);(case side1=>repeat (first | exact HR1.out | (with_reducible refine Kd.C_alloc ?_ _) | (with_reducible refine Kd.C_drewN ?_ _) | (with_reducible refine Kd.C_drew ?_)));(case side2=>exact HC1.out);rintro e w' ⟨rfl, ⟨nd, rfl⟩⟩;(try first | exact ⟨rfl, _, World.drewN_drewN _ _ _⟩ | exact ⟨rfl, _, Eq.trans (World.drewN_drewN _ _ _) (congrArg (World.drewN _) (Nat.add_assoc _ _ _))⟩)));go_upto_region 6 with (first | (go_at_call 29;(with_reducible refine (share_money.calls a0 true _ A4.out).mono ?_);rintro e w' ⟨rfl, ⟨nd, rfl⟩⟩;(try first | exact ⟨rfl, _, World.drewN_drewN _ _ _⟩ | exact ⟨rfl, _, Eq.trans (World.drewN_drewN _ _ _) (congrArg (World.drewN _) (Nat.add_assoc _ _ _))⟩)) | (go_at_call 30;(with_reducible refine (share_weighed.calls k _ _ l1 t167 t168 _ ?side1 ?side2 A6.out).mono ?_);(case side1=>repeat (first | exact HR1.out | (with_reducible refine Kd.C_alloc ?_ _) | (with_reducible refine Kd.C_drewN ?_ _) | (with_reducible refine Kd.C_drew ?_)));(case side2=>exact HC1.out);rintro e w' ⟨rfl, ⟨nd, rfl⟩⟩;(try first | exact ⟨rfl, _, World.drewN_drewN _ _ _⟩ | exact ⟨rfl, _, Eq.trans (World.drewN_drewN _ _ _) (congrArg (World.drewN _) (Nat.add_assoc _ _ _))⟩))))
   (try simp only [Act.put, List.setIfInBounds_toArray, List.set_cons_zero, List.set_cons_succ])
   go_cut [41] (fun v41 wc=>∃ (kq : Nat) (x41_7 : Bool), v41 = .bool x41_7 ∧ Aside0 (share_Capped.j0 kq a0 l1 l2 x41_7 = some (r1, r2, r3)) ∧ Aside0 (kq ≤ k) ∧ Aside0 (Below w.heap.size w wc))
   case first =>
    have H:=HC8.out
    clear HC8
    by_cases c9 : (l2.length : Int) = (l1.length : Int)
    ·rw [if_pos c9] at H
     have c9b0 : ((l2.length : Int) == (l1.length : Int)) = true:=beq_iff_eq.mpr c9
     have c9b1 : ((l2.length : Int) != (l1.length : Int)) = false:=bne_eq_false_iff_eq.mpr c9
     have c9b2 : (l2.length == l1.length) = true:=by first | simpa using c9 | (simp at c9 ⊢;omega)
     clear c9
     (first | rw [c9b0] | (simp only [i64_w, i32_w];rw [c9b0]) | rw [c9b1] | rw [c9b2] | skip)
     replace H:=Option.bind_eq_some_iff.mp H
     obtain ⟨t169, A100, H⟩:=H
     replace H : (share_Capped.j0 k a0 l1 l2 (!t169)) = some (r1, r2, r3):=H
     have A10:=Aside0.mk A100
     clear A100
     have H':=Aside0.mk H
     clear H
     go_wp2_with (first | (go_at_call 31;(with_reducible refine (share_capped.calls k _ _ l2 t169 _ ?side1 ?side2 A10.out).mono ?_);(case side1=>repeat (first | exact (Kd.C_below HR2.out HB.out) | (with_reducible refine Kd.C_alloc ?_ _) | (with_reducible refine Kd.C_drewN ?_ _) | (with_reducible refine Kd.C_drew ?_)));(case side2=>exact HC2.out);rintro e w' ⟨rfl, ⟨nd, rfl⟩⟩;(try first | exact ⟨rfl, _, World.drewN_drewN _ _ _⟩ | exact ⟨rfl, _, Eq.trans (World.drewN_drewN _ _ _) (congrArg (World.drewN _) (Nat.add_assoc _ _ _))⟩)))
     repeat (go_quiet (first | (go_at_call 31;(with_reducible refine (share_capped.calls k _ _ l2 t169 _ ?side1 ?side2 A10.out).mono ?_);(case side1=>repeat (first | exact (Kd.C_below HR2.out HB.out) | (with_reducible refine Kd.C_alloc ?_ _) | (with_reducible refine Kd.C_drewN ?_ _) | (with_reducible refine Kd.C_drew ?_)));(case side2=>exact HC2.out);rintro e w' ⟨rfl, ⟨nd, rfl⟩⟩;(try first | exact ⟨rfl, _, World.drewN_drewN _ _ _⟩ | exact ⟨rfl, _, Eq.trans (World.drewN_drewN _ _ _) (congrArg (World.drewN _) (Nat.add_assoc _ _ _))⟩)));try go_wp2_with (first | (go_at_call 31;(with_reducible refine (share_capped.calls k _ _ l2 t169 _ ?side1 ?side2 A10.out).mono ?_);(case side1=>repeat (first | exact (Kd.C_below HR2.out HB.out) | (with_reducible refine Kd.C_alloc ?_ _) | (with_reducible refine Kd.C_drewN ?_ _) | (with_reducible refine Kd.C_drew ?_)));(case side2=>exact HC2.out);rintro e w' ⟨rfl, ⟨nd, rfl⟩⟩;(try first | exact ⟨rfl, _, World.drewN_drewN _ _ _⟩ | exact ⟨rfl, _, Eq.trans (World.drewN_drewN _ _ _) (congrArg (World.drewN _) (Nat.add_assoc _ _ _))⟩))))
     go_meet
     case rel=>exact ⟨_, (!t169), (by first | rfl | (simp;done) | (simp [*];done)), H', ⟨by first | omega | exact Nat.le_refl _⟩, ⟨by repeat (first | (with_reducible first | exact HB.out | apply below_alloc | apply pw_below_drewN | apply below_drew1) | exact HB.out)⟩⟩
    ·rw [if_neg c9] at H
     have c9b0 : ((l2.length : Int) == (l1.length : Int)) = false:=beq_eq_false_iff_ne.mpr c9
     have c9b1 : ((l2.length : Int) != (l1.length : Int)) = true:=bne_iff_ne.mpr c9
     have c9b2 : (l2.length == l1.length) = false:=by first | simpa using c9 | (simp at c9 ⊢;omega)
     (first | rw [c9b0] | (simp only [i64_w, i32_w];rw [c9b0]) | rw [c9b1] | rw [c9b2] | skip)
     have H':=Aside0.mk H
     clear H
     go_wp2
     repeat (go_quiet (fail);try go_wp2)
     go_meet
     case rel=>exact ⟨_, (true), (by first | rfl | (simp;done) | (simp [*];done)), H', ⟨by first | omega | exact Nat.le_refl _⟩, ⟨by repeat (first | (with_reducible first | exact HB.out | apply below_alloc | apply pw_below_drewN | apply below_drew1) | exact HB.out)⟩⟩
   case rest =>
    clear HC8
    try clear c1
    try clear c2
    try clear p2
    try clear c5
    try clear c7
    try clear c7b0
    try clear c7b1
    try clear c9
    try clear c9b0
    try clear c9b1
    try clear c9b2
    obtain ⟨kq, x41_7, rfl, HA, HJ7, HB⟩:=hcut
    cases kq with
    | zero=>exact absurd HA.out (by simp [share_Capped.j0])
    | succ kj7 =>
     have H:=HA.out
     clear HA
     simp only [share_Capped.j0] at H
     by_cases c11 : x41_7 = true
     ·subst c11
      have H1 : (some (([] : List Int), 0, 2)) = some (r1, r2, r3):=by rw [if_pos rfl] at H;exact H
      clear H
      have H:=H1
      clear H1
      simp only [Option.some.injEq, Prod.mk.injEq] at H
      obtain ⟨rfl, rfl, rfl⟩:=H
      go_wp2
      repeat (go_quiet (fail);try go_wp2)
      go_ret3
      exact ⟨_, by first | rfl | (simp [errW_none, errW_some] <;> rfl) | (simp [*, errW_none, errW_some] <;> rfl), by first | exact Kd.R_nil _ _ _ _ _ | exact Kd.N_nil _ _ _ _ _ | exact Kd.V_nil _ _ _ _ _ | exact Kd.Q_nil _ _ _ _ _ | exact Kd.S_nil _ _ _ _ _, by repeat (first | (with_reducible first | exact HB.out | apply below_alloc | apply pw_below_drewN | apply below_drew1) | exact HB.out)⟩
     ·replace c11:=Bool.eq_false_iff.mpr c11
      subst c11
      have H1 : (if 0 ≤ (l1.length : Int) then (if ((l1.length : Int) : Int).toNat ≤ 35184372088832 then (share_Capped.l0 kj7 l1 l2 (List.replicate ((l1.length : Int) : Int).toNat 0) a0) else (none)) else (none)) = some (r1, r2, r3):=by rw [if_neg (show ¬ (false = true) by decide)] at H;exact H
      clear H
      have H:=H1
      clear H1
      by_cases c12 : 0 ≤ (l1.length : Int)
      ·rw [if_pos c12] at H
       have c12b0:=eq_true c12
       have c12b1 : decide (0 ≤ (l1.length : Int)) = true:=decide_eq_true c12
       clear c12
       by_cases c13 : ((l1.length : Int) : Int).toNat ≤ 35184372088832
       ·rw [if_pos c13] at H
        have c13b0:=eq_true c13
        have c13b1 : decide (((l1.length : Int) : Int).toNat ≤ 35184372088832) = true:=decide_eq_true c13
        clear c13
        obtain ⟨y170, hy170⟩ : ∃ y_ : List Int, y_ = (List.replicate ((l1.length : Int) : Int).toNat 0):=⟨_, rfl⟩
        replace H : (share_Capped.l0 kj7 l1 l2 y170 a0) = some (r1, r2, r3):=by first | (rw [hy170];with_reducible exact H) | (have H2_:=(Option.bind_some _ _).symm.trans H;rw [hy170];with_reducible exact H2_) | (have H2_:=(Option.bind_some _ _).symm.trans H;with_reducible exact H2_) | with_reducible exact H | (rw [hy170];exact H) | exact H
        have Ny170:=Aside0.mk hy170
        clear hy170
        have H':=Aside0.mk H
        clear H
        go_wp2_with (first | ((with_reducible refine gate_dst (N:=44) rfl ?_);refine Kd.R_make (Kd.int .i64) _ 3 rfl (N:=44) rfl 26 _ _ rfl (l1.length : Int) rfl rfl Try.underlying26 (.int .i64 0) 8 info3 rfl (by decide) (by omega) 0 (ok:=fun _=>True) (okp:=fun _=>True) rfl (fun _ hk=>hk) trivial (of_decide_eq_true (by first | (with_reducible assumption) | assumption)) (Nat.le_trans (Nat.mul_le_mul_right _ (of_decide_eq_true (by first | (with_reducible assumption) | assumption) : (l1.length : Int).toNat ≤ 35184372088832)) (by omega)) (Below.refl _ _) (Nat.le_refl _) ?_;intro v171 w14 ho15 hb hg_ hnew_;clear hg_ hnew_;(first | rw [← Ny170.out] at ho15 | (simp only [Int.reduceToNat] at ho15;rw [← Ny170.out] at ho15));have n0_:=Aside0.mk (Kd.R_lower ho15 (below_size (by repeat (first | (with_reducible first | exact HB.out | apply below_alloc | apply pw_below_drewN | apply below_drew1) | exact HB.out))));have n1_:=Aside0.mk (below_step (by repeat (first | (with_reducible first | exact HB.out | apply below_alloc | apply pw_below_drewN | apply below_drew1) | exact HB.out)) hb);clear HB;have HO172:=n0_;have HB:=n1_;clear n0_ n1_ hb ho15))
        repeat (go_quiet (first | ((with_reducible refine gate_dst (N:=44) rfl ?_);refine Kd.R_make (Kd.int .i64) _ 3 rfl (N:=44) rfl 26 _ _ rfl (l1.length : Int) rfl rfl Try.underlying26 (.int .i64 0) 8 info3 rfl (by decide) (by omega) 0 (ok:=fun _=>True) (okp:=fun _=>True) rfl (fun _ hk=>hk) trivial (of_decide_eq_true (by first | (with_reducible assumption) | assumption)) (Nat.le_trans (Nat.mul_le_mul_right _ (of_decide_eq_true (by first | (with_reducible assumption) | assumption) : (l1.length : Int).toNat ≤ 35184372088832)) (by omega)) (Below.refl _ _) (Nat.le_refl _) ?_;intro v171 w14 ho15 hb hg_ hnew_;clear hg_ hnew_;(first | rw [← Ny170.out] at ho15 | (simp only [Int.reduceToNat] at ho15;rw [← Ny170.out] at ho15));have n0_:=Aside0.mk (Kd.R_lower ho15 (below_size (by repeat (first | (with_reducible first | exact HB.out | apply below_alloc | apply pw_below_drewN | apply below_drew1) | exact HB.out))));have n1_:=Aside0.mk (below_step (by repeat (first | (with_reducible first | exact HB.out | apply below_alloc | apply pw_below_drewN | apply below_drew1) | exact HB.out)) hb);clear HB;have HO172:=n0_;have HB:=n1_;clear n0_ n1_ hb ho15));try go_wp2_with (first | ((with_reducible refine gate_dst (N:=44) rfl ?_);refine Kd.R_make (Kd.int .i64) _ 3 rfl (N:=44) rfl 26 _ _ rfl (l1.length : Int) rfl rfl Try.underlying26 (.int .i64 0) 8 info3 rfl (by decide) (by omega) 0 (ok:=fun _=>True) (okp:=fun _=>True) rfl (fun _ hk=>hk) trivial (of_decide_eq_true (by first | (with_reducible assumption) | assumption)) (Nat.le_trans (Nat.mul_le_mul_right _ (of_decide_eq_true (by first | (with_reducible assumption) | assumption) : (l1.length : Int).toNat ≤ 35184372088832)) (by omega)) (Below.refl _ _) (Nat.le_refl _) ?_;intro v171 w14 ho15 hb hg_ hnew_;clear hg_ hnew_;(first | rw [← Ny170.out] at ho15 | (simp only [Int.reduceToNat] at ho15;rw [← Ny170.out] at ho15));have n0_:=Aside0.mk (Kd.R_lower ho15 (below_size (by repeat (first | (with_reducible first | exact HB.out | apply below_alloc | apply pw_below_drewN | apply below_drew1) | exact HB.out))));have n1_:=Aside0.mk (below_step (by repeat (first | (with_reducible first | exact HB.out | apply below_alloc | apply pw_below_drewN | apply below_drew1) | exact HB.out)) hb);clear HB;have HO172:=n0_;have HB:=n1_;clear n0_ n1_ hb ho15)))
        go_loopg [9] kj7 (fun kq v9 w'=>∃ (x6_2 : List Int) (x9_2 : Int), v9 = .int .i64 x9_2 ∧ Aside0 (share_Capped.l0 kq l1 l2 x6_2 x9_2 = some (r1, r2, r3)) ∧ Aside0 (kq ≤ kj7) ∧ Aside0 (Kd.R (Kd.int .i64) 3 w' w.heap.size (fun _=>True) v171 x6_2) ∧ Aside0 (Below w.heap.size w w'))
        case atStart=>exact ⟨(y170), (a0), (by first | rfl | (simp;done) | (simp [*];done)), H', ⟨Nat.le_refl _⟩, ⟨by (with_reducible repeat (first | apply Kd.R_alloc | apply Kd.R_drewN | apply Kd.R_drew));exact HO172.out⟩, ⟨by repeat (first | (with_reducible first | exact HB.out | apply below_alloc | apply pw_below_drewN | apply below_drew1) | exact HB.out)⟩⟩
        case round =>
         clear H'
         try clear c1
         try clear c2
         try clear p2
         try clear c5
         try clear c7
         try clear c7b0
         try clear c7b1
         try clear c9
         try clear c9b0
         try clear c9b1
         try clear c9b2
         try clear c11
         try clear c12
         try clear c12b0
         try clear c12b1
         try clear c13
         try clear c13b0
         try clear c13b1
         try clear p2
         obtain ⟨x6_2, x9_2, rfl, HA, HK2, HO_6, HB⟩:=hrel
         cases gk with
         | zero=>exact absurd HA.out (by simp [share_Capped.l0])
         | succ k2 =>
          have H:=HA.out
          clear HA
          simp only [share_Capped.l0] at H
          by_cases c16 : x9_2 > 0
          ·rw [if_pos c16] at H
           have c16b0 : decide (0 < x9_2) = true:=decide_eq_true c16
           clear c16
           by_cases c17 : 0 ≤ (l1.length : Int)
           ·rw [if_pos c17] at H
            have c17b0:=eq_true c17
            have c17b1 : decide (0 ≤ (l1.length : Int)) = true:=decide_eq_true c17
            clear c17
            by_cases c18 : ((l1.length : Int) : Int).toNat ≤ 35184372088832
            ·rw [if_pos c18] at H
             have c18b0:=eq_true c18
             have c18b1 : decide (((l1.length : Int) : Int).toNat ≤ 35184372088832) = true:=decide_eq_true c18
             clear c18
             obtain ⟨y173, hy173⟩ : ∃ y_ : List Int, y_ = (List.replicate ((l1.length : Int) : Int).toNat 0):=⟨_, rfl⟩
             replace H : (share_Capped.l1 k2 l1 l2 x6_2 x9_2 y173 false l1 (l1.length : Int) 0) = some (r1, r2, r3):=by first | (rw [hy173];with_reducible exact H) | (have H2_:=(Option.bind_some _ _).symm.trans H;rw [hy173];with_reducible exact H2_) | (have H2_:=(Option.bind_some _ _).symm.trans H;with_reducible exact H2_) | with_reducible exact H | (rw [hy173];exact H) | exact H
             have Ny173:=Aside0.mk hy173
             clear hy173
             have H':=Aside0.mk H
             clear H
             go_wp2_with (first | ((with_reducible refine gate_dst (N:=50) rfl ?_);refine Kd.R_make (Kd.int .i64) _ 3 rfl (N:=50) rfl 26 _ _ rfl (l1.length : Int) rfl rfl Try.underlying26 (.int .i64 0) 8 info3 rfl (by decide) (by omega) 0 (ok:=fun _=>True) (okp:=fun _=>True) rfl (fun _ hk=>hk) trivial (of_decide_eq_true (by first | (with_reducible assumption) | assumption)) (Nat.le_trans (Nat.mul_le_mul_right _ (of_decide_eq_true (by first | (with_reducible assumption) | assumption) : (l1.length : Int).toNat ≤ 35184372088832)) (by omega)) (Below.refl _ _) (Nat.le_refl _) ?_;intro v174 w19 ho20 hb hg_ hnew_;clear hg_ hnew_;(first | rw [← Ny173.out] at ho20 | (simp only [Int.reduceToNat] at ho20;rw [← Ny173.out] at ho20));have n0_:=Aside0.mk (Kd.R_elder' (by (with_reducible repeat (first | apply Kd.R_alloc | apply Kd.R_drewN | apply Kd.R_drew));exact HO_6.out) (Kd.R_base ho20) hb);have n1_:=Aside0.mk (Kd.R_lower (Kd.R_new' ho20 (Kd.R_lt (by (with_reducible repeat (first | apply Kd.R_alloc | apply Kd.R_drewN | apply Kd.R_drew));exact HO_6.out))) (below_size (by repeat (first | (with_reducible first | exact HB.out | apply below_alloc | apply pw_below_drewN | apply below_drew1) | exact HB.out))));have n2_:=Aside0.mk (below_step (by repeat (first | (with_reducible first | exact HB.out | apply below_alloc | apply pw_below_drewN | apply below_drew1) | exact HB.out)) hb);clear HO_6 HB;have HO_6:=n0_;have HO175:=n1_;have HB:=n2_;clear n0_ n1_ n2_ hb ho20))
             repeat (go_quiet (first | ((with_reducible refine gate_dst (N:=50) rfl ?_);refine Kd.R_make (Kd.int .i64) _ 3 rfl (N:=50) rfl 26 _ _ rfl (l1.length : Int) rfl rfl Try.underlying26 (.int .i64 0) 8 info3 rfl (by decide) (by omega) 0 (ok:=fun _=>True) (okp:=fun _=>True) rfl (fun _ hk=>hk) trivial (of_decide_eq_true (by first | (with_reducible assumption) | assumption)) (Nat.le_trans (Nat.mul_le_mul_right _ (of_decide_eq_true (by first | (with_reducible assumption) | assumption) : (l1.length : Int).toNat ≤ 35184372088832)) (by omega)) (Below.refl _ _) (Nat.le_refl _) ?_;intro v174 w19 ho20 hb hg_ hnew_;clear hg_ hnew_;(first | rw [← Ny173.out] at ho20 | (simp only [Int.reduceToNat] at ho20;rw [← Ny173.out] at ho20));have n0_:=Aside0.mk (Kd.R_elder' (by (with_reducible repeat (first | apply Kd.R_alloc | apply Kd.R_drewN | apply Kd.R_drew));exact HO_6.out) (Kd.R_base ho20) hb);have n1_:=Aside0.mk (Kd.R_lower (Kd.R_new' ho20 (Kd.R_lt (by (with_reducible repeat (first | apply Kd.R_alloc | apply Kd.R_drewN | apply Kd.R_drew));exact HO_6.out))) (below_size (by repeat (first | (with_reducible first | exact HB.out | apply below_alloc | apply pw_below_drewN | apply below_drew1) | exact HB.out))));have n2_:=Aside0.mk (below_step (by repeat (first | (with_reducible first | exact HB.out | apply below_alloc | apply pw_below_drewN | apply below_drew1) | exact HB.out)) hb);clear HO_6 HB;have HO_6:=n0_;have HO175:=n1_;have HB:=n2_;clear n0_ n1_ n2_ hb ho20));try go_wp2_with (first | ((with_reducible refine gate_dst (N:=50) rfl ?_);refine Kd.R_make (Kd.int .i64) _ 3 rfl (N:=50) rfl 26 _ _ rfl (l1.length : Int) rfl rfl Try.underlying26 (.int .i64 0) 8 info3 rfl (by decide) (by omega) 0 (ok:=fun _=>True) (okp:=fun _=>True) rfl (fun _ hk=>hk) trivial (of_decide_eq_true (by first | (with_reducible assumption) | assumption)) (Nat.le_trans (Nat.mul_le_mul_right _ (of_decide_eq_true (by first | (with_reducible assumption) | assumption) : (l1.length : Int).toNat ≤ 35184372088832)) (by omega)) (Below.refl _ _) (Nat.le_refl _) ?_;intro v174 w19 ho20 hb hg_ hnew_;clear hg_ hnew_;(first | rw [← Ny173.out] at ho20 | (simp only [Int.reduceToNat] at ho20;rw [← Ny173.out] at ho20));have n0_:=Aside0.mk (Kd.R_elder' (by (with_reducible repeat (first | apply Kd.R_alloc | apply Kd.R_drewN | apply Kd.R_drew));exact HO_6.out) (Kd.R_base ho20) hb);have n1_:=Aside0.mk (Kd.R_lower (Kd.R_new' ho20 (Kd.R_lt (by (with_reducible repeat (first | apply Kd.R_alloc | apply Kd.R_drewN | apply Kd.R_drew));exact HO_6.out))) (below_size (by repeat (first | (with_reducible first | exact HB.out | apply below_alloc | apply pw_below_drewN | apply below_drew1) | exact HB.out))));have n2_:=Aside0.mk (below_step (by repeat (first | (with_reducible first | exact HB.out | apply below_alloc | apply pw_below_drewN | apply below_drew1) | exact HB.out)) hb);clear HO_6 HB;have HO_6:=n0_;have HO175:=n1_;have HB:=n2_;clear n0_ n1_ n2_ hb ho20)))
             go_loopg [11, 53] k2 (fun kq v11 v53 w'=>∃ (x10_3 : List Int) (x11_3 : Bool) (x53_3 : Int), v11 = .bool x11_3 ∧ v53 = .int .i64 x53_3 ∧ Aside0 (share_Capped.l1 kq l1 l2 x6_2 x9_2 x10_3 x11_3 l1 (l1.length : Int) x53_3 = some (r1, r2, r3)) ∧ Aside0 (kq ≤ k2) ∧ Aside0 (Kd.R (Kd.int .i64) 3 w' w.heap.size (fun k_=>some k_ ≠ (v174 : Value).ownBlock) v171 x6_2) ∧ Aside0 (Kd.R (Kd.int .i64) 3 w' w.heap.size (fun k_=>some k_ ≠ (v171 : Value).ownBlock) v174 x10_3) ∧ Aside0 (Below w.heap.size w w'))
             case atStart=>exact ⟨(y173), (false), (0), (by first | rfl | (simp;done) | (simp [*];done)), (by first | rfl | (simp;done) | (simp [*];done)), H', ⟨Nat.le_refl _⟩, ⟨by (with_reducible repeat (first | apply Kd.R_alloc | apply Kd.R_drewN | apply Kd.R_drew));exact Kd.R_mono HO_6.out (fun _ hk=>hk.2)⟩, ⟨by (with_reducible repeat (first | apply Kd.R_alloc | apply Kd.R_drewN | apply Kd.R_drew));exact Kd.R_mono HO175.out (fun _ hk=>hk.2)⟩, ⟨by repeat (first | (with_reducible first | exact HB.out | apply below_alloc | apply pw_below_drewN | apply below_drew1) | exact HB.out)⟩⟩
             case round =>
              clear H'
              try clear c1
              try clear c2
              try clear p2
              try clear c5
              try clear c7
              try clear c7b0
              try clear c7b1
              try clear c9
              try clear c9b0
              try clear c9b1
              try clear c9b2
              try clear c11
              try clear c12
              try clear c12b0
              try clear c12b1
              try clear c13
              try clear c13b0
              try clear c13b1
              try clear c16
              try clear c16b0
              try clear c17
              try clear c17b0
              try clear c17b1
              try clear c18
              try clear c18b0
              try clear c18b1
              try clear p2
              obtain ⟨x10_3, x11_3, x53_3, rfl, rfl, HA, HK3, HO_6, HO_10, HB⟩:=hrel
              cases gk with
              | zero=>exact absurd HA.out (by simp [share_Capped.l1])
              | succ k3 =>
               have H:=HA.out
               clear HA
               simp only [share_Capped.l1] at H
               by_cases c21 : x53_3 < (l1.length : Int)
               ·rw [if_pos c21] at H
                have c21b0 : decide (x53_3 < (l1.length : Int)) = true:=decide_eq_true c21
                clear c21
                by_cases c22 : 0 ≤ x53_3
                ·rw [if_pos c22] at H
                 have c22b0 : decide (0 ≤ x53_3) = true:=decide_eq_true c22
                 clear c22
                 by_cases c23 : x53_3 < (l1.length : Int)
                 ·rw [if_pos c23] at H
                  have c23b0 : decide (x53_3 < (l1.length : Int)) = true:=decide_eq_true c23
                  clear c23
                  by_cases c24 : (rd l1 x53_3) > 0
                  ·rw [if_pos c24] at H
                   have c24b0 : decide (0 < (rd l1 x53_3)) = true:=decide_eq_true c24
                   clear c24
                   by_cases c25 : x53_3 < (x6_2.length : Int)
                   ·rw [if_pos c25] at H
                    have c25b0 : decide (x53_3 < (x6_2.length : Int)) = true:=decide_eq_true c25
                    clear c25
                    by_cases c26 : x53_3 < (l2.length : Int)
                    ·rw [if_pos c26] at H
                     have c26b0 : decide (x53_3 < (l2.length : Int)) = true:=decide_eq_true c26
                     clear c26
                     by_cases c27 : (rd x6_2 x53_3) < (rd l2 x53_3)
                     ·rw [if_pos c27] at H
                      have c27b0 : decide ((rd x6_2 x53_3) < (rd l2 x53_3)) = true:=decide_eq_true c27
                      clear c27
                      by_cases c28 : x53_3 < (x10_3.length : Int)
                      ·rw [if_pos c28] at H
                       have c28b0 : decide (x53_3 < (x10_3.length : Int)) = true:=decide_eq_true c28
                       clear c28
                       obtain ⟨y179, hy179⟩ : ∃ y_ : List Int, y_ = (x10_3.set (x53_3 : Int).toNat (rd l1 x53_3)):=⟨_, rfl⟩
                       replace H : (share_Capped.l1 k3 l1 l2 x6_2 x9_2 y179 true l1 (l1.length : Int) (wrap64 (x53_3 + 1))) = some (r1, r2, r3):=by first | (rw [hy179];with_reducible exact H) | (have H2_:=(Option.bind_some _ _).symm.trans H;rw [hy179];with_reducible exact H2_) | (have H2_:=(Option.bind_some _ _).symm.trans H;with_reducible exact H2_) | with_reducible exact H | (rw [hy179];exact H) | exact H
                       have Ny179:=Aside0.mk hy179
                       clear hy179
                       have H':=Aside0.mk H
                       clear H
                       have p176 : 0 ≤ (x53_3 : Int):=of_decide_eq_true (by first | (with_reducible assumption) | assumption)
                       have q176 : x53_3 < (l1.length : Int):=of_decide_eq_true (by first | (with_reducible assumption) | assumption)
                       obtain ⟨ad176, e176, hx176_0⟩:=Kd.at_int HR1.out x53_3 p176 q176
                       cases e176
                       replace hx176_0:=(HB.out.cell (World.block_lt_of_cell? w _ hx176_0)).trans hx176_0
                       replace p176:=eq_true p176
                       replace q176:=eq_true q176
                       obtain ⟨Ao30, co30, eo30⟩:=Kd.R_slice HO_6.out
                       subst eo30
                       have p177 : 0 ≤ (x53_3 : Int):=of_decide_eq_true (by first | (with_reducible assumption) | assumption)
                       have q177 : x53_3 < (x6_2.length : Int):=of_decide_eq_true (by first | (with_reducible assumption) | assumption)
                       obtain ⟨ad177, e177, hx177_0⟩:=Kd.at_int (Kd.R_reads' HO_6.out).2.2 x53_3 p177 q177
                       cases e177
                       replace p177:=eq_true p177
                       replace q177:=eq_true q177
                       have p178 : 0 ≤ (x53_3 : Int):=of_decide_eq_true (by first | (with_reducible assumption) | assumption)
                       have q178 : x53_3 < (l2.length : Int):=of_decide_eq_true (by first | (with_reducible assumption) | assumption)
                       obtain ⟨ad178, e178, hx178_0⟩:=Kd.at_int HR2.out x53_3 p178 q178
                       cases e178
                       replace hx178_0:=(HB.out.cell (World.block_lt_of_cell? w _ hx178_0)).trans hx178_0
                       replace p178:=eq_true p178
                       replace q178:=eq_true q178
                       have p29 : 0 ≤ (x53_3 : Int):=of_decide_eq_true (by first | (with_reducible assumption) | assumption)
                       have q29 : (x53_3 : Int) < ((x10_3.length : Int) : Int):=of_decide_eq_true (by first | (with_reducible assumption) | assumption)
                       obtain ⟨go29, co29, eo29, gb29, gl29, cl29, HG29⟩:=Kd.R_form HO_10.out (by omega)
                       (first | cases eo29 | (injection eo29 with ea_ en_ ec_;(first | subst ea_ | (injection ea_ with ea_;subst ea_));subst ec_;clear en_))
                       have GB29:=Aside0.mk gb29
                       have GG29:=Aside0.mk HG29
                       clear gb29 gl29 HG29
                       obtain ⟨hx29_0, hf29_0⟩:=Kd.R_celln 0 HO_10.out (x53_3 : Int) p29 q29
                       replace p29:=eq_true p29
                       replace q29:=eq_true q29
                       obtain ⟨hy31_, hz31_⟩:=Kd.R_celln 0 HO_10.out (x53_3 : Int) (of_decide_eq_true (by first | (with_reducible assumption) | assumption)) (of_decide_eq_true (by first | (with_reducible assumption) | assumption))
                       have HP31:=Kd.R_putg HO_10.out (x53_3 : Int) (rd l1 x53_3)
                       go_wp2_with (first | ((with_reducible refine gate_store (t:=3) (p:=74) rfl ?_);(try (rw [drewN_self wr];generalize hq_ : World.drewN wr _ = wr;have n0_:=Aside0.mk (Kd.R_at hq_ HO_6.out);have n1_:=Aside0.mk (Kd.R_at hq_ HO_10.out);have n2_:=Aside0.mk (below_at hq_ HB.out);clear hq_ HO_6 HO_10 HB;have HO_6:=n0_;have HO_10:=n1_;have HB:=n2_;clear n0_ n1_ n2_;(try (obtain ⟨hy31_, hz31_⟩:=Kd.R_celln 0 HO_10.out (x53_3 : Int) (of_decide_eq_true (by first | (with_reducible assumption) | assumption)) (of_decide_eq_true (by first | (with_reducible assumption) | assumption))));(try (have HP31:=Kd.R_putg HO_10.out (x53_3 : Int) (rd l1 x53_3)))));refine store_event (t:=3) (p:=74) (v:=?vo_w32) (w1:=(wr.setCell ⟨go29, (x53_3 : Int).toNat, none⟩ (.int .i64 (rd l1 x53_3)))) ?hg ?ho ?hn ?hr ?_;(case ho=>rfl);(case hg=>rfl);(case hn=>rfl);(case hr=>first | (go_simp;done) | (go_simp;rfl));intro w32 hw;have hg : wr.grownBy w32 (some go29):=(by rw [hw];exact HP31.2);have hp_ : Kd.R (Kd.int .i64) 3 w32 w.heap.size (fun k_=>some k_ ≠ (.slice (some ad177) x6_2.length co30 : Value).ownBlock) (.slice (some ⟨go29, 0, none⟩) x10_3.length co29) y179:=(by rw [hw, Ny179.out];exact HP31.1);clear HP31;have n0_:=Aside0.mk (Kd.R_after (v:=(.slice (some ⟨go29, 0, none⟩) x10_3.length co29)) (v1:=(.slice (some ⟨go29, 0, none⟩) x10_3.length co29)) (ok:=(fun _=>True)) (by (with_reducible repeat (first | apply Kd.R_alloc | apply Kd.R_drewN | apply Kd.R_drew));exact Kd.R_mono HO_6.out (fun _ hk=>⟨trivial, hk⟩)) hg (.inl rfl));have n1_:=Aside0.mk (hp_);have n2_:=Aside0.mk ((by rw [hw];exact below_set (HB.out) GB29.out : Below w.heap.size w w32));clear HO_6 HO_10 HB;have HO_6:=n0_;have HO_10:=n1_;have HB:=n2_;clear n0_ n1_ n2_ hg hw hp_))
                       repeat (go_quiet (first | ((with_reducible refine gate_store (t:=3) (p:=74) rfl ?_);(try (rw [drewN_self wr];generalize hq_ : World.drewN wr _ = wr;have n0_:=Aside0.mk (Kd.R_at hq_ HO_6.out);have n1_:=Aside0.mk (Kd.R_at hq_ HO_10.out);have n2_:=Aside0.mk (below_at hq_ HB.out);clear hq_ HO_6 HO_10 HB;have HO_6:=n0_;have HO_10:=n1_;have HB:=n2_;clear n0_ n1_ n2_;(try (obtain ⟨hy31_, hz31_⟩:=Kd.R_celln 0 HO_10.out (x53_3 : Int) (of_decide_eq_true (by first | (with_reducible assumption) | assumption)) (of_decide_eq_true (by first | (with_reducible assumption) | assumption))));(try (have HP31:=Kd.R_putg HO_10.out (x53_3 : Int) (rd l1 x53_3)))));refine store_event (t:=3) (p:=74) (v:=?vo_w32) (w1:=(wr.setCell ⟨go29, (x53_3 : Int).toNat, none⟩ (.int .i64 (rd l1 x53_3)))) ?hg ?ho ?hn ?hr ?_;(case ho=>rfl);(case hg=>rfl);(case hn=>rfl);(case hr=>first | (go_simp;done) | (go_simp;rfl));intro w32 hw;have hg : wr.grownBy w32 (some go29):=(by rw [hw];exact HP31.2);have hp_ : Kd.R (Kd.int .i64) 3 w32 w.heap.size (fun k_=>some k_ ≠ (.slice (some ad177) x6_2.length co30 : Value).ownBlock) (.slice (some ⟨go29, 0, none⟩) x10_3.length co29) y179:=(by rw [hw, Ny179.out];exact HP31.1);clear HP31;have n0_:=Aside0.mk (Kd.R_after (v:=(.slice (some ⟨go29, 0, none⟩) x10_3.length co29)) (v1:=(.slice (some ⟨go29, 0, none⟩) x10_3.length co29)) (ok:=(fun _=>True)) (by (with_reducible repeat (first | apply Kd.R_alloc | apply Kd.R_drewN | apply Kd.R_drew));exact Kd.R_mono HO_6.out (fun _ hk=>⟨trivial, hk⟩)) hg (.inl rfl));have n1_:=Aside0.mk (hp_);have n2_:=Aside0.mk ((by rw [hw];exact below_set (HB.out) GB29.out : Below w.heap.size w w32));clear HO_6 HO_10 HB;have HO_6:=n0_;have HO_10:=n1_;have HB:=n2_;clear n0_ n1_ n2_ hg hw hp_));try go_wp2_with (first | ((with_reducible refine gate_store (t:=3) (p:=74) rfl ?_);(try (rw [drewN_self wr];generalize hq_ : World.drewN wr _ = wr;have n0_:=Aside0.mk (Kd.R_at hq_ HO_6.out);have n1_:=Aside0.mk (Kd.R_at hq_ HO_10.out);have n2_:=Aside0.mk (below_at hq_ HB.out);clear hq_ HO_6 HO_10 HB;have HO_6:=n0_;have HO_10:=n1_;have HB:=n2_;clear n0_ n1_ n2_;(try (obtain ⟨hy31_, hz31_⟩:=Kd.R_celln 0 HO_10.out (x53_3 : Int) (of_decide_eq_true (by first | (with_reducible assumption) | assumption)) (of_decide_eq_true (by first | (with_reducible assumption) | assumption))));(try (have HP31:=Kd.R_putg HO_10.out (x53_3 : Int) (rd l1 x53_3)))));refine store_event (t:=3) (p:=74) (v:=?vo_w32) (w1:=(wr.setCell ⟨go29, (x53_3 : Int).toNat, none⟩ (.int .i64 (rd l1 x53_3)))) ?hg ?ho ?hn ?hr ?_;(case ho=>rfl);(case hg=>rfl);(case hn=>rfl);(case hr=>first | (go_simp;done) | (go_simp;rfl));intro w32 hw;have hg : wr.grownBy w32 (some go29):=(by rw [hw];exact HP31.2);have hp_ : Kd.R (Kd.int .i64) 3 w32 w.heap.size (fun k_=>some k_ ≠ (.slice (some ad177) x6_2.length co30 : Value).ownBlock) (.slice (some ⟨go29, 0, none⟩) x10_3.length co29) y179:=(by rw [hw, Ny179.out];exact HP31.1);clear HP31;have n0_:=Aside0.mk (Kd.R_after (v:=(.slice (some ⟨go29, 0, none⟩) x10_3.length co29)) (v1:=(.slice (some ⟨go29, 0, none⟩) x10_3.length co29)) (ok:=(fun _=>True)) (by (with_reducible repeat (first | apply Kd.R_alloc | apply Kd.R_drewN | apply Kd.R_drew));exact Kd.R_mono HO_6.out (fun _ hk=>⟨trivial, hk⟩)) hg (.inl rfl));have n1_:=Aside0.mk (hp_);have n2_:=Aside0.mk ((by rw [hw];exact below_set (HB.out) GB29.out : Below w.heap.size w w32));clear HO_6 HO_10 HB;have HO_6:=n0_;have HO_10:=n1_;have HB:=n2_;clear n0_ n1_ n2_ hg hw hp_)))
                       go_roundg k3
                       case measure=>have:=HJ7.out;have:=HK2.out;have:=HK3.out;omega
                       case rel=>exact ⟨(y179), (true), (wrap64 (x53_3 + 1)), (by first | rfl | (simp;done) | (simp [*];done)), (by first | rfl | (simp;done) | (simp [*];done)), H', ⟨by have:=HJ7.out;have:=HK2.out;have:=HK3.out;omega⟩, ⟨by (with_reducible repeat (first | apply Kd.R_alloc | apply Kd.R_drewN | apply Kd.R_drew));exact Kd.R_mono HO_6.out (fun _ hk=>hk.2)⟩, ⟨by (with_reducible repeat (first | apply Kd.R_alloc | apply Kd.R_drewN | apply Kd.R_drew));exact HO_10.out⟩, ⟨by repeat (first | (with_reducible first | exact HB.out | apply below_alloc | apply pw_below_drewN | apply below_drew1) | exact HB.out)⟩⟩
                      ·rw [if_neg c28] at H
                       exact absurd H (by simp)
                     ·rw [if_neg c27] at H
                      have c27b0 : decide ((rd x6_2 x53_3) < (rd l2 x53_3)) = false:=decide_eq_false c27
                      clear c27
                      have H':=Aside0.mk H
                      clear H
                      have p176 : 0 ≤ (x53_3 : Int):=of_decide_eq_true (by first | (with_reducible assumption) | assumption)
                      have q176 : x53_3 < (l1.length : Int):=of_decide_eq_true (by first | (with_reducible assumption) | assumption)
                      obtain ⟨ad176, e176, hx176_0⟩:=Kd.at_int HR1.out x53_3 p176 q176
                      cases e176
                      replace hx176_0:=(HB.out.cell (World.block_lt_of_cell? w _ hx176_0)).trans hx176_0
                      replace p176:=eq_true p176
                      replace q176:=eq_true q176
                      obtain ⟨Ao33, co33, eo33⟩:=Kd.R_slice HO_6.out
                      subst eo33
                      have p177 : 0 ≤ (x53_3 : Int):=of_decide_eq_true (by first | (with_reducible assumption) | assumption)
                      have q177 : x53_3 < (x6_2.length : Int):=of_decide_eq_true (by first | (with_reducible assumption) | assumption)
                      obtain ⟨ad177, e177, hx177_0⟩:=Kd.at_int (Kd.R_reads' HO_6.out).2.2 x53_3 p177 q177
                      cases e177
                      replace p177:=eq_true p177
                      replace q177:=eq_true q177
                      have p178 : 0 ≤ (x53_3 : Int):=of_decide_eq_true (by first | (with_reducible assumption) | assumption)
                      have q178 : x53_3 < (l2.length : Int):=of_decide_eq_true (by first | (with_reducible assumption) | assumption)
                      obtain ⟨ad178, e178, hx178_0⟩:=Kd.at_int HR2.out x53_3 p178 q178
                      cases e178
                      replace hx178_0:=(HB.out.cell (World.block_lt_of_cell? w _ hx178_0)).trans hx178_0
                      replace p178:=eq_true p178
                      replace q178:=eq_true q178
                      go_wp2
                      repeat (go_quiet (fail);try go_wp2)
                      go_roundg k3
                      case measure=>have:=HJ7.out;have:=HK2.out;have:=HK3.out;omega
                      case rel=>exact ⟨(x10_3), (x11_3), (wrap64 (x53_3 + 1)), (by first | rfl | (simp;done) | (simp [*];done)), (by first | rfl | (simp;done) | (simp [*];done)), H', ⟨by have:=HJ7.out;have:=HK2.out;have:=HK3.out;omega⟩, ⟨by (with_reducible repeat (first | apply Kd.R_alloc | apply Kd.R_drewN | apply Kd.R_drew));exact HO_6.out⟩, ⟨by (with_reducible repeat (first | apply Kd.R_alloc | apply Kd.R_drewN | apply Kd.R_drew));exact HO_10.out⟩, ⟨by repeat (first | (with_reducible first | exact HB.out | apply below_alloc | apply pw_below_drewN | apply below_drew1) | exact HB.out)⟩⟩
                    ·rw [if_neg c26] at H
                     exact absurd H (by simp)
                   ·rw [if_neg c25] at H
                    exact absurd H (by simp)
                  ·rw [if_neg c24] at H
                   have c24b0 : decide (0 < (rd l1 x53_3)) = false:=decide_eq_false c24
                   clear c24
                   have H':=Aside0.mk H
                   clear H
                   have p176 : 0 ≤ (x53_3 : Int):=of_decide_eq_true (by first | (with_reducible assumption) | assumption)
                   have q176 : x53_3 < (l1.length : Int):=of_decide_eq_true (by first | (with_reducible assumption) | assumption)
                   obtain ⟨ad176, e176, hx176_0⟩:=Kd.at_int HR1.out x53_3 p176 q176
                   cases e176
                   replace hx176_0:=(HB.out.cell (World.block_lt_of_cell? w _ hx176_0)).trans hx176_0
                   replace p176:=eq_true p176
                   replace q176:=eq_true q176
                   go_wp2
                   repeat (go_quiet (fail);try go_wp2)
                   go_roundg k3
                   case measure=>have:=HJ7.out;have:=HK2.out;have:=HK3.out;omega
                   case rel=>exact ⟨(x10_3), (x11_3), (wrap64 (x53_3 + 1)), (by first | rfl | (simp;done) | (simp [*];done)), (by first | rfl | (simp;done) | (simp [*];done)), H', ⟨by have:=HJ7.out;have:=HK2.out;have:=HK3.out;omega⟩, ⟨by (with_reducible repeat (first | apply Kd.R_alloc | apply Kd.R_drewN | apply Kd.R_drew));exact HO_6.out⟩, ⟨by (with_reducible repeat (first | apply Kd.R_alloc | apply Kd.R_drewN | apply Kd.R_drew));exact HO_10.out⟩, ⟨by repeat (first | (with_reducible first | exact HB.out | apply below_alloc | apply pw_below_drewN | apply below_drew1) | exact HB.out)⟩⟩
                 ·rw [if_neg c23] at H
                  exact absurd H (by simp)
                ·rw [if_neg c22] at H
                 exact absurd H (by simp)
               ·rw [if_neg c21] at H
                have c21b0 : decide (x53_3 < (l1.length : Int)) = false:=decide_eq_false c21
                clear c21
                by_cases c34 : x11_3 = true
                ·subst c34
                 have H1 : ((share_Split.f x9_2 x10_3).bind fun bt180=>(share_Capped.l2 k3 l1 l2 x6_2 x9_2 bt180.1 false bt180.1 (bt180.1.length : Int) 0)) = some (r1, r2, r3):=by rw [if_pos rfl] at H;exact H
                 clear H
                 have H:=H1
                 clear H1
                 replace H:=Option.bind_eq_some_iff.mp H
                 obtain ⟨⟨t180, t181⟩, A350, H⟩:=H
                 replace H : (share_Capped.l2 k3 l1 l2 x6_2 x9_2 t180 false t180 (t180.length : Int) 0) = some (r1, r2, r3):=H
                 have A35:=Aside0.mk A350
                 clear A350
                 have H':=Aside0.mk H
                 clear H
                 obtain ⟨Ao36, co36, eo36⟩:=Kd.R_slice HO_10.out
                 subst eo36
                 go_wp2_with (first | (go_at_call 27;(with_reducible refine (share_Split.calls x9_2 _ _ x10_3 t180 t181 _ ?side1 ?side2 A35.out).mono ?_);(case side1=>repeat (first | exact (Kd.R_reads' HO_10.out).2.2 | (with_reducible refine Kd.C_alloc ?_ _) | (with_reducible refine Kd.C_drewN ?_ _) | (with_reducible refine Kd.C_drew ?_)));(case side2=>exact (Kd.R_reads' HO_10.out).2.1);rintro e w37 ⟨v182, rfl, ho0, hb⟩;have n0_:=Aside0.mk (Kd.R_elder' (by (with_reducible repeat (first | apply Kd.R_alloc | apply Kd.R_drewN | apply Kd.R_drew));exact HO_6.out) (Kd.R_base ho0) hb);have n1_:=Aside0.mk (Kd.R_elder' (by (with_reducible repeat (first | apply Kd.R_alloc | apply Kd.R_drewN | apply Kd.R_drew));exact HO_10.out) (Kd.R_base ho0) hb);have n2_:=Aside0.mk (Kd.R_lower (Kd.R_new' (Kd.R_new' ho0 (Kd.R_lt (by (with_reducible repeat (first | apply Kd.R_alloc | apply Kd.R_drewN | apply Kd.R_drew));exact HO_6.out))) (Kd.R_lt (by (with_reducible repeat (first | apply Kd.R_alloc | apply Kd.R_drewN | apply Kd.R_drew));exact HO_10.out))) (below_size (by repeat (first | (with_reducible first | exact HB.out | apply below_alloc | apply pw_below_drewN | apply below_drew1) | exact HB.out))));have n3_:=Aside0.mk (below_step (by repeat (first | (with_reducible first | exact HB.out | apply below_alloc | apply pw_below_drewN | apply below_drew1) | exact HB.out)) hb);clear HO_6 HO_10 HB;have HO_6:=n0_;have HO_10:=n1_;have HO183:=n2_;have HB:=n3_;clear n0_ n1_ n2_ n3_;(try clear hb);(try clear hb2);(try clear hk);(try clear hi);(try clear ho0);obtain ⟨Ao38, co38, eo38⟩:=Kd.R_slice HO183.out;subst eo38))
                 repeat (go_quiet (first | (go_at_call 27;(with_reducible refine (share_Split.calls x9_2 _ _ x10_3 t180 t181 _ ?side1 ?side2 A35.out).mono ?_);(case side1=>repeat (first | exact (Kd.R_reads' HO_10.out).2.2 | (with_reducible refine Kd.C_alloc ?_ _) | (with_reducible refine Kd.C_drewN ?_ _) | (with_reducible refine Kd.C_drew ?_)));(case side2=>exact (Kd.R_reads' HO_10.out).2.1);rintro e w37 ⟨v182, rfl, ho0, hb⟩;have n0_:=Aside0.mk (Kd.R_elder' (by (with_reducible repeat (first | apply Kd.R_alloc | apply Kd.R_drewN | apply Kd.R_drew));exact HO_6.out) (Kd.R_base ho0) hb);have n1_:=Aside0.mk (Kd.R_elder' (by (with_reducible repeat (first | apply Kd.R_alloc | apply Kd.R_drewN | apply Kd.R_drew));exact HO_10.out) (Kd.R_base ho0) hb);have n2_:=Aside0.mk (Kd.R_lower (Kd.R_new' (Kd.R_new' ho0 (Kd.R_lt (by (with_reducible repeat (first | apply Kd.R_alloc | apply Kd.R_drewN | apply Kd.R_drew));exact HO_6.out))) (Kd.R_lt (by (with_reducible repeat (first | apply Kd.R_alloc | apply Kd.R_drewN | apply Kd.R_drew));exact HO_10.out))) (below_size (by repeat (first | (with_reducible first | exact HB.out | apply below_alloc | apply pw_below_drewN | apply below_drew1) | exact HB.out))));have n3_:=Aside0.mk (below_step (by repeat (first | (with_reducible first | exact HB.out | apply below_alloc | apply pw_below_drewN | apply below_drew1) | exact HB.out)) hb);clear HO_6 HO_10 HB;have HO_6:=n0_;have HO_10:=n1_;have HO183:=n2_;have HB:=n3_;clear n0_ n1_ n2_ n3_;(try clear hb);(try clear hb2);(try clear hk);(try clear hi);(try clear ho0);obtain ⟨Ao38, co38, eo38⟩:=Kd.R_slice HO183.out;subst eo38));try go_wp2_with (first | (go_at_call 27;(with_reducible refine (share_Split.calls x9_2 _ _ x10_3 t180 t181 _ ?side1 ?side2 A35.out).mono ?_);(case side1=>repeat (first | exact (Kd.R_reads' HO_10.out).2.2 | (with_reducible refine Kd.C_alloc ?_ _) | (with_reducible refine Kd.C_drewN ?_ _) | (with_reducible refine Kd.C_drew ?_)));(case side2=>exact (Kd.R_reads' HO_10.out).2.1);rintro e w37 ⟨v182, rfl, ho0, hb⟩;have n0_:=Aside0.mk (Kd.R_elder' (by (with_reducible repeat (first | apply Kd.R_alloc | apply Kd.R_drewN | apply Kd.R_drew));exact HO_6.out) (Kd.R_base ho0) hb);have n1_:=Aside0.mk (Kd.R_elder' (by (with_reducible repeat (first | apply Kd.R_alloc | apply Kd.R_drewN | apply Kd.R_drew));exact HO_10.out) (Kd.R_base ho0) hb);have n2_:=Aside0.mk (Kd.R_lower (Kd.R_new' (Kd.R_new' ho0 (Kd.R_lt (by (with_reducible repeat (first | apply Kd.R_alloc | apply Kd.R_drewN | apply Kd.R_drew));exact HO_6.out))) (Kd.R_lt (by (with_reducible repeat (first | apply Kd.R_alloc | apply Kd.R_drewN | apply Kd.R_drew));exact HO_10.out))) (below_size (by repeat (first | (with_reducible first | exact HB.out | apply below_alloc | apply pw_below_drewN | apply below_drew1) | exact HB.out))));have n3_:=Aside0.mk (below_step (by repeat (first | (with_reducible first | exact HB.out | apply below_alloc | apply pw_below_drewN | apply below_drew1) | exact HB.out)) hb);clear HO_6 HO_10 HB;have HO_6:=n0_;have HO_10:=n1_;have HO183:=n2_;have HB:=n3_;clear n0_ n1_ n2_ n3_;(try clear hb);(try clear hb2);(try clear hk);(try clear hi);(try clear ho0);obtain ⟨Ao38, co38, eo38⟩:=Kd.R_slice HO183.out;subst eo38)))
                 go_loopg [9, 16, 86] k3 (fun kq v9 v16 v86 w'=>∃ (x6_4 : List Int) (x9_4 : Int) (x16_4 : Bool) (x86_4 : Int), v9 = .int .i64 x9_4 ∧ v16 = .bool x16_4 ∧ v86 = .int .i64 x86_4 ∧ Aside0 (share_Capped.l2 kq l1 l2 x6_4 x9_4 t180 x16_4 t180 (t180.length : Int) x86_4 = some (r1, r2, r3)) ∧ Aside0 (kq ≤ k3) ∧ Aside0 (Kd.R (Kd.int .i64) 3 w' w.heap.size (fun k_=>some k_ ≠ ((.slice Ao38 t180.length co38) : Value).ownBlock ∧ some k_ ≠ ((.slice Ao38 t180.length co38) : Value).ownBlock) v171 x6_4) ∧ Aside0 (Kd.R (Kd.int .i64) 3 w' w.heap.size (fun k_=>some k_ ≠ (v171 : Value).ownBlock) (.slice Ao38 t180.length co38) t180) ∧ Aside0 (Kd.R (Kd.int .i64) 3 w' w.heap.size (fun k_=>some k_ ≠ (v171 : Value).ownBlock) (.slice Ao38 t180.length co38) t180) ∧ Aside0 (Below w.heap.size w w'))
                 case atStart=>exact ⟨(x6_2), (x9_2), (false), (0), (by first | rfl | (simp;done) | (simp [*];done)), (by first | rfl | (simp;done) | (simp [*];done)), (by first | rfl | (simp;done) | (simp [*];done)), H', ⟨Nat.le_refl _⟩, ⟨by (with_reducible repeat (first | apply Kd.R_alloc | apply Kd.R_drewN | apply Kd.R_drew));exact Kd.R_mono HO_6.out (fun _ hk=>⟨hk.2, hk.2⟩)⟩, ⟨by (with_reducible repeat (first | apply Kd.R_alloc | apply Kd.R_drewN | apply Kd.R_drew));exact Kd.R_mono HO183.out (fun _ hk=>hk.1.2)⟩, ⟨by (with_reducible repeat (first | apply Kd.R_alloc | apply Kd.R_drewN | apply Kd.R_drew));exact Kd.R_mono HO183.out (fun _ hk=>hk.1.2)⟩, ⟨by repeat (first | (with_reducible first | exact HB.out | apply below_alloc | apply pw_below_drewN | apply below_drew1) | exact HB.out)⟩⟩
                 case round =>
                  clear H'
                  try clear c1
                  try clear p1
                  try clear q1
                  try clear hx1
                  try clear c2
                  try clear p2
                  try clear q2
                  try clear hx2
                  try clear c3
                  try clear c5
                  try clear p6
                  try clear c7
                  try clear c7b0
                  try clear c7b1
                  try clear c9
                  try clear c9b0
                  try clear c9b1
                  try clear c9b2
                  try clear c11
                  try clear c12
                  try clear c12b0
                  try clear c12b1
                  try clear c13
                  try clear c13b0
                  try clear c13b1
                  try clear c16
                  try clear c16b0
                  try clear c17
                  try clear c17b0
                  try clear c17b1
                  try clear p17
                  try clear q17
                  try clear hx17
                  try clear c18
                  try clear c18b0
                  try clear c18b1
                  try clear c21
                  try clear c21b0
                  try clear c22
                  try clear c22b0
                  try clear c23
                  try clear c23b0
                  try clear c24
                  try clear c24b0
                  try clear c25
                  try clear c25b0
                  try clear c26
                  try clear c26b0
                  try clear c27
                  try clear c27b0
                  try clear c28
                  try clear c28b0
                  try clear p29
                  try clear q29
                  try clear hx29
                  try clear hf29
                  try clear c34
                  try clear hx176_0
                  try clear hx177_0
                  try clear hx178_0
                  try clear hx29_0
                  try clear p176
                  try clear p177
                  try clear p178
                  try clear p2
                  try clear p29
                  try clear q176
                  try clear q177
                  try clear q178
                  try clear q29
                  obtain ⟨x6_4, x9_4, x16_4, x86_4, rfl, rfl, rfl, HA, HK4, HO_6, HO_14, HO_84, HB⟩:=hrel
                  cases gk with
                  | zero=>exact absurd HA.out (by simp [share_Capped.l2])
                  | succ k4 =>
                   have H:=HA.out
                   clear HA
                   simp only [share_Capped.l2] at H
                   by_cases c39 : x86_4 < (t180.length : Int)
                   ·rw [if_pos c39] at H
                    have c39b0 : decide (x86_4 < (t180.length : Int)) = true:=decide_eq_true c39
                    clear c39
                    by_cases c40 : 0 ≤ x86_4
                    ·rw [if_pos c40] at H
                     have c40b0 : decide (0 ≤ x86_4) = true:=decide_eq_true c40
                     clear c40
                     by_cases c41 : x86_4 < (t180.length : Int)
                     ·rw [if_pos c41] at H
                      have c41b0 : decide (x86_4 < (t180.length : Int)) = true:=decide_eq_true c41
                      clear c41
                      by_cases c42 : x86_4 < (l2.length : Int)
                      ·rw [if_pos c42] at H
                       have c42b0 : decide (x86_4 < (l2.length : Int)) = true:=decide_eq_true c42
                       clear c42
                       by_cases c43 : (rd t180 x86_4) > (rd l2 x86_4)
                       ·rw [if_pos c43] at H
                        have c43b0 : decide ((rd l2 x86_4) < (rd t180 x86_4)) = true:=decide_eq_true c43
                        clear c43
                        by_cases c44 : x86_4 < (x6_4.length : Int)
                        ·rw [if_pos c44] at H
                         have c44b0 : decide (x86_4 < (x6_4.length : Int)) = true:=decide_eq_true c44
                         clear c44
                         obtain ⟨y187, hy187⟩ : ∃ y_ : List Int, y_ = (x6_4.set (x86_4 : Int).toNat (rd l2 x86_4)):=⟨_, rfl⟩
                         replace H : (share_Capped.l2 k4 l1 l2 y187 (wrap64 (x9_4 - (rd l2 x86_4))) t180 true t180 (t180.length : Int) (wrap64 (x86_4 + 1))) = some (r1, r2, r3):=by first | (rw [hy187];with_reducible exact H) | (have H2_:=(Option.bind_some _ _).symm.trans H;rw [hy187];with_reducible exact H2_) | (have H2_:=(Option.bind_some _ _).symm.trans H;with_reducible exact H2_) | with_reducible exact H | (rw [hy187];exact H) | exact H
                         have Ny187:=Aside0.mk hy187
                         clear hy187
                         have H':=Aside0.mk H
                         clear H
                         have p184 : 0 ≤ (x86_4 : Int):=of_decide_eq_true (by first | (with_reducible assumption) | assumption)
                         have q184 : x86_4 < (t180.length : Int):=of_decide_eq_true (by first | (with_reducible assumption) | assumption)
                         obtain ⟨ad184, e184, hx184_0⟩:=Kd.at_int (Kd.R_reads' HO_84.out).2.2 x86_4 p184 q184
                         cases e184
                         replace p184:=eq_true p184
                         replace q184:=eq_true q184
                         have p185 : 0 ≤ (x86_4 : Int):=of_decide_eq_true (by first | (with_reducible assumption) | assumption)
                         have q185 : x86_4 < (l2.length : Int):=of_decide_eq_true (by first | (with_reducible assumption) | assumption)
                         obtain ⟨ad185, e185, hx185_0⟩:=Kd.at_int HR2.out x86_4 p185 q185
                         cases e185
                         replace hx185_0:=(HB.out.cell (World.block_lt_of_cell? w _ hx185_0)).trans hx185_0
                         replace p185:=eq_true p185
                         replace q185:=eq_true q185
                         have p186 : 0 ≤ (x86_4 : Int):=of_decide_eq_true (by first | (with_reducible assumption) | assumption)
                         have q186 : x86_4 < (l2.length : Int):=of_decide_eq_true (by first | (with_reducible assumption) | assumption)
                         obtain ⟨ad186, e186, hx186_0⟩:=Kd.at_int HR2.out x86_4 p186 q186
                         obtain rfl : ad185 = ad186:=(by injection e186)
                         replace hx186_0:=(HB.out.cell (World.block_lt_of_cell? w _ hx186_0)).trans hx186_0
                         replace p186:=eq_true p186
                         replace q186:=eq_true q186
                         have p45 : 0 ≤ (x86_4 : Int):=of_decide_eq_true (by first | (with_reducible assumption) | assumption)
                         have q45 : (x86_4 : Int) < ((x6_4.length : Int) : Int):=of_decide_eq_true (by first | (with_reducible assumption) | assumption)
                         obtain ⟨go45, co45, eo45, gb45, gl45, cl45, HG45⟩:=Kd.R_form HO_6.out (by omega)
                         (first | cases eo45 | (injection eo45 with ea_ en_ ec_;(first | subst ea_ | (injection ea_ with ea_;subst ea_));subst ec_;clear en_))
                         have GB45:=Aside0.mk gb45
                         have GG45:=Aside0.mk HG45
                         clear gb45 gl45 HG45
                         obtain ⟨hx45_0, hf45_0⟩:=Kd.R_celln 0 HO_6.out (x86_4 : Int) p45 q45
                         replace p45:=eq_true p45
                         replace q45:=eq_true q45
                         obtain ⟨hy46_, hz46_⟩:=Kd.R_celln 0 HO_6.out (x86_4 : Int) (of_decide_eq_true (by first | (with_reducible assumption) | assumption)) (of_decide_eq_true (by first | (with_reducible assumption) | assumption))
                         have HP46:=Kd.R_putg HO_6.out (x86_4 : Int) (rd l2 x86_4)
                         go_wp2_with (first | ((with_reducible refine gate_store (t:=3) (p:=103) rfl ?_);(try (rw [drewN_self wr];generalize hq_ : World.drewN wr _ = wr;have n0_:=Aside0.mk (Kd.R_at hq_ HO_6.out);have n1_:=Aside0.mk (Kd.R_at hq_ HO_14.out);have n2_:=Aside0.mk (Kd.R_at hq_ HO_84.out);have n3_:=Aside0.mk (below_at hq_ HB.out);clear hq_ HO_6 HO_14 HO_84 HB;have HO_6:=n0_;have HO_14:=n1_;have HO_84:=n2_;have HB:=n3_;clear n0_ n1_ n2_ n3_;(try (obtain ⟨hy46_, hz46_⟩:=Kd.R_celln 0 HO_6.out (x86_4 : Int) (of_decide_eq_true (by first | (with_reducible assumption) | assumption)) (of_decide_eq_true (by first | (with_reducible assumption) | assumption))));(try (have HP46:=Kd.R_putg HO_6.out (x86_4 : Int) (rd l2 x86_4)))));refine store_event (t:=3) (p:=103) (v:=?vo_w47) (w1:=(wr.setCell ⟨go45, (x86_4 : Int).toNat, none⟩ (.int .i64 (rd l2 x86_4)))) ?hg ?ho ?hn ?hr ?_;(case ho=>rfl);(case hg=>rfl);(case hn=>rfl);(case hr=>first | (go_simp;done) | (go_simp;rfl));intro w47 hw;have hg : wr.grownBy w47 (some go45):=(by rw [hw];exact HP46.2);have hp_ : Kd.R (Kd.int .i64) 3 w47 w.heap.size (fun k_=>some k_ ≠ (.slice (some ad184) t180.length co38 : Value).ownBlock ∧ some k_ ≠ (.slice (some ad184) t180.length co38 : Value).ownBlock) (.slice (some ⟨go45, 0, none⟩) x6_4.length co45) y187:=(by rw [hw, Ny187.out];exact HP46.1);clear HP46;have n0_:=Aside0.mk (hp_);have n1_:=Aside0.mk (Kd.R_after (v:=(.slice (some ⟨go45, 0, none⟩) x6_4.length co45)) (v1:=(.slice (some ⟨go45, 0, none⟩) x6_4.length co45)) (ok:=(fun _=>True)) (by (with_reducible repeat (first | apply Kd.R_alloc | apply Kd.R_drewN | apply Kd.R_drew));exact Kd.R_mono HO_14.out (fun _ hk=>⟨trivial, hk⟩)) hg (.inl rfl));have n2_:=Aside0.mk (Kd.R_after (v:=(.slice (some ⟨go45, 0, none⟩) x6_4.length co45)) (v1:=(.slice (some ⟨go45, 0, none⟩) x6_4.length co45)) (ok:=(fun _=>True)) (by (with_reducible repeat (first | apply Kd.R_alloc | apply Kd.R_drewN | apply Kd.R_drew));exact Kd.R_mono HO_84.out (fun _ hk=>⟨trivial, hk⟩)) hg (.inl rfl));have n3_:=Aside0.mk ((by rw [hw];exact below_set (HB.out) GB45.out : Below w.heap.size w w47));clear HO_6 HO_14 HO_84 HB;have HO_6:=n0_;have HO_14:=n1_;have HO_84:=n2_;have HB:=n3_;clear n0_ n1_ n2_ n3_ hg hw hp_;have p188 : 0 ≤ (x86_4 : Int):=of_decide_eq_true (by first | (with_reducible assumption) | assumption);have q188 : x86_4 < (l2.length : Int):=of_decide_eq_true (by first | (with_reducible assumption) | assumption);obtain ⟨ad188, e188, hx188_0⟩:=Kd.at_int HR2.out x86_4 p188 q188;obtain rfl : ad185 = ad188:=(by injection e188);replace hx188_0:=(HB.out.cell (World.block_lt_of_cell? w _ hx188_0)).trans hx188_0;replace p188:=eq_true p188;replace q188:=eq_true q188))
                         repeat (go_quiet (first | ((with_reducible refine gate_store (t:=3) (p:=103) rfl ?_);(try (rw [drewN_self wr];generalize hq_ : World.drewN wr _ = wr;have n0_:=Aside0.mk (Kd.R_at hq_ HO_6.out);have n1_:=Aside0.mk (Kd.R_at hq_ HO_14.out);have n2_:=Aside0.mk (Kd.R_at hq_ HO_84.out);have n3_:=Aside0.mk (below_at hq_ HB.out);clear hq_ HO_6 HO_14 HO_84 HB;have HO_6:=n0_;have HO_14:=n1_;have HO_84:=n2_;have HB:=n3_;clear n0_ n1_ n2_ n3_;(try (obtain ⟨hy46_, hz46_⟩:=Kd.R_celln 0 HO_6.out (x86_4 : Int) (of_decide_eq_true (by first | (with_reducible assumption) | assumption)) (of_decide_eq_true (by first | (with_reducible assumption) | assumption))));(try (have HP46:=Kd.R_putg HO_6.out (x86_4 : Int) (rd l2 x86_4)))));refine store_event (t:=3) (p:=103) (v:=?vo_w47) (w1:=(wr.setCell ⟨go45, (x86_4 : Int).toNat, none⟩ (.int .i64 (rd l2 x86_4)))) ?hg ?ho ?hn ?hr ?_;(case ho=>rfl);(case hg=>rfl);(case hn=>rfl);(case hr=>first | (go_simp;done) | (go_simp;rfl));intro w47 hw;have hg : wr.grownBy w47 (some go45):=(by rw [hw];exact HP46.2);have hp_ : Kd.R (Kd.int .i64) 3 w47 w.heap.size (fun k_=>some k_ ≠ (.slice (some ad184) t180.length co38 : Value).ownBlock ∧ some k_ ≠ (.slice (some ad184) t180.length co38 : Value).ownBlock) (.slice (some ⟨go45, 0, none⟩) x6_4.length co45) y187:=(by rw [hw, Ny187.out];exact HP46.1);clear HP46;have n0_:=Aside0.mk (hp_);have n1_:=Aside0.mk (Kd.R_after (v:=(.slice (some ⟨go45, 0, none⟩) x6_4.length co45)) (v1:=(.slice (some ⟨go45, 0, none⟩) x6_4.length co45)) (ok:=(fun _=>True)) (by (with_reducible repeat (first | apply Kd.R_alloc | apply Kd.R_drewN | apply Kd.R_drew));exact Kd.R_mono HO_14.out (fun _ hk=>⟨trivial, hk⟩)) hg (.inl rfl));have n2_:=Aside0.mk (Kd.R_after (v:=(.slice (some ⟨go45, 0, none⟩) x6_4.length co45)) (v1:=(.slice (some ⟨go45, 0, none⟩) x6_4.length co45)) (ok:=(fun _=>True)) (by (with_reducible repeat (first | apply Kd.R_alloc | apply Kd.R_drewN | apply Kd.R_drew));exact Kd.R_mono HO_84.out (fun _ hk=>⟨trivial, hk⟩)) hg (.inl rfl));have n3_:=Aside0.mk ((by rw [hw];exact below_set (HB.out) GB45.out : Below w.heap.size w w47));clear HO_6 HO_14 HO_84 HB;have HO_6:=n0_;have HO_14:=n1_;have HO_84:=n2_;have HB:=n3_;clear n0_ n1_ n2_ n3_ hg hw hp_;have p188 : 0 ≤ (x86_4 : Int):=of_decide_eq_true (by first | (with_reducible assumption) | assumption);have q188 : x86_4 < (l2.length : Int):=of_decide_eq_true (by first | (with_reducible assumption) | assumption);obtain ⟨ad188, e188, hx188_0⟩:=Kd.at_int HR2.out x86_4 p188 q188;obtain rfl : ad185 = ad188:=(by injection e188);replace hx188_0:=(HB.out.cell (World.block_lt_of_cell? w _ hx188_0)).trans hx188_0;replace p188:=eq_true p188;replace q188:=eq_true q188));try go_wp2_with (first | ((with_reducible refine gate_store (t:=3) (p:=103) rfl ?_);(try (rw [drewN_self wr];generalize hq_ : World.drewN wr _ = wr;have n0_:=Aside0.mk (Kd.R_at hq_ HO_6.out);have n1_:=Aside0.mk (Kd.R_at hq_ HO_14.out);have n2_:=Aside0.mk (Kd.R_at hq_ HO_84.out);have n3_:=Aside0.mk (below_at hq_ HB.out);clear hq_ HO_6 HO_14 HO_84 HB;have HO_6:=n0_;have HO_14:=n1_;have HO_84:=n2_;have HB:=n3_;clear n0_ n1_ n2_ n3_;(try (obtain ⟨hy46_, hz46_⟩:=Kd.R_celln 0 HO_6.out (x86_4 : Int) (of_decide_eq_true (by first | (with_reducible assumption) | assumption)) (of_decide_eq_true (by first | (with_reducible assumption) | assumption))));(try (have HP46:=Kd.R_putg HO_6.out (x86_4 : Int) (rd l2 x86_4)))));refine store_event (t:=3) (p:=103) (v:=?vo_w47) (w1:=(wr.setCell ⟨go45, (x86_4 : Int).toNat, none⟩ (.int .i64 (rd l2 x86_4)))) ?hg ?ho ?hn ?hr ?_;(case ho=>rfl);(case hg=>rfl);(case hn=>rfl);(case hr=>first | (go_simp;done) | (go_simp;rfl));intro w47 hw;have hg : wr.grownBy w47 (some go45):=(by rw [hw];exact HP46.2);have hp_ : Kd.R (Kd.int .i64) 3 w47 w.heap.size (fun k_=>some k_ ≠ (.slice (some ad184) t180.length co38 : Value).ownBlock ∧ some k_ ≠ (.slice (some ad184) t180.length co38 : Value).ownBlock) (.slice (some ⟨go45, 0, none⟩) x6_4.length co45) y187:=(by rw [hw, Ny187.out];exact HP46.1);clear HP46;have n0_:=Aside0.mk (hp_);have n1_:=Aside0.mk (Kd.R_after (v:=(.slice (some ⟨go45, 0, none⟩) x6_4.length co45)) (v1:=(.slice (some ⟨go45, 0, none⟩) x6_4.length co45)) (ok:=(fun _=>True)) (by (with_reducible repeat (first | apply Kd.R_alloc | apply Kd.R_drewN | apply Kd.R_drew));exact Kd.R_mono HO_14.out (fun _ hk=>⟨trivial, hk⟩)) hg (.inl rfl));have n2_:=Aside0.mk (Kd.R_after (v:=(.slice (some ⟨go45, 0, none⟩) x6_4.length co45)) (v1:=(.slice (some ⟨go45, 0, none⟩) x6_4.length co45)) (ok:=(fun _=>True)) (by (with_reducible repeat (first | apply Kd.R_alloc | apply Kd.R_drewN | apply Kd.R_drew));exact Kd.R_mono HO_84.out (fun _ hk=>⟨trivial, hk⟩)) hg (.inl rfl));have n3_:=Aside0.mk ((by rw [hw];exact below_set (HB.out) GB45.out : Below w.heap.size w w47));clear HO_6 HO_14 HO_84 HB;have HO_6:=n0_;have HO_14:=n1_;have HO_84:=n2_;have HB:=n3_;clear n0_ n1_ n2_ n3_ hg hw hp_;have p188 : 0 ≤ (x86_4 : Int):=of_decide_eq_true (by first | (with_reducible assumption) | assumption);have q188 : x86_4 < (l2.length : Int):=of_decide_eq_true (by first | (with_reducible assumption) | assumption);obtain ⟨ad188, e188, hx188_0⟩:=Kd.at_int HR2.out x86_4 p188 q188;obtain rfl : ad185 = ad188:=(by injection e188);replace hx188_0:=(HB.out.cell (World.block_lt_of_cell? w _ hx188_0)).trans hx188_0;replace p188:=eq_true p188;replace q188:=eq_true q188)))
                         go_roundg k4
                         case measure=>have:=HJ7.out;have:=HK2.out;have:=HK3.out;have:=HK4.out;omega
                         case rel=>exact ⟨(y187), (wrap64 (x9_4 - (rd l2 x86_4))), (true), (wrap64 (x86_4 + 1)), (by first | rfl | (simp;done) | (simp [*];done)), (by first | rfl | (simp;done) | (simp [*];done)), (by first | rfl | (simp;done) | (simp [*];done)), H', ⟨by have:=HJ7.out;have:=HK2.out;have:=HK3.out;have:=HK4.out;omega⟩, ⟨by (with_reducible repeat (first | apply Kd.R_alloc | apply Kd.R_drewN | apply Kd.R_drew));exact HO_6.out⟩, ⟨by (with_reducible repeat (first | apply Kd.R_alloc | apply Kd.R_drewN | apply Kd.R_drew));exact Kd.R_mono HO_14.out (fun _ hk=>hk.2)⟩, ⟨by (with_reducible repeat (first | apply Kd.R_alloc | apply Kd.R_drewN | apply Kd.R_drew));exact Kd.R_mono HO_84.out (fun _ hk=>hk.2)⟩, ⟨by repeat (first | (with_reducible first | exact HB.out | apply below_alloc | apply pw_below_drewN | apply below_drew1) | exact HB.out)⟩⟩
                        ·rw [if_neg c44] at H
                         exact absurd H (by simp)
                       ·rw [if_neg c43] at H
                        have c43b0 : decide ((rd l2 x86_4) < (rd t180 x86_4)) = false:=decide_eq_false c43
                        clear c43
                        have H':=Aside0.mk H
                        clear H
                        have p184 : 0 ≤ (x86_4 : Int):=of_decide_eq_true (by first | (with_reducible assumption) | assumption)
                        have q184 : x86_4 < (t180.length : Int):=of_decide_eq_true (by first | (with_reducible assumption) | assumption)
                        obtain ⟨ad184, e184, hx184_0⟩:=Kd.at_int (Kd.R_reads' HO_84.out).2.2 x86_4 p184 q184
                        cases e184
                        replace p184:=eq_true p184
                        replace q184:=eq_true q184
                        have p185 : 0 ≤ (x86_4 : Int):=of_decide_eq_true (by first | (with_reducible assumption) | assumption)
                        have q185 : x86_4 < (l2.length : Int):=of_decide_eq_true (by first | (with_reducible assumption) | assumption)
                        obtain ⟨ad185, e185, hx185_0⟩:=Kd.at_int HR2.out x86_4 p185 q185
                        cases e185
                        replace hx185_0:=(HB.out.cell (World.block_lt_of_cell? w _ hx185_0)).trans hx185_0
                        replace p185:=eq_true p185
                        replace q185:=eq_true q185
                        go_wp2
                        repeat (go_quiet (fail);try go_wp2)
                        go_roundg k4
                        case measure=>have:=HJ7.out;have:=HK2.out;have:=HK3.out;have:=HK4.out;omega
                        case rel=>exact ⟨(x6_4), (x9_4), (x16_4), (wrap64 (x86_4 + 1)), (by first | rfl | (simp;done) | (simp [*];done)), (by first | rfl | (simp;done) | (simp [*];done)), (by first | rfl | (simp;done) | (simp [*];done)), H', ⟨by have:=HJ7.out;have:=HK2.out;have:=HK3.out;have:=HK4.out;omega⟩, ⟨by (with_reducible repeat (first | apply Kd.R_alloc | apply Kd.R_drewN | apply Kd.R_drew));exact HO_6.out⟩, ⟨by (with_reducible repeat (first | apply Kd.R_alloc | apply Kd.R_drewN | apply Kd.R_drew));exact HO_14.out⟩, ⟨by (with_reducible repeat (first | apply Kd.R_alloc | apply Kd.R_drewN | apply Kd.R_drew));exact HO_84.out⟩, ⟨by repeat (first | (with_reducible first | exact HB.out | apply below_alloc | apply pw_below_drewN | apply below_drew1) | exact HB.out)⟩⟩
                      ·rw [if_neg c42] at H
                       exact absurd H (by simp)
                     ·rw [if_neg c41] at H
                      exact absurd H (by simp)
                    ·rw [if_neg c40] at H
                     exact absurd H (by simp)
                   ·rw [if_neg c39] at H
                    have c39b0 : decide (x86_4 < (t180.length : Int)) = false:=decide_eq_false c39
                    clear c39
                    by_cases c48 : x16_4 = true
                    ·subst c48
                     have H1 : (share_Capped.l0 k4 l1 l2 x6_4 x9_4) = some (r1, r2, r3):=by rw [if_pos rfl] at H;exact H
                     clear H
                     have H:=H1
                     clear H1
                     have H':=Aside0.mk H
                     clear H
                     go_wp2
                     repeat (go_quiet (fail);try go_wp2)
                     go_roundg k4
                     case measure=>have:=HJ7.out;have:=HK2.out;have:=HK3.out;have:=HK4.out;omega
                     case rel=>exact ⟨(x6_4), (x9_4), (by first | rfl | (simp;done) | (simp [*];done)), H', ⟨by have:=HJ7.out;have:=HK2.out;have:=HK3.out;have:=HK4.out;omega⟩, ⟨by (with_reducible repeat (first | apply Kd.R_alloc | apply Kd.R_drewN | apply Kd.R_drew));exact Kd.R_mono HO_6.out (fun _ hk=>trivial)⟩, ⟨by repeat (first | (with_reducible first | exact HB.out | apply below_alloc | apply pw_below_drewN | apply below_drew1) | exact HB.out)⟩⟩
                    ·replace c48:=Bool.eq_false_iff.mpr c48
                     subst c48
                     have H1 : (share_Capped.l3 k4 l1 l2 x6_4 t180 (t180.length : Int) 0) = some (r1, r2, r3):=by rw [if_neg (show ¬ (false = true) by decide)] at H;exact H
                     clear H
                     have H:=H1
                     clear H1
                     have H':=Aside0.mk H
                     clear H
                     go_wp2
                     repeat (go_quiet (fail);try go_wp2)
                     go_loopg [114] k4 (fun kq v114 w'=>∃ (x6_5 : List Int) (x114_5 : Int), v114 = .int .i64 x114_5 ∧ Aside0 (share_Capped.l3 kq l1 l2 x6_5 t180 (t180.length : Int) x114_5 = some (r1, r2, r3)) ∧ Aside0 (kq ≤ k4) ∧ Aside0 (Kd.R (Kd.int .i64) 3 w' w.heap.size (fun k_=>some k_ ≠ ((.slice Ao38 t180.length co38) : Value).ownBlock) v171 x6_5) ∧ Aside0 (Kd.R (Kd.int .i64) 3 w' w.heap.size (fun k_=>some k_ ≠ (v171 : Value).ownBlock) (.slice Ao38 t180.length co38) t180) ∧ Aside0 (Below w.heap.size w w'))
                     case atStart=>exact ⟨(x6_4), (0), (by first | rfl | (simp;done) | (simp [*];done)), H', ⟨Nat.le_refl _⟩, ⟨by (with_reducible repeat (first | apply Kd.R_alloc | apply Kd.R_drewN | apply Kd.R_drew));exact Kd.R_mono HO_6.out (fun _ hk=>hk.1)⟩, ⟨by (with_reducible repeat (first | apply Kd.R_alloc | apply Kd.R_drewN | apply Kd.R_drew));exact HO_14.out⟩, ⟨by repeat (first | (with_reducible first | exact HB.out | apply below_alloc | apply pw_below_drewN | apply below_drew1) | exact HB.out)⟩⟩
                     case round =>
                      clear H'
                      try clear c1
                      try clear p1
                      try clear q1
                      try clear hx1
                      try clear c2
                      try clear p2
                      try clear q2
                      try clear hx2
                      try clear c3
                      try clear c4
                      try clear p4
                      try clear q4
                      try clear hx4
                      try clear hf4
                      try clear c5
                      try clear p6
                      try clear c7
                      try clear c7b0
                      try clear c7b1
                      try clear c9
                      try clear c9b0
                      try clear c9b1
                      try clear c9b2
                      try clear c11
                      try clear c12
                      try clear c12b0
                      try clear c12b1
                      try clear c13
                      try clear c13b0
                      try clear c13b1
                      try clear c16
                      try clear c16b0
                      try clear c17
                      try clear c17b0
                      try clear c17b1
                      try clear p17
                      try clear q17
                      try clear hx17
                      try clear c18
                      try clear c18b0
                      try clear c18b1
                      try clear p18
                      try clear q18
                      try clear hx18
                      try clear c21
                      try clear c21b0
                      try clear c22
                      try clear c22b0
                      try clear c23
                      try clear c23b0
                      try clear c24
                      try clear c24b0
                      try clear c25
                      try clear c25b0
                      try clear c26
                      try clear c26b0
                      try clear c27
                      try clear c27b0
                      try clear c28
                      try clear c28b0
                      try clear p29
                      try clear q29
                      try clear hx29
                      try clear hf29
                      try clear c34
                      try clear c39
                      try clear c39b0
                      try clear c40
                      try clear c40b0
                      try clear c41
                      try clear c41b0
                      try clear c42
                      try clear c42b0
                      try clear c43
                      try clear c43b0
                      try clear c44
                      try clear c44b0
                      try clear p45
                      try clear q45
                      try clear hx45
                      try clear hf45
                      try clear c48
                      try clear hx176_0
                      try clear hx177_0
                      try clear hx178_0
                      try clear hx184_0
                      try clear hx185_0
                      try clear hx186_0
                      try clear hx188_0
                      try clear hx29_0
                      try clear hx45_0
                      try clear p1
                      try clear p17
                      try clear p176
                      try clear p177
                      try clear p178
                      try clear p184
                      try clear p185
                      try clear p186
                      try clear p188
                      try clear p2
                      try clear p29
                      try clear p45
                      try clear p6
                      try clear q1
                      try clear q17
                      try clear q176
                      try clear q177
                      try clear q178
                      try clear q184
                      try clear q185
                      try clear q186
                      try clear q188
                      try clear q2
                      try clear q29
                      try clear q45
                      obtain ⟨x6_5, x114_5, rfl, HA, HK5, HO_6, HO_112, HB⟩:=hrel
                      cases gk with
                      | zero=>exact absurd HA.out (by simp [share_Capped.l3])
                      | succ k5 =>
                       have H:=HA.out
                       clear HA
                       simp only [share_Capped.l3] at H
                       by_cases c49 : x114_5 < (t180.length : Int)
                       ·rw [if_pos c49] at H
                        have c49b0 : decide (x114_5 < (t180.length : Int)) = true:=decide_eq_true c49
                        clear c49
                        by_cases c50 : 0 ≤ x114_5
                        ·rw [if_pos c50] at H
                         have c50b0 : decide (0 ≤ x114_5) = true:=decide_eq_true c50
                         clear c50
                         by_cases c51 : x114_5 < (t180.length : Int)
                         ·rw [if_pos c51] at H
                          have c51b0 : decide (x114_5 < (t180.length : Int)) = true:=decide_eq_true c51
                          clear c51
                          by_cases c52 : x114_5 < (x6_5.length : Int)
                          ·rw [if_pos c52] at H
                           have c52b0 : decide (x114_5 < (x6_5.length : Int)) = true:=decide_eq_true c52
                           clear c52
                           obtain ⟨y191, hy191⟩ : ∃ y_ : List Int, y_ = (x6_5.set (x114_5 : Int).toNat (wrap64 ((rd x6_5 x114_5) + (rd t180 x114_5)))):=⟨_, rfl⟩
                           replace H : (share_Capped.l3 k5 l1 l2 y191 t180 (t180.length : Int) (wrap64 (x114_5 + 1))) = some (r1, r2, r3):=by first | (rw [hy191];with_reducible exact H) | (have H2_:=(Option.bind_some _ _).symm.trans H;rw [hy191];with_reducible exact H2_) | (have H2_:=(Option.bind_some _ _).symm.trans H;with_reducible exact H2_) | with_reducible exact H | (rw [hy191];exact H) | exact H
                           have Ny191:=Aside0.mk hy191
                           clear hy191
                           have H':=Aside0.mk H
                           clear H
                           have p189 : 0 ≤ (x114_5 : Int):=of_decide_eq_true (by first | (with_reducible assumption) | assumption)
                           have q189 : x114_5 < (t180.length : Int):=of_decide_eq_true (by first | (with_reducible assumption) | assumption)
                           obtain ⟨ad189, e189, hx189_0⟩:=Kd.at_int (Kd.R_reads' HO_112.out).2.2 x114_5 p189 q189
                           cases e189
                           replace p189:=eq_true p189
                           replace q189:=eq_true q189
                           obtain ⟨Ao54, co54, eo54⟩:=Kd.R_slice HO_6.out
                           subst eo54
                           have p190 : 0 ≤ (x114_5 : Int):=of_decide_eq_true (by first | (with_reducible assumption) | assumption)
                           have q190 : x114_5 < (x6_5.length : Int):=of_decide_eq_true (by first | (with_reducible assumption) | assumption)
                           obtain ⟨ad190, e190, hx190_0⟩:=Kd.at_int (Kd.R_reads' HO_6.out).2.2 x114_5 p190 q190
                           cases e190
                           replace p190:=eq_true p190
                           replace q190:=eq_true q190
                           have p53 : 0 ≤ (x114_5 : Int):=of_decide_eq_true (by first | (with_reducible assumption) | assumption)
                           have q53 : (x114_5 : Int) < ((x6_5.length : Int) : Int):=of_decide_eq_true (by first | (with_reducible assumption) | assumption)
                           obtain ⟨go53, co53, eo53, gb53, gl53, cl53, HG53⟩:=Kd.R_form HO_6.out (by omega)
                           (first | cases eo53 | (injection eo53 with ea_ en_ ec_;(first | subst ea_ | (injection ea_ with ea_;subst ea_));subst ec_;clear en_))
                           have GB53:=Aside0.mk gb53
                           have GG53:=Aside0.mk HG53
                           clear gb53 gl53 HG53
                           (first | simp only [add_plain] at hx190_0 | skip)
                           obtain ⟨hx53_0, hf53_0⟩:=Kd.R_celln 0 HO_6.out (x114_5 : Int) p53 q53
                           replace p53:=eq_true p53
                           replace q53:=eq_true q53
                           obtain ⟨hy55_, hz55_⟩:=Kd.R_celln 0 HO_6.out (x114_5 : Int) (of_decide_eq_true (by first | (with_reducible assumption) | assumption)) (of_decide_eq_true (by first | (with_reducible assumption) | assumption))
                           have HP55:=Kd.R_putg HO_6.out (x114_5 : Int) (wrap64 ((rd x6_5 x114_5) + (rd t180 x114_5)))
                           go_wp2_with (first | ((with_reducible refine gate_store (t:=3) (p:=125) rfl ?_);(try (rw [drewN_self wr];generalize hq_ : World.drewN wr _ = wr;have n0_:=Aside0.mk (Kd.R_at hq_ HO_6.out);have n1_:=Aside0.mk (Kd.R_at hq_ HO_112.out);have n2_:=Aside0.mk (below_at hq_ HB.out);clear hq_ HO_6 HO_112 HB;have HO_6:=n0_;have HO_112:=n1_;have HB:=n2_;clear n0_ n1_ n2_;(try (obtain ⟨hy55_, hz55_⟩:=Kd.R_celln 0 HO_6.out (x114_5 : Int) (of_decide_eq_true (by first | (with_reducible assumption) | assumption)) (of_decide_eq_true (by first | (with_reducible assumption) | assumption))));(try (have HP55:=Kd.R_putg HO_6.out (x114_5 : Int) (wrap64 ((rd x6_5 x114_5) + (rd t180 x114_5)))))));refine store_event (t:=3) (p:=125) (v:=?vo_w56) (w1:=(wr.setCell ⟨go53, (x114_5 : Int).toNat, none⟩ (.int .i64 (wrap64 ((rd x6_5 x114_5) + (rd t180 x114_5)))))) ?hg ?ho ?hn ?hr ?_;(case ho=>rfl);(case hg=>rfl);(case hn=>rfl);(case hr=>first | (go_simp;done) | (go_simp;rfl));intro w56 hw;have hg : wr.grownBy w56 (some go53):=(by rw [hw];exact HP55.2);have hp_ : Kd.R (Kd.int .i64) 3 w56 w.heap.size (fun k_=>some k_ ≠ (.slice (some ad189) t180.length co38 : Value).ownBlock) (.slice (some ⟨go53, 0, none⟩) x6_5.length co54) y191:=(by rw [hw, Ny191.out];exact HP55.1);clear HP55;have n0_:=Aside0.mk (hp_);have n1_:=Aside0.mk (Kd.R_after (v:=(.slice (some ⟨go53, 0, none⟩) x6_5.length co54)) (v1:=(.slice (some ⟨go53, 0, none⟩) x6_5.length co54)) (ok:=(fun _=>True)) (by (with_reducible repeat (first | apply Kd.R_alloc | apply Kd.R_drewN | apply Kd.R_drew));exact Kd.R_mono HO_112.out (fun _ hk=>⟨trivial, hk⟩)) hg (.inl rfl));have n2_:=Aside0.mk ((by rw [hw];exact below_set (HB.out) GB53.out : Below w.heap.size w w56));clear HO_6 HO_112 HB;have HO_6:=n0_;have HO_112:=n1_;have HB:=n2_;clear n0_ n1_ n2_ hg hw hp_))
                           repeat (go_quiet (first | ((with_reducible refine gate_store (t:=3) (p:=125) rfl ?_);(try (rw [drewN_self wr];generalize hq_ : World.drewN wr _ = wr;have n0_:=Aside0.mk (Kd.R_at hq_ HO_6.out);have n1_:=Aside0.mk (Kd.R_at hq_ HO_112.out);have n2_:=Aside0.mk (below_at hq_ HB.out);clear hq_ HO_6 HO_112 HB;have HO_6:=n0_;have HO_112:=n1_;have HB:=n2_;clear n0_ n1_ n2_;(try (obtain ⟨hy55_, hz55_⟩:=Kd.R_celln 0 HO_6.out (x114_5 : Int) (of_decide_eq_true (by first | (with_reducible assumption) | assumption)) (of_decide_eq_true (by first | (with_reducible assumption) | assumption))));(try (have HP55:=Kd.R_putg HO_6.out (x114_5 : Int) (wrap64 ((rd x6_5 x114_5) + (rd t180 x114_5)))))));refine store_event (t:=3) (p:=125) (v:=?vo_w56) (w1:=(wr.setCell ⟨go53, (x114_5 : Int).toNat, none⟩ (.int .i64 (wrap64 ((rd x6_5 x114_5) + (rd t180 x114_5)))))) ?hg ?ho ?hn ?hr ?_;(case ho=>rfl);(case hg=>rfl);(case hn=>rfl);(case hr=>first | (go_simp;done) | (go_simp;rfl));intro w56 hw;have hg : wr.grownBy w56 (some go53):=(by rw [hw];exact HP55.2);have hp_ : Kd.R (Kd.int .i64) 3 w56 w.heap.size (fun k_=>some k_ ≠ (.slice (some ad189) t180.length co38 : Value).ownBlock) (.slice (some ⟨go53, 0, none⟩) x6_5.length co54) y191:=(by rw [hw, Ny191.out];exact HP55.1);clear HP55;have n0_:=Aside0.mk (hp_);have n1_:=Aside0.mk (Kd.R_after (v:=(.slice (some ⟨go53, 0, none⟩) x6_5.length co54)) (v1:=(.slice (some ⟨go53, 0, none⟩) x6_5.length co54)) (ok:=(fun _=>True)) (by (with_reducible repeat (first | apply Kd.R_alloc | apply Kd.R_drewN | apply Kd.R_drew));exact Kd.R_mono HO_112.out (fun _ hk=>⟨trivial, hk⟩)) hg (.inl rfl));have n2_:=Aside0.mk ((by rw [hw];exact below_set (HB.out) GB53.out : Below w.heap.size w w56));clear HO_6 HO_112 HB;have HO_6:=n0_;have HO_112:=n1_;have HB:=n2_;clear n0_ n1_ n2_ hg hw hp_));try go_wp2_with (first | ((with_reducible refine gate_store (t:=3) (p:=125) rfl ?_);(try (rw [drewN_self wr];generalize hq_ : World.drewN wr _ = wr;have n0_:=Aside0.mk (Kd.R_at hq_ HO_6.out);have n1_:=Aside0.mk (Kd.R_at hq_ HO_112.out);have n2_:=Aside0.mk (below_at hq_ HB.out);clear hq_ HO_6 HO_112 HB;have HO_6:=n0_;have HO_112:=n1_;have HB:=n2_;clear n0_ n1_ n2_;(try (obtain ⟨hy55_, hz55_⟩:=Kd.R_celln 0 HO_6.out (x114_5 : Int) (of_decide_eq_true (by first | (with_reducible assumption) | assumption)) (of_decide_eq_true (by first | (with_reducible assumption) | assumption))));(try (have HP55:=Kd.R_putg HO_6.out (x114_5 : Int) (wrap64 ((rd x6_5 x114_5) + (rd t180 x114_5)))))));refine store_event (t:=3) (p:=125) (v:=?vo_w56) (w1:=(wr.setCell ⟨go53, (x114_5 : Int).toNat, none⟩ (.int .i64 (wrap64 ((rd x6_5 x114_5) + (rd t180 x114_5)))))) ?hg ?ho ?hn ?hr ?_;(case ho=>rfl);(case hg=>rfl);(case hn=>rfl);(case hr=>first | (go_simp;done) | (go_simp;rfl));intro w56 hw;have hg : wr.grownBy w56 (some go53):=(by rw [hw];exact HP55.2);have hp_ : Kd.R (Kd.int .i64) 3 w56 w.heap.size (fun k_=>some k_ ≠ (.slice (some ad189) t180.length co38 : Value).ownBlock) (.slice (some ⟨go53, 0, none⟩) x6_5.length co54) y191:=(by rw [hw, Ny191.out];exact HP55.1);clear HP55;have n0_:=Aside0.mk (hp_);have n1_:=Aside0.mk (Kd.R_after (v:=(.slice (some ⟨go53, 0, none⟩) x6_5.length co54)) (v1:=(.slice (some ⟨go53, 0, none⟩) x6_5.length co54)) (ok:=(fun _=>True)) (by (with_reducible repeat (first | apply Kd.R_alloc | apply Kd.R_drewN | apply Kd.R_drew));exact Kd.R_mono HO_112.out (fun _ hk=>⟨trivial, hk⟩)) hg (.inl rfl));have n2_:=Aside0.mk ((by rw [hw];exact below_set (HB.out) GB53.out : Below w.heap.size w w56));clear HO_6 HO_112 HB;have HO_6:=n0_;have HO_112:=n1_;have HB:=n2_;clear n0_ n1_ n2_ hg hw hp_)))
                           go_roundg k5
                           case measure=>have:=HJ7.out;have:=HK2.out;have:=HK3.out;have:=HK4.out;have:=HK5.out;omega
                           case rel=>exact ⟨(y191), (wrap64 (x114_5 + 1)), (by first | rfl | (simp;done) | (simp [*];done)), H', ⟨by have:=HJ7.out;have:=HK2.out;have:=HK3.out;have:=HK4.out;have:=HK5.out;omega⟩, ⟨by (with_reducible repeat (first | apply Kd.R_alloc | apply Kd.R_drewN | apply Kd.R_drew));exact HO_6.out⟩, ⟨by (with_reducible repeat (first | apply Kd.R_alloc | apply Kd.R_drewN | apply Kd.R_drew));exact Kd.R_mono HO_112.out (fun _ hk=>hk.2)⟩, ⟨by repeat (first | (with_reducible first | exact HB.out | apply below_alloc | apply pw_below_drewN | apply below_drew1) | exact HB.out)⟩⟩
                          ·rw [if_neg c52] at H
                           exact absurd H (by simp)
                         ·rw [if_neg c51] at H
                          exact absurd H (by simp)
                        ·rw [if_neg c50] at H
                         exact absurd H (by simp)
                       ·rw [if_neg c49] at H
                        have c49b0 : decide (x114_5 < (t180.length : Int)) = false:=decide_eq_false c49
                        clear c49
                        have H':=Aside0.mk H
                        clear H
                        go_wp2
                        repeat (go_quiet (fail);try go_wp2)
                        go_roundg k5
                        case measure=>have:=HJ7.out;have:=HK2.out;have:=HK3.out;have:=HK4.out;have:=HK5.out;omega
                        case rel=>exact ⟨(x6_5), (0), (by first | rfl | (simp;done) | (simp [*];done)), H', ⟨by have:=HJ7.out;have:=HK2.out;have:=HK3.out;have:=HK4.out;have:=HK5.out;omega⟩, ⟨by (with_reducible repeat (first | apply Kd.R_alloc | apply Kd.R_drewN | apply Kd.R_drew));exact Kd.R_mono HO_6.out (fun _ hk=>trivial)⟩, ⟨by repeat (first | (with_reducible first | exact HB.out | apply below_alloc | apply pw_below_drewN | apply below_drew1) | exact HB.out)⟩⟩
                ·replace c34:=Bool.eq_false_iff.mpr c34
                 subst c34
                 have H1 : (some (x6_2, x9_2, 0)) = some (r1, r2, r3):=by rw [if_neg (show ¬ (false = true) by decide)] at H;exact H
                 clear H
                 have H:=H1
                 clear H1
                 simp only [Option.some.injEq, Prod.mk.injEq] at H
                 obtain ⟨rfl, rfl, rfl⟩:=H
                 go_wp2
                 repeat (go_quiet (fail);try go_wp2)
                 go_ret3
                 exact ⟨_, by first | rfl | (simp [errW_none, errW_some] <;> rfl) | (simp [*, errW_none, errW_some] <;> rfl), by (with_reducible repeat (first | apply Kd.R_alloc | apply Kd.R_drewN | apply Kd.R_drew));exact Kd.R_mono HO_6.out (fun _ hk=>trivial), by repeat (first | (with_reducible first | exact HB.out | apply below_alloc | apply pw_below_drewN | apply below_drew1) | exact HB.out)⟩
            ·rw [if_neg c18] at H
             exact absurd H (by simp)
           ·rw [if_neg c17] at H
            exact absurd H (by simp)
          ·rw [if_neg c16] at H
           have c16b0 : decide (0 < x9_2) = false:=decide_eq_false c16
           clear c16
           simp only [Option.some.injEq, Prod.mk.injEq] at H
           obtain ⟨rfl, rfl, rfl⟩:=H
           go_wp2
           repeat (go_quiet (fail);try go_wp2)
           go_ret3
           exact ⟨_, by first | rfl | (simp [errW_none, errW_some] <;> rfl) | (simp [*, errW_none, errW_some] <;> rfl), by (with_reducible repeat (first | apply Kd.R_alloc | apply Kd.R_drewN | apply Kd.R_drew));exact HO_6.out, by repeat (first | (with_reducible first | exact HB.out | apply below_alloc | apply pw_below_drewN | apply below_drew1) | exact HB.out)⟩
       ·rw [if_neg c13] at H
        exact absurd H (by simp)
      ·rw [if_neg c12] at H
       exact absurd H (by simp)
  ·rw [if_neg c7] at H
   have c7b0 : (t168 == 0) = false:=beq_eq_false_iff_ne.mpr c7
   have c7b1 : (t168 != 0) = true:=bne_iff_ne.mpr c7
   simp only [Option.some.injEq, Prod.mk.injEq] at H
   obtain ⟨rfl, rfl, rfl⟩:=H
   go_enter Try.func21, Try.ntmps21
   go_wp2_with (first | (go_at_call 29;(with_reducible refine (share_money.calls a0 true _ A4.out).mono ?_);rintro e w' ⟨rfl, ⟨nd, rfl⟩⟩;(try first | exact ⟨rfl, _, World.drewN_drewN _ _ _⟩ | exact ⟨rfl, _, Eq.trans (World.drewN_drewN _ _ _) (congrArg (World.drewN _) (Nat.add_assoc _ _ _))⟩)) | (go_at_call 30;(with_reducible refine (share_weighed.calls k _ _ l1 t167 t168 _ ?side1 ?side2 A6.out).mono ?_);(case side1=>repeat (first | exact HR1.out | (with_reducible refine Kd.C_alloc ?_ _) | (with_reducible refine Kd.C_drewN ?_ _) | (with_reducible refine Kd.C_drew ?_)));(case side2=>exact HC1.out);rintro e w' ⟨rfl, ⟨nd, rfl⟩⟩;(try first | exact ⟨rfl, _, World.drewN_drewN _ _ _⟩ | exact ⟨rfl, _, Eq.trans (World.drewN_drewN _ _ _) (congrArg (World.drewN _) (Nat.add_assoc _ _ _))⟩)))
   repeat (go_quiet (first | (go_at_call 29;(with_reducible refine (share_money.calls a0 true _ A4.out).mono ?_);rintro e w' ⟨rfl, ⟨nd, rfl⟩⟩;(try first | exact ⟨rfl, _, World.drewN_drewN _ _ _⟩ | exact ⟨rfl, _, Eq.trans (World.drewN_drewN _ _ _) (congrArg (World.drewN _) (Nat.add_assoc _ _ _))⟩)) | (go_at_call 30;(with_reducible refine (share_weighed.calls k _ _ l1 t167 t168 _ ?side1 ?side2 A6.out).mono ?_);(case side1=>repeat (first | exact HR1.out | (with_reducible refine Kd.C_alloc ?_ _) | (with_reducible refine Kd.C_drewN ?_ _) | (with_reducible refine Kd.C_drew ?_)));(case side2=>exact HC1.out);rintro e w' ⟨rfl, ⟨nd, rfl⟩⟩;(try first | exact ⟨rfl, _, World.drewN_drewN _ _ _⟩ | exact ⟨rfl, _, Eq.trans (World.drewN_drewN _ _ _) (congrArg (World.drewN _) (Nat.add_assoc _ _ _))⟩)));try go_wp2_with (first | (go_at_call 29;(with_reducible refine (share_money.calls a0 true _ A4.out).mono ?_);rintro e w' ⟨rfl, ⟨nd, rfl⟩⟩;(try first | exact ⟨rfl, _, World.drewN_drewN _ _ _⟩ | exact ⟨rfl, _, Eq.trans (World.drewN_drewN _ _ _) (congrArg (World.drewN _) (Nat.add_assoc _ _ _))⟩)) | (go_at_call 30;(with_reducible refine (share_weighed.calls k _ _ l1 t167 t168 _ ?side1 ?side2 A6.out).mono ?_);(case side1=>repeat (first | exact HR1.out | (with_reducible refine Kd.C_alloc ?_ _) | (with_reducible refine Kd.C_drewN ?_ _) | (with_reducible refine Kd.C_drew ?_)));(case side2=>exact HC1.out);rintro e w' ⟨rfl, ⟨nd, rfl⟩⟩;(try first | exact ⟨rfl, _, World.drewN_drewN _ _ _⟩ | exact ⟨rfl, _, Eq.trans (World.drewN_drewN _ _ _) (congrArg (World.drewN _) (Nat.add_assoc _ _ _))⟩))))
   go_ret3
   exact ⟨_, by first | rfl | (simp [errW_none, errW_some] <;> rfl) | (simp [*, errW_none, errW_some] <;> rfl), by first | exact Kd.R_nil _ _ _ _ _ | exact Kd.N_nil _ _ _ _ _ | exact Kd.V_nil _ _ _ _ _ | exact Kd.Q_nil _ _ _ _ _ | exact Kd.S_nil _ _ _ _ _, by repeat (first | (with_reducible first | exact HB.out | apply below_alloc | apply pw_below_drewN | apply below_drew1) | exact HB.out)⟩
 ·replace c5:=Bool.eq_false_iff.mpr c5
  subst c5
  have H1 : (some (([] : List Int), 0, 2)) = some (r1, r2, r3):=by rw [if_neg (show ¬ (false = true) by decide)] at H;exact H
  clear H
  have H:=H1
  clear H1
  simp only [Option.some.injEq, Prod.mk.injEq] at H
  obtain ⟨rfl, rfl, rfl⟩:=H
  go_enter Try.func21, Try.ntmps21
  go_wp2_with (first | (go_at_call 29;(with_reducible refine (share_money.calls a0 false _ A4.out).mono ?_);rintro e w' ⟨rfl, ⟨nd, rfl⟩⟩;(try first | exact ⟨rfl, _, World.drewN_drewN _ _ _⟩ | exact ⟨rfl, _, Eq.trans (World.drewN_drewN _ _ _) (congrArg (World.drewN _) (Nat.add_assoc _ _ _))⟩)))
  repeat (go_quiet (first | (go_at_call 29;(with_reducible refine (share_money.calls a0 false _ A4.out).mono ?_);rintro e w' ⟨rfl, ⟨nd, rfl⟩⟩;(try first | exact ⟨rfl, _, World.drewN_drewN _ _ _⟩ | exact ⟨rfl, _, Eq.trans (World.drewN_drewN _ _ _) (congrArg (World.drewN _) (Nat.add_assoc _ _ _))⟩)));try go_wp2_with (first | (go_at_call 29;(with_reducible refine (share_money.calls a0 false _ A4.out).mono ?_);rintro e w' ⟨rfl, ⟨nd, rfl⟩⟩;(try first | exact ⟨rfl, _, World.drewN_drewN _ _ _⟩ | exact ⟨rfl, _, Eq.trans (World.drewN_drewN _ _ _) (congrArg (World.drewN _) (Nat.add_assoc _ _ _))⟩))))
  go_ret3
  exact ⟨_, by first | rfl | (simp [errW_none, errW_some] <;> rfl) | (simp [*, errW_none, errW_some] <;> rfl), by first | exact Kd.R_nil _ _ _ _ _ | exact Kd.N_nil _ _ _ _ _ | exact Kd.V_nil _ _ _ _ _ | exact Kd.Q_nil _ _ _ _ _ | exact Kd.S_nil _ _ _ _ _, by repeat (first | (with_reducible first | exact HB.out | apply below_alloc | apply pw_below_drewN | apply below_drew1) | exact HB.out)⟩

end Go.Proofs.Ytlkdilfheplmhaa.PTopLosses
