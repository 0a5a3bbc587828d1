import Derived.Test.YtkdhippoibjfkaaDoorQRm2
import Derived.Test.YtkdhippoibjfkaaDoorQRm7
import Derived.Test.YtkdhippoibjfkaaDoorQRm12
namespace Go.Proofs.YtkdhippoibjfkaaDoor.PR
open Go.RowKit Go.Proofs.YtkdhippoibjfkaaDoorW.PrintWords Go.Proofs.YtkdhippoibjfkaaDoorW.PrintLast
set_option linter.unusedVariables false
set_option linter.unusedSimpArgs false
mutual
def corebankref02_Split.j0 : Nat → Int → List Int → Int → Bool → Option (List Int × Int)
 | 0, _, _, _, _ => none
 | k + 1, x0, x1, x6, x32 => if x32 = true then (some (([] : List Int), 1)) else (if x0 < 0 then (corebankref02_Split.j1 k x0 x1 x6 (wrap64 (-x0))) else (corebankref02_Split.j1 k x0 x1 x6 x0))
def corebankref02_Split.j1 : Nat → Int → List Int → Int → Int → Option (List Int × Int)
 | 0, _, _, _, _ => none
 | k + 1, x0, x1, x6, x8 => corebankref02_Split.l0 k x0 x1 x6 x8 x8 (([] : List Int)) (([] : List Int)) 0
def corebankref02_Split.l0 : Nat → Int → List Int → Int → Int → Int → List Int → List Int → Int → Option (List Int × Int)
 | 0, _, _, _, _, _, _, _, _ => none
 | k + 1, x0, x1, x6, x8, x9, x10, x11, x12 => if x12 < (x1.length : Int) then (if 0 ≤ x12 then ((corebankref01_Mul.f x9 (rd x1 x12)).bind fun bt465 => ((corebankref01_Div.f bt465.1 bt465.2 x6).bind fun bt467 => ((corebankref01_Int.f bt467.1 bt467.2.1).bind fun bt472 => (if x10.length < 17592186044416 then (if x11.length < 17592186044416 then (corebankref02_Split.l0 k x0 x1 x6 (wrap64 (x8 - bt472.1)) x9 (x10 ++ [bt472.1]) (x11 ++ [bt467.2.2.1]) (wrap64 (x12 + 1))) else (none)) else (none))))) else (none)) else (corebankref02_Split.l1 k x0 x8 x10 x11)
def corebankref02_Split.l1 : Nat → Int → Int → List Int → List Int → Option (List Int × Int)
 | 0, _, _, _, _ => none
 | k + 1, x0, x8, x10, x11 => if x8 > 0 then (corebankref02_Split.l2 k x0 x8 x10 x11 0 1) else (corebankref02_Split.l3 k x0 x10 0)
def corebankref02_Split.l2 : Nat → Int → Int → List Int → List Int → Int → Int → Option (List Int × Int)
 | 0, _, _, _, _, _, _ => none
 | k + 1, x0, x8, x10, x11, x18, x19 => if x19 < (x11.length : Int) then (if 0 ≤ x19 then (if 0 ≤ x18 then (if x18 < (x11.length : Int) then (if (rd x11 x19) > (rd x11 x18) then (corebankref02_Split.l2 k x0 x8 x10 x11 x19 (wrap64 (x19 + 1))) else (corebankref02_Split.l2 k x0 x8 x10 x11 x18 (wrap64 (x19 + 1)))) else (none)) else (none)) else (none)) else (if 0 ≤ x18 then (if x18 < (x10.length : Int) then (if x18 < (x11.length : Int) then (corebankref02_Split.l1 k x0 (wrap64 (x8 - 1)) (x10.set (x18 : Int).toNat (wrap64 ((rd x10 x18) + 1))) (x11.set (x18 : Int).toNat (-1))) else (none)) else (none)) else (none))
def corebankref02_Split.l3 : Nat → Int → List Int → Int → Option (List Int × Int)
 | 0, _, _, _ => none
 | k + 1, x0, x10, x20 => if x20 < (x10.length : Int) then (corebankref02_Split.j6 k x0 x10 x20 (decide (x0 < 0))) else (corebankref02_Split.j6 k x0 x10 x20 false)
def corebankref02_Split.j6 : Nat → Int → List Int → Int → Bool → Option (List Int × Int)
 | 0, _, _, _, _ => none
 | k + 1, x0, x10, x20, x113 => if x113 = true then (if 0 ≤ x20 then (if x20 < (x10.length : Int) then (corebankref02_Split.l3 k x0 (x10.set (x20 : Int).toNat (wrap64 (-(rd x10 x20)))) (wrap64 (x20 + 1))) else (none)) else (none)) else (some (x10, 0))
end
def corebankref02_Split.f (k : Nat) (a0 : Int) (l1 : List Int) : Option (List Int × Int) := (corebankref02_Total.f k l1).bind fun bt455 => ((corebankref02_Good.f a0).bind fun t457 => (if t457 = true then (corebankref02_Split.j0 k a0 l1 bt455.1 (!bt455.2)) else (corebankref02_Split.j0 k a0 l1 bt455.1 true)))
theorem corebankref02_Split.mono_l : ∀ k, (∀ y0 y1 y2 y3, LeO (corebankref02_Split.j0 k y0 y1 y2 y3) (corebankref02_Split.j0 (k + 1) y0 y1 y2 y3)) ∧ (∀ y0 y1 y2 y3, LeO (corebankref02_Split.j1 k y0 y1 y2 y3) (corebankref02_Split.j1 (k + 1) y0 y1 y2 y3)) ∧ (∀ y0 y1 y2 y3 y4 y5 y6 y7, LeO (corebankref02_Split.l0 k y0 y1 y2 y3 y4 y5 y6 y7) (corebankref02_Split.l0 (k + 1) y0 y1 y2 y3 y4 y5 y6 y7)) ∧ (∀ y0 y1 y2 y3, LeO (corebankref02_Split.l1 k y0 y1 y2 y3) (corebankref02_Split.l1 (k + 1) y0 y1 y2 y3)) ∧ (∀ y0 y1 y2 y3 y4 y5, LeO (corebankref02_Split.l2 k y0 y1 y2 y3 y4 y5) (corebankref02_Split.l2 (k + 1) y0 y1 y2 y3 y4 y5)) ∧ (∀ y0 y1 y2, LeO (corebankref02_Split.l3 k y0 y1 y2) (corebankref02_Split.l3 (k + 1) y0 y1 y2)) ∧ (∀ y0 y1 y2 y3, LeO (corebankref02_Split.j6 k y0 y1 y2 y3) (corebankref02_Split.j6 (k + 1) y0 y1 y2 y3))
 | 0 => ⟨fun _ _ _ _ r h => by simp [corebankref02_Split.j0] at h, fun _ _ _ _ r h => by simp [corebankref02_Split.j1] at h, fun _ _ _ _ _ _ _ _ r h => by simp [corebankref02_Split.l0] at h, fun _ _ _ _ r h => by simp [corebankref02_Split.l1] at h, fun _ _ _ _ _ _ r h => by simp [corebankref02_Split.l2] at h, fun _ _ _ r h => by simp [corebankref02_Split.l3] at h, fun _ _ _ _ r h => by simp [corebankref02_Split.j6] at h⟩
 | k + 1 => by
  obtain ⟨ih0, ih1, ih2, ih3, ih4, ih5, ih6⟩ := corebankref02_Split.mono_l k
  refine ⟨?_, ?_, ?_, ?_, ?_, ?_, ?_⟩
  ·intro y0 y1 y2 y3
   unfold corebankref02_Split.j0
   repeat' first
   | (with_reducible exact ih0 _ _ _ _)
   | (with_reducible exact ih1 _ _ _ _)
   | (with_reducible exact ih2 _ _ _ _ _ _ _ _)
   | (with_reducible exact ih3 _ _ _ _)
   | (with_reducible exact ih4 _ _ _ _ _ _)
   | (with_reducible exact ih5 _ _ _)
   | (with_reducible exact ih6 _ _ _ _)
   | (with_reducible exact corebankref02_Total.mono _ _)
   | (with_reducible exact LeO.refl _)
   | (with_reducible exact LeO.none _)
   | (with_reducible refine LeO.ite ?_ ?_)
   | (with_reducible refine LeO.bind ?_ (fun _ => ?_))
   | exact ih0 _ _ _ _
   | exact ih1 _ _ _ _
   | exact ih2 _ _ _ _ _ _ _ _
   | exact ih3 _ _ _ _
   | exact ih4 _ _ _ _ _ _
   | exact ih5 _ _ _
   | exact ih6 _ _ _ _
   | exact corebankref02_Total.mono _ _
   | exact LeO.none _
   | refine LeO.ite ?_ ?_
   | refine LeO.bind ?_ (fun _ => ?_)
  ·intro y0 y1 y2 y3
   unfold corebankref02_Split.j1
   repeat' first
   | (with_reducible exact ih0 _ _ _ _)
   | (with_reducible exact ih1 _ _ _ _)
   | (with_reducible exact ih2 _ _ _ _ _ _ _ _)
   | (with_reducible exact ih3 _ _ _ _)
   | (with_reducible exact ih4 _ _ _ _ _ _)
   | (with_reducible exact ih5 _ _ _)
   | (with_reducible exact ih6 _ _ _ _)
   | (with_reducible exact corebankref02_Total.mono _ _)
   | (with_reducible exact LeO.refl _)
   | (with_reducible exact LeO.none _)
   | (with_reducible refine LeO.ite ?_ ?_)
   | (with_reducible refine LeO.bind ?_ (fun _ => ?_))
   | exact ih0 _ _ _ _
   | exact ih1 _ _ _ _
   | exact ih2 _ _ _ _ _ _ _ _
   | exact ih3 _ _ _ _
   | exact ih4 _ _ _ _ _ _
   | exact ih5 _ _ _
   | exact ih6 _ _ _ _
   | exact corebankref02_Total.mono _ _
   | exact LeO.none _
   | refine LeO.ite ?_ ?_
   | refine LeO.bind ?_ (fun _ => ?_)
  ·intro y0 y1 y2 y3 y4 y5 y6 y7
   unfold corebankref02_Split.l0
   repeat' first
   | (with_reducible exact ih0 _ _ _ _)
   | (with_reducible exact ih1 _ _ _ _)
   | (with_reducible exact ih2 _ _ _ _ _ _ _ _)
   | (with_reducible exact ih3 _ _ _ _)
   | (with_reducible exact ih4 _ _ _ _ _ _)
   | (with_reducible exact ih5 _ _ _)
   | (with_reducible exact ih6 _ _ _ _)
   | (with_reducible exact corebankref02_Total.mono _ _)
   | (with_reducible exact LeO.refl _)
   | (with_reducible exact LeO.none _)
   | (with_reducible refine LeO.ite ?_ ?_)
   | (with_reducible refine LeO.bind ?_ (fun _ => ?_))
   | exact ih0 _ _ _ _
   | exact ih1 _ _ _ _
   | exact ih2 _ _ _ _ _ _ _ _
   | exact ih3 _ _ _ _
   | exact ih4 _ _ _ _ _ _
   | exact ih5 _ _ _
   | exact ih6 _ _ _ _
   | exact corebankref02_Total.mono _ _
   | exact LeO.none _
   | refine LeO.ite ?_ ?_
   | refine LeO.bind ?_ (fun _ => ?_)
  ·intro y0 y1 y2 y3
   unfold corebankref02_Split.l1
   repeat' first
   | (with_reducible exact ih0 _ _ _ _)
   | (with_reducible exact ih1 _ _ _ _)
   | (with_reducible exact ih2 _ _ _ _ _ _ _ _)
   | (with_reducible exact ih3 _ _ _ _)
   | (with_reducible exact ih4 _ _ _ _ _ _)
   | (with_reducible exact ih5 _ _ _)
   | (with_reducible exact ih6 _ _ _ _)
   | (with_reducible exact corebankref02_Total.mono _ _)
   | (with_reducible exact LeO.refl _)
   | (with_reducible exact LeO.none _)
   | (with_reducible refine LeO.ite ?_ ?_)
   | (with_reducible refine LeO.bind ?_ (fun _ => ?_))
   | exact ih0 _ _ _ _
   | exact ih1 _ _ _ _
   | exact ih2 _ _ _ _ _ _ _ _
   | exact ih3 _ _ _ _
   | exact ih4 _ _ _ _ _ _
   | exact ih5 _ _ _
   | exact ih6 _ _ _ _
   | exact corebankref02_Total.mono _ _
   | exact LeO.none _
   | refine LeO.ite ?_ ?_
   | refine LeO.bind ?_ (fun _ => ?_)
  ·intro y0 y1 y2 y3 y4 y5
   unfold corebankref02_Split.l2
   repeat' first
   | (with_reducible exact ih0 _ _ _ _)
   | (with_reducible exact ih1 _ _ _ _)
   | (with_reducible exact ih2 _ _ _ _ _ _ _ _)
   | (with_reducible exact ih3 _ _ _ _)
   | (with_reducible exact ih4 _ _ _ _ _ _)
   | (with_reducible exact ih5 _ _ _)
   | (with_reducible exact ih6 _ _ _ _)
   | (with_reducible exact corebankref02_Total.mono _ _)
   | (with_reducible exact LeO.refl _)
   | (with_reducible exact LeO.none _)
   | (with_reducible refine LeO.ite ?_ ?_)
   | (with_reducible refine LeO.bind ?_ (fun _ => ?_))
   | exact ih0 _ _ _ _
   | exact ih1 _ _ _ _
   | exact ih2 _ _ _ _ _ _ _ _
   | exact ih3 _ _ _ _
   | exact ih4 _ _ _ _ _ _
   | exact ih5 _ _ _
   | exact ih6 _ _ _ _
   | exact corebankref02_Total.mono _ _
   | exact LeO.none _
   | refine LeO.ite ?_ ?_
   | refine LeO.bind ?_ (fun _ => ?_)
  ·intro y0 y1 y2
   unfold corebankref02_Split.l3
   repeat' first
   | (with_reducible exact ih0 _ _ _ _)
   | (with_reducible exact ih1 _ _ _ _)
   | (with_reducible exact ih2 _ _ _ _ _ _ _ _)
   | (with_reducible exact ih3 _ _ _ _)
   | (with_reducible exact ih4 _ _ _ _ _ _)
   | (with_reducible exact ih5 _ _ _)
   | (with_reducible exact ih6 _ _ _ _)
   | (with_reducible exact corebankref02_Total.mono _ _)
   | (with_reducible exact LeO.refl _)
   | (with_reducible exact LeO.none _)
   | (with_reducible refine LeO.ite ?_ ?_)
   | (with_reducible refine LeO.bind ?_ (fun _ => ?_))
   | exact ih0 _ _ _ _
   | exact ih1 _ _ _ _
   | exact ih2 _ _ _ _ _ _ _ _
   | exact ih3 _ _ _ _
   | exact ih4 _ _ _ _ _ _
   | exact ih5 _ _ _
   | exact ih6 _ _ _ _
   | exact corebankref02_Total.mono _ _
   | exact LeO.none _
   | refine LeO.ite ?_ ?_
   | refine LeO.bind ?_ (fun _ => ?_)
  ·intro y0 y1 y2 y3
   unfold corebankref02_Split.j6
   repeat' first
   | (with_reducible exact ih0 _ _ _ _)
   | (with_reducible exact ih1 _ _ _ _)
   | (with_reducible exact ih2 _ _ _ _ _ _ _ _)
   | (with_reducible exact ih3 _ _ _ _)
   | (with_reducible exact ih4 _ _ _ _ _ _)
   | (with_reducible exact ih5 _ _ _)
   | (with_reducible exact ih6 _ _ _ _)
   | (with_reducible exact corebankref02_Total.mono _ _)
   | (with_reducible exact LeO.refl _)
   | (with_reducible exact LeO.none _)
   | (with_reducible refine LeO.ite ?_ ?_)
   | (with_reducible refine LeO.bind ?_ (fun _ => ?_))
   | exact ih0 _ _ _ _
   | exact ih1 _ _ _ _
   | exact ih2 _ _ _ _ _ _ _ _
   | exact ih3 _ _ _ _
   | exact ih4 _ _ _ _ _ _
   | exact ih5 _ _ _
   | exact ih6 _ _ _ _
   | exact corebankref02_Total.mono _ _
   | exact LeO.none _
   | refine LeO.ite ?_ ?_
   | refine LeO.bind ?_ (fun _ => ?_)
theorem corebankref02_Split.mono : ∀ a0 a1 k, LeO (corebankref02_Split.f k a0 a1) (corebankref02_Split.f (k + 1) a0 a1) := by
 intro a0 a1 k
 obtain ⟨ih0, ih1, ih2, ih3, ih4, ih5, ih6⟩ := corebankref02_Split.mono_l k
 unfold corebankref02_Split.f
 repeat' first
   | (with_reducible exact ih0 _ _ _ _)
   | (with_reducible exact ih1 _ _ _ _)
   | (with_reducible exact ih2 _ _ _ _ _ _ _ _)
   | (with_reducible exact ih3 _ _ _ _)
   | (with_reducible exact ih4 _ _ _ _ _ _)
   | (with_reducible exact ih5 _ _ _)
   | (with_reducible exact ih6 _ _ _ _)
   | (with_reducible exact corebankref02_Total.mono _ _)
   | (with_reducible exact LeO.refl _)
   | (with_reducible exact LeO.none _)
   | (with_reducible refine LeO.ite ?_ ?_)
   | (with_reducible refine LeO.bind ?_ (fun _ => ?_))
   | exact ih0 _ _ _ _
   | exact ih1 _ _ _ _
   | exact ih2 _ _ _ _ _ _ _ _
   | exact ih3 _ _ _ _
   | exact ih4 _ _ _ _ _ _
   | exact ih5 _ _ _
   | exact ih6 _ _ _ _
   | exact corebankref02_Total.mono _ _
   | exact LeO.none _
   | refine LeO.ite ?_ ?_
   | refine LeO.bind ?_ (fun _ => ?_)
set_option maxHeartbeats 8000000 in
set_option maxRecDepth 100000 in
theorem corebankref02_Split.calls (k : Nat) (a0 : Int) (A1 : Option Addr) (c1 : Nat) (l1 : List Int) (r1 : List Int) (r2 : Int) (w : World) (hr1 : Kd.C (Kd.int .i64) w A1 l1.length l1) (hc1 : l1.length ≤ c1) (h : corebankref02_Split.f k a0 l1 = some (r1, r2)) :
  Calls Tryd.prog 25 #[.int .i64 a0, .slice A1 l1.length c1] w fun e w' => ∃ v0_ : Value, e = .returned (.tuple #[v0_, .int .i64 r2]) ∧ Kd.R (Kd.int .i64) 3 w' w.heap.size (fun _ => True) v0_ r1 ∧ Below w.heap.size w w' := by
 have hu24 := Tryd.underlying24
 have HR1 := Aside0.mk hr1
 have HC1 := Aside0.mk hc1
 clear hr1 hc1
 have HB := Aside0.mk (Below.refl w.heap.size w)
 have H : ((corebankref02_Total.f k l1).bind fun bt455 => ((corebankref02_Good.f a0).bind fun t457 => (if t457 = true then (corebankref02_Split.j0 k a0 l1 bt455.1 (!bt455.2)) else (corebankref02_Split.j0 k a0 l1 bt455.1 true)))) = some (r1, r2) := h
 clear h
 replace H := Option.bind_eq_some_iff.mp H
 obtain ⟨⟨t455, t456⟩, A30, H⟩ := H
 replace H : ((corebankref02_Good.f a0).bind fun t457 => (if t457 = true then (corebankref02_Split.j0 k a0 l1 t455 (!t456)) else (corebankref02_Split.j0 k a0 l1 t455 true))) = some (r1, r2) := H
 have A3 := Aside0.mk A30
 clear A30
 have HC4 := Aside0.mk H
 clear H
 go_enter Tryd.func25, Tryd.ntmps25
 go_upto_region 2 with (first | (go_at_call 26; (with_reducible refine (corebankref02_Total.calls k _ _ l1 t455 t456 _ ?side1 ?side2 A3.out).mono ?_); (case side1 => repeat (first | exact HR1.out | (with_reducible refine Kd.C_alloc ?_ _) | (with_reducible refine Kd.C_drewN ?_ _) | (with_reducible refine Kd.C_drew ?_))); (case side2 => exact HC1.out); rintro e w' ⟨rfl, ⟨nd, rfl⟩⟩; (try first | exact ⟨rfl, _, World.drewN_drewN _ _ _⟩ | exact ⟨rfl, _, Eq.trans (World.drewN_drewN _ _ _) (congrArg (World.drewN _) (Nat.add_assoc _ _ _))⟩)))
 repeat (go_quiet (first | (go_at_call 26; (with_reducible refine (corebankref02_Total.calls k _ _ l1 t455 t456 _ ?side1 ?side2 A3.out).mono ?_); (case side1 => repeat (first | exact HR1.out | (with_reducible refine Kd.C_alloc ?_ _) | (with_reducible refine Kd.C_drewN ?_ _) | (with_reducible refine Kd.C_drew ?_))); (case side2 => exact HC1.out); rintro e w' ⟨rfl, ⟨nd, rfl⟩⟩; (try first | exact ⟨rfl, _, World.drewN_drewN _ _ _⟩ | exact ⟨rfl, _, Eq.trans (World.drewN_drewN _ _ _) (congrArg (World.drewN _) (Nat.add_assoc _ _ _))⟩))); go_upto_region 2 with (first | (go_at_call 26; (with_reducible refine (corebankref02_Total.calls k _ _ l1 t455 t456 _ ?side1 ?side2 A3.out).mono ?_); (case side1 => repeat (first | exact HR1.out | (with_reducible refine Kd.C_alloc ?_ _) | (with_reducible refine Kd.C_drewN ?_ _) | (with_reducible refine Kd.C_drew ?_))); (case side2 => exact HC1.out); rintro e w' ⟨rfl, ⟨nd, rfl⟩⟩; (try first | exact ⟨rfl, _, World.drewN_drewN _ _ _⟩ | exact ⟨rfl, _, Eq.trans (World.drewN_drewN _ _ _) (congrArg (World.drewN _) (Nat.add_assoc _ _ _))⟩))))
 (try simp only [Act.put, List.setIfInBounds_toArray, List.set_cons_zero, List.set_cons_succ])
 go_cut [32] (fun v32 wc => ∃ (kq : Nat) (x32_3 : Bool), v32 = .bool x32_3 ∧ Aside0 (corebankref02_Split.j0 kq a0 l1 t455 x32_3 = some (r1, r2)) ∧ Aside0 (kq ≤ k) ∧ Aside0 (Below w.heap.size w wc))
 case first =>
  have H := HC4.out
  clear HC4
  replace H := Option.bind_eq_some_iff.mp H
  obtain ⟨t457, A50, H⟩ := H
  replace H : (if t457 = true then (corebankref02_Split.j0 k a0 l1 t455 (!t456)) else (corebankref02_Split.j0 k a0 l1 t455 true)) = some (r1, r2) := H
  have A5 := Aside0.mk A50
  clear A50
  by_cases c6 : t457 = true
  ·subst c6
   have H1 : (corebankref02_Split.j0 k a0 l1 t455 (!t456)) = some (r1, r2) := by rw [if_pos rfl] at H; exact H
   clear H
   have H := H1
   clear H1
   have H' := Aside0.mk H
   clear H
   go_wp2_with (first | (go_at_call 27; (with_reducible refine (corebankref02_Good.calls a0 true _ A5.out).mono ?_); rintro e w' ⟨rfl, ⟨nd, rfl⟩⟩; (try first | exact ⟨rfl, _, World.drewN_drewN _ _ _⟩ | exact ⟨rfl, _, Eq.trans (World.drewN_drewN _ _ _) (congrArg (World.drewN _) (Nat.add_assoc _ _ _))⟩)))
   repeat (go_quiet (first | (go_at_call 27; (with_reducible refine (corebankref02_Good.calls a0 true _ A5.out).mono ?_); rintro e w' ⟨rfl, ⟨nd, rfl⟩⟩; (try first | exact ⟨rfl, _, World.drewN_drewN _ _ _⟩ | exact ⟨rfl, _, Eq.trans (World.drewN_drewN _ _ _) (congrArg (World.drewN _) (Nat.add_assoc _ _ _))⟩))); try go_wp2_with (first | (go_at_call 27; (with_reducible refine (corebankref02_Good.calls a0 true _ A5.out).mono ?_); rintro e w' ⟨rfl, ⟨nd, rfl⟩⟩; (try first | exact ⟨rfl, _, World.drewN_drewN _ _ _⟩ | exact ⟨rfl, _, Eq.trans (World.drewN_drewN _ _ _) (congrArg (World.drewN _) (Nat.add_assoc _ _ _))⟩))))
   go_meet
   case rel => exact ⟨_, (!t456), qs_, H', ⟨qo_⟩, ⟨qb_ HB.out⟩⟩
  ·replace c6 := Bool.eq_false_iff.mpr c6
   subst c6
   have H1 : (corebankref02_Split.j0 k a0 l1 t455 true) = some (r1, r2) := by rw [if_neg (show ¬ (false = true) by decide)] at H; exact H
   clear H
   have H := H1
   clear H1
   have H' := Aside0.mk H
   clear H
   go_wp2_with (first | (go_at_call 27; (with_reducible refine (corebankref02_Good.calls a0 false _ A5.out).mono ?_); rintro e w' ⟨rfl, ⟨nd, rfl⟩⟩; (try first | exact ⟨rfl, _, World.drewN_drewN _ _ _⟩ | exact ⟨rfl, _, Eq.trans (World.drewN_drewN _ _ _) (congrArg (World.drewN _) (Nat.add_assoc _ _ _))⟩)))
   repeat (go_quiet (first | (go_at_call 27; (with_reducible refine (corebankref02_Good.calls a0 false _ A5.out).mono ?_); rintro e w' ⟨rfl, ⟨nd, rfl⟩⟩; (try first | exact ⟨rfl, _, World.drewN_drewN _ _ _⟩ | exact ⟨rfl, _, Eq.trans (World.drewN_drewN _ _ _) (congrArg (World.drewN _) (Nat.add_assoc _ _ _))⟩))); try go_wp2_with (first | (go_at_call 27; (with_reducible refine (corebankref02_Good.calls a0 false _ A5.out).mono ?_); rintro e w' ⟨rfl, ⟨nd, rfl⟩⟩; (try first | exact ⟨rfl, _, World.drewN_drewN _ _ _⟩ | exact ⟨rfl, _, Eq.trans (World.drewN_drewN _ _ _) (congrArg (World.drewN _) (Nat.add_assoc _ _ _))⟩))))
   go_meet
   case rel => exact ⟨_, (true), qs_, H', ⟨qo_⟩, ⟨qb_ HB.out⟩⟩
 case rest =>
  clear HC4
  try clear c1
  try clear c2
  try clear p2
  try clear c6
  obtain ⟨kq, x32_3, rfl, HA, HJ3, HB⟩ := hcut
  cases kq with
  | zero => exact absurd HA.out (by simp [corebankref02_Split.j0])
  | succ kj3 =>
   have H := HA.out
   clear HA
   simp only [corebankref02_Split.j0] at H
   by_cases c7 : x32_3 = true
   ·subst c7
    have H1 : (some (([] : List Int), 1)) = some (r1, r2) := by rw [if_pos rfl] at H; exact H
    clear H
    have H := H1
    clear H1
    simp only [Option.some.injEq, Prod.mk.injEq] at H
    obtain ⟨rfl, rfl⟩ := H
    go_wp2
    repeat (go_quiet (fail); try go_wp2)
    go_ret2
    exact ⟨_, qe_, by first | exact Kd.R_nil _ _ _ _ _ | exact Kd.N_nil _ _ _ _ _ | exact Kd.V_nil _ _ _ _ _ | exact Kd.Q_nil _ _ _ _ _ | exact Kd.S_nil _ _ _ _ _, qb_ HB.out⟩
   ·replace c7 := Bool.eq_false_iff.mpr c7
    subst c7
    have H1 : (if a0 < 0 then (corebankref02_Split.j1 kj3 a0 l1 t455 (wrap64 (-a0))) else (corebankref02_Split.j1 kj3 a0 l1 t455 a0)) = some (r1, r2) := by rw [if_neg (show ¬ (false = true) by decide)] at H; exact H
    clear H
    have H := H1
    clear H1
    have HC8 := Aside0.mk H
    clear H
    go_upto_if 35 with (fail)
    repeat (go_quiet (fail); go_upto_if 35 with (fail))
    go_cut [8] (fun v8 wc => ∃ (kq : Nat) (x8_7 : Int), v8 = .int .i64 x8_7 ∧ Aside0 (corebankref02_Split.j1 kq a0 l1 t455 x8_7 = some (r1, r2)) ∧ Aside0 (kq ≤ kj3) ∧ Aside0 (Below w.heap.size w wc))
    case first =>
     have H := HC8.out
     clear HC8
     by_cases c9 : a0 < 0
     ·rw [if_pos c9] at H
      have c9b0 : decide (a0 < 0) = true := decide_eq_true c9
      clear c9
      (first | rw [c9b0] | (simp only [i64_w, i32_w]; rw [c9b0]) | skip)
      have H' := Aside0.mk H
      clear H
      go_wp2
      repeat (go_quiet (fail); try go_wp2)
      go_meet
      case rel => exact ⟨_, (wrap64 (-a0)), qs_, H', ⟨by have := HJ3.out; first | omega | exact Nat.le_refl _⟩, ⟨qb_ HB.out⟩⟩
     ·rw [if_neg c9] at H
      have c9b0 : decide (a0 < 0) = false := decide_eq_false c9
      clear c9
      (first | rw [c9b0] | (simp only [i64_w, i32_w]; rw [c9b0]) | skip)
      have H' := Aside0.mk H
      clear H
      go_wp2
      repeat (go_quiet (fail); try go_wp2)
      go_meet
      case rel => exact ⟨_, (a0), qs_, H', ⟨by have := HJ3.out; first | omega | exact Nat.le_refl _⟩, ⟨qb_ HB.out⟩⟩
    case rest =>
     clear HC8
     try clear c1
     try clear c2
     try clear p2
     try clear c6
     try clear p6
     try clear c7
     try clear c9
     try clear c9b0
     try clear p2
     obtain ⟨kq, x8_7, rfl, HA, HJ7, HB⟩ := hcut
     cases kq with
     | zero => exact absurd HA.out (by simp [corebankref02_Split.j1])
     | succ kj7 =>
      have H := HA.out
      clear HA
      simp only [corebankref02_Split.j1] at H
      obtain ⟨y458, hy458⟩ : ∃ y_ : List Int, y_ = (([] : List Int)) := ⟨_, rfl⟩
      replace H : (corebankref02_Split.l0 kj7 a0 l1 t455 x8_7 x8_7 y458 (([] : List Int)) 0) = some (r1, r2) := by first | (rw [hy458]; with_reducible exact H) | (have H2_ := (Option.bind_some _ _).symm.trans H; rw [hy458]; with_reducible exact H2_) | (have H2_ := (Option.bind_some _ _).symm.trans H; with_reducible exact H2_) | with_reducible exact H | (rw [hy458]; exact H) | exact H
      have Ny458 := Aside0.mk hy458
      clear hy458
      obtain ⟨y461, hy461⟩ : ∃ y_ : List Int, y_ = (([] : List Int)) := ⟨_, rfl⟩
      replace H : (corebankref02_Split.l0 kj7 a0 l1 t455 x8_7 x8_7 y458 y461 0) = some (r1, r2) := by first | (rw [hy461]; with_reducible exact H) | (have H2_ := (Option.bind_some _ _).symm.trans H; rw [hy461]; with_reducible exact H2_) | (have H2_ := (Option.bind_some _ _).symm.trans H; with_reducible exact H2_) | with_reducible exact H | (rw [hy461]; exact H) | exact H
      have Ny461 := Aside0.mk hy461
      clear hy461
      have H' := Aside0.mk H
      clear H
      go_wp2_with (first | ((with_reducible refine gate_dst (N := 39) rfl ?_); refine Kd.R_lit (Kd.int .i64) _ 3 ?hg (N := 39) ?hd (xs := ([] : List Int)) (inner := []) (ok := fun _ => True) (okp := fun _ => True) ?hr ?hp (fun _ hk => hk) trivial (Below.refl _ _) (Nat.le_refl _) (by simp) ?_; (case hd => rfl); (case hg => rfl); (case hr => first | (go_simp; done) | (go_simp; rfl)); (case hp => exact (Reps.none _ _)); intro v459 w10 ho11 hb hg_ hnew_; clear hg_ hnew_; (first | rw [← Ny458.out] at ho11 | (simp only [Int.reduceToNat] at ho11; rw [← Ny458.out] at ho11)); have n0_ := Aside0.mk (Kd.R_lower ho11 (below_size (qb_ HB.out))); have n1_ := Aside0.mk (below_step (qb_ HB.out) hb); clear HB; have HO460 := n0_; have HB := n1_; clear n0_ n1_; clear hb ho11) | ((with_reducible refine gate_dst (N := 40) rfl ?_); refine Kd.R_lit (Kd.int .i64) _ 3 ?hg (N := 40) ?hd (xs := ([] : List Int)) (inner := []) (ok := fun _ => True) (okp := fun _ => True) ?hr ?hp (fun _ hk => hk) trivial (Below.refl _ _) (Nat.le_refl _) (by simp) ?_; (case hd => rfl); (case hg => rfl); (case hr => first | (go_simp; done) | (go_simp; rfl)); (case hp => exact (Reps.none _ _)); intro v462 w12 ho13 hb hg_ hnew_; clear hg_ hnew_; (first | rw [← Ny461.out] at ho13 | (simp only [Int.reduceToNat] at ho13; rw [← Ny461.out] at ho13)); have n0_ := Aside0.mk (Kd.R_elder' (by (with_reducible repeat (first | apply Kd.R_alloc | apply Kd.R_drewN | apply Kd.R_drew)); exact HO460.out) (Kd.R_base ho13) hb); have n1_ := Aside0.mk (Kd.R_lower (Kd.R_new' ho13 (Kd.R_lt (by (with_reducible repeat (first | apply Kd.R_alloc | apply Kd.R_drewN | apply Kd.R_drew)); exact HO460.out))) (below_size (qb_ HB.out))); have n2_ := Aside0.mk (below_step (qb_ HB.out) hb); clear HO460; clear HB; have HO460 := n0_; have HO463 := n1_; have HB := n2_; clear n0_ n1_ n2_; clear hb ho13))
      repeat (go_quiet (first | ((with_reducible refine gate_dst (N := 39) rfl ?_); refine Kd.R_lit (Kd.int .i64) _ 3 ?hg (N := 39) ?hd (xs := ([] : List Int)) (inner := []) (ok := fun _ => True) (okp := fun _ => True) ?hr ?hp (fun _ hk => hk) trivial (Below.refl _ _) (Nat.le_refl _) (by simp) ?_; (case hd => rfl); (case hg => rfl); (case hr => first | (go_simp; done) | (go_simp; rfl)); (case hp => exact (Reps.none _ _)); intro v459 w10 ho11 hb hg_ hnew_; clear hg_ hnew_; (first | rw [← Ny458.out] at ho11 | (simp only [Int.reduceToNat] at ho11; rw [← Ny458.out] at ho11)); have n0_ := Aside0.mk (Kd.R_lower ho11 (below_size (qb_ HB.out))); have n1_ := Aside0.mk (below_step (qb_ HB.out) hb); clear HB; have HO460 := n0_; have HB := n1_; clear n0_ n1_; clear hb ho11) | ((with_reducible refine gate_dst (N := 40) rfl ?_); refine Kd.R_lit (Kd.int .i64) _ 3 ?hg (N := 40) ?hd (xs := ([] : List Int)) (inner := []) (ok := fun _ => True) (okp := fun _ => True) ?hr ?hp (fun _ hk => hk) trivial (Below.refl _ _) (Nat.le_refl _) (by simp) ?_; (case hd => rfl); (case hg => rfl); (case hr => first | (go_simp; done) | (go_simp; rfl)); (case hp => exact (Reps.none _ _)); intro v462 w12 ho13 hb hg_ hnew_; clear hg_ hnew_; (first | rw [← Ny461.out] at ho13 | (simp only [Int.reduceToNat] at ho13; rw [← Ny461.out] at ho13)); have n0_ := Aside0.mk (Kd.R_elder' (by (with_reducible repeat (first | apply Kd.R_alloc | apply Kd.R_drewN | apply Kd.R_drew)); exact HO460.out) (Kd.R_base ho13) hb); have n1_ := Aside0.mk (Kd.R_lower (Kd.R_new' ho13 (Kd.R_lt (by (with_reducible repeat (first | apply Kd.R_alloc | apply Kd.R_drewN | apply Kd.R_drew)); exact HO460.out))) (below_size (qb_ HB.out))); have n2_ := Aside0.mk (below_step (qb_ HB.out) hb); clear HO460; clear HB; have HO460 := n0_; have HO463 := n1_; have HB := n2_; clear n0_ n1_ n2_; clear hb ho13)); try go_wp2_with (first | ((with_reducible refine gate_dst (N := 39) rfl ?_); refine Kd.R_lit (Kd.int .i64) _ 3 ?hg (N := 39) ?hd (xs := ([] : List Int)) (inner := []) (ok := fun _ => True) (okp := fun _ => True) ?hr ?hp (fun _ hk => hk) trivial (Below.refl _ _) (Nat.le_refl _) (by simp) ?_; (case hd => rfl); (case hg => rfl); (case hr => first | (go_simp; done) | (go_simp; rfl)); (case hp => exact (Reps.none _ _)); intro v459 w10 ho11 hb hg_ hnew_; clear hg_ hnew_; (first | rw [← Ny458.out] at ho11 | (simp only [Int.reduceToNat] at ho11; rw [← Ny458.out] at ho11)); have n0_ := Aside0.mk (Kd.R_lower ho11 (below_size (qb_ HB.out))); have n1_ := Aside0.mk (below_step (qb_ HB.out) hb); clear HB; have HO460 := n0_; have HB := n1_; clear n0_ n1_; clear hb ho11) | ((with_reducible refine gate_dst (N := 40) rfl ?_); refine Kd.R_lit (Kd.int .i64) _ 3 ?hg (N := 40) ?hd (xs := ([] : List Int)) (inner := []) (ok := fun _ => True) (okp := fun _ => True) ?hr ?hp (fun _ hk => hk) trivial (Below.refl _ _) (Nat.le_refl _) (by simp) ?_; (case hd => rfl); (case hg => rfl); (case hr => first | (go_simp; done) | (go_simp; rfl)); (case hp => exact (Reps.none _ _)); intro v462 w12 ho13 hb hg_ hnew_; clear hg_ hnew_; (first | rw [← Ny461.out] at ho13 | (simp only [Int.reduceToNat] at ho13; rw [← Ny461.out] at ho13)); have n0_ := Aside0.mk (Kd.R_elder' (by (with_reducible repeat (first | apply Kd.R_alloc | apply Kd.R_drewN | apply Kd.R_drew)); exact HO460.out) (Kd.R_base ho13) hb); have n1_ := Aside0.mk (Kd.R_lower (Kd.R_new' ho13 (Kd.R_lt (by (with_reducible repeat (first | apply Kd.R_alloc | apply Kd.R_drewN | apply Kd.R_drew)); exact HO460.out))) (below_size (qb_ HB.out))); have n2_ := Aside0.mk (below_step (qb_ HB.out) hb); clear HO460; clear HB; have HO460 := n0_; have HO463 := n1_; have HB := n2_; clear n0_ n1_ n2_; clear hb ho13)))
      go_loopg [8, 10, 11, 12] kj7 (fun kq v8 v10 v11 v12 w' => ∃ (x8_3 : Int) (x10_3 : List Int) (x11_3 : List Int) (x12_3 : Int), v8 = .int .i64 x8_3 ∧ v12 = .int .i64 x12_3 ∧ Aside0 (corebankref02_Split.l0 kq a0 l1 t455 x8_3 x8_7 x10_3 x11_3 x12_3 = some (r1, r2)) ∧ Aside0 (kq ≤ kj7) ∧ Aside0 (Kd.R (Kd.int .i64) 3 w' w.heap.size (fun k_ => some k_ ≠ (v11 : Value).ownBlock) v10 x10_3) ∧ Aside0 (Kd.R (Kd.int .i64) 3 w' w.heap.size (fun k_ => some k_ ≠ (v10 : Value).ownBlock) v11 x11_3) ∧ Aside0 (Below w.heap.size w w'))
      case atStart => exact ⟨(x8_7), (y458), (y461), (0), qs_, qs_, H', ⟨Nat.le_refl _⟩, ⟨by (with_reducible repeat (first | apply Kd.R_alloc | apply Kd.R_drewN | apply Kd.R_drew)); exact Kd.R_mono HO460.out (fun _ hk => hk.2)⟩, ⟨by (with_reducible repeat (first | apply Kd.R_alloc | apply Kd.R_drewN | apply Kd.R_drew)); exact Kd.R_mono HO463.out (fun _ hk => hk.2)⟩, ⟨qb_ HB.out⟩⟩
      case round =>
       clear H'
       try clear c1
       try clear c2
       try clear p2
       try clear c6
       try clear p6
       try clear c7
       try clear c9
       try clear c9b0
       try clear p2
       try clear p6
       obtain ⟨x8_3, x10_3, x11_3, x12_3, rfl, rfl, HA, HK3, HO_10, HO_11, HB⟩ := hrel
       cases gk with
       | zero => exact absurd HA.out (by simp [corebankref02_Split.l0])
       | succ k3 =>
        have H := HA.out
        clear HA
        simp only [corebankref02_Split.l0] at H
        by_cases c14 : x12_3 < (l1.length : Int)
        ·rw [if_pos c14] at H
         have c14b0 : decide (x12_3 < (l1.length : Int)) = true := decide_eq_true c14
         clear c14
         by_cases c15 : 0 ≤ x12_3
         ·rw [if_pos c15] at H
          have c15b0 : decide (0 ≤ x12_3) = true := decide_eq_true c15
          clear c15
          replace H := Option.bind_eq_some_iff.mp H
          obtain ⟨⟨t465, t466⟩, A160, H⟩ := H
          replace H : ((corebankref01_Div.f t465 t466 t455).bind fun bt467 => ((corebankref01_Int.f bt467.1 bt467.2.1).bind fun bt472 => (if x10_3.length < 17592186044416 then (if x11_3.length < 17592186044416 then (corebankref02_Split.l0 k3 a0 l1 t455 (wrap64 (x8_3 - bt472.1)) x8_7 (x10_3 ++ [bt472.1]) (x11_3 ++ [bt467.2.2.1]) (wrap64 (x12_3 + 1))) else (none)) else (none)))) = some (r1, r2) := H
          have A16 := Aside0.mk A160
          clear A160
          replace H := Option.bind_eq_some_iff.mp H
          obtain ⟨⟨t467, t468, t469, t470⟩, A170, H⟩ := H
          replace H : ((corebankref01_Int.f t467 t468).bind fun bt472 => (if x10_3.length < 17592186044416 then (if x11_3.length < 17592186044416 then (corebankref02_Split.l0 k3 a0 l1 t455 (wrap64 (x8_3 - bt472.1)) x8_7 (x10_3 ++ [bt472.1]) (x11_3 ++ [t469]) (wrap64 (x12_3 + 1))) else (none)) else (none))) = some (r1, r2) := H
          have A17 := Aside0.mk A170
          clear A170
          replace H := Option.bind_eq_some_iff.mp H
          obtain ⟨⟨t472, t473⟩, A180, H⟩ := H
          replace H : (if x10_3.length < 17592186044416 then (if x11_3.length < 17592186044416 then (corebankref02_Split.l0 k3 a0 l1 t455 (wrap64 (x8_3 - t472)) x8_7 (x10_3 ++ [t472]) (x11_3 ++ [t469]) (wrap64 (x12_3 + 1))) else (none)) else (none)) = some (r1, r2) := H
          have A18 := Aside0.mk A180
          clear A180
          by_cases c19 : x10_3.length < 17592186044416
          ·rw [if_pos c19] at H
           have LMc19 := Aside0.mk c19
           clear c19
           obtain ⟨y474, hy474⟩ : ∃ y_ : List Int, y_ = (x10_3 ++ [t472]) := ⟨_, rfl⟩
           replace H : (if x11_3.length < 17592186044416 then (corebankref02_Split.l0 k3 a0 l1 t455 (wrap64 (x8_3 - t472)) x8_7 y474 (x11_3 ++ [t469]) (wrap64 (x12_3 + 1))) else (none)) = some (r1, r2) := by first | (rw [hy474]; with_reducible exact H) | (have H2_ := (Option.bind_some _ _).symm.trans H; rw [hy474]; with_reducible exact H2_) | (have H2_ := (Option.bind_some _ _).symm.trans H; with_reducible exact H2_) | with_reducible exact H | (rw [hy474]; exact H) | exact H
           have Ny474 := Aside0.mk hy474
           clear hy474
           by_cases c20 : x11_3.length < 17592186044416
           ·rw [if_pos c20] at H
            have LMc20 := Aside0.mk c20
            clear c20
            obtain ⟨y477, hy477⟩ : ∃ y_ : List Int, y_ = (x11_3 ++ [t469]) := ⟨_, rfl⟩
            replace H : (corebankref02_Split.l0 k3 a0 l1 t455 (wrap64 (x8_3 - t472)) x8_7 y474 y477 (wrap64 (x12_3 + 1))) = some (r1, r2) := by first | (rw [hy477]; with_reducible exact H) | (have H2_ := (Option.bind_some _ _).symm.trans H; rw [hy477]; with_reducible exact H2_) | (have H2_ := (Option.bind_some _ _).symm.trans H; with_reducible exact H2_) | with_reducible exact H | (rw [hy477]; exact H) | exact H
            have Ny477 := Aside0.mk hy477
            clear hy477
            have H' := Aside0.mk H
            clear H
            have p464 : 0 ≤ (x12_3 : Int) := of_decide_eq_true (by first | (with_reducible assumption) | assumption)
            have q464 : x12_3 < (l1.length : Int) := of_decide_eq_true (by first | (with_reducible assumption) | assumption)
            obtain ⟨ad464, e464, hx464_0⟩ := Kd.at_int HR1.out x12_3 p464 q464
            cases e464
            replace hx464_0 := (HB.out.cell (World.block_lt_of_cell? w _ hx464_0)).trans hx464_0
            replace p464 := eq_true p464
            replace q464 := eq_true q464
            go_wp2_with (first | (go_at_call 19; (with_reducible refine (corebankref01_Mul.calls x8_7 (rd l1 x12_3) t465 t466 _ A16.out).mono ?_); rintro e w21 ⟨rfl, hb⟩; have n0_ := Aside0.mk (Kd.R_below (by (with_reducible repeat (first | apply Kd.R_alloc | apply Kd.R_drewN | apply Kd.R_drew)); exact HO_10.out) hb); have n1_ := Aside0.mk (Kd.R_below (by (with_reducible repeat (first | apply Kd.R_alloc | apply Kd.R_drewN | apply Kd.R_drew)); exact HO_11.out) hb); have n2_ := Aside0.mk (below_step (qb_ HB.out) hb); clear HO_10; clear HO_11; clear HB; have HO_10 := n0_; have HO_11 := n1_; have HB := n2_; clear n0_ n1_ n2_; (try clear hb); (try clear hb2); (try clear hk); (try clear hi)) | (go_at_call 31; (with_reducible refine (corebankref01_Div.calls t465 t466 t455 t467 t468 t469 t470 _ A17.out).mono ?_); rintro e w22 ⟨rfl, hb⟩; have n0_ := Aside0.mk (Kd.R_below (by (with_reducible repeat (first | apply Kd.R_alloc | apply Kd.R_drewN | apply Kd.R_drew)); exact HO_10.out) hb); have n1_ := Aside0.mk (Kd.R_below (by (with_reducible repeat (first | apply Kd.R_alloc | apply Kd.R_drewN | apply Kd.R_drew)); exact HO_11.out) hb); have n2_ := Aside0.mk (below_step (qb_ HB.out) hb); clear HO_10; clear HO_11; clear HB; have HO_10 := n0_; have HO_11 := n1_; have HB := n2_; clear n0_ n1_ n2_; (try clear hb); (try clear hb2); (try clear hk); (try clear hi)) | ((with_reducible refine gate_dst (N := 13) rfl ?_); refine be_ (N := 13) (cs := #[.int .i64 0, .int .u64 0]) (t := 24) ?_; intro gb471 hg w23 hbox hb; have n0_ := Aside0.mk (Kd.R_below (by (with_reducible repeat (first | apply Kd.R_alloc | apply Kd.R_drewN | apply Kd.R_drew)); exact HO_10.out) hb); have n1_ := Aside0.mk (Kd.R_below (by (with_reducible repeat (first | apply Kd.R_alloc | apply Kd.R_drewN | apply Kd.R_drew)); exact HO_11.out) hb); have n2_ := Aside0.mk (below_step (qb_ HB.out) hb); have n3_ := Aside0.mk (hbox); have n4_ := Aside0.mk (bz_ hg (qb_ HB.out) : w.heap.size ≤ gb471); have n5_ := n4_; clear HO_10; clear HO_11; clear HB; have HO_10 := n0_; have HO_11 := n1_; have HB := n2_; have BK471 := n3_; have GW471 := n4_; have GE471 := n5_; clear n0_ n1_ n2_ n3_ n4_ n5_; clear hb hbox hg; have hcz24_0 : w23.cell? ⟨gb471, 0, none⟩ = some (.int .i64 0) := (blk_cell BK471.out 0).trans rfl; have hcz24_1 : w23.cell? ⟨gb471, 1, none⟩ = some (.int .u64 0) := (blk_cell BK471.out 1).trans rfl; have hfz24_0 := blk_frozen BK471.out 0; have hfz24_1 := blk_frozen BK471.out 1) | (go_at_call 32; (with_reducible refine (corebankref01_Int.calls t467 t468 t472 t473 _ A18.out).mono ?_); rintro e w25 ⟨rfl, hb⟩; have n0_ := Aside0.mk (Kd.R_below (by (with_reducible repeat (first | apply Kd.R_alloc | apply Kd.R_drewN | apply Kd.R_drew)); exact (Kd.R_mono (Kd.R_far (p := ⟨gb471, 1, none⟩) (Kd.R_far (p := ⟨gb471, 0, none⟩) (Kd.R_types HO_10.out BK471.out (by decide)) (fun _ hk => hk.2) (.int .i64 t467)) (fun _ hk => hk.2) (.int .u64 t468)) (fun _ h_ => h_.1))) hb); have n1_ := Aside0.mk (Kd.R_below (by (with_reducible repeat (first | apply Kd.R_alloc | apply Kd.R_drewN | apply Kd.R_drew)); exact (Kd.R_mono (Kd.R_far (p := ⟨gb471, 1, none⟩) (Kd.R_far (p := ⟨gb471, 0, none⟩) (Kd.R_types HO_11.out BK471.out (by decide)) (fun _ hk => hk.2) (.int .i64 t467)) (fun _ hk => hk.2) (.int .u64 t468)) (fun _ h_ => h_.1))) hb); have n2_ := Aside0.mk (blk_below (g := gb471) (o := .cells #[.int .i64 t467, .int .u64 t468] 24 (0, 0)) (qpp_ #[.int .i64 t467, .int .u64 0] 1 #[.int .i64 0, .int .u64 0] 0 BK471.out) hb); have n3_ := Aside0.mk (below_step (qb1_ GE471.out HB.out) hb); clear HO_10; clear HO_11; clear BK471; clear HB; have HO_10 := n0_; have HO_11 := n1_; have BK471 := n2_; have HB := n3_; clear n0_ n1_ n2_ n3_; (try clear hb); (try clear hb2); (try clear hk); (try clear hi)) | ((with_reducible refine gate_builtin (b := .append) (xs := #[.tmp 64, .tmp 66]) rfl ?_); at_builtin; refine Kd.R_append (Kd.int .i64) (w0 := w) w.heap.size rfl (.tmp 64) (.tmp 66) 41 3 (.int .i64 0) 8 rfl Tryd.underlying41 info3 rfl (by decide) (by omega) u10 x10_3 t472 [.int .i64 t472] (fun k_ => some k_ ≠ (u11 : Value).ownBlock) (fun _ => False) rfl rfl ?aP (fun _ hk => hk.elim) ?aF ?aO ?aB ?aS ?aL ?_; (case aP => exact rfl); (case aB => exact (qb1_ GE471.out HB.out)); (case aF => exact (fun k_ hk => Kd.fresh' (Kd.R_lt (by (with_reducible repeat (first | apply Kd.R_alloc | apply Kd.R_drewN | apply Kd.R_drew)); exact HO_11.out)) k_ hk)); (case aO => exact (by (with_reducible repeat (first | apply Kd.R_alloc | apply Kd.R_drewN | apply Kd.R_drew)); exact HO_10.out)); (case aS => exact (below_size (qb1_ GE471.out HB.out))); (case aL => have := LMc19.out; omega); intro v475 w26 ho hb hg hat; rw [← Ny474.out] at ho; have n0_ := Aside0.mk (Kd.R_after (ok := (fun _ => True)) (by (with_reducible repeat (first | apply Kd.R_alloc | apply Kd.R_drewN | apply Kd.R_drew)); exact Kd.R_mono HO_11.out (fun _ hk => ⟨trivial, hk⟩)) hg hat); have n1_ := Aside0.mk (blk_grown (g := gb471) (o := .cells #[.int .i64 t467, .int .u64 t468] 24 (0, 0)) (qk_ BK471.out) hg (Kd.R_ne HO_10.out BK471.out (by decide))); have n2_ := Aside0.mk (hb); have n3_ := Aside0.mk (ho); clear HO_11; clear BK471; clear HB; clear HO_10; have HO_11 := n0_; have BK471 := n1_; have HB := n2_; have HO476 := n3_; clear n0_ n1_ n2_ n3_; clear ho hb hg hat) | ((with_reducible refine gate_builtin (b := .append) (xs := #[.tmp 68, .tmp 70]) rfl ?_); at_builtin; refine Kd.R_append (Kd.int .i64) (w0 := w) w.heap.size rfl (.tmp 68) (.tmp 70) 41 3 (.int .i64 0) 8 rfl Tryd.underlying41 info3 rfl (by decide) (by omega) u11 x11_3 t469 [.int .i64 t469] (fun k_ => some k_ ≠ (v475 : Value).ownBlock) (fun _ => False) rfl rfl ?aP (fun _ hk => hk.elim) ?aF ?aO ?aB ?aS ?aL ?_; (case aP => exact rfl); (case aB => exact (qb1_ GE471.out HB.out)); (case aF => exact (fun k_ hk => Kd.fresh' (Kd.R_lt (by (with_reducible repeat (first | apply Kd.R_alloc | apply Kd.R_drewN | apply Kd.R_drew)); exact HO476.out)) k_ hk)); (case aO => exact (by (with_reducible repeat (first | apply Kd.R_alloc | apply Kd.R_drewN | apply Kd.R_drew)); exact Kd.R_mono HO_11.out (fun _ hk => hk.2))); (case aS => exact (below_size (qb1_ GE471.out HB.out))); (case aL => have := LMc20.out; omega); intro v478 w27 ho hb hg hat; rw [← Ny477.out] at ho; have n0_ := Aside0.mk (blk_grown (g := gb471) (o := .cells #[.int .i64 t467, .int .u64 t468] 24 (0, 0)) (qk_ BK471.out) hg (Kd.R_ne HO_11.out BK471.out (by decide))); have n1_ := Aside0.mk (Kd.R_after (ok := (fun _ => True)) (by (with_reducible repeat (first | apply Kd.R_alloc | apply Kd.R_drewN | apply Kd.R_drew)); exact Kd.R_mono HO476.out (fun _ hk => ⟨trivial, hk⟩)) hg hat); have n2_ := Aside0.mk (hb); have n3_ := Aside0.mk (ho); clear BK471; clear HO476; clear HB; clear HO_11; have BK471 := n0_; have HO476 := n1_; have HB := n2_; have HO479 := n3_; clear n0_ n1_ n2_ n3_; clear ho hb hg hat))
            repeat (go_quiet (first | (go_at_call 19; (with_reducible refine (corebankref01_Mul.calls x8_7 (rd l1 x12_3) t465 t466 _ A16.out).mono ?_); rintro e w21 ⟨rfl, hb⟩; have n0_ := Aside0.mk (Kd.R_below (by (with_reducible repeat (first | apply Kd.R_alloc | apply Kd.R_drewN | apply Kd.R_drew)); exact HO_10.out) hb); have n1_ := Aside0.mk (Kd.R_below (by (with_reducible repeat (first | apply Kd.R_alloc | apply Kd.R_drewN | apply Kd.R_drew)); exact HO_11.out) hb); have n2_ := Aside0.mk (below_step (qb_ HB.out) hb); clear HO_10; clear HO_11; clear HB; have HO_10 := n0_; have HO_11 := n1_; have HB := n2_; clear n0_ n1_ n2_; (try clear hb); (try clear hb2); (try clear hk); (try clear hi)) | (go_at_call 31; (with_reducible refine (corebankref01_Div.calls t465 t466 t455 t467 t468 t469 t470 _ A17.out).mono ?_); rintro e w22 ⟨rfl, hb⟩; have n0_ := Aside0.mk (Kd.R_below (by (with_reducible repeat (first | apply Kd.R_alloc | apply Kd.R_drewN | apply Kd.R_drew)); exact HO_10.out) hb); have n1_ := Aside0.mk (Kd.R_below (by (with_reducible repeat (first | apply Kd.R_alloc | apply Kd.R_drewN | apply Kd.R_drew)); exact HO_11.out) hb); have n2_ := Aside0.mk (below_step (qb_ HB.out) hb); clear HO_10; clear HO_11; clear HB; have HO_10 := n0_; have HO_11 := n1_; have HB := n2_; clear n0_ n1_ n2_; (try clear hb); (try clear hb2); (try clear hk); (try clear hi)) | ((with_reducible refine gate_dst (N := 13) rfl ?_); refine be_ (N := 13) (cs := #[.int .i64 0, .int .u64 0]) (t := 24) ?_; intro gb471 hg w23 hbox hb; have n0_ := Aside0.mk (Kd.R_below (by (with_reducible repeat (first | apply Kd.R_alloc | apply Kd.R_drewN | apply Kd.R_drew)); exact HO_10.out) hb); have n1_ := Aside0.mk (Kd.R_below (by (with_reducible repeat (first | apply Kd.R_alloc | apply Kd.R_drewN | apply Kd.R_drew)); exact HO_11.out) hb); have n2_ := Aside0.mk (below_step (qb_ HB.out) hb); have n3_ := Aside0.mk (hbox); have n4_ := Aside0.mk (bz_ hg (qb_ HB.out) : w.heap.size ≤ gb471); have n5_ := n4_; clear HO_10; clear HO_11; clear HB; have HO_10 := n0_; have HO_11 := n1_; have HB := n2_; have BK471 := n3_; have GW471 := n4_; have GE471 := n5_; clear n0_ n1_ n2_ n3_ n4_ n5_; clear hb hbox hg; have hcz24_0 : w23.cell? ⟨gb471, 0, none⟩ = some (.int .i64 0) := (blk_cell BK471.out 0).trans rfl; have hcz24_1 : w23.cell? ⟨gb471, 1, none⟩ = some (.int .u64 0) := (blk_cell BK471.out 1).trans rfl; have hfz24_0 := blk_frozen BK471.out 0; have hfz24_1 := blk_frozen BK471.out 1) | (go_at_call 32; (with_reducible refine (corebankref01_Int.calls t467 t468 t472 t473 _ A18.out).mono ?_); rintro e w25 ⟨rfl, hb⟩; have n0_ := Aside0.mk (Kd.R_below (by (with_reducible repeat (first | apply Kd.R_alloc | apply Kd.R_drewN | apply Kd.R_drew)); exact (Kd.R_mono (Kd.R_far (p := ⟨gb471, 1, none⟩) (Kd.R_far (p := ⟨gb471, 0, none⟩) (Kd.R_types HO_10.out BK471.out (by decide)) (fun _ hk => hk.2) (.int .i64 t467)) (fun _ hk => hk.2) (.int .u64 t468)) (fun _ h_ => h_.1))) hb); have n1_ := Aside0.mk (Kd.R_below (by (with_reducible repeat (first | apply Kd.R_alloc | apply Kd.R_drewN | apply Kd.R_drew)); exact (Kd.R_mono (Kd.R_far (p := ⟨gb471, 1, none⟩) (Kd.R_far (p := ⟨gb471, 0, none⟩) (Kd.R_types HO_11.out BK471.out (by decide)) (fun _ hk => hk.2) (.int .i64 t467)) (fun _ hk => hk.2) (.int .u64 t468)) (fun _ h_ => h_.1))) hb); have n2_ := Aside0.mk (blk_below (g := gb471) (o := .cells #[.int .i64 t467, .int .u64 t468] 24 (0, 0)) (qpp_ #[.int .i64 t467, .int .u64 0] 1 #[.int .i64 0, .int .u64 0] 0 BK471.out) hb); have n3_ := Aside0.mk (below_step (qb1_ GE471.out HB.out) hb); clear HO_10; clear HO_11; clear BK471; clear HB; have HO_10 := n0_; have HO_11 := n1_; have BK471 := n2_; have HB := n3_; clear n0_ n1_ n2_ n3_; (try clear hb); (try clear hb2); (try clear hk); (try clear hi)) | ((with_reducible refine gate_builtin (b := .append) (xs := #[.tmp 64, .tmp 66]) rfl ?_); at_builtin; refine Kd.R_append (Kd.int .i64) (w0 := w) w.heap.size rfl (.tmp 64) (.tmp 66) 41 3 (.int .i64 0) 8 rfl Tryd.underlying41 info3 rfl (by decide) (by omega) u10 x10_3 t472 [.int .i64 t472] (fun k_ => some k_ ≠ (u11 : Value).ownBlock) (fun _ => False) rfl rfl ?aP (fun _ hk => hk.elim) ?aF ?aO ?aB ?aS ?aL ?_; (case aP => exact rfl); (case aB => exact (qb1_ GE471.out HB.out)); (case aF => exact (fun k_ hk => Kd.fresh' (Kd.R_lt (by (with_reducible repeat (first | apply Kd.R_alloc | apply Kd.R_drewN | apply Kd.R_drew)); exact HO_11.out)) k_ hk)); (case aO => exact (by (with_reducible repeat (first | apply Kd.R_alloc | apply Kd.R_drewN | apply Kd.R_drew)); exact HO_10.out)); (case aS => exact (below_size (qb1_ GE471.out HB.out))); (case aL => have := LMc19.out; omega); intro v475 w26 ho hb hg hat; rw [← Ny474.out] at ho; have n0_ := Aside0.mk (Kd.R_after (ok := (fun _ => True)) (by (with_reducible repeat (first | apply Kd.R_alloc | apply Kd.R_drewN | apply Kd.R_drew)); exact Kd.R_mono HO_11.out (fun _ hk => ⟨trivial, hk⟩)) hg hat); have n1_ := Aside0.mk (blk_grown (g := gb471) (o := .cells #[.int .i64 t467, .int .u64 t468] 24 (0, 0)) (qk_ BK471.out) hg (Kd.R_ne HO_10.out BK471.out (by decide))); have n2_ := Aside0.mk (hb); have n3_ := Aside0.mk (ho); clear HO_11; clear BK471; clear HB; clear HO_10; have HO_11 := n0_; have BK471 := n1_; have HB := n2_; have HO476 := n3_; clear n0_ n1_ n2_ n3_; clear ho hb hg hat) | ((with_reducible refine gate_builtin (b := .append) (xs := #[.tmp 68, .tmp 70]) rfl ?_); at_builtin; refine Kd.R_append (Kd.int .i64) (w0 := w) w.heap.size rfl (.tmp 68) (.tmp 70) 41 3 (.int .i64 0) 8 rfl Tryd.underlying41 info3 rfl (by decide) (by omega) u11 x11_3 t469 [.int .i64 t469] (fun k_ => some k_ ≠ (v475 : Value).ownBlock) (fun _ => False) rfl rfl ?aP (fun _ hk => hk.elim) ?aF ?aO ?aB ?aS ?aL ?_; (case aP => exact rfl); (case aB => exact (qb1_ GE471.out HB.out)); (case aF => exact (fun k_ hk => Kd.fresh' (Kd.R_lt (by (with_reducible repeat (first | apply Kd.R_alloc | apply Kd.R_drewN | apply Kd.R_drew)); exact HO476.out)) k_ hk)); (case aO => exact (by (with_reducible repeat (first | apply Kd.R_alloc | apply Kd.R_drewN | apply Kd.R_drew)); exact Kd.R_mono HO_11.out (fun _ hk => hk.2))); (case aS => exact (below_size (qb1_ GE471.out HB.out))); (case aL => have := LMc20.out; omega); intro v478 w27 ho hb hg hat; rw [← Ny477.out] at ho; have n0_ := Aside0.mk (blk_grown (g := gb471) (o := .cells #[.int .i64 t467, .int .u64 t468] 24 (0, 0)) (qk_ BK471.out) hg (Kd.R_ne HO_11.out BK471.out (by decide))); have n1_ := Aside0.mk (Kd.R_after (ok := (fun _ => True)) (by (with_reducible repeat (first | apply Kd.R_alloc | apply Kd.R_drewN | apply Kd.R_drew)); exact Kd.R_mono HO476.out (fun _ hk => ⟨trivial, hk⟩)) hg hat); have n2_ := Aside0.mk (hb); have n3_ := Aside0.mk (ho); clear BK471; clear HO476; clear HB; clear HO_11; have BK471 := n0_; have HO476 := n1_; have HB := n2_; have HO479 := n3_; clear n0_ n1_ n2_ n3_; clear ho hb hg hat)); try go_wp2_with (first | (go_at_call 19; (with_reducible refine (corebankref01_Mul.calls x8_7 (rd l1 x12_3) t465 t466 _ A16.out).mono ?_); rintro e w21 ⟨rfl, hb⟩; have n0_ := Aside0.mk (Kd.R_below (by (with_reducible repeat (first | apply Kd.R_alloc | apply Kd.R_drewN | apply Kd.R_drew)); exact HO_10.out) hb); have n1_ := Aside0.mk (Kd.R_below (by (with_reducible repeat (first | apply Kd.R_alloc | apply Kd.R_drewN | apply Kd.R_drew)); exact HO_11.out) hb); have n2_ := Aside0.mk (below_step (qb_ HB.out) hb); clear HO_10; clear HO_11; clear HB; have HO_10 := n0_; have HO_11 := n1_; have HB := n2_; clear n0_ n1_ n2_; (try clear hb); (try clear hb2); (try clear hk); (try clear hi)) | (go_at_call 31; (with_reducible refine (corebankref01_Div.calls t465 t466 t455 t467 t468 t469 t470 _ A17.out).mono ?_); rintro e w22 ⟨rfl, hb⟩; have n0_ := Aside0.mk (Kd.R_below (by (with_reducible repeat (first | apply Kd.R_alloc | apply Kd.R_drewN | apply Kd.R_drew)); exact HO_10.out) hb); have n1_ := Aside0.mk (Kd.R_below (by (with_reducible repeat (first | apply Kd.R_alloc | apply Kd.R_drewN | apply Kd.R_drew)); exact HO_11.out) hb); have n2_ := Aside0.mk (below_step (qb_ HB.out) hb); clear HO_10; clear HO_11; clear HB; have HO_10 := n0_; have HO_11 := n1_; have HB := n2_; clear n0_ n1_ n2_; (try clear hb); (try clear hb2); (try clear hk); (try clear hi)) | ((with_reducible refine gate_dst (N := 13) rfl ?_); refine be_ (N := 13) (cs := #[.int .i64 0, .int .u64 0]) (t := 24) ?_; intro gb471 hg w23 hbox hb; have n0_ := Aside0.mk (Kd.R_below (by (with_reducible repeat (first | apply Kd.R_alloc | apply Kd.R_drewN | apply Kd.R_drew)); exact HO_10.out) hb); have n1_ := Aside0.mk (Kd.R_below (by (with_reducible repeat (first | apply Kd.R_alloc | apply Kd.R_drewN | apply Kd.R_drew)); exact HO_11.out) hb); have n2_ := Aside0.mk (below_step (qb_ HB.out) hb); have n3_ := Aside0.mk (hbox); have n4_ := Aside0.mk (bz_ hg (qb_ HB.out) : w.heap.size ≤ gb471); have n5_ := n4_; clear HO_10; clear HO_11; clear HB; have HO_10 := n0_; have HO_11 := n1_; have HB := n2_; have BK471 := n3_; have GW471 := n4_; have GE471 := n5_; clear n0_ n1_ n2_ n3_ n4_ n5_; clear hb hbox hg; have hcz24_0 : w23.cell? ⟨gb471, 0, none⟩ = some (.int .i64 0) := (blk_cell BK471.out 0).trans rfl; have hcz24_1 : w23.cell? ⟨gb471, 1, none⟩ = some (.int .u64 0) := (blk_cell BK471.out 1).trans rfl; have hfz24_0 := blk_frozen BK471.out 0; have hfz24_1 := blk_frozen BK471.out 1) | (go_at_call 32; (with_reducible refine (corebankref01_Int.calls t467 t468 t472 t473 _ A18.out).mono ?_); rintro e w25 ⟨rfl, hb⟩; have n0_ := Aside0.mk (Kd.R_below (by (with_reducible repeat (first | apply Kd.R_alloc | apply Kd.R_drewN | apply Kd.R_drew)); exact (Kd.R_mono (Kd.R_far (p := ⟨gb471, 1, none⟩) (Kd.R_far (p := ⟨gb471, 0, none⟩) (Kd.R_types HO_10.out BK471.out (by decide)) (fun _ hk => hk.2) (.int .i64 t467)) (fun _ hk => hk.2) (.int .u64 t468)) (fun _ h_ => h_.1))) hb); have n1_ := Aside0.mk (Kd.R_below (by (with_reducible repeat (first | apply Kd.R_alloc | apply Kd.R_drewN | apply Kd.R_drew)); exact (Kd.R_mono (Kd.R_far (p := ⟨gb471, 1, none⟩) (Kd.R_far (p := ⟨gb471, 0, none⟩) (Kd.R_types HO_11.out BK471.out (by decide)) (fun _ hk => hk.2) (.int .i64 t467)) (fun _ hk => hk.2) (.int .u64 t468)) (fun _ h_ => h_.1))) hb); have n2_ := Aside0.mk (blk_below (g := gb471) (o := .cells #[.int .i64 t467, .int .u64 t468] 24 (0, 0)) (qpp_ #[.int .i64 t467, .int .u64 0] 1 #[.int .i64 0, .int .u64 0] 0 BK471.out) hb); have n3_ := Aside0.mk (below_step (qb1_ GE471.out HB.out) hb); clear HO_10; clear HO_11; clear BK471; clear HB; have HO_10 := n0_; have HO_11 := n1_; have BK471 := n2_; have HB := n3_; clear n0_ n1_ n2_ n3_; (try clear hb); (try clear hb2); (try clear hk); (try clear hi)) | ((with_reducible refine gate_builtin (b := .append) (xs := #[.tmp 64, .tmp 66]) rfl ?_); at_builtin; refine Kd.R_append (Kd.int .i64) (w0 := w) w.heap.size rfl (.tmp 64) (.tmp 66) 41 3 (.int .i64 0) 8 rfl Tryd.underlying41 info3 rfl (by decide) (by omega) u10 x10_3 t472 [.int .i64 t472] (fun k_ => some k_ ≠ (u11 : Value).ownBlock) (fun _ => False) rfl rfl ?aP (fun _ hk => hk.elim) ?aF ?aO ?aB ?aS ?aL ?_; (case aP => exact rfl); (case aB => exact (qb1_ GE471.out HB.out)); (case aF => exact (fun k_ hk => Kd.fresh' (Kd.R_lt (by (with_reducible repeat (first | apply Kd.R_alloc | apply Kd.R_drewN | apply Kd.R_drew)); exact HO_11.out)) k_ hk)); (case aO => exact (by (with_reducible repeat (first | apply Kd.R_alloc | apply Kd.R_drewN | apply Kd.R_drew)); exact HO_10.out)); (case aS => exact (below_size (qb1_ GE471.out HB.out))); (case aL => have := LMc19.out; omega); intro v475 w26 ho hb hg hat; rw [← Ny474.out] at ho; have n0_ := Aside0.mk (Kd.R_after (ok := (fun _ => True)) (by (with_reducible repeat (first | apply Kd.R_alloc | apply Kd.R_drewN | apply Kd.R_drew)); exact Kd.R_mono HO_11.out (fun _ hk => ⟨trivial, hk⟩)) hg hat); have n1_ := Aside0.mk (blk_grown (g := gb471) (o := .cells #[.int .i64 t467, .int .u64 t468] 24 (0, 0)) (qk_ BK471.out) hg (Kd.R_ne HO_10.out BK471.out (by decide))); have n2_ := Aside0.mk (hb); have n3_ := Aside0.mk (ho); clear HO_11; clear BK471; clear HB; clear HO_10; have HO_11 := n0_; have BK471 := n1_; have HB := n2_; have HO476 := n3_; clear n0_ n1_ n2_ n3_; clear ho hb hg hat) | ((with_reducible refine gate_builtin (b := .append) (xs := #[.tmp 68, .tmp 70]) rfl ?_); at_builtin; refine Kd.R_append (Kd.int .i64) (w0 := w) w.heap.size rfl (.tmp 68) (.tmp 70) 41 3 (.int .i64 0) 8 rfl Tryd.underlying41 info3 rfl (by decide) (by omega) u11 x11_3 t469 [.int .i64 t469] (fun k_ => some k_ ≠ (v475 : Value).ownBlock) (fun _ => False) rfl rfl ?aP (fun _ hk => hk.elim) ?aF ?aO ?aB ?aS ?aL ?_; (case aP => exact rfl); (case aB => exact (qb1_ GE471.out HB.out)); (case aF => exact (fun k_ hk => Kd.fresh' (Kd.R_lt (by (with_reducible repeat (first | apply Kd.R_alloc | apply Kd.R_drewN | apply Kd.R_drew)); exact HO476.out)) k_ hk)); (case aO => exact (by (with_reducible repeat (first | apply Kd.R_alloc | apply Kd.R_drewN | apply Kd.R_drew)); exact Kd.R_mono HO_11.out (fun _ hk => hk.2))); (case aS => exact (below_size (qb1_ GE471.out HB.out))); (case aL => have := LMc20.out; omega); intro v478 w27 ho hb hg hat; rw [← Ny477.out] at ho; have n0_ := Aside0.mk (blk_grown (g := gb471) (o := .cells #[.int .i64 t467, .int .u64 t468] 24 (0, 0)) (qk_ BK471.out) hg (Kd.R_ne HO_11.out BK471.out (by decide))); have n1_ := Aside0.mk (Kd.R_after (ok := (fun _ => True)) (by (with_reducible repeat (first | apply Kd.R_alloc | apply Kd.R_drewN | apply Kd.R_drew)); exact Kd.R_mono HO476.out (fun _ hk => ⟨trivial, hk⟩)) hg hat); have n2_ := Aside0.mk (hb); have n3_ := Aside0.mk (ho); clear BK471; clear HO476; clear HB; clear HO_11; have BK471 := n0_; have HO476 := n1_; have HB := n2_; have HO479 := n3_; clear n0_ n1_ n2_ n3_; clear ho hb hg hat)))
            go_roundg k3
            case measure => have := HJ3.out; have := HJ7.out; have := HK3.out; omega
            case rel => exact ⟨(wrap64 (x8_3 - t472)), (y474), (y477), (wrap64 (x12_3 + 1)), qs_, qs_, H', ⟨by have := HJ3.out; have := HJ7.out; have := HK3.out; omega⟩, ⟨by (with_reducible repeat (first | apply Kd.R_alloc | apply Kd.R_drewN | apply Kd.R_drew)); exact Kd.R_mono HO476.out (fun _ hk => hk.2)⟩, ⟨by (with_reducible repeat (first | apply Kd.R_alloc | apply Kd.R_drewN | apply Kd.R_drew)); exact HO479.out⟩, ⟨qb1_ GE471.out HB.out⟩⟩
           ·rw [if_neg c20] at H
            exact absurd H (by simp)
          ·rw [if_neg c19] at H
           exact absurd H (by simp)
         ·rw [if_neg c15] at H
          exact absurd H (by simp)
        ·rw [if_neg c14] at H
         have c14b0 : decide (x12_3 < (l1.length : Int)) = false := decide_eq_false c14
         clear c14
         have H' := Aside0.mk H
         clear H
         go_wp2
         repeat (go_quiet (fail); try go_wp2)
         go_loopg [8] k3 (fun kq v8 w' => ∃ (x8_4 : Int) (x10_4 : List Int) (x11_4 : List Int), v8 = .int .i64 x8_4 ∧ Aside0 (corebankref02_Split.l1 kq a0 x8_4 x10_4 x11_4 = some (r1, r2)) ∧ Aside0 (kq ≤ k3) ∧ Aside0 (Kd.R (Kd.int .i64) 3 w' w.heap.size (fun k_ => some k_ ≠ (u11 : Value).ownBlock) u10 x10_4) ∧ Aside0 (Kd.R (Kd.int .i64) 3 w' w.heap.size (fun k_ => some k_ ≠ (u10 : Value).ownBlock) u11 x11_4) ∧ Aside0 (Below w.heap.size w w'))
         case atStart => exact ⟨(x8_3), (x10_3), (x11_3), qs_, H', ⟨Nat.le_refl _⟩, ⟨by (with_reducible repeat (first | apply Kd.R_alloc | apply Kd.R_drewN | apply Kd.R_drew)); exact HO_10.out⟩, ⟨by (with_reducible repeat (first | apply Kd.R_alloc | apply Kd.R_drewN | apply Kd.R_drew)); exact HO_11.out⟩, ⟨qb_ HB.out⟩⟩
         case round =>
          clear H'
          try clear c1
          try clear c2
          try clear p2
          try clear p4
          try clear q4
          try clear hx4
          try clear c6
          try clear p6
          try clear c7
          try clear c9
          try clear c9b0
          try clear c14
          try clear c14b0
          try clear c15
          try clear c15b0
          try clear c19
          try clear c20
          try clear c25
          try clear hcz24_0
          try clear hcz24_1
          try clear hfz24_0
          try clear hfz24_1
          try clear hx464_0
          try clear p2
          try clear p464
          try clear p6
          try clear q464
          obtain ⟨x8_4, x10_4, x11_4, rfl, HA, HK4, HO_10, HO_11, HB⟩ := hrel
          cases gk with
          | zero => exact absurd HA.out (by simp [corebankref02_Split.l1])
          | succ k4 =>
           have H := HA.out
           clear HA
           simp only [corebankref02_Split.l1] at H
           by_cases c28 : x8_4 > 0
           ·rw [if_pos c28] at H
            have c28b0 : decide (0 < x8_4) = true := decide_eq_true c28
            clear c28
            have H' := Aside0.mk H
            clear H
            go_wp2
            repeat (go_quiet (fail); try go_wp2)
            go_loopg [18, 19] k4 (fun kq v18 v19 w' => ∃ (x18_5 : Int) (x19_5 : Int), v18 = .int .i64 x18_5 ∧ v19 = .int .i64 x19_5 ∧ Aside0 (corebankref02_Split.l2 kq a0 x8_4 x10_4 x11_4 x18_5 x19_5 = some (r1, r2)) ∧ Aside0 (kq ≤ k4) ∧ Aside0 (Kd.R (Kd.int .i64) 3 w' w.heap.size (fun k_ => some k_ ≠ (u11 : Value).ownBlock) u10 x10_4) ∧ Aside0 (Kd.R (Kd.int .i64) 3 w' w.heap.size (fun k_ => some k_ ≠ (u10 : Value).ownBlock) u11 x11_4) ∧ Aside0 (Below w.heap.size w w'))
            case atStart => exact ⟨(0), (1), qs_, qs_, H', ⟨Nat.le_refl _⟩, ⟨by (with_reducible repeat (first | apply Kd.R_alloc | apply Kd.R_drewN | apply Kd.R_drew)); exact HO_10.out⟩, ⟨by (with_reducible repeat (first | apply Kd.R_alloc | apply Kd.R_drewN | apply Kd.R_drew)); exact HO_11.out⟩, ⟨qb_ HB.out⟩⟩
            case round =>
             clear H'
             try clear c1
             try clear c2
             try clear p2
             try clear p4
             try clear q4
             try clear hx4
             try clear c6
             try clear p6
             try clear c7
             try clear c9
             try clear c9b0
             try clear c14
             try clear c14b0
             try clear c15
             try clear c15b0
             try clear c19
             try clear c20
             try clear c25
             try clear c28
             try clear c28b0
             try clear hcz24_0
             try clear hcz24_1
             try clear hfz24_0
             try clear hfz24_1
             try clear hx464_0
             try clear p2
             try clear p4
             try clear p464
             try clear p6
             try clear q4
             try clear q464
             obtain ⟨x18_5, x19_5, rfl, rfl, HA, HK5, HO_10, HO_11, HB⟩ := hrel
             cases gk with
             | zero => exact absurd HA.out (by simp [corebankref02_Split.l2])
             | succ k5 =>
              have H := HA.out
              clear HA
              simp only [corebankref02_Split.l2] at H
              by_cases c29 : x19_5 < (x11_4.length : Int)
              ·rw [if_pos c29] at H
               have c29b0 : decide (x19_5 < (x11_4.length : Int)) = true := decide_eq_true c29
               clear c29
               by_cases c30 : 0 ≤ x19_5
               ·rw [if_pos c30] at H
                have c30b0 : decide (0 ≤ x19_5) = true := decide_eq_true c30
                clear c30
                by_cases c31 : 0 ≤ x18_5
                ·rw [if_pos c31] at H
                 have c31b0 : decide (0 ≤ x18_5) = true := decide_eq_true c31
                 clear c31
                 by_cases c32 : x18_5 < (x11_4.length : Int)
                 ·rw [if_pos c32] at H
                  have c32b0 : decide (x18_5 < (x11_4.length : Int)) = true := decide_eq_true c32
                  clear c32
                  by_cases c33 : (rd x11_4 x19_5) > (rd x11_4 x18_5)
                  ·rw [if_pos c33] at H
                   have c33b0 : decide ((rd x11_4 x18_5) < (rd x11_4 x19_5)) = true := decide_eq_true c33
                   clear c33
                   have H' := Aside0.mk H
                   clear H
                   obtain ⟨Ao34, co34, eo34⟩ := Kd.R_slice HO_11.out
                   subst eo34
                   have p483 : 0 ≤ (x19_5 : Int) := of_decide_eq_true (by first | (with_reducible assumption) | assumption)
                   have q483 : x19_5 < (x11_4.length : Int) := of_decide_eq_true (by first | (with_reducible assumption) | assumption)
                   obtain ⟨ad483, e483, hx483_0⟩ := Kd.at_int (Kd.R_reads' HO_11.out).2.2 x19_5 p483 q483
                   cases e483
                   replace p483 := eq_true p483
                   replace q483 := eq_true q483
                   have p484 : 0 ≤ (x18_5 : Int) := of_decide_eq_true (by first | (with_reducible assumption) | assumption)
                   have q484 : x18_5 < (x11_4.length : Int) := of_decide_eq_true (by first | (with_reducible assumption) | assumption)
                   obtain ⟨ad484, e484, hx484_0⟩ := Kd.at_int (Kd.R_reads' HO_11.out).2.2 x18_5 p484 q484
                   obtain rfl : ad483 = ad484 := (by injection e484)
                   replace p484 := eq_true p484
                   replace q484 := eq_true q484
                   go_wp2
                   repeat (go_quiet (fail); try go_wp2)
                   go_roundg k5
                   case measure => have := HJ3.out; have := HJ7.out; have := HK3.out; have := HK4.out; have := HK5.out; omega
                   case rel => exact ⟨(x19_5), (wrap64 (x19_5 + 1)), qs_, qs_, H', ⟨by have := HJ3.out; have := HJ7.out; have := HK3.out; have := HK4.out; have := HK5.out; omega⟩, ⟨by (with_reducible repeat (first | apply Kd.R_alloc | apply Kd.R_drewN | apply Kd.R_drew)); exact HO_10.out⟩, ⟨by (with_reducible repeat (first | apply Kd.R_alloc | apply Kd.R_drewN | apply Kd.R_drew)); exact HO_11.out⟩, ⟨qb_ HB.out⟩⟩
                  ·rw [if_neg c33] at H
                   have c33b0 : decide ((rd x11_4 x18_5) < (rd x11_4 x19_5)) = false := decide_eq_false c33
                   clear c33
                   have H' := Aside0.mk H
                   clear H
                   obtain ⟨Ao35, co35, eo35⟩ := Kd.R_slice HO_11.out
                   subst eo35
                   have p483 : 0 ≤ (x19_5 : Int) := of_decide_eq_true (by first | (with_reducible assumption) | assumption)
                   have q483 : x19_5 < (x11_4.length : Int) := of_decide_eq_true (by first | (with_reducible assumption) | assumption)
                   obtain ⟨ad483, e483, hx483_0⟩ := Kd.at_int (Kd.R_reads' HO_11.out).2.2 x19_5 p483 q483
                   cases e483
                   replace p483 := eq_true p483
                   replace q483 := eq_true q483
                   have p484 : 0 ≤ (x18_5 : Int) := of_decide_eq_true (by first | (with_reducible assumption) | assumption)
                   have q484 : x18_5 < (x11_4.length : Int) := of_decide_eq_true (by first | (with_reducible assumption) | assumption)
                   obtain ⟨ad484, e484, hx484_0⟩ := Kd.at_int (Kd.R_reads' HO_11.out).2.2 x18_5 p484 q484
                   obtain rfl : ad483 = ad484 := (by injection e484)
                   replace p484 := eq_true p484
                   replace q484 := eq_true q484
                   go_wp2
                   repeat (go_quiet (fail); try go_wp2)
                   go_roundg k5
                   case measure => have := HJ3.out; have := HJ7.out; have := HK3.out; have := HK4.out; have := HK5.out; omega
                   case rel => exact ⟨(x18_5), (wrap64 (x19_5 + 1)), qs_, qs_, H', ⟨by have := HJ3.out; have := HJ7.out; have := HK3.out; have := HK4.out; have := HK5.out; omega⟩, ⟨by (with_reducible repeat (first | apply Kd.R_alloc | apply Kd.R_drewN | apply Kd.R_drew)); exact HO_10.out⟩, ⟨by (with_reducible repeat (first | apply Kd.R_alloc | apply Kd.R_drewN | apply Kd.R_drew)); exact HO_11.out⟩, ⟨qb_ HB.out⟩⟩
                 ·rw [if_neg c32] at H
                  exact absurd H (by simp)
                ·rw [if_neg c31] at H
                 exact absurd H (by simp)
               ·rw [if_neg c30] at H
                exact absurd H (by simp)
              ·rw [if_neg c29] at H
               have c29b0 : decide (x19_5 < (x11_4.length : Int)) = false := decide_eq_false c29
               clear c29
               by_cases c36 : 0 ≤ x18_5
               ·rw [if_pos c36] at H
                have c36b0 : decide (0 ≤ x18_5) = true := decide_eq_true c36
                clear c36
                by_cases c37 : x18_5 < (x10_4.length : Int)
                ·rw [if_pos c37] at H
                 have c37b0 : decide (x18_5 < (x10_4.length : Int)) = true := decide_eq_true c37
                 clear c37
                 obtain ⟨y481, hy481⟩ : ∃ y_ : List Int, y_ = (x10_4.set (x18_5 : Int).toNat (wrap64 ((rd x10_4 x18_5) + 1))) := ⟨_, rfl⟩
                 replace H : (if x18_5 < (x11_4.length : Int) then (corebankref02_Split.l1 k5 a0 (wrap64 (x8_4 - 1)) y481 (x11_4.set (x18_5 : Int).toNat (-1))) else (none)) = some (r1, r2) := by first | (rw [hy481]; with_reducible exact H) | (have H2_ := (Option.bind_some _ _).symm.trans H; rw [hy481]; with_reducible exact H2_) | (have H2_ := (Option.bind_some _ _).symm.trans H; with_reducible exact H2_) | with_reducible exact H | (rw [hy481]; exact H) | exact H
                 have Ny481 := Aside0.mk hy481
                 clear hy481
                 by_cases c39 : x18_5 < (x11_4.length : Int)
                 ·rw [if_pos c39] at H
                  have c39b0 : decide (x18_5 < (x11_4.length : Int)) = true := decide_eq_true c39
                  clear c39
                  obtain ⟨y482, hy482⟩ : ∃ y_ : List Int, y_ = (x11_4.set (x18_5 : Int).toNat (-1)) := ⟨_, rfl⟩
                  replace H : (corebankref02_Split.l1 k5 a0 (wrap64 (x8_4 - 1)) y481 y482) = some (r1, r2) := by first | (rw [hy482]; with_reducible exact H) | (have H2_ := (Option.bind_some _ _).symm.trans H; rw [hy482]; with_reducible exact H2_) | (have H2_ := (Option.bind_some _ _).symm.trans H; with_reducible exact H2_) | with_reducible exact H | (rw [hy482]; exact H) | exact H
                  have Ny482 := Aside0.mk hy482
                  clear hy482
                  have H' := Aside0.mk H
                  clear H
                  obtain ⟨Ao41, co41, eo41⟩ := Kd.R_slice HO_11.out
                  subst eo41
                  obtain ⟨Ao42, co42, eo42⟩ := Kd.R_slice HO_10.out
                  subst eo42
                  have p480 : 0 ≤ (x18_5 : Int) := of_decide_eq_true (by first | (with_reducible assumption) | assumption)
                  have q480 : x18_5 < (x10_4.length : Int) := of_decide_eq_true (by first | (with_reducible assumption) | assumption)
                  obtain ⟨ad480, e480, hx480_0⟩ := Kd.at_int (Kd.R_reads' HO_10.out).2.2 x18_5 p480 q480
                  cases e480
                  replace p480 := eq_true p480
                  replace q480 := eq_true q480
                  have p38 : 0 ≤ (x18_5 : Int) := of_decide_eq_true (by first | (with_reducible assumption) | assumption)
                  have q38 : (x18_5 : Int) < ((x10_4.length : Int) : Int) := of_decide_eq_true (by first | (with_reducible assumption) | assumption)
                  obtain ⟨go38, co38, eo38, gb38, gl38, cl38, HG38⟩ := Kd.R_form HO_10.out (by omega)
                  (first | cases eo38 | (injection eo38 with ea_ en_ ec_; (first | subst ea_ | (injection ea_ with ea_; subst ea_)); subst ec_; clear en_))
                  have GB38 := Aside0.mk gb38
                  have GG38 := Aside0.mk HG38
                  clear gb38 gl38 HG38
                  (first | simp only [add_plain] at hx480_0 | skip)
                  obtain ⟨hx38_0, hf38_0⟩ := Kd.R_celln 0 HO_10.out (x18_5 : Int) p38 q38
                  replace p38 := eq_true p38
                  replace q38 := eq_true q38
                  have HP43 := Kd.R_putg HO_10.out (x18_5 : Int) (wrap64 ((rd x10_4 x18_5) + 1))
                  go_wp2_with (first | ((with_reducible refine gate_store (t := 3) (p := 100) rfl ?_); (try (rw [drewN_self wr]; generalize hq_ : World.drewN wr _ = wr; have n0_ := Aside0.mk (Kd.R_at hq_ HO_10.out); have n1_ := Aside0.mk (Kd.R_at hq_ HO_11.out); have n2_ := Aside0.mk (below_at hq_ HB.out); clear hq_ HO_10 HO_11 HB; have HO_10 := n0_; have HO_11 := n1_; have HB := n2_; clear n0_ n1_ n2_; (try (have HP43 := Kd.R_putg HO_10.out (x18_5 : Int) (wrap64 ((rd x10_4 x18_5) + 1)))))); refine store_event (t := 3) (p := 100) (v := ?vo_w44) (w1 := (wr.setCell ⟨go38, (x18_5 : Int).toNat, none⟩ (.int .i64 (wrap64 ((rd x10_4 x18_5) + 1))))) ?hg ?ho ?hn ?hr ?_; (case ho => rfl); (case hg => rfl); (case hn => rfl); (case hr => first | (go_simp; done) | (go_simp; rfl)); intro w44 hw; have hg : wr.grownBy w44 (some go38) := (by rw [hw]; exact HP43.2); have hp_ : Kd.R (Kd.int .i64) 3 w44 w.heap.size (fun k_ => some k_ ≠ (.slice Ao41 x11_4.length co41 : Value).ownBlock) (.slice (some ⟨go38, 0, none⟩) x10_4.length co42) y481 := (by rw [hw, Ny481.out]; exact HP43.1); clear HP43; have n0_ := Aside0.mk (hp_); have n1_ := Aside0.mk (Kd.R_after (v := (.slice (some ⟨go38, 0, none⟩) x10_4.length co42)) (v1 := (.slice (some ⟨go38, 0, none⟩) x10_4.length co42)) (ok := (fun _ => True)) (by (with_reducible repeat (first | apply Kd.R_alloc | apply Kd.R_drewN | apply Kd.R_drew)); exact Kd.R_mono HO_11.out (fun _ hk => ⟨trivial, hk⟩)) hg (.inl rfl)); have n2_ := Aside0.mk ((by rw [hw]; exact below_set (HB.out) GB38.out : Below w.heap.size w w44)); clear HO_10; clear HO_11; clear HB; have HO_10 := n0_; have HO_11 := n1_; have HB := n2_; clear n0_ n1_ n2_; clear hg hw hp_; have p40 : 0 ≤ (x18_5 : Int) := of_decide_eq_true (by first | (with_reducible assumption) | assumption); have q40 : (x18_5 : Int) < ((x11_4.length : Int) : Int) := of_decide_eq_true (by first | (with_reducible assumption) | assumption); obtain ⟨go40, co40, eo40, gb40, gl40, cl40, HG40⟩ := Kd.R_form HO_11.out (by omega); (first | cases eo40 | (injection eo40 with ea_ en_ ec_; (first | subst ea_ | (injection ea_ with ea_; subst ea_)); subst ec_; clear en_)); have GB40 := Aside0.mk gb40; have GG40 := Aside0.mk HG40; clear gb40 gl40 HG40; obtain ⟨hx40_0, hf40_0⟩ := Kd.R_celln 0 HO_11.out (x18_5 : Int) p40 q40; replace p40 := eq_true p40; replace q40 := eq_true q40; have n_ := Aside0.mk (Kd.R_mono (ok' := (fun k_ => some k_ ≠ (.slice (some ⟨go38, 0, none⟩) x10_4.length co42 : Value).ownBlock)) HO_11.out (fun k_ hk => hk.2)); clear HO_11; have HO_11 := n_; clear n_; obtain ⟨hy45_, hz45_⟩ := Kd.R_celln 0 HO_11.out (x18_5 : Int) (of_decide_eq_true (by first | (with_reducible assumption) | assumption)) (of_decide_eq_true (by first | (with_reducible assumption) | assumption)); have HP45 := Kd.R_putg HO_11.out (x18_5 : Int) (-1)) | ((with_reducible refine gate_store (t := 3) (p := 103) rfl ?_); (try (rw [drewN_self w44]; generalize hq_ : World.drewN w44 _ = w44; have n0_ := Aside0.mk (Kd.R_at hq_ HO_10.out); have n1_ := Aside0.mk (Kd.R_at hq_ HO_11.out); have n2_ := Aside0.mk (below_at hq_ HB.out); clear hq_ HO_10 HO_11 HB; have HO_10 := n0_; have HO_11 := n1_; have HB := n2_; clear n0_ n1_ n2_; (try (have n_ := Aside0.mk (Kd.R_mono (ok' := (fun k_ => some k_ ≠ (.slice (some ⟨go38, 0, none⟩) x10_4.length co42 : Value).ownBlock)) HO_11.out (fun k_ hk => hk.2)); clear HO_11; have HO_11 := n_; clear n_)); (try (obtain ⟨hy45_, hz45_⟩ := Kd.R_celln 0 HO_11.out (x18_5 : Int) (of_decide_eq_true (by first | (with_reducible assumption) | assumption)) (of_decide_eq_true (by first | (with_reducible assumption) | assumption)))); (try (have HP45 := Kd.R_putg HO_11.out (x18_5 : Int) (-1))))); refine store_event (t := 3) (p := 103) (v := ?vo_w46) (w1 := (w44.setCell ⟨go40, (x18_5 : Int).toNat, none⟩ (.int .i64 (-1)))) ?hg ?ho ?hn ?hr ?_; (case ho => rfl); (case hg => rfl); (case hn => rfl); (case hr => first | (go_simp; done) | (go_simp; rfl)); intro w46 hw; have hg : w44.grownBy w46 (some go40) := (by rw [hw]; exact HP45.2); have hp_ : Kd.R (Kd.int .i64) 3 w46 w.heap.size (fun k_ => some k_ ≠ (.slice (some ⟨go38, 0, none⟩) x10_4.length co42 : Value).ownBlock) (.slice (some ⟨go40, 0, none⟩) x11_4.length co41) y482 := (by rw [hw, Ny482.out]; exact HP45.1); clear HP45; have n0_ := Aside0.mk (Kd.R_after (v := (.slice (some ⟨go40, 0, none⟩) x11_4.length co41)) (v1 := (.slice (some ⟨go40, 0, none⟩) x11_4.length co41)) (ok := (fun _ => True)) (by (with_reducible repeat (first | apply Kd.R_alloc | apply Kd.R_drewN | apply Kd.R_drew)); exact Kd.R_mono HO_10.out (fun _ hk => ⟨trivial, hk⟩)) hg (.inl rfl)); have n1_ := Aside0.mk (hp_); have n2_ := Aside0.mk ((by rw [hw]; exact below_set (HB.out) GB40.out : Below w.heap.size w w46)); clear HO_10; clear HO_11; clear HB; have HO_10 := n0_; have HO_11 := n1_; have HB := n2_; clear n0_ n1_ n2_; clear hg hw hp_))
                  repeat (go_quiet (first | ((with_reducible refine gate_store (t := 3) (p := 100) rfl ?_); (try (rw [drewN_self wr]; generalize hq_ : World.drewN wr _ = wr; have n0_ := Aside0.mk (Kd.R_at hq_ HO_10.out); have n1_ := Aside0.mk (Kd.R_at hq_ HO_11.out); have n2_ := Aside0.mk (below_at hq_ HB.out); clear hq_ HO_10 HO_11 HB; have HO_10 := n0_; have HO_11 := n1_; have HB := n2_; clear n0_ n1_ n2_; (try (have HP43 := Kd.R_putg HO_10.out (x18_5 : Int) (wrap64 ((rd x10_4 x18_5) + 1)))))); refine store_event (t := 3) (p := 100) (v := ?vo_w44) (w1 := (wr.setCell ⟨go38, (x18_5 : Int).toNat, none⟩ (.int .i64 (wrap64 ((rd x10_4 x18_5) + 1))))) ?hg ?ho ?hn ?hr ?_; (case ho => rfl); (case hg => rfl); (case hn => rfl); (case hr => first | (go_simp; done) | (go_simp; rfl)); intro w44 hw; have hg : wr.grownBy w44 (some go38) := (by rw [hw]; exact HP43.2); have hp_ : Kd.R (Kd.int .i64) 3 w44 w.heap.size (fun k_ => some k_ ≠ (.slice Ao41 x11_4.length co41 : Value).ownBlock) (.slice (some ⟨go38, 0, none⟩) x10_4.length co42) y481 := (by rw [hw, Ny481.out]; exact HP43.1); clear HP43; have n0_ := Aside0.mk (hp_); have n1_ := Aside0.mk (Kd.R_after (v := (.slice (some ⟨go38, 0, none⟩) x10_4.length co42)) (v1 := (.slice (some ⟨go38, 0, none⟩) x10_4.length co42)) (ok := (fun _ => True)) (by (with_reducible repeat (first | apply Kd.R_alloc | apply Kd.R_drewN | apply Kd.R_drew)); exact Kd.R_mono HO_11.out (fun _ hk => ⟨trivial, hk⟩)) hg (.inl rfl)); have n2_ := Aside0.mk ((by rw [hw]; exact below_set (HB.out) GB38.out : Below w.heap.size w w44)); clear HO_10; clear HO_11; clear HB; have HO_10 := n0_; have HO_11 := n1_; have HB := n2_; clear n0_ n1_ n2_; clear hg hw hp_; have p40 : 0 ≤ (x18_5 : Int) := of_decide_eq_true (by first | (with_reducible assumption) | assumption); have q40 : (x18_5 : Int) < ((x11_4.length : Int) : Int) := of_decide_eq_true (by first | (with_reducible assumption) | assumption); obtain ⟨go40, co40, eo40, gb40, gl40, cl40, HG40⟩ := Kd.R_form HO_11.out (by omega); (first | cases eo40 | (injection eo40 with ea_ en_ ec_; (first | subst ea_ | (injection ea_ with ea_; subst ea_)); subst ec_; clear en_)); have GB40 := Aside0.mk gb40; have GG40 := Aside0.mk HG40; clear gb40 gl40 HG40; obtain ⟨hx40_0, hf40_0⟩ := Kd.R_celln 0 HO_11.out (x18_5 : Int) p40 q40; replace p40 := eq_true p40; replace q40 := eq_true q40; have n_ := Aside0.mk (Kd.R_mono (ok' := (fun k_ => some k_ ≠ (.slice (some ⟨go38, 0, none⟩) x10_4.length co42 : Value).ownBlock)) HO_11.out (fun k_ hk => hk.2)); clear HO_11; have HO_11 := n_; clear n_; obtain ⟨hy45_, hz45_⟩ := Kd.R_celln 0 HO_11.out (x18_5 : Int) (of_decide_eq_true (by first | (with_reducible assumption) | assumption)) (of_decide_eq_true (by first | (with_reducible assumption) | assumption)); have HP45 := Kd.R_putg HO_11.out (x18_5 : Int) (-1)) | ((with_reducible refine gate_store (t := 3) (p := 103) rfl ?_); (try (rw [drewN_self w44]; generalize hq_ : World.drewN w44 _ = w44; have n0_ := Aside0.mk (Kd.R_at hq_ HO_10.out); have n1_ := Aside0.mk (Kd.R_at hq_ HO_11.out); have n2_ := Aside0.mk (below_at hq_ HB.out); clear hq_ HO_10 HO_11 HB; have HO_10 := n0_; have HO_11 := n1_; have HB := n2_; clear n0_ n1_ n2_; (try (have n_ := Aside0.mk (Kd.R_mono (ok' := (fun k_ => some k_ ≠ (.slice (some ⟨go38, 0, none⟩) x10_4.length co42 : Value).ownBlock)) HO_11.out (fun k_ hk => hk.2)); clear HO_11; have HO_11 := n_; clear n_)); (try (obtain ⟨hy45_, hz45_⟩ := Kd.R_celln 0 HO_11.out (x18_5 : Int) (of_decide_eq_true (by first | (with_reducible assumption) | assumption)) (of_decide_eq_true (by first | (with_reducible assumption) | assumption)))); (try (have HP45 := Kd.R_putg HO_11.out (x18_5 : Int) (-1))))); refine store_event (t := 3) (p := 103) (v := ?vo_w46) (w1 := (w44.setCell ⟨go40, (x18_5 : Int).toNat, none⟩ (.int .i64 (-1)))) ?hg ?ho ?hn ?hr ?_; (case ho => rfl); (case hg => rfl); (case hn => rfl); (case hr => first | (go_simp; done) | (go_simp; rfl)); intro w46 hw; have hg : w44.grownBy w46 (some go40) := (by rw [hw]; exact HP45.2); have hp_ : Kd.R (Kd.int .i64) 3 w46 w.heap.size (fun k_ => some k_ ≠ (.slice (some ⟨go38, 0, none⟩) x10_4.length co42 : Value).ownBlock) (.slice (some ⟨go40, 0, none⟩) x11_4.length co41) y482 := (by rw [hw, Ny482.out]; exact HP45.1); clear HP45; have n0_ := Aside0.mk (Kd.R_after (v := (.slice (some ⟨go40, 0, none⟩) x11_4.length co41)) (v1 := (.slice (some ⟨go40, 0, none⟩) x11_4.length co41)) (ok := (fun _ => True)) (by (with_reducible repeat (first | apply Kd.R_alloc | apply Kd.R_drewN | apply Kd.R_drew)); exact Kd.R_mono HO_10.out (fun _ hk => ⟨trivial, hk⟩)) hg (.inl rfl)); have n1_ := Aside0.mk (hp_); have n2_ := Aside0.mk ((by rw [hw]; exact below_set (HB.out) GB40.out : Below w.heap.size w w46)); clear HO_10; clear HO_11; clear HB; have HO_10 := n0_; have HO_11 := n1_; have HB := n2_; clear n0_ n1_ n2_; clear hg hw hp_)); try go_wp2_with (first | ((with_reducible refine gate_store (t := 3) (p := 100) rfl ?_); (try (rw [drewN_self wr]; generalize hq_ : World.drewN wr _ = wr; have n0_ := Aside0.mk (Kd.R_at hq_ HO_10.out); have n1_ := Aside0.mk (Kd.R_at hq_ HO_11.out); have n2_ := Aside0.mk (below_at hq_ HB.out); clear hq_ HO_10 HO_11 HB; have HO_10 := n0_; have HO_11 := n1_; have HB := n2_; clear n0_ n1_ n2_; (try (have HP43 := Kd.R_putg HO_10.out (x18_5 : Int) (wrap64 ((rd x10_4 x18_5) + 1)))))); refine store_event (t := 3) (p := 100) (v := ?vo_w44) (w1 := (wr.setCell ⟨go38, (x18_5 : Int).toNat, none⟩ (.int .i64 (wrap64 ((rd x10_4 x18_5) + 1))))) ?hg ?ho ?hn ?hr ?_; (case ho => rfl); (case hg => rfl); (case hn => rfl); (case hr => first | (go_simp; done) | (go_simp; rfl)); intro w44 hw; have hg : wr.grownBy w44 (some go38) := (by rw [hw]; exact HP43.2); have hp_ : Kd.R (Kd.int .i64) 3 w44 w.heap.size (fun k_ => some k_ ≠ (.slice Ao41 x11_4.length co41 : Value).ownBlock) (.slice (some ⟨go38, 0, none⟩) x10_4.length co42) y481 := (by rw [hw, Ny481.out]; exact HP43.1); clear HP43; have n0_ := Aside0.mk (hp_); have n1_ := Aside0.mk (Kd.R_after (v := (.slice (some ⟨go38, 0, none⟩) x10_4.length co42)) (v1 := (.slice (some ⟨go38, 0, none⟩) x10_4.length co42)) (ok := (fun _ => True)) (by (with_reducible repeat (first | apply Kd.R_alloc | apply Kd.R_drewN | apply Kd.R_drew)); exact Kd.R_mono HO_11.out (fun _ hk => ⟨trivial, hk⟩)) hg (.inl rfl)); have n2_ := Aside0.mk ((by rw [hw]; exact below_set (HB.out) GB38.out : Below w.heap.size w w44)); clear HO_10; clear HO_11; clear HB; have HO_10 := n0_; have HO_11 := n1_; have HB := n2_; clear n0_ n1_ n2_; clear hg hw hp_; have p40 : 0 ≤ (x18_5 : Int) := of_decide_eq_true (by first | (with_reducible assumption) | assumption); have q40 : (x18_5 : Int) < ((x11_4.length : Int) : Int) := of_decide_eq_true (by first | (with_reducible assumption) | assumption); obtain ⟨go40, co40, eo40, gb40, gl40, cl40, HG40⟩ := Kd.R_form HO_11.out (by omega); (first | cases eo40 | (injection eo40 with ea_ en_ ec_; (first | subst ea_ | (injection ea_ with ea_; subst ea_)); subst ec_; clear en_)); have GB40 := Aside0.mk gb40; have GG40 := Aside0.mk HG40; clear gb40 gl40 HG40; obtain ⟨hx40_0, hf40_0⟩ := Kd.R_celln 0 HO_11.out (x18_5 : Int) p40 q40; replace p40 := eq_true p40; replace q40 := eq_true q40; have n_ := Aside0.mk (Kd.R_mono (ok' := (fun k_ => some k_ ≠ (.slice (some ⟨go38, 0, none⟩) x10_4.length co42 : Value).ownBlock)) HO_11.out (fun k_ hk => hk.2)); clear HO_11; have HO_11 := n_; clear n_; obtain ⟨hy45_, hz45_⟩ := Kd.R_celln 0 HO_11.out (x18_5 : Int) (of_decide_eq_true (by first | (with_reducible assumption) | assumption)) (of_decide_eq_true (by first | (with_reducible assumption) | assumption)); have HP45 := Kd.R_putg HO_11.out (x18_5 : Int) (-1)) | ((with_reducible refine gate_store (t := 3) (p := 103) rfl ?_); (try (rw [drewN_self w44]; generalize hq_ : World.drewN w44 _ = w44; have n0_ := Aside0.mk (Kd.R_at hq_ HO_10.out); have n1_ := Aside0.mk (Kd.R_at hq_ HO_11.out); have n2_ := Aside0.mk (below_at hq_ HB.out); clear hq_ HO_10 HO_11 HB; have HO_10 := n0_; have HO_11 := n1_; have HB := n2_; clear n0_ n1_ n2_; (try (have n_ := Aside0.mk (Kd.R_mono (ok' := (fun k_ => some k_ ≠ (.slice (some ⟨go38, 0, none⟩) x10_4.length co42 : Value).ownBlock)) HO_11.out (fun k_ hk => hk.2)); clear HO_11; have HO_11 := n_; clear n_)); (try (obtain ⟨hy45_, hz45_⟩ := Kd.R_celln 0 HO_11.out (x18_5 : Int) (of_decide_eq_true (by first | (with_reducible assumption) | assumption)) (of_decide_eq_true (by first | (with_reducible assumption) | assumption)))); (try (have HP45 := Kd.R_putg HO_11.out (x18_5 : Int) (-1))))); refine store_event (t := 3) (p := 103) (v := ?vo_w46) (w1 := (w44.setCell ⟨go40, (x18_5 : Int).toNat, none⟩ (.int .i64 (-1)))) ?hg ?ho ?hn ?hr ?_; (case ho => rfl); (case hg => rfl); (case hn => rfl); (case hr => first | (go_simp; done) | (go_simp; rfl)); intro w46 hw; have hg : w44.grownBy w46 (some go40) := (by rw [hw]; exact HP45.2); have hp_ : Kd.R (Kd.int .i64) 3 w46 w.heap.size (fun k_ => some k_ ≠ (.slice (some ⟨go38, 0, none⟩) x10_4.length co42 : Value).ownBlock) (.slice (some ⟨go40, 0, none⟩) x11_4.length co41) y482 := (by rw [hw, Ny482.out]; exact HP45.1); clear HP45; have n0_ := Aside0.mk (Kd.R_after (v := (.slice (some ⟨go40, 0, none⟩) x11_4.length co41)) (v1 := (.slice (some ⟨go40, 0, none⟩) x11_4.length co41)) (ok := (fun _ => True)) (by (with_reducible repeat (first | apply Kd.R_alloc | apply Kd.R_drewN | apply Kd.R_drew)); exact Kd.R_mono HO_10.out (fun _ hk => ⟨trivial, hk⟩)) hg (.inl rfl)); have n1_ := Aside0.mk (hp_); have n2_ := Aside0.mk ((by rw [hw]; exact below_set (HB.out) GB40.out : Below w.heap.size w w46)); clear HO_10; clear HO_11; clear HB; have HO_10 := n0_; have HO_11 := n1_; have HB := n2_; clear n0_ n1_ n2_; clear hg hw hp_)))
                  go_roundg k5
                  case measure => have := HJ3.out; have := HJ7.out; have := HK3.out; have := HK4.out; have := HK5.out; omega
                  case rel => exact ⟨(wrap64 (x8_4 - 1)), (y481), (y482), qs_, H', ⟨by have := HJ3.out; have := HJ7.out; have := HK3.out; have := HK4.out; have := HK5.out; omega⟩, ⟨by (with_reducible repeat (first | apply Kd.R_alloc | apply Kd.R_drewN | apply Kd.R_drew)); exact Kd.R_mono HO_10.out (fun _ hk => hk.2)⟩, ⟨by (with_reducible repeat (first | apply Kd.R_alloc | apply Kd.R_drewN | apply Kd.R_drew)); exact HO_11.out⟩, ⟨qb_ HB.out⟩⟩
                 ·rw [if_neg c39] at H
                  exact absurd H (by simp)
                ·rw [if_neg c37] at H
                 exact absurd H (by simp)
               ·rw [if_neg c36] at H
                exact absurd H (by simp)
           ·rw [if_neg c28] at H
            have c28b0 : decide (0 < x8_4) = false := decide_eq_false c28
            clear c28
            have H' := Aside0.mk H
            clear H
            go_wp2
            repeat (go_quiet (fail); try go_wp2)
            go_loopg [20] k4 (fun kq v20 w' => ∃ (x10_5 : List Int) (x20_5 : Int), v20 = .int .i64 x20_5 ∧ Aside0 (corebankref02_Split.l3 kq a0 x10_5 x20_5 = some (r1, r2)) ∧ Aside0 (kq ≤ k4) ∧ Aside0 (Kd.R (Kd.int .i64) 3 w' w.heap.size (fun _ => True) u10 x10_5) ∧ Aside0 (Below w.heap.size w w'))
            case atStart => exact ⟨(x10_4), (0), qs_, H', ⟨Nat.le_refl _⟩, ⟨by (with_reducible repeat (first | apply Kd.R_alloc | apply Kd.R_drewN | apply Kd.R_drew)); exact Kd.R_mono HO_10.out (fun _ hk => trivial)⟩, ⟨qb_ HB.out⟩⟩
            case round =>
             clear H'
             try clear c1
             try clear c2
             try clear p2
             try clear c3
             try clear p3
             try clear q3
             try clear hx3
             try clear hf3
             try clear p4
             try clear q4
             try clear hx4
             try clear hf4
             try clear c6
             try clear p6
             try clear c7
             try clear c9
             try clear c9b0
             try clear c14
             try clear c14b0
             try clear c15
             try clear c15b0
             try clear c19
             try clear c20
             try clear c25
             try clear c28
             try clear c28b0
             try clear c29
             try clear c29b0
             try clear c30
             try clear c30b0
             try clear c31
             try clear c31b0
             try clear c32
             try clear c32b0
             try clear c33
             try clear c33b0
             try clear c36
             try clear c36b0
             try clear c37
             try clear c37b0
             try clear p38
             try clear q38
             try clear hx38
             try clear hf38
             try clear c39
             try clear c39b0
             try clear p40
             try clear q40
             try clear hx40
             try clear hf40
             try clear p46
             try clear q46
             try clear hx46
             try clear hcz24_0
             try clear hcz24_1
             try clear hfz24_0
             try clear hfz24_1
             try clear hx38_0
             try clear hx40_0
             try clear hx464_0
             try clear hx480_0
             try clear hx483_0
             try clear hx484_0
             try clear p2
             try clear p38
             try clear p4
             try clear p40
             try clear p464
             try clear p480
             try clear p483
             try clear p484
             try clear p6
             try clear q38
             try clear q4
             try clear q40
             try clear q464
             try clear q480
             try clear q483
             try clear q484
             obtain ⟨x10_5, x20_5, rfl, HA, HK5, HO_10, HB⟩ := hrel
             cases gk with
             | zero => exact absurd HA.out (by simp [corebankref02_Split.l3])
             | succ k5 =>
              have H := HA.out
              clear HA
              simp only [corebankref02_Split.l3] at H
              have HC47 := Aside0.mk H
              clear H
              go_upto_region 28 with (fail)
              repeat (go_quiet (fail); go_upto_region 28 with (fail))
              go_cut [113] (fun v113 wc => ∃ (kq : Nat) (x113_46 : Bool), v113 = .bool x113_46 ∧ Aside0 (corebankref02_Split.j6 kq a0 x10_5 x20_5 x113_46 = some (r1, r2)) ∧ Aside0 (kq ≤ k5) ∧ Aside0 (Kd.R (Kd.int .i64) 3 wc w.heap.size (fun _ => True) u10 x10_5) ∧ Aside0 (Below w.heap.size w wc))
              case first =>
               have H := HC47.out
               clear HC47
               by_cases c48 : x20_5 < (x10_5.length : Int)
               ·rw [if_pos c48] at H
                have c48b0 : decide (x20_5 < (x10_5.length : Int)) = true := decide_eq_true c48
                clear c48
                (first | rw [c48b0] | (simp only [i64_w, i32_w]; rw [c48b0]) | skip)
                have H' := Aside0.mk H
                clear H
                obtain ⟨Ao49, co49, eo49⟩ := Kd.R_slice HO_10.out
                subst eo49
                go_wp2
                repeat (go_quiet (fail); try go_wp2)
                go_meet
                case rel => exact ⟨_, (decide (a0 < 0)), qs_, H', ⟨by have := HJ3.out; have := HJ7.out; have := HK3.out; have := HK4.out; have := HK5.out; first | omega | exact Nat.le_refl _⟩, ⟨by (with_reducible repeat (first | apply Kd.R_alloc | apply Kd.R_drewN | apply Kd.R_drew)); exact HO_10.out⟩, ⟨qb_ HB.out⟩⟩
               ·rw [if_neg c48] at H
                have c48b0 : decide (x20_5 < (x10_5.length : Int)) = false := decide_eq_false c48
                clear c48
                (first | rw [c48b0] | (simp only [i64_w, i32_w]; rw [c48b0]) | skip)
                have H' := Aside0.mk H
                clear H
                obtain ⟨Ao50, co50, eo50⟩ := Kd.R_slice HO_10.out
                subst eo50
                go_wp2
                repeat (go_quiet (fail); try go_wp2)
                go_meet
                case rel => exact ⟨_, (false), qs_, H', ⟨by have := HJ3.out; have := HJ7.out; have := HK3.out; have := HK4.out; have := HK5.out; first | omega | exact Nat.le_refl _⟩, ⟨by (with_reducible repeat (first | apply Kd.R_alloc | apply Kd.R_drewN | apply Kd.R_drew)); exact HO_10.out⟩, ⟨qb_ HB.out⟩⟩
              case rest =>
               clear HC47
               try clear c1
               try clear c2
               try clear p2
               try clear c3
               try clear p3
               try clear q3
               try clear hx3
               try clear hf3
               try clear c4
               try clear p4
               try clear q4
               try clear hx4
               try clear hf4
               try clear c6
               try clear p6
               try clear c7
               try clear c9
               try clear c9b0
               try clear c14
               try clear c14b0
               try clear c15
               try clear c15b0
               try clear c19
               try clear c20
               try clear c25
               try clear c28
               try clear c28b0
               try clear c29
               try clear c29b0
               try clear c30
               try clear c30b0
               try clear c31
               try clear c31b0
               try clear c32
               try clear c32b0
               try clear c33
               try clear c33b0
               try clear c36
               try clear c36b0
               try clear c37
               try clear c37b0
               try clear p38
               try clear q38
               try clear hx38
               try clear hf38
               try clear c39
               try clear c39b0
               try clear p40
               try clear q40
               try clear hx40
               try clear hf40
               try clear p46
               try clear q46
               try clear hx46
               try clear c48
               try clear c48b0
               try clear p48
               try clear q48
               try clear hx48
               try clear hcz24_0
               try clear hcz24_1
               try clear hfz24_0
               try clear hfz24_1
               try clear hx38_0
               try clear hx40_0
               try clear hx464_0
               try clear hx480_0
               try clear hx483_0
               try clear hx484_0
               try clear p2
               try clear p3
               try clear p38
               try clear p4
               try clear p40
               try clear p46
               try clear p464
               try clear p480
               try clear p483
               try clear p484
               try clear p6
               try clear q3
               try clear q38
               try clear q4
               try clear q40
               try clear q46
               try clear q464
               try clear q480
               try clear q483
               try clear q484
               obtain ⟨kq, x113_46, rfl, HA, HJ46, HO_10, HB⟩ := hcut
               cases kq with
               | zero => exact absurd HA.out (by simp [corebankref02_Split.j6])
               | succ kj46 =>
                have H := HA.out
                clear HA
                simp only [corebankref02_Split.j6] at H
                by_cases c51 : x113_46 = true
                ·subst c51
                 have H1 : (if 0 ≤ x20_5 then (if x20_5 < (x10_5.length : Int) then (corebankref02_Split.l3 kj46 a0 (x10_5.set (x20_5 : Int).toNat (wrap64 (-(rd x10_5 x20_5)))) (wrap64 (x20_5 + 1))) else (none)) else (none)) = some (r1, r2) := by rw [if_pos rfl] at H; exact H
                 clear H
                 have H := H1
                 clear H1
                 by_cases c52 : 0 ≤ x20_5
                 ·rw [if_pos c52] at H
                  have c52b0 : decide (0 ≤ x20_5) = true := decide_eq_true c52
                  clear c52
                  by_cases c53 : x20_5 < (x10_5.length : Int)
                  ·rw [if_pos c53] at H
                   have c53b0 : decide (x20_5 < (x10_5.length : Int)) = true := decide_eq_true c53
                   clear c53
                   obtain ⟨y486, hy486⟩ : ∃ y_ : List Int, y_ = (x10_5.set (x20_5 : Int).toNat (wrap64 (-(rd x10_5 x20_5)))) := ⟨_, rfl⟩
                   replace H : (corebankref02_Split.l3 kj46 a0 y486 (wrap64 (x20_5 + 1))) = some (r1, r2) := by first | (rw [hy486]; with_reducible exact H) | (have H2_ := (Option.bind_some _ _).symm.trans H; rw [hy486]; with_reducible exact H2_) | (have H2_ := (Option.bind_some _ _).symm.trans H; with_reducible exact H2_) | with_reducible exact H | (rw [hy486]; exact H) | exact H
                   have Ny486 := Aside0.mk hy486
                   clear hy486
                   have H' := Aside0.mk H
                   clear H
                   obtain ⟨Ao55, co55, eo55⟩ := Kd.R_slice HO_10.out
                   subst eo55
                   have p485 : 0 ≤ (x20_5 : Int) := of_decide_eq_true (by first | (with_reducible assumption) | assumption)
                   have q485 : x20_5 < (x10_5.length : Int) := of_decide_eq_true (by first | (with_reducible assumption) | assumption)
                   obtain ⟨ad485, e485, hx485_0⟩ := Kd.at_int (Kd.R_reads' HO_10.out).2.2 x20_5 p485 q485
                   cases e485
                   replace p485 := eq_true p485
                   replace q485 := eq_true q485
                   have p54 : 0 ≤ (x20_5 : Int) := of_decide_eq_true (by first | (with_reducible assumption) | assumption)
                   have q54 : (x20_5 : Int) < ((x10_5.length : Int) : Int) := of_decide_eq_true (by first | (with_reducible assumption) | assumption)
                   obtain ⟨go54, co54, eo54, gb54, gl54, cl54, HG54⟩ := Kd.R_form HO_10.out (by omega)
                   (first | cases eo54 | (injection eo54 with ea_ en_ ec_; (first | subst ea_ | (injection ea_ with ea_; subst ea_)); subst ec_; clear en_))
                   have GB54 := Aside0.mk gb54
                   have GG54 := Aside0.mk HG54
                   clear gb54 gl54 HG54
                   (first | simp only [add_plain] at hx485_0 | skip)
                   obtain ⟨hx54_0, hf54_0⟩ := Kd.R_celln 0 HO_10.out (x20_5 : Int) p54 q54
                   replace p54 := eq_true p54
                   replace q54 := eq_true q54
                   have HP56 := Kd.R_putg HO_10.out (x20_5 : Int) (wrap64 (-(rd x10_5 x20_5)))
                   go_wp2_with (first | ((with_reducible refine gate_store (t := 3) (p := 123) rfl ?_); (try (rw [drewN_self wc]; generalize hq_ : World.drewN wc _ = wc; have n0_ := Aside0.mk (Kd.R_at hq_ HO_10.out); have n1_ := Aside0.mk (below_at hq_ HB.out); clear hq_ HO_10 HB; have HO_10 := n0_; have HB := n1_; clear n0_ n1_; (try (have HP56 := Kd.R_putg HO_10.out (x20_5 : Int) (wrap64 (-(rd x10_5 x20_5))))))); refine store_event (t := 3) (p := 123) (v := ?vo_w57) (w1 := (wc.setCell ⟨go54, (x20_5 : Int).toNat, none⟩ (.int .i64 (wrap64 (-(rd x10_5 x20_5)))))) ?hg ?ho ?hn ?hr ?_; (case ho => rfl); (case hg => rfl); (case hn => rfl); (case hr => first | (go_simp; done) | (go_simp; rfl)); intro w57 hw; have hg : wc.grownBy w57 (some go54) := (by rw [hw]; exact HP56.2); have hp_ : Kd.R (Kd.int .i64) 3 w57 w.heap.size (fun _ => True) (.slice (some ⟨go54, 0, none⟩) x10_5.length co55) y486 := (by rw [hw, Ny486.out]; exact HP56.1); clear HP56; have n0_ := Aside0.mk (hp_); have n1_ := Aside0.mk ((by rw [hw]; exact below_set (HB.out) GB54.out : Below w.heap.size w w57)); clear HO_10; clear HB; have HO_10 := n0_; have HB := n1_; clear n0_ n1_; clear hg hw hp_))
                   repeat (go_quiet (first | ((with_reducible refine gate_store (t := 3) (p := 123) rfl ?_); (try (rw [drewN_self wc]; generalize hq_ : World.drewN wc _ = wc; have n0_ := Aside0.mk (Kd.R_at hq_ HO_10.out); have n1_ := Aside0.mk (below_at hq_ HB.out); clear hq_ HO_10 HB; have HO_10 := n0_; have HB := n1_; clear n0_ n1_; (try (have HP56 := Kd.R_putg HO_10.out (x20_5 : Int) (wrap64 (-(rd x10_5 x20_5))))))); refine store_event (t := 3) (p := 123) (v := ?vo_w57) (w1 := (wc.setCell ⟨go54, (x20_5 : Int).toNat, none⟩ (.int .i64 (wrap64 (-(rd x10_5 x20_5)))))) ?hg ?ho ?hn ?hr ?_; (case ho => rfl); (case hg => rfl); (case hn => rfl); (case hr => first | (go_simp; done) | (go_simp; rfl)); intro w57 hw; have hg : wc.grownBy w57 (some go54) := (by rw [hw]; exact HP56.2); have hp_ : Kd.R (Kd.int .i64) 3 w57 w.heap.size (fun _ => True) (.slice (some ⟨go54, 0, none⟩) x10_5.length co55) y486 := (by rw [hw, Ny486.out]; exact HP56.1); clear HP56; have n0_ := Aside0.mk (hp_); have n1_ := Aside0.mk ((by rw [hw]; exact below_set (HB.out) GB54.out : Below w.heap.size w w57)); clear HO_10; clear HB; have HO_10 := n0_; have HB := n1_; clear n0_ n1_; clear hg hw hp_)); try go_wp2_with (first | ((with_reducible refine gate_store (t := 3) (p := 123) rfl ?_); (try (rw [drewN_self wc]; generalize hq_ : World.drewN wc _ = wc; have n0_ := Aside0.mk (Kd.R_at hq_ HO_10.out); have n1_ := Aside0.mk (below_at hq_ HB.out); clear hq_ HO_10 HB; have HO_10 := n0_; have HB := n1_; clear n0_ n1_; (try (have HP56 := Kd.R_putg HO_10.out (x20_5 : Int) (wrap64 (-(rd x10_5 x20_5))))))); refine store_event (t := 3) (p := 123) (v := ?vo_w57) (w1 := (wc.setCell ⟨go54, (x20_5 : Int).toNat, none⟩ (.int .i64 (wrap64 (-(rd x10_5 x20_5)))))) ?hg ?ho ?hn ?hr ?_; (case ho => rfl); (case hg => rfl); (case hn => rfl); (case hr => first | (go_simp; done) | (go_simp; rfl)); intro w57 hw; have hg : wc.grownBy w57 (some go54) := (by rw [hw]; exact HP56.2); have hp_ : Kd.R (Kd.int .i64) 3 w57 w.heap.size (fun _ => True) (.slice (some ⟨go54, 0, none⟩) x10_5.length co55) y486 := (by rw [hw, Ny486.out]; exact HP56.1); clear HP56; have n0_ := Aside0.mk (hp_); have n1_ := Aside0.mk ((by rw [hw]; exact below_set (HB.out) GB54.out : Below w.heap.size w w57)); clear HO_10; clear HB; have HO_10 := n0_; have HB := n1_; clear n0_ n1_; clear hg hw hp_)))
                   go_roundg kj46
                   case measure => have := HJ3.out; have := HJ7.out; have := HK3.out; have := HK4.out; have := HK5.out; have := HJ46.out; omega
                   case rel => exact ⟨(y486), (wrap64 (x20_5 + 1)), qs_, H', ⟨by have := HJ3.out; have := HJ7.out; have := HK3.out; have := HK4.out; have := HK5.out; have := HJ46.out; omega⟩, ⟨by (with_reducible repeat (first | apply Kd.R_alloc | apply Kd.R_drewN | apply Kd.R_drew)); exact HO_10.out⟩, ⟨qb_ HB.out⟩⟩
                  ·rw [if_neg c53] at H
                   exact absurd H (by simp)
                 ·rw [if_neg c52] at H
                  exact absurd H (by simp)
                ·replace c51 := Bool.eq_false_iff.mpr c51
                 subst c51
                 have H1 : (some (x10_5, 0)) = some (r1, r2) := by rw [if_neg (show ¬ (false = true) by decide)] at H; exact H
                 clear H
                 have H := H1
                 clear H1
                 simp only [Option.some.injEq, Prod.mk.injEq] at H
                 obtain ⟨rfl, rfl⟩ := H
                 go_wp2
                 repeat (go_quiet (fail); try go_wp2)
                 go_ret2
                 exact ⟨_, qe_, by (with_reducible repeat (first | apply Kd.R_alloc | apply Kd.R_drewN | apply Kd.R_drew)); exact HO_10.out, qb_ HB.out⟩
end Go.Proofs.YtkdhippoibjfkaaDoor.PR
