import Derived.Test.YtkdhippoibjfkaaDoorQRm2
import Derived.Test.YtkdhippoibjfkaaDoorQRm6
import Derived.Test.YtkdhippoibjfkaaDoorQRm10
import Derived.Test.YtkdhippoibjfkaaDoorQRm11
import Derived.Test.YtkdhippoibjfkaaDoorQRm12
import Derived.Test.YtkdhippoibjfkaaDoorQRx34
namespace Go.Proofs.YtkdhippoibjfkaaDoor.PR
open Go.RowKit Go.Proofs.YtkdhippoibjfkaaDoorW.PrintWords Go.Proofs.YtkdhippoibjfkaaDoorW.PrintLast
set_option linter.unusedVariables false
set_option linter.unusedSimpArgs false
mutual
def corebanklaw02_RoundingSplits.j0 : Nat → Int → List Int → Int → List Int → Int → Bool → Option (Bool)
 | 0, _, _, _, _, _, _ => none
 | k + 1, x0, x1, x5, x7, x8, x34 => if x34 = true then (if (x7.length : Int) = 0 then (if x8 = 1 then ((corebanklaw02_live.f).bind fun t507 => (some t507)) else (some false)) else (some false)) else (if x8 = 0 then (corebanklaw02_RoundingSplits.j1 k x0 x1 x5 x7 ((x7.length : Int) != (x1.length : Int))) else (corebanklaw02_RoundingSplits.j1 k x0 x1 x5 x7 true))
def corebanklaw02_RoundingSplits.j1 : Nat → Int → List Int → Int → List Int → Bool → Option (Bool)
 | 0, _, _, _, _, _ => none
 | k + 1, x0, x1, x5, x7, x53 => if x53 = true then (some false) else (corebanklaw02_RoundingSplits.l0 k x0 x1 x5 x7 0 0)
def corebanklaw02_RoundingSplits.l0 : Nat → Int → List Int → Int → List Int → Int → Int → Option (Bool)
 | 0, _, _, _, _, _, _ => none
 | k + 1, x0, x1, x5, x7, x9, x10 => if x10 < (x7.length : Int) then (if 0 ≤ x10 then ((corebankref02_Good.f (rd x7 x10)).bind fun t509 => (if t509 = true then (if (rd x7 x10) > 0 then (if x0 < 0 then (corebanklaw02_RoundingSplits.j3 k x0 x1 x5 x7 x9 x10 true) else (if (rd x7 x10) < 0 then (corebanklaw02_RoundingSplits.j3 k x0 x1 x5 x7 x9 x10 (decide (x0 > 0))) else (corebanklaw02_RoundingSplits.j3 k x0 x1 x5 x7 x9 x10 false))) else (if (rd x7 x10) < 0 then (corebanklaw02_RoundingSplits.j3 k x0 x1 x5 x7 x9 x10 (decide (x0 > 0))) else (corebanklaw02_RoundingSplits.j3 k x0 x1 x5 x7 x9 x10 false))) else (corebanklaw02_RoundingSplits.j3 k x0 x1 x5 x7 x9 x10 true))) else (none)) else (if x9 = x0 then ((corebanklaw02_live.f).bind fun t530 => (some t530)) else (some false))
def corebanklaw02_RoundingSplits.j3 : Nat → Int → List Int → Int → List Int → Int → Int → Bool → Option (Bool)
 | 0, _, _, _, _, _, _, _ => none
 | k + 1, x0, x1, x5, x7, x9, x10, x87 => if x87 = true then (some false) else (if 0 ≤ x10 then (if x10 < (x7.length : Int) then ((corebankref01_Mul.f (rd x7 x10) x5).bind fun bt514 => (if x10 < (x1.length : Int) then ((corebankref01_Mul.f x0 (rd x1 x10)).bind fun bt517 => ((corebankref01_Sub.f bt514.1 bt514.2 bt517.1 bt517.2).bind fun bt519 => ((corebankref01_Of.f x5).bind fun bt523 => ((corebankref01_Cmp.f bt519.1 bt519.2.1 bt523.1 bt523.2).bind fun t525 => (if t525 ≥ 0 then (corebanklaw02_RoundingSplits.j4 k x0 x1 x5 x7 x9 x10 true) else ((corebankref01_Of.f (wrap64 (-x5))).bind fun bt526 => ((corebankref01_Cmp.f bt519.1 bt519.2.1 bt526.1 bt526.2).bind fun t528 => (corebanklaw02_RoundingSplits.j4 k x0 x1 x5 x7 x9 x10 (decide (t528 ≤ 0)))))))))) else (none))) else (none)) else (none))
def corebanklaw02_RoundingSplits.j4 : Nat → Int → List Int → Int → List Int → Int → Int → Bool → Option (Bool)
 | 0, _, _, _, _, _, _, _ => none
 | k + 1, x0, x1, x5, x7, x9, x10, x116 => if x116 = true then (some false) else (if 0 ≤ x10 then (if x10 < (x7.length : Int) then (corebanklaw02_RoundingSplits.l0 k x0 x1 x5 x7 (wrap64 (x9 + (rd x7 x10))) (wrap64 (x10 + 1))) else (none)) else (none))
end
def corebanklaw02_RoundingSplits.f (k : Nat) (a0 : Int) (l1 : List Int) : Option (Bool) := if (l1.length : Int) > 100 then ((corebanklaw02_live.f).bind fun t499 => (some t499)) else ((corebankref02_Total.f k l1).bind fun bt500 => ((rounding_Split.f k a0 l1).bind fun bt502 => (if bt500.2 = true then ((corebankref02_Good.f a0).bind fun t506 => (corebanklaw02_RoundingSplits.j0 k a0 l1 bt500.1 bt502.1 bt502.2 (!t506))) else (corebanklaw02_RoundingSplits.j0 k a0 l1 bt500.1 bt502.1 bt502.2 true))))
theorem corebanklaw02_RoundingSplits.mono_l : ∀ k, (∀ y0 y1 y2 y3 y4 y5, LeO (corebanklaw02_RoundingSplits.j0 k y0 y1 y2 y3 y4 y5) (corebanklaw02_RoundingSplits.j0 (k + 1) y0 y1 y2 y3 y4 y5)) ∧ (∀ y0 y1 y2 y3 y4, LeO (corebanklaw02_RoundingSplits.j1 k y0 y1 y2 y3 y4) (corebanklaw02_RoundingSplits.j1 (k + 1) y0 y1 y2 y3 y4)) ∧ (∀ y0 y1 y2 y3 y4 y5, LeO (corebanklaw02_RoundingSplits.l0 k y0 y1 y2 y3 y4 y5) (corebanklaw02_RoundingSplits.l0 (k + 1) y0 y1 y2 y3 y4 y5)) ∧ (∀ y0 y1 y2 y3 y4 y5 y6, LeO (corebanklaw02_RoundingSplits.j3 k y0 y1 y2 y3 y4 y5 y6) (corebanklaw02_RoundingSplits.j3 (k + 1) y0 y1 y2 y3 y4 y5 y6)) ∧ (∀ y0 y1 y2 y3 y4 y5 y6, LeO (corebanklaw02_RoundingSplits.j4 k y0 y1 y2 y3 y4 y5 y6) (corebanklaw02_RoundingSplits.j4 (k + 1) y0 y1 y2 y3 y4 y5 y6))
 | 0 => ⟨fun _ _ _ _ _ _ r h => by simp [corebanklaw02_RoundingSplits.j0] at h, fun _ _ _ _ _ r h => by simp [corebanklaw02_RoundingSplits.j1] at h, fun _ _ _ _ _ _ r h => by simp [corebanklaw02_RoundingSplits.l0] at h, fun _ _ _ _ _ _ _ r h => by simp [corebanklaw02_RoundingSplits.j3] at h, fun _ _ _ _ _ _ _ r h => by simp [corebanklaw02_RoundingSplits.j4] at h⟩
 | k + 1 => by
  obtain ⟨ih0, ih1, ih2, ih3, ih4⟩ := corebanklaw02_RoundingSplits.mono_l k
  refine ⟨?_, ?_, ?_, ?_, ?_⟩
  ·intro y0 y1 y2 y3 y4 y5
   unfold corebanklaw02_RoundingSplits.j0
   repeat' first
   | (with_reducible exact ih0 _ _ _ _ _ _)
   | (with_reducible exact ih1 _ _ _ _ _)
   | (with_reducible exact ih2 _ _ _ _ _ _)
   | (with_reducible exact ih3 _ _ _ _ _ _ _)
   | (with_reducible exact ih4 _ _ _ _ _ _ _)
   | (with_reducible exact corebankref02_Total.mono _ _)
   | (with_reducible exact rounding_Split.mono _ _ _)
   | (with_reducible exact LeO.refl _)
   | (with_reducible exact LeO.none _)
   | (with_reducible refine LeO.ite ?_ ?_)
   | (with_reducible refine LeO.bind ?_ (fun _ => ?_))
   | exact ih0 _ _ _ _ _ _
   | exact ih1 _ _ _ _ _
   | exact ih2 _ _ _ _ _ _
   | exact ih3 _ _ _ _ _ _ _
   | exact ih4 _ _ _ _ _ _ _
   | exact corebankref02_Total.mono _ _
   | exact rounding_Split.mono _ _ _
   | exact LeO.none _
   | refine LeO.ite ?_ ?_
   | refine LeO.bind ?_ (fun _ => ?_)
  ·intro y0 y1 y2 y3 y4
   unfold corebanklaw02_RoundingSplits.j1
   repeat' first
   | (with_reducible exact ih0 _ _ _ _ _ _)
   | (with_reducible exact ih1 _ _ _ _ _)
   | (with_reducible exact ih2 _ _ _ _ _ _)
   | (with_reducible exact ih3 _ _ _ _ _ _ _)
   | (with_reducible exact ih4 _ _ _ _ _ _ _)
   | (with_reducible exact corebankref02_Total.mono _ _)
   | (with_reducible exact rounding_Split.mono _ _ _)
   | (with_reducible exact LeO.refl _)
   | (with_reducible exact LeO.none _)
   | (with_reducible refine LeO.ite ?_ ?_)
   | (with_reducible refine LeO.bind ?_ (fun _ => ?_))
   | exact ih0 _ _ _ _ _ _
   | exact ih1 _ _ _ _ _
   | exact ih2 _ _ _ _ _ _
   | exact ih3 _ _ _ _ _ _ _
   | exact ih4 _ _ _ _ _ _ _
   | exact corebankref02_Total.mono _ _
   | exact rounding_Split.mono _ _ _
   | exact LeO.none _
   | refine LeO.ite ?_ ?_
   | refine LeO.bind ?_ (fun _ => ?_)
  ·intro y0 y1 y2 y3 y4 y5
   unfold corebanklaw02_RoundingSplits.l0
   repeat' first
   | (with_reducible exact ih0 _ _ _ _ _ _)
   | (with_reducible exact ih1 _ _ _ _ _)
   | (with_reducible exact ih2 _ _ _ _ _ _)
   | (with_reducible exact ih3 _ _ _ _ _ _ _)
   | (with_reducible exact ih4 _ _ _ _ _ _ _)
   | (with_reducible exact corebankref02_Total.mono _ _)
   | (with_reducible exact rounding_Split.mono _ _ _)
   | (with_reducible exact LeO.refl _)
   | (with_reducible exact LeO.none _)
   | (with_reducible refine LeO.ite ?_ ?_)
   | (with_reducible refine LeO.bind ?_ (fun _ => ?_))
   | exact ih0 _ _ _ _ _ _
   | exact ih1 _ _ _ _ _
   | exact ih2 _ _ _ _ _ _
   | exact ih3 _ _ _ _ _ _ _
   | exact ih4 _ _ _ _ _ _ _
   | exact corebankref02_Total.mono _ _
   | exact rounding_Split.mono _ _ _
   | exact LeO.none _
   | refine LeO.ite ?_ ?_
   | refine LeO.bind ?_ (fun _ => ?_)
  ·intro y0 y1 y2 y3 y4 y5 y6
   unfold corebanklaw02_RoundingSplits.j3
   repeat' first
   | (with_reducible exact ih0 _ _ _ _ _ _)
   | (with_reducible exact ih1 _ _ _ _ _)
   | (with_reducible exact ih2 _ _ _ _ _ _)
   | (with_reducible exact ih3 _ _ _ _ _ _ _)
   | (with_reducible exact ih4 _ _ _ _ _ _ _)
   | (with_reducible exact corebankref02_Total.mono _ _)
   | (with_reducible exact rounding_Split.mono _ _ _)
   | (with_reducible exact LeO.refl _)
   | (with_reducible exact LeO.none _)
   | (with_reducible refine LeO.ite ?_ ?_)
   | (with_reducible refine LeO.bind ?_ (fun _ => ?_))
   | exact ih0 _ _ _ _ _ _
   | exact ih1 _ _ _ _ _
   | exact ih2 _ _ _ _ _ _
   | exact ih3 _ _ _ _ _ _ _
   | exact ih4 _ _ _ _ _ _ _
   | exact corebankref02_Total.mono _ _
   | exact rounding_Split.mono _ _ _
   | exact LeO.none _
   | refine LeO.ite ?_ ?_
   | refine LeO.bind ?_ (fun _ => ?_)
  ·intro y0 y1 y2 y3 y4 y5 y6
   unfold corebanklaw02_RoundingSplits.j4
   repeat' first
   | (with_reducible exact ih0 _ _ _ _ _ _)
   | (with_reducible exact ih1 _ _ _ _ _)
   | (with_reducible exact ih2 _ _ _ _ _ _)
   | (with_reducible exact ih3 _ _ _ _ _ _ _)
   | (with_reducible exact ih4 _ _ _ _ _ _ _)
   | (with_reducible exact corebankref02_Total.mono _ _)
   | (with_reducible exact rounding_Split.mono _ _ _)
   | (with_reducible exact LeO.refl _)
   | (with_reducible exact LeO.none _)
   | (with_reducible refine LeO.ite ?_ ?_)
   | (with_reducible refine LeO.bind ?_ (fun _ => ?_))
   | exact ih0 _ _ _ _ _ _
   | exact ih1 _ _ _ _ _
   | exact ih2 _ _ _ _ _ _
   | exact ih3 _ _ _ _ _ _ _
   | exact ih4 _ _ _ _ _ _ _
   | exact corebankref02_Total.mono _ _
   | exact rounding_Split.mono _ _ _
   | exact LeO.none _
   | refine LeO.ite ?_ ?_
   | refine LeO.bind ?_ (fun _ => ?_)
theorem corebanklaw02_RoundingSplits.mono : ∀ a0 a1 k, LeO (corebanklaw02_RoundingSplits.f k a0 a1) (corebanklaw02_RoundingSplits.f (k + 1) a0 a1) := by
 intro a0 a1 k
 obtain ⟨ih0, ih1, ih2, ih3, ih4⟩ := corebanklaw02_RoundingSplits.mono_l k
 unfold corebanklaw02_RoundingSplits.f
 repeat' first
   | (with_reducible exact ih0 _ _ _ _ _ _)
   | (with_reducible exact ih1 _ _ _ _ _)
   | (with_reducible exact ih2 _ _ _ _ _ _)
   | (with_reducible exact ih3 _ _ _ _ _ _ _)
   | (with_reducible exact ih4 _ _ _ _ _ _ _)
   | (with_reducible exact corebankref02_Total.mono _ _)
   | (with_reducible exact rounding_Split.mono _ _ _)
   | (with_reducible exact LeO.refl _)
   | (with_reducible exact LeO.none _)
   | (with_reducible refine LeO.ite ?_ ?_)
   | (with_reducible refine LeO.bind ?_ (fun _ => ?_))
   | exact ih0 _ _ _ _ _ _
   | exact ih1 _ _ _ _ _
   | exact ih2 _ _ _ _ _ _
   | exact ih3 _ _ _ _ _ _ _
   | exact ih4 _ _ _ _ _ _ _
   | exact corebankref02_Total.mono _ _
   | exact rounding_Split.mono _ _ _
   | exact LeO.none _
   | refine LeO.ite ?_ ?_
   | refine LeO.bind ?_ (fun _ => ?_)
def corebanklaw02_RoundingSplits.T15 : Bool × List (List Nat × List Nat) := (true, [([], []), ([], []), ([0, 1], [0, 1]), ([2], [2]), ([], []), ([3, 4], [3, 4]), ([], []), ([], []), ([], []), ([7, 8], [7, 8]), ([9], [9]), ([6, 10, 5], [6, 10]), ([5, 11, 11], [5, 11]), ([12], [12]), ([13], [13]), ([13], [13]), ([], []), ([16, 14, 12, 0, 1, 2, 3, 4, 5, 6, 7, 8, 9, 10, 11, 12, 13, 14, 16], [14, 16]), ([15, 17, 0, 1, 2, 3, 4, 5, 6, 7, 8, 9, 10, 11, 12, 13, 14, 15, 16, 17], [15])])
def corebanklaw02_RoundingSplits.B15 : List Nat := [0, 0, 3, 7, 0, 31, 0, 0, 0, 384, 896, 2047, 4095, 8191, 16383, 16383, 0, 98303, 262143]
theorem corebanklaw02_RoundingSplits.tab15 : rtab .any (opsOf Tryd.f7 15) = corebanklaw02_RoundingSplits.T15 := by kernel_rfl
theorem corebanklaw02_RoundingSplits.bits15 : waitsOk corebanklaw02_RoundingSplits.T15.2 corebanklaw02_RoundingSplits.B15 = true := by kernel_rfl
def corebanklaw02_RoundingSplits.T16 : Bool × List (List Nat × List Nat) := (true, [([], []), ([], []), ([1], [1]), ([0, 2, 2], [0, 2]), ([3], [3]), ([4, 3], [4]), ([5], [5]), ([5], [5]), ([7, 5], [5, 7]), ([8, 5, 5], [5, 8]), ([6, 9, 9, 5], [5, 6, 9]), ([10, 5], [5, 10]), ([5, 11], [5, 11])])
def corebanklaw02_RoundingSplits.B16 : List Nat := [0, 0, 2, 7, 15, 31, 63, 63, 191, 447, 1023, 2047, 4095]
theorem corebanklaw02_RoundingSplits.tab16 : rtab .any (opsOf Tryd.f7 16) = corebanklaw02_RoundingSplits.T16 := by kernel_rfl
theorem corebanklaw02_RoundingSplits.bits16 : waitsOk corebanklaw02_RoundingSplits.T16.2 corebanklaw02_RoundingSplits.B16 = true := by kernel_rfl
set_option maxHeartbeats 8000000 in
set_option maxRecDepth 100000 in
theorem corebanklaw02_RoundingSplits.calls (k : Nat) (a0 : Int) (A1 : Option Addr) (c1 : Nat) (l1 : List Int) (r : Bool) (w : World) (hG : GW w) (hr1 : Kd.C (Kd.int .i64) w A1 l1.length l1) (hc1 : l1.length ≤ c1) (h : corebanklaw02_RoundingSplits.f k a0 l1 = some r) :
  Calls Tryd.prog 7 #[.int .i64 a0, .slice A1 l1.length c1] w fun e w' => e = .returned (.bool r) ∧ Below w.heap.size w w' := by
 have hu24 := Tryd.underlying24
 have HR1 := Aside0.mk hr1
 have HC1 := Aside0.mk hc1
 clear hr1 hc1
 have HB := Aside0.mk (Below.refl w.heap.size w)
 have H : (if (l1.length : Int) > 100 then ((corebanklaw02_live.f).bind fun t499 => (some t499)) else ((corebankref02_Total.f k l1).bind fun bt500 => ((rounding_Split.f k a0 l1).bind fun bt502 => (if bt500.2 = true then ((corebankref02_Good.f a0).bind fun t506 => (corebanklaw02_RoundingSplits.j0 k a0 l1 bt500.1 bt502.1 bt502.2 (!t506))) else (corebanklaw02_RoundingSplits.j0 k a0 l1 bt500.1 bt502.1 bt502.2 true))))) = some r := h
 clear h
 by_cases c3 : (l1.length : Int) > 100
 ·rw [if_pos c3] at H
  have c3b0 : decide (100 < (l1.length : Int)) = true := decide_eq_true c3
  have c3b1 : decide (100 < l1.length) = true := decide_eq_true (by omega)
  clear c3
  replace H := Option.bind_eq_some_iff.mp H
  obtain ⟨t499, A40, H⟩ := H
  replace H : (some t499) = some r := H
  have A4 := Aside0.mk A40
  clear A40
  obtain rfl := Option.some.inj H
  go_enter Tryd.func7, Tryd.ntmps7
  go_wp2_with (first | ((with_reducible refine gate_callee (f := 15) rfl ?_); refine goesL_ (some 16) rfl rfl Tryd.func15 (by kernel_rfl) rfl #[] rfl ql_ ?_; (with_reducible refine (corebanklaw02_live.calls (hG := by first | exact hG | (with_reducible exact GW.below hG (qb_ HB.out)) | (with_reducible repeat (first | exact hG | apply GW.drewN | apply GW.drew)))  t499 _ A4.out).mono ?_); rintro e w5 ⟨rfl, hb⟩; refine ⟨_, rfl, ?_⟩; have n0_ := Aside0.mk (below_step (qb_ HB.out) hb); clear HB; have HB := n0_; clear n0_; (try clear hb); (try clear hb2); (try clear hk); (try clear hi)))
  go_ret
  exact ⟨qe_, qb_ HB.out⟩
 ·rw [if_neg c3] at H
  have c3b0 : decide (100 < (l1.length : Int)) = false := decide_eq_false c3
  have c3b1 : decide (100 < l1.length) = false := decide_eq_false (by omega)
  clear c3
  replace H := Option.bind_eq_some_iff.mp H
  obtain ⟨⟨t500, t501⟩, A60, H⟩ := H
  replace H : ((rounding_Split.f k a0 l1).bind fun bt502 => (if t501 = true then ((corebankref02_Good.f a0).bind fun t506 => (corebanklaw02_RoundingSplits.j0 k a0 l1 t500 bt502.1 bt502.2 (!t506))) else (corebanklaw02_RoundingSplits.j0 k a0 l1 t500 bt502.1 bt502.2 true))) = some r := H
  have A6 := Aside0.mk A60
  clear A60
  replace H := Option.bind_eq_some_iff.mp H
  obtain ⟨⟨t502, t503⟩, A70, H⟩ := H
  replace H : (if t501 = true then ((corebankref02_Good.f a0).bind fun t506 => (corebanklaw02_RoundingSplits.j0 k a0 l1 t500 t502 t503 (!t506))) else (corebanklaw02_RoundingSplits.j0 k a0 l1 t500 t502 t503 true)) = some r := H
  have A7 := Aside0.mk A70
  clear A70
  have HC8 := Aside0.mk H
  clear H
  go_enter Tryd.func7, Tryd.ntmps7
  go_upto_region 5 with (first | ((with_reducible refine gate_callee (f := 26) rfl ?_); refine goesL_ (some 19) rfl rfl Tryd.func26 (by kernel_rfl) rfl #[.slice A1 l1.length c1] rfl ql_ ?_; (with_reducible refine (corebankref02_Total.calls k _ _ l1 t500 t501 _ ?side1 ?side2 A6.out).mono ?_); (case side1 => repeat (first | exact HR1.out | (with_reducible refine Kd.C_alloc ?_ _) | (with_reducible refine Kd.C_drewN ?_ _) | (with_reducible refine Kd.C_drew ?_))); (case side2 => exact HC1.out); rintro e w' ⟨rfl, ⟨nd, rfl⟩⟩; refine ⟨_, rfl, ?_⟩) | ((with_reducible refine gate_callee (f := 24) rfl ?_); refine goesL_ (some 25) rfl rfl Tryd.func24 (by kernel_rfl) rfl #[.int .i64 a0, .slice A1 l1.length c1] rfl ql_ ?_; (with_reducible refine (rounding_Split.calls k a0 _ _ l1 t502 t503 _ ?side1 ?side2 A7.out).mono ?_); (case side1 => repeat (first | exact HR1.out | (with_reducible refine Kd.C_alloc ?_ _) | (with_reducible refine Kd.C_drewN ?_ _) | (with_reducible refine Kd.C_drew ?_))); (case side2 => exact HC1.out); rintro e w9 ⟨v504, rfl, ho0, hb⟩; refine ⟨_, rfl, ?_⟩; have n0_ := Aside0.mk (Kd.R_lower ho0 (below_size (qb_ HB.out))); have n1_ := Aside0.mk (below_step (qb_ HB.out) hb); clear HB; have HO505 := n0_; have HB := n1_; clear n0_ n1_; (try clear hb); (try clear hb2); (try clear hk); (try clear hi); (try clear ho0)))
  (try simp only [Act.put, List.setIfInBounds_toArray, List.set_cons_zero, List.set_cons_succ])
  go_cut [34] (fun v34 wc => ∃ (kq : Nat) (x34_7 : Bool), v34 = .bool x34_7 ∧ Aside0 (corebanklaw02_RoundingSplits.j0 kq a0 l1 t500 t502 t503 x34_7 = some r) ∧ Aside0 (kq ≤ k) ∧ Aside0 (Kd.R (Kd.int .i64) 3 wc w.heap.size (fun _ => True) v504 t502) ∧ Aside0 (Below w.heap.size w wc))
  case first =>
   have H := HC8.out
   clear HC8
   by_cases c10 : t501 = true
   ·subst c10
    have H1 : ((corebankref02_Good.f a0).bind fun t506 => (corebanklaw02_RoundingSplits.j0 k a0 l1 t500 t502 t503 (!t506))) = some r := by rw [if_pos rfl] at H; exact H
    clear H
    have H := H1
    clear H1
    replace H := Option.bind_eq_some_iff.mp H
    obtain ⟨t506, A110, H⟩ := H
    replace H : (corebanklaw02_RoundingSplits.j0 k a0 l1 t500 t502 t503 (!t506)) = some r := H
    have A11 := Aside0.mk A110
    clear A110
    have H' := Aside0.mk H
    clear H
    go_wp2_with (first | (go_at_call 27; (with_reducible refine (corebankref02_Good.calls a0 t506 _ A11.out).mono ?_); rintro e w' ⟨rfl, ⟨nd, rfl⟩⟩))
    go_meet
    case rel => exact ⟨_, (!t506), qs_, H', ⟨qo_⟩, ⟨by (with_reducible repeat (first | apply Kd.R_alloc | apply Kd.R_drewN | apply Kd.R_drew)); exact HO505.out⟩, ⟨qb_ HB.out⟩⟩
   ·replace c10 := Bool.eq_false_iff.mpr c10
    subst c10
    have H1 : (corebanklaw02_RoundingSplits.j0 k a0 l1 t500 t502 t503 true) = some r := by rw [if_neg (show ¬ (false = true) by decide)] at H; exact H
    clear H
    have H := H1
    clear H1
    have H' := Aside0.mk H
    clear H
    go_wp2
    go_meet
    case rel => exact ⟨_, (true), qs_, H', ⟨qo_⟩, ⟨by (with_reducible repeat (first | apply Kd.R_alloc | apply Kd.R_drewN | apply Kd.R_drew)); exact HO505.out⟩, ⟨qb_ HB.out⟩⟩
  case rest =>
   clear HC8
   try clear c1
   try clear c2
   try clear p2
   try clear c3
   try clear c3b0
   try clear c3b1
   try clear c7
   try clear c10
   obtain ⟨kq, x34_7, rfl, HA, HJ7, HO_7, HB⟩ := hcut
   cases kq with
   | zero => exact absurd HA.out (by simp [corebanklaw02_RoundingSplits.j0])
   | succ kj7 =>
    have H := HA.out
    clear HA
    simp only [corebanklaw02_RoundingSplits.j0] at H
    by_cases c12 : x34_7 = true
    ·subst c12
     have H1 : (if (t502.length : Int) = 0 then (if t503 = 1 then ((corebanklaw02_live.f).bind fun t507 => (some t507)) else (some false)) else (some false)) = some r := by rw [if_pos rfl] at H; exact H
     clear H
     have H := H1
     clear H1
     by_cases c13 : (t502.length : Int) = 0
     ·rw [if_pos c13] at H
      have c13b0 : ((t502.length : Int) == 0) = true := beq_iff_eq.mpr c13
      have c13b1 : ((t502.length : Int) != 0) = false := bne_eq_false_iff_eq.mpr c13
      clear c13
      by_cases c14 : t503 = 1
      ·rw [if_pos c14] at H
       have c14b0 : (t503 == 1) = true := beq_iff_eq.mpr c14
       have c14b1 : (t503 != 1) = false := bne_eq_false_iff_eq.mpr c14
       clear c14
       replace H := Option.bind_eq_some_iff.mp H
       obtain ⟨t507, A150, H⟩ := H
       replace H : (some t507) = some r := H
       have A15 := Aside0.mk A150
       clear A150
       obtain rfl := Option.some.inj H
       obtain ⟨Ao16, co16, eo16⟩ := Kd.R_slice HO_7.out
       subst eo16
       go_wp2_with (first | (go_at_call 15; (with_reducible refine (corebanklaw02_live.calls (hG := by first | exact hG | (with_reducible exact GW.below hG (qb_ HB.out)) | (with_reducible repeat (first | exact hG | apply GW.drewN | apply GW.drew)))  t507 _ A15.out).mono ?_); rintro e w17 ⟨rfl, hb⟩; have n0_ := Aside0.mk (Kd.R_below (by (with_reducible repeat (first | apply Kd.R_alloc | apply Kd.R_drewN | apply Kd.R_drew)); exact HO_7.out) hb); have n1_ := Aside0.mk (below_step (qb_ HB.out) hb); clear HO_7; clear HB; have HO_7 := n0_; have HB := n1_; clear n0_ n1_; (try clear hb); (try clear hb2); (try clear hk); (try clear hi)))
       go_ret
       exact ⟨qe_, qb_ HB.out⟩
      ·rw [if_neg c14] at H
       have c14b0 : (t503 == 1) = false := beq_eq_false_iff_ne.mpr c14
       have c14b1 : (t503 != 1) = true := bne_iff_ne.mpr c14
       obtain rfl := Option.some.inj H
       obtain ⟨Ao18, co18, eo18⟩ := Kd.R_slice HO_7.out
       subst eo18
       go_wp2
       go_ret
       exact ⟨qe_, qb_ HB.out⟩
     ·rw [if_neg c13] at H
      have c13b0 : ((t502.length : Int) == 0) = false := beq_eq_false_iff_ne.mpr c13
      have c13b1 : ((t502.length : Int) != 0) = true := bne_iff_ne.mpr c13
      have c13b2 : ¬ (t502 = []) := fun h_ => c13 (by rw [h_]; rfl)
      obtain rfl := Option.some.inj H
      obtain ⟨Ao19, co19, eo19⟩ := Kd.R_slice HO_7.out
      subst eo19
      go_wp2
      go_ret
      exact ⟨qe_, qb_ HB.out⟩
    ·replace c12 := Bool.eq_false_iff.mpr c12
     subst c12
     have H1 : (if t503 = 0 then (corebanklaw02_RoundingSplits.j1 kj7 a0 l1 t500 t502 ((t502.length : Int) != (l1.length : Int))) else (corebanklaw02_RoundingSplits.j1 kj7 a0 l1 t500 t502 true)) = some r := by rw [if_neg (show ¬ (false = true) by decide)] at H; exact H
     clear H
     have H := H1
     clear H1
     have HC20 := Aside0.mk H
     clear H
     go_upto_region 7 with (fail)
     go_cut [53] (fun v53 wc => ∃ (kq : Nat) (x53_19 : Bool), v53 = .bool x53_19 ∧ Aside0 (corebanklaw02_RoundingSplits.j1 kq a0 l1 t500 t502 x53_19 = some r) ∧ Aside0 (kq ≤ kj7) ∧ Aside0 (Kd.R (Kd.int .i64) 3 wc w.heap.size (fun _ => True) v504 t502) ∧ Aside0 (Below w.heap.size w wc))
     case first =>
      have H := HC20.out
      clear HC20
      by_cases c21 : t503 = 0
      ·rw [if_pos c21] at H
       have c21b0 : (t503 == 0) = true := beq_iff_eq.mpr c21
       have c21b1 : (t503 != 0) = false := bne_eq_false_iff_eq.mpr c21
       clear c21
       (first | rw [c21b0] | (simp only [i64_w, i32_w]; rw [c21b0]) | skip)
       have H' := Aside0.mk H
       clear H
       obtain ⟨Ao22, co22, eo22⟩ := Kd.R_slice HO_7.out
       subst eo22
       go_wp2
       go_meet
       case rel => exact ⟨_, (((t502.length : Int) != (l1.length : Int))), qs_, H', ⟨by have := HJ7.out; first | omega | exact Nat.le_refl _⟩, ⟨by (with_reducible repeat (first | apply Kd.R_alloc | apply Kd.R_drewN | apply Kd.R_drew)); exact HO_7.out⟩, ⟨qb_ HB.out⟩⟩
      ·rw [if_neg c21] at H
       have c21b0 : (t503 == 0) = false := beq_eq_false_iff_ne.mpr c21
       have c21b1 : (t503 != 0) = true := bne_iff_ne.mpr c21
       (first | rw [c21b0] | (simp only [i64_w, i32_w]; rw [c21b0]) | skip)
       have H' := Aside0.mk H
       clear H
       go_wp2
       go_meet
       case rel => exact ⟨_, (true), qs_, H', ⟨by have := HJ7.out; first | omega | exact Nat.le_refl _⟩, ⟨by (with_reducible repeat (first | apply Kd.R_alloc | apply Kd.R_drewN | apply Kd.R_drew)); exact HO_7.out⟩, ⟨qb_ HB.out⟩⟩
     case rest =>
      clear HC20
      try clear c1
      try clear c2
      try clear p2
      try clear c3
      try clear c3b0
      try clear c3b1
      try clear c7
      try clear c10
      try clear c12
      try clear c13
      try clear c13b0
      try clear c13b1
      try clear c13b2
      try clear c14
      try clear c14b0
      try clear c14b1
      try clear c15
      try clear c21
      try clear c21b0
      try clear c21b1
      try clear p2
      obtain ⟨kq, x53_19, rfl, HA, HJ19, HO_7, HB⟩ := hcut
      cases kq with
      | zero => exact absurd HA.out (by simp [corebanklaw02_RoundingSplits.j1])
      | succ kj19 =>
       have H := HA.out
       clear HA
       simp only [corebanklaw02_RoundingSplits.j1] at H
       by_cases c23 : x53_19 = true
       ·subst c23
        have H1 : (some false) = some r := by rw [if_pos rfl] at H; exact H
        clear H
        have H := H1
        clear H1
        obtain rfl := Option.some.inj H
        go_wp2
        go_ret
        exact ⟨qe_, qb_ HB.out⟩
       ·replace c23 := Bool.eq_false_iff.mpr c23
        subst c23
        have H1 : (corebanklaw02_RoundingSplits.l0 kj19 a0 l1 t500 t502 0 0) = some r := by rw [if_neg (show ¬ (false = true) by decide)] at H; exact H
        clear H
        have H := H1
        clear H1
        have H' := Aside0.mk H
        clear H
        go_wp2
        go_loopg [9, 10] kj19 (fun kq v9 v10 w' => ∃ (x9_3 : Int) (x10_3 : Int), v9 = .int .i64 x9_3 ∧ v10 = .int .i64 x10_3 ∧ Aside0 (corebanklaw02_RoundingSplits.l0 kq a0 l1 t500 t502 x9_3 x10_3 = some r) ∧ Aside0 (kq ≤ kj19) ∧ Aside0 (Kd.R (Kd.int .i64) 3 w' w.heap.size (fun _ => True) v504 t502) ∧ Aside0 (Below w.heap.size w w'))
        case atStart => exact ⟨(0), (0), qs_, qs_, H', ⟨Nat.le_refl _⟩, ⟨by (with_reducible repeat (first | apply Kd.R_alloc | apply Kd.R_drewN | apply Kd.R_drew)); exact HO_7.out⟩, ⟨qb_ HB.out⟩⟩
        case round =>
         clear H'
         try clear c1
         try clear c2
         try clear p2
         try clear c3
         try clear c3b0
         try clear c3b1
         try clear c7
         try clear c10
         try clear c12
         try clear c13
         try clear c13b0
         try clear c13b1
         try clear c13b2
         try clear c14
         try clear c14b0
         try clear c14b1
         try clear c15
         try clear c21
         try clear c21b0
         try clear c21b1
         try clear c23
         try clear p2
         obtain ⟨x9_3, x10_3, rfl, rfl, HA, HK3, HO_7, HB⟩ := hrel
         cases gk with
         | zero => exact absurd HA.out (by simp [corebanklaw02_RoundingSplits.l0])
         | succ k3 =>
          have H := HA.out
          clear HA
          simp only [corebanklaw02_RoundingSplits.l0] at H
          by_cases c24 : x10_3 < (t502.length : Int)
          ·rw [if_pos c24] at H
           have c24b0 : decide (x10_3 < (t502.length : Int)) = true := decide_eq_true c24
           clear c24
           have HC25 := Aside0.mk H
           clear H
           obtain ⟨Ao26, co26, eo26⟩ := Kd.R_slice HO_7.out
           subst eo26
           go_upto_region 13 with (fail)
           go_cut [87] (fun v87 wc => ∃ (kq : Nat) (x87_24 : Bool), v87 = .bool x87_24 ∧ Aside0 (corebanklaw02_RoundingSplits.j3 kq a0 l1 t500 t502 x9_3 x10_3 x87_24 = some r) ∧ Aside0 (kq ≤ k3) ∧ Aside0 (Kd.R (Kd.int .i64) 3 wc w.heap.size (fun _ => True) (.slice Ao26 t502.length co26) t502) ∧ Aside0 (Below w.heap.size w wc))
           case first =>
            have H := HC25.out
            clear HC25
            by_cases c27 : 0 ≤ x10_3
            ·rw [if_pos c27] at H
             have c27b0 : decide (0 ≤ x10_3) = true := decide_eq_true c27
             clear c27
             (first | rw [c27b0] | (simp only [i64_w, i32_w]; rw [c27b0]) | skip)
             replace H := Option.bind_eq_some_iff.mp H
             obtain ⟨t509, A280, H⟩ := H
             replace H : (if t509 = true then (if (rd t502 x10_3) > 0 then (if a0 < 0 then (corebanklaw02_RoundingSplits.j3 k3 a0 l1 t500 t502 x9_3 x10_3 true) else (if (rd t502 x10_3) < 0 then (corebanklaw02_RoundingSplits.j3 k3 a0 l1 t500 t502 x9_3 x10_3 (decide (a0 > 0))) else (corebanklaw02_RoundingSplits.j3 k3 a0 l1 t500 t502 x9_3 x10_3 false))) else (if (rd t502 x10_3) < 0 then (corebanklaw02_RoundingSplits.j3 k3 a0 l1 t500 t502 x9_3 x10_3 (decide (a0 > 0))) else (corebanklaw02_RoundingSplits.j3 k3 a0 l1 t500 t502 x9_3 x10_3 false))) else (corebanklaw02_RoundingSplits.j3 k3 a0 l1 t500 t502 x9_3 x10_3 true)) = some r := H
             have A28 := Aside0.mk A280
             clear A280
             by_cases c29 : t509 = true
             ·subst c29
              have H1 : (if (rd t502 x10_3) > 0 then (if a0 < 0 then (corebanklaw02_RoundingSplits.j3 k3 a0 l1 t500 t502 x9_3 x10_3 true) else (if (rd t502 x10_3) < 0 then (corebanklaw02_RoundingSplits.j3 k3 a0 l1 t500 t502 x9_3 x10_3 (decide (a0 > 0))) else (corebanklaw02_RoundingSplits.j3 k3 a0 l1 t500 t502 x9_3 x10_3 false))) else (if (rd t502 x10_3) < 0 then (corebanklaw02_RoundingSplits.j3 k3 a0 l1 t500 t502 x9_3 x10_3 (decide (a0 > 0))) else (corebanklaw02_RoundingSplits.j3 k3 a0 l1 t500 t502 x9_3 x10_3 false))) = some r := by rw [if_pos rfl] at H; exact H
              clear H
              have H := H1
              clear H1
              by_cases c30 : (rd t502 x10_3) > 0
              ·rw [if_pos c30] at H
               have c30b0 : decide (0 < (rd t502 x10_3)) = true := decide_eq_true c30
               clear c30
               by_cases c31 : a0 < 0
               ·rw [if_pos c31] at H
                have c31b0 : decide (a0 < 0) = true := decide_eq_true c31
                clear c31
                have H' := Aside0.mk H
                clear H
                have p508 : 0 ≤ (x10_3 : Int) := of_decide_eq_true (by first | (with_reducible assumption) | assumption)
                have q508 : x10_3 < (t502.length : Int) := of_decide_eq_true (by first | (with_reducible assumption) | assumption)
                obtain ⟨ad508, e508, hx508_0⟩ := Kd.at_int (Kd.R_reads' HO_7.out).2.2 x10_3 p508 q508
                cases e508
                replace p508 := eq_true p508
                replace q508 := eq_true q508
                go_wp2_with (first | ((with_reducible refine gate_callee (f := 27) rfl ?_); refine goesL_ (some 64) rfl rfl Tryd.func27 (by kernel_rfl) rfl #[.int .i64 (rd t502 x10_3)] rfl ql_ ?_; (with_reducible refine (corebankref02_Good.calls (rd t502 x10_3) true _ A28.out).mono ?_); rintro e w' ⟨rfl, ⟨nd, rfl⟩⟩; refine ⟨_, rfl, ?_⟩; have p510 : 0 ≤ (x10_3 : Int) := of_decide_eq_true (by first | (with_reducible assumption) | assumption); have q510 : x10_3 < (t502.length : Int) := of_decide_eq_true (by first | (with_reducible assumption) | assumption); obtain ⟨ad510, e510, hx510_0⟩ := Kd.at_int (Kd.R_reads' HO_7.out).2.2 x10_3 p510 q510; obtain rfl : ad508 = ad510 := (by injection e510); replace p510 := eq_true p510; replace q510 := eq_true q510))
                go_meet
                case rel => exact ⟨_, (true), qs_, H', ⟨by have := HJ7.out; have := HJ19.out; have := HK3.out; first | omega | exact Nat.le_refl _⟩, ⟨by (with_reducible repeat (first | apply Kd.R_alloc | apply Kd.R_drewN | apply Kd.R_drew)); exact HO_7.out⟩, ⟨qb_ HB.out⟩⟩
               ·rw [if_neg c31] at H
                have c31b0 : decide (a0 < 0) = false := decide_eq_false c31
                clear c31
                by_cases c32 : (rd t502 x10_3) < 0
                ·rw [if_pos c32] at H
                 have c32b0 : decide ((rd t502 x10_3) < 0) = true := decide_eq_true c32
                 clear c32
                 have H' := Aside0.mk H
                 clear H
                 have p508 : 0 ≤ (x10_3 : Int) := of_decide_eq_true (by first | (with_reducible assumption) | assumption)
                 have q508 : x10_3 < (t502.length : Int) := of_decide_eq_true (by first | (with_reducible assumption) | assumption)
                 obtain ⟨ad508, e508, hx508_0⟩ := Kd.at_int (Kd.R_reads' HO_7.out).2.2 x10_3 p508 q508
                 cases e508
                 replace p508 := eq_true p508
                 replace q508 := eq_true q508
                 go_wp2_with (first | ((with_reducible refine gate_callee (f := 27) rfl ?_); refine goesL_ (some 64) rfl rfl Tryd.func27 (by kernel_rfl) rfl #[.int .i64 (rd t502 x10_3)] rfl ql_ ?_; (with_reducible refine (corebankref02_Good.calls (rd t502 x10_3) true _ A28.out).mono ?_); rintro e w' ⟨rfl, ⟨nd, rfl⟩⟩; refine ⟨_, rfl, ?_⟩; have p510 : 0 ≤ (x10_3 : Int) := of_decide_eq_true (by first | (with_reducible assumption) | assumption); have q510 : x10_3 < (t502.length : Int) := of_decide_eq_true (by first | (with_reducible assumption) | assumption); obtain ⟨ad510, e510, hx510_0⟩ := Kd.at_int (Kd.R_reads' HO_7.out).2.2 x10_3 p510 q510; obtain rfl : ad508 = ad510 := (by injection e510); replace p510 := eq_true p510; replace q510 := eq_true q510; have p511 : 0 ≤ (x10_3 : Int) := of_decide_eq_true (by first | (with_reducible assumption) | assumption); have q511 : x10_3 < (t502.length : Int) := of_decide_eq_true (by first | (with_reducible assumption) | assumption); obtain ⟨ad511, e511, hx511_0⟩ := Kd.at_int (Kd.R_reads' HO_7.out).2.2 x10_3 p511 q511; obtain rfl : ad508 = ad511 := (by injection e511); replace p511 := eq_true p511; replace q511 := eq_true q511))
                 go_meet
                 case rel => exact ⟨_, (decide (a0 > 0)), qs_, H', ⟨by have := HJ7.out; have := HJ19.out; have := HK3.out; first | omega | exact Nat.le_refl _⟩, ⟨by (with_reducible repeat (first | apply Kd.R_alloc | apply Kd.R_drewN | apply Kd.R_drew)); exact HO_7.out⟩, ⟨qb_ HB.out⟩⟩
                ·rw [if_neg c32] at H
                 have c32b0 : decide ((rd t502 x10_3) < 0) = false := decide_eq_false c32
                 clear c32
                 have H' := Aside0.mk H
                 clear H
                 have p508 : 0 ≤ (x10_3 : Int) := of_decide_eq_true (by first | (with_reducible assumption) | assumption)
                 have q508 : x10_3 < (t502.length : Int) := of_decide_eq_true (by first | (with_reducible assumption) | assumption)
                 obtain ⟨ad508, e508, hx508_0⟩ := Kd.at_int (Kd.R_reads' HO_7.out).2.2 x10_3 p508 q508
                 cases e508
                 replace p508 := eq_true p508
                 replace q508 := eq_true q508
                 go_wp2_with (first | ((with_reducible refine gate_callee (f := 27) rfl ?_); refine goesL_ (some 64) rfl rfl Tryd.func27 (by kernel_rfl) rfl #[.int .i64 (rd t502 x10_3)] rfl ql_ ?_; (with_reducible refine (corebankref02_Good.calls (rd t502 x10_3) true _ A28.out).mono ?_); rintro e w' ⟨rfl, ⟨nd, rfl⟩⟩; refine ⟨_, rfl, ?_⟩; have p510 : 0 ≤ (x10_3 : Int) := of_decide_eq_true (by first | (with_reducible assumption) | assumption); have q510 : x10_3 < (t502.length : Int) := of_decide_eq_true (by first | (with_reducible assumption) | assumption); obtain ⟨ad510, e510, hx510_0⟩ := Kd.at_int (Kd.R_reads' HO_7.out).2.2 x10_3 p510 q510; obtain rfl : ad508 = ad510 := (by injection e510); replace p510 := eq_true p510; replace q510 := eq_true q510; have p511 : 0 ≤ (x10_3 : Int) := of_decide_eq_true (by first | (with_reducible assumption) | assumption); have q511 : x10_3 < (t502.length : Int) := of_decide_eq_true (by first | (with_reducible assumption) | assumption); obtain ⟨ad511, e511, hx511_0⟩ := Kd.at_int (Kd.R_reads' HO_7.out).2.2 x10_3 p511 q511; obtain rfl : ad508 = ad511 := (by injection e511); replace p511 := eq_true p511; replace q511 := eq_true q511))
                 go_meet
                 case rel => exact ⟨_, (false), qs_, H', ⟨by have := HJ7.out; have := HJ19.out; have := HK3.out; first | omega | exact Nat.le_refl _⟩, ⟨by (with_reducible repeat (first | apply Kd.R_alloc | apply Kd.R_drewN | apply Kd.R_drew)); exact HO_7.out⟩, ⟨qb_ HB.out⟩⟩
              ·rw [if_neg c30] at H
               have c30b0 : decide (0 < (rd t502 x10_3)) = false := decide_eq_false c30
               clear c30
               by_cases c33 : (rd t502 x10_3) < 0
               ·rw [if_pos c33] at H
                have c33b0 : decide ((rd t502 x10_3) < 0) = true := decide_eq_true c33
                clear c33
                have H' := Aside0.mk H
                clear H
                have p508 : 0 ≤ (x10_3 : Int) := of_decide_eq_true (by first | (with_reducible assumption) | assumption)
                have q508 : x10_3 < (t502.length : Int) := of_decide_eq_true (by first | (with_reducible assumption) | assumption)
                obtain ⟨ad508, e508, hx508_0⟩ := Kd.at_int (Kd.R_reads' HO_7.out).2.2 x10_3 p508 q508
                cases e508
                replace p508 := eq_true p508
                replace q508 := eq_true q508
                go_wp2_with (first | ((with_reducible refine gate_callee (f := 27) rfl ?_); refine goesL_ (some 64) rfl rfl Tryd.func27 (by kernel_rfl) rfl #[.int .i64 (rd t502 x10_3)] rfl ql_ ?_; (with_reducible refine (corebankref02_Good.calls (rd t502 x10_3) true _ A28.out).mono ?_); rintro e w' ⟨rfl, ⟨nd, rfl⟩⟩; refine ⟨_, rfl, ?_⟩; have p510 : 0 ≤ (x10_3 : Int) := of_decide_eq_true (by first | (with_reducible assumption) | assumption); have q510 : x10_3 < (t502.length : Int) := of_decide_eq_true (by first | (with_reducible assumption) | assumption); obtain ⟨ad510, e510, hx510_0⟩ := Kd.at_int (Kd.R_reads' HO_7.out).2.2 x10_3 p510 q510; obtain rfl : ad508 = ad510 := (by injection e510); replace p510 := eq_true p510; replace q510 := eq_true q510; have p512 : 0 ≤ (x10_3 : Int) := of_decide_eq_true (by first | (with_reducible assumption) | assumption); have q512 : x10_3 < (t502.length : Int) := of_decide_eq_true (by first | (with_reducible assumption) | assumption); obtain ⟨ad512, e512, hx512_0⟩ := Kd.at_int (Kd.R_reads' HO_7.out).2.2 x10_3 p512 q512; obtain rfl : ad508 = ad512 := (by injection e512); replace p512 := eq_true p512; replace q512 := eq_true q512))
                go_meet
                case rel => exact ⟨_, (decide (a0 > 0)), qs_, H', ⟨by have := HJ7.out; have := HJ19.out; have := HK3.out; first | omega | exact Nat.le_refl _⟩, ⟨by (with_reducible repeat (first | apply Kd.R_alloc | apply Kd.R_drewN | apply Kd.R_drew)); exact HO_7.out⟩, ⟨qb_ HB.out⟩⟩
               ·rw [if_neg c33] at H
                have c33b0 : decide ((rd t502 x10_3) < 0) = false := decide_eq_false c33
                clear c33
                have H' := Aside0.mk H
                clear H
                have p508 : 0 ≤ (x10_3 : Int) := of_decide_eq_true (by first | (with_reducible assumption) | assumption)
                have q508 : x10_3 < (t502.length : Int) := of_decide_eq_true (by first | (with_reducible assumption) | assumption)
                obtain ⟨ad508, e508, hx508_0⟩ := Kd.at_int (Kd.R_reads' HO_7.out).2.2 x10_3 p508 q508
                cases e508
                replace p508 := eq_true p508
                replace q508 := eq_true q508
                go_wp2_with (first | ((with_reducible refine gate_callee (f := 27) rfl ?_); refine goesL_ (some 64) rfl rfl Tryd.func27 (by kernel_rfl) rfl #[.int .i64 (rd t502 x10_3)] rfl ql_ ?_; (with_reducible refine (corebankref02_Good.calls (rd t502 x10_3) true _ A28.out).mono ?_); rintro e w' ⟨rfl, ⟨nd, rfl⟩⟩; refine ⟨_, rfl, ?_⟩; have p510 : 0 ≤ (x10_3 : Int) := of_decide_eq_true (by first | (with_reducible assumption) | assumption); have q510 : x10_3 < (t502.length : Int) := of_decide_eq_true (by first | (with_reducible assumption) | assumption); obtain ⟨ad510, e510, hx510_0⟩ := Kd.at_int (Kd.R_reads' HO_7.out).2.2 x10_3 p510 q510; obtain rfl : ad508 = ad510 := (by injection e510); replace p510 := eq_true p510; replace q510 := eq_true q510; have p512 : 0 ≤ (x10_3 : Int) := of_decide_eq_true (by first | (with_reducible assumption) | assumption); have q512 : x10_3 < (t502.length : Int) := of_decide_eq_true (by first | (with_reducible assumption) | assumption); obtain ⟨ad512, e512, hx512_0⟩ := Kd.at_int (Kd.R_reads' HO_7.out).2.2 x10_3 p512 q512; obtain rfl : ad508 = ad512 := (by injection e512); replace p512 := eq_true p512; replace q512 := eq_true q512))
                go_meet
                case rel => exact ⟨_, (false), qs_, H', ⟨by have := HJ7.out; have := HJ19.out; have := HK3.out; first | omega | exact Nat.le_refl _⟩, ⟨by (with_reducible repeat (first | apply Kd.R_alloc | apply Kd.R_drewN | apply Kd.R_drew)); exact HO_7.out⟩, ⟨qb_ HB.out⟩⟩
             ·replace c29 := Bool.eq_false_iff.mpr c29
              subst c29
              have H1 : (corebanklaw02_RoundingSplits.j3 k3 a0 l1 t500 t502 x9_3 x10_3 true) = some r := by rw [if_neg (show ¬ (false = true) by decide)] at H; exact H
              clear H
              have H := H1
              clear H1
              have H' := Aside0.mk H
              clear H
              have p508 : 0 ≤ (x10_3 : Int) := of_decide_eq_true (by first | (with_reducible assumption) | assumption)
              have q508 : x10_3 < (t502.length : Int) := of_decide_eq_true (by first | (with_reducible assumption) | assumption)
              obtain ⟨ad508, e508, hx508_0⟩ := Kd.at_int (Kd.R_reads' HO_7.out).2.2 x10_3 p508 q508
              cases e508
              replace p508 := eq_true p508
              replace q508 := eq_true q508
              go_wp2_with (first | ((with_reducible refine gate_callee (f := 27) rfl ?_); refine goesL_ (some 64) rfl rfl Tryd.func27 (by kernel_rfl) rfl #[.int .i64 (rd t502 x10_3)] rfl ql_ ?_; (with_reducible refine (corebankref02_Good.calls (rd t502 x10_3) false _ A28.out).mono ?_); rintro e w' ⟨rfl, ⟨nd, rfl⟩⟩; refine ⟨_, rfl, ?_⟩))
              go_meet
              case rel => exact ⟨_, (true), qs_, H', ⟨by have := HJ7.out; have := HJ19.out; have := HK3.out; first | omega | exact Nat.le_refl _⟩, ⟨by (with_reducible repeat (first | apply Kd.R_alloc | apply Kd.R_drewN | apply Kd.R_drew)); exact HO_7.out⟩, ⟨qb_ HB.out⟩⟩
            ·rw [if_neg c27] at H
             exact absurd H (by simp)
           case rest =>
            clear HC25
            try clear c1
            try clear c2
            try clear p2
            try clear c3
            try clear c3b0
            try clear c3b1
            try clear p5
            try clear q5
            try clear hx5
            try clear c7
            try clear c10
            try clear c12
            try clear c13
            try clear c13b0
            try clear c13b1
            try clear c13b2
            try clear c14
            try clear c14b0
            try clear c14b1
            try clear c15
            try clear c21
            try clear c21b0
            try clear c21b1
            try clear c23
            try clear c24
            try clear c24b0
            try clear c26
            try clear c27
            try clear c27b0
            try clear c29
            try clear c30
            try clear c30b0
            try clear c31
            try clear c31b0
            try clear c32
            try clear c32b0
            try clear c33
            try clear c33b0
            try clear hx508_0
            try clear hx510_0
            try clear hx511_0
            try clear hx512_0
            try clear p2
            try clear p508
            try clear p510
            try clear p511
            try clear p512
            try clear q508
            try clear q510
            try clear q511
            try clear q512
            obtain ⟨kq, x87_24, rfl, HA, HJ24, HO_7, HB⟩ := hcut
            cases kq with
            | zero => exact absurd HA.out (by simp [corebanklaw02_RoundingSplits.j3])
            | succ kj24 =>
             have H := HA.out
             clear HA
             simp only [corebanklaw02_RoundingSplits.j3] at H
             by_cases c34 : x87_24 = true
             ·subst c34
              have H1 : (some false) = some r := by rw [if_pos rfl] at H; exact H
              clear H
              have H := H1
              clear H1
              obtain rfl := Option.some.inj H
              go_wp2
              go_ret
              exact ⟨qe_, qb_ HB.out⟩
             ·replace c34 := Bool.eq_false_iff.mpr c34
              subst c34
              have H1 : (if 0 ≤ x10_3 then (if x10_3 < (t502.length : Int) then ((corebankref01_Mul.f (rd t502 x10_3) t500).bind fun bt514 => (if x10_3 < (l1.length : Int) then ((corebankref01_Mul.f a0 (rd l1 x10_3)).bind fun bt517 => ((corebankref01_Sub.f bt514.1 bt514.2 bt517.1 bt517.2).bind fun bt519 => ((corebankref01_Of.f t500).bind fun bt523 => ((corebankref01_Cmp.f bt519.1 bt519.2.1 bt523.1 bt523.2).bind fun t525 => (if t525 ≥ 0 then (corebanklaw02_RoundingSplits.j4 kj24 a0 l1 t500 t502 x9_3 x10_3 true) else ((corebankref01_Of.f (wrap64 (-t500))).bind fun bt526 => ((corebankref01_Cmp.f bt519.1 bt519.2.1 bt526.1 bt526.2).bind fun t528 => (corebanklaw02_RoundingSplits.j4 kj24 a0 l1 t500 t502 x9_3 x10_3 (decide (t528 ≤ 0)))))))))) else (none))) else (none)) else (none)) = some r := by rw [if_neg (show ¬ (false = true) by decide)] at H; exact H
              clear H
              have H := H1
              clear H1
              by_cases c35 : 0 ≤ x10_3
              ·rw [if_pos c35] at H
               have c35b0 : decide (0 ≤ x10_3) = true := decide_eq_true c35
               clear c35
               by_cases c36 : x10_3 < (t502.length : Int)
               ·rw [if_pos c36] at H
                have c36b0 : decide (x10_3 < (t502.length : Int)) = true := decide_eq_true c36
                clear c36
                replace H := Option.bind_eq_some_iff.mp H
                obtain ⟨⟨t514, t515⟩, A370, H⟩ := H
                replace H : (if x10_3 < (l1.length : Int) then ((corebankref01_Mul.f a0 (rd l1 x10_3)).bind fun bt517 => ((corebankref01_Sub.f t514 t515 bt517.1 bt517.2).bind fun bt519 => ((corebankref01_Of.f t500).bind fun bt523 => ((corebankref01_Cmp.f bt519.1 bt519.2.1 bt523.1 bt523.2).bind fun t525 => (if t525 ≥ 0 then (corebanklaw02_RoundingSplits.j4 kj24 a0 l1 t500 t502 x9_3 x10_3 true) else ((corebankref01_Of.f (wrap64 (-t500))).bind fun bt526 => ((corebankref01_Cmp.f bt519.1 bt519.2.1 bt526.1 bt526.2).bind fun t528 => (corebanklaw02_RoundingSplits.j4 kj24 a0 l1 t500 t502 x9_3 x10_3 (decide (t528 ≤ 0)))))))))) else (none)) = some r := H
                have A37 := Aside0.mk A370
                clear A370
                by_cases c38 : x10_3 < (l1.length : Int)
                ·rw [if_pos c38] at H
                 have c38b0 : decide (x10_3 < (l1.length : Int)) = true := decide_eq_true c38
                 clear c38
                 replace H := Option.bind_eq_some_iff.mp H
                 obtain ⟨⟨t517, t518⟩, A390, H⟩ := H
                 replace H : ((corebankref01_Sub.f t514 t515 t517 t518).bind fun bt519 => ((corebankref01_Of.f t500).bind fun bt523 => ((corebankref01_Cmp.f bt519.1 bt519.2.1 bt523.1 bt523.2).bind fun t525 => (if t525 ≥ 0 then (corebanklaw02_RoundingSplits.j4 kj24 a0 l1 t500 t502 x9_3 x10_3 true) else ((corebankref01_Of.f (wrap64 (-t500))).bind fun bt526 => ((corebankref01_Cmp.f bt519.1 bt519.2.1 bt526.1 bt526.2).bind fun t528 => (corebanklaw02_RoundingSplits.j4 kj24 a0 l1 t500 t502 x9_3 x10_3 (decide (t528 ≤ 0))))))))) = some r := H
                 have A39 := Aside0.mk A390
                 clear A390
                 replace H := Option.bind_eq_some_iff.mp H
                 obtain ⟨⟨t519, t520, t521⟩, A400, H⟩ := H
                 replace H : ((corebankref01_Of.f t500).bind fun bt523 => ((corebankref01_Cmp.f t519 t520 bt523.1 bt523.2).bind fun t525 => (if t525 ≥ 0 then (corebanklaw02_RoundingSplits.j4 kj24 a0 l1 t500 t502 x9_3 x10_3 true) else ((corebankref01_Of.f (wrap64 (-t500))).bind fun bt526 => ((corebankref01_Cmp.f t519 t520 bt526.1 bt526.2).bind fun t528 => (corebanklaw02_RoundingSplits.j4 kj24 a0 l1 t500 t502 x9_3 x10_3 (decide (t528 ≤ 0)))))))) = some r := H
                 have A40 := Aside0.mk A400
                 clear A400
                 have HC41 := Aside0.mk H
                 clear H
                 try go_wp2
                 have n0_ := Aside0.mk (Kd.R_drew HO_7.out)
                 have n1_ := Aside0.mk (below_drew1 HB.out)
                 clear HO_7
                 clear HB
                 have HO_7 := n0_
                 have HB := n1_
                 clear n0_ n1_
                 have p513 : 0 ≤ (x10_3 : Int) := of_decide_eq_true (by first | (with_reducible assumption) | assumption)
                 have q513 : x10_3 < (t502.length : Int) := of_decide_eq_true (by first | (with_reducible assumption) | assumption)
                 obtain ⟨ad513, e513, hx513_0⟩ := Kd.at_int (Kd.R_reads' HO_7.out).2.2 x10_3 p513 q513
                 cases e513
                 replace p513 := eq_true p513
                 replace q513 := eq_true q513
                 have p516 : 0 ≤ (x10_3 : Int) := of_decide_eq_true (by first | (with_reducible assumption) | assumption)
                 have q516 : x10_3 < (l1.length : Int) := of_decide_eq_true (by first | (with_reducible assumption) | assumption)
                 obtain ⟨ad516, e516, hx516_0⟩ := Kd.at_int HR1.out x10_3 p516 q516
                 have hw516_0 := hx516_0
                 cases e516
                 replace hx516_0 := (HB.out.cell (World.block_lt_of_cell? w _ hx516_0)).trans hx516_0
                 replace p516 := eq_true p516
                 replace q516 := eq_true q516
                 refine start_ (n := 19) (S := fun w' => w'.cell? (ad513.add (x10_3).toNat) = some (.int .i64 (rd t502 x10_3)) ∧ w'.cell? (ad516.add (x10_3).toNat) = some (.int .i64 (rd l1 x10_3))) (ds := []) (nb_ 19 0) (by kernel_rfl) rfl rfl ⟨hx513_0, ((HB.out.cell (World.block_lt_of_cell? w _ hw516_0)).trans hw516_0)⟩ (fun hHeld => ?_); refine with_tabW corebanklaw02_RoundingSplits.tab15 corebanklaw02_RoundingSplits.bits15 (fun HT_ HW_ => ?_)
                 generalize wc.drew = w42 at HO_7 HB hx513_0 hx516_0 hHeld ⊢
                 refine pz_ 0 89 (nb_ 19 1) HT_.out ?_
                 refine pz_ 1 90 (nb_ 19 3) HT_.out ?_
                 refine pz_ 2 91 (nb_ 19 7) HT_.out ?_
                 refine pz_ 4 93 (nb_ 19 23) HT_.out ?_
                 refine pz_ 6 95 (nb_ 19 87) HT_.out ?_
                 refine pz_ 7 96 (nb_ 19 215) HT_.out ?_
                 refine pz_ 8 97 (nb_ 19 471) HT_.out ?_
                 refine pz_ 9 98 (nb_ 19 983) HT_.out ?_
                 refine tk2_ 3 92 (nb_ 19 991) HT_.out HW_.out hHeld ?_
                 refine tk2_ 10 99 (nb_ 19 2015) HT_.out HW_.out hHeld ?_
                 refine join_ (σ := Nat) 2 (nb_ 19 131071) (fun s_ => [(94, .agg #[.int .i64 t514, .int .u64 t515]), (100, .agg #[.int .i64 t517, .int .u64 t518]), (101, .tuple #[.agg #[.int .i64 t519, .int .u64 t520], .int .i64 t521]), (11, .pointer (some ⟨s_, 0, none⟩)), (88, .tuple #[.agg #[.int .i64 t519, .int .u64 t520], .int .i64 t521]), (102, .agg #[.int .i64 t519, .int .u64 t520]), (103, .int .i64 t521)]) (fun s_ w' => (w'.cell? (ad513.add (x10_3).toNat) = some (.int .i64 (rd t502 x10_3)) ∧ w'.cell? (ad516.add (x10_3).toNat) = some (.int .i64 (rd l1 x10_3))) ∧ (Kd.R (Kd.int .i64) 3 w' w.heap.size (fun _ => True) (.slice (some ad513) t502.length co26) t502) ∧ (w'.heap[s_]? = some (.cells #[.int .i64 0, .int .u64 0] 24 (0, 0))) ∧ (w.heap.size ≤ s_) ∧ (w.heap.size ≤ s_) ∧ (Below w.heap.size w w')) ?_ ?_
                 rotate_left
                 ·intro hCont
                  refine two_ (i := 5) (j := 16) (Ni := some 94) (Nj := some 11) (nb_ 19 2047) (nb_ 19 67551) rfl rfl rfl rfl (two_of HT_.out (by kernel_rfl)) (by decide) (by decide) (fun K hK => ?_) (fun K hK => ?_)
                  ·skip
                   refine goes_ Tryd.func19 (by kernel_rfl) rfl #[.int .i64 (rd t502 x10_3), .int .i64 t500] (by rfl) rfl rfl ql_ ?_
                   with_reducible refine (corebankref01_Mul.calls (rd t502 x10_3) t500 t514 t515 _ A37.out).mono ?_
                   rintro e w43 ⟨rfl, hb⟩
                   have HS0_ := (hb.cell (World.block_lt_of_cell? _ _ (hHeld.1))).trans (hHeld.1)
                   refine ⟨_, rfl, ?_⟩
                   have n0_ := Aside0.mk (Kd.R_below (by (with_reducible repeat (first | apply Kd.R_alloc | apply Kd.R_drewN | apply Kd.R_drew)); exact HO_7.out) hb)
                   have n1_ := Aside0.mk (below_step (qb_ HB.out) hb)
                   clear HO_7
                   clear HB
                   have HO_7 := n0_
                   have HB := n1_
                   clear n0_ n1_
                   (try clear hb)
                   (try clear hb2)
                   (try clear hk)
                   (try clear hi)
                   refine hK.out _ _ ⟨HS0_, ((HB.out.cell (World.block_lt_of_cell? w _ hw516_0)).trans hw516_0)⟩ (fun hHeld => ?_)
                   clear hK K
                   refine no_ ?_
                   refine two_ (i := 11) (j := 16) (Ni := some 100) (Nj := some 11) (nb_ 19 4095) (nb_ 19 67583) rfl rfl rfl rfl (two_of HT_.out (by kernel_rfl)) (by decide) (by decide) (fun K hK => ?_) (fun K hK => ?_)
                   ·skip
                    refine goes_ Tryd.func19 (by kernel_rfl) rfl #[.int .i64 a0, .int .i64 (rd l1 x10_3)] (by rfl) rfl rfl ql_ ?_
                    with_reducible refine (corebankref01_Mul.calls a0 (rd l1 x10_3) t517 t518 _ A39.out).mono ?_
                    rintro e w44 ⟨rfl, hb⟩
                    have HS0_ := (hb.cell (World.block_lt_of_cell? _ _ (hHeld.1))).trans (hHeld.1)
                    refine ⟨_, rfl, ?_⟩
                    have n0_ := Aside0.mk (Kd.R_below (by (with_reducible repeat (first | apply Kd.R_alloc | apply Kd.R_drewN | apply Kd.R_drew)); exact HO_7.out) hb)
                    have n1_ := Aside0.mk (below_step (qb_ HB.out) hb)
                    clear HO_7
                    clear HB
                    have HO_7 := n0_
                    have HB := n1_
                    clear n0_ n1_
                    (try clear hb)
                    (try clear hb2)
                    (try clear hk)
                    (try clear hi)
                    refine hK.out _ _ ⟨HS0_, ((HB.out.cell (World.block_lt_of_cell? w _ hw516_0)).trans hw516_0)⟩ (fun hHeld => ?_)
                    clear hK K
                    refine no_ ?_
                    refine two_ (i := 12) (j := 16) (Ni := some 101) (Nj := some 11) (nb_ 19 8191) (nb_ 19 69631) rfl rfl rfl rfl (two_of HT_.out (by kernel_rfl)) (by decide) (by decide) (fun K hK => ?_) (fun K hK => ?_)
                    ·skip
                     refine goes_ Tryd.func28 (by kernel_rfl) rfl #[.agg #[.int .i64 t514, .int .u64 t515], .agg #[.int .i64 t517, .int .u64 t518]] (by rfl) rfl rfl ql_ ?_
                     with_reducible refine (corebankref01_Sub.calls t514 t515 t517 t518 t519 t520 t521 _ A40.out).mono ?_
                     rintro e w45 ⟨rfl, hb⟩
                     have HS0_ := (hb.cell (World.block_lt_of_cell? _ _ (hHeld.1))).trans (hHeld.1)
                     refine ⟨_, rfl, ?_⟩
                     have n0_ := Aside0.mk (Kd.R_below (by (with_reducible repeat (first | apply Kd.R_alloc | apply Kd.R_drewN | apply Kd.R_drew)); exact HO_7.out) hb)
                     have n1_ := Aside0.mk (below_step (qb_ HB.out) hb)
                     clear HO_7
                     clear HB
                     have HO_7 := n0_
                     have HB := n1_
                     clear n0_ n1_
                     (try clear hb)
                     (try clear hb2)
                     (try clear hk)
                     (try clear hi)
                     refine hK.out _ _ ⟨HS0_, ((HB.out.cell (World.block_lt_of_cell? w _ hw516_0)).trans hw516_0)⟩ (fun hHeld => ?_)
                     clear hK K
                     refine no_ ?_
                     refine pz_ 13 88 (nb_ 19 16383) HT_.out ?_
                     refine pz_ 14 102 (nb_ 19 32767) HT_.out ?_
                     refine pz_ 15 103 (nb_ 19 65535) HT_.out ?_
                     refine on_ 16 11 (nb_ 19 131071) HT_.out (fun K hK => ?_)
                     refine box_step ?hg (N := 11) ?hd (cs := #[.int .i64 0, .int .u64 0]) (t := 24) ?hr ?_; (case hd => rfl); (case hg => rfl); (case hr => first | (go_simp; done) | (go_simp; rfl))
                     intro gb522 hg w46 hbox hb
                     have HS0_ := (hb.cell (World.block_lt_of_cell? _ _ (hHeld.1))).trans (hHeld.1)
                     have n0_ := Aside0.mk (Kd.R_below (by (with_reducible repeat (first | apply Kd.R_alloc | apply Kd.R_drewN | apply Kd.R_drew)); exact HO_7.out) hb)
                     have n1_ := Aside0.mk (below_step (qb_ HB.out) hb)
                     have n2_ := Aside0.mk (hbox)
                     have n3_ := Aside0.mk (bz_ hg (qb_ HB.out) : w.heap.size ≤ gb522)
                     have n4_ := Aside0.mk (bz_ hg (qb_ HB.out) : w.heap.size ≤ gb522)
                     clear HO_7
                     clear HB
                     have HO_7 := n0_
                     have HB := n1_
                     have BK522 := n2_
                     have GW522 := n3_
                     have GE522 := n4_
                     clear n0_ n1_ n2_ n3_ n4_
                     clear hb hbox hg
                     refine hK.out _ _ ⟨HS0_, ((HB.out.cell (World.block_lt_of_cell? w _ hw516_0)).trans hw516_0)⟩ (fun hHeld => ?_)
                     clear hK K
                     refine no_ ?_
                     exact norm_ (by simp only [putAll, Act.put, List.setIfInBounds_toArray, List.set_cons_zero, List.set_cons_succ]) (hCont (gb522) _ ⟨hHeld, (by (with_reducible repeat (first | apply Kd.R_alloc | apply Kd.R_drewN | apply Kd.R_drew)); exact HO_7.out), (qk_ BK522.out), GW522.out, GE522.out, (qb1_ GE522.out HB.out)⟩)
                    ·skip
                     refine box_step ?hg (N := 11) ?hd (cs := #[.int .i64 0, .int .u64 0]) (t := 24) ?hr ?_; (case hd => rfl); (case hg => rfl); (case hr => first | (go_simp; done) | (go_simp; rfl))
                     intro gb522 hg w45 hbox hb
                     have HS0_ := (hb.cell (World.block_lt_of_cell? _ _ (hHeld.1))).trans (hHeld.1)
                     have n0_ := Aside0.mk (Kd.R_below (by (with_reducible repeat (first | apply Kd.R_alloc | apply Kd.R_drewN | apply Kd.R_drew)); exact HO_7.out) hb)
                     have n1_ := Aside0.mk (below_step (qb_ HB.out) hb)
                     have n2_ := Aside0.mk (hbox)
                     have n3_ := Aside0.mk (bz_ hg (qb_ HB.out) : w.heap.size ≤ gb522)
                     have n4_ := Aside0.mk (bz_ hg (qb_ HB.out) : w.heap.size ≤ gb522)
                     clear HO_7
                     clear HB
                     have HO_7 := n0_
                     have HB := n1_
                     have BK522 := n2_
                     have GW522 := n3_
                     have GE522 := n4_
                     clear n0_ n1_ n2_ n3_ n4_
                     clear hb hbox hg
                     refine hK.out _ _ ⟨HS0_, ((HB.out.cell (World.block_lt_of_cell? w _ hw516_0)).trans hw516_0)⟩ (fun hHeld => ?_)
                     clear hK K
                     refine no_ ?_
                     refine on_ 12 101 (nb_ 19 73727) HT_.out (fun K hK => ?_)
                     refine goes_ Tryd.func28 (by kernel_rfl) rfl #[.agg #[.int .i64 t514, .int .u64 t515], .agg #[.int .i64 t517, .int .u64 t518]] (by rfl) rfl rfl ql_ ?_
                     with_reducible refine (corebankref01_Sub.calls t514 t515 t517 t518 t519 t520 t521 _ A40.out).mono ?_
                     rintro e w46 ⟨rfl, hb⟩
                     have HS0_ := (hb.cell (World.block_lt_of_cell? _ _ (hHeld.1))).trans (hHeld.1)
                     refine ⟨_, rfl, ?_⟩
                     have n0_ := Aside0.mk (Kd.R_below (by (with_reducible repeat (first | apply Kd.R_alloc | apply Kd.R_drewN | apply Kd.R_drew)); exact HO_7.out) hb)
                     have n1_ := Aside0.mk (blk_below (qk_ BK522.out) hb)
                     have n2_ := Aside0.mk (below_step (qb1_ GE522.out HB.out) hb)
                     clear HO_7
                     clear BK522
                     clear HB
                     have HO_7 := n0_
                     have BK522 := n1_
                     have HB := n2_
                     clear n0_ n1_ n2_
                     (try clear hb)
                     (try clear hb2)
                     (try clear hk)
                     (try clear hi)
                     refine hK.out _ _ ⟨HS0_, ((HB.out.cell (World.block_lt_of_cell? w _ hw516_0)).trans hw516_0)⟩ (fun hHeld => ?_)
                     clear hK K
                     refine no_ ?_
                     refine pz_ 13 88 (nb_ 19 81919) HT_.out ?_
                     refine pz_ 14 102 (nb_ 19 98303) HT_.out ?_
                     refine pz_ 15 103 (nb_ 19 131071) HT_.out ?_
                     exact norm_ (by simp only [putAll, Act.put, List.setIfInBounds_toArray, List.set_cons_zero, List.set_cons_succ]) (hCont (gb522) _ ⟨hHeld, (by (with_reducible repeat (first | apply Kd.R_alloc | apply Kd.R_drewN | apply Kd.R_drew)); exact HO_7.out), (qk_ BK522.out), GW522.out, GE522.out, (qb1_ GE522.out HB.out)⟩)
                   ·skip
                    refine box_step ?hg (N := 11) ?hd (cs := #[.int .i64 0, .int .u64 0]) (t := 24) ?hr ?_; (case hd => rfl); (case hg => rfl); (case hr => first | (go_simp; done) | (go_simp; rfl))
                    intro gb522 hg w44 hbox hb
                    have HS0_ := (hb.cell (World.block_lt_of_cell? _ _ (hHeld.1))).trans (hHeld.1)
                    have n0_ := Aside0.mk (Kd.R_below (by (with_reducible repeat (first | apply Kd.R_alloc | apply Kd.R_drewN | apply Kd.R_drew)); exact HO_7.out) hb)
                    have n1_ := Aside0.mk (below_step (qb_ HB.out) hb)
                    have n2_ := Aside0.mk (hbox)
                    have n3_ := Aside0.mk (bz_ hg (qb_ HB.out) : w.heap.size ≤ gb522)
                    have n4_ := Aside0.mk (bz_ hg (qb_ HB.out) : w.heap.size ≤ gb522)
                    clear HO_7
                    clear HB
                    have HO_7 := n0_
                    have HB := n1_
                    have BK522 := n2_
                    have GW522 := n3_
                    have GE522 := n4_
                    clear n0_ n1_ n2_ n3_ n4_
                    clear hb hbox hg
                    refine hK.out _ _ ⟨HS0_, ((HB.out.cell (World.block_lt_of_cell? w _ hw516_0)).trans hw516_0)⟩ (fun hHeld => ?_)
                    clear hK K
                    refine no_ ?_
                    refine on_ 11 100 (nb_ 19 69631) HT_.out (fun K hK => ?_)
                    refine goes_ Tryd.func19 (by kernel_rfl) rfl #[.int .i64 a0, .int .i64 (rd l1 x10_3)] (by rfl) rfl rfl ql_ ?_
                    with_reducible refine (corebankref01_Mul.calls a0 (rd l1 x10_3) t517 t518 _ A39.out).mono ?_
                    rintro e w45 ⟨rfl, hb⟩
                    have HS0_ := (hb.cell (World.block_lt_of_cell? _ _ (hHeld.1))).trans (hHeld.1)
                    refine ⟨_, rfl, ?_⟩
                    have n0_ := Aside0.mk (Kd.R_below (by (with_reducible repeat (first | apply Kd.R_alloc | apply Kd.R_drewN | apply Kd.R_drew)); exact HO_7.out) hb)
                    have n1_ := Aside0.mk (blk_below (qk_ BK522.out) hb)
                    have n2_ := Aside0.mk (below_step (qb1_ GE522.out HB.out) hb)
                    clear HO_7
                    clear BK522
                    clear HB
                    have HO_7 := n0_
                    have BK522 := n1_
                    have HB := n2_
                    clear n0_ n1_ n2_
                    (try clear hb)
                    (try clear hb2)
                    (try clear hk)
                    (try clear hi)
                    refine hK.out _ _ ⟨HS0_, ((HB.out.cell (World.block_lt_of_cell? w _ hw516_0)).trans hw516_0)⟩ (fun hHeld => ?_)
                    clear hK K
                    refine no_ ?_
                    refine on_ 12 101 (nb_ 19 73727) HT_.out (fun K hK => ?_)
                    refine goes_ Tryd.func28 (by kernel_rfl) rfl #[.agg #[.int .i64 t514, .int .u64 t515], .agg #[.int .i64 t517, .int .u64 t518]] (by rfl) rfl rfl ql_ ?_
                    with_reducible refine (corebankref01_Sub.calls t514 t515 t517 t518 t519 t520 t521 _ A40.out).mono ?_
                    rintro e w46 ⟨rfl, hb⟩
                    have HS0_ := (hb.cell (World.block_lt_of_cell? _ _ (hHeld.1))).trans (hHeld.1)
                    refine ⟨_, rfl, ?_⟩
                    have n0_ := Aside0.mk (Kd.R_below (by (with_reducible repeat (first | apply Kd.R_alloc | apply Kd.R_drewN | apply Kd.R_drew)); exact HO_7.out) hb)
                    have n1_ := Aside0.mk (blk_below (qk_ BK522.out) hb)
                    have n2_ := Aside0.mk (below_step (qb1_ GE522.out HB.out) hb)
                    clear HO_7
                    clear BK522
                    clear HB
                    have HO_7 := n0_
                    have BK522 := n1_
                    have HB := n2_
                    clear n0_ n1_ n2_
                    (try clear hb)
                    (try clear hb2)
                    (try clear hk)
                    (try clear hi)
                    refine hK.out _ _ ⟨HS0_, ((HB.out.cell (World.block_lt_of_cell? w _ hw516_0)).trans hw516_0)⟩ (fun hHeld => ?_)
                    clear hK K
                    refine no_ ?_
                    refine pz_ 13 88 (nb_ 19 81919) HT_.out ?_
                    refine pz_ 14 102 (nb_ 19 98303) HT_.out ?_
                    refine pz_ 15 103 (nb_ 19 131071) HT_.out ?_
                    exact norm_ (by simp only [putAll, Act.put, List.setIfInBounds_toArray, List.set_cons_zero, List.set_cons_succ]) (hCont (gb522) _ ⟨hHeld, (by (with_reducible repeat (first | apply Kd.R_alloc | apply Kd.R_drewN | apply Kd.R_drew)); exact HO_7.out), (qk_ BK522.out), GW522.out, GE522.out, (qb1_ GE522.out HB.out)⟩)
                  ·skip
                   refine box_step ?hg (N := 11) ?hd (cs := #[.int .i64 0, .int .u64 0]) (t := 24) ?hr ?_; (case hd => rfl); (case hg => rfl); (case hr => first | (go_simp; done) | (go_simp; rfl))
                   intro gb522 hg w43 hbox hb
                   have HS0_ := (hb.cell (World.block_lt_of_cell? _ _ (hHeld.1))).trans (hHeld.1)
                   have n0_ := Aside0.mk (Kd.R_below (by (with_reducible repeat (first | apply Kd.R_alloc | apply Kd.R_drewN | apply Kd.R_drew)); exact HO_7.out) hb)
                   have n1_ := Aside0.mk (below_step (qb_ HB.out) hb)
                   have n2_ := Aside0.mk (hbox)
                   have n3_ := Aside0.mk (bz_ hg (qb_ HB.out) : w.heap.size ≤ gb522)
                   have n4_ := Aside0.mk (bz_ hg (qb_ HB.out) : w.heap.size ≤ gb522)
                   clear HO_7
                   clear HB
                   have HO_7 := n0_
                   have HB := n1_
                   have BK522 := n2_
                   have GW522 := n3_
                   have GE522 := n4_
                   clear n0_ n1_ n2_ n3_ n4_
                   clear hb hbox hg
                   refine hK.out _ _ ⟨HS0_, ((HB.out.cell (World.block_lt_of_cell? w _ hw516_0)).trans hw516_0)⟩ (fun hHeld => ?_)
                   clear hK K
                   refine no_ ?_
                   refine on_ 5 94 (nb_ 19 67583) HT_.out (fun K hK => ?_)
                   refine goes_ Tryd.func19 (by kernel_rfl) rfl #[.int .i64 (rd t502 x10_3), .int .i64 t500] (by rfl) rfl rfl ql_ ?_
                   with_reducible refine (corebankref01_Mul.calls (rd t502 x10_3) t500 t514 t515 _ A37.out).mono ?_
                   rintro e w44 ⟨rfl, hb⟩
                   have HS0_ := (hb.cell (World.block_lt_of_cell? _ _ (hHeld.1))).trans (hHeld.1)
                   refine ⟨_, rfl, ?_⟩
                   have n0_ := Aside0.mk (Kd.R_below (by (with_reducible repeat (first | apply Kd.R_alloc | apply Kd.R_drewN | apply Kd.R_drew)); exact HO_7.out) hb)
                   have n1_ := Aside0.mk (blk_below (qk_ BK522.out) hb)
                   have n2_ := Aside0.mk (below_step (qb1_ GE522.out HB.out) hb)
                   clear HO_7
                   clear BK522
                   clear HB
                   have HO_7 := n0_
                   have BK522 := n1_
                   have HB := n2_
                   clear n0_ n1_ n2_
                   (try clear hb)
                   (try clear hb2)
                   (try clear hk)
                   (try clear hi)
                   refine hK.out _ _ ⟨HS0_, ((HB.out.cell (World.block_lt_of_cell? w _ hw516_0)).trans hw516_0)⟩ (fun hHeld => ?_)
                   clear hK K
                   refine no_ ?_
                   refine on_ 11 100 (nb_ 19 69631) HT_.out (fun K hK => ?_)
                   refine goes_ Tryd.func19 (by kernel_rfl) rfl #[.int .i64 a0, .int .i64 (rd l1 x10_3)] (by rfl) rfl rfl ql_ ?_
                   with_reducible refine (corebankref01_Mul.calls a0 (rd l1 x10_3) t517 t518 _ A39.out).mono ?_
                   rintro e w45 ⟨rfl, hb⟩
                   have HS0_ := (hb.cell (World.block_lt_of_cell? _ _ (hHeld.1))).trans (hHeld.1)
                   refine ⟨_, rfl, ?_⟩
                   have n0_ := Aside0.mk (Kd.R_below (by (with_reducible repeat (first | apply Kd.R_alloc | apply Kd.R_drewN | apply Kd.R_drew)); exact HO_7.out) hb)
                   have n1_ := Aside0.mk (blk_below (qk_ BK522.out) hb)
                   have n2_ := Aside0.mk (below_step (qb1_ GE522.out HB.out) hb)
                   clear HO_7
                   clear BK522
                   clear HB
                   have HO_7 := n0_
                   have BK522 := n1_
                   have HB := n2_
                   clear n0_ n1_ n2_
                   (try clear hb)
                   (try clear hb2)
                   (try clear hk)
                   (try clear hi)
                   refine hK.out _ _ ⟨HS0_, ((HB.out.cell (World.block_lt_of_cell? w _ hw516_0)).trans hw516_0)⟩ (fun hHeld => ?_)
                   clear hK K
                   refine no_ ?_
                   refine on_ 12 101 (nb_ 19 73727) HT_.out (fun K hK => ?_)
                   refine goes_ Tryd.func28 (by kernel_rfl) rfl #[.agg #[.int .i64 t514, .int .u64 t515], .agg #[.int .i64 t517, .int .u64 t518]] (by rfl) rfl rfl ql_ ?_
                   with_reducible refine (corebankref01_Sub.calls t514 t515 t517 t518 t519 t520 t521 _ A40.out).mono ?_
                   rintro e w46 ⟨rfl, hb⟩
                   have HS0_ := (hb.cell (World.block_lt_of_cell? _ _ (hHeld.1))).trans (hHeld.1)
                   refine ⟨_, rfl, ?_⟩
                   have n0_ := Aside0.mk (Kd.R_below (by (with_reducible repeat (first | apply Kd.R_alloc | apply Kd.R_drewN | apply Kd.R_drew)); exact HO_7.out) hb)
                   have n1_ := Aside0.mk (blk_below (qk_ BK522.out) hb)
                   have n2_ := Aside0.mk (below_step (qb1_ GE522.out HB.out) hb)
                   clear HO_7
                   clear BK522
                   clear HB
                   have HO_7 := n0_
                   have BK522 := n1_
                   have HB := n2_
                   clear n0_ n1_ n2_
                   (try clear hb)
                   (try clear hb2)
                   (try clear hk)
                   (try clear hi)
                   refine hK.out _ _ ⟨HS0_, ((HB.out.cell (World.block_lt_of_cell? w _ hw516_0)).trans hw516_0)⟩ (fun hHeld => ?_)
                   clear hK K
                   refine no_ ?_
                   refine pz_ 13 88 (nb_ 19 81919) HT_.out ?_
                   refine pz_ 14 102 (nb_ 19 98303) HT_.out ?_
                   refine pz_ 15 103 (nb_ 19 131071) HT_.out ?_
                   exact norm_ (by simp only [putAll, Act.put, List.setIfInBounds_toArray, List.set_cons_zero, List.set_cons_succ]) (hCont (gb522) _ ⟨hHeld, (by (with_reducible repeat (first | apply Kd.R_alloc | apply Kd.R_drewN | apply Kd.R_drew)); exact HO_7.out), (qk_ BK522.out), GW522.out, GE522.out, (qb1_ GE522.out HB.out)⟩)
                 rintro gb522 w47 ⟨hS_, h0_, h1_, h2_, h3_, h4_⟩
                 have n0_ : Aside0 (Kd.R (Kd.int .i64) 3 w47 w.heap.size (fun _ => True) (.slice (some ad513) t502.length co26) t502) := ⟨h0_⟩
                 have n1_ : Aside0 (w47.heap[gb522]? = some (.cells #[.int .i64 0, .int .u64 0] 24 (0, 0))) := ⟨h1_⟩
                 have n2_ : Aside0 (w.heap.size ≤ gb522) := ⟨h2_⟩
                 have n3_ : Aside0 (w.heap.size ≤ gb522) := ⟨h3_⟩
                 have n4_ : Aside0 (Below w.heap.size w w47) := ⟨h4_⟩
                 clear HO_7
                 clear HB
                 clear h0_ h1_ h2_ h3_ h4_
                 have HO_7 := n0_
                 have BK522 := n1_
                 have GW522 := n2_
                 have GE522 := n3_
                 have HB := n4_
                 clear n0_ n1_ n2_ n3_ n4_
                 have hHeld : w47.cell? (ad513.add (x10_3).toNat) = some (.int .i64 (rd t502 x10_3)) ∧ w47.cell? (ad516.add (x10_3).toNat) = some (.int .i64 (rd l1 x10_3)) := hS_
                 refine norm_ (a' := ?_) ?_ ?_
                 rotate_left
                 ·simp only [putAll, Act.put, List.setIfInBounds_toArray, List.set_cons_zero, List.set_cons_succ]
                  rfl
                 refine one_ (i := 17) (N := none) (nb_ 19 262143) rfl rfl (one_of HT_.out (by kernel_rfl)) (by decide) (fun K hK => ?_)
                 have hs48 : w47.cell? ⟨gb522, 0, none⟩ = some (.int .i64 0) := (blk_cell BK522.out 0).trans rfl
                 have hfs48 := blk_frozen BK522.out 0
                 have hs49 : w47.cell? ⟨gb522, 1, none⟩ = some (.int .u64 0) := (blk_cell BK522.out 1).trans rfl
                 have hfs49 := blk_frozen BK522.out 1
                 refine skip_ (w1 := ?_) (by rfl) rfl ?_ ?_
                 rotate_left
                 ·go_simp
                  rfl
                 refine hK.out _ _ ⟨((cell_far (p := ⟨gb522, _, none⟩) (by first | exact Kd.own_blk (Kd.R_ne HO_7.out BK522.out (by decide)) | (rw [add_block]; exact Kd.own_blk (Kd.R_ne HO_7.out BK522.out (by decide))) | (show (Addr.add _ _).block ≠ _; rw [add_block]; exact Kd.own_blk (Kd.R_ne HO_7.out BK522.out (by decide))) | (dsimp only; exact Kd.own_blk (Kd.R_ne HO_7.out BK522.out (by decide)))) _).trans (((cell_far (p := ⟨gb522, _, none⟩) (by first | exact Kd.own_blk (Kd.R_ne HO_7.out BK522.out (by decide)) | (rw [add_block]; exact Kd.own_blk (Kd.R_ne HO_7.out BK522.out (by decide))) | (show (Addr.add _ _).block ≠ _; rw [add_block]; exact Kd.own_blk (Kd.R_ne HO_7.out BK522.out (by decide))) | (dsimp only; exact Kd.own_blk (Kd.R_ne HO_7.out BK522.out (by decide)))) _).trans (hHeld.1)))), ((cell_far (p := ⟨gb522, _, none⟩) (by first | exact Nat.ne_of_lt (Nat.lt_of_lt_of_le (by have := World.block_lt_of_cell? _ _ hw516_0; first | rwa [add_block] at this | exact this) GW522.out) | (rw [add_block]; exact Nat.ne_of_lt (Nat.lt_of_lt_of_le (by have := World.block_lt_of_cell? _ _ hw516_0; first | rwa [add_block] at this | exact this) GW522.out)) | (show (Addr.add _ _).block ≠ _; rw [add_block]; exact Nat.ne_of_lt (Nat.lt_of_lt_of_le (by have := World.block_lt_of_cell? _ _ hw516_0; first | rwa [add_block] at this | exact this) GW522.out)) | (dsimp only; exact Nat.ne_of_lt (Nat.lt_of_lt_of_le (by have := World.block_lt_of_cell? _ _ hw516_0; first | rwa [add_block] at this | exact this) GW522.out))) _).trans (((cell_far (p := ⟨gb522, _, none⟩) (by first | exact Nat.ne_of_lt (Nat.lt_of_lt_of_le (by have := World.block_lt_of_cell? _ _ hw516_0; first | rwa [add_block] at this | exact this) GW522.out) | (rw [add_block]; exact Nat.ne_of_lt (Nat.lt_of_lt_of_le (by have := World.block_lt_of_cell? _ _ hw516_0; first | rwa [add_block] at this | exact this) GW522.out)) | (show (Addr.add _ _).block ≠ _; rw [add_block]; exact Nat.ne_of_lt (Nat.lt_of_lt_of_le (by have := World.block_lt_of_cell? _ _ hw516_0; first | rwa [add_block] at this | exact this) GW522.out)) | (dsimp only; exact Nat.ne_of_lt (Nat.lt_of_lt_of_le (by have := World.block_lt_of_cell? _ _ hw516_0; first | rwa [add_block] at this | exact this) GW522.out))) _).trans (hHeld.2))))⟩ (fun hHeld => ?_)
                 clear hK K
                 refine pz_ 18 12 (nb_ 19 524287) HT_.out ?_
                 refine done_ (done_of HT_.out (by kernel_rfl)) ?_
                 go_upto_region 16 with (fail)
                 go_cut [116] (fun v116 wc => ∃ (kq : Nat) (x116_40 : Bool), v116 = .bool x116_40 ∧ Aside0 (corebanklaw02_RoundingSplits.j4 kq a0 l1 t500 t502 x9_3 x10_3 x116_40 = some r) ∧ Aside0 (kq ≤ kj24) ∧ Aside0 (Kd.R (Kd.int .i64) 3 wc w.heap.size (fun _ => True) (.slice (some ad513) t502.length co26) t502) ∧ Aside0 (wc.heap[gb522]? = some (.cells #[.int .i64 t519, .int .u64 t520] 24 (0, 0))) ∧ Aside0 (Below w.heap.size w wc))
                 case first =>
                  have H := HC41.out
                  clear HC41
                  replace H := Option.bind_eq_some_iff.mp H
                  obtain ⟨⟨t523, t524⟩, A500, H⟩ := H
                  replace H : ((corebankref01_Cmp.f t519 t520 t523 t524).bind fun t525 => (if t525 ≥ 0 then (corebanklaw02_RoundingSplits.j4 kj24 a0 l1 t500 t502 x9_3 x10_3 true) else ((corebankref01_Of.f (wrap64 (-t500))).bind fun bt526 => ((corebankref01_Cmp.f t519 t520 bt526.1 bt526.2).bind fun t528 => (corebanklaw02_RoundingSplits.j4 kj24 a0 l1 t500 t502 x9_3 x10_3 (decide (t528 ≤ 0))))))) = some r := H
                  have A50 := Aside0.mk A500
                  clear A500
                  replace H := Option.bind_eq_some_iff.mp H
                  obtain ⟨t525, A510, H⟩ := H
                  replace H : (if t525 ≥ 0 then (corebanklaw02_RoundingSplits.j4 kj24 a0 l1 t500 t502 x9_3 x10_3 true) else ((corebankref01_Of.f (wrap64 (-t500))).bind fun bt526 => ((corebankref01_Cmp.f t519 t520 bt526.1 bt526.2).bind fun t528 => (corebanklaw02_RoundingSplits.j4 kj24 a0 l1 t500 t502 x9_3 x10_3 (decide (t528 ≤ 0)))))) = some r := H
                  have A51 := Aside0.mk A510
                  clear A510
                  by_cases c52 : t525 ≥ 0
                  ·rw [if_pos c52] at H
                   have c52b0 : decide (0 ≤ t525) = true := decide_eq_true c52
                   clear c52
                   (first | rw [c52b0] | (simp only [i64_w, i32_w]; rw [c52b0]) | skip)
                   have H' := Aside0.mk H
                   clear H
                   try go_wp2
                   have n0_ : Aside0 (Kd.R (Kd.int .i64) 3 ((w47.setCell ⟨gb522, 0, none⟩ (.int .i64 t519)).setCell ⟨gb522, 1, none⟩ (.int .u64 t520)) w.heap.size (fun _ => True) (.slice (some ad513) t502.length co26) t502) := ⟨by (with_reducible repeat (first | apply Kd.R_alloc | apply Kd.R_drewN | apply Kd.R_drew)); exact Kd.R_mono (Kd.R_far (p := ⟨gb522, 1, none⟩) (Kd.R_far (p := ⟨gb522, 0, none⟩) (Kd.R_types HO_7.out BK522.out (by decide)) (fun _ hk => hk.2) (.int .i64 t519)) (fun _ hk => hk.2) (.int .u64 t520)) (fun _ hk => trivial)⟩
                   have n1_ : Aside0 (((w47.setCell ⟨gb522, 0, none⟩ (.int .i64 t519)).setCell ⟨gb522, 1, none⟩ (.int .u64 t520)).heap[gb522]? = some (.cells #[.int .i64 t519, .int .u64 t520] 24 (0, 0))) := ⟨qpp_ #[.int .i64 t519, .int .u64 0] 1 #[.int .i64 0, .int .u64 0] 0 BK522.out⟩
                   have n2_ : Aside0 (Below w.heap.size w ((w47.setCell ⟨gb522, 0, none⟩ (.int .i64 t519)).setCell ⟨gb522, 1, none⟩ (.int .u64 t520))) := ⟨qb1_ GE522.out HB.out⟩
                   (try clear HO_7)
                   (try clear BK522)
                   (try clear HB)
                   generalize ((w47.setCell ⟨gb522, 0, none⟩ (.int .i64 t519)).setCell ⟨gb522, 1, none⟩ (.int .u64 t520)) = w53 at n0_ n1_ n2_ ⊢
                   have HO_7 := n0_
                   have BK522 := n1_
                   have HB := n2_
                   clear n0_ n1_ n2_
                   have n0_ := Aside0.mk (Kd.R_drew HO_7.out)
                   have n1_ := Aside0.mk (blk_drew BK522.out)
                   have n2_ := Aside0.mk (below_drew1 HB.out)
                   clear HO_7
                   clear BK522
                   clear HB
                   have HO_7 := n0_
                   have BK522 := n1_
                   have HB := n2_
                   clear n0_ n1_ n2_
                   refine start_ (n := 13) (S := fun w' => w'.cell? ⟨gb522, 0, none⟩ = some (.int .i64 t519) ∧ w'.cell? ⟨gb522, 1, none⟩ = some (.int .u64 t520)) (ds := []) (nb_ 13 0) (by kernel_rfl) rfl rfl ⟨(blk_cell BK522.out 0).trans rfl, (blk_cell BK522.out 1).trans rfl⟩ (fun hHeld => ?_); refine with_tabW corebanklaw02_RoundingSplits.tab16 corebanklaw02_RoundingSplits.bits16 (fun HT_ HW_ => ?_)
                   generalize w53.drew = w54 at HO_7 BK522 HB hHeld ⊢
                   refine pz_ 1 105 (nb_ 13 2) HT_.out ?_
                   refine tk2_ 0 104 (nb_ 13 3) HT_.out HW_.out hHeld ?_
                   refine on_ 2 106 (nb_ 13 7) HT_.out (fun K hK => ?_)
                   refine goes_ Tryd.func21 (by kernel_rfl) rfl #[.int .i64 t500] (by rfl) rfl rfl ql_ ?_
                   with_reducible refine (corebankref01_Of.calls t500 t523 t524 _ A50.out).mono ?_
                   rintro e w55 ⟨rfl, hb⟩
                   refine ⟨_, rfl, ?_⟩
                   have n0_ := Aside0.mk (Kd.R_below (by (with_reducible repeat (first | apply Kd.R_alloc | apply Kd.R_drewN | apply Kd.R_drew)); exact HO_7.out) hb)
                   have n1_ := Aside0.mk (blk_below (qk_ BK522.out) hb)
                   have n2_ := Aside0.mk (below_step (qb1_ GE522.out HB.out) hb)
                   clear HO_7
                   clear BK522
                   clear HB
                   have HO_7 := n0_
                   have BK522 := n1_
                   have HB := n2_
                   clear n0_ n1_ n2_
                   (try clear hb)
                   (try clear hb2)
                   (try clear hk)
                   (try clear hi)
                   refine hK.out _ _ ⟨(blk_cell BK522.out 0).trans rfl, (blk_cell BK522.out 1).trans rfl⟩ (fun hHeld => ?_)
                   clear hK K
                   refine no_ ?_
                   refine on_ 3 107 (nb_ 13 15) HT_.out (fun K hK => ?_)
                   refine goes_ Tryd.func20 (by kernel_rfl) rfl #[.agg #[.int .i64 t519, .int .u64 t520], .agg #[.int .i64 t523, .int .u64 t524]] (by rfl) rfl rfl ql_ ?_
                   with_reducible refine (corebankref01_Cmp.calls t519 t520 t523 t524 t525 _ A51.out).mono ?_
                   rintro e w56 ⟨rfl, hb⟩
                   refine ⟨_, rfl, ?_⟩
                   have n0_ := Aside0.mk (Kd.R_below (by (with_reducible repeat (first | apply Kd.R_alloc | apply Kd.R_drewN | apply Kd.R_drew)); exact HO_7.out) hb)
                   have n1_ := Aside0.mk (blk_below (qk_ BK522.out) hb)
                   have n2_ := Aside0.mk (below_step (qb1_ GE522.out HB.out) hb)
                   clear HO_7
                   clear BK522
                   clear HB
                   have HO_7 := n0_
                   have BK522 := n1_
                   have HB := n2_
                   clear n0_ n1_ n2_
                   (try clear hb)
                   (try clear hb2)
                   (try clear hk)
                   (try clear hi)
                   refine hK.out _ _ ⟨(blk_cell BK522.out 0).trans rfl, (blk_cell BK522.out 1).trans rfl⟩ (fun hHeld => ?_)
                   clear hK K
                   refine no_ ?_
                   refine pz_ 4 108 (nb_ 13 31) HT_.out ?_
                   refine pz_ 5 109 (nb_ 13 63) HT_.out ?_
                   refine pu_ 6 110 (nb_ 13 127) HT_.out ?_
                   refine pu_ 7 111 (nb_ 13 255) HT_.out ?_
                   refine pu_ 8 112 (nb_ 13 511) HT_.out ?_
                   refine pu_ 9 113 (nb_ 13 1023) HT_.out ?_
                   refine pu_ 10 114 (nb_ 13 2047) HT_.out ?_
                   refine pu_ 11 115 (nb_ 13 4095) HT_.out ?_
                   refine pz_ 12 116 (nb_ 13 8191) HT_.out ?_
                   refine done_ (done_of HT_.out (by kernel_rfl)) ?_
                   try go_wp2
                   go_meet
                   case rel => exact ⟨_, (true), qs_, H', ⟨by have := HJ7.out; have := HJ19.out; have := HK3.out; have := HJ24.out; first | omega | exact Nat.le_refl _⟩, ⟨by (with_reducible repeat (first | apply Kd.R_alloc | apply Kd.R_drewN | apply Kd.R_drew)); exact HO_7.out⟩, ⟨qk_ BK522.out⟩, ⟨qb1_ GE522.out HB.out⟩⟩
                  ·rw [if_neg c52] at H
                   have c52b0 : decide (0 ≤ t525) = false := decide_eq_false c52
                   clear c52
                   (first | rw [c52b0] | (simp only [i64_w, i32_w]; rw [c52b0]) | skip)
                   replace H := Option.bind_eq_some_iff.mp H
                   obtain ⟨⟨t526, t527⟩, A570, H⟩ := H
                   replace H : ((corebankref01_Cmp.f t519 t520 t526 t527).bind fun t528 => (corebanklaw02_RoundingSplits.j4 kj24 a0 l1 t500 t502 x9_3 x10_3 (decide (t528 ≤ 0)))) = some r := H
                   have A57 := Aside0.mk A570
                   clear A570
                   replace H := Option.bind_eq_some_iff.mp H
                   obtain ⟨t528, A580, H⟩ := H
                   replace H : (corebanklaw02_RoundingSplits.j4 kj24 a0 l1 t500 t502 x9_3 x10_3 (decide (t528 ≤ 0))) = some r := H
                   have A58 := Aside0.mk A580
                   clear A580
                   have H' := Aside0.mk H
                   clear H
                   try go_wp2
                   have n0_ : Aside0 (Kd.R (Kd.int .i64) 3 ((w47.setCell ⟨gb522, 0, none⟩ (.int .i64 t519)).setCell ⟨gb522, 1, none⟩ (.int .u64 t520)) w.heap.size (fun _ => True) (.slice (some ad513) t502.length co26) t502) := ⟨by (with_reducible repeat (first | apply Kd.R_alloc | apply Kd.R_drewN | apply Kd.R_drew)); exact Kd.R_mono (Kd.R_far (p := ⟨gb522, 1, none⟩) (Kd.R_far (p := ⟨gb522, 0, none⟩) (Kd.R_types HO_7.out BK522.out (by decide)) (fun _ hk => hk.2) (.int .i64 t519)) (fun _ hk => hk.2) (.int .u64 t520)) (fun _ hk => trivial)⟩
                   have n1_ : Aside0 (((w47.setCell ⟨gb522, 0, none⟩ (.int .i64 t519)).setCell ⟨gb522, 1, none⟩ (.int .u64 t520)).heap[gb522]? = some (.cells #[.int .i64 t519, .int .u64 t520] 24 (0, 0))) := ⟨qpp_ #[.int .i64 t519, .int .u64 0] 1 #[.int .i64 0, .int .u64 0] 0 BK522.out⟩
                   have n2_ : Aside0 (Below w.heap.size w ((w47.setCell ⟨gb522, 0, none⟩ (.int .i64 t519)).setCell ⟨gb522, 1, none⟩ (.int .u64 t520))) := ⟨qb1_ GE522.out HB.out⟩
                   (try clear HO_7)
                   (try clear BK522)
                   (try clear HB)
                   generalize ((w47.setCell ⟨gb522, 0, none⟩ (.int .i64 t519)).setCell ⟨gb522, 1, none⟩ (.int .u64 t520)) = w59 at n0_ n1_ n2_ ⊢
                   have HO_7 := n0_
                   have BK522 := n1_
                   have HB := n2_
                   clear n0_ n1_ n2_
                   have n0_ := Aside0.mk (Kd.R_drew HO_7.out)
                   have n1_ := Aside0.mk (blk_drew BK522.out)
                   have n2_ := Aside0.mk (below_drew1 HB.out)
                   clear HO_7
                   clear BK522
                   clear HB
                   have HO_7 := n0_
                   have BK522 := n1_
                   have HB := n2_
                   clear n0_ n1_ n2_
                   refine start_ (n := 13) (S := fun w' => w'.cell? ⟨gb522, 0, none⟩ = some (.int .i64 t519) ∧ w'.cell? ⟨gb522, 1, none⟩ = some (.int .u64 t520)) (ds := []) (nb_ 13 0) (by kernel_rfl) rfl rfl ⟨(blk_cell BK522.out 0).trans rfl, (blk_cell BK522.out 1).trans rfl⟩ (fun hHeld => ?_); refine with_tabW corebanklaw02_RoundingSplits.tab16 corebanklaw02_RoundingSplits.bits16 (fun HT_ HW_ => ?_)
                   generalize w59.drew = w60 at HO_7 BK522 HB hHeld ⊢
                   refine pz_ 1 105 (nb_ 13 2) HT_.out ?_
                   refine tk2_ 0 104 (nb_ 13 3) HT_.out HW_.out hHeld ?_
                   refine on_ 2 106 (nb_ 13 7) HT_.out (fun K hK => ?_)
                   refine goes_ Tryd.func21 (by kernel_rfl) rfl #[.int .i64 t500] (by rfl) rfl rfl ql_ ?_
                   with_reducible refine (corebankref01_Of.calls t500 t523 t524 _ A50.out).mono ?_
                   rintro e w61 ⟨rfl, hb⟩
                   refine ⟨_, rfl, ?_⟩
                   have n0_ := Aside0.mk (Kd.R_below (by (with_reducible repeat (first | apply Kd.R_alloc | apply Kd.R_drewN | apply Kd.R_drew)); exact HO_7.out) hb)
                   have n1_ := Aside0.mk (blk_below (qk_ BK522.out) hb)
                   have n2_ := Aside0.mk (below_step (qb1_ GE522.out HB.out) hb)
                   clear HO_7
                   clear BK522
                   clear HB
                   have HO_7 := n0_
                   have BK522 := n1_
                   have HB := n2_
                   clear n0_ n1_ n2_
                   (try clear hb)
                   (try clear hb2)
                   (try clear hk)
                   (try clear hi)
                   refine hK.out _ _ ⟨(blk_cell BK522.out 0).trans rfl, (blk_cell BK522.out 1).trans rfl⟩ (fun hHeld => ?_)
                   clear hK K
                   refine no_ ?_
                   refine on_ 3 107 (nb_ 13 15) HT_.out (fun K hK => ?_)
                   refine goes_ Tryd.func20 (by kernel_rfl) rfl #[.agg #[.int .i64 t519, .int .u64 t520], .agg #[.int .i64 t523, .int .u64 t524]] (by rfl) rfl rfl ql_ ?_
                   with_reducible refine (corebankref01_Cmp.calls t519 t520 t523 t524 t525 _ A51.out).mono ?_
                   rintro e w62 ⟨rfl, hb⟩
                   refine ⟨_, rfl, ?_⟩
                   have n0_ := Aside0.mk (Kd.R_below (by (with_reducible repeat (first | apply Kd.R_alloc | apply Kd.R_drewN | apply Kd.R_drew)); exact HO_7.out) hb)
                   have n1_ := Aside0.mk (blk_below (qk_ BK522.out) hb)
                   have n2_ := Aside0.mk (below_step (qb1_ GE522.out HB.out) hb)
                   clear HO_7
                   clear BK522
                   clear HB
                   have HO_7 := n0_
                   have BK522 := n1_
                   have HB := n2_
                   clear n0_ n1_ n2_
                   (try clear hb)
                   (try clear hb2)
                   (try clear hk)
                   (try clear hi)
                   refine hK.out _ _ ⟨(blk_cell BK522.out 0).trans rfl, (blk_cell BK522.out 1).trans rfl⟩ (fun hHeld => ?_)
                   clear hK K
                   refine no_ ?_
                   refine pz_ 4 108 (nb_ 13 31) HT_.out ?_
                   refine pz_ 5 109 (nb_ 13 63) HT_.out ?_
                   refine pz_ 7 111 (nb_ 13 191) HT_.out ?_
                   refine pz_ 8 112 (nb_ 13 447) HT_.out ?_
                   refine tk2_ 6 110 (nb_ 13 511) HT_.out HW_.out hHeld ?_
                   refine on_ 9 113 (nb_ 13 1023) HT_.out (fun K hK => ?_)
                   refine goes_ Tryd.func21 (by kernel_rfl) rfl #[.int .i64 (wrap64 (-t500))] (by rfl) rfl rfl ql_ ?_
                   with_reducible refine (corebankref01_Of.calls (wrap64 (-t500)) t526 t527 _ A57.out).mono ?_
                   rintro e w63 ⟨rfl, hb⟩
                   refine ⟨_, rfl, ?_⟩
                   have n0_ := Aside0.mk (Kd.R_below (by (with_reducible repeat (first | apply Kd.R_alloc | apply Kd.R_drewN | apply Kd.R_drew)); exact HO_7.out) hb)
                   have n1_ := Aside0.mk (blk_below (qk_ BK522.out) hb)
                   have n2_ := Aside0.mk (below_step (qb1_ GE522.out HB.out) hb)
                   clear HO_7
                   clear BK522
                   clear HB
                   have HO_7 := n0_
                   have BK522 := n1_
                   have HB := n2_
                   clear n0_ n1_ n2_
                   (try clear hb)
                   (try clear hb2)
                   (try clear hk)
                   (try clear hi)
                   refine hK.out _ _ ⟨(blk_cell BK522.out 0).trans rfl, (blk_cell BK522.out 1).trans rfl⟩ (fun hHeld => ?_)
                   clear hK K
                   refine no_ ?_
                   refine on_ 10 114 (nb_ 13 2047) HT_.out (fun K hK => ?_)
                   refine goes_ Tryd.func20 (by kernel_rfl) rfl #[.agg #[.int .i64 t519, .int .u64 t520], .agg #[.int .i64 t526, .int .u64 t527]] (by rfl) rfl rfl ql_ ?_
                   with_reducible refine (corebankref01_Cmp.calls t519 t520 t526 t527 t528 _ A58.out).mono ?_
                   rintro e w64 ⟨rfl, hb⟩
                   refine ⟨_, rfl, ?_⟩
                   have n0_ := Aside0.mk (Kd.R_below (by (with_reducible repeat (first | apply Kd.R_alloc | apply Kd.R_drewN | apply Kd.R_drew)); exact HO_7.out) hb)
                   have n1_ := Aside0.mk (blk_below (qk_ BK522.out) hb)
                   have n2_ := Aside0.mk (below_step (qb1_ GE522.out HB.out) hb)
                   clear HO_7
                   clear BK522
                   clear HB
                   have HO_7 := n0_
                   have BK522 := n1_
                   have HB := n2_
                   clear n0_ n1_ n2_
                   (try clear hb)
                   (try clear hb2)
                   (try clear hk)
                   (try clear hi)
                   refine hK.out _ _ ⟨(blk_cell BK522.out 0).trans rfl, (blk_cell BK522.out 1).trans rfl⟩ (fun hHeld => ?_)
                   clear hK K
                   refine no_ ?_
                   refine pz_ 11 115 (nb_ 13 4095) HT_.out ?_
                   refine pz_ 12 116 (nb_ 13 8191) HT_.out ?_
                   refine done_ (done_of HT_.out (by kernel_rfl)) ?_
                   try go_wp2
                   go_meet
                   case rel => exact ⟨_, (decide (t528 ≤ 0)), qs_, H', ⟨by have := HJ7.out; have := HJ19.out; have := HK3.out; have := HJ24.out; first | omega | exact Nat.le_refl _⟩, ⟨by (with_reducible repeat (first | apply Kd.R_alloc | apply Kd.R_drewN | apply Kd.R_drew)); exact HO_7.out⟩, ⟨qk_ BK522.out⟩, ⟨qb1_ GE522.out HB.out⟩⟩
                 case rest =>
                  clear HC41
                  try clear c1
                  try clear c2
                  try clear p2
                  try clear c5
                  try clear p6
                  try clear c19
                  try clear c20
                  try clear c21
                  try clear c28
                  try clear c52
                  try clear c52b0
                  try clear p64
                  obtain ⟨kq, x116_40, rfl, HA, HJ40, HO_7, BK522, HB⟩ := hcut
                  cases kq with
                  | zero => exact absurd HA.out (by simp [corebanklaw02_RoundingSplits.j4])
                  | succ kj40 =>
                   have H := HA.out
                   clear HA
                   simp only [corebanklaw02_RoundingSplits.j4] at H
                   by_cases c65 : x116_40 = true
                   ·subst c65
                    have H1 : (some false) = some r := by rw [if_pos rfl] at H; exact H
                    clear H
                    have H := H1
                    clear H1
                    obtain rfl := Option.some.inj H
                    go_wp2
                    go_ret
                    exact ⟨qe_, qb1_ GE522.out HB.out⟩
                   ·replace c65 := Bool.eq_false_iff.mpr c65
                    subst c65
                    have H1 : (if 0 ≤ x10_3 then (if x10_3 < (t502.length : Int) then (corebanklaw02_RoundingSplits.l0 kj40 a0 l1 t500 t502 (wrap64 (x9_3 + (rd t502 x10_3))) (wrap64 (x10_3 + 1))) else (none)) else (none)) = some r := by rw [if_neg (show ¬ (false = true) by decide)] at H; exact H
                    clear H
                    have H := H1
                    clear H1
                    by_cases c66 : 0 ≤ x10_3
                    ·rw [if_pos c66] at H
                     have c66b0 : decide (0 ≤ x10_3) = true := decide_eq_true c66
                     clear c66
                     by_cases c67 : x10_3 < (t502.length : Int)
                     ·rw [if_pos c67] at H
                      have c67b0 : decide (x10_3 < (t502.length : Int)) = true := decide_eq_true c67
                      clear c67
                      have H' := Aside0.mk H
                      clear H
                      have p529 : 0 ≤ (x10_3 : Int) := of_decide_eq_true (by first | (with_reducible assumption) | assumption)
                      have q529 : x10_3 < (t502.length : Int) := of_decide_eq_true (by first | (with_reducible assumption) | assumption)
                      obtain ⟨ad529, e529, hx529_0⟩ := Kd.at_int (Kd.R_reads' HO_7.out).2.2 x10_3 p529 q529
                      obtain rfl : ad513 = ad529 := (by injection e529)
                      replace p529 := eq_true p529
                      replace q529 := eq_true q529
                      go_wp2
                      go_roundg kj40
                      case measure => have := HJ7.out; have := HJ19.out; have := HK3.out; have := HJ24.out; have := HJ40.out; omega
                      case rel => exact ⟨(wrap64 (x9_3 + (rd t502 x10_3))), (wrap64 (x10_3 + 1)), qs_, qs_, H', ⟨by have := HJ7.out; have := HJ19.out; have := HK3.out; have := HJ24.out; have := HJ40.out; omega⟩, ⟨by (with_reducible repeat (first | apply Kd.R_alloc | apply Kd.R_drewN | apply Kd.R_drew)); exact HO_7.out⟩, ⟨qb1_ GE522.out HB.out⟩⟩
                     ·rw [if_neg c67] at H
                      exact absurd H (by simp)
                    ·rw [if_neg c66] at H
                     exact absurd H (by simp)
                ·rw [if_neg c38] at H
                 exact absurd H (by simp)
               ·rw [if_neg c36] at H
                exact absurd H (by simp)
              ·rw [if_neg c35] at H
               exact absurd H (by simp)
          ·rw [if_neg c24] at H
           have c24b0 : decide (x10_3 < (t502.length : Int)) = false := decide_eq_false c24
           clear c24
           by_cases c68 : x9_3 = a0
           ·rw [if_pos c68] at H
            have c68b0 : (x9_3 == a0) = true := beq_iff_eq.mpr c68
            have c68b1 : (x9_3 != a0) = false := bne_eq_false_iff_eq.mpr c68
            clear c68
            replace H := Option.bind_eq_some_iff.mp H
            obtain ⟨t530, A690, H⟩ := H
            replace H : (some t530) = some r := H
            have A69 := Aside0.mk A690
            clear A690
            obtain rfl := Option.some.inj H
            obtain ⟨Ao70, co70, eo70⟩ := Kd.R_slice HO_7.out
            subst eo70
            go_wp2_with (first | (go_at_call 15; (with_reducible refine (corebanklaw02_live.calls (hG := by first | exact hG | (with_reducible exact GW.below hG (qb_ HB.out)) | (with_reducible repeat (first | exact hG | apply GW.drewN | apply GW.drew)))  t530 _ A69.out).mono ?_); rintro e w71 ⟨rfl, hb⟩; have n0_ := Aside0.mk (Kd.R_below (by (with_reducible repeat (first | apply Kd.R_alloc | apply Kd.R_drewN | apply Kd.R_drew)); exact HO_7.out) hb); have n1_ := Aside0.mk (below_step (qb_ HB.out) hb); clear HO_7; clear HB; have HO_7 := n0_; have HB := n1_; clear n0_ n1_; (try clear hb); (try clear hb2); (try clear hk); (try clear hi)))
            go_ret
            exact ⟨qe_, qb_ HB.out⟩
           ·rw [if_neg c68] at H
            have c68b0 : (x9_3 == a0) = false := beq_eq_false_iff_ne.mpr c68
            have c68b1 : (x9_3 != a0) = true := bne_iff_ne.mpr c68
            obtain rfl := Option.some.inj H
            obtain ⟨Ao72, co72, eo72⟩ := Kd.R_slice HO_7.out
            subst eo72
            go_wp2
            go_ret
            exact ⟨qe_, qb_ HB.out⟩
/-- THE ONE PURE STATEMENT of corebanklaw02_RoundingSplits: yours. -/
def corebanklaw02_RoundingSplits.Pure : Prop := ∀ (a0 : Int) (l1 : List Int), (Lit.int .i64 a0).wf = true → l1.length ≤ maxLen → l1.length * 8 ≤ 140737488351232 → (∀ x ∈ l1, (Lit.int .i64 x).wf = true) → ∃ k, corebanklaw02_RoundingSplits.f k a0 l1 = some true
theorem corebanklaw02_RoundingSplits.walk (P : corebanklaw02_RoundingSplits.Pure) (a0 : Int) (a1 : Option Addr) (len1 cap1 : Nat) (z1 : List Int) (w : World) (hG : GW w) (w0 : (Lit.int .i64 a0).wf = true) (w1 : (a1 = none ∧ len1 = 0 ∧ cap1 = 0 ∧ z1 = []) ∨ ∃ x, a1 = some x ∧ len1 ≤ cap1 ∧ cap1 ≤ maxLen ∧ z1.length = cap1 ∧ (∀ i, i < z1.length → w.cell? (x.add i) = some (.int .i64 (z1.getD i 0))) ∧ ∀ n ∈ z1, (Lit.int .i64 n).wf = true) (y1 : len1 * 8 ≤ 140737488351232) :
  Calls Tryd.prog 7 #[.int .i64 a0, .slice a1 len1 cap1] w fun e w' => e = .returned (.bool true) ∧ Below w.heap.size w w' := by
 obtain ⟨l1, rfl, hr1, hm1, hw1, hc1⟩ := ReadsInt.ofRowC w1
 obtain ⟨k, h⟩ := P a0 l1 w0 hm1 y1 hw1
 refine (corebanklaw02_RoundingSplits.calls k a0 _ _ l1 true w hG (Kd.C_of_reads (d := (0 : Int)) (h1 := fun _ => rfl) hr1) hc1 h).mono ?_
 rintro e w' ⟨rfl, hd⟩
 exact ⟨rfl, hd⟩
end Go.Proofs.YtkdhippoibjfkaaDoor.PR
