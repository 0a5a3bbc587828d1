import Derived.Test.YtkdhippoibjfkaaDoorQRm2
import Derived.Test.YtkdhippoibjfkaaDoorQRm4
import Derived.Test.YtkdhippoibjfkaaDoorQRm5
import Derived.Test.YtkdhippoibjfkaaDoorQRm8
import Derived.Test.YtkdhippoibjfkaaDoorQRm9
section
namespace Go.Proofs.YtkdhippoibjfkaaDoor.PR
open Go.RowKit Go.Proofs.YtkdhippoibjfkaaDoorW.PrintWords Go.Proofs.YtkdhippoibjfkaaDoorW.PrintLast
set_option linter.unusedVariables false
set_option linter.unusedSimpArgs false
mutual
def rounding_Split.j0 : Nat → Int → List Int → Int → Bool → Option (List Int × Int)
 | 0, _, _, _, _ => none
 | k + 1, x0, x1, x6, x32 => if x32 = true then (some (([] : List Int), 1)) else (if x0 < 0 then (rounding_Split.j1 k x0 x1 x6 (-1)) else (rounding_Split.j1 k x0 x1 x6 1))
def rounding_Split.j1 : Nat → Int → List Int → Int → Int → Option (List Int × Int)
 | 0, _, _, _, _ => none
 | k + 1, x0, x1, x6, x8 => if 0 ≤ (x1.length : Int) then (if ((x1.length : Int) : Int).toNat ≤ 35184372088832 then (rounding_Split.l0 k x0 x6 x8 (wrap64 (x8 * x0)) (List.replicate ((x1.length : Int) : Int).toNat 0) (List.replicate ((x1.length : Int) : Int).toNat 0) x1 (x1.length : Int) 0) else (none)) else (none)
def rounding_Split.l0 : Nat → Int → Int → Int → Int → List Int → List Int → List Int → Int → Int → Option (List Int × Int)
 | 0, _, _, _, _, _, _, _, _, _ => none
 | k + 1, x0, x6, x8, x9, x10, x11, x44, x45, x46 => if x46 < x45 then (if 0 ≤ x46 then (if x46 < (x44.length : Int) then ((wide_Mul.f (wrap64 (x8 * x0)) (rd x44 x46)).bind fun bt294 => ((wide_Div.f bt294.1 bt294.2 x6).bind fun bt296 => ((wide_Int.f bt296.1 bt296.2.1).bind fun bt301 => (if x46 < (x10.length : Int) then ((some (x10.set (x46 : Int).toNat bt301.1 : List Int)).bind fun y303 => (if x46 < (x11.length : Int) then (rounding_Split.l0 k x0 x6 x8 (wrap64 (x9 - (rd y303 x46))) y303 (x11.set (x46 : Int).toNat bt296.2.2.1) x44 x45 (wrap64 (x46 + 1))) else (none))) else (none))))) else (none)) else (none)) else (rounding_Split.l1 k x8 x9 x10 x11)
def rounding_Split.l1 : Nat → Int → Int → List Int → List Int → Option (List Int × Int)
 | 0, _, _, _, _ => none
 | k + 1, x8, x9, x10, x11 => if x9 > 0 then (rounding_Split.l2 k x8 x9 x10 x11 0 x11 (x11.length : Int) 0) else (rounding_Split.l3 k x8 x10 (x10.length : Int) 0)
def rounding_Split.l2 : Nat → Int → Int → List Int → List Int → Int → List Int → Int → Int → Option (List Int × Int)
 | 0, _, _, _, _, _, _, _, _ => none
 | k + 1, x8, x9, x10, x11, x17, x85, x86, x87 => if x87 < x86 then (if 0 ≤ x87 then (if x87 < (x85.length : Int) then (if 0 ≤ x17 then (if x17 < (x11.length : Int) then (if (rd x85 x87) > (rd x11 x17) then (rounding_Split.l2 k x8 x9 x10 x11 x87 x85 x86 (wrap64 (x87 + 1))) else (rounding_Split.l2 k x8 x9 x10 x11 x17 x85 x86 (wrap64 (x87 + 1)))) else (none)) else (none)) else (none)) else (none)) else (if 0 ≤ x17 then (if x17 < (x10.length : Int) then (if x17 < (x11.length : Int) then (rounding_Split.l1 k x8 (wrap64 (x9 - 1)) (x10.set (x17 : Int).toNat (wrap64 ((rd x10 x17) + 1))) (x11.set (x17 : Int).toNat (-1))) else (none)) else (none)) else (none))
def rounding_Split.l3 : Nat → Int → List Int → Int → Int → Option (List Int × Int)
 | 0, _, _, _, _ => none
 | k + 1, x8, x10, x110, x111 => if x111 < x110 then (if 0 ≤ x111 then (if x111 < (x10.length : Int) then (rounding_Split.l3 k x8 (x10.set (x111 : Int).toNat (wrap64 ((rd x10 x111) * x8))) x110 (wrap64 (x111 + 1))) else (none)) else (none)) else (some (x10, 0))
end
def rounding_Split.f (k : Nat) (a0 : Int) (l1 : List Int) : Option (List Int × Int) := (rounding_total.f k l1).bind fun bt284 => ((rounding_valid.f a0).bind fun t286 => (if t286 = true then (rounding_Split.j0 k a0 l1 bt284.1 (!bt284.2)) else (rounding_Split.j0 k a0 l1 bt284.1 true)))
theorem rounding_Split.mono_l : ∀ k, (∀ y0 y1 y2 y3, LeO (rounding_Split.j0 k y0 y1 y2 y3) (rounding_Split.j0 (k + 1) y0 y1 y2 y3)) ∧ (∀ y0 y1 y2 y3, LeO (rounding_Split.j1 k y0 y1 y2 y3) (rounding_Split.j1 (k + 1) y0 y1 y2 y3)) ∧ (∀ y0 y1 y2 y3 y4 y5 y6 y7 y8, LeO (rounding_Split.l0 k y0 y1 y2 y3 y4 y5 y6 y7 y8) (rounding_Split.l0 (k + 1) y0 y1 y2 y3 y4 y5 y6 y7 y8)) ∧ (∀ y0 y1 y2 y3, LeO (rounding_Split.l1 k y0 y1 y2 y3) (rounding_Split.l1 (k + 1) y0 y1 y2 y3)) ∧ (∀ y0 y1 y2 y3 y4 y5 y6 y7, LeO (rounding_Split.l2 k y0 y1 y2 y3 y4 y5 y6 y7) (rounding_Split.l2 (k + 1) y0 y1 y2 y3 y4 y5 y6 y7)) ∧ (∀ y0 y1 y2 y3, LeO (rounding_Split.l3 k y0 y1 y2 y3) (rounding_Split.l3 (k + 1) y0 y1 y2 y3))
 | 0 => ⟨fun _ _ _ _ r h => by simp [rounding_Split.j0] at h, fun _ _ _ _ r h => by simp [rounding_Split.j1] at h, fun _ _ _ _ _ _ _ _ _ r h => by simp [rounding_Split.l0] at h, fun _ _ _ _ r h => by simp [rounding_Split.l1] at h, fun _ _ _ _ _ _ _ _ r h => by simp [rounding_Split.l2] at h, fun _ _ _ _ r h => by simp [rounding_Split.l3] at h⟩
 | k + 1 => by
  obtain ⟨ih0, ih1, ih2, ih3, ih4, ih5⟩ := rounding_Split.mono_l k
  refine ⟨?_, ?_, ?_, ?_, ?_, ?_⟩
  ·intro y0 y1 y2 y3
   unfold rounding_Split.j0
   repeat' first
   | (with_reducible exact ih0 _ _ _ _)
   | (with_reducible exact ih1 _ _ _ _)
   | (with_reducible exact ih2 _ _ _ _ _ _ _ _ _)
   | (with_reducible exact ih3 _ _ _ _)
   | (with_reducible exact ih4 _ _ _ _ _ _ _ _)
   | (with_reducible exact ih5 _ _ _ _)
   | (with_reducible exact rounding_total.mono _ _)
   | (with_reducible exact LeO.refl _)
   | (with_reducible exact LeO.none _)
   | (with_reducible refine LeO.ite ?_ ?_)
   | (with_reducible refine LeO.bind ?_ (fun _ => ?_))
   | exact ih0 _ _ _ _
   | exact ih1 _ _ _ _
   | exact ih2 _ _ _ _ _ _ _ _ _
   | exact ih3 _ _ _ _
   | exact ih4 _ _ _ _ _ _ _ _
   | exact ih5 _ _ _ _
   | exact rounding_total.mono _ _
   | exact LeO.none _
   | refine LeO.ite ?_ ?_
   | refine LeO.bind ?_ (fun _ => ?_)
  ·intro y0 y1 y2 y3
   unfold rounding_Split.j1
   repeat' first
   | (with_reducible exact ih0 _ _ _ _)
   | (with_reducible exact ih1 _ _ _ _)
   | (with_reducible exact ih2 _ _ _ _ _ _ _ _ _)
   | (with_reducible exact ih3 _ _ _ _)
   | (with_reducible exact ih4 _ _ _ _ _ _ _ _)
   | (with_reducible exact ih5 _ _ _ _)
   | (with_reducible exact rounding_total.mono _ _)
   | (with_reducible exact LeO.refl _)
   | (with_reducible exact LeO.none _)
   | (with_reducible refine LeO.ite ?_ ?_)
   | (with_reducible refine LeO.bind ?_ (fun _ => ?_))
   | exact ih0 _ _ _ _
   | exact ih1 _ _ _ _
   | exact ih2 _ _ _ _ _ _ _ _ _
   | exact ih3 _ _ _ _
   | exact ih4 _ _ _ _ _ _ _ _
   | exact ih5 _ _ _ _
   | exact rounding_total.mono _ _
   | exact LeO.none _
   | refine LeO.ite ?_ ?_
   | refine LeO.bind ?_ (fun _ => ?_)
  ·intro y0 y1 y2 y3 y4 y5 y6 y7 y8
   unfold rounding_Split.l0
   repeat' first
   | (with_reducible exact ih0 _ _ _ _)
   | (with_reducible exact ih1 _ _ _ _)
   | (with_reducible exact ih2 _ _ _ _ _ _ _ _ _)
   | (with_reducible exact ih3 _ _ _ _)
   | (with_reducible exact ih4 _ _ _ _ _ _ _ _)
   | (with_reducible exact ih5 _ _ _ _)
   | (with_reducible exact rounding_total.mono _ _)
   | (with_reducible exact LeO.refl _)
   | (with_reducible exact LeO.none _)
   | (with_reducible refine LeO.ite ?_ ?_)
   | (with_reducible refine LeO.bind ?_ (fun _ => ?_))
   | exact ih0 _ _ _ _
   | exact ih1 _ _ _ _
   | exact ih2 _ _ _ _ _ _ _ _ _
   | exact ih3 _ _ _ _
   | exact ih4 _ _ _ _ _ _ _ _
   | exact ih5 _ _ _ _
   | exact rounding_total.mono _ _
   | exact LeO.none _
   | refine LeO.ite ?_ ?_
   | refine LeO.bind ?_ (fun _ => ?_)
  ·intro y0 y1 y2 y3
   unfold rounding_Split.l1
   repeat' first
   | (with_reducible exact ih0 _ _ _ _)
   | (with_reducible exact ih1 _ _ _ _)
   | (with_reducible exact ih2 _ _ _ _ _ _ _ _ _)
   | (with_reducible exact ih3 _ _ _ _)
   | (with_reducible exact ih4 _ _ _ _ _ _ _ _)
   | (with_reducible exact ih5 _ _ _ _)
   | (with_reducible exact rounding_total.mono _ _)
   | (with_reducible exact LeO.refl _)
   | (with_reducible exact LeO.none _)
   | (with_reducible refine LeO.ite ?_ ?_)
   | (with_reducible refine LeO.bind ?_ (fun _ => ?_))
   | exact ih0 _ _ _ _
   | exact ih1 _ _ _ _
   | exact ih2 _ _ _ _ _ _ _ _ _
   | exact ih3 _ _ _ _
   | exact ih4 _ _ _ _ _ _ _ _
   | exact ih5 _ _ _ _
   | exact rounding_total.mono _ _
   | exact LeO.none _
   | refine LeO.ite ?_ ?_
   | refine LeO.bind ?_ (fun _ => ?_)
  ·intro y0 y1 y2 y3 y4 y5 y6 y7
   unfold rounding_Split.l2
   repeat' first
   | (with_reducible exact ih0 _ _ _ _)
   | (with_reducible exact ih1 _ _ _ _)
   | (with_reducible exact ih2 _ _ _ _ _ _ _ _ _)
   | (with_reducible exact ih3 _ _ _ _)
   | (with_reducible exact ih4 _ _ _ _ _ _ _ _)
   | (with_reducible exact ih5 _ _ _ _)
   | (with_reducible exact rounding_total.mono _ _)
   | (with_reducible exact LeO.refl _)
   | (with_reducible exact LeO.none _)
   | (with_reducible refine LeO.ite ?_ ?_)
   | (with_reducible refine LeO.bind ?_ (fun _ => ?_))
   | exact ih0 _ _ _ _
   | exact ih1 _ _ _ _
   | exact ih2 _ _ _ _ _ _ _ _ _
   | exact ih3 _ _ _ _
   | exact ih4 _ _ _ _ _ _ _ _
   | exact ih5 _ _ _ _
   | exact rounding_total.mono _ _
   | exact LeO.none _
   | refine LeO.ite ?_ ?_
   | refine LeO.bind ?_ (fun _ => ?_)
  ·intro y0 y1 y2 y3
   unfold rounding_Split.l3
   repeat' first
   | (with_reducible exact ih0 _ _ _ _)
   | (with_reducible exact ih1 _ _ _ _)
   | (with_reducible exact ih2 _ _ _ _ _ _ _ _ _)
   | (with_reducible exact ih3 _ _ _ _)
   | (with_reducible exact ih4 _ _ _ _ _ _ _ _)
   | (with_reducible exact ih5 _ _ _ _)
   | (with_reducible exact rounding_total.mono _ _)
   | (with_reducible exact LeO.refl _)
   | (with_reducible exact LeO.none _)
   | (with_reducible refine LeO.ite ?_ ?_)
   | (with_reducible refine LeO.bind ?_ (fun _ => ?_))
   | exact ih0 _ _ _ _
   | exact ih1 _ _ _ _
   | exact ih2 _ _ _ _ _ _ _ _ _
   | exact ih3 _ _ _ _
   | exact ih4 _ _ _ _ _ _ _ _
   | exact ih5 _ _ _ _
   | exact rounding_total.mono _ _
   | exact LeO.none _
   | refine LeO.ite ?_ ?_
   | refine LeO.bind ?_ (fun _ => ?_)
theorem rounding_Split.mono : ∀ a0 a1 k, LeO (rounding_Split.f k a0 a1) (rounding_Split.f (k + 1) a0 a1) := by
 intro a0 a1 k
 obtain ⟨ih0, ih1, ih2, ih3, ih4, ih5⟩ := rounding_Split.mono_l k
 unfold rounding_Split.f
 repeat' first
   | (with_reducible exact ih0 _ _ _ _)
   | (with_reducible exact ih1 _ _ _ _)
   | (with_reducible exact ih2 _ _ _ _ _ _ _ _ _)
   | (with_reducible exact ih3 _ _ _ _)
   | (with_reducible exact ih4 _ _ _ _ _ _ _ _)
   | (with_reducible exact ih5 _ _ _ _)
   | (with_reducible exact rounding_total.mono _ _)
   | (with_reducible exact LeO.refl _)
   | (with_reducible exact LeO.none _)
   | (with_reducible refine LeO.ite ?_ ?_)
   | (with_reducible refine LeO.bind ?_ (fun _ => ?_))
   | exact ih0 _ _ _ _
   | exact ih1 _ _ _ _
   | exact ih2 _ _ _ _ _ _ _ _ _
   | exact ih3 _ _ _ _
   | exact ih4 _ _ _ _ _ _ _ _
   | exact ih5 _ _ _ _
   | exact rounding_total.mono _ _
   | exact LeO.none _
   | refine LeO.ite ?_ ?_
   | refine LeO.bind ?_ (fun _ => ?_)
def rounding_Split.T8 : Bool × List (List Nat × List Nat) := (true, [([], []), ([0], [0]), ([1, 1], [1]), ([], []), ([3], [3]), ([4, 4], [4]), ([2, 0, 1, 2], [2]), ([5, 6, 0, 1, 2, 3, 4, 5, 6], [5])])
def rounding_Split.B8 : List Nat := [0, 1, 3, 0, 8, 24, 7, 127]
theorem rounding_Split.tab8 : rtab .any (opsOf Tryd.f24 8) = rounding_Split.T8 := by kernel_rfl
theorem rounding_Split.bits8 : waitsOk rounding_Split.T8.2 rounding_Split.B8 = true := by kernel_rfl
set_option maxHeartbeats 8000000 in
set_option maxRecDepth 100000 in
theorem rounding_Split.calls (k : Nat) (a0 : Int) (A1 : Option Addr) (c1 : Nat) (l1 : List Int) (r1 : List Int) (r2 : Int) (w : World) (hr1 : Kd.C (Kd.int .i64) w A1 l1.length l1) (hc1 : l1.length ≤ c1) (h : rounding_Split.f k a0 l1 = some (r1, r2)) :
  Calls Tryd.prog 24 #[.int .i64 a0, .slice A1 l1.length c1] w fun e w' => ∃ v0_ : Value, e = .returned (.tuple #[v0_, .int .i64 r2]) ∧ Kd.R (Kd.int .i64) 3 w' w.heap.size (fun _ => True) v0_ r1 ∧ Below w.heap.size w w' := by
 have hu24 := Tryd.underlying24
 have HR1 := Aside0.mk hr1
 have HC1 := Aside0.mk hc1
 clear hr1 hc1
 have HB := Aside0.mk (Below.refl w.heap.size w)
 have H : ((rounding_total.f k l1).bind fun bt284 => ((rounding_valid.f a0).bind fun t286 => (if t286 = true then (rounding_Split.j0 k a0 l1 bt284.1 (!bt284.2)) else (rounding_Split.j0 k a0 l1 bt284.1 true)))) = some (r1, r2) := h
 clear h
 replace H := Option.bind_eq_some_iff.mp H
 obtain ⟨⟨t284, t285⟩, A30, H⟩ := H
 replace H : ((rounding_valid.f a0).bind fun t286 => (if t286 = true then (rounding_Split.j0 k a0 l1 t284 (!t285)) else (rounding_Split.j0 k a0 l1 t284 true))) = some (r1, r2) := H
 have A3 := Aside0.mk A30
 clear A30
 have HC4 := Aside0.mk H
 clear H
 go_enter Tryd.func24, Tryd.ntmps24
 go_upto_region 2 with (first | ((with_reducible refine gate_callee (f := 46) rfl ?_); refine goesL_ (some 23) rfl rfl Tryd.func46 (by kernel_rfl) rfl #[.slice A1 l1.length c1] rfl ql_ ?_; (with_reducible refine (rounding_total.calls k _ _ l1 t284 t285 _ ?side1 ?side2 A3.out).mono ?_); (case side1 => repeat (first | exact HR1.out | (with_reducible refine Kd.C_alloc ?_ _) | (with_reducible refine Kd.C_drewN ?_ _) | (with_reducible refine Kd.C_drew ?_))); (case side2 => exact HC1.out); rintro e w' ⟨rfl, ⟨nd, rfl⟩⟩; refine ⟨_, rfl, ?_⟩))
 (try simp only [Act.put, List.setIfInBounds_toArray, List.set_cons_zero, List.set_cons_succ])
 go_cut [32] (fun v32 wc => ∃ (kq : Nat) (x32_3 : Bool), v32 = .bool x32_3 ∧ Aside0 (rounding_Split.j0 kq a0 l1 t284 x32_3 = some (r1, r2)) ∧ Aside0 (kq ≤ k) ∧ Aside0 (Below w.heap.size w wc))
 case first =>
  have H := HC4.out
  clear HC4
  replace H := Option.bind_eq_some_iff.mp H
  obtain ⟨t286, A50, H⟩ := H
  replace H : (if t286 = true then (rounding_Split.j0 k a0 l1 t284 (!t285)) else (rounding_Split.j0 k a0 l1 t284 true)) = some (r1, r2) := H
  have A5 := Aside0.mk A50
  clear A50
  by_cases c6 : t286 = true
  ·subst c6
   have H1 : (rounding_Split.j0 k a0 l1 t284 (!t285)) = some (r1, r2) := by rw [if_pos rfl] at H; exact H
   clear H
   have H := H1
   clear H1
   have H' := Aside0.mk H
   clear H
   go_wp2_with (first | ((with_reducible refine gate_callee (f := 40) rfl ?_); refine goesL_ (some 27) rfl rfl Tryd.func40 (by kernel_rfl) rfl #[.int .i64 a0] rfl ql_ ?_; (with_reducible refine (rounding_valid.calls a0 true _ A5.out).mono ?_); rintro e w' ⟨rfl, ⟨nd, rfl⟩⟩; refine ⟨_, rfl, ?_⟩))
   go_meet
   case rel => exact ⟨_, (!t285), qs_, H', ⟨qo_⟩, ⟨qb_ HB.out⟩⟩
  ·replace c6 := Bool.eq_false_iff.mpr c6
   subst c6
   have H1 : (rounding_Split.j0 k a0 l1 t284 true) = some (r1, r2) := by rw [if_neg (show ¬ (false = true) by decide)] at H; exact H
   clear H
   have H := H1
   clear H1
   have H' := Aside0.mk H
   clear H
   go_wp2_with (first | ((with_reducible refine gate_callee (f := 40) rfl ?_); refine goesL_ (some 27) rfl rfl Tryd.func40 (by kernel_rfl) rfl #[.int .i64 a0] rfl ql_ ?_; (with_reducible refine (rounding_valid.calls a0 false _ A5.out).mono ?_); rintro e w' ⟨rfl, ⟨nd, rfl⟩⟩; refine ⟨_, rfl, ?_⟩))
   go_meet
   case rel => exact ⟨_, (true), qs_, H', ⟨qo_⟩, ⟨qb_ HB.out⟩⟩
 case rest =>
  clear HC4
  try clear c1
  try clear c2
  try clear p2
  try clear c4
  try clear c6
  obtain ⟨kq, x32_3, rfl, HA, HJ3, HB⟩ := hcut
  cases kq with
  | zero => exact absurd HA.out (by simp [rounding_Split.j0])
  | succ kj3 =>
   have H := HA.out
   clear HA
   simp only [rounding_Split.j0] at H
   by_cases c7 : x32_3 = true
   ·subst c7
    have H1 : (some (([] : List Int), 1)) = some (r1, r2) := by rw [if_pos rfl] at H; exact H
    clear H
    have H := H1
    clear H1
    simp only [Option.some.injEq, Prod.mk.injEq] at H
    obtain ⟨rfl, rfl⟩ := H
    go_wp2
    go_ret2
    exact ⟨_, qe_, by first | exact Kd.R_nil _ _ _ _ _ | exact Kd.N_nil _ _ _ _ _ | exact Kd.V_nil _ _ _ _ _ | exact Kd.Q_nil _ _ _ _ _ | exact Kd.S_nil _ _ _ _ _, qb_ HB.out⟩
   ·replace c7 := Bool.eq_false_iff.mpr c7
    subst c7
    have H1 : (if a0 < 0 then (rounding_Split.j1 kj3 a0 l1 t284 (-1)) else (rounding_Split.j1 kj3 a0 l1 t284 1)) = some (r1, r2) := by rw [if_neg (show ¬ (false = true) by decide)] at H; exact H
    clear H
    have H := H1
    clear H1
    have HC8 := Aside0.mk H
    clear H
    go_upto_if 34 with (fail)
    go_cut [8] (fun v8 wc => ∃ (kq : Nat) (x8_7 : Int), v8 = .int .i64 x8_7 ∧ Aside0 (rounding_Split.j1 kq a0 l1 t284 x8_7 = some (r1, r2)) ∧ Aside0 (kq ≤ kj3) ∧ Aside0 (Below w.heap.size w wc))
    case first =>
     have H := HC8.out
     clear HC8
     by_cases c9 : a0 < 0
     ·rw [if_pos c9] at H
      have c9b0 : decide (a0 < 0) = true := decide_eq_true c9
      clear c9
      (first | rw [c9b0] | (simp only [i64_w, i32_w]; rw [c9b0]) | skip)
      have H' := Aside0.mk H
      clear H
      go_wp2
      go_meet
      case rel => exact ⟨_, ((-1)), qs_, H', ⟨by have := HJ3.out; first | omega | exact Nat.le_refl _⟩, ⟨qb_ HB.out⟩⟩
     ·rw [if_neg c9] at H
      have c9b0 : decide (a0 < 0) = false := decide_eq_false c9
      clear c9
      (first | rw [c9b0] | (simp only [i64_w, i32_w]; rw [c9b0]) | skip)
      have H' := Aside0.mk H
      clear H
      go_wp2
      go_meet
      case rel => exact ⟨_, (1), qs_, H', ⟨by have := HJ3.out; first | omega | exact Nat.le_refl _⟩, ⟨qb_ HB.out⟩⟩
    case rest =>
     clear HC8
     try clear c1
     try clear c2
     try clear p2
     try clear c4
     try clear c6
     try clear c7
     try clear c9
     try clear c9b0
     try clear p2
     obtain ⟨kq, x8_7, rfl, HA, HJ7, HB⟩ := hcut
     cases kq with
     | zero => exact absurd HA.out (by simp [rounding_Split.j1])
     | succ kj7 =>
      have H := HA.out
      clear HA
      simp only [rounding_Split.j1] at H
      by_cases c10 : 0 ≤ (l1.length : Int)
      ·rw [if_pos c10] at H
       have c10b0 := eq_true c10
       have c10b1 : decide (0 ≤ (l1.length : Int)) = true := decide_eq_true c10
       clear c10
       by_cases c11 : ((l1.length : Int) : Int).toNat ≤ 35184372088832
       ·rw [if_pos c11] at H
        have c11b0 := eq_true c11
        have c11b1 : decide (((l1.length : Int) : Int).toNat ≤ 35184372088832) = true := decide_eq_true c11
        clear c11
        obtain ⟨y287, hy287⟩ : ∃ y_ : List Int, y_ = (List.replicate ((l1.length : Int) : Int).toNat 0) := ⟨_, rfl⟩
        replace H : (rounding_Split.l0 kj7 a0 t284 x8_7 (wrap64 (x8_7 * a0)) y287 (List.replicate ((l1.length : Int) : Int).toNat 0) l1 (l1.length : Int) 0) = some (r1, r2) := by first | (rw [hy287]; with_reducible exact H) | (have H2_ := (Option.bind_some _ _).symm.trans H; rw [hy287]; with_reducible exact H2_) | (have H2_ := (Option.bind_some _ _).symm.trans H; with_reducible exact H2_) | with_reducible exact H | (rw [hy287]; exact H) | exact H
        have Ny287 := Aside0.mk hy287
        clear hy287
        obtain ⟨y290, hy290⟩ : ∃ y_ : List Int, y_ = (List.replicate ((l1.length : Int) : Int).toNat 0) := ⟨_, rfl⟩
        replace H : (rounding_Split.l0 kj7 a0 t284 x8_7 (wrap64 (x8_7 * a0)) y287 y290 l1 (l1.length : Int) 0) = some (r1, r2) := by first | (rw [hy290]; with_reducible exact H) | (have H2_ := (Option.bind_some _ _).symm.trans H; rw [hy290]; with_reducible exact H2_) | (have H2_ := (Option.bind_some _ _).symm.trans H; with_reducible exact H2_) | with_reducible exact H | (rw [hy290]; exact H) | exact H
        have Ny290 := Aside0.mk hy290
        clear hy290
        have H' := Aside0.mk H
        clear H
        try go_wp2
        have n0_ := Aside0.mk (below_drew1 HB.out)
        clear HB
        have HB := n0_
        clear n0_
        refine start_ (n := 8) (S := fun w' => True) (ds := []) (nb_ 8 0) (by kernel_rfl) rfl rfl trivial (fun hHeld => ?_); refine with_tabW rounding_Split.tab8 rounding_Split.bits8 (fun HT_ HW_ => ?_)
        generalize wc.drew = w12 at HB hHeld ⊢
        refine pz_ 0 38 (nb_ 8 1) HT_.out ?_
        refine pz_ 1 39 (nb_ 8 3) HT_.out ?_
        refine pz_ 3 41 (nb_ 8 11) HT_.out ?_
        refine pz_ 4 42 (nb_ 8 27) HT_.out ?_
        refine join_ (σ := Value × Value) 1 (nb_ 8 127) (fun s_ => [(40, s_.1), (43, s_.2), (10, s_.1)]) (fun s_ w' => (Kd.R (Kd.int .i64) 3 w' w.heap.size (fun k_ => some k_ ≠ (s_.2 : Value).ownBlock) s_.1 y287) ∧ (Kd.R (Kd.int .i64) 3 w' w.heap.size (fun k_ => some k_ ≠ (s_.1 : Value).ownBlock) s_.2 y290) ∧ (Below w.heap.size w w')) ?_ ?_
        rotate_left
        ·intro hCont
         refine two_ (i := 2) (j := 5) (Ni := some 40) (Nj := some 43) (nb_ 8 31) (nb_ 8 59) rfl rfl rfl rfl (two_of HT_.out (by kernel_rfl)) (by decide) (by decide) (fun K hK => ?_) (fun K hK => ?_)
         ·skip
          refine Kd.R_make_step (Kd.int .i64) _ 3 (by rfl) (N := 40) rfl 41 _ _ rfl (l1.length : Int) rfl rfl Tryd.underlying41 (.int .i64 0) 8 info3 rfl (by decide) (by omega) 0 (ok := fun _ => True) (okp := fun _ => True) rfl (fun _ hk => hk) trivial (of_decide_eq_true (by first | (with_reducible assumption) | assumption)) (Nat.le_trans (Nat.mul_le_mul_right _ (of_decide_eq_true (by first | (with_reducible assumption) | assumption) : (l1.length : Int).toNat ≤ 35184372088832)) (by omega)) (Below.refl _ _) (Nat.le_refl _) ?_
          intro v288 w13 ho14 hb hg_ hnew_
          clear hg_ hnew_
          (first | rw [← Ny287.out] at ho14 | (simp only [Int.reduceToNat] at ho14; rw [← Ny287.out] at ho14))
          have n0_ := Aside0.mk (Kd.R_lower ho14 (below_size (qb_ HB.out)))
          have n1_ := Aside0.mk (below_step (qb_ HB.out) hb)
          clear HB
          have HO289 := n0_
          have HB := n1_
          clear n0_ n1_
          clear hb ho14
          refine hK.out _ _ trivial (fun hHeld => ?_)
          clear hK K
          refine no_ ?_
          refine pz_ 6 10 (nb_ 8 95) HT_.out ?_
          refine on_ 5 43 (nb_ 8 127) HT_.out (fun K hK => ?_)
          refine Kd.R_make_step (Kd.int .i64) _ 3 (by rfl) (N := 43) rfl 41 _ _ rfl (l1.length : Int) rfl rfl Tryd.underlying41 (.int .i64 0) 8 info3 rfl (by decide) (by omega) 0 (ok := fun _ => True) (okp := fun _ => True) rfl (fun _ hk => hk) trivial (of_decide_eq_true (by first | (with_reducible assumption) | assumption)) (Nat.le_trans (Nat.mul_le_mul_right _ (of_decide_eq_true (by first | (with_reducible assumption) | assumption) : (l1.length : Int).toNat ≤ 35184372088832)) (by omega)) (Below.refl _ _) (Nat.le_refl _) ?_
          intro v291 w15 ho16 hb hg_ hnew_
          clear hg_ hnew_
          (first | rw [← Ny290.out] at ho16 | (simp only [Int.reduceToNat] at ho16; rw [← Ny290.out] at ho16))
          have n0_ := Aside0.mk (Kd.R_elder' (by (with_reducible repeat (first | apply Kd.R_alloc | apply Kd.R_drewN | apply Kd.R_drew)); exact HO289.out) (Kd.R_base ho16) hb)
          have n1_ := Aside0.mk (Kd.R_lower (Kd.R_new' ho16 (Kd.R_lt (by (with_reducible repeat (first | apply Kd.R_alloc | apply Kd.R_drewN | apply Kd.R_drew)); exact HO289.out))) (below_size (qb_ HB.out)))
          have n2_ := Aside0.mk (below_step (qb_ HB.out) hb)
          clear HO289
          clear HB
          have HO289 := n0_
          have HO292 := n1_
          have HB := n2_
          clear n0_ n1_ n2_
          clear hb ho16
          refine hK.out _ _ trivial (fun hHeld => ?_)
          clear hK K
          refine no_ ?_
          exact norm_ (by simp only [putAll, Act.put, List.setIfInBounds_toArray, List.set_cons_zero, List.set_cons_succ]) (hCont (v288, v291) _ ⟨(by (with_reducible repeat (first | apply Kd.R_alloc | apply Kd.R_drewN | apply Kd.R_drew)); exact Kd.R_mono HO289.out (fun _ hk => hk.2)), (by (with_reducible repeat (first | apply Kd.R_alloc | apply Kd.R_drewN | apply Kd.R_drew)); exact Kd.R_mono HO292.out (fun _ hk => hk.2)), (qb_ HB.out)⟩)
         ·skip
          refine Kd.R_make_step (Kd.int .i64) _ 3 (by rfl) (N := 43) rfl 41 _ _ rfl (l1.length : Int) rfl rfl Tryd.underlying41 (.int .i64 0) 8 info3 rfl (by decide) (by omega) 0 (ok := fun _ => True) (okp := fun _ => True) rfl (fun _ hk => hk) trivial (of_decide_eq_true (by first | (with_reducible assumption) | assumption)) (Nat.le_trans (Nat.mul_le_mul_right _ (of_decide_eq_true (by first | (with_reducible assumption) | assumption) : (l1.length : Int).toNat ≤ 35184372088832)) (by omega)) (Below.refl _ _) (Nat.le_refl _) ?_
          intro v291 w13 ho14 hb hg_ hnew_
          clear hg_ hnew_
          (first | rw [← Ny290.out] at ho14 | (simp only [Int.reduceToNat] at ho14; rw [← Ny290.out] at ho14))
          have n0_ := Aside0.mk (Kd.R_lower ho14 (below_size (qb_ HB.out)))
          have n1_ := Aside0.mk (below_step (qb_ HB.out) hb)
          clear HB
          have HO292 := n0_
          have HB := n1_
          clear n0_ n1_
          clear hb ho14
          refine hK.out _ _ trivial (fun hHeld => ?_)
          clear hK K
          refine no_ ?_
          refine on_ 2 40 (nb_ 8 63) HT_.out (fun K hK => ?_)
          refine Kd.R_make_step (Kd.int .i64) _ 3 (by rfl) (N := 40) rfl 41 _ _ rfl (l1.length : Int) rfl rfl Tryd.underlying41 (.int .i64 0) 8 info3 rfl (by decide) (by omega) 0 (ok := fun _ => True) (okp := fun _ => True) rfl (fun _ hk => hk) trivial (of_decide_eq_true (by first | (with_reducible assumption) | assumption)) (Nat.le_trans (Nat.mul_le_mul_right _ (of_decide_eq_true (by first | (with_reducible assumption) | assumption) : (l1.length : Int).toNat ≤ 35184372088832)) (by omega)) (Below.refl _ _) (Nat.le_refl _) ?_
          intro v288 w15 ho16 hb hg_ hnew_
          clear hg_ hnew_
          (first | rw [← Ny287.out] at ho16 | (simp only [Int.reduceToNat] at ho16; rw [← Ny287.out] at ho16))
          have n0_ := Aside0.mk (Kd.R_elder' (by (with_reducible repeat (first | apply Kd.R_alloc | apply Kd.R_drewN | apply Kd.R_drew)); exact HO292.out) (Kd.R_base ho16) hb)
          have n1_ := Aside0.mk (Kd.R_lower (Kd.R_new' ho16 (Kd.R_lt (by (with_reducible repeat (first | apply Kd.R_alloc | apply Kd.R_drewN | apply Kd.R_drew)); exact HO292.out))) (below_size (qb_ HB.out)))
          have n2_ := Aside0.mk (below_step (qb_ HB.out) hb)
          clear HO292
          clear HB
          have HO292 := n0_
          have HO289 := n1_
          have HB := n2_
          clear n0_ n1_ n2_
          clear hb ho16
          refine hK.out _ _ trivial (fun hHeld => ?_)
          clear hK K
          refine no_ ?_
          refine pz_ 6 10 (nb_ 8 127) HT_.out ?_
          exact norm_ (by simp only [putAll, Act.put, List.setIfInBounds_toArray, List.set_cons_zero, List.set_cons_succ]) (hCont (v288, v291) _ ⟨(by (with_reducible repeat (first | apply Kd.R_alloc | apply Kd.R_drewN | apply Kd.R_drew)); exact Kd.R_mono HO289.out (fun _ hk => hk.2)), (by (with_reducible repeat (first | apply Kd.R_alloc | apply Kd.R_drewN | apply Kd.R_drew)); exact Kd.R_mono HO292.out (fun _ hk => hk.2)), (qb_ HB.out)⟩)
        rintro ⟨v288, v291⟩ w17 ⟨h0_, h1_, h2_⟩
        have n0_ : Aside0 (Kd.R (Kd.int .i64) 3 w17 w.heap.size (fun k_ => some k_ ≠ (v291 : Value).ownBlock) v288 y287) := ⟨h0_⟩
        have n1_ : Aside0 (Kd.R (Kd.int .i64) 3 w17 w.heap.size (fun k_ => some k_ ≠ (v288 : Value).ownBlock) v291 y290) := ⟨h1_⟩
        have n2_ : Aside0 (Below w.heap.size w w17) := ⟨h2_⟩
        clear HB
        clear h0_ h1_ h2_
        have HO289 := n0_
        have HO292 := n1_
        have HB := n2_
        clear n0_ n1_ n2_
        have hHeld := trivial
        refine norm_ (a' := ?_) ?_ ?_
        rotate_left
        ·simp only [putAll, Act.put, List.setIfInBounds_toArray, List.set_cons_zero, List.set_cons_succ]
         rfl
        refine pz_ 7 11 (nb_ 8 255) HT_.out ?_
        refine done_ (done_of HT_.out (by kernel_rfl)) ?_
        try go_wp2
        go_loopg [9, 46] kj7 (fun kq v9 v46 w' => ∃ (x9_3 : Int) (x10_3 : List Int) (x11_3 : List Int) (x46_3 : Int), v9 = .int .i64 x9_3 ∧ v46 = .int .i64 x46_3 ∧ Aside0 (rounding_Split.l0 kq a0 t284 x8_7 x9_3 x10_3 x11_3 l1 (l1.length : Int) x46_3 = some (r1, r2)) ∧ Aside0 (kq ≤ kj7) ∧ Aside0 (Kd.R (Kd.int .i64) 3 w' w.heap.size (fun k_ => some k_ ≠ (v291 : Value).ownBlock) v288 x10_3) ∧ Aside0 (Kd.R (Kd.int .i64) 3 w' w.heap.size (fun k_ => some k_ ≠ (v288 : Value).ownBlock) v291 x11_3) ∧ Aside0 (Below w.heap.size w w'))
        case atStart => exact ⟨(wrap64 (x8_7 * a0)), (y287), (y290), (0), qs_, qs_, H', ⟨Nat.le_refl _⟩, ⟨by (with_reducible repeat (first | apply Kd.R_alloc | apply Kd.R_drewN | apply Kd.R_drew)); exact HO289.out⟩, ⟨by (with_reducible repeat (first | apply Kd.R_alloc | apply Kd.R_drewN | apply Kd.R_drew)); exact HO292.out⟩, ⟨qb_ HB.out⟩⟩
        case round =>
         clear H'
         try clear c1
         try clear c2
         try clear p2
         try clear c4
         try clear c6
         try clear p6
         try clear c7
         try clear c9
         try clear c9b0
         try clear c10
         try clear c10b0
         try clear c10b1
         try clear c11
         try clear c11b0
         try clear c11b1
         try clear p2
         obtain ⟨x9_3, x10_3, x11_3, x46_3, rfl, rfl, HA, HK3, HO_10, HO_11, HB⟩ := hrel
         cases gk with
         | zero => exact absurd HA.out (by simp [rounding_Split.l0])
         | succ k3 =>
          have H := HA.out
          clear HA
          simp only [rounding_Split.l0] at H
          by_cases c18 : x46_3 < (l1.length : Int)
          ·rw [if_pos c18] at H
           have c18b0 : decide (x46_3 < (l1.length : Int)) = true := decide_eq_true c18
           clear c18
           by_cases c19 : 0 ≤ x46_3
           ·rw [if_pos c19] at H
            have c19b0 : decide (0 ≤ x46_3) = true := decide_eq_true c19
            clear c19
            by_cases c20 : x46_3 < (l1.length : Int)
            ·rw [if_pos c20] at H
             have c20b0 : decide (x46_3 < (l1.length : Int)) = true := decide_eq_true c20
             clear c20
             replace H := Option.bind_eq_some_iff.mp H
             obtain ⟨⟨t294, t295⟩, A210, H⟩ := H
             replace H : ((wide_Div.f t294 t295 t284).bind fun bt296 => ((wide_Int.f bt296.1 bt296.2.1).bind fun bt301 => (if x46_3 < (x10_3.length : Int) then ((some (x10_3.set (x46_3 : Int).toNat bt301.1 : List Int)).bind fun y303 => (if x46_3 < (x11_3.length : Int) then (rounding_Split.l0 k3 a0 t284 x8_7 (wrap64 (x9_3 - (rd y303 x46_3))) y303 (x11_3.set (x46_3 : Int).toNat bt296.2.2.1) l1 (l1.length : Int) (wrap64 (x46_3 + 1))) else (none))) else (none)))) = some (r1, r2) := H
             have A21 := Aside0.mk A210
             clear A210
             replace H := Option.bind_eq_some_iff.mp H
             obtain ⟨⟨t296, t297, t298, t299⟩, A220, H⟩ := H
             replace H : ((wide_Int.f t296 t297).bind fun bt301 => (if x46_3 < (x10_3.length : Int) then ((some (x10_3.set (x46_3 : Int).toNat bt301.1 : List Int)).bind fun y303 => (if x46_3 < (x11_3.length : Int) then (rounding_Split.l0 k3 a0 t284 x8_7 (wrap64 (x9_3 - (rd y303 x46_3))) y303 (x11_3.set (x46_3 : Int).toNat t298) l1 (l1.length : Int) (wrap64 (x46_3 + 1))) else (none))) else (none))) = some (r1, r2) := H
             have A22 := Aside0.mk A220
             clear A220
             replace H := Option.bind_eq_some_iff.mp H
             obtain ⟨⟨t301, t302⟩, A230, H⟩ := H
             replace H : (if x46_3 < (x10_3.length : Int) then ((some (x10_3.set (x46_3 : Int).toNat t301 : List Int)).bind fun y303 => (if x46_3 < (x11_3.length : Int) then (rounding_Split.l0 k3 a0 t284 x8_7 (wrap64 (x9_3 - (rd y303 x46_3))) y303 (x11_3.set (x46_3 : Int).toNat t298) l1 (l1.length : Int) (wrap64 (x46_3 + 1))) else (none))) else (none)) = some (r1, r2) := H
             have A23 := Aside0.mk A230
             clear A230
             by_cases c24 : x46_3 < (x10_3.length : Int)
             ·rw [if_pos c24] at H
              have c24b0 : decide (x46_3 < (x10_3.length : Int)) = true := decide_eq_true c24
              clear c24
              obtain ⟨y303, hy303⟩ : ∃ y_ : List Int, y_ = (x10_3.set (x46_3 : Int).toNat t301) := ⟨_, rfl⟩
              replace H : (if x46_3 < (x11_3.length : Int) then (rounding_Split.l0 k3 a0 t284 x8_7 (wrap64 (x9_3 - (rd y303 x46_3))) y303 (x11_3.set (x46_3 : Int).toNat t298) l1 (l1.length : Int) (wrap64 (x46_3 + 1))) else (none)) = some (r1, r2) := by first | (rw [hy303]; with_reducible exact H) | (have H2_ := (Option.bind_some _ _).symm.trans H; rw [hy303]; with_reducible exact H2_) | (have H2_ := (Option.bind_some _ _).symm.trans H; with_reducible exact H2_) | with_reducible exact H | (rw [hy303]; exact H) | exact H
              have Ny303 := Aside0.mk hy303
              clear hy303
              by_cases c26 : x46_3 < (x11_3.length : Int)
              ·rw [if_pos c26] at H
               have c26b0 : decide (x46_3 < (x11_3.length : Int)) = true := decide_eq_true c26
               clear c26
               obtain ⟨y304, hy304⟩ : ∃ y_ : List Int, y_ = (x11_3.set (x46_3 : Int).toNat t298) := ⟨_, rfl⟩
               replace H : (rounding_Split.l0 k3 a0 t284 x8_7 (wrap64 (x9_3 - (rd y303 x46_3))) y303 y304 l1 (l1.length : Int) (wrap64 (x46_3 + 1))) = some (r1, r2) := by first | (rw [hy304]; with_reducible exact H) | (have H2_ := (Option.bind_some _ _).symm.trans H; rw [hy304]; with_reducible exact H2_) | (have H2_ := (Option.bind_some _ _).symm.trans H; with_reducible exact H2_) | with_reducible exact H | (rw [hy304]; exact H) | exact H
               have Ny304 := Aside0.mk hy304
               clear hy304
               have H' := Aside0.mk H
               clear H
               have p293 : 0 ≤ (x46_3 : Int) := of_decide_eq_true (by first | (with_reducible assumption) | assumption)
               have q293 : x46_3 < (l1.length : Int) := of_decide_eq_true (by first | (with_reducible assumption) | assumption)
               obtain ⟨ad293, e293, hx293_0⟩ := Kd.at_int HR1.out x46_3 p293 q293
               cases e293
               replace hx293_0 := (HB.out.cell (World.block_lt_of_cell? w _ hx293_0)).trans hx293_0
               replace p293 := eq_true p293
               replace q293 := eq_true q293
               go_wp2_with (first | ((with_reducible refine gate_callee (f := 42) rfl ?_); refine goesL_ (some 56) rfl rfl Tryd.func42 (by kernel_rfl) rfl #[.int .i64 (wrap64 (x8_7 * a0)), .int .i64 (rd l1 x46_3)] rfl ql_ ?_; (with_reducible refine (wide_Mul.calls (wrap64 (x8_7 * a0)) (rd l1 x46_3) t294 t295 _ A21.out).mono ?_); rintro e w28 ⟨rfl, hb⟩; refine ⟨_, rfl, ?_⟩; have n0_ := Aside0.mk (Kd.R_below (by (with_reducible repeat (first | apply Kd.R_alloc | apply Kd.R_drewN | apply Kd.R_drew)); exact HO_10.out) hb); have n1_ := Aside0.mk (Kd.R_below (by (with_reducible repeat (first | apply Kd.R_alloc | apply Kd.R_drewN | apply Kd.R_drew)); exact HO_11.out) hb); have n2_ := Aside0.mk (below_step (qb_ HB.out) hb); clear HO_10; clear HO_11; clear HB; have HO_10 := n0_; have HO_11 := n1_; have HB := n2_; clear n0_ n1_ n2_; (try clear hb); (try clear hb2); (try clear hk); (try clear hi)) | ((with_reducible refine gate_callee (f := 34) rfl ?_); refine goesL_ (some 58) rfl rfl Tryd.func34 (by kernel_rfl) rfl #[.agg #[.int .i64 t294, .int .u64 t295], .int .i64 t284] rfl ql_ ?_; (with_reducible refine (wide_Div.calls t294 t295 t284 t296 t297 t298 t299 _ A22.out).mono ?_); rintro e w29 ⟨rfl, hb⟩; refine ⟨_, rfl, ?_⟩; have n0_ := Aside0.mk (Kd.R_below (by (with_reducible repeat (first | apply Kd.R_alloc | apply Kd.R_drewN | apply Kd.R_drew)); exact HO_10.out) hb); have n1_ := Aside0.mk (Kd.R_below (by (with_reducible repeat (first | apply Kd.R_alloc | apply Kd.R_drewN | apply Kd.R_drew)); exact HO_11.out) hb); have n2_ := Aside0.mk (below_step (qb_ HB.out) hb); clear HO_10; clear HO_11; clear HB; have HO_10 := n0_; have HO_11 := n1_; have HB := n2_; clear n0_ n1_ n2_; (try clear hb); (try clear hb2); (try clear hk); (try clear hi)) | ((with_reducible refine gate_dst (N := 14) rfl ?_); refine be_ (N := 14) (cs := #[.int .i64 0, .int .u64 0]) (t := 24) ?_; intro gb300 hg w30 hbox hb; have n0_ := Aside0.mk (Kd.R_below (by (with_reducible repeat (first | apply Kd.R_alloc | apply Kd.R_drewN | apply Kd.R_drew)); exact HO_10.out) hb); have n1_ := Aside0.mk (Kd.R_below (by (with_reducible repeat (first | apply Kd.R_alloc | apply Kd.R_drewN | apply Kd.R_drew)); exact HO_11.out) hb); have n2_ := Aside0.mk (below_step (qb_ HB.out) hb); have n3_ := Aside0.mk (hbox); have n4_ := Aside0.mk (bz_ hg (qb_ HB.out) : w.heap.size ≤ gb300); have n5_ := n4_; clear HO_10; clear HO_11; clear HB; have HO_10 := n0_; have HO_11 := n1_; have HB := n2_; have BK300 := n3_; have GW300 := n4_; have GE300 := n5_; clear n0_ n1_ n2_ n3_ n4_ n5_; clear hb hbox hg; have hcz31_0 : w30.cell? ⟨gb300, 0, none⟩ = some (.int .i64 0) := (blk_cell BK300.out 0).trans rfl; have hcz31_1 : w30.cell? ⟨gb300, 1, none⟩ = some (.int .u64 0) := (blk_cell BK300.out 1).trans rfl; have hfz31_0 := blk_frozen BK300.out 0; have hfz31_1 := blk_frozen BK300.out 1) | ((with_reducible refine gate_callee (f := 38) rfl ?_); refine goesL_ (some 66) rfl rfl Tryd.func38 (by kernel_rfl) rfl #[.agg #[.int .i64 t296, .int .u64 t297]] rfl ql_ ?_; (with_reducible refine (wide_Int.calls t296 t297 t301 t302 _ A23.out).mono ?_); rintro e w32 ⟨rfl, hb⟩; refine ⟨_, rfl, ?_⟩; have n0_ := Aside0.mk (Kd.R_below (by (with_reducible repeat (first | apply Kd.R_alloc | apply Kd.R_drewN | apply Kd.R_drew)); exact (Kd.R_mono (Kd.R_far (p := ⟨gb300, 1, none⟩) (Kd.R_far (p := ⟨gb300, 0, none⟩) (Kd.R_types HO_10.out BK300.out (by decide)) (fun _ hk => hk.2) (.int .i64 t296)) (fun _ hk => hk.2) (.int .u64 t297)) (fun _ h_ => h_.1))) hb); have n1_ := Aside0.mk (Kd.R_below (by (with_reducible repeat (first | apply Kd.R_alloc | apply Kd.R_drewN | apply Kd.R_drew)); exact (Kd.R_mono (Kd.R_far (p := ⟨gb300, 1, none⟩) (Kd.R_far (p := ⟨gb300, 0, none⟩) (Kd.R_types HO_11.out BK300.out (by decide)) (fun _ hk => hk.2) (.int .i64 t296)) (fun _ hk => hk.2) (.int .u64 t297)) (fun _ h_ => h_.1))) hb); have n2_ := Aside0.mk (blk_below (g := gb300) (o := .cells #[.int .i64 t296, .int .u64 t297] 24 (0, 0)) (qpp_ #[.int .i64 t296, .int .u64 0] 1 #[.int .i64 0, .int .u64 0] 0 BK300.out) hb); have n3_ := Aside0.mk (below_step (qb1_ GE300.out HB.out) hb); clear HO_10; clear HO_11; clear BK300; clear HB; have HO_10 := n0_; have HO_11 := n1_; have BK300 := n2_; have HB := n3_; clear n0_ n1_ n2_ n3_; (try clear hb); (try clear hb2); (try clear hk); (try clear hi); have p25 : 0 ≤ (x46_3 : Int) := of_decide_eq_true (by first | (with_reducible assumption) | assumption); have q25 : (x46_3 : Int) < ((x10_3.length : Int) : Int) := of_decide_eq_true (by first | (with_reducible assumption) | assumption); obtain ⟨go25, co25, eo25, gb25, gl25, cl25, HG25⟩ := Kd.R_form HO_10.out (by omega); (first | cases eo25 | (injection eo25 with ea_ en_ ec_; (first | subst ea_ | (injection ea_ with ea_; subst ea_)); subst ec_; clear en_)); have GB25 := Aside0.mk gb25; have GG25 := Aside0.mk HG25; clear gb25 gl25 HG25; obtain ⟨hx25_0, hf25_0⟩ := Kd.R_celln 0 HO_10.out (x46_3 : Int) p25 q25; replace p25 := eq_true p25; replace q25 := eq_true q25; obtain ⟨hy33_, hz33_⟩ := Kd.R_celln 0 HO_10.out (x46_3 : Int) (of_decide_eq_true (by first | (with_reducible assumption) | assumption)) (of_decide_eq_true (by first | (with_reducible assumption) | assumption)); have HP33 := Kd.R_putg HO_10.out (x46_3 : Int) t301) | ((with_reducible refine gate_store (t := 3) (p := 69) rfl ?_); refine store_event (t := 3) (p := 69) (v := ?vo_w34) (w1 := (w32.setCell ⟨go25, (x46_3 : Int).toNat, none⟩ (.int .i64 t301))) ?hg ?ho ?hn ?hr ?_; (case ho => rfl); (case hg => rfl); (case hn => rfl); (case hr => first | (go_simp; done) | (go_simp; rfl)); intro w34 hw; have hg : w32.grownBy w34 (some go25) := (by rw [hw]; exact HP33.2); have hp_ : Kd.R (Kd.int .i64) 3 w34 w.heap.size (fun k_ => some k_ ≠ (v291 : Value).ownBlock) (.slice (some ⟨go25, 0, none⟩) x10_3.length co25) y303 := (by rw [hw, Ny303.out]; exact HP33.1); clear HP33; have n0_ := Aside0.mk (hp_); have n1_ := Aside0.mk (Kd.R_after (v := (.slice (some ⟨go25, 0, none⟩) x10_3.length co25)) (v1 := (.slice (some ⟨go25, 0, none⟩) x10_3.length co25)) (ok := (fun _ => True)) (by (with_reducible repeat (first | apply Kd.R_alloc | apply Kd.R_drewN | apply Kd.R_drew)); exact Kd.R_mono HO_11.out (fun _ hk => ⟨trivial, hk⟩)) hg (.inl rfl)); have n2_ := Aside0.mk (blk_grown (g := gb300) (o := .cells #[.int .i64 t296, .int .u64 t297] 24 (0, 0)) (qk_ BK300.out) hg (Kd.R_ne HO_10.out BK300.out (by decide))); have n3_ := Aside0.mk ((by rw [hw]; exact below_set (HB.out) GB25.out : Below w.heap.size w w34)); clear HO_10; clear HO_11; clear BK300; clear HB; have HO_10 := n0_; have HO_11 := n1_; have BK300 := n2_; have HB := n3_; clear n0_ n1_ n2_ n3_; clear hg hw hp_; have p27 : 0 ≤ (x46_3 : Int) := of_decide_eq_true (by first | (with_reducible assumption) | assumption); have q27 : (x46_3 : Int) < ((x11_3.length : Int) : Int) := of_decide_eq_true (by first | (with_reducible assumption) | assumption); obtain ⟨go27, co27, eo27, gb27, gl27, cl27, HG27⟩ := Kd.R_form HO_11.out (by omega); (first | cases eo27 | (injection eo27 with ea_ en_ ec_; (first | subst ea_ | (injection ea_ with ea_; subst ea_)); subst ec_; clear en_)); have GB27 := Aside0.mk gb27; have GG27 := Aside0.mk HG27; clear gb27 gl27 HG27; obtain ⟨hx27_0, hf27_0⟩ := Kd.R_celln 0 HO_11.out (x46_3 : Int) p27 q27; replace p27 := eq_true p27; replace q27 := eq_true q27; have n_ := Aside0.mk (Kd.R_mono (ok' := (fun k_ => some k_ ≠ (.slice (some ⟨go25, 0, none⟩) x10_3.length co25 : Value).ownBlock)) HO_11.out (fun k_ hk => hk.2)); clear HO_11; have HO_11 := n_; clear n_; obtain ⟨hy35_, hz35_⟩ := Kd.R_celln 0 HO_11.out (x46_3 : Int) (of_decide_eq_true (by first | (with_reducible assumption) | assumption)) (of_decide_eq_true (by first | (with_reducible assumption) | assumption)); have HP35 := Kd.R_putg HO_11.out (x46_3 : Int) t298) | ((with_reducible refine gate_store (t := 3) (p := 73) rfl ?_); refine store_event (t := 3) (p := 73) (v := ?vo_w36) (w1 := (w34.setCell ⟨go27, (x46_3 : Int).toNat, none⟩ (.int .i64 t298))) ?hg ?ho ?hn ?hr ?_; (case ho => rfl); (case hg => rfl); (case hn => rfl); (case hr => first | (go_simp; done) | (go_simp; rfl)); intro w36 hw; have hg : w34.grownBy w36 (some go27) := (by rw [hw]; exact HP35.2); have hp_ : Kd.R (Kd.int .i64) 3 w36 w.heap.size (fun k_ => some k_ ≠ (.slice (some ⟨go25, 0, none⟩) x10_3.length co25 : Value).ownBlock) (.slice (some ⟨go27, 0, none⟩) x11_3.length co27) y304 := (by rw [hw, Ny304.out]; exact HP35.1); clear HP35; have n0_ := Aside0.mk (Kd.R_after (v := (.slice (some ⟨go27, 0, none⟩) x11_3.length co27)) (v1 := (.slice (some ⟨go27, 0, none⟩) x11_3.length co27)) (ok := (fun _ => True)) (by (with_reducible repeat (first | apply Kd.R_alloc | apply Kd.R_drewN | apply Kd.R_drew)); exact Kd.R_mono HO_10.out (fun _ hk => ⟨trivial, hk⟩)) hg (.inl rfl)); have n1_ := Aside0.mk (hp_); have n2_ := Aside0.mk (blk_grown (g := gb300) (o := .cells #[.int .i64 t296, .int .u64 t297] 24 (0, 0)) (qk_ BK300.out) hg (Kd.R_ne HO_11.out BK300.out (by decide))); have n3_ := Aside0.mk ((by rw [hw]; exact below_set (HB.out) GB27.out : Below w.heap.size w w36)); clear HO_10; clear HO_11; clear BK300; clear HB; have HO_10 := n0_; have HO_11 := n1_; have BK300 := n2_; have HB := n3_; clear n0_ n1_ n2_ n3_; clear hg hw hp_; have p305 : 0 ≤ (x46_3 : Int) := of_decide_eq_true (by first | (with_reducible assumption) | assumption); have q305 : x46_3 < (y303.length : Int) := (by have h_ : (x46_3 : Int) < ((x10_3.length : Int) : Int) := of_decide_eq_true (by first | (with_reducible assumption) | assumption); first | (have e_ := (Kd.R_reads' HO_10.out).1; omega) | simpa only [Ny303.out, List.length_set] using h_); have ql305 : ((x46_3 : Int) < ((x10_3.length : Int) : Int)) = True := eq_true (of_decide_eq_true (by first | (with_reducible assumption) | assumption)); obtain ⟨ad305, e305, hx305_0⟩ := Kd.at_int (Kd.R_reads' HO_10.out).2.2 x46_3 p305 q305; obtain rfl : (⟨go25, 0, none⟩ : Addr) = ad305 := (by injection e305); (first | simp only [add_plain] at hx305_0 | simp only [add_at] at hx305_0 | simp only [Addr.add, Nat.zero_add] at hx305_0 | skip); replace p305 := eq_true p305; replace q305 := eq_true q305))
               go_roundg k3
               case measure => have := HJ3.out; have := HJ7.out; have := HK3.out; omega
               case rel => exact ⟨(wrap64 (x9_3 - (rd y303 x46_3))), (y303), (y304), (wrap64 (x46_3 + 1)), qs_, qs_, H', ⟨by have := HJ3.out; have := HJ7.out; have := HK3.out; omega⟩, ⟨by (with_reducible repeat (first | apply Kd.R_alloc | apply Kd.R_drewN | apply Kd.R_drew)); exact Kd.R_mono HO_10.out (fun _ hk => hk.2)⟩, ⟨by (with_reducible repeat (first | apply Kd.R_alloc | apply Kd.R_drewN | apply Kd.R_drew)); exact HO_11.out⟩, ⟨qb1_ GE300.out HB.out⟩⟩
              ·rw [if_neg c26] at H
               exact absurd H (by simp)
             ·rw [if_neg c24] at H
              exact absurd H (by simp)
            ·rw [if_neg c20] at H
             exact absurd H (by simp)
           ·rw [if_neg c19] at H
            exact absurd H (by simp)
          ·rw [if_neg c18] at H
           have c18b0 : decide (x46_3 < (l1.length : Int)) = false := decide_eq_false c18
           clear c18
           have H' := Aside0.mk H
           clear H
           go_wp2
           go_loopg [9] k3 (fun kq v9 w' => ∃ (x9_4 : Int) (x10_4 : List Int) (x11_4 : List Int), v9 = .int .i64 x9_4 ∧ Aside0 (rounding_Split.l1 kq x8_7 x9_4 x10_4 x11_4 = some (r1, r2)) ∧ Aside0 (kq ≤ k3) ∧ Aside0 (Kd.R (Kd.int .i64) 3 w' w.heap.size (fun k_ => some k_ ≠ (v291 : Value).ownBlock) v288 x10_4) ∧ Aside0 (Kd.R (Kd.int .i64) 3 w' w.heap.size (fun k_ => some k_ ≠ (v288 : Value).ownBlock) v291 x11_4) ∧ Aside0 (Below w.heap.size w w'))
           case atStart => exact ⟨(x9_3), (x10_3), (x11_3), qs_, H', ⟨Nat.le_refl _⟩, ⟨by (with_reducible repeat (first | apply Kd.R_alloc | apply Kd.R_drewN | apply Kd.R_drew)); exact HO_10.out⟩, ⟨by (with_reducible repeat (first | apply Kd.R_alloc | apply Kd.R_drewN | apply Kd.R_drew)); exact HO_11.out⟩, ⟨qb_ HB.out⟩⟩
           case round =>
            clear H'
            try clear c1
            try clear c2
            try clear p2
            try clear q2
            try clear hx2
            try clear hf2
            try clear c3
            try clear p3
            try clear q3
            try clear hx3
            try clear c4
            try clear c6
            try clear p6
            try clear c7
            try clear c9
            try clear c9b0
            try clear c10
            try clear c10b0
            try clear c10b1
            try clear c11
            try clear c11b0
            try clear c11b1
            try clear c18
            try clear c18b0
            try clear c19
            try clear c19b0
            try clear c20
            try clear c20b0
            try clear c24
            try clear c24b0
            try clear p25
            try clear q25
            try clear hx25
            try clear hf25
            try clear c26
            try clear c26b0
            try clear p27
            try clear q27
            try clear hx27
            try clear hf27
            try clear p29
            try clear q29
            try clear hx29
            try clear p30
            try clear q30
            try clear hx30
            try clear c34
            try clear hcz31_0
            try clear hcz31_1
            try clear hfz31_0
            try clear hfz31_1
            try clear hx25_0
            try clear hx27_0
            try clear hx293_0
            try clear hx305_0
            try clear p2
            try clear p25
            try clear p27
            try clear p293
            try clear p305
            try clear p6
            try clear q25
            try clear q27
            try clear q293
            try clear q305
            obtain ⟨x9_4, x10_4, x11_4, rfl, HA, HK4, HO_10, HO_11, HB⟩ := hrel
            cases gk with
            | zero => exact absurd HA.out (by simp [rounding_Split.l1])
            | succ k4 =>
             have H := HA.out
             clear HA
             simp only [rounding_Split.l1] at H
             by_cases c37 : x9_4 > 0
             ·rw [if_pos c37] at H
              have c37b0 : decide (0 < x9_4) = true := decide_eq_true c37
              clear c37
              have H' := Aside0.mk H
              clear H
              obtain ⟨Ao38, co38, eo38⟩ := Kd.R_slice HO_11.out
              subst eo38
              go_wp2
              go_loopg [17, 87] k4 (fun kq v17 v87 w' => ∃ (x17_5 : Int) (x87_5 : Int), v17 = .int .i64 x17_5 ∧ v87 = .int .i64 x87_5 ∧ Aside0 (rounding_Split.l2 kq x8_7 x9_4 x10_4 x11_4 x17_5 x11_4 (x11_4.length : Int) x87_5 = some (r1, r2)) ∧ Aside0 (kq ≤ k4) ∧ Aside0 (Kd.R (Kd.int .i64) 3 w' w.heap.size (fun k_ => some k_ ≠ ((.slice Ao38 x11_4.length co38) : Value).ownBlock ∧ some k_ ≠ ((.slice Ao38 x11_4.length co38) : Value).ownBlock) v288 x10_4) ∧ Aside0 (Kd.R (Kd.int .i64) 3 w' w.heap.size (fun k_ => some k_ ≠ (v288 : Value).ownBlock) (.slice Ao38 x11_4.length co38) x11_4) ∧ Aside0 (Kd.R (Kd.int .i64) 3 w' w.heap.size (fun k_ => some k_ ≠ (v288 : Value).ownBlock) (.slice Ao38 x11_4.length co38) x11_4) ∧ Aside0 (Below w.heap.size w w'))
              case atStart => exact ⟨(0), (0), qs_, qs_, H', ⟨Nat.le_refl _⟩, ⟨by (with_reducible repeat (first | apply Kd.R_alloc | apply Kd.R_drewN | apply Kd.R_drew)); exact Kd.R_mono HO_10.out (fun _ hk => ⟨hk, hk⟩)⟩, ⟨by (with_reducible repeat (first | apply Kd.R_alloc | apply Kd.R_drewN | apply Kd.R_drew)); exact HO_11.out⟩, ⟨by (with_reducible repeat (first | apply Kd.R_alloc | apply Kd.R_drewN | apply Kd.R_drew)); exact HO_11.out⟩, ⟨qb_ HB.out⟩⟩
              case round =>
               clear H'
               try clear c1
               try clear c2
               try clear p2
               try clear q2
               try clear hx2
               try clear hf2
               try clear c3
               try clear p3
               try clear q3
               try clear hx3
               try clear c4
               try clear c6
               try clear p6
               try clear c7
               try clear c9
               try clear c9b0
               try clear c10
               try clear c10b0
               try clear c10b1
               try clear c11
               try clear c11b0
               try clear c11b1
               try clear c18
               try clear c18b0
               try clear c19
               try clear c19b0
               try clear c20
               try clear c20b0
               try clear c24
               try clear c24b0
               try clear p25
               try clear q25
               try clear hx25
               try clear hf25
               try clear c26
               try clear c26b0
               try clear p27
               try clear q27
               try clear hx27
               try clear hf27
               try clear p29
               try clear q29
               try clear hx29
               try clear p30
               try clear q30
               try clear hx30
               try clear c34
               try clear c37
               try clear c37b0
               try clear c38
               try clear hcz31_0
               try clear hcz31_1
               try clear hfz31_0
               try clear hfz31_1
               try clear hx25_0
               try clear hx27_0
               try clear hx293_0
               try clear hx305_0
               try clear p2
               try clear p25
               try clear p27
               try clear p29
               try clear p293
               try clear p3
               try clear p30
               try clear p305
               try clear p6
               try clear q2
               try clear q25
               try clear q27
               try clear q29
               try clear q293
               try clear q3
               try clear q30
               try clear q305
               obtain ⟨x17_5, x87_5, rfl, rfl, HA, HK5, HO_10, HO_11, HO_85, HB⟩ := hrel
               cases gk with
               | zero => exact absurd HA.out (by simp [rounding_Split.l2])
               | succ k5 =>
                have H := HA.out
                clear HA
                simp only [rounding_Split.l2] at H
                by_cases c39 : x87_5 < (x11_4.length : Int)
                ·rw [if_pos c39] at H
                 have c39b0 : decide (x87_5 < (x11_4.length : Int)) = true := decide_eq_true c39
                 clear c39
                 by_cases c40 : 0 ≤ x87_5
                 ·rw [if_pos c40] at H
                  have c40b0 : decide (0 ≤ x87_5) = true := decide_eq_true c40
                  clear c40
                  by_cases c41 : x87_5 < (x11_4.length : Int)
                  ·rw [if_pos c41] at H
                   have c41b0 : decide (x87_5 < (x11_4.length : Int)) = true := decide_eq_true c41
                   clear c41
                   by_cases c42 : 0 ≤ x17_5
                   ·rw [if_pos c42] at H
                    have c42b0 : decide (0 ≤ x17_5) = true := decide_eq_true c42
                    clear c42
                    by_cases c43 : x17_5 < (x11_4.length : Int)
                    ·rw [if_pos c43] at H
                     have c43b0 : decide (x17_5 < (x11_4.length : Int)) = true := decide_eq_true c43
                     clear c43
                     by_cases c44 : (rd x11_4 x87_5) > (rd x11_4 x17_5)
                     ·rw [if_pos c44] at H
                      have c44b0 : decide ((rd x11_4 x17_5) < (rd x11_4 x87_5)) = true := decide_eq_true c44
                      clear c44
                      have H' := Aside0.mk H
                      clear H
                      have p309 : 0 ≤ (x87_5 : Int) := of_decide_eq_true (by first | (with_reducible assumption) | assumption)
                      have q309 : x87_5 < (x11_4.length : Int) := of_decide_eq_true (by first | (with_reducible assumption) | assumption)
                      obtain ⟨ad309, e309, hx309_0⟩ := Kd.at_int (Kd.R_reads' HO_85.out).2.2 x87_5 p309 q309
                      cases e309
                      replace p309 := eq_true p309
                      replace q309 := eq_true q309
                      have p310 : 0 ≤ (x17_5 : Int) := of_decide_eq_true (by first | (with_reducible assumption) | assumption)
                      have q310 : x17_5 < (x11_4.length : Int) := of_decide_eq_true (by first | (with_reducible assumption) | assumption)
                      obtain ⟨ad310, e310, hx310_0⟩ := Kd.at_int (Kd.R_reads' HO_11.out).2.2 x17_5 p310 q310
                      obtain rfl : ad309 = ad310 := (by injection e310)
                      replace p310 := eq_true p310
                      replace q310 := eq_true q310
                      go_wp2
                      go_roundg k5
                      case measure => have := HJ3.out; have := HJ7.out; have := HK3.out; have := HK4.out; have := HK5.out; omega
                      case rel => exact ⟨(x87_5), (wrap64 (x87_5 + 1)), qs_, qs_, H', ⟨by have := HJ3.out; have := HJ7.out; have := HK3.out; have := HK4.out; have := HK5.out; omega⟩, ⟨by (with_reducible repeat (first | apply Kd.R_alloc | apply Kd.R_drewN | apply Kd.R_drew)); exact HO_10.out⟩, ⟨by (with_reducible repeat (first | apply Kd.R_alloc | apply Kd.R_drewN | apply Kd.R_drew)); exact HO_11.out⟩, ⟨by (with_reducible repeat (first | apply Kd.R_alloc | apply Kd.R_drewN | apply Kd.R_drew)); exact HO_85.out⟩, ⟨qb_ HB.out⟩⟩
                     ·rw [if_neg c44] at H
                      have c44b0 : decide ((rd x11_4 x17_5) < (rd x11_4 x87_5)) = false := decide_eq_false c44
                      clear c44
                      have H' := Aside0.mk H
                      clear H
                      have p309 : 0 ≤ (x87_5 : Int) := of_decide_eq_true (by first | (with_reducible assumption) | assumption)
                      have q309 : x87_5 < (x11_4.length : Int) := of_decide_eq_true (by first | (with_reducible assumption) | assumption)
                      obtain ⟨ad309, e309, hx309_0⟩ := Kd.at_int (Kd.R_reads' HO_85.out).2.2 x87_5 p309 q309
                      cases e309
                      replace p309 := eq_true p309
                      replace q309 := eq_true q309
                      have p310 : 0 ≤ (x17_5 : Int) := of_decide_eq_true (by first | (with_reducible assumption) | assumption)
                      have q310 : x17_5 < (x11_4.length : Int) := of_decide_eq_true (by first | (with_reducible assumption) | assumption)
                      obtain ⟨ad310, e310, hx310_0⟩ := Kd.at_int (Kd.R_reads' HO_11.out).2.2 x17_5 p310 q310
                      obtain rfl : ad309 = ad310 := (by injection e310)
                      replace p310 := eq_true p310
                      replace q310 := eq_true q310
                      go_wp2
                      go_roundg k5
                      case measure => have := HJ3.out; have := HJ7.out; have := HK3.out; have := HK4.out; have := HK5.out; omega
                      case rel => exact ⟨(x17_5), (wrap64 (x87_5 + 1)), qs_, qs_, H', ⟨by have := HJ3.out; have := HJ7.out; have := HK3.out; have := HK4.out; have := HK5.out; omega⟩, ⟨by (with_reducible repeat (first | apply Kd.R_alloc | apply Kd.R_drewN | apply Kd.R_drew)); exact HO_10.out⟩, ⟨by (with_reducible repeat (first | apply Kd.R_alloc | apply Kd.R_drewN | apply Kd.R_drew)); exact HO_11.out⟩, ⟨by (with_reducible repeat (first | apply Kd.R_alloc | apply Kd.R_drewN | apply Kd.R_drew)); exact HO_85.out⟩, ⟨qb_ HB.out⟩⟩
                    ·rw [if_neg c43] at H
                     exact absurd H (by simp)
                   ·rw [if_neg c42] at H
                    exact absurd H (by simp)
                  ·rw [if_neg c41] at H
                   exact absurd H (by simp)
                 ·rw [if_neg c40] at H
                  exact absurd H (by simp)
                ·rw [if_neg c39] at H
                 have c39b0 : decide (x87_5 < (x11_4.length : Int)) = false := decide_eq_false c39
                 clear c39
                 by_cases c45 : 0 ≤ x17_5
                 ·rw [if_pos c45] at H
                  have c45b0 : decide (0 ≤ x17_5) = true := decide_eq_true c45
                  clear c45
                  by_cases c46 : x17_5 < (x10_4.length : Int)
                  ·rw [if_pos c46] at H
                   have c46b0 : decide (x17_5 < (x10_4.length : Int)) = true := decide_eq_true c46
                   clear c46
                   obtain ⟨y307, hy307⟩ : ∃ y_ : List Int, y_ = (x10_4.set (x17_5 : Int).toNat (wrap64 ((rd x10_4 x17_5) + 1))) := ⟨_, rfl⟩
                   replace H : (if x17_5 < (x11_4.length : Int) then (rounding_Split.l1 k5 x8_7 (wrap64 (x9_4 - 1)) y307 (x11_4.set (x17_5 : Int).toNat (-1))) else (none)) = some (r1, r2) := by first | (rw [hy307]; with_reducible exact H) | (have H2_ := (Option.bind_some _ _).symm.trans H; rw [hy307]; with_reducible exact H2_) | (have H2_ := (Option.bind_some _ _).symm.trans H; with_reducible exact H2_) | with_reducible exact H | (rw [hy307]; exact H) | exact H
                   have Ny307 := Aside0.mk hy307
                   clear hy307
                   by_cases c48 : x17_5 < (x11_4.length : Int)
                   ·rw [if_pos c48] at H
                    have c48b0 : decide (x17_5 < (x11_4.length : Int)) = true := decide_eq_true c48
                    clear c48
                    obtain ⟨y308, hy308⟩ : ∃ y_ : List Int, y_ = (x11_4.set (x17_5 : Int).toNat (-1)) := ⟨_, rfl⟩
                    replace H : (rounding_Split.l1 k5 x8_7 (wrap64 (x9_4 - 1)) y307 y308) = some (r1, r2) := by first | (rw [hy308]; with_reducible exact H) | (have H2_ := (Option.bind_some _ _).symm.trans H; rw [hy308]; with_reducible exact H2_) | (have H2_ := (Option.bind_some _ _).symm.trans H; with_reducible exact H2_) | with_reducible exact H | (rw [hy308]; exact H) | exact H
                    have Ny308 := Aside0.mk hy308
                    clear hy308
                    have H' := Aside0.mk H
                    clear H
                    obtain ⟨Ao50, co50, eo50⟩ := Kd.R_slice HO_10.out
                    subst eo50
                    have p306 : 0 ≤ (x17_5 : Int) := of_decide_eq_true (by first | (with_reducible assumption) | assumption)
                    have q306 : x17_5 < (x10_4.length : Int) := of_decide_eq_true (by first | (with_reducible assumption) | assumption)
                    obtain ⟨ad306, e306, hx306_0⟩ := Kd.at_int (Kd.R_reads' HO_10.out).2.2 x17_5 p306 q306
                    cases e306
                    replace p306 := eq_true p306
                    replace q306 := eq_true q306
                    have p47 : 0 ≤ (x17_5 : Int) := of_decide_eq_true (by first | (with_reducible assumption) | assumption)
                    have q47 : (x17_5 : Int) < ((x10_4.length : Int) : Int) := of_decide_eq_true (by first | (with_reducible assumption) | assumption)
                    obtain ⟨go47, co47, eo47, gb47, gl47, cl47, HG47⟩ := Kd.R_form HO_10.out (by omega)
                    (first | cases eo47 | (injection eo47 with ea_ en_ ec_; (first | subst ea_ | (injection ea_ with ea_; subst ea_)); subst ec_; clear en_))
                    have GB47 := Aside0.mk gb47
                    have GG47 := Aside0.mk HG47
                    clear gb47 gl47 HG47
                    (first | simp only [add_plain] at hx306_0 | skip)
                    obtain ⟨hx47_0, hf47_0⟩ := Kd.R_celln 0 HO_10.out (x17_5 : Int) p47 q47
                    replace p47 := eq_true p47
                    replace q47 := eq_true q47
                    have HP51 := Kd.R_putg HO_10.out (x17_5 : Int) (wrap64 ((rd x10_4 x17_5) + 1))
                    go_wp2_with (first | ((with_reducible refine gate_store (t := 3) (p := 105) rfl ?_); refine store_event (t := 3) (p := 105) (v := ?vo_w52) (w1 := (wr.setCell ⟨go47, (x17_5 : Int).toNat, none⟩ (.int .i64 (wrap64 ((rd x10_4 x17_5) + 1))))) ?hg ?ho ?hn ?hr ?_; (case ho => rfl); (case hg => rfl); (case hn => rfl); (case hr => first | (go_simp; done) | (go_simp; rfl)); intro w52 hw; have hg : wr.grownBy w52 (some go47) := (by rw [hw]; exact HP51.2); have hp_ : Kd.R (Kd.int .i64) 3 w52 w.heap.size (fun k_ => some k_ ≠ (.slice Ao38 x11_4.length co38 : Value).ownBlock ∧ some k_ ≠ (.slice Ao38 x11_4.length co38 : Value).ownBlock) (.slice (some ⟨go47, 0, none⟩) x10_4.length co50) y307 := (by rw [hw, Ny307.out]; exact HP51.1); clear HP51; have n0_ := Aside0.mk (hp_); have n1_ := Aside0.mk (Kd.R_after (v := (.slice (some ⟨go47, 0, none⟩) x10_4.length co50)) (v1 := (.slice (some ⟨go47, 0, none⟩) x10_4.length co50)) (ok := (fun _ => True)) (by (with_reducible repeat (first | apply Kd.R_alloc | apply Kd.R_drewN | apply Kd.R_drew)); exact Kd.R_mono HO_11.out (fun _ hk => ⟨trivial, hk⟩)) hg (.inl rfl)); have n2_ := Aside0.mk (Kd.R_after (v := (.slice (some ⟨go47, 0, none⟩) x10_4.length co50)) (v1 := (.slice (some ⟨go47, 0, none⟩) x10_4.length co50)) (ok := (fun _ => True)) (by (with_reducible repeat (first | apply Kd.R_alloc | apply Kd.R_drewN | apply Kd.R_drew)); exact Kd.R_mono HO_85.out (fun _ hk => ⟨trivial, hk⟩)) hg (.inl rfl)); have n3_ := Aside0.mk ((by rw [hw]; exact below_set (HB.out) GB47.out : Below w.heap.size w w52)); clear HO_10; clear HO_11; clear HO_85; clear HB; have HO_10 := n0_; have HO_11 := n1_; have HO_85 := n2_; have HB := n3_; clear n0_ n1_ n2_ n3_; clear hg hw hp_; have p49 : 0 ≤ (x17_5 : Int) := of_decide_eq_true (by first | (with_reducible assumption) | assumption); have q49 : (x17_5 : Int) < ((x11_4.length : Int) : Int) := of_decide_eq_true (by first | (with_reducible assumption) | assumption); obtain ⟨go49, co49, eo49, gb49, gl49, cl49, HG49⟩ := Kd.R_form HO_11.out (by omega); (first | cases eo49 | (injection eo49 with ea_ en_ ec_; (first | subst ea_ | (injection ea_ with ea_; subst ea_)); subst ec_; clear en_)); have GB49 := Aside0.mk gb49; have GG49 := Aside0.mk HG49; clear gb49 gl49 HG49; obtain ⟨hx49_0, hf49_0⟩ := Kd.R_celln 0 HO_11.out (x17_5 : Int) p49 q49; replace p49 := eq_true p49; replace q49 := eq_true q49; have n_ := Aside0.mk (Kd.R_mono (ok' := (fun k_ => some k_ ≠ (.slice (some ⟨go47, 0, none⟩) x10_4.length co50 : Value).ownBlock)) HO_11.out (fun k_ hk => hk.2)); clear HO_11; have HO_11 := n_; clear n_; obtain ⟨hy53_, hz53_⟩ := Kd.R_celln 0 HO_11.out (x17_5 : Int) (of_decide_eq_true (by first | (with_reducible assumption) | assumption)) (of_decide_eq_true (by first | (with_reducible assumption) | assumption)); have HP53 := Kd.R_putg HO_11.out (x17_5 : Int) (-1)) | ((with_reducible refine gate_store (t := 3) (p := 108) rfl ?_); refine store_event (t := 3) (p := 108) (v := ?vo_w54) (w1 := (w52.setCell ⟨go49, (x17_5 : Int).toNat, none⟩ (.int .i64 (-1)))) ?hg ?ho ?hn ?hr ?_; (case ho => rfl); (case hg => rfl); (case hn => rfl); (case hr => first | (go_simp; done) | (go_simp; rfl)); intro w54 hw; have hg : w52.grownBy w54 (some go49) := (by rw [hw]; exact HP53.2); have hp_ : Kd.R (Kd.int .i64) 3 w54 w.heap.size (fun k_ => some k_ ≠ (.slice (some ⟨go47, 0, none⟩) x10_4.length co50 : Value).ownBlock) (.slice (some ⟨go49, 0, none⟩) x11_4.length co38) y308 := (by rw [hw, Ny308.out]; exact HP53.1); clear HP53; have n0_ := Aside0.mk (Kd.R_after (v := (.slice (some ⟨go49, 0, none⟩) x11_4.length co38)) (v1 := (.slice (some ⟨go49, 0, none⟩) x11_4.length co38)) (ok := (fun k_ => some k_ ≠ (.slice (some ⟨go49, 0, none⟩) x11_4.length co38 : Value).ownBlock)) (by (with_reducible repeat (first | apply Kd.R_alloc | apply Kd.R_drewN | apply Kd.R_drew)); exact Kd.R_mono HO_10.out (fun _ hk => ⟨hk.2, hk.1⟩)) hg (.inl rfl)); have n1_ := Aside0.mk (hp_); have n3_ := Aside0.mk ((by rw [hw]; exact below_set (HB.out) GB49.out : Below w.heap.size w w54)); clear HO_10; clear HO_11; clear HO_85; clear HB; have HO_10 := n0_; have HO_11 := n1_; have HB := n3_; clear n0_ n1_ n3_; clear hg hw hp_))
                    go_roundg k5
                    case measure => have := HJ3.out; have := HJ7.out; have := HK3.out; have := HK4.out; have := HK5.out; omega
                    case rel => exact ⟨(wrap64 (x9_4 - 1)), (y307), (y308), qs_, H', ⟨by have := HJ3.out; have := HJ7.out; have := HK3.out; have := HK4.out; have := HK5.out; omega⟩, ⟨by (with_reducible repeat (first | apply Kd.R_alloc | apply Kd.R_drewN | apply Kd.R_drew)); exact Kd.R_mono HO_10.out (fun _ hk => hk.2)⟩, ⟨by (with_reducible repeat (first | apply Kd.R_alloc | apply Kd.R_drewN | apply Kd.R_drew)); exact HO_11.out⟩, ⟨qb_ HB.out⟩⟩
                   ·rw [if_neg c48] at H
                    exact absurd H (by simp)
                  ·rw [if_neg c46] at H
                   exact absurd H (by simp)
                 ·rw [if_neg c45] at H
                  exact absurd H (by simp)
             ·rw [if_neg c37] at H
              have c37b0 : decide (0 < x9_4) = false := decide_eq_false c37
              clear c37
              have H' := Aside0.mk H
              clear H
              obtain ⟨Ao55, co55, eo55⟩ := Kd.R_slice HO_10.out
              subst eo55
              go_wp2
              go_loopg [111] k4 (fun kq v111 w' => ∃ (x10_5 : List Int) (x111_5 : Int), v111 = .int .i64 x111_5 ∧ Aside0 (rounding_Split.l3 kq x8_7 x10_5 (x10_4.length : Int) x111_5 = some (r1, r2)) ∧ Aside0 (kq ≤ k4) ∧ Aside0 (Kd.R (Kd.int .i64) 3 w' w.heap.size (fun _ => True) (.slice Ao55 x10_4.length co55) x10_5) ∧ Aside0 (Below w.heap.size w w'))
              case atStart => exact ⟨(x10_4), (0), qs_, H', ⟨Nat.le_refl _⟩, ⟨by (with_reducible repeat (first | apply Kd.R_alloc | apply Kd.R_drewN | apply Kd.R_drew)); exact Kd.R_mono HO_10.out (fun _ hk => trivial)⟩, ⟨qb_ HB.out⟩⟩
              case round =>
               clear H'
               try clear c1
               try clear c2
               try clear p2
               try clear q2
               try clear hx2
               try clear hf2
               try clear c3
               try clear p3
               try clear q3
               try clear hx3
               try clear c4
               try clear p4
               try clear q4
               try clear hx4
               try clear hf4
               try clear c6
               try clear p6
               try clear c7
               try clear c9
               try clear c9b0
               try clear c10
               try clear c10b0
               try clear c10b1
               try clear c11
               try clear c11b0
               try clear c11b1
               try clear c18
               try clear c18b0
               try clear c19
               try clear c19b0
               try clear c20
               try clear c20b0
               try clear c24
               try clear c24b0
               try clear p25
               try clear q25
               try clear hx25
               try clear hf25
               try clear c26
               try clear c26b0
               try clear p27
               try clear q27
               try clear hx27
               try clear hf27
               try clear p29
               try clear q29
               try clear hx29
               try clear p30
               try clear q30
               try clear hx30
               try clear p31
               try clear q31
               try clear hx31
               try clear c34
               try clear c37
               try clear c37b0
               try clear c38
               try clear c39
               try clear c39b0
               try clear c40
               try clear c40b0
               try clear c41
               try clear c41b0
               try clear c42
               try clear c42b0
               try clear c43
               try clear c43b0
               try clear c44
               try clear c44b0
               try clear c45
               try clear c45b0
               try clear c46
               try clear c46b0
               try clear p47
               try clear q47
               try clear hx47
               try clear hf47
               try clear c48
               try clear c48b0
               try clear p49
               try clear q49
               try clear hx49
               try clear hf49
               try clear hcz31_0
               try clear hcz31_1
               try clear hfz31_0
               try clear hfz31_1
               try clear hx25_0
               try clear hx27_0
               try clear hx293_0
               try clear hx305_0
               try clear hx306_0
               try clear hx309_0
               try clear hx310_0
               try clear hx47_0
               try clear hx49_0
               try clear p2
               try clear p25
               try clear p27
               try clear p29
               try clear p293
               try clear p3
               try clear p30
               try clear p305
               try clear p306
               try clear p309
               try clear p310
               try clear p47
               try clear p49
               try clear p6
               try clear q2
               try clear q25
               try clear q27
               try clear q29
               try clear q293
               try clear q3
               try clear q30
               try clear q305
               try clear q306
               try clear q309
               try clear q310
               try clear q47
               try clear q49
               obtain ⟨x10_5, x111_5, rfl, HA, HK5, HO_10, HB⟩ := hrel
               have hl10_5 := (Kd.R_reads' HO_10.out).1
               rw [hl10_5] at HO_10
               (try simp only [hl10_5])
               cases gk with
               | zero => exact absurd HA.out (by simp [rounding_Split.l3])
               | succ k5 =>
                have H := HA.out
                clear HA
                simp only [rounding_Split.l3] at H
                by_cases c56 : x111_5 < (x10_4.length : Int)
                ·rw [if_pos c56] at H
                 have c56b0 : decide (x111_5 < (x10_4.length : Int)) = true := decide_eq_true c56
                 clear c56
                 by_cases c57 : 0 ≤ x111_5
                 ·rw [if_pos c57] at H
                  have c57b0 : decide (0 ≤ x111_5) = true := decide_eq_true c57
                  clear c57
                  by_cases c58 : x111_5 < (x10_5.length : Int)
                  ·rw [if_pos c58] at H
                   have c58b0 : decide (x111_5 < (x10_5.length : Int)) = true := decide_eq_true c58
                   clear c58
                   obtain ⟨y312, hy312⟩ : ∃ y_ : List Int, y_ = (x10_5.set (x111_5 : Int).toNat (wrap64 ((rd x10_5 x111_5) * x8_7))) := ⟨_, rfl⟩
                   replace H : (rounding_Split.l3 k5 x8_7 y312 (x10_4.length : Int) (wrap64 (x111_5 + 1))) = some (r1, r2) := by first | (rw [hy312]; with_reducible exact H) | (have H2_ := (Option.bind_some _ _).symm.trans H; rw [hy312]; with_reducible exact H2_) | (have H2_ := (Option.bind_some _ _).symm.trans H; with_reducible exact H2_) | with_reducible exact H | (rw [hy312]; exact H) | exact H
                   have Ny312 := Aside0.mk hy312
                   clear hy312
                   have H' := Aside0.mk H
                   clear H
                   have p311 : 0 ≤ (x111_5 : Int) := of_decide_eq_true (by first | (with_reducible assumption) | assumption)
                   have q311 : x111_5 < (x10_5.length : Int) := of_decide_eq_true (by first | (with_reducible assumption) | assumption)
                   obtain ⟨ad311, e311, hx311_0⟩ := Kd.at_int (Kd.R_reads' HO_10.out).2.2 x111_5 p311 q311
                   cases e311
                   replace p311 := eq_true p311
                   replace q311 := eq_true q311
                   have p59 : 0 ≤ (x111_5 : Int) := of_decide_eq_true (by first | (with_reducible assumption) | assumption)
                   have q59 : (x111_5 : Int) < ((x10_5.length : Int) : Int) := of_decide_eq_true (by first | (with_reducible assumption) | assumption)
                   obtain ⟨go59, co59, eo59, gb59, gl59, cl59, HG59⟩ := Kd.R_form HO_10.out (by omega)
                   (first | cases eo59 | (injection eo59 with ea_ en_ ec_; (first | subst ea_ | (injection ea_ with ea_; subst ea_)); subst ec_; clear en_))
                   have GB59 := Aside0.mk gb59
                   have GG59 := Aside0.mk HG59
                   clear gb59 gl59 HG59
                   (first | simp only [add_plain] at hx311_0 | skip)
                   obtain ⟨hx59_0, hf59_0⟩ := Kd.R_celln 0 HO_10.out (x111_5 : Int) p59 q59
                   replace p59 := eq_true p59
                   replace q59 := eq_true q59
                   have HP60 := Kd.R_putg HO_10.out (x111_5 : Int) (wrap64 ((rd x10_5 x111_5) * x8_7))
                   go_wp2_with (first | ((with_reducible refine gate_store (t := 3) (p := 120) rfl ?_); refine store_event (t := 3) (p := 120) (v := ?vo_w61) (w1 := (wr.setCell ⟨go59, (x111_5 : Int).toNat, none⟩ (.int .i64 (wrap64 ((rd x10_5 x111_5) * x8_7))))) ?hg ?ho ?hn ?hr ?_; (case ho => rfl); (case hg => rfl); (case hn => rfl); (case hr => first | (go_simp; done) | (go_simp; rfl)); intro w61 hw; have hg : wr.grownBy w61 (some go59) := (by rw [hw]; exact HP60.2); have hp_ : Kd.R (Kd.int .i64) 3 w61 w.heap.size (fun _ => True) (.slice (some ⟨go59, 0, none⟩) x10_5.length co55) y312 := (by rw [hw, Ny312.out]; exact HP60.1); clear HP60; have n0_ := Aside0.mk (hp_); have n1_ := Aside0.mk ((by rw [hw]; exact below_set (HB.out) GB59.out : Below w.heap.size w w61)); clear HO_10; clear HB; have HO_10 := n0_; have HB := n1_; clear n0_ n1_; clear hg hw hp_))
                   (try simp only [← hl10_5])
                   go_roundg k5
                   case measure => have := HJ3.out; have := HJ7.out; have := HK3.out; have := HK4.out; have := HK5.out; omega
                   case rel => exact ⟨(y312), (wrap64 (x111_5 + 1)), qs_, H', ⟨by have := HJ3.out; have := HJ7.out; have := HK3.out; have := HK4.out; have := HK5.out; omega⟩, ⟨by (try simp only [hl10_5]); (with_reducible repeat (first | apply Kd.R_alloc | apply Kd.R_drewN | apply Kd.R_drew)); exact HO_10.out⟩, ⟨qb_ HB.out⟩⟩
                  ·rw [if_neg c58] at H
                   exact absurd H (by simp)
                 ·rw [if_neg c57] at H
                  exact absurd H (by simp)
                ·rw [if_neg c56] at H
                 have c56b0 : decide (x111_5 < (x10_4.length : Int)) = false := decide_eq_false c56
                 have c56b9 : decide (x111_5 < (x10_5.length : Int)) = false := by first | (rw [hl10_5]; exact c56b0) | (rw [← hl10_5]; exact c56b0)
                 clear c56
                 simp only [Option.some.injEq, Prod.mk.injEq] at H
                 obtain ⟨rfl, rfl⟩ := H
                 go_wp2
                 go_ret2
                 exact ⟨_, qe_, by (with_reducible repeat (first | apply Kd.R_alloc | apply Kd.R_drewN | apply Kd.R_drew)); exact HO_10.out, qb_ HB.out⟩
       ·rw [if_neg c11] at H
        exact absurd H (by simp)
      ·rw [if_neg c10] at H
       exact absurd H (by simp)
end Go.Proofs.YtkdhippoibjfkaaDoor.PR
end
section
namespace Go.Proofs.YtkdhippoibjfkaaDoor.PR
open Go.RowKit Go.Proofs.YtkdhippoibjfkaaDoorW.PrintWords Go.Proofs.YtkdhippoibjfkaaDoorW.PrintLast
set_option linter.unusedVariables false
set_option linter.unusedSimpArgs false
def rounding_StepP.j0 : Nat → Int → Int → Int → Bool → Option (Int × Int)
 | 0, _, _, _, _ => none
 | k + 1, x0, x1, x2, x25 => if x25 = true then (some (0, 1)) else ((wide_Of.f x0).bind fun bt315 => ((rounding_Divide.f bt315.1 bt315.2 x1 x2).bind fun bt317 => (if bt317.2 = 0 then ((rounding_valid.f (wrap64 (bt317.1 * x1))).bind fun t319 => (if t319 = true then (some (wrap64 (bt317.1 * x1), 0)) else (some (0, 6)))) else (some (0, bt317.2)))))
def rounding_StepP.f (k : Nat) (a0 : Int) (a1 : Int) (a2 : Int) : Option (Int × Int) := (rounding_valid.f a0).bind fun t313 => (if t313 = true then (if a1 < 1 then (rounding_StepP.j0 k a0 a1 a2 true) else (if a1 > 1000000000000 then (rounding_StepP.j0 k a0 a1 a2 true) else ((rounding_Valid.f a2).bind fun t314 => (rounding_StepP.j0 k a0 a1 a2 (!t314))))) else (rounding_StepP.j0 k a0 a1 a2 true))
theorem rounding_StepP.mono_l : ∀ k, (∀ y0 y1 y2 y3, LeO (rounding_StepP.j0 k y0 y1 y2 y3) (rounding_StepP.j0 (k + 1) y0 y1 y2 y3))
 | 0 => fun _ _ _ _ r h => by simp [rounding_StepP.j0] at h
 | k + 1 => by
  have ih0 := rounding_StepP.mono_l k
  ·intro y0 y1 y2 y3
   unfold rounding_StepP.j0
   repeat' first
   | (with_reducible exact ih0 _ _ _ _)
   | (with_reducible exact LeO.refl _)
   | (with_reducible exact LeO.none _)
   | (with_reducible refine LeO.ite ?_ ?_)
   | (with_reducible refine LeO.bind ?_ (fun _ => ?_))
   | exact ih0 _ _ _ _
   | exact LeO.none _
   | refine LeO.ite ?_ ?_
   | refine LeO.bind ?_ (fun _ => ?_)
theorem rounding_StepP.mono : ∀ a0 a1 a2 k, LeO (rounding_StepP.f k a0 a1 a2) (rounding_StepP.f (k + 1) a0 a1 a2) := by
 intro a0 a1 a2 k
 have ih0 := rounding_StepP.mono_l k
 unfold rounding_StepP.f
 repeat' first
   | (with_reducible exact ih0 _ _ _ _)
   | (with_reducible exact LeO.refl _)
   | (with_reducible exact LeO.none _)
   | (with_reducible refine LeO.ite ?_ ?_)
   | (with_reducible refine LeO.bind ?_ (fun _ => ?_))
   | exact ih0 _ _ _ _
   | exact LeO.none _
   | refine LeO.ite ?_ ?_
   | refine LeO.bind ?_ (fun _ => ?_)
set_option maxHeartbeats 8000000 in
set_option maxRecDepth 100000 in
theorem rounding_StepP.calls (k : Nat) (a0 : Int) (a1 : Int) (a2 : Int) (r1 : Int) (r2 : Int) (w : World) (hG : GW w) (h : rounding_StepP.f k a0 a1 a2 = some (r1, r2)) :
  Calls Tryd.prog 29 #[.int .i64 a0, .int .i64 a1, .int .i64 a2] w fun e w' => e = .returned (.tuple #[.int .i64 r1, .int .i64 r2]) ∧ Below w.heap.size w w' := by
 have HB := Aside0.mk (Below.refl w.heap.size w)
 have H : ((rounding_valid.f a0).bind fun t313 => (if t313 = true then (if a1 < 1 then (rounding_StepP.j0 k a0 a1 a2 true) else (if a1 > 1000000000000 then (rounding_StepP.j0 k a0 a1 a2 true) else ((rounding_Valid.f a2).bind fun t314 => (rounding_StepP.j0 k a0 a1 a2 (!t314))))) else (rounding_StepP.j0 k a0 a1 a2 true))) = some (r1, r2) := h
 clear h
 have HC4 := Aside0.mk H
 clear H
 go_enter Tryd.func29, Tryd.ntmps29
 go_upto_region 1 with (fail)
 go_cut [25] (fun v25 wc => ∃ (kq : Nat) (x25_3 : Bool), v25 = .bool x25_3 ∧ Aside0 (rounding_StepP.j0 kq a0 a1 a2 x25_3 = some (r1, r2)) ∧ Aside0 (kq ≤ k) ∧ Aside0 (Below w.heap.size w wc))
 case first =>
  have H := HC4.out
  clear HC4
  replace H := Option.bind_eq_some_iff.mp H
  obtain ⟨t313, A50, H⟩ := H
  replace H : (if t313 = true then (if a1 < 1 then (rounding_StepP.j0 k a0 a1 a2 true) else (if a1 > 1000000000000 then (rounding_StepP.j0 k a0 a1 a2 true) else ((rounding_Valid.f a2).bind fun t314 => (rounding_StepP.j0 k a0 a1 a2 (!t314))))) else (rounding_StepP.j0 k a0 a1 a2 true)) = some (r1, r2) := H
  have A5 := Aside0.mk A50
  clear A50
  by_cases c6 : t313 = true
  ·subst c6
   have H1 : (if a1 < 1 then (rounding_StepP.j0 k a0 a1 a2 true) else (if a1 > 1000000000000 then (rounding_StepP.j0 k a0 a1 a2 true) else ((rounding_Valid.f a2).bind fun t314 => (rounding_StepP.j0 k a0 a1 a2 (!t314))))) = some (r1, r2) := by rw [if_pos rfl] at H; exact H
   clear H
   have H := H1
   clear H1
   by_cases c7 : a1 < 1
   ·rw [if_pos c7] at H
    have c7b0 : decide (a1 < 1) = true := decide_eq_true c7
    clear c7
    (first | rw [c7b0] | (simp only [i64_w, i32_w]; rw [c7b0]) | skip)
    have H' := Aside0.mk H
    clear H
    go_wp2_with (first | ((with_reducible refine gate_callee (f := 40) rfl ?_); refine goesL_ (some 11) rfl rfl Tryd.func40 (by kernel_rfl) rfl #[.int .i64 a0] rfl ql_ ?_; (with_reducible refine (rounding_valid.calls a0 true _ A5.out).mono ?_); rintro e w' ⟨rfl, ⟨nd, rfl⟩⟩; refine ⟨_, rfl, ?_⟩))
    go_meet
    case rel => exact ⟨_, (true), qs_, H', ⟨qo_⟩, ⟨qb_ HB.out⟩⟩
   ·rw [if_neg c7] at H
    have c7b0 : decide (a1 < 1) = false := decide_eq_false c7
    clear c7
    (first | rw [c7b0] | (simp only [i64_w, i32_w]; rw [c7b0]) | skip)
    by_cases c8 : a1 > 1000000000000
    ·rw [if_pos c8] at H
     have c8b0 : decide (1000000000000 < a1) = true := decide_eq_true c8
     clear c8
     have H' := Aside0.mk H
     clear H
     go_wp2_with (first | ((with_reducible refine gate_callee (f := 40) rfl ?_); refine goesL_ (some 11) rfl rfl Tryd.func40 (by kernel_rfl) rfl #[.int .i64 a0] rfl ql_ ?_; (with_reducible refine (rounding_valid.calls a0 true _ A5.out).mono ?_); rintro e w' ⟨rfl, ⟨nd, rfl⟩⟩; refine ⟨_, rfl, ?_⟩))
     go_meet
     case rel => exact ⟨_, (true), qs_, H', ⟨qo_⟩, ⟨qb_ HB.out⟩⟩
    ·rw [if_neg c8] at H
     have c8b0 : decide (1000000000000 < a1) = false := decide_eq_false c8
     clear c8
     replace H := Option.bind_eq_some_iff.mp H
     obtain ⟨t314, A90, H⟩ := H
     replace H : (rounding_StepP.j0 k a0 a1 a2 (!t314)) = some (r1, r2) := H
     have A9 := Aside0.mk A90
     clear A90
     have H' := Aside0.mk H
     clear H
     go_wp2_with (first | ((with_reducible refine gate_callee (f := 40) rfl ?_); refine goesL_ (some 11) rfl rfl Tryd.func40 (by kernel_rfl) rfl #[.int .i64 a0] rfl ql_ ?_; (with_reducible refine (rounding_valid.calls a0 true _ A5.out).mono ?_); rintro e w' ⟨rfl, ⟨nd, rfl⟩⟩; refine ⟨_, rfl, ?_⟩) | (go_at_call 13; (with_reducible refine (rounding_Valid.calls a2 t314 _ A9.out).mono ?_); rintro e w' ⟨rfl, ⟨nd, rfl⟩⟩))
     go_meet
     case rel => exact ⟨_, (!t314), qs_, H', ⟨qo_⟩, ⟨qb_ HB.out⟩⟩
  ·replace c6 := Bool.eq_false_iff.mpr c6
   subst c6
   have H1 : (rounding_StepP.j0 k a0 a1 a2 true) = some (r1, r2) := by rw [if_neg (show ¬ (false = true) by decide)] at H; exact H
   clear H
   have H := H1
   clear H1
   have H' := Aside0.mk H
   clear H
   go_wp2_with (first | ((with_reducible refine gate_callee (f := 40) rfl ?_); refine goesL_ (some 11) rfl rfl Tryd.func40 (by kernel_rfl) rfl #[.int .i64 a0] rfl ql_ ?_; (with_reducible refine (rounding_valid.calls a0 false _ A5.out).mono ?_); rintro e w' ⟨rfl, ⟨nd, rfl⟩⟩; refine ⟨_, rfl, ?_⟩))
   go_meet
   case rel => exact ⟨_, (true), qs_, H', ⟨qo_⟩, ⟨qb_ HB.out⟩⟩
 case rest =>
  clear HC4
  try clear c2
  try clear p2
  try clear c4
  try clear c6
  try clear c7
  try clear c7b0
  try clear c8
  try clear c8b0
  obtain ⟨kq, x25_3, rfl, HA, HJ3, HB⟩ := hcut
  cases kq with
  | zero => exact absurd HA.out (by simp [rounding_StepP.j0])
  | succ kj3 =>
   have H := HA.out
   clear HA
   simp only [rounding_StepP.j0] at H
   by_cases c10 : x25_3 = true
   ·subst c10
    have H1 : (some (0, 1)) = some (r1, r2) := by rw [if_pos rfl] at H; exact H
    clear H
    have H := H1
    clear H1
    simp only [Option.some.injEq, Prod.mk.injEq] at H
    obtain ⟨rfl, rfl⟩ := H
    go_wp2
    go_ret2
    exact ⟨qe_, qb_ HB.out⟩
   ·replace c10 := Bool.eq_false_iff.mpr c10
    subst c10
    have H1 : ((wide_Of.f a0).bind fun bt315 => ((rounding_Divide.f bt315.1 bt315.2 a1 a2).bind fun bt317 => (if bt317.2 = 0 then ((rounding_valid.f (wrap64 (bt317.1 * a1))).bind fun t319 => (if t319 = true then (some (wrap64 (bt317.1 * a1), 0)) else (some (0, 6)))) else (some (0, bt317.2))))) = some (r1, r2) := by rw [if_neg (show ¬ (false = true) by decide)] at H; exact H
    clear H
    have H := H1
    clear H1
    replace H := Option.bind_eq_some_iff.mp H
    obtain ⟨⟨t315, t316⟩, A110, H⟩ := H
    replace H : ((rounding_Divide.f t315 t316 a1 a2).bind fun bt317 => (if bt317.2 = 0 then ((rounding_valid.f (wrap64 (bt317.1 * a1))).bind fun t319 => (if t319 = true then (some (wrap64 (bt317.1 * a1), 0)) else (some (0, 6)))) else (some (0, bt317.2)))) = some (r1, r2) := H
    have A11 := Aside0.mk A110
    clear A110
    replace H := Option.bind_eq_some_iff.mp H
    obtain ⟨⟨t317, t318⟩, A120, H⟩ := H
    replace H : (if t318 = 0 then ((rounding_valid.f (wrap64 (t317 * a1))).bind fun t319 => (if t319 = true then (some (wrap64 (t317 * a1), 0)) else (some (0, 6)))) else (some (0, t318))) = some (r1, r2) := H
    have A12 := Aside0.mk A120
    clear A120
    by_cases c13 : t318 = 0
    ·rw [if_pos c13] at H
     have c13b0 : (t318 == 0) = true := beq_iff_eq.mpr c13
     have c13b1 : (t318 != 0) = false := bne_eq_false_iff_eq.mpr c13
     clear c13
     replace H := Option.bind_eq_some_iff.mp H
     obtain ⟨t319, A140, H⟩ := H
     replace H : (if t319 = true then (some (wrap64 (t317 * a1), 0)) else (some (0, 6))) = some (r1, r2) := H
     have A14 := Aside0.mk A140
     clear A140
     by_cases c15 : t319 = true
     ·subst c15
      have H1 : (some (wrap64 (t317 * a1), 0)) = some (r1, r2) := by rw [if_pos rfl] at H; exact H
      clear H
      have H := H1
      clear H1
      simp only [Option.some.injEq, Prod.mk.injEq] at H
      obtain ⟨rfl, rfl⟩ := H
      go_wp2_with (first | ((with_reducible refine gate_callee (f := 36) rfl ?_); refine goesL_ (some 28) rfl rfl Tryd.func36 (by kernel_rfl) rfl #[.int .i64 a0] rfl ql_ ?_; (with_reducible refine (wide_Of.calls a0 t315 t316 _ A11.out).mono ?_); rintro e w16 ⟨rfl, hb⟩; refine ⟨_, rfl, ?_⟩; have n0_ := Aside0.mk (below_step (qb_ HB.out) hb); clear HB; have HB := n0_; clear n0_; (try clear hb); (try clear hb2); (try clear hk); (try clear hi)) | ((with_reducible refine gate_callee (f := 11) rfl ?_); refine goesL_ (some 31) rfl rfl Tryd.func11 (by kernel_rfl) rfl #[.agg #[.int .i64 t315, .int .u64 t316], .int .i64 a1, .int .i64 a2] rfl ql_ ?_; (with_reducible refine (rounding_Divide.calls (hG := by first | exact hG | (with_reducible exact GW.below hG (qb_ HB.out)) | (with_reducible repeat (first | exact hG | apply GW.drewN | apply GW.drew))) t315 t316 a1 a2 t317 t318 _ A12.out).mono ?_); rintro e w17 ⟨rfl, hb⟩; refine ⟨_, rfl, ?_⟩; have n0_ := Aside0.mk (below_step (qb_ HB.out) hb); clear HB; have HB := n0_; clear n0_; (try clear hb); (try clear hb2); (try clear hk); (try clear hi)) | ((with_reducible refine gate_callee (f := 40) rfl ?_); refine goesL_ (some 40) rfl rfl Tryd.func40 (by kernel_rfl) rfl #[.int .i64 (wrap64 (t317 * a1))] rfl ql_ ?_; (with_reducible refine (rounding_valid.calls (wrap64 (t317 * a1)) true _ A14.out).mono ?_); rintro e w' ⟨rfl, ⟨nd, rfl⟩⟩; refine ⟨_, rfl, ?_⟩))
      go_ret2
      exact ⟨qe_, qb_ HB.out⟩
     ·replace c15 := Bool.eq_false_iff.mpr c15
      subst c15
      have H1 : (some (0, 6)) = some (r1, r2) := by rw [if_neg (show ¬ (false = true) by decide)] at H; exact H
      clear H
      have H := H1
      clear H1
      simp only [Option.some.injEq, Prod.mk.injEq] at H
      obtain ⟨rfl, rfl⟩ := H
      go_wp2_with (first | ((with_reducible refine gate_callee (f := 36) rfl ?_); refine goesL_ (some 28) rfl rfl Tryd.func36 (by kernel_rfl) rfl #[.int .i64 a0] rfl ql_ ?_; (with_reducible refine (wide_Of.calls a0 t315 t316 _ A11.out).mono ?_); rintro e w18 ⟨rfl, hb⟩; refine ⟨_, rfl, ?_⟩; have n0_ := Aside0.mk (below_step (qb_ HB.out) hb); clear HB; have HB := n0_; clear n0_; (try clear hb); (try clear hb2); (try clear hk); (try clear hi)) | ((with_reducible refine gate_callee (f := 11) rfl ?_); refine goesL_ (some 31) rfl rfl Tryd.func11 (by kernel_rfl) rfl #[.agg #[.int .i64 t315, .int .u64 t316], .int .i64 a1, .int .i64 a2] rfl ql_ ?_; (with_reducible refine (rounding_Divide.calls (hG := by first | exact hG | (with_reducible exact GW.below hG (qb_ HB.out)) | (with_reducible repeat (first | exact hG | apply GW.drewN | apply GW.drew))) t315 t316 a1 a2 t317 t318 _ A12.out).mono ?_); rintro e w19 ⟨rfl, hb⟩; refine ⟨_, rfl, ?_⟩; have n0_ := Aside0.mk (below_step (qb_ HB.out) hb); clear HB; have HB := n0_; clear n0_; (try clear hb); (try clear hb2); (try clear hk); (try clear hi)) | ((with_reducible refine gate_callee (f := 40) rfl ?_); refine goesL_ (some 40) rfl rfl Tryd.func40 (by kernel_rfl) rfl #[.int .i64 (wrap64 (t317 * a1))] rfl ql_ ?_; (with_reducible refine (rounding_valid.calls (wrap64 (t317 * a1)) false _ A14.out).mono ?_); rintro e w' ⟨rfl, ⟨nd, rfl⟩⟩; refine ⟨_, rfl, ?_⟩))
      go_ret2
      exact ⟨qe_, qb_ HB.out⟩
    ·rw [if_neg c13] at H
     have c13b0 : (t318 == 0) = false := beq_eq_false_iff_ne.mpr c13
     have c13b1 : (t318 != 0) = true := bne_iff_ne.mpr c13
     simp only [Option.some.injEq, Prod.mk.injEq] at H
     obtain ⟨rfl, rfl⟩ := H
     go_wp2_with (first | ((with_reducible refine gate_callee (f := 36) rfl ?_); refine goesL_ (some 28) rfl rfl Tryd.func36 (by kernel_rfl) rfl #[.int .i64 a0] rfl ql_ ?_; (with_reducible refine (wide_Of.calls a0 t315 t316 _ A11.out).mono ?_); rintro e w20 ⟨rfl, hb⟩; refine ⟨_, rfl, ?_⟩; have n0_ := Aside0.mk (below_step (qb_ HB.out) hb); clear HB; have HB := n0_; clear n0_; (try clear hb); (try clear hb2); (try clear hk); (try clear hi)) | ((with_reducible refine gate_callee (f := 11) rfl ?_); refine goesL_ (some 31) rfl rfl Tryd.func11 (by kernel_rfl) rfl #[.agg #[.int .i64 t315, .int .u64 t316], .int .i64 a1, .int .i64 a2] rfl ql_ ?_; (with_reducible refine (rounding_Divide.calls (hG := by first | exact hG | (with_reducible exact GW.below hG (qb_ HB.out)) | (with_reducible repeat (first | exact hG | apply GW.drewN | apply GW.drew))) t315 t316 a1 a2 t317 t318 _ A12.out).mono ?_); rintro e w21 ⟨rfl, hb⟩; refine ⟨_, rfl, ?_⟩; have n0_ := Aside0.mk (below_step (qb_ HB.out) hb); clear HB; have HB := n0_; clear n0_; (try clear hb); (try clear hb2); (try clear hk); (try clear hi)))
     go_ret2
     exact ⟨qe_, qb_ HB.out⟩
def stepR (a s m : Int) : Int × Int :=
 if (-1000000000000 ≤ a ∧ a ≤ 1000000000000 ∧ 1 ≤ s ∧ s ≤ 1000000000000) ∧ 1 ≤ m ∧ m ≤ 6 then
  (if -1000000000000 ≤ rq a s m * s ∧ rq a s m * s ≤ 1000000000000 then (rq a s m * s, 0) else (0, 6)) else (0, 1)
theorem step_range {a s : Int} (m : Int) (h : -1000000000000 ≤ a ∧ a ≤ 1000000000000 ∧ 1 ≤ s ∧ s ≤ 1000000000000) :
  (-1000000000000 ≤ rq a s m ∧ rq a s m ≤ 1000000000000) ∧ -3000000000000 ≤ rq a s m * s ∧ rq a s m * s ≤ 3000000000000 := by
 obtain ⟨h0, h1, h2, h3⟩ := h
 have hs : 0 < s := by omega
 have p0 : 1000000000000 * 1 ≤ 1000000000000 * s := Int.mul_le_mul_of_nonneg_left h2 (by decide)
 refine ⟨⟨rq_ge_of hs (by rw [Int.neg_mul]; omega), rq_le_of hs (by omega)⟩, ?_⟩
 have e := Int.emod_add_mul_ediv a s
 have e0 := Int.emod_nonneg a (show s ≠ 0 by omega)
 have e1 := Int.emod_lt_of_pos a hs
 have e2 : (a / s + 1) * s = s * (a / s) + s := by rw [Int.add_mul, Int.one_mul, Int.mul_comm]
 have e3 : a / s * s = s * (a / s) := Int.mul_comm _ _
 have := rq_ge a s m
 have := rq_le a s m
 by_cases c : rq a s m = a / s
 ·rw [c]; omega
 ·have : rq a s m = a / s + 1 := by omega
  rw [this]; omega
theorem step_div {a s m : Int} (h : -1000000000000 ≤ a ∧ a ≤ 1000000000000 ∧ 1 ≤ s ∧ s ≤ 1000000000000) (hm : 1 ≤ m ∧ m ≤ 6) : divR a s m = (rq a s m, 0) := by
 have hr := step_range m h
 unfold divR
 rw [if_neg (by omega), if_pos (by unfold inI; omega)]
def rounding_Step.f (a0 a1 a2 : Int) : Option (Int × Int) := some (stepR a0 a1 a2)
theorem rounding_Step.eq {a s m : Int} {r : Int × Int} (h : rounding_Step.f a s m = some r) : ∃ k, rounding_StepP.f k a s m = some r := by
 unfold rounding_Step.f at h
 rw [← h]
 refine ⟨2, ?_⟩
 unfold rounding_StepP.f rounding_valid.f stepR
 simp only [rounding_StepP.j0]
 by_cases h0 : a ≥ -1000000000000 <;> by_cases h1 : a ≤ 1000000000000
 ·rw [if_pos h0, decide_eq_true h1]
  simp only [Option.bind_some, if_true]
  by_cases h2 : s < 1
  ·rw [if_pos h2, if_neg (by omega)]
  ·rw [if_neg h2]
   by_cases h3 : s > 1000000000000
   ·rw [if_pos h3, if_neg (by omega)]
   ·rw [if_neg h3]
    have hA : -1000000000000 ≤ a ∧ a ≤ 1000000000000 ∧ 1 ≤ s ∧ s ≤ 1000000000000 := ⟨h0, h1, by omega, by omega⟩
    have hv : rounding_Valid.f m = some (decide (1 ≤ m ∧ m ≤ 6)) := by
     unfold rounding_Valid.f
     split
     ·congr 1; apply decide_eq_decide.mpr; omega
     ·congr 1; symm; apply decide_eq_false; omega
    rw [hv]
    simp only [Option.bind_some]
    by_cases hm : 1 ≤ m ∧ m ≤ 6
    ·rw [decide_eq_true hm, if_neg (by decide), if_pos ⟨hA, hm⟩]
     have hr := step_range m hA
     unfold wide_Of.f
     rw [if_pos (by unfold inI; omega)]
     simp only [Option.bind_some]
     unfold rounding_Divide.f
     rw [if_pos ⟨⟨by unfold inI; omega, by unfold inU; omega⟩, by unfold inI; omega⟩]
     simp only [Option.bind_some]
     have hw : wv (a / 18446744073709551616) (a % 18446744073709551616) = a := by unfold wv; omega
     rw [hw, step_div hA hm]
     simp only [if_true]
     rw [i64_id _ (by omega) (by omega)]
     generalize rq a s m * s = x at *
     unfold rounding_valid.f
     by_cases g0 : x ≥ -1000000000000
     ·rw [if_pos g0]
      by_cases g1 : x ≤ 1000000000000
      ·rw [decide_eq_true g1, if_pos ⟨g0, g1⟩]; simp
      ·rw [decide_eq_false g1, if_neg (by omega)]; simp
     ·rw [if_neg g0, if_neg (by omega)]; simp
    ·rw [decide_eq_false hm, if_pos (by decide), if_neg (fun c => hm c.2)]
 ·have hn : ¬ ((-1000000000000 ≤ a ∧ a ≤ 1000000000000 ∧ 1 ≤ s ∧ s ≤ 1000000000000) ∧ 1 ≤ m ∧ m ≤ 6) := by omega
  rw [if_pos h0, decide_eq_false h1, if_neg hn]
  rfl
 ·have hn : ¬ ((-1000000000000 ≤ a ∧ a ≤ 1000000000000 ∧ 1 ≤ s ∧ s ≤ 1000000000000) ∧ 1 ≤ m ∧ m ≤ 6) := by omega
  rw [if_neg h0, if_neg hn]
  rfl
 ·have hn : ¬ ((-1000000000000 ≤ a ∧ a ≤ 1000000000000 ∧ 1 ≤ s ∧ s ≤ 1000000000000) ∧ 1 ≤ m ∧ m ≤ 6) := by omega
  rw [if_neg h0, if_neg hn]
  rfl
theorem rounding_Step.calls (a0 : Int) (a1 : Int) (a2 : Int) (r1 : Int) (r2 : Int) (w : World) (hG : GW w) (h : rounding_Step.f a0 a1 a2 = some (r1, r2)) :
  Calls Tryd.prog 29 #[.int .i64 a0, .int .i64 a1, .int .i64 a2] w fun e w' => e = .returned (.tuple #[.int .i64 r1, .int .i64 r2]) ∧ Below w.heap.size w w' := by
 obtain ⟨k, h⟩ := rounding_Step.eq h
 exact rounding_StepP.calls k a0 a1 a2 r1 r2 w hG h
end Go.Proofs.YtkdhippoibjfkaaDoor.PR
end
