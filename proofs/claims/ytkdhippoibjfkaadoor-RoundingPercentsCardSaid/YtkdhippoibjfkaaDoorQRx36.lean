import Derived.Test.YtkdhippoibjfkaaDoorQRm2
import Derived.Test.YtkdhippoibjfkaaDoorQRm8
import Derived.Test.YtkdhippoibjfkaaDoorQRm9
import Derived.Test.YtkdhippoibjfkaaDoorQRm11
import Derived.Test.YtkdhippoibjfkaaDoorQRx32
namespace Go.Proofs.YtkdhippoibjfkaaDoor.PR
open Go.RowKit Go.Proofs.YtkdhippoibjfkaaDoorW.PrintWords Go.Proofs.YtkdhippoibjfkaaDoorW.PrintLast
set_option linter.unusedVariables false
set_option linter.unusedSimpArgs false
def corebankref02_PercentP.j0 : Nat → Int → Int → Int → Bool → Option (Int × Int)
 | 0, _, _, _, _ => none
 | k + 1, x0, x1, x2, x18 => if x18 = true then (some (0, 1)) else ((corebankref01_Mul.f x0 x1).bind fun bt443 => ((corebankref02_Divide.f bt443.1 bt443.2 1000000 x2).bind fun bt445 => (some (bt445.1, bt445.2))))
def corebankref02_PercentP.f (k : Nat) (a0 : Int) (a1 : Int) (a2 : Int) : Option (Int × Int) := (corebankref02_Good.f a0).bind fun t442 => (if t442 = true then (if a1 < 0 then (corebankref02_PercentP.j0 k a0 a1 a2 true) else (corebankref02_PercentP.j0 k a0 a1 a2 (decide (a1 > 1000000)))) else (corebankref02_PercentP.j0 k a0 a1 a2 true))
theorem corebankref02_PercentP.mono_l : ∀ k, (∀ y0 y1 y2 y3, LeO (corebankref02_PercentP.j0 k y0 y1 y2 y3) (corebankref02_PercentP.j0 (k + 1) y0 y1 y2 y3))
 | 0 => fun _ _ _ _ r h => by simp [corebankref02_PercentP.j0] at h
 | k + 1 => by
  have ih0 := corebankref02_PercentP.mono_l k
  ·intro y0 y1 y2 y3
   unfold corebankref02_PercentP.j0
   repeat' first
   | (with_reducible exact ih0 _ _ _ _)
   | (with_reducible exact LeO.refl _)
   | (with_reducible exact LeO.none _)
   | (with_reducible refine LeO.ite ?_ ?_)
   | (with_reducible refine LeO.bind ?_ (fun _ => ?_))
   | exact ih0 _ _ _ _
   | exact LeO.none _
   | refine LeO.ite ?_ ?_
   | refine LeO.bind ?_ (fun _ => ?_)
theorem corebankref02_PercentP.mono : ∀ a0 a1 a2 k, LeO (corebankref02_PercentP.f k a0 a1 a2) (corebankref02_PercentP.f (k + 1) a0 a1 a2) := by
 intro a0 a1 a2 k
 have ih0 := corebankref02_PercentP.mono_l k
 unfold corebankref02_PercentP.f
 repeat' first
   | (with_reducible exact ih0 _ _ _ _)
   | (with_reducible exact LeO.refl _)
   | (with_reducible exact LeO.none _)
   | (with_reducible refine LeO.ite ?_ ?_)
   | (with_reducible refine LeO.bind ?_ (fun _ => ?_))
   | exact ih0 _ _ _ _
   | exact LeO.none _
   | refine LeO.ite ?_ ?_
   | refine LeO.bind ?_ (fun _ => ?_)
set_option maxHeartbeats 8000000 in
set_option maxRecDepth 100000 in
theorem corebankref02_PercentP.calls (k : Nat) (a0 : Int) (a1 : Int) (a2 : Int) (r1 : Int) (r2 : Int) (w : World) (h : corebankref02_PercentP.f k a0 a1 a2 = some (r1, r2)) :
  Calls Tryd.prog 23 #[.int .i64 a0, .int .i64 a1, .int .i64 a2] w fun e w' => e = .returned (.tuple #[.int .i64 r1, .int .i64 r2]) ∧ Below w.heap.size w w' := by
 have HB := Aside0.mk (Below.refl w.heap.size w)
 have H : ((corebankref02_Good.f a0).bind fun t442 => (if t442 = true then (if a1 < 0 then (corebankref02_PercentP.j0 k a0 a1 a2 true) else (corebankref02_PercentP.j0 k a0 a1 a2 (decide (a1 > 1000000)))) else (corebankref02_PercentP.j0 k a0 a1 a2 true))) = some (r1, r2) := h
 clear h
 have HC4 := Aside0.mk H
 clear H
 go_enter Tryd.func23, Tryd.ntmps23
 go_upto_region 1 with (fail)
 go_cut [18] (fun v18 wc => ∃ (kq : Nat) (x18_3 : Bool), v18 = .bool x18_3 ∧ Aside0 (corebankref02_PercentP.j0 kq a0 a1 a2 x18_3 = some (r1, r2)) ∧ Aside0 (kq ≤ k) ∧ Aside0 (Below w.heap.size w wc))
 case first =>
  have H := HC4.out
  clear HC4
  replace H := Option.bind_eq_some_iff.mp H
  obtain ⟨t442, A50, H⟩ := H
  replace H : (if t442 = true then (if a1 < 0 then (corebankref02_PercentP.j0 k a0 a1 a2 true) else (corebankref02_PercentP.j0 k a0 a1 a2 (decide (a1 > 1000000)))) else (corebankref02_PercentP.j0 k a0 a1 a2 true)) = some (r1, r2) := H
  have A5 := Aside0.mk A50
  clear A50
  by_cases c6 : t442 = true
  ·subst c6
   have H1 : (if a1 < 0 then (corebankref02_PercentP.j0 k a0 a1 a2 true) else (corebankref02_PercentP.j0 k a0 a1 a2 (decide (a1 > 1000000)))) = some (r1, r2) := by rw [if_pos rfl] at H; exact H
   clear H
   have H := H1
   clear H1
   by_cases c7 : a1 < 0
   ·rw [if_pos c7] at H
    have c7b0 : decide (a1 < 0) = true := decide_eq_true c7
    clear c7
    (first | rw [c7b0] | (simp only [i64_w, i32_w]; rw [c7b0]) | skip)
    have H' := Aside0.mk H
    clear H
    go_wp2_with (first | ((with_reducible refine gate_callee (f := 27) rfl ?_); refine goesL_ (some 9) rfl rfl Tryd.func27 (by kernel_rfl) rfl #[.int .i64 a0] rfl ql_ ?_; (with_reducible refine (corebankref02_Good.calls a0 true _ A5.out).mono ?_); rintro e w' ⟨rfl, ⟨nd, rfl⟩⟩; refine ⟨_, rfl, ?_⟩))
    go_meet
    case rel => exact ⟨_, (true), qs_, H', ⟨qo_⟩, ⟨qb_ HB.out⟩⟩
   ·rw [if_neg c7] at H
    have c7b0 : decide (a1 < 0) = false := decide_eq_false c7
    clear c7
    (first | rw [c7b0] | (simp only [i64_w, i32_w]; rw [c7b0]) | skip)
    have H' := Aside0.mk H
    clear H
    go_wp2_with (first | ((with_reducible refine gate_callee (f := 27) rfl ?_); refine goesL_ (some 9) rfl rfl Tryd.func27 (by kernel_rfl) rfl #[.int .i64 a0] rfl ql_ ?_; (with_reducible refine (corebankref02_Good.calls a0 true _ A5.out).mono ?_); rintro e w' ⟨rfl, ⟨nd, rfl⟩⟩; refine ⟨_, rfl, ?_⟩))
    go_meet
    case rel => exact ⟨_, (decide (a1 > 1000000)), qs_, H', ⟨qo_⟩, ⟨qb_ HB.out⟩⟩
  ·replace c6 := Bool.eq_false_iff.mpr c6
   subst c6
   have H1 : (corebankref02_PercentP.j0 k a0 a1 a2 true) = some (r1, r2) := by rw [if_neg (show ¬ (false = true) by decide)] at H; exact H
   clear H
   have H := H1
   clear H1
   have H' := Aside0.mk H
   clear H
   go_wp2_with (first | ((with_reducible refine gate_callee (f := 27) rfl ?_); refine goesL_ (some 9) rfl rfl Tryd.func27 (by kernel_rfl) rfl #[.int .i64 a0] rfl ql_ ?_; (with_reducible refine (corebankref02_Good.calls a0 false _ A5.out).mono ?_); rintro e w' ⟨rfl, ⟨nd, rfl⟩⟩; refine ⟨_, rfl, ?_⟩))
   go_meet
   case rel => exact ⟨_, (true), qs_, H', ⟨qo_⟩, ⟨qb_ HB.out⟩⟩
 case rest =>
  clear HC4
  try clear c2
  try clear p2
  try clear c6
  try clear c7
  try clear c7b0
  obtain ⟨kq, x18_3, rfl, HA, HJ3, HB⟩ := hcut
  cases kq with
  | zero => exact absurd HA.out (by simp [corebankref02_PercentP.j0])
  | succ kj3 =>
   have H := HA.out
   clear HA
   simp only [corebankref02_PercentP.j0] at H
   by_cases c8 : x18_3 = true
   ·subst c8
    have H1 : (some (0, 1)) = some (r1, r2) := by rw [if_pos rfl] at H; exact H
    clear H
    have H := H1
    clear H1
    simp only [Option.some.injEq, Prod.mk.injEq] at H
    obtain ⟨rfl, rfl⟩ := H
    go_wp2
    go_ret2
    exact ⟨qe_, qb_ HB.out⟩
   ·replace c8 := Bool.eq_false_iff.mpr c8
    subst c8
    have H1 : ((corebankref01_Mul.f a0 a1).bind fun bt443 => ((corebankref02_Divide.f bt443.1 bt443.2 1000000 a2).bind fun bt445 => (some (bt445.1, bt445.2)))) = some (r1, r2) := by rw [if_neg (show ¬ (false = true) by decide)] at H; exact H
    clear H
    have H := H1
    clear H1
    replace H := Option.bind_eq_some_iff.mp H
    obtain ⟨⟨t443, t444⟩, A90, H⟩ := H
    replace H : ((corebankref02_Divide.f t443 t444 1000000 a2).bind fun bt445 => (some (bt445.1, bt445.2))) = some (r1, r2) := H
    have A9 := Aside0.mk A90
    clear A90
    replace H := Option.bind_eq_some_iff.mp H
    obtain ⟨⟨t445, t446⟩, A100, H⟩ := H
    replace H : (some (t445, t446)) = some (r1, r2) := H
    have A10 := Aside0.mk A100
    clear A100
    simp only [Option.some.injEq, Prod.mk.injEq] at H
    obtain ⟨rfl, rfl⟩ := H
    go_wp2_with (first | ((with_reducible refine gate_callee (f := 19) rfl ?_); refine goesL_ (some 21) rfl rfl Tryd.func19 (by kernel_rfl) rfl #[.int .i64 a0, .int .i64 a1] rfl ql_ ?_; (with_reducible refine (corebankref01_Mul.calls a0 a1 t443 t444 _ A9.out).mono ?_); rintro e w11 ⟨rfl, hb⟩; refine ⟨_, rfl, ?_⟩; have n0_ := Aside0.mk (below_step (qb_ HB.out) hb); clear HB; have HB := n0_; clear n0_; (try clear hb); (try clear hb2); (try clear hk); (try clear hi)) | ((with_reducible refine gate_callee (f := 12) rfl ?_); refine goesL_ (some 23) rfl rfl Tryd.func12 (by kernel_rfl) rfl #[.agg #[.int .i64 t443, .int .u64 t444], .int .i64 1000000, .int .i64 a2] rfl ql_ ?_; (with_reducible refine (corebankref02_Divide.calls t443 t444 1000000 a2 t445 t446 _ A10.out).mono ?_); rintro e w12 ⟨rfl, hb⟩; refine ⟨_, rfl, ?_⟩; have n0_ := Aside0.mk (below_step (qb_ HB.out) hb); clear HB; have HB := n0_; clear n0_; (try clear hb); (try clear hb2); (try clear hk); (try clear hi)))
    go_ret2
    exact ⟨qe_, qb_ HB.out⟩
def corebankref02_Percent.f (a0 a1 a2 : Int) : Option (Int × Int) := some (pctR a0 a1 a2)
theorem corebankref02_Percent.eq {a p m : Int} {r : Int × Int} (h : corebankref02_Percent.f a p m = some r) : ∃ k, corebankref02_PercentP.f k a p m = some r := by
 unfold corebankref02_Percent.f at h
 rw [← h]
 refine ⟨1, ?_⟩
 unfold corebankref02_PercentP.f corebankref02_Good.f pctR
 simp only [corebankref02_PercentP.j0]
 by_cases h0 : a ≥ -1000000000000 <;> by_cases h1 : a ≤ 1000000000000
 ·rw [if_pos h0, decide_eq_true h1]
  simp only [Option.bind_some, if_true]
  by_cases h2 : p < 0
  ·rw [if_pos h2, if_neg (by omega)]
  ·rw [if_neg h2]
   by_cases h3 : p > 1000000
   ·rw [decide_eq_true h3, if_pos rfl, if_neg (by omega)]
   ·rw [decide_eq_false h3, if_neg (by decide)]
    have hr := pct_range (a := a) (p := p) ⟨h0, h1, by omega, by omega⟩
    rw [if_pos ⟨h0, h1, by omega, by omega⟩]
    unfold corebankref01_Mul.f
    rw [if_pos ⟨by unfold inI; omega, by unfold inI; omega⟩]
    simp only [Option.bind_some]
    unfold corebankref02_Divide.f
    rw [if_pos ⟨⟨by unfold inI; omega, by unfold inU; omega⟩, by decide⟩]
    simp only [Option.bind_some]
    have hw : wv (a * p / 18446744073709551616) (a * p % 18446744073709551616) = a * p := by unfold wv; omega
    rw [hw]
 ·have hn : ¬ (-1000000000000 ≤ a ∧ a ≤ 1000000000000 ∧ 0 ≤ p ∧ p ≤ 1000000) := by omega
  rw [if_pos h0, decide_eq_false h1, if_neg hn]
  rfl
 ·have hn : ¬ (-1000000000000 ≤ a ∧ a ≤ 1000000000000 ∧ 0 ≤ p ∧ p ≤ 1000000) := by omega
  rw [if_neg h0, if_neg hn]
  rfl
 ·have hn : ¬ (-1000000000000 ≤ a ∧ a ≤ 1000000000000 ∧ 0 ≤ p ∧ p ≤ 1000000) := by omega
  rw [if_neg h0, if_neg hn]
  rfl
theorem corebankref02_Percent.calls (a0 : Int) (a1 : Int) (a2 : Int) (r1 : Int) (r2 : Int) (w : World) (h : corebankref02_Percent.f a0 a1 a2 = some (r1, r2)) :
  Calls Tryd.prog 23 #[.int .i64 a0, .int .i64 a1, .int .i64 a2] w fun e w' => e = .returned (.tuple #[.int .i64 r1, .int .i64 r2]) ∧ Below w.heap.size w w' := by
 obtain ⟨k, h⟩ := corebankref02_Percent.eq h
 exact corebankref02_PercentP.calls k a0 a1 a2 r1 r2 w h
def corebanklaw02_RoundingPercents.f (a0 : Int) (a1 : Int) (a2 : Int) : Option (Bool) := (rounding_Percent.f a0 a1 a2).bind fun bt447 => ((corebankref02_Percent.f a0 a1 a2).bind fun bt449 => (if bt447.1 = bt449.1 then (if bt447.2 = bt449.2 then ((corebanklaw02_live.f).bind fun t451 => (some t451)) else (some false)) else (some false)))
set_option maxHeartbeats 8000000 in
set_option maxRecDepth 100000 in
theorem corebanklaw02_RoundingPercents.calls (a0 : Int) (a1 : Int) (a2 : Int) (r : Bool) (w : World) (hG : GW w) (h : corebanklaw02_RoundingPercents.f a0 a1 a2 = some r) :
  Calls Tryd.prog 5 #[.int .i64 a0, .int .i64 a1, .int .i64 a2] w fun e w' => e = .returned (.bool r) ∧ Below w.heap.size w w' := by
 have HB := Aside0.mk (Below.refl w.heap.size w)
 have H : ((rounding_Percent.f a0 a1 a2).bind fun bt447 => ((corebankref02_Percent.f a0 a1 a2).bind fun bt449 => (if bt447.1 = bt449.1 then (if bt447.2 = bt449.2 then ((corebanklaw02_live.f).bind fun t451 => (some t451)) else (some false)) else (some false)))) = some r := h
 clear h
 replace H := Option.bind_eq_some_iff.mp H
 obtain ⟨⟨t447, t448⟩, A40, H⟩ := H
 replace H : ((corebankref02_Percent.f a0 a1 a2).bind fun bt449 => (if t447 = bt449.1 then (if t448 = bt449.2 then ((corebanklaw02_live.f).bind fun t451 => (some t451)) else (some false)) else (some false))) = some r := H
 have A4 := Aside0.mk A40
 clear A40
 replace H := Option.bind_eq_some_iff.mp H
 obtain ⟨⟨t449, t450⟩, A50, H⟩ := H
 replace H : (if t447 = t449 then (if t448 = t450 then ((corebanklaw02_live.f).bind fun t451 => (some t451)) else (some false)) else (some false)) = some r := H
 have A5 := Aside0.mk A50
 clear A50
 by_cases c6 : t447 = t449
 ·rw [if_pos c6] at H
  have c6b0 : (t447 == t449) = true := beq_iff_eq.mpr c6
  have c6b1 : (t447 != t449) = false := bne_eq_false_iff_eq.mpr c6
  clear c6
  by_cases c7 : t448 = t450
  ·rw [if_pos c7] at H
   have c7b0 : (t448 == t450) = true := beq_iff_eq.mpr c7
   have c7b1 : (t448 != t450) = false := bne_eq_false_iff_eq.mpr c7
   clear c7
   replace H := Option.bind_eq_some_iff.mp H
   obtain ⟨t451, A80, H⟩ := H
   replace H : (some t451) = some r := H
   have A8 := Aside0.mk A80
   clear A80
   obtain rfl := Option.some.inj H
   go_enter Tryd.func5, Tryd.ntmps5
   go_wp2_with (first | ((with_reducible refine gate_callee (f := 22) rfl ?_); refine goesL_ (some 15) rfl rfl Tryd.func22 (by kernel_rfl) rfl #[.int .i64 a0, .int .i64 a1, .int .i64 a2] rfl ql_ ?_; (with_reducible refine (rounding_Percent.calls (hG := by first | exact hG | (with_reducible exact GW.below hG (qb_ HB.out)) | (with_reducible repeat (first | exact hG | apply GW.drewN | apply GW.drew))) a0 a1 a2 t447 t448 _ A4.out).mono ?_); rintro e w9 ⟨rfl, hb⟩; refine ⟨_, rfl, ?_⟩; have n0_ := Aside0.mk (below_step (qb_ HB.out) hb); clear HB; have HB := n0_; clear n0_; (try clear hb); (try clear hb2); (try clear hk); (try clear hi)) | ((with_reducible refine gate_callee (f := 23) rfl ?_); refine goesL_ (some 22) rfl rfl Tryd.func23 (by kernel_rfl) rfl #[.int .i64 a0, .int .i64 a1, .int .i64 a2] rfl ql_ ?_; (with_reducible refine (corebankref02_Percent.calls a0 a1 a2 t449 t450 _ A5.out).mono ?_); rintro e w10 ⟨rfl, hb⟩; refine ⟨_, rfl, ?_⟩; have n0_ := Aside0.mk (below_step (qb_ HB.out) hb); clear HB; have HB := n0_; clear n0_; (try clear hb); (try clear hb2); (try clear hk); (try clear hi)) | (go_at_call 15; (with_reducible refine (corebanklaw02_live.calls (hG := by first | exact hG | (with_reducible exact GW.below hG (qb_ HB.out)) | (with_reducible repeat (first | exact hG | apply GW.drewN | apply GW.drew)))  t451 _ A8.out).mono ?_); rintro e w11 ⟨rfl, hb⟩; have n0_ := Aside0.mk (below_step (qb_ HB.out) hb); clear HB; have HB := n0_; clear n0_; (try clear hb); (try clear hb2); (try clear hk); (try clear hi)))
   go_ret
   exact ⟨qe_, qb_ HB.out⟩
  ·rw [if_neg c7] at H
   have c7b0 : (t448 == t450) = false := beq_eq_false_iff_ne.mpr c7
   have c7b1 : (t448 != t450) = true := bne_iff_ne.mpr c7
   obtain rfl := Option.some.inj H
   go_enter Tryd.func5, Tryd.ntmps5
   go_wp2_with (first | ((with_reducible refine gate_callee (f := 22) rfl ?_); refine goesL_ (some 15) rfl rfl Tryd.func22 (by kernel_rfl) rfl #[.int .i64 a0, .int .i64 a1, .int .i64 a2] rfl ql_ ?_; (with_reducible refine (rounding_Percent.calls (hG := by first | exact hG | (with_reducible exact GW.below hG (qb_ HB.out)) | (with_reducible repeat (first | exact hG | apply GW.drewN | apply GW.drew))) a0 a1 a2 t447 t448 _ A4.out).mono ?_); rintro e w12 ⟨rfl, hb⟩; refine ⟨_, rfl, ?_⟩; have n0_ := Aside0.mk (below_step (qb_ HB.out) hb); clear HB; have HB := n0_; clear n0_; (try clear hb); (try clear hb2); (try clear hk); (try clear hi)) | ((with_reducible refine gate_callee (f := 23) rfl ?_); refine goesL_ (some 22) rfl rfl Tryd.func23 (by kernel_rfl) rfl #[.int .i64 a0, .int .i64 a1, .int .i64 a2] rfl ql_ ?_; (with_reducible refine (corebankref02_Percent.calls a0 a1 a2 t449 t450 _ A5.out).mono ?_); rintro e w13 ⟨rfl, hb⟩; refine ⟨_, rfl, ?_⟩; have n0_ := Aside0.mk (below_step (qb_ HB.out) hb); clear HB; have HB := n0_; clear n0_; (try clear hb); (try clear hb2); (try clear hk); (try clear hi)))
   go_ret
   exact ⟨qe_, qb_ HB.out⟩
 ·rw [if_neg c6] at H
  have c6b0 : (t447 == t449) = false := beq_eq_false_iff_ne.mpr c6
  have c6b1 : (t447 != t449) = true := bne_iff_ne.mpr c6
  obtain rfl := Option.some.inj H
  go_enter Tryd.func5, Tryd.ntmps5
  go_wp2_with (first | ((with_reducible refine gate_callee (f := 22) rfl ?_); refine goesL_ (some 15) rfl rfl Tryd.func22 (by kernel_rfl) rfl #[.int .i64 a0, .int .i64 a1, .int .i64 a2] rfl ql_ ?_; (with_reducible refine (rounding_Percent.calls (hG := by first | exact hG | (with_reducible exact GW.below hG (qb_ HB.out)) | (with_reducible repeat (first | exact hG | apply GW.drewN | apply GW.drew))) a0 a1 a2 t447 t448 _ A4.out).mono ?_); rintro e w14 ⟨rfl, hb⟩; refine ⟨_, rfl, ?_⟩; have n0_ := Aside0.mk (below_step (qb_ HB.out) hb); clear HB; have HB := n0_; clear n0_; (try clear hb); (try clear hb2); (try clear hk); (try clear hi)) | ((with_reducible refine gate_callee (f := 23) rfl ?_); refine goesL_ (some 22) rfl rfl Tryd.func23 (by kernel_rfl) rfl #[.int .i64 a0, .int .i64 a1, .int .i64 a2] rfl ql_ ?_; (with_reducible refine (corebankref02_Percent.calls a0 a1 a2 t449 t450 _ A5.out).mono ?_); rintro e w15 ⟨rfl, hb⟩; refine ⟨_, rfl, ?_⟩; have n0_ := Aside0.mk (below_step (qb_ HB.out) hb); clear HB; have HB := n0_; clear n0_; (try clear hb); (try clear hb2); (try clear hk); (try clear hi)))
  go_ret
  exact ⟨qe_, qb_ HB.out⟩
/-- THE ONE PURE STATEMENT of corebanklaw02_RoundingPercents: yours. -/
def corebanklaw02_RoundingPercents.Pure : Prop := ∀ (a0 : Int) (a1 : Int) (a2 : Int), (Lit.int .i64 a0).wf = true → (Lit.int .i64 a1).wf = true → (Lit.int .i64 a2).wf = true → corebanklaw02_RoundingPercents.f a0 a1 a2 = some true
theorem corebanklaw02_RoundingPercents.walk (P : corebanklaw02_RoundingPercents.Pure) (a0 : Int) (a1 : Int) (a2 : Int) (w : World) (hG : GW w) (w0 : (Lit.int .i64 a0).wf = true) (w1 : (Lit.int .i64 a1).wf = true) (w2 : (Lit.int .i64 a2).wf = true) :
  Calls Tryd.prog 5 #[.int .i64 a0, .int .i64 a1, .int .i64 a2] w fun e w' => e = .returned (.bool true) ∧ Below w.heap.size w w' := by
 have h := P a0 a1 a2 w0 w1 w2
 refine (corebanklaw02_RoundingPercents.calls a0 a1 a2 true w hG h).mono ?_
 rintro e w' ⟨rfl, hd⟩
 exact ⟨rfl, hd⟩
end Go.Proofs.YtkdhippoibjfkaaDoor.PR
