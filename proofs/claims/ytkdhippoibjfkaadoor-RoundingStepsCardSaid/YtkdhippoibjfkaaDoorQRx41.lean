import Derived.Test.YtkdhippoibjfkaaDoorQRm2
import Derived.Test.YtkdhippoibjfkaaDoorQRm5
import Derived.Test.YtkdhippoibjfkaaDoorQRm6
import Derived.Test.YtkdhippoibjfkaaDoorQRm7
import Derived.Test.YtkdhippoibjfkaaDoorQRm8
import Derived.Test.YtkdhippoibjfkaaDoorQRm10
import Derived.Test.YtkdhippoibjfkaaDoorQRx32
namespace Go.Proofs.YtkdhippoibjfkaaDoor.PR
open Go.RowKit Go.Proofs.YtkdhippoibjfkaaDoorW.PrintWords Go.Proofs.YtkdhippoibjfkaaDoorW.PrintLast
set_option linter.unusedVariables false
set_option linter.unusedSimpArgs false
mutual
def corebankref02_StepP.j0 : Nat → Int → Int → Int → Bool → Option (Int × Int)
 | 0, _, _, _, _ => none
 | k + 1, x0, x1, x2, x27 => if x27 = true then (some (0, 1)) else ((corebankref01_Of.f x0).bind fun bt533 => ((corebankref02_Divide.f bt533.1 bt533.2 x1 x2).bind fun bt535 => ((corebankref01_Mul.f bt535.1 x1).bind fun bt537 => ((corebankref01_Int.f bt537.1 bt537.2).bind fun bt539 => (if bt539.2 = true then ((corebankref02_Good.f bt539.1).bind fun t541 => (corebankref02_StepP.j1 k bt539.1 (!t541))) else (corebankref02_StepP.j1 k bt539.1 true))))))
def corebankref02_StepP.j1 : Nat → Int → Bool → Option (Int × Int)
 | 0, _, _ => none
 | k + 1, x10, x49 => if x49 = true then (some (0, 6)) else (some (x10, 0))
end
def corebankref02_StepP.f (k : Nat) (a0 : Int) (a1 : Int) (a2 : Int) : Option (Int × Int) := (corebankref02_Good.f a0).bind fun t531 => (if t531 = true then (if a1 < 1 then (corebankref02_StepP.j0 k a0 a1 a2 true) else (if a1 > 1000000000000 then (corebankref02_StepP.j0 k a0 a1 a2 true) else ((corebankref02_Valid.f a2).bind fun t532 => (corebankref02_StepP.j0 k a0 a1 a2 (!t532))))) else (corebankref02_StepP.j0 k a0 a1 a2 true))
theorem corebankref02_StepP.mono_l : ∀ k, (∀ y0 y1 y2 y3, LeO (corebankref02_StepP.j0 k y0 y1 y2 y3) (corebankref02_StepP.j0 (k + 1) y0 y1 y2 y3)) ∧ (∀ y0 y1, LeO (corebankref02_StepP.j1 k y0 y1) (corebankref02_StepP.j1 (k + 1) y0 y1))
 | 0 => ⟨fun _ _ _ _ r h => by simp [corebankref02_StepP.j0] at h, fun _ _ r h => by simp [corebankref02_StepP.j1] at h⟩
 | k + 1 => by
  obtain ⟨ih0, ih1⟩ := corebankref02_StepP.mono_l k
  refine ⟨?_, ?_⟩
  ·intro y0 y1 y2 y3
   unfold corebankref02_StepP.j0
   repeat' first
   | (with_reducible exact ih0 _ _ _ _)
   | (with_reducible exact ih1 _ _)
   | (with_reducible exact LeO.refl _)
   | (with_reducible exact LeO.none _)
   | (with_reducible refine LeO.ite ?_ ?_)
   | (with_reducible refine LeO.bind ?_ (fun _ => ?_))
   | exact ih0 _ _ _ _
   | exact ih1 _ _
   | exact LeO.none _
   | refine LeO.ite ?_ ?_
   | refine LeO.bind ?_ (fun _ => ?_)
  ·intro y0 y1
   unfold corebankref02_StepP.j1
   repeat' first
   | (with_reducible exact ih0 _ _ _ _)
   | (with_reducible exact ih1 _ _)
   | (with_reducible exact LeO.refl _)
   | (with_reducible exact LeO.none _)
   | (with_reducible refine LeO.ite ?_ ?_)
   | (with_reducible refine LeO.bind ?_ (fun _ => ?_))
   | exact ih0 _ _ _ _
   | exact ih1 _ _
   | exact LeO.none _
   | refine LeO.ite ?_ ?_
   | refine LeO.bind ?_ (fun _ => ?_)
theorem corebankref02_StepP.mono : ∀ a0 a1 a2 k, LeO (corebankref02_StepP.f k a0 a1 a2) (corebankref02_StepP.f (k + 1) a0 a1 a2) := by
 intro a0 a1 a2 k
 obtain ⟨ih0, ih1⟩ := corebankref02_StepP.mono_l k
 unfold corebankref02_StepP.f
 repeat' first
   | (with_reducible exact ih0 _ _ _ _)
   | (with_reducible exact ih1 _ _)
   | (with_reducible exact LeO.refl _)
   | (with_reducible exact LeO.none _)
   | (with_reducible refine LeO.ite ?_ ?_)
   | (with_reducible refine LeO.bind ?_ (fun _ => ?_))
   | exact ih0 _ _ _ _
   | exact ih1 _ _
   | exact LeO.none _
   | refine LeO.ite ?_ ?_
   | refine LeO.bind ?_ (fun _ => ?_)
set_option maxHeartbeats 8000000 in
set_option maxRecDepth 100000 in
theorem corebankref02_StepP.calls (k : Nat) (a0 : Int) (a1 : Int) (a2 : Int) (r1 : Int) (r2 : Int) (w : World) (h : corebankref02_StepP.f k a0 a1 a2 = some (r1, r2)) :
  Calls Tryd.prog 30 #[.int .i64 a0, .int .i64 a1, .int .i64 a2] w fun e w' => e = .returned (.tuple #[.int .i64 r1, .int .i64 r2]) ∧ Below w.heap.size w w' := by
 have HB := Aside0.mk (Below.refl w.heap.size w)
 have H : ((corebankref02_Good.f a0).bind fun t531 => (if t531 = true then (if a1 < 1 then (corebankref02_StepP.j0 k a0 a1 a2 true) else (if a1 > 1000000000000 then (corebankref02_StepP.j0 k a0 a1 a2 true) else ((corebankref02_Valid.f a2).bind fun t532 => (corebankref02_StepP.j0 k a0 a1 a2 (!t532))))) else (corebankref02_StepP.j0 k a0 a1 a2 true))) = some (r1, r2) := h
 clear h
 have HC4 := Aside0.mk H
 clear H
 go_enter Tryd.func30, Tryd.ntmps30
 go_upto_region 1 with (fail)
 go_cut [27] (fun v27 wc => ∃ (kq : Nat) (x27_3 : Bool), v27 = .bool x27_3 ∧ Aside0 (corebankref02_StepP.j0 kq a0 a1 a2 x27_3 = some (r1, r2)) ∧ Aside0 (kq ≤ k) ∧ Aside0 (Below w.heap.size w wc))
 case first =>
  have H := HC4.out
  clear HC4
  replace H := Option.bind_eq_some_iff.mp H
  obtain ⟨t531, A50, H⟩ := H
  replace H : (if t531 = true then (if a1 < 1 then (corebankref02_StepP.j0 k a0 a1 a2 true) else (if a1 > 1000000000000 then (corebankref02_StepP.j0 k a0 a1 a2 true) else ((corebankref02_Valid.f a2).bind fun t532 => (corebankref02_StepP.j0 k a0 a1 a2 (!t532))))) else (corebankref02_StepP.j0 k a0 a1 a2 true)) = some (r1, r2) := H
  have A5 := Aside0.mk A50
  clear A50
  by_cases c6 : t531 = true
  ·subst c6
   have H1 : (if a1 < 1 then (corebankref02_StepP.j0 k a0 a1 a2 true) else (if a1 > 1000000000000 then (corebankref02_StepP.j0 k a0 a1 a2 true) else ((corebankref02_Valid.f a2).bind fun t532 => (corebankref02_StepP.j0 k a0 a1 a2 (!t532))))) = some (r1, r2) := by rw [if_pos rfl] at H; exact H
   clear H
   have H := H1
   clear H1
   by_cases c7 : a1 < 1
   ·rw [if_pos c7] at H
    have c7b0 : decide (a1 < 1) = true := decide_eq_true c7
    clear c7
    (first | rw [c7b0] | (simp only [i64_w, i32_w]; rw [c7b0]) | skip)
    have H' := Aside0.mk H
    clear H
    go_wp2_with (first | ((with_reducible refine gate_callee (f := 27) rfl ?_); refine goesL_ (some 13) rfl rfl Tryd.func27 (by kernel_rfl) rfl #[.int .i64 a0] rfl ql_ ?_; (with_reducible refine (corebankref02_Good.calls a0 true _ A5.out).mono ?_); rintro e w' ⟨rfl, ⟨nd, rfl⟩⟩; refine ⟨_, rfl, ?_⟩))
    go_meet
    case rel => exact ⟨_, (true), qs_, H', ⟨qo_⟩, ⟨qb_ HB.out⟩⟩
   ·rw [if_neg c7] at H
    have c7b0 : decide (a1 < 1) = false := decide_eq_false c7
    clear c7
    (first | rw [c7b0] | (simp only [i64_w, i32_w]; rw [c7b0]) | skip)
    by_cases c8 : a1 > 1000000000000
    ·rw [if_pos c8] at H
     have c8b0 : decide (1000000000000 < a1) = true := decide_eq_true c8
     clear c8
     have H' := Aside0.mk H
     clear H
     go_wp2_with (first | ((with_reducible refine gate_callee (f := 27) rfl ?_); refine goesL_ (some 13) rfl rfl Tryd.func27 (by kernel_rfl) rfl #[.int .i64 a0] rfl ql_ ?_; (with_reducible refine (corebankref02_Good.calls a0 true _ A5.out).mono ?_); rintro e w' ⟨rfl, ⟨nd, rfl⟩⟩; refine ⟨_, rfl, ?_⟩))
     go_meet
     case rel => exact ⟨_, (true), qs_, H', ⟨qo_⟩, ⟨qb_ HB.out⟩⟩
    ·rw [if_neg c8] at H
     have c8b0 : decide (1000000000000 < a1) = false := decide_eq_false c8
     clear c8
     replace H := Option.bind_eq_some_iff.mp H
     obtain ⟨t532, A90, H⟩ := H
     replace H : (corebankref02_StepP.j0 k a0 a1 a2 (!t532)) = some (r1, r2) := H
     have A9 := Aside0.mk A90
     clear A90
     have H' := Aside0.mk H
     clear H
     go_wp2_with (first | ((with_reducible refine gate_callee (f := 27) rfl ?_); refine goesL_ (some 13) rfl rfl Tryd.func27 (by kernel_rfl) rfl #[.int .i64 a0] rfl ql_ ?_; (with_reducible refine (corebankref02_Good.calls a0 true _ A5.out).mono ?_); rintro e w' ⟨rfl, ⟨nd, rfl⟩⟩; refine ⟨_, rfl, ?_⟩) | (go_at_call 14; (with_reducible refine (corebankref02_Valid.calls a2 t532 _ A9.out).mono ?_); rintro e w' ⟨rfl, ⟨nd, rfl⟩⟩))
     go_meet
     case rel => exact ⟨_, (!t532), qs_, H', ⟨qo_⟩, ⟨qb_ HB.out⟩⟩
  ·replace c6 := Bool.eq_false_iff.mpr c6
   subst c6
   have H1 : (corebankref02_StepP.j0 k a0 a1 a2 true) = some (r1, r2) := by rw [if_neg (show ¬ (false = true) by decide)] at H; exact H
   clear H
   have H := H1
   clear H1
   have H' := Aside0.mk H
   clear H
   go_wp2_with (first | ((with_reducible refine gate_callee (f := 27) rfl ?_); refine goesL_ (some 13) rfl rfl Tryd.func27 (by kernel_rfl) rfl #[.int .i64 a0] rfl ql_ ?_; (with_reducible refine (corebankref02_Good.calls a0 false _ A5.out).mono ?_); rintro e w' ⟨rfl, ⟨nd, rfl⟩⟩; refine ⟨_, rfl, ?_⟩))
   go_meet
   case rel => exact ⟨_, (true), qs_, H', ⟨qo_⟩, ⟨qb_ HB.out⟩⟩
 case rest =>
  clear HC4
  try clear c2
  try clear p2
  try clear c3
  try clear c6
  try clear c7
  try clear c7b0
  try clear c8
  try clear c8b0
  obtain ⟨kq, x27_3, rfl, HA, HJ3, HB⟩ := hcut
  cases kq with
  | zero => exact absurd HA.out (by simp [corebankref02_StepP.j0])
  | succ kj3 =>
   have H := HA.out
   clear HA
   simp only [corebankref02_StepP.j0] at H
   by_cases c10 : x27_3 = true
   ·subst c10
    have H1 : (some (0, 1)) = some (r1, r2) := by rw [if_pos rfl] at H; exact H
    clear H
    have H := H1
    clear H1
    simp only [Option.some.injEq, Prod.mk.injEq] at H
    obtain ⟨rfl, rfl⟩ := H
    go_wp2
    go_ret2
    exact ⟨qe_, qb_ HB.out⟩
   ·replace c10 := Bool.eq_false_iff.mpr c10
    subst c10
    have H1 : ((corebankref01_Of.f a0).bind fun bt533 => ((corebankref02_Divide.f bt533.1 bt533.2 a1 a2).bind fun bt535 => ((corebankref01_Mul.f bt535.1 a1).bind fun bt537 => ((corebankref01_Int.f bt537.1 bt537.2).bind fun bt539 => (if bt539.2 = true then ((corebankref02_Good.f bt539.1).bind fun t541 => (corebankref02_StepP.j1 kj3 bt539.1 (!t541))) else (corebankref02_StepP.j1 kj3 bt539.1 true)))))) = some (r1, r2) := by rw [if_neg (show ¬ (false = true) by decide)] at H; exact H
    clear H
    have H := H1
    clear H1
    replace H := Option.bind_eq_some_iff.mp H
    obtain ⟨⟨t533, t534⟩, A110, H⟩ := H
    replace H : ((corebankref02_Divide.f t533 t534 a1 a2).bind fun bt535 => ((corebankref01_Mul.f bt535.1 a1).bind fun bt537 => ((corebankref01_Int.f bt537.1 bt537.2).bind fun bt539 => (if bt539.2 = true then ((corebankref02_Good.f bt539.1).bind fun t541 => (corebankref02_StepP.j1 kj3 bt539.1 (!t541))) else (corebankref02_StepP.j1 kj3 bt539.1 true))))) = some (r1, r2) := H
    have A11 := Aside0.mk A110
    clear A110
    replace H := Option.bind_eq_some_iff.mp H
    obtain ⟨⟨t535, t536⟩, A120, H⟩ := H
    replace H : ((corebankref01_Mul.f t535 a1).bind fun bt537 => ((corebankref01_Int.f bt537.1 bt537.2).bind fun bt539 => (if bt539.2 = true then ((corebankref02_Good.f bt539.1).bind fun t541 => (corebankref02_StepP.j1 kj3 bt539.1 (!t541))) else (corebankref02_StepP.j1 kj3 bt539.1 true)))) = some (r1, r2) := H
    have A12 := Aside0.mk A120
    clear A120
    replace H := Option.bind_eq_some_iff.mp H
    obtain ⟨⟨t537, t538⟩, A130, H⟩ := H
    replace H : ((corebankref01_Int.f t537 t538).bind fun bt539 => (if bt539.2 = true then ((corebankref02_Good.f bt539.1).bind fun t541 => (corebankref02_StepP.j1 kj3 bt539.1 (!t541))) else (corebankref02_StepP.j1 kj3 bt539.1 true))) = some (r1, r2) := H
    have A13 := Aside0.mk A130
    clear A130
    replace H := Option.bind_eq_some_iff.mp H
    obtain ⟨⟨t539, t540⟩, A140, H⟩ := H
    replace H : (if t540 = true then ((corebankref02_Good.f t539).bind fun t541 => (corebankref02_StepP.j1 kj3 t539 (!t541))) else (corebankref02_StepP.j1 kj3 t539 true)) = some (r1, r2) := H
    have A14 := Aside0.mk A140
    clear A140
    have HC15 := Aside0.mk H
    clear H
    go_upto_region 5 with (first | ((with_reducible refine gate_callee (f := 21) rfl ?_); refine goesL_ (some 30) rfl rfl Tryd.func21 (by kernel_rfl) rfl #[.int .i64 a0] rfl ql_ ?_; (with_reducible refine (corebankref01_Of.calls a0 t533 t534 _ A11.out).mono ?_); rintro e w16 ⟨rfl, hb⟩; refine ⟨_, rfl, ?_⟩; have n0_ := Aside0.mk (below_step (qb_ HB.out) hb); clear HB; have HB := n0_; clear n0_; (try clear hb); (try clear hb2); (try clear hk); (try clear hi)) | ((with_reducible refine gate_callee (f := 12) rfl ?_); refine goesL_ (some 33) rfl rfl Tryd.func12 (by kernel_rfl) rfl #[.agg #[.int .i64 t533, .int .u64 t534], .int .i64 a1, .int .i64 a2] rfl ql_ ?_; (with_reducible refine (corebankref02_Divide.calls t533 t534 a1 a2 t535 t536 _ A12.out).mono ?_); rintro e w17 ⟨rfl, hb⟩; refine ⟨_, rfl, ?_⟩; have n0_ := Aside0.mk (below_step (qb_ HB.out) hb); clear HB; have HB := n0_; clear n0_; (try clear hb); (try clear hb2); (try clear hk); (try clear hi)) | ((with_reducible refine gate_callee (f := 19) rfl ?_); refine goesL_ (some 39) rfl rfl Tryd.func19 (by kernel_rfl) rfl #[.int .i64 t535, .int .i64 a1] rfl ql_ ?_; (with_reducible refine (corebankref01_Mul.calls t535 a1 t537 t538 _ A13.out).mono ?_); rintro e w18 ⟨rfl, hb⟩; refine ⟨_, rfl, ?_⟩; have n0_ := Aside0.mk (below_step (qb_ HB.out) hb); clear HB; have HB := n0_; clear n0_; (try clear hb); (try clear hb2); (try clear hk); (try clear hi)) | ((with_reducible refine gate_callee (f := 32) rfl ?_); refine goesL_ (some 40) rfl rfl Tryd.func32 (by kernel_rfl) rfl #[.agg #[.int .i64 t537, .int .u64 t538]] rfl ql_ ?_; (with_reducible refine (corebankref01_Int.calls t537 t538 t539 t540 _ A14.out).mono ?_); rintro e w19 ⟨rfl, hb⟩; refine ⟨_, rfl, ?_⟩; have n0_ := Aside0.mk (below_step (qb_ HB.out) hb); clear HB; have HB := n0_; clear n0_; (try clear hb); (try clear hb2); (try clear hk); (try clear hi)))
    (try simp only [Act.put, List.setIfInBounds_toArray, List.set_cons_zero, List.set_cons_succ])
    go_cut [49] (fun v49 wc => ∃ (kq : Nat) (x49_14 : Bool), v49 = .bool x49_14 ∧ Aside0 (corebankref02_StepP.j1 kq t539 x49_14 = some (r1, r2)) ∧ Aside0 (kq ≤ kj3) ∧ Aside0 (Below w.heap.size w wc))
    case first =>
     have H := HC15.out
     clear HC15
     by_cases c20 : t540 = true
     ·subst c20
      have H1 : ((corebankref02_Good.f t539).bind fun t541 => (corebankref02_StepP.j1 kj3 t539 (!t541))) = some (r1, r2) := by rw [if_pos rfl] at H; exact H
      clear H
      have H := H1
      clear H1
      replace H := Option.bind_eq_some_iff.mp H
      obtain ⟨t541, A210, H⟩ := H
      replace H : (corebankref02_StepP.j1 kj3 t539 (!t541)) = some (r1, r2) := H
      have A21 := Aside0.mk A210
      clear A210
      have H' := Aside0.mk H
      clear H
      go_wp2_with (first | (go_at_call 27; (with_reducible refine (corebankref02_Good.calls t539 t541 _ A21.out).mono ?_); rintro e w' ⟨rfl, ⟨nd, rfl⟩⟩))
      go_meet
      case rel => exact ⟨_, (!t541), qs_, H', ⟨by have := HJ3.out; first | omega | exact Nat.le_refl _⟩, ⟨qb_ HB.out⟩⟩
     ·replace c20 := Bool.eq_false_iff.mpr c20
      subst c20
      have H1 : (corebankref02_StepP.j1 kj3 t539 true) = some (r1, r2) := by rw [if_neg (show ¬ (false = true) by decide)] at H; exact H
      clear H
      have H := H1
      clear H1
      have H' := Aside0.mk H
      clear H
      go_wp2
      go_meet
      case rel => exact ⟨_, (true), qs_, H', ⟨by have := HJ3.out; first | omega | exact Nat.le_refl _⟩, ⟨qb_ HB.out⟩⟩
    case rest =>
     clear HC15
     try clear c1
     try clear c2
     try clear p2
     try clear c3
     try clear c6
     try clear c7
     try clear c7b0
     try clear c8
     try clear c8b0
     try clear c10
     try clear c12
     try clear c19
     try clear c20
     try clear c21
     try clear p2
     obtain ⟨kq, x49_14, rfl, HA, HJ14, HB⟩ := hcut
     cases kq with
     | zero => exact absurd HA.out (by simp [corebankref02_StepP.j1])
     | succ kj14 =>
      have H := HA.out
      clear HA
      simp only [corebankref02_StepP.j1] at H
      by_cases c22 : x49_14 = true
      ·subst c22
       have H1 : (some (0, 6)) = some (r1, r2) := by rw [if_pos rfl] at H; exact H
       clear H
       have H := H1
       clear H1
       simp only [Option.some.injEq, Prod.mk.injEq] at H
       obtain ⟨rfl, rfl⟩ := H
       go_wp2
       go_ret2
       exact ⟨qe_, qb_ HB.out⟩
      ·replace c22 := Bool.eq_false_iff.mpr c22
       subst c22
       have H1 : (some (t539, 0)) = some (r1, r2) := by rw [if_neg (show ¬ (false = true) by decide)] at H; exact H
       clear H
       have H := H1
       clear H1
       simp only [Option.some.injEq, Prod.mk.injEq] at H
       obtain ⟨rfl, rfl⟩ := H
       go_wp2
       go_ret2
       exact ⟨qe_, qb_ HB.out⟩
def corebankref02_Step.f (a0 a1 a2 : Int) : Option (Int × Int) := some (stepR a0 a1 a2)
theorem corebankref02_Step.eq {a s m : Int} {r : Int × Int} (h : corebankref02_Step.f a s m = some r) : ∃ k, corebankref02_StepP.f k a s m = some r := by
 unfold corebankref02_Step.f at h
 rw [← h]
 refine ⟨2, ?_⟩
 unfold corebankref02_StepP.f corebankref02_Good.f stepR
 simp only [corebankref02_StepP.j0, corebankref02_StepP.j1]
 by_cases h0 : a ≥ -1000000000000 <;> by_cases h1 : a ≤ 1000000000000
 ·rw [if_pos h0, decide_eq_true h1]
  simp only [Option.bind_some, if_true]
  by_cases h2 : s < 1
  ·rw [if_pos h2, if_neg (by omega)]
  ·rw [if_neg h2]
   by_cases h3 : s > 1000000000000
   ·rw [if_pos h3, if_neg (by omega)]
   ·rw [if_neg h3]
    have hA : -1000000000000 ≤ a ∧ a ≤ 1000000000000 ∧ 1 ≤ s ∧ s ≤ 1000000000000 := ⟨h0, h1, by omega, by omega⟩
    have hv : corebankref02_Valid.f m = some (decide (1 ≤ m ∧ m ≤ 6)) := by
     unfold corebankref02_Valid.f
     split
     ·congr 1; apply decide_eq_decide.mpr; omega
     ·congr 1; symm; apply decide_eq_false; omega
    rw [hv]
    simp only [Option.bind_some]
    by_cases hm : 1 ≤ m ∧ m ≤ 6
    ·rw [decide_eq_true hm, if_neg (by decide), if_pos ⟨hA, hm⟩]
     have hr := step_range m hA
     unfold corebankref01_Of.f
     rw [if_pos (by unfold inI; omega)]
     simp only [Option.bind_some]
     unfold corebankref02_Divide.f
     rw [if_pos ⟨⟨by unfold inI; omega, by unfold inU; omega⟩, by unfold inI; omega⟩]
     simp only [Option.bind_some]
     have hw : wv (a / 18446744073709551616) (a % 18446744073709551616) = a := by unfold wv; omega
     rw [hw, step_div hA hm]
     simp only
     unfold corebankref01_Mul.f
     rw [if_pos ⟨by unfold inI; omega, by unfold inI; omega⟩]
     simp only [Option.bind_some]
     generalize rq a s m * s = x at *
     have hx : wv (x / 18446744073709551616) (x % 18446744073709551616) = x := by unfold wv; omega
     unfold corebankref01_Int.f
     rw [if_pos ⟨by unfold inI; omega, by unfold inU; omega⟩, hx, if_pos (by unfold inI; omega)]
     simp only [Option.bind_some, if_true]
     unfold corebankref02_Good.f
     by_cases g0 : x ≥ -1000000000000
     ·rw [if_pos g0]
      by_cases g1 : x ≤ 1000000000000
      ·rw [decide_eq_true g1, if_pos ⟨g0, g1⟩]; simp
      ·rw [decide_eq_false g1, if_neg (by omega)]; simp
     ·rw [if_neg g0, if_neg (by omega)]; simp
    ·rw [decide_eq_false hm, if_pos (by decide), if_neg (fun c => hm c.2)]
 ·have hn : ¬ ((-1000000000000 ≤ a ∧ a ≤ 1000000000000 ∧ 1 ≤ s ∧ s ≤ 1000000000000) ∧ 1 ≤ m ∧ m ≤ 6) := by omega
  rw [if_pos h0, decide_eq_false h1, if_neg hn]
  rfl
 ·have hn : ¬ ((-1000000000000 ≤ a ∧ a ≤ 1000000000000 ∧ 1 ≤ s ∧ s ≤ 1000000000000) ∧ 1 ≤ m ∧ m ≤ 6) := by omega
  rw [if_neg h0, if_neg hn]
  rfl
 ·have hn : ¬ ((-1000000000000 ≤ a ∧ a ≤ 1000000000000 ∧ 1 ≤ s ∧ s ≤ 1000000000000) ∧ 1 ≤ m ∧ m ≤ 6) := by omega
  rw [if_neg h0, if_neg hn]
  rfl
theorem corebankref02_Step.calls (a0 : Int) (a1 : Int) (a2 : Int) (r1 : Int) (r2 : Int) (w : World) (h : corebankref02_Step.f a0 a1 a2 = some (r1, r2)) :
  Calls Tryd.prog 30 #[.int .i64 a0, .int .i64 a1, .int .i64 a2] w fun e w' => e = .returned (.tuple #[.int .i64 r1, .int .i64 r2]) ∧ Below w.heap.size w w' := by
 obtain ⟨k, h⟩ := corebankref02_Step.eq h
 exact corebankref02_StepP.calls k a0 a1 a2 r1 r2 w h
end Go.Proofs.YtkdhippoibjfkaaDoor.PR
