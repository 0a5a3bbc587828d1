import Derived.Test.YtkdhippoibjfkaaDoorQRm2
import Derived.Test.YtkdhippoibjfkaaDoorQRm10
import Derived.Test.YtkdhippoibjfkaaDoorQRm11
import Derived.Test.YtkdhippoibjfkaaDoorQRx41
namespace Go.Proofs.YtkdhippoibjfkaaDoor.PR
open Go.RowKit Go.Proofs.YtkdhippoibjfkaaDoorW.PrintWords Go.Proofs.YtkdhippoibjfkaaDoorW.PrintLast
set_option linter.unusedVariables false
set_option linter.unusedSimpArgs false
def corebanklaw02_RoundingSteps.f (a0 : Int) (a1 : Int) (a2 : Int) : Option (Bool) := (rounding_Step.f a0 a1 a2).bind fun bt542 => ((corebankref02_Step.f a0 a1 a2).bind fun bt544 => (if bt542.1 = bt544.1 then (if bt542.2 = bt544.2 then (if bt542.2 = 0 then (if a1 = 0 then (none) else (if (Int.tmod bt542.1 a1) = 0 then ((corebanklaw02_live.f).bind fun t546 => (some t546)) else (some false))) else ((corebanklaw02_live.f).bind fun t547 => (some t547))) else (some false)) else (some false)))
set_option maxHeartbeats 8000000 in
set_option maxRecDepth 100000 in
theorem corebanklaw02_RoundingSteps.calls (a0 : Int) (a1 : Int) (a2 : Int) (r : Bool) (w : World) (hG : GW w) (h : corebanklaw02_RoundingSteps.f a0 a1 a2 = some r) :
  Calls Tryd.prog 8 #[.int .i64 a0, .int .i64 a1, .int .i64 a2] w fun e w' => e = .returned (.bool r) ∧ Below w.heap.size w w' := by
 have HB := Aside0.mk (Below.refl w.heap.size w)
 have H : ((rounding_Step.f a0 a1 a2).bind fun bt542 => ((corebankref02_Step.f a0 a1 a2).bind fun bt544 => (if bt542.1 = bt544.1 then (if bt542.2 = bt544.2 then (if bt542.2 = 0 then (if a1 = 0 then (none) else (if (Int.tmod bt542.1 a1) = 0 then ((corebanklaw02_live.f).bind fun t546 => (some t546)) else (some false))) else ((corebanklaw02_live.f).bind fun t547 => (some t547))) else (some false)) else (some false)))) = some r := h
 clear h
 replace H := Option.bind_eq_some_iff.mp H
 obtain ⟨⟨t542, t543⟩, A40, H⟩ := H
 replace H : ((corebankref02_Step.f a0 a1 a2).bind fun bt544 => (if t542 = bt544.1 then (if t543 = bt544.2 then (if t543 = 0 then (if a1 = 0 then (none) else (if (Int.tmod t542 a1) = 0 then ((corebanklaw02_live.f).bind fun t546 => (some t546)) else (some false))) else ((corebanklaw02_live.f).bind fun t547 => (some t547))) else (some false)) else (some false))) = some r := H
 have A4 := Aside0.mk A40
 clear A40
 replace H := Option.bind_eq_some_iff.mp H
 obtain ⟨⟨t544, t545⟩, A50, H⟩ := H
 replace H : (if t542 = t544 then (if t543 = t545 then (if t543 = 0 then (if a1 = 0 then (none) else (if (Int.tmod t542 a1) = 0 then ((corebanklaw02_live.f).bind fun t546 => (some t546)) else (some false))) else ((corebanklaw02_live.f).bind fun t547 => (some t547))) else (some false)) else (some false)) = some r := H
 have A5 := Aside0.mk A50
 clear A50
 by_cases c6 : t542 = t544
 ·rw [if_pos c6] at H
  have c6b0 : (t542 == t544) = true := beq_iff_eq.mpr c6
  have c6b1 : (t542 != t544) = false := bne_eq_false_iff_eq.mpr c6
  clear c6
  by_cases c7 : t543 = t545
  ·rw [if_pos c7] at H
   have c7b0 : (t543 == t545) = true := beq_iff_eq.mpr c7
   have c7b1 : (t543 != t545) = false := bne_eq_false_iff_eq.mpr c7
   clear c7
   by_cases c8 : t543 = 0
   ·rw [if_pos c8] at H
    have c8b0 : (t543 == 0) = true := beq_iff_eq.mpr c8
    have c8b1 : (t543 != 0) = false := bne_eq_false_iff_eq.mpr c8
    clear c8
    by_cases c9 : a1 = 0
    ·rw [if_pos c9] at H
     exact absurd H (by simp)
    ·rw [if_neg c9] at H
     have c9b0 : (a1 == 0) = false := beq_eq_false_iff_ne.mpr c9
     have c9b1 : (a1 != 0) = true := bne_iff_ne.mpr c9
     by_cases c10 : (Int.tmod t542 a1) = 0
     ·rw [if_pos c10] at H
      have c10b0 : ((Int.tmod t542 a1) == 0) = true := beq_iff_eq.mpr c10
      have c10b1 : ((Int.tmod t542 a1) != 0) = false := bne_eq_false_iff_eq.mpr c10
      clear c10
      replace H := Option.bind_eq_some_iff.mp H
      obtain ⟨t546, A110, H⟩ := H
      replace H : (some t546) = some r := H
      have A11 := Aside0.mk A110
      clear A110
      obtain rfl := Option.some.inj H
      go_enter Tryd.func8, Tryd.ntmps8
      go_wp2_with (first | ((with_reducible refine gate_callee (f := 29) rfl ?_); refine goesL_ (some 15) rfl rfl Tryd.func29 (by kernel_rfl) rfl #[.int .i64 a0, .int .i64 a1, .int .i64 a2] rfl ql_ ?_; (with_reducible refine (rounding_Step.calls (hG := by first | exact hG | (with_reducible exact GW.below hG (qb_ HB.out)) | (with_reducible repeat (first | exact hG | apply GW.drewN | apply GW.drew))) a0 a1 a2 t542 t543 _ A4.out).mono ?_); rintro e w12 ⟨rfl, hb⟩; refine ⟨_, rfl, ?_⟩; have n0_ := Aside0.mk (below_step (qb_ HB.out) hb); clear HB; have HB := n0_; clear n0_; (try clear hb); (try clear hb2); (try clear hk); (try clear hi)) | ((with_reducible refine gate_callee (f := 30) rfl ?_); refine goesL_ (some 22) rfl rfl Tryd.func30 (by kernel_rfl) rfl #[.int .i64 a0, .int .i64 a1, .int .i64 a2] rfl ql_ ?_; (with_reducible refine (corebankref02_Step.calls a0 a1 a2 t544 t545 _ A5.out).mono ?_); rintro e w13 ⟨rfl, hb⟩; refine ⟨_, rfl, ?_⟩; have n0_ := Aside0.mk (below_step (qb_ HB.out) hb); clear HB; have HB := n0_; clear n0_; (try clear hb); (try clear hb2); (try clear hk); (try clear hi)) | (go_at_call 15; (with_reducible refine (corebanklaw02_live.calls (hG := by first | exact hG | (with_reducible exact GW.below hG (qb_ HB.out)) | (with_reducible repeat (first | exact hG | apply GW.drewN | apply GW.drew)))  t546 _ A11.out).mono ?_); rintro e w14 ⟨rfl, hb⟩; have n0_ := Aside0.mk (below_step (qb_ HB.out) hb); clear HB; have HB := n0_; clear n0_; (try clear hb); (try clear hb2); (try clear hk); (try clear hi)))
      go_ret
      exact ⟨qe_, qb_ HB.out⟩
     ·rw [if_neg c10] at H
      have c10b0 : ((Int.tmod t542 a1) == 0) = false := beq_eq_false_iff_ne.mpr c10
      have c10b1 : ((Int.tmod t542 a1) != 0) = true := bne_iff_ne.mpr c10
      obtain rfl := Option.some.inj H
      go_enter Tryd.func8, Tryd.ntmps8
      go_wp2_with (first | ((with_reducible refine gate_callee (f := 29) rfl ?_); refine goesL_ (some 15) rfl rfl Tryd.func29 (by kernel_rfl) rfl #[.int .i64 a0, .int .i64 a1, .int .i64 a2] rfl ql_ ?_; (with_reducible refine (rounding_Step.calls (hG := by first | exact hG | (with_reducible exact GW.below hG (qb_ HB.out)) | (with_reducible repeat (first | exact hG | apply GW.drewN | apply GW.drew))) a0 a1 a2 t542 t543 _ A4.out).mono ?_); rintro e w15 ⟨rfl, hb⟩; refine ⟨_, rfl, ?_⟩; have n0_ := Aside0.mk (below_step (qb_ HB.out) hb); clear HB; have HB := n0_; clear n0_; (try clear hb); (try clear hb2); (try clear hk); (try clear hi)) | ((with_reducible refine gate_callee (f := 30) rfl ?_); refine goesL_ (some 22) rfl rfl Tryd.func30 (by kernel_rfl) rfl #[.int .i64 a0, .int .i64 a1, .int .i64 a2] rfl ql_ ?_; (with_reducible refine (corebankref02_Step.calls a0 a1 a2 t544 t545 _ A5.out).mono ?_); rintro e w16 ⟨rfl, hb⟩; refine ⟨_, rfl, ?_⟩; have n0_ := Aside0.mk (below_step (qb_ HB.out) hb); clear HB; have HB := n0_; clear n0_; (try clear hb); (try clear hb2); (try clear hk); (try clear hi)))
      go_ret
      exact ⟨qe_, qb_ HB.out⟩
   ·rw [if_neg c8] at H
    have c8b0 : (t543 == 0) = false := beq_eq_false_iff_ne.mpr c8
    have c8b1 : (t543 != 0) = true := bne_iff_ne.mpr c8
    replace H := Option.bind_eq_some_iff.mp H
    obtain ⟨t547, A170, H⟩ := H
    replace H : (some t547) = some r := H
    have A17 := Aside0.mk A170
    clear A170
    obtain rfl := Option.some.inj H
    go_enter Tryd.func8, Tryd.ntmps8
    go_wp2_with (first | ((with_reducible refine gate_callee (f := 29) rfl ?_); refine goesL_ (some 15) rfl rfl Tryd.func29 (by kernel_rfl) rfl #[.int .i64 a0, .int .i64 a1, .int .i64 a2] rfl ql_ ?_; (with_reducible refine (rounding_Step.calls (hG := by first | exact hG | (with_reducible exact GW.below hG (qb_ HB.out)) | (with_reducible repeat (first | exact hG | apply GW.drewN | apply GW.drew))) a0 a1 a2 t542 t543 _ A4.out).mono ?_); rintro e w18 ⟨rfl, hb⟩; refine ⟨_, rfl, ?_⟩; have n0_ := Aside0.mk (below_step (qb_ HB.out) hb); clear HB; have HB := n0_; clear n0_; (try clear hb); (try clear hb2); (try clear hk); (try clear hi)) | ((with_reducible refine gate_callee (f := 30) rfl ?_); refine goesL_ (some 22) rfl rfl Tryd.func30 (by kernel_rfl) rfl #[.int .i64 a0, .int .i64 a1, .int .i64 a2] rfl ql_ ?_; (with_reducible refine (corebankref02_Step.calls a0 a1 a2 t544 t545 _ A5.out).mono ?_); rintro e w19 ⟨rfl, hb⟩; refine ⟨_, rfl, ?_⟩; have n0_ := Aside0.mk (below_step (qb_ HB.out) hb); clear HB; have HB := n0_; clear n0_; (try clear hb); (try clear hb2); (try clear hk); (try clear hi)) | (go_at_call 15; (with_reducible refine (corebanklaw02_live.calls (hG := by first | exact hG | (with_reducible exact GW.below hG (qb_ HB.out)) | (with_reducible repeat (first | exact hG | apply GW.drewN | apply GW.drew)))  t547 _ A17.out).mono ?_); rintro e w20 ⟨rfl, hb⟩; have n0_ := Aside0.mk (below_step (qb_ HB.out) hb); clear HB; have HB := n0_; clear n0_; (try clear hb); (try clear hb2); (try clear hk); (try clear hi)))
    go_ret
    exact ⟨qe_, qb_ HB.out⟩
  ·rw [if_neg c7] at H
   have c7b0 : (t543 == t545) = false := beq_eq_false_iff_ne.mpr c7
   have c7b1 : (t543 != t545) = true := bne_iff_ne.mpr c7
   obtain rfl := Option.some.inj H
   go_enter Tryd.func8, Tryd.ntmps8
   go_wp2_with (first | ((with_reducible refine gate_callee (f := 29) rfl ?_); refine goesL_ (some 15) rfl rfl Tryd.func29 (by kernel_rfl) rfl #[.int .i64 a0, .int .i64 a1, .int .i64 a2] rfl ql_ ?_; (with_reducible refine (rounding_Step.calls (hG := by first | exact hG | (with_reducible exact GW.below hG (qb_ HB.out)) | (with_reducible repeat (first | exact hG | apply GW.drewN | apply GW.drew))) a0 a1 a2 t542 t543 _ A4.out).mono ?_); rintro e w21 ⟨rfl, hb⟩; refine ⟨_, rfl, ?_⟩; have n0_ := Aside0.mk (below_step (qb_ HB.out) hb); clear HB; have HB := n0_; clear n0_; (try clear hb); (try clear hb2); (try clear hk); (try clear hi)) | ((with_reducible refine gate_callee (f := 30) rfl ?_); refine goesL_ (some 22) rfl rfl Tryd.func30 (by kernel_rfl) rfl #[.int .i64 a0, .int .i64 a1, .int .i64 a2] rfl ql_ ?_; (with_reducible refine (corebankref02_Step.calls a0 a1 a2 t544 t545 _ A5.out).mono ?_); rintro e w22 ⟨rfl, hb⟩; refine ⟨_, rfl, ?_⟩; have n0_ := Aside0.mk (below_step (qb_ HB.out) hb); clear HB; have HB := n0_; clear n0_; (try clear hb); (try clear hb2); (try clear hk); (try clear hi)))
   go_ret
   exact ⟨qe_, qb_ HB.out⟩
 ·rw [if_neg c6] at H
  have c6b0 : (t542 == t544) = false := beq_eq_false_iff_ne.mpr c6
  have c6b1 : (t542 != t544) = true := bne_iff_ne.mpr c6
  obtain rfl := Option.some.inj H
  go_enter Tryd.func8, Tryd.ntmps8
  go_wp2_with (first | ((with_reducible refine gate_callee (f := 29) rfl ?_); refine goesL_ (some 15) rfl rfl Tryd.func29 (by kernel_rfl) rfl #[.int .i64 a0, .int .i64 a1, .int .i64 a2] rfl ql_ ?_; (with_reducible refine (rounding_Step.calls (hG := by first | exact hG | (with_reducible exact GW.below hG (qb_ HB.out)) | (with_reducible repeat (first | exact hG | apply GW.drewN | apply GW.drew))) a0 a1 a2 t542 t543 _ A4.out).mono ?_); rintro e w23 ⟨rfl, hb⟩; refine ⟨_, rfl, ?_⟩; have n0_ := Aside0.mk (below_step (qb_ HB.out) hb); clear HB; have HB := n0_; clear n0_; (try clear hb); (try clear hb2); (try clear hk); (try clear hi)) | ((with_reducible refine gate_callee (f := 30) rfl ?_); refine goesL_ (some 22) rfl rfl Tryd.func30 (by kernel_rfl) rfl #[.int .i64 a0, .int .i64 a1, .int .i64 a2] rfl ql_ ?_; (with_reducible refine (corebankref02_Step.calls a0 a1 a2 t544 t545 _ A5.out).mono ?_); rintro e w24 ⟨rfl, hb⟩; refine ⟨_, rfl, ?_⟩; have n0_ := Aside0.mk (below_step (qb_ HB.out) hb); clear HB; have HB := n0_; clear n0_; (try clear hb); (try clear hb2); (try clear hk); (try clear hi)))
  go_ret
  exact ⟨qe_, qb_ HB.out⟩
/-- THE ONE PURE STATEMENT of corebanklaw02_RoundingSteps: yours. -/
def corebanklaw02_RoundingSteps.Pure : Prop := ∀ (a0 : Int) (a1 : Int) (a2 : Int), (Lit.int .i64 a0).wf = true → (Lit.int .i64 a1).wf = true → (Lit.int .i64 a2).wf = true → corebanklaw02_RoundingSteps.f a0 a1 a2 = some true
theorem corebanklaw02_RoundingSteps.walk (P : corebanklaw02_RoundingSteps.Pure) (a0 : Int) (a1 : Int) (a2 : Int) (w : World) (hG : GW w) (w0 : (Lit.int .i64 a0).wf = true) (w1 : (Lit.int .i64 a1).wf = true) (w2 : (Lit.int .i64 a2).wf = true) :
  Calls Tryd.prog 8 #[.int .i64 a0, .int .i64 a1, .int .i64 a2] w fun e w' => e = .returned (.bool true) ∧ Below w.heap.size w w' := by
 have h := P a0 a1 a2 w0 w1 w2
 refine (corebanklaw02_RoundingSteps.calls a0 a1 a2 true w hG h).mono ?_
 rintro e w' ⟨rfl, hd⟩
 exact ⟨rfl, hd⟩
end Go.Proofs.YtkdhippoibjfkaaDoor.PR
