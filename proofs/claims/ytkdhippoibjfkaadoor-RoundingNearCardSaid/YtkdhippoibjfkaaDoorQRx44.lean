import Derived.Test.YtkdhippoibjfkaaDoorQRm2
import Derived.Test.YtkdhippoibjfkaaDoorQRm5
import Derived.Test.YtkdhippoibjfkaaDoorQRm7
import Derived.Test.YtkdhippoibjfkaaDoorQRm11
import Derived.Test.YtkdhippoibjfkaaDoorQRx32
import Derived.Test.YtkdhippoibjfkaaDoorQRx43
namespace Go.Proofs.YtkdhippoibjfkaaDoor.PR
open Go.RowKit Go.Proofs.YtkdhippoibjfkaaDoorW.PrintWords Go.Proofs.YtkdhippoibjfkaaDoorW.PrintLast
set_option linter.unusedVariables false
set_option linter.unusedSimpArgs false
def corebanklaw02_RoundingNear.j0 : Nat → Int → Int → Int → Int → Bool → Int → Int → Option (Bool)
 | 0, _, _, _, _, _, _, _ => none
 | k + 1, x1, x2, x7, x8, x29, x577000, x577001 => if x29 = true then (if x7 = 0 then (if x8 = 1 then ((corebanklaw02_live.f).bind fun t580 => (some t580)) else (some false)) else (some false)) else (if x8 = 0 then ((corebankref01_Mul.f x7 x1).bind fun bt590 => ((corebankref01_Sub.f bt590.1 bt590.2 x577000 x577001).bind fun bt592 => (if bt592.2.2 = 0 then ((corebanklaw02_near.f k x577000 x577001 x7 x1 bt592.1 bt592.2.1 x2).bind fun t596 => (if t596 = true then ((corebanklaw02_live.f).bind fun t597 => (some t597)) else (some false))) else (some false)))) else ((corebankref01_Div.f x577000 x577001 x1).bind fun bt581 => ((corebankref01_Int.f bt581.1 bt581.2.1).bind fun bt586 => (if x8 = 6 then (if x7 = 0 then (if bt586.2 = true then (if bt586.1 = 9223372036854775807 then ((corebanklaw02_live.f).bind fun t588 => (some t588)) else (some false)) else ((corebanklaw02_live.f).bind fun t589 => (some t589))) else (some false)) else (some false)))))
def corebanklaw02_RoundingNear.f (k : Nat) (a0_0 : Int) (a0_1 : Int) (a1 : Int) (a2 : Int) : Option (Bool) := (rounding_Divide.f a0_0 a0_1 a1 a2).bind fun bt577 => (if a1 < 1 then (corebanklaw02_RoundingNear.j0 k a1 a2 bt577.1 bt577.2 true a0_0 a0_1) else ((corebankref02_Valid.f a2).bind fun t579 => (corebanklaw02_RoundingNear.j0 k a1 a2 bt577.1 bt577.2 (!t579) a0_0 a0_1)))
theorem corebanklaw02_RoundingNear.mono_l : ∀ k, (∀ y0 y1 y2 y3 y4 y5 y6, LeO (corebanklaw02_RoundingNear.j0 k y0 y1 y2 y3 y4 y5 y6) (corebanklaw02_RoundingNear.j0 (k + 1) y0 y1 y2 y3 y4 y5 y6))
 | 0 => fun _ _ _ _ _ _ _ r h => by simp [corebanklaw02_RoundingNear.j0] at h
 | k + 1 => by
  have ih0 := corebanklaw02_RoundingNear.mono_l k
  ·intro y0 y1 y2 y3 y4 y5 y6
   unfold corebanklaw02_RoundingNear.j0
   repeat' first
   | (with_reducible exact ih0 _ _ _ _ _ _ _)
   | (with_reducible exact corebanklaw02_near.mono _ _ _ _ _ _ _ _)
   | (with_reducible exact LeO.refl _)
   | (with_reducible exact LeO.none _)
   | (with_reducible refine LeO.ite ?_ ?_)
   | (with_reducible refine LeO.bind ?_ (fun _ => ?_))
   | exact ih0 _ _ _ _ _ _ _
   | exact corebanklaw02_near.mono _ _ _ _ _ _ _ _
   | exact LeO.none _
   | refine LeO.ite ?_ ?_
   | refine LeO.bind ?_ (fun _ => ?_)
theorem corebanklaw02_RoundingNear.mono : ∀ a0 a1 a2 a3 k, LeO (corebanklaw02_RoundingNear.f k a0 a1 a2 a3) (corebanklaw02_RoundingNear.f (k + 1) a0 a1 a2 a3) := by
 intro a0 a1 a2 a3 k
 have ih0 := corebanklaw02_RoundingNear.mono_l k
 unfold corebanklaw02_RoundingNear.f
 repeat' first
   | (with_reducible exact ih0 _ _ _ _ _ _ _)
   | (with_reducible exact corebanklaw02_near.mono _ _ _ _ _ _ _ _)
   | (with_reducible exact LeO.refl _)
   | (with_reducible exact LeO.none _)
   | (with_reducible refine LeO.ite ?_ ?_)
   | (with_reducible refine LeO.bind ?_ (fun _ => ?_))
   | exact ih0 _ _ _ _ _ _ _
   | exact corebanklaw02_near.mono _ _ _ _ _ _ _ _
   | exact LeO.none _
   | refine LeO.ite ?_ ?_
   | refine LeO.bind ?_ (fun _ => ?_)
def corebanklaw02_RoundingNear.T8 : Bool × List (List Nat × List Nat) := (true, [([], []), ([], []), ([0, 1], [0, 1]), ([], []), ([2, 3, 2], [2, 3]), ([4], [4]), ([5], [5]), ([5], [5]), ([], []), ([8, 6, 4, 0, 1, 2, 3, 4, 5, 6, 8], [6, 8]), ([7, 9, 0, 1, 2, 3, 4, 5, 6, 7, 8, 9], [7])])
def corebanklaw02_RoundingNear.B8 : List Nat := [0, 0, 3, 0, 15, 31, 63, 63, 0, 383, 1023]
theorem corebanklaw02_RoundingNear.tab8 : rtab .any (opsOf Tryd.f9 8) = corebanklaw02_RoundingNear.T8 := by kernel_rfl
theorem corebanklaw02_RoundingNear.bits8 : waitsOk corebanklaw02_RoundingNear.T8.2 corebanklaw02_RoundingNear.B8 = true := by kernel_rfl
set_option maxHeartbeats 8000000 in
set_option maxRecDepth 100000 in
theorem corebanklaw02_RoundingNear.calls (k : Nat) (a0_0 : Int) (a0_1 : Int) (a1 : Int) (a2 : Int) (r : Bool) (w : World) (hG : GW w) (h : corebanklaw02_RoundingNear.f k a0_0 a0_1 a1 a2 = some r) :
  Calls Tryd.prog 9 #[.agg #[.int .i64 a0_0, .int .u64 a0_1], .int .i64 a1, .int .i64 a2] w fun e w' => e = .returned (.bool r) ∧ Below w.heap.size w w' := by
 have hu24 := Tryd.underlying24
 have HB := Aside0.mk (Below.refl w.heap.size w)
 have H : ((rounding_Divide.f a0_0 a0_1 a1 a2).bind fun bt577 => (if a1 < 1 then (corebanklaw02_RoundingNear.j0 k a1 a2 bt577.1 bt577.2 true a0_0 a0_1) else ((corebankref02_Valid.f a2).bind fun t579 => (corebanklaw02_RoundingNear.j0 k a1 a2 bt577.1 bt577.2 (!t579) a0_0 a0_1)))) = some r := h
 clear h
 replace H := Option.bind_eq_some_iff.mp H
 obtain ⟨⟨t577, t578⟩, A40, H⟩ := H
 replace H : (if a1 < 1 then (corebanklaw02_RoundingNear.j0 k a1 a2 t577 t578 true a0_0 a0_1) else ((corebankref02_Valid.f a2).bind fun t579 => (corebanklaw02_RoundingNear.j0 k a1 a2 t577 t578 (!t579) a0_0 a0_1))) = some r := H
 have A4 := Aside0.mk A40
 clear A40
 have HC5 := Aside0.mk H
 clear H
 go_enter Tryd.func9, Tryd.ntmps9
 go_upto_region 2 with (first | ((with_reducible refine gate_dst (N := 3) rfl ?_); refine be_ (N := 3) (cs := #[.int .i64 a0_0, .int .u64 a0_1]) (t := 24) ?_; intro gb576 hg w6 hbox hb; have n0_ := Aside0.mk (below_step (qb_ HB.out) hb); have n1_ := Aside0.mk (hbox); have n2_ := Aside0.mk (bz_ hg (qb_ HB.out) : w.heap.size ≤ gb576); have n3_ := n2_; clear HB; have HB := n0_; have BK576 := n1_; have GW576 := n2_; have GE576 := n3_; clear n0_ n1_ n2_ n3_; clear hb hbox hg; have hcz7_0 : w6.cell? ⟨gb576, 0, none⟩ = some (.int .i64 a0_0) := (blk_cell BK576.out 0).trans rfl; have hcz7_1 : w6.cell? ⟨gb576, 1, none⟩ = some (.int .u64 a0_1) := (blk_cell BK576.out 1).trans rfl; have hfz7_0 := blk_frozen BK576.out 0; have hfz7_1 := blk_frozen BK576.out 1) | ((with_reducible refine gate_callee (f := 11) rfl ?_); refine goesL_ (some 20) rfl rfl Tryd.func11 (by kernel_rfl) rfl #[.agg #[.int .i64 a0_0, .int .u64 a0_1], .int .i64 a1, .int .i64 a2] rfl ql_ ?_; (with_reducible refine (rounding_Divide.calls (hG := by first | exact hG | (with_reducible exact GW.below hG (qb1_ GE576.out HB.out)) | (with_reducible repeat (first | exact hG | apply GW.drewN | apply GW.drew))) a0_0 a0_1 a1 a2 t577 t578 _ A4.out).mono ?_); rintro e w8 ⟨rfl, hb⟩; refine ⟨_, rfl, ?_⟩; have n0_ := Aside0.mk (blk_below (qk_ BK576.out) hb); have n1_ := Aside0.mk (below_step (qb1_ GE576.out HB.out) hb); clear BK576; clear HB; have BK576 := n0_; have HB := n1_; clear n0_ n1_; (try clear hb); (try clear hb2); (try clear hk); (try clear hi)))
 (try simp only [Act.put, List.setIfInBounds_toArray, List.set_cons_zero, List.set_cons_succ])
 go_cut [29] (fun v29 wc => ∃ (kq : Nat) (x29_4 : Bool), v29 = .bool x29_4 ∧ Aside0 (corebanklaw02_RoundingNear.j0 kq a1 a2 t577 t578 x29_4 a0_0 a0_1 = some r) ∧ Aside0 (kq ≤ k) ∧ Aside0 (wc.heap[gb576]? = some (.cells #[.int .i64 a0_0, .int .u64 a0_1] 24 (0, 0))) ∧ Aside0 (Below w.heap.size w wc))
 case first =>
  have H := HC5.out
  clear HC5
  by_cases c9 : a1 < 1
  ·rw [if_pos c9] at H
   have c9b0 : decide (a1 < 1) = true := decide_eq_true c9
   clear c9
   (first | rw [c9b0] | (simp only [i64_w, i32_w]; rw [c9b0]) | skip)
   have H' := Aside0.mk H
   clear H
   go_wp2
   go_meet
   case rel => exact ⟨_, (true), qs_, H', ⟨qo_⟩, ⟨qk_ BK576.out⟩, ⟨qb1_ GE576.out HB.out⟩⟩
  ·rw [if_neg c9] at H
   have c9b0 : decide (a1 < 1) = false := decide_eq_false c9
   clear c9
   (first | rw [c9b0] | (simp only [i64_w, i32_w]; rw [c9b0]) | skip)
   replace H := Option.bind_eq_some_iff.mp H
   obtain ⟨t579, A100, H⟩ := H
   replace H : (corebanklaw02_RoundingNear.j0 k a1 a2 t577 t578 (!t579) a0_0 a0_1) = some r := H
   have A10 := Aside0.mk A100
   clear A100
   have H' := Aside0.mk H
   clear H
   go_wp2_with (first | (go_at_call 14; (with_reducible refine (corebankref02_Valid.calls a2 t579 _ A10.out).mono ?_); rintro e w' ⟨rfl, ⟨nd, rfl⟩⟩))
   go_meet
   case rel => exact ⟨_, (!t579), qs_, H', ⟨qo_⟩, ⟨qk_ BK576.out⟩, ⟨qb1_ GE576.out HB.out⟩⟩
 case rest =>
  clear HC5
  try clear c1
  try clear p2
  try clear c9
  try clear c9b0
  try clear hcz7_0
  try clear hcz7_1
  try clear hfz7_0
  try clear hfz7_1
  obtain ⟨kq, x29_4, rfl, HA, HJ4, BK576, HB⟩ := hcut
  cases kq with
  | zero => exact absurd HA.out (by simp [corebanklaw02_RoundingNear.j0])
  | succ kj4 =>
   have H := HA.out
   clear HA
   simp only [corebanklaw02_RoundingNear.j0] at H
   by_cases c11 : x29_4 = true
   ·subst c11
    have H1 : (if t577 = 0 then (if t578 = 1 then ((corebanklaw02_live.f).bind fun t580 => (some t580)) else (some false)) else (some false)) = some r := by rw [if_pos rfl] at H; exact H
    clear H
    have H := H1
    clear H1
    by_cases c12 : t577 = 0
    ·rw [if_pos c12] at H
     have c12b0 : (t577 == 0) = true := beq_iff_eq.mpr c12
     have c12b1 : (t577 != 0) = false := bne_eq_false_iff_eq.mpr c12
     clear c12
     by_cases c13 : t578 = 1
     ·rw [if_pos c13] at H
      have c13b0 : (t578 == 1) = true := beq_iff_eq.mpr c13
      have c13b1 : (t578 != 1) = false := bne_eq_false_iff_eq.mpr c13
      clear c13
      replace H := Option.bind_eq_some_iff.mp H
      obtain ⟨t580, A140, H⟩ := H
      replace H : (some t580) = some r := H
      have A14 := Aside0.mk A140
      clear A140
      obtain rfl := Option.some.inj H
      go_wp2_with (first | (go_at_call 15; (with_reducible refine (corebanklaw02_live.calls (hG := by first | exact hG | (with_reducible exact GW.below hG (qb1_ GE576.out HB.out)) | (with_reducible repeat (first | exact hG | apply GW.drewN | apply GW.drew)))  t580 _ A14.out).mono ?_); rintro e w15 ⟨rfl, hb⟩; have n0_ := Aside0.mk (blk_below (qk_ BK576.out) hb); have n1_ := Aside0.mk (below_step (qb1_ GE576.out HB.out) hb); clear BK576; clear HB; have BK576 := n0_; have HB := n1_; clear n0_ n1_; (try clear hb); (try clear hb2); (try clear hk); (try clear hi)))
      go_ret
      exact ⟨qe_, qb1_ GE576.out HB.out⟩
     ·rw [if_neg c13] at H
      have c13b0 : (t578 == 1) = false := beq_eq_false_iff_ne.mpr c13
      have c13b1 : (t578 != 1) = true := bne_iff_ne.mpr c13
      obtain rfl := Option.some.inj H
      go_wp2
      go_ret
      exact ⟨qe_, qb1_ GE576.out HB.out⟩
    ·rw [if_neg c12] at H
     have c12b0 : (t577 == 0) = false := beq_eq_false_iff_ne.mpr c12
     have c12b1 : (t577 != 0) = true := bne_iff_ne.mpr c12
     obtain rfl := Option.some.inj H
     go_wp2
     go_ret
     exact ⟨qe_, qb1_ GE576.out HB.out⟩
   ·replace c11 := Bool.eq_false_iff.mpr c11
    subst c11
    have H1 : (if t578 = 0 then ((corebankref01_Mul.f t577 a1).bind fun bt590 => ((corebankref01_Sub.f bt590.1 bt590.2 a0_0 a0_1).bind fun bt592 => (if bt592.2.2 = 0 then ((corebanklaw02_near.f kj4 a0_0 a0_1 t577 a1 bt592.1 bt592.2.1 a2).bind fun t596 => (if t596 = true then ((corebanklaw02_live.f).bind fun t597 => (some t597)) else (some false))) else (some false)))) else ((corebankref01_Div.f a0_0 a0_1 a1).bind fun bt581 => ((corebankref01_Int.f bt581.1 bt581.2.1).bind fun bt586 => (if t578 = 6 then (if t577 = 0 then (if bt586.2 = true then (if bt586.1 = 9223372036854775807 then ((corebanklaw02_live.f).bind fun t588 => (some t588)) else (some false)) else ((corebanklaw02_live.f).bind fun t589 => (some t589))) else (some false)) else (some false))))) = some r := by rw [if_neg (show ¬ (false = true) by decide)] at H; exact H
    clear H
    have H := H1
    clear H1
    by_cases c16 : t578 = 0
    ·rw [if_pos c16] at H
     have c16b0 : (t578 == 0) = true := beq_iff_eq.mpr c16
     have c16b1 : (t578 != 0) = false := bne_eq_false_iff_eq.mpr c16
     clear c16
     replace H := Option.bind_eq_some_iff.mp H
     obtain ⟨⟨t590, t591⟩, A170, H⟩ := H
     replace H : ((corebankref01_Sub.f t590 t591 a0_0 a0_1).bind fun bt592 => (if bt592.2.2 = 0 then ((corebanklaw02_near.f kj4 a0_0 a0_1 t577 a1 bt592.1 bt592.2.1 a2).bind fun t596 => (if t596 = true then ((corebanklaw02_live.f).bind fun t597 => (some t597)) else (some false))) else (some false))) = some r := H
     have A17 := Aside0.mk A170
     clear A170
     replace H := Option.bind_eq_some_iff.mp H
     obtain ⟨⟨t592, t593, t594⟩, A180, H⟩ := H
     replace H : (if t594 = 0 then ((corebanklaw02_near.f kj4 a0_0 a0_1 t577 a1 t592 t593 a2).bind fun t596 => (if t596 = true then ((corebanklaw02_live.f).bind fun t597 => (some t597)) else (some false))) else (some false)) = some r := H
     have A18 := Aside0.mk A180
     clear A180
     by_cases c19 : t594 = 0
     ·rw [if_pos c19] at H
      have c19b0 : (t594 == 0) = true := beq_iff_eq.mpr c19
      have c19b1 : (t594 != 0) = false := bne_eq_false_iff_eq.mpr c19
      clear c19
      replace H := Option.bind_eq_some_iff.mp H
      obtain ⟨t596, A200, H⟩ := H
      replace H : (if t596 = true then ((corebanklaw02_live.f).bind fun t597 => (some t597)) else (some false)) = some r := H
      have A20 := Aside0.mk A200
      clear A200
      by_cases c21 : t596 = true
      ·subst c21
       have H1 : ((corebanklaw02_live.f).bind fun t597 => (some t597)) = some r := by rw [if_pos rfl] at H; exact H
       clear H
       have H := H1
       clear H1
       replace H := Option.bind_eq_some_iff.mp H
       obtain ⟨t597, A220, H⟩ := H
       replace H : (some t597) = some r := H
       have A22 := Aside0.mk A220
       clear A220
       obtain rfl := Option.some.inj H
       try go_wp2
       have n0_ := Aside0.mk (blk_drew BK576.out)
       have n1_ := Aside0.mk (below_drew1 HB.out)
       clear BK576
       clear HB
       have BK576 := n0_
       have HB := n1_
       clear n0_ n1_
       refine start_ (n := 11) (S := fun w' => w'.cell? ⟨gb576, 0, none⟩ = some (.int .i64 a0_0) ∧ w'.cell? ⟨gb576, 1, none⟩ = some (.int .u64 a0_1)) (ds := []) (nb_ 11 0) (by kernel_rfl) rfl rfl ⟨(blk_cell BK576.out 0).trans rfl, (blk_cell BK576.out 1).trans rfl⟩ (fun hHeld => ?_); refine with_tabW corebanklaw02_RoundingNear.tab8 corebanklaw02_RoundingNear.bits8 (fun HT_ HW_ => ?_)
       generalize wc.drew = w23 at BK576 HB hHeld ⊢
       refine pz_ 0 71 (nb_ 11 1) HT_.out ?_
       refine pz_ 1 72 (nb_ 11 3) HT_.out ?_
       refine tk2_ 3 74 (nb_ 11 11) HT_.out HW_.out hHeld ?_
       refine join_ (σ := Nat) 2 (nb_ 11 511) (fun s_ => [(73, .agg #[.int .i64 t590, .int .u64 t591]), (75, .tuple #[.agg #[.int .i64 t592, .int .u64 t593], .int .i64 t594]), (14, .pointer (some ⟨s_, 0, none⟩)), (70, .tuple #[.agg #[.int .i64 t592, .int .u64 t593], .int .i64 t594]), (76, .agg #[.int .i64 t592, .int .u64 t593]), (77, .int .i64 t594)]) (fun s_ w' => (w'.cell? ⟨gb576, 0, none⟩ = some (.int .i64 a0_0) ∧ w'.cell? ⟨gb576, 1, none⟩ = some (.int .u64 a0_1)) ∧ (w'.heap[gb576]? = some (.cells #[.int .i64 a0_0, .int .u64 a0_1] 24 (0, 0))) ∧ (w'.heap[s_]? = some (.cells #[.int .i64 0, .int .u64 0] 24 (0, 0))) ∧ (w.heap.size ≤ s_) ∧ (w.heap.size ≤ s_) ∧ (gb576 ≠ s_) ∧ (s_ ≠ gb576) ∧ (Below w.heap.size w w')) ?_ ?_
       rotate_left
       ·intro hCont
        refine two_ (i := 2) (j := 8) (Ni := some 73) (Nj := some 14) (nb_ 11 15) (nb_ 11 267) rfl rfl rfl rfl (two_of HT_.out (by kernel_rfl)) (by decide) (by decide) (fun K hK => ?_) (fun K hK => ?_)
        ·skip
         refine goes_ Tryd.func19 (by kernel_rfl) rfl #[.int .i64 t577, .int .i64 a1] (by rfl) rfl rfl ql_ ?_
         with_reducible refine (corebankref01_Mul.calls t577 a1 t590 t591 _ A17.out).mono ?_
         rintro e w24 ⟨rfl, hb⟩
         refine ⟨_, rfl, ?_⟩
         have n0_ := Aside0.mk (blk_below (qk_ BK576.out) hb)
         have n1_ := Aside0.mk (below_step (qb1_ GE576.out HB.out) hb)
         clear BK576
         clear HB
         have BK576 := n0_
         have HB := n1_
         clear n0_ n1_
         (try clear hb)
         (try clear hb2)
         (try clear hk)
         (try clear hi)
         refine hK.out _ _ ⟨(blk_cell BK576.out 0).trans rfl, (blk_cell BK576.out 1).trans rfl⟩ (fun hHeld => ?_)
         clear hK K
         refine no_ ?_
         refine two_ (i := 4) (j := 8) (Ni := some 75) (Nj := some 14) (nb_ 11 31) (nb_ 11 271) rfl rfl rfl rfl (two_of HT_.out (by kernel_rfl)) (by decide) (by decide) (fun K hK => ?_) (fun K hK => ?_)
         ·skip
          refine goes_ Tryd.func28 (by kernel_rfl) rfl #[.agg #[.int .i64 t590, .int .u64 t591], .agg #[.int .i64 a0_0, .int .u64 a0_1]] (by rfl) rfl rfl ql_ ?_
          with_reducible refine (corebankref01_Sub.calls t590 t591 a0_0 a0_1 t592 t593 t594 _ A18.out).mono ?_
          rintro e w25 ⟨rfl, hb⟩
          refine ⟨_, rfl, ?_⟩
          have n0_ := Aside0.mk (blk_below (qk_ BK576.out) hb)
          have n1_ := Aside0.mk (below_step (qb1_ GE576.out HB.out) hb)
          clear BK576
          clear HB
          have BK576 := n0_
          have HB := n1_
          clear n0_ n1_
          (try clear hb)
          (try clear hb2)
          (try clear hk)
          (try clear hi)
          refine hK.out _ _ ⟨(blk_cell BK576.out 0).trans rfl, (blk_cell BK576.out 1).trans rfl⟩ (fun hHeld => ?_)
          clear hK K
          refine no_ ?_
          refine pz_ 5 70 (nb_ 11 63) HT_.out ?_
          refine pz_ 6 76 (nb_ 11 127) HT_.out ?_
          refine pz_ 7 77 (nb_ 11 255) HT_.out ?_
          refine on_ 8 14 (nb_ 11 511) HT_.out (fun K hK => ?_)
          refine box_step ?hg (N := 14) ?hd (cs := #[.int .i64 0, .int .u64 0]) (t := 24) ?hr ?_; (case hd => rfl); (case hg => rfl); (case hr => first | (go_simp; done) | (go_simp; rfl))
          intro gb595 hg w26 hbox hb
          have n0_ := Aside0.mk (blk_below (qk_ BK576.out) hb)
          have n1_ := Aside0.mk (below_step (qb1_ GE576.out HB.out) hb)
          have n2_ := Aside0.mk (hbox)
          have n3_ := Aside0.mk (bz_ hg (qb1_ GE576.out HB.out) : w.heap.size ≤ gb595)
          have n4_ := Aside0.mk (bz_ hg (qb1_ GE576.out HB.out) : w.heap.size ≤ gb595)
          have n5_ := Aside0.mk (nl_ hg (qk_ BK576.out) : gb576 ≠ gb595)
          have n6_ := Aside0.mk (ng_ hg (qk_ BK576.out) : gb595 ≠ gb576)
          clear BK576
          clear HB
          have BK576 := n0_
          have HB := n1_
          have BK595 := n2_
          have GW595 := n3_
          have GE595 := n4_
          have NB576_595 := n5_
          have NB595_576 := n6_
          clear n0_ n1_ n2_ n3_ n4_ n5_ n6_
          clear hb hbox hg
          refine hK.out _ _ ⟨(blk_cell BK576.out 0).trans rfl, (blk_cell BK576.out 1).trans rfl⟩ (fun hHeld => ?_)
          clear hK K
          refine no_ ?_
          exact norm_ (by simp only [putAll, Act.put, List.setIfInBounds_toArray, List.set_cons_zero, List.set_cons_succ]) (hCont (gb595) _ ⟨hHeld, (qk_ BK576.out), (qk_ BK595.out), GW595.out, GE595.out, NB576_595.out, NB595_576.out, (qb2_ GE576.out GE595.out HB.out)⟩)
         ·skip
          refine box_step ?hg (N := 14) ?hd (cs := #[.int .i64 0, .int .u64 0]) (t := 24) ?hr ?_; (case hd => rfl); (case hg => rfl); (case hr => first | (go_simp; done) | (go_simp; rfl))
          intro gb595 hg w25 hbox hb
          have n0_ := Aside0.mk (blk_below (qk_ BK576.out) hb)
          have n1_ := Aside0.mk (below_step (qb1_ GE576.out HB.out) hb)
          have n2_ := Aside0.mk (hbox)
          have n3_ := Aside0.mk (bz_ hg (qb1_ GE576.out HB.out) : w.heap.size ≤ gb595)
          have n4_ := Aside0.mk (bz_ hg (qb1_ GE576.out HB.out) : w.heap.size ≤ gb595)
          have n5_ := Aside0.mk (nl_ hg (qk_ BK576.out) : gb576 ≠ gb595)
          have n6_ := Aside0.mk (ng_ hg (qk_ BK576.out) : gb595 ≠ gb576)
          clear BK576
          clear HB
          have BK576 := n0_
          have HB := n1_
          have BK595 := n2_
          have GW595 := n3_
          have GE595 := n4_
          have NB576_595 := n5_
          have NB595_576 := n6_
          clear n0_ n1_ n2_ n3_ n4_ n5_ n6_
          clear hb hbox hg
          refine hK.out _ _ ⟨(blk_cell BK576.out 0).trans rfl, (blk_cell BK576.out 1).trans rfl⟩ (fun hHeld => ?_)
          clear hK K
          refine no_ ?_
          refine on_ 4 75 (nb_ 11 287) HT_.out (fun K hK => ?_)
          refine goes_ Tryd.func28 (by kernel_rfl) rfl #[.agg #[.int .i64 t590, .int .u64 t591], .agg #[.int .i64 a0_0, .int .u64 a0_1]] (by rfl) rfl rfl ql_ ?_
          with_reducible refine (corebankref01_Sub.calls t590 t591 a0_0 a0_1 t592 t593 t594 _ A18.out).mono ?_
          rintro e w26 ⟨rfl, hb⟩
          refine ⟨_, rfl, ?_⟩
          have n0_ := Aside0.mk (blk_below (qk_ BK576.out) hb)
          have n1_ := Aside0.mk (blk_below (qk_ BK595.out) hb)
          have n2_ := Aside0.mk (below_step (qb2_ GE576.out GE595.out HB.out) hb)
          clear BK576
          clear BK595
          clear HB
          have BK576 := n0_
          have BK595 := n1_
          have HB := n2_
          clear n0_ n1_ n2_
          (try clear hb)
          (try clear hb2)
          (try clear hk)
          (try clear hi)
          refine hK.out _ _ ⟨(blk_cell BK576.out 0).trans rfl, (blk_cell BK576.out 1).trans rfl⟩ (fun hHeld => ?_)
          clear hK K
          refine no_ ?_
          refine pz_ 5 70 (nb_ 11 319) HT_.out ?_
          refine pz_ 6 76 (nb_ 11 383) HT_.out ?_
          refine pz_ 7 77 (nb_ 11 511) HT_.out ?_
          exact norm_ (by simp only [putAll, Act.put, List.setIfInBounds_toArray, List.set_cons_zero, List.set_cons_succ]) (hCont (gb595) _ ⟨hHeld, (qk_ BK576.out), (qk_ BK595.out), GW595.out, GE595.out, NB576_595.out, NB595_576.out, (qb2_ GE576.out GE595.out HB.out)⟩)
        ·skip
         refine box_step ?hg (N := 14) ?hd (cs := #[.int .i64 0, .int .u64 0]) (t := 24) ?hr ?_; (case hd => rfl); (case hg => rfl); (case hr => first | (go_simp; done) | (go_simp; rfl))
         intro gb595 hg w24 hbox hb
         have n0_ := Aside0.mk (blk_below (qk_ BK576.out) hb)
         have n1_ := Aside0.mk (below_step (qb1_ GE576.out HB.out) hb)
         have n2_ := Aside0.mk (hbox)
         have n3_ := Aside0.mk (bz_ hg (qb1_ GE576.out HB.out) : w.heap.size ≤ gb595)
         have n4_ := Aside0.mk (bz_ hg (qb1_ GE576.out HB.out) : w.heap.size ≤ gb595)
         have n5_ := Aside0.mk (nl_ hg (qk_ BK576.out) : gb576 ≠ gb595)
         have n6_ := Aside0.mk (ng_ hg (qk_ BK576.out) : gb595 ≠ gb576)
         clear BK576
         clear HB
         have BK576 := n0_
         have HB := n1_
         have BK595 := n2_
         have GW595 := n3_
         have GE595 := n4_
         have NB576_595 := n5_
         have NB595_576 := n6_
         clear n0_ n1_ n2_ n3_ n4_ n5_ n6_
         clear hb hbox hg
         refine hK.out _ _ ⟨(blk_cell BK576.out 0).trans rfl, (blk_cell BK576.out 1).trans rfl⟩ (fun hHeld => ?_)
         clear hK K
         refine no_ ?_
         refine on_ 2 73 (nb_ 11 271) HT_.out (fun K hK => ?_)
         refine goes_ Tryd.func19 (by kernel_rfl) rfl #[.int .i64 t577, .int .i64 a1] (by rfl) rfl rfl ql_ ?_
         with_reducible refine (corebankref01_Mul.calls t577 a1 t590 t591 _ A17.out).mono ?_
         rintro e w25 ⟨rfl, hb⟩
         refine ⟨_, rfl, ?_⟩
         have n0_ := Aside0.mk (blk_below (qk_ BK576.out) hb)
         have n1_ := Aside0.mk (blk_below (qk_ BK595.out) hb)
         have n2_ := Aside0.mk (below_step (qb2_ GE576.out GE595.out HB.out) hb)
         clear BK576
         clear BK595
         clear HB
         have BK576 := n0_
         have BK595 := n1_
         have HB := n2_
         clear n0_ n1_ n2_
         (try clear hb)
         (try clear hb2)
         (try clear hk)
         (try clear hi)
         refine hK.out _ _ ⟨(blk_cell BK576.out 0).trans rfl, (blk_cell BK576.out 1).trans rfl⟩ (fun hHeld => ?_)
         clear hK K
         refine no_ ?_
         refine on_ 4 75 (nb_ 11 287) HT_.out (fun K hK => ?_)
         refine goes_ Tryd.func28 (by kernel_rfl) rfl #[.agg #[.int .i64 t590, .int .u64 t591], .agg #[.int .i64 a0_0, .int .u64 a0_1]] (by rfl) rfl rfl ql_ ?_
         with_reducible refine (corebankref01_Sub.calls t590 t591 a0_0 a0_1 t592 t593 t594 _ A18.out).mono ?_
         rintro e w26 ⟨rfl, hb⟩
         refine ⟨_, rfl, ?_⟩
         have n0_ := Aside0.mk (blk_below (qk_ BK576.out) hb)
         have n1_ := Aside0.mk (blk_below (qk_ BK595.out) hb)
         have n2_ := Aside0.mk (below_step (qb2_ GE576.out GE595.out HB.out) hb)
         clear BK576
         clear BK595
         clear HB
         have BK576 := n0_
         have BK595 := n1_
         have HB := n2_
         clear n0_ n1_ n2_
         (try clear hb)
         (try clear hb2)
         (try clear hk)
         (try clear hi)
         refine hK.out _ _ ⟨(blk_cell BK576.out 0).trans rfl, (blk_cell BK576.out 1).trans rfl⟩ (fun hHeld => ?_)
         clear hK K
         refine no_ ?_
         refine pz_ 5 70 (nb_ 11 319) HT_.out ?_
         refine pz_ 6 76 (nb_ 11 383) HT_.out ?_
         refine pz_ 7 77 (nb_ 11 511) HT_.out ?_
         exact norm_ (by simp only [putAll, Act.put, List.setIfInBounds_toArray, List.set_cons_zero, List.set_cons_succ]) (hCont (gb595) _ ⟨hHeld, (qk_ BK576.out), (qk_ BK595.out), GW595.out, GE595.out, NB576_595.out, NB595_576.out, (qb2_ GE576.out GE595.out HB.out)⟩)
       rintro gb595 w27 ⟨hS_, h0_, h1_, h2_, h3_, h4_, h5_, h6_⟩
       have n0_ : Aside0 (w27.heap[gb576]? = some (.cells #[.int .i64 a0_0, .int .u64 a0_1] 24 (0, 0))) := ⟨h0_⟩
       have n1_ : Aside0 (w27.heap[gb595]? = some (.cells #[.int .i64 0, .int .u64 0] 24 (0, 0))) := ⟨h1_⟩
       have n2_ : Aside0 (w.heap.size ≤ gb595) := ⟨h2_⟩
       have n3_ : Aside0 (w.heap.size ≤ gb595) := ⟨h3_⟩
       have n4_ : Aside0 (gb576 ≠ gb595) := ⟨h4_⟩
       have n5_ : Aside0 (gb595 ≠ gb576) := ⟨h5_⟩
       have n6_ : Aside0 (Below w.heap.size w w27) := ⟨h6_⟩
       clear BK576
       clear HB
       clear h0_ h1_ h2_ h3_ h4_ h5_ h6_
       have BK576 := n0_
       have BK595 := n1_
       have GW595 := n2_
       have GE595 := n3_
       have NB576_595 := n4_
       have NB595_576 := n5_
       have HB := n6_
       clear n0_ n1_ n2_ n3_ n4_ n5_ n6_
       have hHeld : w27.cell? ⟨gb576, 0, none⟩ = some (.int .i64 a0_0) ∧ w27.cell? ⟨gb576, 1, none⟩ = some (.int .u64 a0_1) := hS_
       refine norm_ (a' := ?_) ?_ ?_
       rotate_left
       ·simp only [putAll, Act.put, List.setIfInBounds_toArray, List.set_cons_zero, List.set_cons_succ]
        rfl
       refine one_ (i := 9) (N := none) (nb_ 11 1023) rfl rfl (one_of HT_.out (by kernel_rfl)) (by decide) (fun K hK => ?_)
       have hs28 : w27.cell? ⟨gb595, 0, none⟩ = some (.int .i64 0) := (blk_cell BK595.out 0).trans rfl
       have hfs28 := blk_frozen BK595.out 0
       have hns28_0 := NB576_595.out
       have hms28_0 := NB595_576.out
       have hs29 : w27.cell? ⟨gb595, 1, none⟩ = some (.int .u64 0) := (blk_cell BK595.out 1).trans rfl
       have hfs29 := blk_frozen BK595.out 1
       have hns29_0 := NB576_595.out
       have hms29_0 := NB595_576.out
       refine skip_ (w1 := ?_) (by rfl) rfl ?_ ?_
       rotate_left
       ·go_simp
        rfl
       refine hK.out _ _ ⟨((cell_far (p := ⟨gb595, _, none⟩) NB576_595.out _).trans (((cell_far (p := ⟨gb595, _, none⟩) NB576_595.out _).trans (hHeld.1)))), ((cell_far (p := ⟨gb595, _, none⟩) NB576_595.out _).trans (((cell_far (p := ⟨gb595, _, none⟩) NB576_595.out _).trans (hHeld.2))))⟩ (fun hHeld => ?_)
       clear hK K
       refine pz_ 10 15 (nb_ 11 2047) HT_.out ?_
       refine done_ (done_of HT_.out (by kernel_rfl)) ?_
       have hnb30 := NB576_595.out
       have hnc30 := NB595_576.out
       have hcz31_0 : w27.cell? ⟨gb576, 0, none⟩ = some (.int .i64 a0_0) := (blk_cell BK576.out 0).trans rfl
       have hcz31_1 : w27.cell? ⟨gb576, 1, none⟩ = some (.int .u64 a0_1) := (blk_cell BK576.out 1).trans rfl
       have hfz31_0 := blk_frozen BK576.out 0
       have hfz31_1 := blk_frozen BK576.out 1
       have hcz32_0 : w27.cell? ⟨gb595, 0, none⟩ = some (.int .i64 0) := (blk_cell BK595.out 0).trans rfl
       have hcz32_1 : w27.cell? ⟨gb595, 1, none⟩ = some (.int .u64 0) := (blk_cell BK595.out 1).trans rfl
       have hfz32_0 := blk_frozen BK595.out 0
       have hfz32_1 := blk_frozen BK595.out 1
       try go_wp2_with (first | (go_at_call 33; (with_reducible refine (corebanklaw02_near.calls kj4 a0_0 a0_1 t577 a1 t592 t593 a2 true _ A20.out).mono ?_); rintro e w33 ⟨rfl, hb⟩; have n0_ := Aside0.mk (blk_below (g := gb576) (o := .cells #[.int .i64 a0_0, .int .u64 a0_1] 24 (0, 0)) (qff_ NB576_595.out NB576_595.out BK576.out) hb); have n1_ := Aside0.mk (blk_below (g := gb595) (o := .cells #[.int .i64 t592, .int .u64 t593] 24 (0, 0)) (qpp_ #[.int .i64 t592, .int .u64 0] 1 #[.int .i64 0, .int .u64 0] 0 BK595.out) hb); have n2_ := Aside0.mk (below_step (qb2_ GE576.out GE595.out HB.out) hb); clear BK576; clear BK595; clear HB; have BK576 := n0_; have BK595 := n1_; have HB := n2_; clear n0_ n1_ n2_; (try clear hb); (try clear hb2); (try clear hk); (try clear hi)) | (go_at_call 15; (with_reducible refine (corebanklaw02_live.calls (hG := by first | exact hG | (with_reducible exact GW.below hG (qb2_ GE576.out GE595.out HB.out)) | (with_reducible repeat (first | exact hG | apply GW.drewN | apply GW.drew)))  t597 _ A22.out).mono ?_); rintro e w34 ⟨rfl, hb⟩; have n0_ := Aside0.mk (blk_below (qk_ BK576.out) hb); have n1_ := Aside0.mk (blk_below (qk_ BK595.out) hb); have n2_ := Aside0.mk (below_step (qb2_ GE576.out GE595.out HB.out) hb); clear BK576; clear BK595; clear HB; have BK576 := n0_; have BK595 := n1_; have HB := n2_; clear n0_ n1_ n2_; (try clear hb); (try clear hb2); (try clear hk); (try clear hi)))
       go_ret
       exact ⟨qe_, qb2_ GE576.out GE595.out HB.out⟩
      ·replace c21 := Bool.eq_false_iff.mpr c21
       subst c21
       have H1 : (some false) = some r := by rw [if_neg (show ¬ (false = true) by decide)] at H; exact H
       clear H
       have H := H1
       clear H1
       obtain rfl := Option.some.inj H
       try go_wp2
       have n0_ := Aside0.mk (blk_drew BK576.out)
       have n1_ := Aside0.mk (below_drew1 HB.out)
       clear BK576
       clear HB
       have BK576 := n0_
       have HB := n1_
       clear n0_ n1_
       refine start_ (n := 11) (S := fun w' => w'.cell? ⟨gb576, 0, none⟩ = some (.int .i64 a0_0) ∧ w'.cell? ⟨gb576, 1, none⟩ = some (.int .u64 a0_1)) (ds := []) (nb_ 11 0) (by kernel_rfl) rfl rfl ⟨(blk_cell BK576.out 0).trans rfl, (blk_cell BK576.out 1).trans rfl⟩ (fun hHeld => ?_); refine with_tabW corebanklaw02_RoundingNear.tab8 corebanklaw02_RoundingNear.bits8 (fun HT_ HW_ => ?_)
       generalize wc.drew = w35 at BK576 HB hHeld ⊢
       refine pz_ 0 71 (nb_ 11 1) HT_.out ?_
       refine pz_ 1 72 (nb_ 11 3) HT_.out ?_
       refine tk2_ 3 74 (nb_ 11 11) HT_.out HW_.out hHeld ?_
       refine join_ (σ := Nat) 2 (nb_ 11 511) (fun s_ => [(73, .agg #[.int .i64 t590, .int .u64 t591]), (75, .tuple #[.agg #[.int .i64 t592, .int .u64 t593], .int .i64 t594]), (14, .pointer (some ⟨s_, 0, none⟩)), (70, .tuple #[.agg #[.int .i64 t592, .int .u64 t593], .int .i64 t594]), (76, .agg #[.int .i64 t592, .int .u64 t593]), (77, .int .i64 t594)]) (fun s_ w' => (w'.cell? ⟨gb576, 0, none⟩ = some (.int .i64 a0_0) ∧ w'.cell? ⟨gb576, 1, none⟩ = some (.int .u64 a0_1)) ∧ (w'.heap[gb576]? = some (.cells #[.int .i64 a0_0, .int .u64 a0_1] 24 (0, 0))) ∧ (w'.heap[s_]? = some (.cells #[.int .i64 0, .int .u64 0] 24 (0, 0))) ∧ (w.heap.size ≤ s_) ∧ (w.heap.size ≤ s_) ∧ (gb576 ≠ s_) ∧ (s_ ≠ gb576) ∧ (Below w.heap.size w w')) ?_ ?_
       rotate_left
       ·intro hCont
        refine two_ (i := 2) (j := 8) (Ni := some 73) (Nj := some 14) (nb_ 11 15) (nb_ 11 267) rfl rfl rfl rfl (two_of HT_.out (by kernel_rfl)) (by decide) (by decide) (fun K hK => ?_) (fun K hK => ?_)
        ·skip
         refine goes_ Tryd.func19 (by kernel_rfl) rfl #[.int .i64 t577, .int .i64 a1] (by rfl) rfl rfl ql_ ?_
         with_reducible refine (corebankref01_Mul.calls t577 a1 t590 t591 _ A17.out).mono ?_
         rintro e w36 ⟨rfl, hb⟩
         refine ⟨_, rfl, ?_⟩
         have n0_ := Aside0.mk (blk_below (qk_ BK576.out) hb)
         have n1_ := Aside0.mk (below_step (qb1_ GE576.out HB.out) hb)
         clear BK576
         clear HB
         have BK576 := n0_
         have HB := n1_
         clear n0_ n1_
         (try clear hb)
         (try clear hb2)
         (try clear hk)
         (try clear hi)
         refine hK.out _ _ ⟨(blk_cell BK576.out 0).trans rfl, (blk_cell BK576.out 1).trans rfl⟩ (fun hHeld => ?_)
         clear hK K
         refine no_ ?_
         refine two_ (i := 4) (j := 8) (Ni := some 75) (Nj := some 14) (nb_ 11 31) (nb_ 11 271) rfl rfl rfl rfl (two_of HT_.out (by kernel_rfl)) (by decide) (by decide) (fun K hK => ?_) (fun K hK => ?_)
         ·skip
          refine goes_ Tryd.func28 (by kernel_rfl) rfl #[.agg #[.int .i64 t590, .int .u64 t591], .agg #[.int .i64 a0_0, .int .u64 a0_1]] (by rfl) rfl rfl ql_ ?_
          with_reducible refine (corebankref01_Sub.calls t590 t591 a0_0 a0_1 t592 t593 t594 _ A18.out).mono ?_
          rintro e w37 ⟨rfl, hb⟩
          refine ⟨_, rfl, ?_⟩
          have n0_ := Aside0.mk (blk_below (qk_ BK576.out) hb)
          have n1_ := Aside0.mk (below_step (qb1_ GE576.out HB.out) hb)
          clear BK576
          clear HB
          have BK576 := n0_
          have HB := n1_
          clear n0_ n1_
          (try clear hb)
          (try clear hb2)
          (try clear hk)
          (try clear hi)
          refine hK.out _ _ ⟨(blk_cell BK576.out 0).trans rfl, (blk_cell BK576.out 1).trans rfl⟩ (fun hHeld => ?_)
          clear hK K
          refine no_ ?_
          refine pz_ 5 70 (nb_ 11 63) HT_.out ?_
          refine pz_ 6 76 (nb_ 11 127) HT_.out ?_
          refine pz_ 7 77 (nb_ 11 255) HT_.out ?_
          refine on_ 8 14 (nb_ 11 511) HT_.out (fun K hK => ?_)
          refine box_step ?hg (N := 14) ?hd (cs := #[.int .i64 0, .int .u64 0]) (t := 24) ?hr ?_; (case hd => rfl); (case hg => rfl); (case hr => first | (go_simp; done) | (go_simp; rfl))
          intro gb595 hg w38 hbox hb
          have n0_ := Aside0.mk (blk_below (qk_ BK576.out) hb)
          have n1_ := Aside0.mk (below_step (qb1_ GE576.out HB.out) hb)
          have n2_ := Aside0.mk (hbox)
          have n3_ := Aside0.mk (bz_ hg (qb1_ GE576.out HB.out) : w.heap.size ≤ gb595)
          have n4_ := Aside0.mk (bz_ hg (qb1_ GE576.out HB.out) : w.heap.size ≤ gb595)
          have n5_ := Aside0.mk (nl_ hg (qk_ BK576.out) : gb576 ≠ gb595)
          have n6_ := Aside0.mk (ng_ hg (qk_ BK576.out) : gb595 ≠ gb576)
          clear BK576
          clear HB
          have BK576 := n0_
          have HB := n1_
          have BK595 := n2_
          have GW595 := n3_
          have GE595 := n4_
          have NB576_595 := n5_
          have NB595_576 := n6_
          clear n0_ n1_ n2_ n3_ n4_ n5_ n6_
          clear hb hbox hg
          refine hK.out _ _ ⟨(blk_cell BK576.out 0).trans rfl, (blk_cell BK576.out 1).trans rfl⟩ (fun hHeld => ?_)
          clear hK K
          refine no_ ?_
          exact norm_ (by simp only [putAll, Act.put, List.setIfInBounds_toArray, List.set_cons_zero, List.set_cons_succ]) (hCont (gb595) _ ⟨hHeld, (qk_ BK576.out), (qk_ BK595.out), GW595.out, GE595.out, NB576_595.out, NB595_576.out, (qb2_ GE576.out GE595.out HB.out)⟩)
         ·skip
          refine box_step ?hg (N := 14) ?hd (cs := #[.int .i64 0, .int .u64 0]) (t := 24) ?hr ?_; (case hd => rfl); (case hg => rfl); (case hr => first | (go_simp; done) | (go_simp; rfl))
          intro gb595 hg w37 hbox hb
          have n0_ := Aside0.mk (blk_below (qk_ BK576.out) hb)
          have n1_ := Aside0.mk (below_step (qb1_ GE576.out HB.out) hb)
          have n2_ := Aside0.mk (hbox)
          have n3_ := Aside0.mk (bz_ hg (qb1_ GE576.out HB.out) : w.heap.size ≤ gb595)
          have n4_ := Aside0.mk (bz_ hg (qb1_ GE576.out HB.out) : w.heap.size ≤ gb595)
          have n5_ := Aside0.mk (nl_ hg (qk_ BK576.out) : gb576 ≠ gb595)
          have n6_ := Aside0.mk (ng_ hg (qk_ BK576.out) : gb595 ≠ gb576)
          clear BK576
          clear HB
          have BK576 := n0_
          have HB := n1_
          have BK595 := n2_
          have GW595 := n3_
          have GE595 := n4_
          have NB576_595 := n5_
          have NB595_576 := n6_
          clear n0_ n1_ n2_ n3_ n4_ n5_ n6_
          clear hb hbox hg
          refine hK.out _ _ ⟨(blk_cell BK576.out 0).trans rfl, (blk_cell BK576.out 1).trans rfl⟩ (fun hHeld => ?_)
          clear hK K
          refine no_ ?_
          refine on_ 4 75 (nb_ 11 287) HT_.out (fun K hK => ?_)
          refine goes_ Tryd.func28 (by kernel_rfl) rfl #[.agg #[.int .i64 t590, .int .u64 t591], .agg #[.int .i64 a0_0, .int .u64 a0_1]] (by rfl) rfl rfl ql_ ?_
          with_reducible refine (corebankref01_Sub.calls t590 t591 a0_0 a0_1 t592 t593 t594 _ A18.out).mono ?_
          rintro e w38 ⟨rfl, hb⟩
          refine ⟨_, rfl, ?_⟩
          have n0_ := Aside0.mk (blk_below (qk_ BK576.out) hb)
          have n1_ := Aside0.mk (blk_below (qk_ BK595.out) hb)
          have n2_ := Aside0.mk (below_step (qb2_ GE576.out GE595.out HB.out) hb)
          clear BK576
          clear BK595
          clear HB
          have BK576 := n0_
          have BK595 := n1_
          have HB := n2_
          clear n0_ n1_ n2_
          (try clear hb)
          (try clear hb2)
          (try clear hk)
          (try clear hi)
          refine hK.out _ _ ⟨(blk_cell BK576.out 0).trans rfl, (blk_cell BK576.out 1).trans rfl⟩ (fun hHeld => ?_)
          clear hK K
          refine no_ ?_
          refine pz_ 5 70 (nb_ 11 319) HT_.out ?_
          refine pz_ 6 76 (nb_ 11 383) HT_.out ?_
          refine pz_ 7 77 (nb_ 11 511) HT_.out ?_
          exact norm_ (by simp only [putAll, Act.put, List.setIfInBounds_toArray, List.set_cons_zero, List.set_cons_succ]) (hCont (gb595) _ ⟨hHeld, (qk_ BK576.out), (qk_ BK595.out), GW595.out, GE595.out, NB576_595.out, NB595_576.out, (qb2_ GE576.out GE595.out HB.out)⟩)
        ·skip
         refine box_step ?hg (N := 14) ?hd (cs := #[.int .i64 0, .int .u64 0]) (t := 24) ?hr ?_; (case hd => rfl); (case hg => rfl); (case hr => first | (go_simp; done) | (go_simp; rfl))
         intro gb595 hg w36 hbox hb
         have n0_ := Aside0.mk (blk_below (qk_ BK576.out) hb)
         have n1_ := Aside0.mk (below_step (qb1_ GE576.out HB.out) hb)
         have n2_ := Aside0.mk (hbox)
         have n3_ := Aside0.mk (bz_ hg (qb1_ GE576.out HB.out) : w.heap.size ≤ gb595)
         have n4_ := Aside0.mk (bz_ hg (qb1_ GE576.out HB.out) : w.heap.size ≤ gb595)
         have n5_ := Aside0.mk (nl_ hg (qk_ BK576.out) : gb576 ≠ gb595)
         have n6_ := Aside0.mk (ng_ hg (qk_ BK576.out) : gb595 ≠ gb576)
         clear BK576
         clear HB
         have BK576 := n0_
         have HB := n1_
         have BK595 := n2_
         have GW595 := n3_
         have GE595 := n4_
         have NB576_595 := n5_
         have NB595_576 := n6_
         clear n0_ n1_ n2_ n3_ n4_ n5_ n6_
         clear hb hbox hg
         refine hK.out _ _ ⟨(blk_cell BK576.out 0).trans rfl, (blk_cell BK576.out 1).trans rfl⟩ (fun hHeld => ?_)
         clear hK K
         refine no_ ?_
         refine on_ 2 73 (nb_ 11 271) HT_.out (fun K hK => ?_)
         refine goes_ Tryd.func19 (by kernel_rfl) rfl #[.int .i64 t577, .int .i64 a1] (by rfl) rfl rfl ql_ ?_
         with_reducible refine (corebankref01_Mul.calls t577 a1 t590 t591 _ A17.out).mono ?_
         rintro e w37 ⟨rfl, hb⟩
         refine ⟨_, rfl, ?_⟩
         have n0_ := Aside0.mk (blk_below (qk_ BK576.out) hb)
         have n1_ := Aside0.mk (blk_below (qk_ BK595.out) hb)
         have n2_ := Aside0.mk (below_step (qb2_ GE576.out GE595.out HB.out) hb)
         clear BK576
         clear BK595
         clear HB
         have BK576 := n0_
         have BK595 := n1_
         have HB := n2_
         clear n0_ n1_ n2_
         (try clear hb)
         (try clear hb2)
         (try clear hk)
         (try clear hi)
         refine hK.out _ _ ⟨(blk_cell BK576.out 0).trans rfl, (blk_cell BK576.out 1).trans rfl⟩ (fun hHeld => ?_)
         clear hK K
         refine no_ ?_
         refine on_ 4 75 (nb_ 11 287) HT_.out (fun K hK => ?_)
         refine goes_ Tryd.func28 (by kernel_rfl) rfl #[.agg #[.int .i64 t590, .int .u64 t591], .agg #[.int .i64 a0_0, .int .u64 a0_1]] (by rfl) rfl rfl ql_ ?_
         with_reducible refine (corebankref01_Sub.calls t590 t591 a0_0 a0_1 t592 t593 t594 _ A18.out).mono ?_
         rintro e w38 ⟨rfl, hb⟩
         refine ⟨_, rfl, ?_⟩
         have n0_ := Aside0.mk (blk_below (qk_ BK576.out) hb)
         have n1_ := Aside0.mk (blk_below (qk_ BK595.out) hb)
         have n2_ := Aside0.mk (below_step (qb2_ GE576.out GE595.out HB.out) hb)
         clear BK576
         clear BK595
         clear HB
         have BK576 := n0_
         have BK595 := n1_
         have HB := n2_
         clear n0_ n1_ n2_
         (try clear hb)
         (try clear hb2)
         (try clear hk)
         (try clear hi)
         refine hK.out _ _ ⟨(blk_cell BK576.out 0).trans rfl, (blk_cell BK576.out 1).trans rfl⟩ (fun hHeld => ?_)
         clear hK K
         refine no_ ?_
         refine pz_ 5 70 (nb_ 11 319) HT_.out ?_
         refine pz_ 6 76 (nb_ 11 383) HT_.out ?_
         refine pz_ 7 77 (nb_ 11 511) HT_.out ?_
         exact norm_ (by simp only [putAll, Act.put, List.setIfInBounds_toArray, List.set_cons_zero, List.set_cons_succ]) (hCont (gb595) _ ⟨hHeld, (qk_ BK576.out), (qk_ BK595.out), GW595.out, GE595.out, NB576_595.out, NB595_576.out, (qb2_ GE576.out GE595.out HB.out)⟩)
       rintro gb595 w39 ⟨hS_, h0_, h1_, h2_, h3_, h4_, h5_, h6_⟩
       have n0_ : Aside0 (w39.heap[gb576]? = some (.cells #[.int .i64 a0_0, .int .u64 a0_1] 24 (0, 0))) := ⟨h0_⟩
       have n1_ : Aside0 (w39.heap[gb595]? = some (.cells #[.int .i64 0, .int .u64 0] 24 (0, 0))) := ⟨h1_⟩
       have n2_ : Aside0 (w.heap.size ≤ gb595) := ⟨h2_⟩
       have n3_ : Aside0 (w.heap.size ≤ gb595) := ⟨h3_⟩
       have n4_ : Aside0 (gb576 ≠ gb595) := ⟨h4_⟩
       have n5_ : Aside0 (gb595 ≠ gb576) := ⟨h5_⟩
       have n6_ : Aside0 (Below w.heap.size w w39) := ⟨h6_⟩
       clear BK576
       clear HB
       clear h0_ h1_ h2_ h3_ h4_ h5_ h6_
       have BK576 := n0_
       have BK595 := n1_
       have GW595 := n2_
       have GE595 := n3_
       have NB576_595 := n4_
       have NB595_576 := n5_
       have HB := n6_
       clear n0_ n1_ n2_ n3_ n4_ n5_ n6_
       have hHeld : w39.cell? ⟨gb576, 0, none⟩ = some (.int .i64 a0_0) ∧ w39.cell? ⟨gb576, 1, none⟩ = some (.int .u64 a0_1) := hS_
       refine norm_ (a' := ?_) ?_ ?_
       rotate_left
       ·simp only [putAll, Act.put, List.setIfInBounds_toArray, List.set_cons_zero, List.set_cons_succ]
        rfl
       refine one_ (i := 9) (N := none) (nb_ 11 1023) rfl rfl (one_of HT_.out (by kernel_rfl)) (by decide) (fun K hK => ?_)
       have hs40 : w39.cell? ⟨gb595, 0, none⟩ = some (.int .i64 0) := (blk_cell BK595.out 0).trans rfl
       have hfs40 := blk_frozen BK595.out 0
       have hns40_0 := NB576_595.out
       have hms40_0 := NB595_576.out
       have hs41 : w39.cell? ⟨gb595, 1, none⟩ = some (.int .u64 0) := (blk_cell BK595.out 1).trans rfl
       have hfs41 := blk_frozen BK595.out 1
       have hns41_0 := NB576_595.out
       have hms41_0 := NB595_576.out
       refine skip_ (w1 := ?_) (by rfl) rfl ?_ ?_
       rotate_left
       ·go_simp
        rfl
       refine hK.out _ _ ⟨((cell_far (p := ⟨gb595, _, none⟩) NB576_595.out _).trans (((cell_far (p := ⟨gb595, _, none⟩) NB576_595.out _).trans (hHeld.1)))), ((cell_far (p := ⟨gb595, _, none⟩) NB576_595.out _).trans (((cell_far (p := ⟨gb595, _, none⟩) NB576_595.out _).trans (hHeld.2))))⟩ (fun hHeld => ?_)
       clear hK K
       refine pz_ 10 15 (nb_ 11 2047) HT_.out ?_
       refine done_ (done_of HT_.out (by kernel_rfl)) ?_
       have hnb42 := NB576_595.out
       have hnc42 := NB595_576.out
       have hcz43_0 : w39.cell? ⟨gb576, 0, none⟩ = some (.int .i64 a0_0) := (blk_cell BK576.out 0).trans rfl
       have hcz43_1 : w39.cell? ⟨gb576, 1, none⟩ = some (.int .u64 a0_1) := (blk_cell BK576.out 1).trans rfl
       have hfz43_0 := blk_frozen BK576.out 0
       have hfz43_1 := blk_frozen BK576.out 1
       have hcz44_0 : w39.cell? ⟨gb595, 0, none⟩ = some (.int .i64 0) := (blk_cell BK595.out 0).trans rfl
       have hcz44_1 : w39.cell? ⟨gb595, 1, none⟩ = some (.int .u64 0) := (blk_cell BK595.out 1).trans rfl
       have hfz44_0 := blk_frozen BK595.out 0
       have hfz44_1 := blk_frozen BK595.out 1
       try go_wp2_with (first | (go_at_call 33; (with_reducible refine (corebanklaw02_near.calls kj4 a0_0 a0_1 t577 a1 t592 t593 a2 false _ A20.out).mono ?_); rintro e w45 ⟨rfl, hb⟩; have n0_ := Aside0.mk (blk_below (g := gb576) (o := .cells #[.int .i64 a0_0, .int .u64 a0_1] 24 (0, 0)) (qff_ NB576_595.out NB576_595.out BK576.out) hb); have n1_ := Aside0.mk (blk_below (g := gb595) (o := .cells #[.int .i64 t592, .int .u64 t593] 24 (0, 0)) (qpp_ #[.int .i64 t592, .int .u64 0] 1 #[.int .i64 0, .int .u64 0] 0 BK595.out) hb); have n2_ := Aside0.mk (below_step (qb2_ GE576.out GE595.out HB.out) hb); clear BK576; clear BK595; clear HB; have BK576 := n0_; have BK595 := n1_; have HB := n2_; clear n0_ n1_ n2_; (try clear hb); (try clear hb2); (try clear hk); (try clear hi)))
       go_ret
       exact ⟨qe_, qb2_ GE576.out GE595.out HB.out⟩
     ·rw [if_neg c19] at H
      have c19b0 : (t594 == 0) = false := beq_eq_false_iff_ne.mpr c19
      have c19b1 : (t594 != 0) = true := bne_iff_ne.mpr c19
      obtain rfl := Option.some.inj H
      try go_wp2
      have n0_ := Aside0.mk (blk_drew BK576.out)
      have n1_ := Aside0.mk (below_drew1 HB.out)
      clear BK576
      clear HB
      have BK576 := n0_
      have HB := n1_
      clear n0_ n1_
      refine start_ (n := 11) (S := fun w' => w'.cell? ⟨gb576, 0, none⟩ = some (.int .i64 a0_0) ∧ w'.cell? ⟨gb576, 1, none⟩ = some (.int .u64 a0_1)) (ds := []) (nb_ 11 0) (by kernel_rfl) rfl rfl ⟨(blk_cell BK576.out 0).trans rfl, (blk_cell BK576.out 1).trans rfl⟩ (fun hHeld => ?_); refine with_tabW corebanklaw02_RoundingNear.tab8 corebanklaw02_RoundingNear.bits8 (fun HT_ HW_ => ?_)
      generalize wc.drew = w46 at BK576 HB hHeld ⊢
      refine pz_ 0 71 (nb_ 11 1) HT_.out ?_
      refine pz_ 1 72 (nb_ 11 3) HT_.out ?_
      refine tk2_ 3 74 (nb_ 11 11) HT_.out HW_.out hHeld ?_
      refine join_ (σ := Nat) 2 (nb_ 11 511) (fun s_ => [(73, .agg #[.int .i64 t590, .int .u64 t591]), (75, .tuple #[.agg #[.int .i64 t592, .int .u64 t593], .int .i64 t594]), (14, .pointer (some ⟨s_, 0, none⟩)), (70, .tuple #[.agg #[.int .i64 t592, .int .u64 t593], .int .i64 t594]), (76, .agg #[.int .i64 t592, .int .u64 t593]), (77, .int .i64 t594)]) (fun s_ w' => (w'.cell? ⟨gb576, 0, none⟩ = some (.int .i64 a0_0) ∧ w'.cell? ⟨gb576, 1, none⟩ = some (.int .u64 a0_1)) ∧ (w'.heap[gb576]? = some (.cells #[.int .i64 a0_0, .int .u64 a0_1] 24 (0, 0))) ∧ (w'.heap[s_]? = some (.cells #[.int .i64 0, .int .u64 0] 24 (0, 0))) ∧ (w.heap.size ≤ s_) ∧ (w.heap.size ≤ s_) ∧ (gb576 ≠ s_) ∧ (s_ ≠ gb576) ∧ (Below w.heap.size w w')) ?_ ?_
      rotate_left
      ·intro hCont
       refine two_ (i := 2) (j := 8) (Ni := some 73) (Nj := some 14) (nb_ 11 15) (nb_ 11 267) rfl rfl rfl rfl (two_of HT_.out (by kernel_rfl)) (by decide) (by decide) (fun K hK => ?_) (fun K hK => ?_)
       ·skip
        refine goes_ Tryd.func19 (by kernel_rfl) rfl #[.int .i64 t577, .int .i64 a1] (by rfl) rfl rfl ql_ ?_
        with_reducible refine (corebankref01_Mul.calls t577 a1 t590 t591 _ A17.out).mono ?_
        rintro e w47 ⟨rfl, hb⟩
        refine ⟨_, rfl, ?_⟩
        have n0_ := Aside0.mk (blk_below (qk_ BK576.out) hb)
        have n1_ := Aside0.mk (below_step (qb1_ GE576.out HB.out) hb)
        clear BK576
        clear HB
        have BK576 := n0_
        have HB := n1_
        clear n0_ n1_
        (try clear hb)
        (try clear hb2)
        (try clear hk)
        (try clear hi)
        refine hK.out _ _ ⟨(blk_cell BK576.out 0).trans rfl, (blk_cell BK576.out 1).trans rfl⟩ (fun hHeld => ?_)
        clear hK K
        refine no_ ?_
        refine two_ (i := 4) (j := 8) (Ni := some 75) (Nj := some 14) (nb_ 11 31) (nb_ 11 271) rfl rfl rfl rfl (two_of HT_.out (by kernel_rfl)) (by decide) (by decide) (fun K hK => ?_) (fun K hK => ?_)
        ·skip
         refine goes_ Tryd.func28 (by kernel_rfl) rfl #[.agg #[.int .i64 t590, .int .u64 t591], .agg #[.int .i64 a0_0, .int .u64 a0_1]] (by rfl) rfl rfl ql_ ?_
         with_reducible refine (corebankref01_Sub.calls t590 t591 a0_0 a0_1 t592 t593 t594 _ A18.out).mono ?_
         rintro e w48 ⟨rfl, hb⟩
         refine ⟨_, rfl, ?_⟩
         have n0_ := Aside0.mk (blk_below (qk_ BK576.out) hb)
         have n1_ := Aside0.mk (below_step (qb1_ GE576.out HB.out) hb)
         clear BK576
         clear HB
         have BK576 := n0_
         have HB := n1_
         clear n0_ n1_
         (try clear hb)
         (try clear hb2)
         (try clear hk)
         (try clear hi)
         refine hK.out _ _ ⟨(blk_cell BK576.out 0).trans rfl, (blk_cell BK576.out 1).trans rfl⟩ (fun hHeld => ?_)
         clear hK K
         refine no_ ?_
         refine pz_ 5 70 (nb_ 11 63) HT_.out ?_
         refine pz_ 6 76 (nb_ 11 127) HT_.out ?_
         refine pz_ 7 77 (nb_ 11 255) HT_.out ?_
         refine on_ 8 14 (nb_ 11 511) HT_.out (fun K hK => ?_)
         refine box_step ?hg (N := 14) ?hd (cs := #[.int .i64 0, .int .u64 0]) (t := 24) ?hr ?_; (case hd => rfl); (case hg => rfl); (case hr => first | (go_simp; done) | (go_simp; rfl))
         intro gb595 hg w49 hbox hb
         have n0_ := Aside0.mk (blk_below (qk_ BK576.out) hb)
         have n1_ := Aside0.mk (below_step (qb1_ GE576.out HB.out) hb)
         have n2_ := Aside0.mk (hbox)
         have n3_ := Aside0.mk (bz_ hg (qb1_ GE576.out HB.out) : w.heap.size ≤ gb595)
         have n4_ := Aside0.mk (bz_ hg (qb1_ GE576.out HB.out) : w.heap.size ≤ gb595)
         have n5_ := Aside0.mk (nl_ hg (qk_ BK576.out) : gb576 ≠ gb595)
         have n6_ := Aside0.mk (ng_ hg (qk_ BK576.out) : gb595 ≠ gb576)
         clear BK576
         clear HB
         have BK576 := n0_
         have HB := n1_
         have BK595 := n2_
         have GW595 := n3_
         have GE595 := n4_
         have NB576_595 := n5_
         have NB595_576 := n6_
         clear n0_ n1_ n2_ n3_ n4_ n5_ n6_
         clear hb hbox hg
         refine hK.out _ _ ⟨(blk_cell BK576.out 0).trans rfl, (blk_cell BK576.out 1).trans rfl⟩ (fun hHeld => ?_)
         clear hK K
         refine no_ ?_
         exact norm_ (by simp only [putAll, Act.put, List.setIfInBounds_toArray, List.set_cons_zero, List.set_cons_succ]) (hCont (gb595) _ ⟨hHeld, (qk_ BK576.out), (qk_ BK595.out), GW595.out, GE595.out, NB576_595.out, NB595_576.out, (qb2_ GE576.out GE595.out HB.out)⟩)
        ·skip
         refine box_step ?hg (N := 14) ?hd (cs := #[.int .i64 0, .int .u64 0]) (t := 24) ?hr ?_; (case hd => rfl); (case hg => rfl); (case hr => first | (go_simp; done) | (go_simp; rfl))
         intro gb595 hg w48 hbox hb
         have n0_ := Aside0.mk (blk_below (qk_ BK576.out) hb)
         have n1_ := Aside0.mk (below_step (qb1_ GE576.out HB.out) hb)
         have n2_ := Aside0.mk (hbox)
         have n3_ := Aside0.mk (bz_ hg (qb1_ GE576.out HB.out) : w.heap.size ≤ gb595)
         have n4_ := Aside0.mk (bz_ hg (qb1_ GE576.out HB.out) : w.heap.size ≤ gb595)
         have n5_ := Aside0.mk (nl_ hg (qk_ BK576.out) : gb576 ≠ gb595)
         have n6_ := Aside0.mk (ng_ hg (qk_ BK576.out) : gb595 ≠ gb576)
         clear BK576
         clear HB
         have BK576 := n0_
         have HB := n1_
         have BK595 := n2_
         have GW595 := n3_
         have GE595 := n4_
         have NB576_595 := n5_
         have NB595_576 := n6_
         clear n0_ n1_ n2_ n3_ n4_ n5_ n6_
         clear hb hbox hg
         refine hK.out _ _ ⟨(blk_cell BK576.out 0).trans rfl, (blk_cell BK576.out 1).trans rfl⟩ (fun hHeld => ?_)
         clear hK K
         refine no_ ?_
         refine on_ 4 75 (nb_ 11 287) HT_.out (fun K hK => ?_)
         refine goes_ Tryd.func28 (by kernel_rfl) rfl #[.agg #[.int .i64 t590, .int .u64 t591], .agg #[.int .i64 a0_0, .int .u64 a0_1]] (by rfl) rfl rfl ql_ ?_
         with_reducible refine (corebankref01_Sub.calls t590 t591 a0_0 a0_1 t592 t593 t594 _ A18.out).mono ?_
         rintro e w49 ⟨rfl, hb⟩
         refine ⟨_, rfl, ?_⟩
         have n0_ := Aside0.mk (blk_below (qk_ BK576.out) hb)
         have n1_ := Aside0.mk (blk_below (qk_ BK595.out) hb)
         have n2_ := Aside0.mk (below_step (qb2_ GE576.out GE595.out HB.out) hb)
         clear BK576
         clear BK595
         clear HB
         have BK576 := n0_
         have BK595 := n1_
         have HB := n2_
         clear n0_ n1_ n2_
         (try clear hb)
         (try clear hb2)
         (try clear hk)
         (try clear hi)
         refine hK.out _ _ ⟨(blk_cell BK576.out 0).trans rfl, (blk_cell BK576.out 1).trans rfl⟩ (fun hHeld => ?_)
         clear hK K
         refine no_ ?_
         refine pz_ 5 70 (nb_ 11 319) HT_.out ?_
         refine pz_ 6 76 (nb_ 11 383) HT_.out ?_
         refine pz_ 7 77 (nb_ 11 511) HT_.out ?_
         exact norm_ (by simp only [putAll, Act.put, List.setIfInBounds_toArray, List.set_cons_zero, List.set_cons_succ]) (hCont (gb595) _ ⟨hHeld, (qk_ BK576.out), (qk_ BK595.out), GW595.out, GE595.out, NB576_595.out, NB595_576.out, (qb2_ GE576.out GE595.out HB.out)⟩)
       ·skip
        refine box_step ?hg (N := 14) ?hd (cs := #[.int .i64 0, .int .u64 0]) (t := 24) ?hr ?_; (case hd => rfl); (case hg => rfl); (case hr => first | (go_simp; done) | (go_simp; rfl))
        intro gb595 hg w47 hbox hb
        have n0_ := Aside0.mk (blk_below (qk_ BK576.out) hb)
        have n1_ := Aside0.mk (below_step (qb1_ GE576.out HB.out) hb)
        have n2_ := Aside0.mk (hbox)
        have n3_ := Aside0.mk (bz_ hg (qb1_ GE576.out HB.out) : w.heap.size ≤ gb595)
        have n4_ := Aside0.mk (bz_ hg (qb1_ GE576.out HB.out) : w.heap.size ≤ gb595)
        have n5_ := Aside0.mk (nl_ hg (qk_ BK576.out) : gb576 ≠ gb595)
        have n6_ := Aside0.mk (ng_ hg (qk_ BK576.out) : gb595 ≠ gb576)
        clear BK576
        clear HB
        have BK576 := n0_
        have HB := n1_
        have BK595 := n2_
        have GW595 := n3_
        have GE595 := n4_
        have NB576_595 := n5_
        have NB595_576 := n6_
        clear n0_ n1_ n2_ n3_ n4_ n5_ n6_
        clear hb hbox hg
        refine hK.out _ _ ⟨(blk_cell BK576.out 0).trans rfl, (blk_cell BK576.out 1).trans rfl⟩ (fun hHeld => ?_)
        clear hK K
        refine no_ ?_
        refine on_ 2 73 (nb_ 11 271) HT_.out (fun K hK => ?_)
        refine goes_ Tryd.func19 (by kernel_rfl) rfl #[.int .i64 t577, .int .i64 a1] (by rfl) rfl rfl ql_ ?_
        with_reducible refine (corebankref01_Mul.calls t577 a1 t590 t591 _ A17.out).mono ?_
        rintro e w48 ⟨rfl, hb⟩
        refine ⟨_, rfl, ?_⟩
        have n0_ := Aside0.mk (blk_below (qk_ BK576.out) hb)
        have n1_ := Aside0.mk (blk_below (qk_ BK595.out) hb)
        have n2_ := Aside0.mk (below_step (qb2_ GE576.out GE595.out HB.out) hb)
        clear BK576
        clear BK595
        clear HB
        have BK576 := n0_
        have BK595 := n1_
        have HB := n2_
        clear n0_ n1_ n2_
        (try clear hb)
        (try clear hb2)
        (try clear hk)
        (try clear hi)
        refine hK.out _ _ ⟨(blk_cell BK576.out 0).trans rfl, (blk_cell BK576.out 1).trans rfl⟩ (fun hHeld => ?_)
        clear hK K
        refine no_ ?_
        refine on_ 4 75 (nb_ 11 287) HT_.out (fun K hK => ?_)
        refine goes_ Tryd.func28 (by kernel_rfl) rfl #[.agg #[.int .i64 t590, .int .u64 t591], .agg #[.int .i64 a0_0, .int .u64 a0_1]] (by rfl) rfl rfl ql_ ?_
        with_reducible refine (corebankref01_Sub.calls t590 t591 a0_0 a0_1 t592 t593 t594 _ A18.out).mono ?_
        rintro e w49 ⟨rfl, hb⟩
        refine ⟨_, rfl, ?_⟩
        have n0_ := Aside0.mk (blk_below (qk_ BK576.out) hb)
        have n1_ := Aside0.mk (blk_below (qk_ BK595.out) hb)
        have n2_ := Aside0.mk (below_step (qb2_ GE576.out GE595.out HB.out) hb)
        clear BK576
        clear BK595
        clear HB
        have BK576 := n0_
        have BK595 := n1_
        have HB := n2_
        clear n0_ n1_ n2_
        (try clear hb)
        (try clear hb2)
        (try clear hk)
        (try clear hi)
        refine hK.out _ _ ⟨(blk_cell BK576.out 0).trans rfl, (blk_cell BK576.out 1).trans rfl⟩ (fun hHeld => ?_)
        clear hK K
        refine no_ ?_
        refine pz_ 5 70 (nb_ 11 319) HT_.out ?_
        refine pz_ 6 76 (nb_ 11 383) HT_.out ?_
        refine pz_ 7 77 (nb_ 11 511) HT_.out ?_
        exact norm_ (by simp only [putAll, Act.put, List.setIfInBounds_toArray, List.set_cons_zero, List.set_cons_succ]) (hCont (gb595) _ ⟨hHeld, (qk_ BK576.out), (qk_ BK595.out), GW595.out, GE595.out, NB576_595.out, NB595_576.out, (qb2_ GE576.out GE595.out HB.out)⟩)
      rintro gb595 w50 ⟨hS_, h0_, h1_, h2_, h3_, h4_, h5_, h6_⟩
      have n0_ : Aside0 (w50.heap[gb576]? = some (.cells #[.int .i64 a0_0, .int .u64 a0_1] 24 (0, 0))) := ⟨h0_⟩
      have n1_ : Aside0 (w50.heap[gb595]? = some (.cells #[.int .i64 0, .int .u64 0] 24 (0, 0))) := ⟨h1_⟩
      have n2_ : Aside0 (w.heap.size ≤ gb595) := ⟨h2_⟩
      have n3_ : Aside0 (w.heap.size ≤ gb595) := ⟨h3_⟩
      have n4_ : Aside0 (gb576 ≠ gb595) := ⟨h4_⟩
      have n5_ : Aside0 (gb595 ≠ gb576) := ⟨h5_⟩
      have n6_ : Aside0 (Below w.heap.size w w50) := ⟨h6_⟩
      clear BK576
      clear HB
      clear h0_ h1_ h2_ h3_ h4_ h5_ h6_
      have BK576 := n0_
      have BK595 := n1_
      have GW595 := n2_
      have GE595 := n3_
      have NB576_595 := n4_
      have NB595_576 := n5_
      have HB := n6_
      clear n0_ n1_ n2_ n3_ n4_ n5_ n6_
      have hHeld : w50.cell? ⟨gb576, 0, none⟩ = some (.int .i64 a0_0) ∧ w50.cell? ⟨gb576, 1, none⟩ = some (.int .u64 a0_1) := hS_
      refine norm_ (a' := ?_) ?_ ?_
      rotate_left
      ·simp only [putAll, Act.put, List.setIfInBounds_toArray, List.set_cons_zero, List.set_cons_succ]
       rfl
      refine one_ (i := 9) (N := none) (nb_ 11 1023) rfl rfl (one_of HT_.out (by kernel_rfl)) (by decide) (fun K hK => ?_)
      have hs51 : w50.cell? ⟨gb595, 0, none⟩ = some (.int .i64 0) := (blk_cell BK595.out 0).trans rfl
      have hfs51 := blk_frozen BK595.out 0
      have hns51_0 := NB576_595.out
      have hms51_0 := NB595_576.out
      have hs52 : w50.cell? ⟨gb595, 1, none⟩ = some (.int .u64 0) := (blk_cell BK595.out 1).trans rfl
      have hfs52 := blk_frozen BK595.out 1
      have hns52_0 := NB576_595.out
      have hms52_0 := NB595_576.out
      refine skip_ (w1 := ?_) (by rfl) rfl ?_ ?_
      rotate_left
      ·go_simp
       rfl
      refine hK.out _ _ ⟨((cell_far (p := ⟨gb595, _, none⟩) NB576_595.out _).trans (((cell_far (p := ⟨gb595, _, none⟩) NB576_595.out _).trans (hHeld.1)))), ((cell_far (p := ⟨gb595, _, none⟩) NB576_595.out _).trans (((cell_far (p := ⟨gb595, _, none⟩) NB576_595.out _).trans (hHeld.2))))⟩ (fun hHeld => ?_)
      clear hK K
      refine pz_ 10 15 (nb_ 11 2047) HT_.out ?_
      refine done_ (done_of HT_.out (by kernel_rfl)) ?_
      try go_wp2
      go_ret
      exact ⟨qe_, qb2_ GE576.out GE595.out HB.out⟩
    ·rw [if_neg c16] at H
     have c16b0 : (t578 == 0) = false := beq_eq_false_iff_ne.mpr c16
     have c16b1 : (t578 != 0) = true := bne_iff_ne.mpr c16
     replace H := Option.bind_eq_some_iff.mp H
     obtain ⟨⟨t581, t582, t583, t584⟩, A530, H⟩ := H
     replace H : ((corebankref01_Int.f t581 t582).bind fun bt586 => (if t578 = 6 then (if t577 = 0 then (if bt586.2 = true then (if bt586.1 = 9223372036854775807 then ((corebanklaw02_live.f).bind fun t588 => (some t588)) else (some false)) else ((corebanklaw02_live.f).bind fun t589 => (some t589))) else (some false)) else (some false))) = some r := H
     have A53 := Aside0.mk A530
     clear A530
     replace H := Option.bind_eq_some_iff.mp H
     obtain ⟨⟨t586, t587⟩, A540, H⟩ := H
     replace H : (if t578 = 6 then (if t577 = 0 then (if t587 = true then (if t586 = 9223372036854775807 then ((corebanklaw02_live.f).bind fun t588 => (some t588)) else (some false)) else ((corebanklaw02_live.f).bind fun t589 => (some t589))) else (some false)) else (some false)) = some r := H
     have A54 := Aside0.mk A540
     clear A540
     by_cases c55 : t578 = 6
     ·rw [if_pos c55] at H
      have c55b0 : (t578 == 6) = true := beq_iff_eq.mpr c55
      have c55b1 : (t578 != 6) = false := bne_eq_false_iff_eq.mpr c55
      clear c55
      by_cases c56 : t577 = 0
      ·rw [if_pos c56] at H
       have c56b0 : (t577 == 0) = true := beq_iff_eq.mpr c56
       have c56b1 : (t577 != 0) = false := bne_eq_false_iff_eq.mpr c56
       clear c56
       by_cases c57 : t587 = true
       ·subst c57
        have H1 : (if t586 = 9223372036854775807 then ((corebanklaw02_live.f).bind fun t588 => (some t588)) else (some false)) = some r := by rw [if_pos rfl] at H; exact H
        clear H
        have H := H1
        clear H1
        by_cases c58 : t586 = 9223372036854775807
        ·rw [if_pos c58] at H
         have c58b0 : (t586 == 9223372036854775807) = true := beq_iff_eq.mpr c58
         have c58b1 : (t586 != 9223372036854775807) = false := bne_eq_false_iff_eq.mpr c58
         clear c58
         replace H := Option.bind_eq_some_iff.mp H
         obtain ⟨t588, A590, H⟩ := H
         replace H : (some t588) = some r := H
         have A59 := Aside0.mk A590
         clear A590
         obtain rfl := Option.some.inj H
         have hcz60_0 : wc.cell? ⟨gb576, 0, none⟩ = some (.int .i64 a0_0) := (blk_cell BK576.out 0).trans rfl
         have hcz60_1 : wc.cell? ⟨gb576, 1, none⟩ = some (.int .u64 a0_1) := (blk_cell BK576.out 1).trans rfl
         have hfz60_0 := blk_frozen BK576.out 0
         have hfz60_1 := blk_frozen BK576.out 1
         go_wp2_with (first | ((with_reducible refine gate_callee (f := 31) rfl ?_); refine goesL_ (some 44) rfl rfl Tryd.func31 (by kernel_rfl) rfl #[.agg #[.int .i64 a0_0, .int .u64 a0_1], .int .i64 a1] rfl ql_ ?_; (with_reducible refine (corebankref01_Div.calls a0_0 a0_1 a1 t581 t582 t583 t584 _ A53.out).mono ?_); rintro e w61 ⟨rfl, hb⟩; refine ⟨_, rfl, ?_⟩; have n0_ := Aside0.mk (blk_below (qk_ BK576.out) hb); have n1_ := Aside0.mk (below_step (qb1_ GE576.out HB.out) hb); clear BK576; clear HB; have BK576 := n0_; have HB := n1_; clear n0_ n1_; (try clear hb); (try clear hb2); (try clear hk); (try clear hi)) | ((with_reducible refine gate_dst (N := 9) rfl ?_); refine be_ (N := 9) (cs := #[.int .i64 0, .int .u64 0]) (t := 24) ?_; intro gb585 hg w62 hbox hb; have n0_ := Aside0.mk (blk_below (qk_ BK576.out) hb); have n1_ := Aside0.mk (below_step (qb1_ GE576.out HB.out) hb); have n2_ := Aside0.mk (hbox); have n3_ := Aside0.mk (bz_ hg (qb1_ GE576.out HB.out) : w.heap.size ≤ gb585); have n4_ := n3_; have n5_ := Aside0.mk (nl_ hg (qk_ BK576.out) : gb576 ≠ gb585); have n6_ := Aside0.mk (ng_ hg (qk_ BK576.out) : gb585 ≠ gb576); clear BK576; clear HB; have BK576 := n0_; have HB := n1_; have BK585 := n2_; have GW585 := n3_; have GE585 := n4_; have NB576_585 := n5_; have NB585_576 := n6_; clear n0_ n1_ n2_ n3_ n4_ n5_ n6_; clear hb hbox hg; have hnb63 := NB585_576.out; have hnc63 := NB576_585.out; have hcz64_0 : w62.cell? ⟨gb585, 0, none⟩ = some (.int .i64 0) := (blk_cell BK585.out 0).trans rfl; have hcz64_1 : w62.cell? ⟨gb585, 1, none⟩ = some (.int .u64 0) := (blk_cell BK585.out 1).trans rfl; have hfz64_0 := blk_frozen BK585.out 0; have hfz64_1 := blk_frozen BK585.out 1) | ((with_reducible refine gate_callee (f := 32) rfl ?_); refine goesL_ (some 50) rfl rfl Tryd.func32 (by kernel_rfl) rfl #[.agg #[.int .i64 t581, .int .u64 t582]] rfl ql_ ?_; (with_reducible refine (corebankref01_Int.calls t581 t582 t586 true _ A54.out).mono ?_); rintro e w65 ⟨rfl, hb⟩; refine ⟨_, rfl, ?_⟩; have n0_ := Aside0.mk (blk_below (g := gb576) (o := .cells #[.int .i64 a0_0, .int .u64 a0_1] 24 (0, 0)) (qff_ NB576_585.out NB576_585.out BK576.out) hb); have n1_ := Aside0.mk (blk_below (g := gb585) (o := .cells #[.int .i64 t581, .int .u64 t582] 24 (0, 0)) (qpp_ #[.int .i64 t581, .int .u64 0] 1 #[.int .i64 0, .int .u64 0] 0 BK585.out) hb); have n2_ := Aside0.mk (below_step (qb2_ GE576.out GE585.out HB.out) hb); clear BK576; clear BK585; clear HB; have BK576 := n0_; have BK585 := n1_; have HB := n2_; clear n0_ n1_ n2_; (try clear hb); (try clear hb2); (try clear hk); (try clear hi)) | (go_at_call 15; (with_reducible refine (corebanklaw02_live.calls (hG := by first | exact hG | (with_reducible exact GW.below hG (qb2_ GE576.out GE585.out HB.out)) | (with_reducible repeat (first | exact hG | apply GW.drewN | apply GW.drew)))  t588 _ A59.out).mono ?_); rintro e w66 ⟨rfl, hb⟩; have n0_ := Aside0.mk (blk_below (qk_ BK576.out) hb); have n1_ := Aside0.mk (blk_below (qk_ BK585.out) hb); have n2_ := Aside0.mk (below_step (qb2_ GE576.out GE585.out HB.out) hb); clear BK576; clear BK585; clear HB; have BK576 := n0_; have BK585 := n1_; have HB := n2_; clear n0_ n1_ n2_; (try clear hb); (try clear hb2); (try clear hk); (try clear hi)))
         go_ret
         exact ⟨qe_, qb2_ GE576.out GE585.out HB.out⟩
        ·rw [if_neg c58] at H
         have c58b0 : (t586 == 9223372036854775807) = false := beq_eq_false_iff_ne.mpr c58
         have c58b1 : (t586 != 9223372036854775807) = true := bne_iff_ne.mpr c58
         obtain rfl := Option.some.inj H
         have hcz67_0 : wc.cell? ⟨gb576, 0, none⟩ = some (.int .i64 a0_0) := (blk_cell BK576.out 0).trans rfl
         have hcz67_1 : wc.cell? ⟨gb576, 1, none⟩ = some (.int .u64 a0_1) := (blk_cell BK576.out 1).trans rfl
         have hfz67_0 := blk_frozen BK576.out 0
         have hfz67_1 := blk_frozen BK576.out 1
         go_wp2_with (first | ((with_reducible refine gate_callee (f := 31) rfl ?_); refine goesL_ (some 44) rfl rfl Tryd.func31 (by kernel_rfl) rfl #[.agg #[.int .i64 a0_0, .int .u64 a0_1], .int .i64 a1] rfl ql_ ?_; (with_reducible refine (corebankref01_Div.calls a0_0 a0_1 a1 t581 t582 t583 t584 _ A53.out).mono ?_); rintro e w68 ⟨rfl, hb⟩; refine ⟨_, rfl, ?_⟩; have n0_ := Aside0.mk (blk_below (qk_ BK576.out) hb); have n1_ := Aside0.mk (below_step (qb1_ GE576.out HB.out) hb); clear BK576; clear HB; have BK576 := n0_; have HB := n1_; clear n0_ n1_; (try clear hb); (try clear hb2); (try clear hk); (try clear hi)) | ((with_reducible refine gate_dst (N := 9) rfl ?_); refine be_ (N := 9) (cs := #[.int .i64 0, .int .u64 0]) (t := 24) ?_; intro gb585 hg w69 hbox hb; have n0_ := Aside0.mk (blk_below (qk_ BK576.out) hb); have n1_ := Aside0.mk (below_step (qb1_ GE576.out HB.out) hb); have n2_ := Aside0.mk (hbox); have n3_ := Aside0.mk (bz_ hg (qb1_ GE576.out HB.out) : w.heap.size ≤ gb585); have n4_ := n3_; have n5_ := Aside0.mk (nl_ hg (qk_ BK576.out) : gb576 ≠ gb585); have n6_ := Aside0.mk (ng_ hg (qk_ BK576.out) : gb585 ≠ gb576); clear BK576; clear HB; have BK576 := n0_; have HB := n1_; have BK585 := n2_; have GW585 := n3_; have GE585 := n4_; have NB576_585 := n5_; have NB585_576 := n6_; clear n0_ n1_ n2_ n3_ n4_ n5_ n6_; clear hb hbox hg; have hnb70 := NB585_576.out; have hnc70 := NB576_585.out; have hcz71_0 : w69.cell? ⟨gb585, 0, none⟩ = some (.int .i64 0) := (blk_cell BK585.out 0).trans rfl; have hcz71_1 : w69.cell? ⟨gb585, 1, none⟩ = some (.int .u64 0) := (blk_cell BK585.out 1).trans rfl; have hfz71_0 := blk_frozen BK585.out 0; have hfz71_1 := blk_frozen BK585.out 1) | ((with_reducible refine gate_callee (f := 32) rfl ?_); refine goesL_ (some 50) rfl rfl Tryd.func32 (by kernel_rfl) rfl #[.agg #[.int .i64 t581, .int .u64 t582]] rfl ql_ ?_; (with_reducible refine (corebankref01_Int.calls t581 t582 t586 true _ A54.out).mono ?_); rintro e w72 ⟨rfl, hb⟩; refine ⟨_, rfl, ?_⟩; have n0_ := Aside0.mk (blk_below (g := gb576) (o := .cells #[.int .i64 a0_0, .int .u64 a0_1] 24 (0, 0)) (qff_ NB576_585.out NB576_585.out BK576.out) hb); have n1_ := Aside0.mk (blk_below (g := gb585) (o := .cells #[.int .i64 t581, .int .u64 t582] 24 (0, 0)) (qpp_ #[.int .i64 t581, .int .u64 0] 1 #[.int .i64 0, .int .u64 0] 0 BK585.out) hb); have n2_ := Aside0.mk (below_step (qb2_ GE576.out GE585.out HB.out) hb); clear BK576; clear BK585; clear HB; have BK576 := n0_; have BK585 := n1_; have HB := n2_; clear n0_ n1_ n2_; (try clear hb); (try clear hb2); (try clear hk); (try clear hi)))
         go_ret
         exact ⟨qe_, qb2_ GE576.out GE585.out HB.out⟩
       ·replace c57 := Bool.eq_false_iff.mpr c57
        subst c57
        have H1 : ((corebanklaw02_live.f).bind fun t589 => (some t589)) = some r := by rw [if_neg (show ¬ (false = true) by decide)] at H; exact H
        clear H
        have H := H1
        clear H1
        replace H := Option.bind_eq_some_iff.mp H
        obtain ⟨t589, A730, H⟩ := H
        replace H : (some t589) = some r := H
        have A73 := Aside0.mk A730
        clear A730
        obtain rfl := Option.some.inj H
        have hcz74_0 : wc.cell? ⟨gb576, 0, none⟩ = some (.int .i64 a0_0) := (blk_cell BK576.out 0).trans rfl
        have hcz74_1 : wc.cell? ⟨gb576, 1, none⟩ = some (.int .u64 a0_1) := (blk_cell BK576.out 1).trans rfl
        have hfz74_0 := blk_frozen BK576.out 0
        have hfz74_1 := blk_frozen BK576.out 1
        go_wp2_with (first | ((with_reducible refine gate_callee (f := 31) rfl ?_); refine goesL_ (some 44) rfl rfl Tryd.func31 (by kernel_rfl) rfl #[.agg #[.int .i64 a0_0, .int .u64 a0_1], .int .i64 a1] rfl ql_ ?_; (with_reducible refine (corebankref01_Div.calls a0_0 a0_1 a1 t581 t582 t583 t584 _ A53.out).mono ?_); rintro e w75 ⟨rfl, hb⟩; refine ⟨_, rfl, ?_⟩; have n0_ := Aside0.mk (blk_below (qk_ BK576.out) hb); have n1_ := Aside0.mk (below_step (qb1_ GE576.out HB.out) hb); clear BK576; clear HB; have BK576 := n0_; have HB := n1_; clear n0_ n1_; (try clear hb); (try clear hb2); (try clear hk); (try clear hi)) | ((with_reducible refine gate_dst (N := 9) rfl ?_); refine be_ (N := 9) (cs := #[.int .i64 0, .int .u64 0]) (t := 24) ?_; intro gb585 hg w76 hbox hb; have n0_ := Aside0.mk (blk_below (qk_ BK576.out) hb); have n1_ := Aside0.mk (below_step (qb1_ GE576.out HB.out) hb); have n2_ := Aside0.mk (hbox); have n3_ := Aside0.mk (bz_ hg (qb1_ GE576.out HB.out) : w.heap.size ≤ gb585); have n4_ := n3_; have n5_ := Aside0.mk (nl_ hg (qk_ BK576.out) : gb576 ≠ gb585); have n6_ := Aside0.mk (ng_ hg (qk_ BK576.out) : gb585 ≠ gb576); clear BK576; clear HB; have BK576 := n0_; have HB := n1_; have BK585 := n2_; have GW585 := n3_; have GE585 := n4_; have NB576_585 := n5_; have NB585_576 := n6_; clear n0_ n1_ n2_ n3_ n4_ n5_ n6_; clear hb hbox hg; have hnb77 := NB585_576.out; have hnc77 := NB576_585.out; have hcz78_0 : w76.cell? ⟨gb585, 0, none⟩ = some (.int .i64 0) := (blk_cell BK585.out 0).trans rfl; have hcz78_1 : w76.cell? ⟨gb585, 1, none⟩ = some (.int .u64 0) := (blk_cell BK585.out 1).trans rfl; have hfz78_0 := blk_frozen BK585.out 0; have hfz78_1 := blk_frozen BK585.out 1) | ((with_reducible refine gate_callee (f := 32) rfl ?_); refine goesL_ (some 50) rfl rfl Tryd.func32 (by kernel_rfl) rfl #[.agg #[.int .i64 t581, .int .u64 t582]] rfl ql_ ?_; (with_reducible refine (corebankref01_Int.calls t581 t582 t586 false _ A54.out).mono ?_); rintro e w79 ⟨rfl, hb⟩; refine ⟨_, rfl, ?_⟩; have n0_ := Aside0.mk (blk_below (g := gb576) (o := .cells #[.int .i64 a0_0, .int .u64 a0_1] 24 (0, 0)) (qff_ NB576_585.out NB576_585.out BK576.out) hb); have n1_ := Aside0.mk (blk_below (g := gb585) (o := .cells #[.int .i64 t581, .int .u64 t582] 24 (0, 0)) (qpp_ #[.int .i64 t581, .int .u64 0] 1 #[.int .i64 0, .int .u64 0] 0 BK585.out) hb); have n2_ := Aside0.mk (below_step (qb2_ GE576.out GE585.out HB.out) hb); clear BK576; clear BK585; clear HB; have BK576 := n0_; have BK585 := n1_; have HB := n2_; clear n0_ n1_ n2_; (try clear hb); (try clear hb2); (try clear hk); (try clear hi)) | (go_at_call 15; (with_reducible refine (corebanklaw02_live.calls (hG := by first | exact hG | (with_reducible exact GW.below hG (qb2_ GE576.out GE585.out HB.out)) | (with_reducible repeat (first | exact hG | apply GW.drewN | apply GW.drew)))  t589 _ A73.out).mono ?_); rintro e w80 ⟨rfl, hb⟩; have n0_ := Aside0.mk (blk_below (qk_ BK576.out) hb); have n1_ := Aside0.mk (blk_below (qk_ BK585.out) hb); have n2_ := Aside0.mk (below_step (qb2_ GE576.out GE585.out HB.out) hb); clear BK576; clear BK585; clear HB; have BK576 := n0_; have BK585 := n1_; have HB := n2_; clear n0_ n1_ n2_; (try clear hb); (try clear hb2); (try clear hk); (try clear hi)))
        go_ret
        exact ⟨qe_, qb2_ GE576.out GE585.out HB.out⟩
      ·rw [if_neg c56] at H
       have c56b0 : (t577 == 0) = false := beq_eq_false_iff_ne.mpr c56
       have c56b1 : (t577 != 0) = true := bne_iff_ne.mpr c56
       obtain rfl := Option.some.inj H
       have hcz81_0 : wc.cell? ⟨gb576, 0, none⟩ = some (.int .i64 a0_0) := (blk_cell BK576.out 0).trans rfl
       have hcz81_1 : wc.cell? ⟨gb576, 1, none⟩ = some (.int .u64 a0_1) := (blk_cell BK576.out 1).trans rfl
       have hfz81_0 := blk_frozen BK576.out 0
       have hfz81_1 := blk_frozen BK576.out 1
       go_wp2_with (first | ((with_reducible refine gate_callee (f := 31) rfl ?_); refine goesL_ (some 44) rfl rfl Tryd.func31 (by kernel_rfl) rfl #[.agg #[.int .i64 a0_0, .int .u64 a0_1], .int .i64 a1] rfl ql_ ?_; (with_reducible refine (corebankref01_Div.calls a0_0 a0_1 a1 t581 t582 t583 t584 _ A53.out).mono ?_); rintro e w82 ⟨rfl, hb⟩; refine ⟨_, rfl, ?_⟩; have n0_ := Aside0.mk (blk_below (qk_ BK576.out) hb); have n1_ := Aside0.mk (below_step (qb1_ GE576.out HB.out) hb); clear BK576; clear HB; have BK576 := n0_; have HB := n1_; clear n0_ n1_; (try clear hb); (try clear hb2); (try clear hk); (try clear hi)) | ((with_reducible refine gate_dst (N := 9) rfl ?_); refine be_ (N := 9) (cs := #[.int .i64 0, .int .u64 0]) (t := 24) ?_; intro gb585 hg w83 hbox hb; have n0_ := Aside0.mk (blk_below (qk_ BK576.out) hb); have n1_ := Aside0.mk (below_step (qb1_ GE576.out HB.out) hb); have n2_ := Aside0.mk (hbox); have n3_ := Aside0.mk (bz_ hg (qb1_ GE576.out HB.out) : w.heap.size ≤ gb585); have n4_ := n3_; have n5_ := Aside0.mk (nl_ hg (qk_ BK576.out) : gb576 ≠ gb585); have n6_ := Aside0.mk (ng_ hg (qk_ BK576.out) : gb585 ≠ gb576); clear BK576; clear HB; have BK576 := n0_; have HB := n1_; have BK585 := n2_; have GW585 := n3_; have GE585 := n4_; have NB576_585 := n5_; have NB585_576 := n6_; clear n0_ n1_ n2_ n3_ n4_ n5_ n6_; clear hb hbox hg; have hnb84 := NB585_576.out; have hnc84 := NB576_585.out; have hcz85_0 : w83.cell? ⟨gb585, 0, none⟩ = some (.int .i64 0) := (blk_cell BK585.out 0).trans rfl; have hcz85_1 : w83.cell? ⟨gb585, 1, none⟩ = some (.int .u64 0) := (blk_cell BK585.out 1).trans rfl; have hfz85_0 := blk_frozen BK585.out 0; have hfz85_1 := blk_frozen BK585.out 1) | ((with_reducible refine gate_callee (f := 32) rfl ?_); refine goesL_ (some 50) rfl rfl Tryd.func32 (by kernel_rfl) rfl #[.agg #[.int .i64 t581, .int .u64 t582]] rfl ql_ ?_; (with_reducible refine (corebankref01_Int.calls t581 t582 t586 t587 _ A54.out).mono ?_); rintro e w86 ⟨rfl, hb⟩; refine ⟨_, rfl, ?_⟩; have n0_ := Aside0.mk (blk_below (g := gb576) (o := .cells #[.int .i64 a0_0, .int .u64 a0_1] 24 (0, 0)) (qff_ NB576_585.out NB576_585.out BK576.out) hb); have n1_ := Aside0.mk (blk_below (g := gb585) (o := .cells #[.int .i64 t581, .int .u64 t582] 24 (0, 0)) (qpp_ #[.int .i64 t581, .int .u64 0] 1 #[.int .i64 0, .int .u64 0] 0 BK585.out) hb); have n2_ := Aside0.mk (below_step (qb2_ GE576.out GE585.out HB.out) hb); clear BK576; clear BK585; clear HB; have BK576 := n0_; have BK585 := n1_; have HB := n2_; clear n0_ n1_ n2_; (try clear hb); (try clear hb2); (try clear hk); (try clear hi)))
       go_ret
       exact ⟨qe_, qb2_ GE576.out GE585.out HB.out⟩
     ·rw [if_neg c55] at H
      have c55b0 : (t578 == 6) = false := beq_eq_false_iff_ne.mpr c55
      have c55b1 : (t578 != 6) = true := bne_iff_ne.mpr c55
      obtain rfl := Option.some.inj H
      have hcz87_0 : wc.cell? ⟨gb576, 0, none⟩ = some (.int .i64 a0_0) := (blk_cell BK576.out 0).trans rfl
      have hcz87_1 : wc.cell? ⟨gb576, 1, none⟩ = some (.int .u64 a0_1) := (blk_cell BK576.out 1).trans rfl
      have hfz87_0 := blk_frozen BK576.out 0
      have hfz87_1 := blk_frozen BK576.out 1
      go_wp2_with (first | ((with_reducible refine gate_callee (f := 31) rfl ?_); refine goesL_ (some 44) rfl rfl Tryd.func31 (by kernel_rfl) rfl #[.agg #[.int .i64 a0_0, .int .u64 a0_1], .int .i64 a1] rfl ql_ ?_; (with_reducible refine (corebankref01_Div.calls a0_0 a0_1 a1 t581 t582 t583 t584 _ A53.out).mono ?_); rintro e w88 ⟨rfl, hb⟩; refine ⟨_, rfl, ?_⟩; have n0_ := Aside0.mk (blk_below (qk_ BK576.out) hb); have n1_ := Aside0.mk (below_step (qb1_ GE576.out HB.out) hb); clear BK576; clear HB; have BK576 := n0_; have HB := n1_; clear n0_ n1_; (try clear hb); (try clear hb2); (try clear hk); (try clear hi)) | ((with_reducible refine gate_dst (N := 9) rfl ?_); refine be_ (N := 9) (cs := #[.int .i64 0, .int .u64 0]) (t := 24) ?_; intro gb585 hg w89 hbox hb; have n0_ := Aside0.mk (blk_below (qk_ BK576.out) hb); have n1_ := Aside0.mk (below_step (qb1_ GE576.out HB.out) hb); have n2_ := Aside0.mk (hbox); have n3_ := Aside0.mk (bz_ hg (qb1_ GE576.out HB.out) : w.heap.size ≤ gb585); have n4_ := n3_; have n5_ := Aside0.mk (nl_ hg (qk_ BK576.out) : gb576 ≠ gb585); have n6_ := Aside0.mk (ng_ hg (qk_ BK576.out) : gb585 ≠ gb576); clear BK576; clear HB; have BK576 := n0_; have HB := n1_; have BK585 := n2_; have GW585 := n3_; have GE585 := n4_; have NB576_585 := n5_; have NB585_576 := n6_; clear n0_ n1_ n2_ n3_ n4_ n5_ n6_; clear hb hbox hg; have hnb90 := NB585_576.out; have hnc90 := NB576_585.out; have hcz91_0 : w89.cell? ⟨gb585, 0, none⟩ = some (.int .i64 0) := (blk_cell BK585.out 0).trans rfl; have hcz91_1 : w89.cell? ⟨gb585, 1, none⟩ = some (.int .u64 0) := (blk_cell BK585.out 1).trans rfl; have hfz91_0 := blk_frozen BK585.out 0; have hfz91_1 := blk_frozen BK585.out 1) | ((with_reducible refine gate_callee (f := 32) rfl ?_); refine goesL_ (some 50) rfl rfl Tryd.func32 (by kernel_rfl) rfl #[.agg #[.int .i64 t581, .int .u64 t582]] rfl ql_ ?_; (with_reducible refine (corebankref01_Int.calls t581 t582 t586 t587 _ A54.out).mono ?_); rintro e w92 ⟨rfl, hb⟩; refine ⟨_, rfl, ?_⟩; have n0_ := Aside0.mk (blk_below (g := gb576) (o := .cells #[.int .i64 a0_0, .int .u64 a0_1] 24 (0, 0)) (qff_ NB576_585.out NB576_585.out BK576.out) hb); have n1_ := Aside0.mk (blk_below (g := gb585) (o := .cells #[.int .i64 t581, .int .u64 t582] 24 (0, 0)) (qpp_ #[.int .i64 t581, .int .u64 0] 1 #[.int .i64 0, .int .u64 0] 0 BK585.out) hb); have n2_ := Aside0.mk (below_step (qb2_ GE576.out GE585.out HB.out) hb); clear BK576; clear BK585; clear HB; have BK576 := n0_; have BK585 := n1_; have HB := n2_; clear n0_ n1_ n2_; (try clear hb); (try clear hb2); (try clear hk); (try clear hi)))
      go_ret
      exact ⟨qe_, qb2_ GE576.out GE585.out HB.out⟩
end Go.Proofs.YtkdhippoibjfkaaDoor.PR
