import Derived.Test.YtkdhippoibjfkaaDoorQRm2
import Derived.Test.YtkdhippoibjfkaaDoorQRm4
section
namespace Go.Proofs.YtkdhippoibjfkaaDoor.PR
open Go.RowKit Go.Proofs.YtkdhippoibjfkaaDoorW.PrintWords Go.Proofs.YtkdhippoibjfkaaDoorW.PrintLast
set_option linter.unusedVariables false
set_option linter.unusedSimpArgs false
mutual
def rounding_DivideP.j0 : Nat → Int → Int → Bool → Int → Int → Option (Int × Int)
 | 0, _, _, _, _, _ => none
 | k + 1, x1, x2, x19, x151000, x151001 => if x19 = true then (some (0, 1)) else ((wide_Div.f x151000 x151001 x1).bind fun bt152 => (if bt152.2.2.1 > 0 then ((rounding_more.f bt152.1 bt152.2.1 bt152.2.2.1 x1 x2).bind fun t157 => ((wide_Of.f t157).bind fun bt158 => ((wide_Add.f bt152.1 bt152.2.1 bt158.1 bt158.2).bind fun bt160 => (rounding_DivideP.j1 k bt160.1 bt160.2.1)))) else (rounding_DivideP.j1 k bt152.1 bt152.2.1)))
def rounding_DivideP.j1 : Nat → Int → Int → Option (Int × Int)
 | 0, _, _ => none
 | k + 1, x157000, x157001 => (wide_Int.f x157000 x157001).bind fun bt163 => (if bt163.2 = true then (some (bt163.1, 0)) else (some (0, 6)))
end
def rounding_DivideP.f (k : Nat) (a0_0 : Int) (a0_1 : Int) (a1 : Int) (a2 : Int) : Option (Int × Int) := if a1 < 1 then (rounding_DivideP.j0 k a1 a2 true a0_0 a0_1) else ((rounding_Valid.f a2).bind fun t151 => (rounding_DivideP.j0 k a1 a2 (!t151) a0_0 a0_1))
theorem rounding_DivideP.mono_l : ∀ k, (∀ y0 y1 y2 y3 y4, LeO (rounding_DivideP.j0 k y0 y1 y2 y3 y4) (rounding_DivideP.j0 (k + 1) y0 y1 y2 y3 y4)) ∧ (∀ y0 y1, LeO (rounding_DivideP.j1 k y0 y1) (rounding_DivideP.j1 (k + 1) y0 y1))
 | 0 => ⟨fun _ _ _ _ _ r h => by simp [rounding_DivideP.j0] at h, fun _ _ r h => by simp [rounding_DivideP.j1] at h⟩
 | k + 1 => by
  obtain ⟨ih0, ih1⟩ := rounding_DivideP.mono_l k
  refine ⟨?_, ?_⟩
  ·intro y0 y1 y2 y3 y4
   unfold rounding_DivideP.j0
   repeat' first
   | (with_reducible exact ih0 _ _ _ _ _)
   | (with_reducible exact ih1 _ _)
   | (with_reducible exact LeO.refl _)
   | (with_reducible exact LeO.none _)
   | (with_reducible refine LeO.ite ?_ ?_)
   | (with_reducible refine LeO.bind ?_ (fun _ => ?_))
   | exact ih0 _ _ _ _ _
   | exact ih1 _ _
   | exact LeO.none _
   | refine LeO.ite ?_ ?_
   | refine LeO.bind ?_ (fun _ => ?_)
  ·intro y0 y1
   unfold rounding_DivideP.j1
   repeat' first
   | (with_reducible exact ih0 _ _ _ _ _)
   | (with_reducible exact ih1 _ _)
   | (with_reducible exact LeO.refl _)
   | (with_reducible exact LeO.none _)
   | (with_reducible refine LeO.ite ?_ ?_)
   | (with_reducible refine LeO.bind ?_ (fun _ => ?_))
   | exact ih0 _ _ _ _ _
   | exact ih1 _ _
   | exact LeO.none _
   | refine LeO.ite ?_ ?_
   | refine LeO.bind ?_ (fun _ => ?_)
theorem rounding_DivideP.mono : ∀ a0 a1 a2 a3 k, LeO (rounding_DivideP.f k a0 a1 a2 a3) (rounding_DivideP.f (k + 1) a0 a1 a2 a3) := by
 intro a0 a1 a2 a3 k
 obtain ⟨ih0, ih1⟩ := rounding_DivideP.mono_l k
 unfold rounding_DivideP.f
 repeat' first
   | (with_reducible exact ih0 _ _ _ _ _)
   | (with_reducible exact ih1 _ _)
   | (with_reducible exact LeO.refl _)
   | (with_reducible exact LeO.none _)
   | (with_reducible refine LeO.ite ?_ ?_)
   | (with_reducible refine LeO.bind ?_ (fun _ => ?_))
   | exact ih0 _ _ _ _ _
   | exact ih1 _ _
   | exact LeO.none _
   | refine LeO.ite ?_ ?_
   | refine LeO.bind ?_ (fun _ => ?_)
def rounding_DivideP.T5 : Bool × List (List Nat × List Nat) := (true, [([], []), ([], []), ([], []), ([], []), ([], []), ([1, 2, 3, 4], [1, 2, 3, 4]), ([5, 5], [5]), ([0, 6, 6], [0, 6]), ([7], [7]), ([8], [8]), ([8], [8]), ([9, 7, 0, 1, 2, 3, 4, 5, 6, 7, 8, 9], [9])])
def rounding_DivideP.B5 : List Nat := [0, 0, 0, 0, 0, 30, 62, 127, 255, 511, 511, 1023]
theorem rounding_DivideP.tab5 : rtab .any (opsOf Tryd.f11 5) = rounding_DivideP.T5 := by kernel_rfl
theorem rounding_DivideP.bits5 : waitsOk rounding_DivideP.T5.2 rounding_DivideP.B5 = true := by kernel_rfl
set_option maxHeartbeats 8000000 in
set_option maxRecDepth 100000 in
theorem rounding_DivideP.calls (k : Nat) (a0_0 : Int) (a0_1 : Int) (a1 : Int) (a2 : Int) (r1 : Int) (r2 : Int) (w : World) (hG : GW w) (h : rounding_DivideP.f k a0_0 a0_1 a1 a2 = some (r1, r2)) :
  Calls Tryd.prog 11 #[.agg #[.int .i64 a0_0, .int .u64 a0_1], .int .i64 a1, .int .i64 a2] w fun e w' => e = .returned (.tuple #[.int .i64 r1, .int .i64 r2]) ∧ Below w.heap.size w w' := by
 have hu24 := Tryd.underlying24
 have HB := Aside0.mk (Below.refl w.heap.size w)
 have H : (if a1 < 1 then (rounding_DivideP.j0 k a1 a2 true a0_0 a0_1) else ((rounding_Valid.f a2).bind fun t151 => (rounding_DivideP.j0 k a1 a2 (!t151) a0_0 a0_1))) = some (r1, r2) := h
 clear h
 have HC4 := Aside0.mk H
 clear H
 go_enter Tryd.func11, Tryd.ntmps11
 go_upto_region 1 with (first | ((with_reducible refine gate_dst (N := 3) rfl ?_); refine be_ (N := 3) (cs := #[.int .i64 a0_0, .int .u64 a0_1]) (t := 24) ?_; intro gb150 hg w5 hbox hb; have n0_ := Aside0.mk (below_step (qb_ HB.out) hb); have n1_ := Aside0.mk (hbox); have n2_ := Aside0.mk (bz_ hg (qb_ HB.out) : w.heap.size ≤ gb150); have n3_ := n2_; clear HB; have HB := n0_; have BK150 := n1_; have GW150 := n2_; have GE150 := n3_; clear n0_ n1_ n2_ n3_; clear hb hbox hg))
 (try simp only [Act.put, List.setIfInBounds_toArray, List.set_cons_zero, List.set_cons_succ])
 go_cut [19] (fun v19 wc => ∃ (kq : Nat) (x19_3 : Bool), v19 = .bool x19_3 ∧ Aside0 (rounding_DivideP.j0 kq a1 a2 x19_3 a0_0 a0_1 = some (r1, r2)) ∧ Aside0 (kq ≤ k) ∧ Aside0 (wc.heap[gb150]? = some (.cells #[.int .i64 a0_0, .int .u64 a0_1] 24 (0, 0))) ∧ Aside0 (Below w.heap.size w wc))
 case first =>
  have H := HC4.out
  clear HC4
  by_cases c6 : a1 < 1
  ·rw [if_pos c6] at H
   have c6b0 : decide (a1 < 1) = true := decide_eq_true c6
   clear c6
   (first | rw [c6b0] | (simp only [i64_w, i32_w]; rw [c6b0]) | skip)
   have H' := Aside0.mk H
   clear H
   go_wp2
   go_meet
   case rel => exact ⟨_, (true), qs_, H', ⟨qo_⟩, ⟨qk_ BK150.out⟩, ⟨qb1_ GE150.out HB.out⟩⟩
  ·rw [if_neg c6] at H
   have c6b0 : decide (a1 < 1) = false := decide_eq_false c6
   clear c6
   (first | rw [c6b0] | (simp only [i64_w, i32_w]; rw [c6b0]) | skip)
   replace H := Option.bind_eq_some_iff.mp H
   obtain ⟨t151, A70, H⟩ := H
   replace H : (rounding_DivideP.j0 k a1 a2 (!t151) a0_0 a0_1) = some (r1, r2) := H
   have A7 := Aside0.mk A70
   clear A70
   have H' := Aside0.mk H
   clear H
   go_wp2_with (first | (go_at_call 13; (with_reducible refine (rounding_Valid.calls a2 t151 _ A7.out).mono ?_); rintro e w' ⟨rfl, ⟨nd, rfl⟩⟩))
   go_meet
   case rel => exact ⟨_, (!t151), qs_, H', ⟨qo_⟩, ⟨qk_ BK150.out⟩, ⟨qb1_ GE150.out HB.out⟩⟩
 case rest =>
  clear HC4
  try clear c1
  try clear p2
  try clear c6
  try clear c6b0
  obtain ⟨kq, x19_3, rfl, HA, HJ3, BK150, HB⟩ := hcut
  cases kq with
  | zero => exact absurd HA.out (by simp [rounding_DivideP.j0])
  | succ kj3 =>
   have H := HA.out
   clear HA
   simp only [rounding_DivideP.j0] at H
   by_cases c8 : x19_3 = true
   ·subst c8
    have H1 : (some (0, 1)) = some (r1, r2) := by rw [if_pos rfl] at H; exact H
    clear H
    have H := H1
    clear H1
    simp only [Option.some.injEq, Prod.mk.injEq] at H
    obtain ⟨rfl, rfl⟩ := H
    go_wp2
    go_ret2
    exact ⟨qe_, qb1_ GE150.out HB.out⟩
   ·replace c8 := Bool.eq_false_iff.mpr c8
    subst c8
    have H1 : ((wide_Div.f a0_0 a0_1 a1).bind fun bt152 => (if bt152.2.2.1 > 0 then ((rounding_more.f bt152.1 bt152.2.1 bt152.2.2.1 a1 a2).bind fun t157 => ((wide_Of.f t157).bind fun bt158 => ((wide_Add.f bt152.1 bt152.2.1 bt158.1 bt158.2).bind fun bt160 => (rounding_DivideP.j1 kj3 bt160.1 bt160.2.1)))) else (rounding_DivideP.j1 kj3 bt152.1 bt152.2.1))) = some (r1, r2) := by rw [if_neg (show ¬ (false = true) by decide)] at H; exact H
    clear H
    have H := H1
    clear H1
    replace H := Option.bind_eq_some_iff.mp H
    obtain ⟨⟨t152, t153, t154, t155⟩, A90, H⟩ := H
    replace H : (if t154 > 0 then ((rounding_more.f t152 t153 t154 a1 a2).bind fun t157 => ((wide_Of.f t157).bind fun bt158 => ((wide_Add.f t152 t153 bt158.1 bt158.2).bind fun bt160 => (rounding_DivideP.j1 kj3 bt160.1 bt160.2.1)))) else (rounding_DivideP.j1 kj3 t152 t153)) = some (r1, r2) := H
    have A9 := Aside0.mk A90
    clear A90
    have HC10 := Aside0.mk H
    clear H
    have hcz11_0 : wc.cell? ⟨gb150, 0, none⟩ = some (.int .i64 a0_0) := (blk_cell BK150.out 0).trans rfl
    have hcz11_1 : wc.cell? ⟨gb150, 1, none⟩ = some (.int .u64 a0_1) := (blk_cell BK150.out 1).trans rfl
    have hfz11_0 := blk_frozen BK150.out 0
    have hfz11_1 := blk_frozen BK150.out 1
    go_upto_if 28 with (first | ((with_reducible refine gate_callee (f := 34) rfl ?_); refine goesL_ (some 23) rfl rfl Tryd.func34 (by kernel_rfl) rfl #[.agg #[.int .i64 a0_0, .int .u64 a0_1], .int .i64 a1] rfl ql_ ?_; (with_reducible refine (wide_Div.calls a0_0 a0_1 a1 t152 t153 t154 t155 _ A9.out).mono ?_); rintro e w12 ⟨rfl, hb⟩; refine ⟨_, rfl, ?_⟩; have n0_ := Aside0.mk (blk_below (qk_ BK150.out) hb); have n1_ := Aside0.mk (below_step (qb1_ GE150.out HB.out) hb); clear BK150; clear HB; have BK150 := n0_; have HB := n1_; clear n0_ n1_; (try clear hb); (try clear hb2); (try clear hk); (try clear hi)) | ((with_reducible refine gate_dst (N := 8) rfl ?_); refine be_ (N := 8) (cs := #[.int .i64 0, .int .u64 0]) (t := 24) ?_; intro gb156 hg w13 hbox hb; have n0_ := Aside0.mk (blk_below (qk_ BK150.out) hb); have n1_ := Aside0.mk (below_step (qb1_ GE150.out HB.out) hb); have n2_ := Aside0.mk (hbox); have n3_ := Aside0.mk (bz_ hg (qb1_ GE150.out HB.out) : w.heap.size ≤ gb156); have n4_ := n3_; have n5_ := Aside0.mk (nl_ hg (qk_ BK150.out) : gb150 ≠ gb156); have n6_ := Aside0.mk (ng_ hg (qk_ BK150.out) : gb156 ≠ gb150); clear BK150; clear HB; have BK150 := n0_; have HB := n1_; have BK156 := n2_; have GW156 := n3_; have GE156 := n4_; have NB150_156 := n5_; have NB156_150 := n6_; clear n0_ n1_ n2_ n3_ n4_ n5_ n6_; clear hb hbox hg; have hnb14 := NB156_150.out; have hnc14 := NB150_156.out; have hcz15_0 : w13.cell? ⟨gb156, 0, none⟩ = some (.int .i64 0) := (blk_cell BK156.out 0).trans rfl; have hcz15_1 : w13.cell? ⟨gb156, 1, none⟩ = some (.int .u64 0) := (blk_cell BK156.out 1).trans rfl; have hfz15_0 := blk_frozen BK156.out 0; have hfz15_1 := blk_frozen BK156.out 1))
    (try simp only [Act.put, List.setIfInBounds_toArray, List.set_cons_zero, List.set_cons_succ])
    go_cut [] (fun wc => ∃ (kq : Nat) (x157000_9 : Int) (x157001_9 : Int), Aside0 (rounding_DivideP.j1 kq x157000_9 x157001_9 = some (r1, r2)) ∧ Aside0 (kq ≤ kj3) ∧ Aside0 (wc.heap[gb150]? = some (.cells #[.int .i64 a0_0, .int .u64 a0_1] 24 (0, 0))) ∧ Aside0 (wc.heap[gb156]? = some (.cells #[.int .i64 x157000_9, .int .u64 x157001_9] 24 (0, 0))) ∧ Aside0 (Below w.heap.size w wc))
    case first =>
     have H := HC10.out
     clear HC10
     by_cases c16 : t154 > 0
     ·rw [if_pos c16] at H
      have c16b0 : decide (0 < t154) = true := decide_eq_true c16
      clear c16
      (first | rw [c16b0] | (simp only [i64_w, i32_w]; rw [c16b0]) | skip)
      replace H := Option.bind_eq_some_iff.mp H
      obtain ⟨t157, A170, H⟩ := H
      replace H : ((wide_Of.f t157).bind fun bt158 => ((wide_Add.f t152 t153 bt158.1 bt158.2).bind fun bt160 => (rounding_DivideP.j1 kj3 bt160.1 bt160.2.1))) = some (r1, r2) := H
      have A17 := Aside0.mk A170
      clear A170
      replace H := Option.bind_eq_some_iff.mp H
      obtain ⟨⟨t158, t159⟩, A180, H⟩ := H
      replace H : ((wide_Add.f t152 t153 t158 t159).bind fun bt160 => (rounding_DivideP.j1 kj3 bt160.1 bt160.2.1)) = some (r1, r2) := H
      have A18 := Aside0.mk A180
      clear A180
      replace H := Option.bind_eq_some_iff.mp H
      obtain ⟨⟨t160, t161, t162⟩, A190, H⟩ := H
      replace H : (rounding_DivideP.j1 kj3 t160 t161) = some (r1, r2) := H
      have A19 := Aside0.mk A190
      clear A190
      have H' := Aside0.mk H
      clear H
      try go_wp2
      have n0_ : Aside0 (((w13.setCell ⟨gb156, 0, none⟩ (.int .i64 t152)).setCell ⟨gb156, 1, none⟩ (.int .u64 t153)).heap[gb150]? = some (.cells #[.int .i64 a0_0, .int .u64 a0_1] 24 (0, 0))) := ⟨qff_ NB150_156.out NB150_156.out BK150.out⟩
      have n1_ : Aside0 (((w13.setCell ⟨gb156, 0, none⟩ (.int .i64 t152)).setCell ⟨gb156, 1, none⟩ (.int .u64 t153)).heap[gb156]? = some (.cells #[.int .i64 t152, .int .u64 t153] 24 (0, 0))) := ⟨qpp_ #[.int .i64 t152, .int .u64 0] 1 #[.int .i64 0, .int .u64 0] 0 BK156.out⟩
      have n2_ : Aside0 (Below w.heap.size w ((w13.setCell ⟨gb156, 0, none⟩ (.int .i64 t152)).setCell ⟨gb156, 1, none⟩ (.int .u64 t153))) := ⟨qb2_ GE150.out GE156.out HB.out⟩
      (try clear BK150)
      (try clear BK156)
      (try clear HB)
      generalize ((w13.setCell ⟨gb156, 0, none⟩ (.int .i64 t152)).setCell ⟨gb156, 1, none⟩ (.int .u64 t153)) = w20 at n0_ n1_ n2_ ⊢
      have BK150 := n0_
      have BK156 := n1_
      have HB := n2_
      clear n0_ n1_ n2_
      have n0_ := Aside0.mk (blk_drew BK150.out)
      have n1_ := Aside0.mk (blk_drew BK156.out)
      have n2_ := Aside0.mk (below_drew1 HB.out)
      clear BK150
      clear BK156
      clear HB
      have BK150 := n0_
      have BK156 := n1_
      have HB := n2_
      clear n0_ n1_ n2_
      refine start_ (n := 12) (S := fun w' => w'.cell? ⟨gb156, 0, none⟩ = some (.int .i64 t152) ∧ w'.cell? ⟨gb156, 1, none⟩ = some (.int .u64 t153)) (ds := [11]) (nb_ 12 0) (by kernel_rfl) rfl rfl ⟨(blk_cell BK156.out 0).trans rfl, (blk_cell BK156.out 1).trans rfl⟩ (fun hHeld => ?_); refine with_tabW rounding_DivideP.tab5 rounding_DivideP.bits5 (fun HT_ HW_ => ?_)
      generalize w20.drew = w21 at BK150 BK156 HB hHeld ⊢
      refine pz_ 2 32 (nb_ 12 4) HT_.out ?_
      refine pz_ 3 33 (nb_ 12 12) HT_.out ?_
      refine pz_ 4 34 (nb_ 12 28) HT_.out ?_
      refine tk2_ 0 30 (nb_ 12 29) HT_.out HW_.out hHeld ?_
      refine tk2_ 1 31 (nb_ 12 31) HT_.out HW_.out hHeld ?_
      refine on_ 5 35 (nb_ 12 63) HT_.out (fun K hK => ?_)
      refine goes_ Tryd.func37 (by kernel_rfl) rfl #[.agg #[.int .i64 t152, .int .u64 t153], .int .i64 t154, .int .i64 a1, .int .i64 a2] (by rfl) rfl rfl ql_ ?_
      with_reducible refine (rounding_more.calls (hG := by first | exact hG | (with_reducible exact GW.below hG (qb2_ GE150.out GE156.out HB.out)) | (with_reducible repeat (first | exact hG | apply GW.drewN | apply GW.drew))) t152 t153 t154 a1 a2 t157 _ A17.out).mono ?_
      rintro e w22 ⟨rfl, hb⟩
      refine ⟨_, rfl, ?_⟩
      have n0_ := Aside0.mk (blk_below (qk_ BK150.out) hb)
      have n1_ := Aside0.mk (blk_below (qk_ BK156.out) hb)
      have n2_ := Aside0.mk (below_step (qb2_ GE150.out GE156.out HB.out) hb)
      clear BK150
      clear BK156
      clear HB
      have BK150 := n0_
      have BK156 := n1_
      have HB := n2_
      clear n0_ n1_ n2_
      (try clear hb)
      (try clear hb2)
      (try clear hk)
      (try clear hi)
      refine hK.out _ _ ⟨(blk_cell BK156.out 0).trans rfl, (blk_cell BK156.out 1).trans rfl⟩ (fun hHeld => ?_)
      clear hK K
      refine no_ ?_
      refine on_ 6 36 (nb_ 12 127) HT_.out (fun K hK => ?_)
      refine goes_ Tryd.func36 (by kernel_rfl) rfl #[.int .i64 t157] (by rfl) rfl rfl ql_ ?_
      with_reducible refine (wide_Of.calls t157 t158 t159 _ A18.out).mono ?_
      rintro e w23 ⟨rfl, hb⟩
      refine ⟨_, rfl, ?_⟩
      have n0_ := Aside0.mk (blk_below (qk_ BK150.out) hb)
      have n1_ := Aside0.mk (blk_below (qk_ BK156.out) hb)
      have n2_ := Aside0.mk (below_step (qb2_ GE150.out GE156.out HB.out) hb)
      clear BK150
      clear BK156
      clear HB
      have BK150 := n0_
      have BK156 := n1_
      have HB := n2_
      clear n0_ n1_ n2_
      (try clear hb)
      (try clear hb2)
      (try clear hk)
      (try clear hi)
      refine hK.out _ _ ⟨(blk_cell BK156.out 0).trans rfl, (blk_cell BK156.out 1).trans rfl⟩ (fun hHeld => ?_)
      clear hK K
      refine no_ ?_
      refine on_ 7 37 (nb_ 12 255) HT_.out (fun K hK => ?_)
      refine goes_ Tryd.func35 (by kernel_rfl) rfl #[.agg #[.int .i64 t152, .int .u64 t153], .agg #[.int .i64 t158, .int .u64 t159]] (by rfl) rfl rfl ql_ ?_
      with_reducible refine (wide_Add.calls t152 t153 t158 t159 t160 t161 t162 _ A19.out).mono ?_
      rintro e w24 ⟨rfl, hb⟩
      refine ⟨_, rfl, ?_⟩
      have n0_ := Aside0.mk (blk_below (qk_ BK150.out) hb)
      have n1_ := Aside0.mk (blk_below (qk_ BK156.out) hb)
      have n2_ := Aside0.mk (below_step (qb2_ GE150.out GE156.out HB.out) hb)
      clear BK150
      clear BK156
      clear HB
      have BK150 := n0_
      have BK156 := n1_
      have HB := n2_
      clear n0_ n1_ n2_
      (try clear hb)
      (try clear hb2)
      (try clear hk)
      (try clear hi)
      refine hK.out _ _ ⟨(blk_cell BK156.out 0).trans rfl, (blk_cell BK156.out 1).trans rfl⟩ (fun hHeld => ?_)
      clear hK K
      refine no_ ?_
      refine pz_ 8 29 (nb_ 12 511) HT_.out ?_
      refine pz_ 9 38 (nb_ 12 1023) HT_.out ?_
      refine pz_ 10 39 (nb_ 12 2047) HT_.out ?_
      refine last_ (i := 11) (N := none) (nb_ 12 4095) rfl rfl (one_of HT_.out (by kernel_rfl)) (by decide) (fun K hK => ?_)
      have hs25 : w24.cell? ⟨gb156, 0, none⟩ = some (.int .i64 t152) := (blk_cell BK156.out 0).trans rfl
      have hfs25 := blk_frozen BK156.out 0
      have hns25_0 := NB150_156.out
      have hms25_0 := NB156_150.out
      have hs26 : w24.cell? ⟨gb156, 1, none⟩ = some (.int .u64 t153) := (blk_cell BK156.out 1).trans rfl
      have hfs26 := blk_frozen BK156.out 1
      have hns26_0 := NB150_156.out
      have hms26_0 := NB156_150.out
      refine skip_ (w1 := ?_) (by rfl) rfl ?_ ?_
      rotate_left
      ·go_simp
       rfl
      refine hK.out _ _ ?_
      clear hK K
      refine done_ (done_of HT_.out (by kernel_rfl)) ?_
      try go_wp2
      go_meet
      case rel => exact ⟨_, (t160), (t161), H', ⟨by have := HJ3.out; first | omega | exact Nat.le_refl _⟩, ⟨qff_ NB150_156.out NB150_156.out BK150.out⟩, ⟨qpp_ #[.int .i64 t160, .int .u64 t153] 1 #[.int .i64 t152, .int .u64 t153] 0 BK156.out⟩, ⟨qb2_ GE150.out GE156.out HB.out⟩⟩
     ·rw [if_neg c16] at H
      have c16b0 : decide (0 < t154) = false := decide_eq_false c16
      clear c16
      (first | rw [c16b0] | (simp only [i64_w, i32_w]; rw [c16b0]) | skip)
      have H' := Aside0.mk H
      clear H
      go_wp2
      go_meet
      case rel => exact ⟨_, (t152), (t153), H', ⟨by have := HJ3.out; first | omega | exact Nat.le_refl _⟩, ⟨qff_ NB150_156.out NB150_156.out BK150.out⟩, ⟨qpp_ #[.int .i64 t152, .int .u64 0] 1 #[.int .i64 0, .int .u64 0] 0 BK156.out⟩, ⟨qb2_ GE150.out GE156.out HB.out⟩⟩
    case rest =>
     clear HC10
     try clear c1
     try clear p2
     try clear c3
     try clear c6
     try clear c6b0
     try clear c8
     try clear c11
     try clear c14
     try clear c16
     try clear c16b0
     try clear hcz11_0
     try clear hcz11_1
     try clear hcz15_0
     try clear hcz15_1
     try clear hfz11_0
     try clear hfz11_1
     try clear hfz15_0
     try clear hfz15_1
     try clear p2
     obtain ⟨kq, x157000_9, x157001_9, HA, HJ9, BK150, BK156, HB⟩ := hcut
     cases kq with
     | zero => exact absurd HA.out (by simp [rounding_DivideP.j1])
     | succ kj9 =>
      have H := HA.out
      clear HA
      simp only [rounding_DivideP.j1] at H
      replace H := Option.bind_eq_some_iff.mp H
      obtain ⟨⟨t163, t164⟩, A270, H⟩ := H
      replace H : (if t164 = true then (some (t163, 0)) else (some (0, 6))) = some (r1, r2) := H
      have A27 := Aside0.mk A270
      clear A270
      by_cases c28 : t164 = true
      ·subst c28
       have H1 : (some (t163, 0)) = some (r1, r2) := by rw [if_pos rfl] at H; exact H
       clear H
       have H := H1
       clear H1
       simp only [Option.some.injEq, Prod.mk.injEq] at H
       obtain ⟨rfl, rfl⟩ := H
       have hnb29 := NB156_150.out
       have hnc29 := NB150_156.out
       have hcz30_0 : wc.cell? ⟨gb156, 0, none⟩ = some (.int .i64 x157000_9) := (blk_cell BK156.out 0).trans rfl
       have hcz30_1 : wc.cell? ⟨gb156, 1, none⟩ = some (.int .u64 x157001_9) := (blk_cell BK156.out 1).trans rfl
       have hfz30_0 := blk_frozen BK156.out 0
       have hfz30_1 := blk_frozen BK156.out 1
       go_wp2_with (first | ((with_reducible refine gate_callee (f := 38) rfl ?_); refine goesL_ (some 42) rfl rfl Tryd.func38 (by kernel_rfl) rfl #[.agg #[.int .i64 x157000_9, .int .u64 x157001_9]] rfl ql_ ?_; (with_reducible refine (wide_Int.calls x157000_9 x157001_9 t163 true _ A27.out).mono ?_); rintro e w31 ⟨rfl, hb⟩; refine ⟨_, rfl, ?_⟩; have n0_ := Aside0.mk (blk_below (qk_ BK150.out) hb); have n1_ := Aside0.mk (blk_below (qk_ BK156.out) hb); have n2_ := Aside0.mk (below_step (qb2_ GE150.out GE156.out HB.out) hb); clear BK150; clear BK156; clear HB; have BK150 := n0_; have BK156 := n1_; have HB := n2_; clear n0_ n1_ n2_; (try clear hb); (try clear hb2); (try clear hk); (try clear hi)))
       go_ret2
       exact ⟨qe_, qb2_ GE150.out GE156.out HB.out⟩
      ·replace c28 := Bool.eq_false_iff.mpr c28
       subst c28
       have H1 : (some (0, 6)) = some (r1, r2) := by rw [if_neg (show ¬ (false = true) by decide)] at H; exact H
       clear H
       have H := H1
       clear H1
       simp only [Option.some.injEq, Prod.mk.injEq] at H
       obtain ⟨rfl, rfl⟩ := H
       have hnb32 := NB156_150.out
       have hnc32 := NB150_156.out
       have hcz33_0 : wc.cell? ⟨gb156, 0, none⟩ = some (.int .i64 x157000_9) := (blk_cell BK156.out 0).trans rfl
       have hcz33_1 : wc.cell? ⟨gb156, 1, none⟩ = some (.int .u64 x157001_9) := (blk_cell BK156.out 1).trans rfl
       have hfz33_0 := blk_frozen BK156.out 0
       have hfz33_1 := blk_frozen BK156.out 1
       go_wp2_with (first | ((with_reducible refine gate_callee (f := 38) rfl ?_); refine goesL_ (some 42) rfl rfl Tryd.func38 (by kernel_rfl) rfl #[.agg #[.int .i64 x157000_9, .int .u64 x157001_9]] rfl ql_ ?_; (with_reducible refine (wide_Int.calls x157000_9 x157001_9 t163 false _ A27.out).mono ?_); rintro e w34 ⟨rfl, hb⟩; refine ⟨_, rfl, ?_⟩; have n0_ := Aside0.mk (blk_below (qk_ BK150.out) hb); have n1_ := Aside0.mk (blk_below (qk_ BK156.out) hb); have n2_ := Aside0.mk (below_step (qb2_ GE150.out GE156.out HB.out) hb); clear BK150; clear BK156; clear HB; have BK150 := n0_; have BK156 := n1_; have HB := n2_; clear n0_ n1_ n2_; (try clear hb); (try clear hb2); (try clear hk); (try clear hi)))
       go_ret2
       exact ⟨qe_, qb2_ GE150.out GE156.out HB.out⟩
end Go.Proofs.YtkdhippoibjfkaaDoor.PR
end
section
namespace Go.Proofs.YtkdhippoibjfkaaDoor.PR
open Go.RowKit Go.Proofs.YtkdhippoibjfkaaDoorW.PrintWords Go.Proofs.YtkdhippoibjfkaaDoorW.PrintLast
set_option linter.unusedVariables false
set_option linter.unusedSimpArgs false
def rounding_Divide.f (a0_0 a0_1 a1 a2 : Int) : Option (Int × Int) := if isW a0_0 a0_1 ∧ inI a1 then some (divR (wv a0_0 a0_1) a1 a2) else none
theorem rounding_Divide.eq {a b n m : Int} {r : Int × Int} (h : rounding_Divide.f a b n m = some r) : ∃ k, rounding_DivideP.f k a b n m = some r := by
 unfold rounding_Divide.f at h
 split at h
 ·rename_i q
  obtain ⟨⟨⟨a0, a1⟩, b0, b1⟩, n0, n1⟩ := q
  injection h with h
  subst h
  refine ⟨2, ?_⟩
  unfold rounding_DivideP.f divR
  by_cases hn : n < 1
  ·rw [if_pos hn, if_pos (.inl hn)]
   simp only [rounding_DivideP.j0]
   rw [if_pos trivial]
  ·rw [if_neg hn]
   by_cases hm : m < 1 ∨ 6 < m
   ·rw [if_pos (.inr hm)]
    have hval : rounding_Valid.f m = some false := by
     unfold rounding_Valid.f
     split
     ·congr 1; apply decide_eq_false; omega
     ·rfl
    rw [hval]
    simp only [Option.bind_some, rounding_DivideP.j0]
    rfl
   ·rw [if_neg (by omega)]
    have hval : rounding_Valid.f m = some true := by
     unfold rounding_Valid.f
     rw [if_pos (by omega)]
     congr 1; apply decide_eq_true; omega
    rw [hval]
    simp only [Option.bind_some, rounding_DivideP.j0]
    rw [if_neg (by decide)]
    unfold wide_Div.f
    rw [if_pos ⟨⟨⟨a0, a1⟩, b0, b1⟩, n0, n1⟩, if_neg hn]
    simp only [Option.bind_some]
    have hv : wv a b = a * 18446744073709551616 + b := rfl
    have vr : -170141183460469231731687303715884105728 ≤ wv a b ∧ wv a b ≤ 170141183460469231731687303715884105727 := by omega
    generalize wv a b = v at *
    have r0 := Int.emod_nonneg v (show n ≠ 0 by omega)
    have r1 := Int.emod_lt_of_pos v (show 0 < n by omega)
    have h3 := Int.emod_add_mul_ediv v n
    have qr : -170141183460469231731687303715884105728 ≤ v / n ∧ v / n ≤ 170141183460469231731687303715884105727 := by
     by_cases hv0 : 0 ≤ v
     ·have := Int.ediv_nonneg hv0 (show 0 ≤ n by omega)
      have := Int.ediv_le_self n hv0
      omega
     ·have h4 : v / n < 0 := Int.ediv_neg_of_neg_of_pos (by omega) (by omega)
      have h5 := Int.mul_le_mul_of_nonpos_right (show 1 ≤ n by omega) (show v / n + 1 ≤ 0 by omega)
      rw [Int.mul_add, Int.mul_one, Int.one_mul] at h5
      omega
    have hwq : wv (v / n / 18446744073709551616) (v / n % 18446744073709551616) = v / n := by unfold wv; omega
    unfold rq
    by_cases hr : v % n > 0
    ·rw [if_pos hr]
     have qs : v / n ≤ 170141183460469231731687303715884105726 := by
      by_cases h1n : n = 1
      ·subst h1n; rw [Int.emod_one] at hr; omega
      ·by_cases hq0 : 0 ≤ v / n
       ·have h4 : 2 * (v / n) ≤ n * (v / n) := Int.mul_le_mul_of_nonneg_right (by omega) hq0
        omega
       ·omega
     unfold rounding_more.f
     rw [if_pos ⟨by omega, by unfold inI; omega, by unfold inU; omega, hr, r1, by omega⟩]
     simp only [Option.bind_some]
     have hodd : decide (v / n % 18446744073709551616 % 2 = 1) = decide (v / n % 2 = 1) := by apply decide_eq_decide.mpr; omega
     have hneg : decide (v / n / 18446744073709551616 < 0) = decide (v / n < 0) := by apply decide_eq_decide.mpr; omega
     rw [hodd, hneg]
     have hup : (if 0 < v % n ∧ upB (decide (v / n < 0)) (decide (v / n % 2 = 1)) (v % n) n m = true then (1 : Int) else 0) = (if upB (decide (v / n < 0)) (decide (v / n % 2 = 1)) (v % n) n m = true then 1 else 0) := by
      by_cases hu : upB (decide (v / n < 0)) (decide (v / n % 2 = 1)) (v % n) n m = true
      ·rw [if_pos ⟨hr, hu⟩, if_pos hu]
      ·rw [if_neg (fun hc => hu hc.2), if_neg hu]
     rw [hup]
     generalize hg : (if upB (decide (v / n < 0)) (decide (v / n % 2 = 1)) (v % n) n m = true then (1 : Int) else 0) = t
     have ht : 0 ≤ t ∧ t ≤ 1 := by rw [← hg]; split <;> omega
     unfold wide_Of.f wide_Add.f
     rw [if_pos (by unfold inI; omega)]
     simp only [Option.bind_some]
     have hwt : wv (t / 18446744073709551616) (t % 18446744073709551616) = t := by unfold wv; omega
     rw [if_pos ⟨⟨by unfold inI; omega, by unfold inU; omega⟩, by unfold inI; omega, by unfold inU; omega⟩, hwq, hwt, if_pos (by unfold in128; omega)]
     simp only [Option.bind_some, rounding_DivideP.j1]
     have hws : wv ((v / n + t) / 18446744073709551616) ((v / n + t) % 18446744073709551616) = v / n + t := by unfold wv; omega
     unfold wide_Int.f
     rw [if_pos ⟨by unfold inI; omega, by unfold inU; omega⟩, hws]
     split <;> rfl
    ·have hz : (if 0 < v % n ∧ upB (decide (v / n < 0)) (decide (v / n % 2 = 1)) (v % n) n m = true then (1 : Int) else 0) = 0 := if_neg (fun hc => hr hc.1)
     rw [if_neg hr, hz, Int.add_zero]
     simp only [rounding_DivideP.j1]
     unfold wide_Int.f
     rw [if_pos ⟨by unfold inI; omega, by unfold inU; omega⟩, hwq]
     split <;> rfl
 ·cases h
theorem rounding_Divide.calls (a0_0 : Int) (a0_1 : Int) (a1 : Int) (a2 : Int) (r1 : Int) (r2 : Int) (w : World) (hG : GW w) (h : rounding_Divide.f a0_0 a0_1 a1 a2 = some (r1, r2)) :
  Calls Tryd.prog 11 #[.agg #[.int .i64 a0_0, .int .u64 a0_1], .int .i64 a1, .int .i64 a2] w fun e w' => e = .returned (.tuple #[.int .i64 r1, .int .i64 r2]) ∧ Below w.heap.size w w' := by
 obtain ⟨k, h⟩ := rounding_Divide.eq h
 exact rounding_DivideP.calls k a0_0 a0_1 a1 a2 r1 r2 w hG h
def corebankref02_Valid.f (a0 : Int) : Option (Bool) := if a0 ≥ 1 then (some (decide (a0 ≤ 6))) else (some false)
set_option maxHeartbeats 8000000 in
set_option maxRecDepth 100000 in
theorem corebankref02_Valid.calls (a0 : Int) (r : Bool) (w : World) (h : corebankref02_Valid.f a0 = some r) :
  Calls Tryd.prog 14 #[.int .i64 a0] w fun e w' => e = .returned (.bool r) ∧ Drawn0 w w' := by
 have H : (if a0 ≥ 1 then (some (decide (a0 ≤ 6))) else (some false)) = some r := h
 clear h
 by_cases c2 : a0 ≥ 1
 ·rw [if_pos c2] at H
  have c2b0 : decide (1 ≤ a0) = true := decide_eq_true c2
  clear c2
  obtain rfl := Option.some.inj H
  go_enter Tryd.func14, Tryd.ntmps14
  go_wp2
  go_ret
  exact ⟨by first | rfl | (simp; done) | (simp [*]; done), by repeat (first | exact Drawn0.refl _ | apply Drawn0.step)⟩
 ·rw [if_neg c2] at H
  have c2b0 : decide (1 ≤ a0) = false := decide_eq_false c2
  clear c2
  obtain rfl := Option.some.inj H
  go_enter Tryd.func14, Tryd.ntmps14
  go_wp2
  go_ret
  exact ⟨by first | rfl | (simp; done) | (simp [*]; done), by repeat (first | exact Drawn0.refl _ | apply Drawn0.step)⟩
def corebankref01_SplitP.f (a0_0 : Int) (a0_1 : Int) : Option (Bool × Int × Int) := if a0_0 ≥ 0 then (some (false, IntKind.u64.wrap (a0_0), a0_1)) else (if (IntKind.u64.wrap ((Go.bits .xor .u64 IntKind.u64.max a0_1) + 1)) = 0 then (some (true, IntKind.u64.wrap ((Go.bits .xor .u64 IntKind.u64.max (IntKind.u64.wrap (a0_0))) + 1), IntKind.u64.wrap ((Go.bits .xor .u64 IntKind.u64.max a0_1) + 1))) else (some (true, Go.bits .xor .u64 IntKind.u64.max (IntKind.u64.wrap (a0_0)), IntKind.u64.wrap ((Go.bits .xor .u64 IntKind.u64.max a0_1) + 1))))
set_option maxHeartbeats 8000000 in
set_option maxRecDepth 100000 in
theorem corebankref01_SplitP.calls (a0_0 : Int) (a0_1 : Int) (r1 : Bool) (r2 : Int) (r3 : Int) (w : World) (h : corebankref01_SplitP.f a0_0 a0_1 = some (r1, r2, r3)) :
  Calls Tryd.prog 43 #[.agg #[.int .i64 a0_0, .int .u64 a0_1]] w fun e w' => e = .returned (.tuple #[.bool r1, .agg #[.int .u64 r2, .int .u64 r3]]) ∧ Below w.heap.size w w' := by
 have hu24 := Tryd.underlying24
 have hu54 := Tryd.underlying54
 have hsgn : IntKind.u64.signed = false := rfl
 have HB := Aside0.mk (Below.refl w.heap.size w)
 have H : (if a0_0 ≥ 0 then (some (false, IntKind.u64.wrap (a0_0), a0_1)) else (if (IntKind.u64.wrap ((Go.bits .xor .u64 IntKind.u64.max a0_1) + 1)) = 0 then (some (true, IntKind.u64.wrap ((Go.bits .xor .u64 IntKind.u64.max (IntKind.u64.wrap (a0_0))) + 1), IntKind.u64.wrap ((Go.bits .xor .u64 IntKind.u64.max a0_1) + 1))) else (some (true, Go.bits .xor .u64 IntKind.u64.max (IntKind.u64.wrap (a0_0)), IntKind.u64.wrap ((Go.bits .xor .u64 IntKind.u64.max a0_1) + 1))))) = some (r1, r2, r3) := h
 clear h
 by_cases c2 : a0_0 ≥ 0
 ·rw [if_pos c2] at H
  have c2b0 : decide (0 ≤ a0_0) = true := decide_eq_true c2
  clear c2
  simp only [Option.some.injEq, Prod.mk.injEq] at H
  obtain ⟨rfl, rfl, rfl⟩ := H
  go_enter Tryd.func43, Tryd.ntmps43
  go_wp2_with (first | ((with_reducible refine gate_dst (N := 1) rfl ?_); refine be_ (N := 1) (cs := #[.int .i64 a0_0, .int .u64 a0_1]) (t := 24) ?_; intro gb165 hg w3 hbox hb; have n0_ := Aside0.mk (below_step (qb_ HB.out) hb); have n1_ := Aside0.mk (hbox); have n2_ := Aside0.mk (bz_ hg (qb_ HB.out) : w.heap.size ≤ gb165); have n3_ := n2_; clear HB; have HB := n0_; have BK165 := n1_; have GW165 := n2_; have GE165 := n3_; clear n0_ n1_ n2_ n3_; clear hb hbox hg) | ((with_reducible refine gate_dst (N := 3) rfl ?_); refine be_ (N := 3) (cs := #[.int .u64 0, .int .u64 0]) (t := 54) ?_; intro gb166 hg w4 hbox hb; have n0_ := Aside0.mk (blk_below (qk_ BK165.out) hb); have n1_ := Aside0.mk (below_step (qb1_ GE165.out HB.out) hb); have n2_ := Aside0.mk (hbox); have n3_ := Aside0.mk (bz_ hg (qb1_ GE165.out HB.out) : w.heap.size ≤ gb166); have n4_ := n3_; have n5_ := Aside0.mk (nl_ hg (qk_ BK165.out) : gb165 ≠ gb166); have n6_ := Aside0.mk (ng_ hg (qk_ BK165.out) : gb166 ≠ gb165); clear BK165; clear HB; have BK165 := n0_; have HB := n1_; have BK166 := n2_; have GW166 := n3_; have GE166 := n4_; have NB165_166 := n5_; have NB166_165 := n6_; clear n0_ n1_ n2_ n3_ n4_ n5_ n6_; clear hb hbox hg; have hnb5 := NB165_166.out; have hnc5 := NB166_165.out; have hcz6_0 : w4.cell? ⟨gb165, 0, none⟩ = some (.int .i64 a0_0) := (blk_cell BK165.out 0).trans rfl; have hcz6_1 : w4.cell? ⟨gb165, 1, none⟩ = some (.int .u64 a0_1) := (blk_cell BK165.out 1).trans rfl; have hfz6_0 := blk_frozen BK165.out 0; have hfz6_1 := blk_frozen BK165.out 1; have hcz7_0 : w4.cell? ⟨gb166, 0, none⟩ = some (.int .u64 0) := (blk_cell BK166.out 0).trans rfl; have hcz7_1 : w4.cell? ⟨gb166, 1, none⟩ = some (.int .u64 0) := (blk_cell BK166.out 1).trans rfl; have hfz7_0 := blk_frozen BK166.out 0; have hfz7_1 := blk_frozen BK166.out 1))
  repeat (go_quiet (first | ((with_reducible refine gate_dst (N := 1) rfl ?_); refine be_ (N := 1) (cs := #[.int .i64 a0_0, .int .u64 a0_1]) (t := 24) ?_; intro gb165 hg w3 hbox hb; have n0_ := Aside0.mk (below_step (qb_ HB.out) hb); have n1_ := Aside0.mk (hbox); have n2_ := Aside0.mk (bz_ hg (qb_ HB.out) : w.heap.size ≤ gb165); have n3_ := n2_; clear HB; have HB := n0_; have BK165 := n1_; have GW165 := n2_; have GE165 := n3_; clear n0_ n1_ n2_ n3_; clear hb hbox hg) | ((with_reducible refine gate_dst (N := 3) rfl ?_); refine be_ (N := 3) (cs := #[.int .u64 0, .int .u64 0]) (t := 54) ?_; intro gb166 hg w4 hbox hb; have n0_ := Aside0.mk (blk_below (qk_ BK165.out) hb); have n1_ := Aside0.mk (below_step (qb1_ GE165.out HB.out) hb); have n2_ := Aside0.mk (hbox); have n3_ := Aside0.mk (bz_ hg (qb1_ GE165.out HB.out) : w.heap.size ≤ gb166); have n4_ := n3_; have n5_ := Aside0.mk (nl_ hg (qk_ BK165.out) : gb165 ≠ gb166); have n6_ := Aside0.mk (ng_ hg (qk_ BK165.out) : gb166 ≠ gb165); clear BK165; clear HB; have BK165 := n0_; have HB := n1_; have BK166 := n2_; have GW166 := n3_; have GE166 := n4_; have NB165_166 := n5_; have NB166_165 := n6_; clear n0_ n1_ n2_ n3_ n4_ n5_ n6_; clear hb hbox hg; have hnb5 := NB165_166.out; have hnc5 := NB166_165.out; have hcz6_0 : w4.cell? ⟨gb165, 0, none⟩ = some (.int .i64 a0_0) := (blk_cell BK165.out 0).trans rfl; have hcz6_1 : w4.cell? ⟨gb165, 1, none⟩ = some (.int .u64 a0_1) := (blk_cell BK165.out 1).trans rfl; have hfz6_0 := blk_frozen BK165.out 0; have hfz6_1 := blk_frozen BK165.out 1; have hcz7_0 : w4.cell? ⟨gb166, 0, none⟩ = some (.int .u64 0) := (blk_cell BK166.out 0).trans rfl; have hcz7_1 : w4.cell? ⟨gb166, 1, none⟩ = some (.int .u64 0) := (blk_cell BK166.out 1).trans rfl; have hfz7_0 := blk_frozen BK166.out 0; have hfz7_1 := blk_frozen BK166.out 1)); try go_wp2_with (first | ((with_reducible refine gate_dst (N := 1) rfl ?_); refine be_ (N := 1) (cs := #[.int .i64 a0_0, .int .u64 a0_1]) (t := 24) ?_; intro gb165 hg w3 hbox hb; have n0_ := Aside0.mk (below_step (qb_ HB.out) hb); have n1_ := Aside0.mk (hbox); have n2_ := Aside0.mk (bz_ hg (qb_ HB.out) : w.heap.size ≤ gb165); have n3_ := n2_; clear HB; have HB := n0_; have BK165 := n1_; have GW165 := n2_; have GE165 := n3_; clear n0_ n1_ n2_ n3_; clear hb hbox hg) | ((with_reducible refine gate_dst (N := 3) rfl ?_); refine be_ (N := 3) (cs := #[.int .u64 0, .int .u64 0]) (t := 54) ?_; intro gb166 hg w4 hbox hb; have n0_ := Aside0.mk (blk_below (qk_ BK165.out) hb); have n1_ := Aside0.mk (below_step (qb1_ GE165.out HB.out) hb); have n2_ := Aside0.mk (hbox); have n3_ := Aside0.mk (bz_ hg (qb1_ GE165.out HB.out) : w.heap.size ≤ gb166); have n4_ := n3_; have n5_ := Aside0.mk (nl_ hg (qk_ BK165.out) : gb165 ≠ gb166); have n6_ := Aside0.mk (ng_ hg (qk_ BK165.out) : gb166 ≠ gb165); clear BK165; clear HB; have BK165 := n0_; have HB := n1_; have BK166 := n2_; have GW166 := n3_; have GE166 := n4_; have NB165_166 := n5_; have NB166_165 := n6_; clear n0_ n1_ n2_ n3_ n4_ n5_ n6_; clear hb hbox hg; have hnb5 := NB165_166.out; have hnc5 := NB166_165.out; have hcz6_0 : w4.cell? ⟨gb165, 0, none⟩ = some (.int .i64 a0_0) := (blk_cell BK165.out 0).trans rfl; have hcz6_1 : w4.cell? ⟨gb165, 1, none⟩ = some (.int .u64 a0_1) := (blk_cell BK165.out 1).trans rfl; have hfz6_0 := blk_frozen BK165.out 0; have hfz6_1 := blk_frozen BK165.out 1; have hcz7_0 : w4.cell? ⟨gb166, 0, none⟩ = some (.int .u64 0) := (blk_cell BK166.out 0).trans rfl; have hcz7_1 : w4.cell? ⟨gb166, 1, none⟩ = some (.int .u64 0) := (blk_cell BK166.out 1).trans rfl; have hfz7_0 := blk_frozen BK166.out 0; have hfz7_1 := blk_frozen BK166.out 1)))
  refine bodyPost_ret (results_tc rfl _ _ gb166 54 #[.int .u64 (IntKind.u64.wrap (a0_0)), .int .u64 a0_1] (0, 0) _ rfl (qpp_ #[.int .u64 (IntKind.u64.wrap (a0_0)), .int .u64 0] 1 #[.int .u64 0, .int .u64 0] 0 BK166.out) Tryd.underlying54 rfl (by kernel_rfl)) rfl ?_
  exact ⟨qe_, qb2_ GE165.out GE166.out HB.out⟩
 ·rw [if_neg c2] at H
  have c2b0 : decide (0 ≤ a0_0) = false := decide_eq_false c2
  clear c2
  by_cases c8 : (IntKind.u64.wrap ((Go.bits .xor .u64 IntKind.u64.max a0_1) + 1)) = 0
  ·rw [if_pos c8] at H
   have c8b0 : ((IntKind.u64.wrap ((Go.bits .xor .u64 IntKind.u64.max a0_1) + 1)) == 0) = true := beq_iff_eq.mpr c8
   have c8b1 : ((IntKind.u64.wrap ((Go.bits .xor .u64 IntKind.u64.max a0_1) + 1)) != 0) = false := bne_eq_false_iff_eq.mpr c8
   clear c8
   simp only [Option.some.injEq, Prod.mk.injEq] at H
   obtain ⟨rfl, rfl, rfl⟩ := H
   go_enter Tryd.func43, Tryd.ntmps43
   go_wp2_with (first | ((with_reducible refine gate_dst (N := 1) rfl ?_); refine be_ (N := 1) (cs := #[.int .i64 a0_0, .int .u64 a0_1]) (t := 24) ?_; intro gb165 hg w9 hbox hb; have n0_ := Aside0.mk (below_step (qb_ HB.out) hb); have n1_ := Aside0.mk (hbox); have n2_ := Aside0.mk (bz_ hg (qb_ HB.out) : w.heap.size ≤ gb165); have n3_ := n2_; clear HB; have HB := n0_; have BK165 := n1_; have GW165 := n2_; have GE165 := n3_; clear n0_ n1_ n2_ n3_; clear hb hbox hg) | ((with_reducible refine gate_dst (N := 3) rfl ?_); refine be_ (N := 3) (cs := #[.int .u64 0, .int .u64 0]) (t := 54) ?_; intro gb166 hg w10 hbox hb; have n0_ := Aside0.mk (blk_below (qk_ BK165.out) hb); have n1_ := Aside0.mk (below_step (qb1_ GE165.out HB.out) hb); have n2_ := Aside0.mk (hbox); have n3_ := Aside0.mk (bz_ hg (qb1_ GE165.out HB.out) : w.heap.size ≤ gb166); have n4_ := n3_; have n5_ := Aside0.mk (nl_ hg (qk_ BK165.out) : gb165 ≠ gb166); have n6_ := Aside0.mk (ng_ hg (qk_ BK165.out) : gb166 ≠ gb165); clear BK165; clear HB; have BK165 := n0_; have HB := n1_; have BK166 := n2_; have GW166 := n3_; have GE166 := n4_; have NB165_166 := n5_; have NB166_165 := n6_; clear n0_ n1_ n2_ n3_ n4_ n5_ n6_; clear hb hbox hg; have hnb11 := NB165_166.out; have hnc11 := NB166_165.out; have hcz12_0 : w10.cell? ⟨gb165, 0, none⟩ = some (.int .i64 a0_0) := (blk_cell BK165.out 0).trans rfl; have hcz12_1 : w10.cell? ⟨gb165, 1, none⟩ = some (.int .u64 a0_1) := (blk_cell BK165.out 1).trans rfl; have hfz12_0 := blk_frozen BK165.out 0; have hfz12_1 := blk_frozen BK165.out 1; have hcz13_0 : w10.cell? ⟨gb166, 0, none⟩ = some (.int .u64 0) := (blk_cell BK166.out 0).trans rfl; have hcz13_1 : w10.cell? ⟨gb166, 1, none⟩ = some (.int .u64 0) := (blk_cell BK166.out 1).trans rfl; have hfz13_0 := blk_frozen BK166.out 0; have hfz13_1 := blk_frozen BK166.out 1))
   repeat (go_quiet (first | ((with_reducible refine gate_dst (N := 1) rfl ?_); refine be_ (N := 1) (cs := #[.int .i64 a0_0, .int .u64 a0_1]) (t := 24) ?_; intro gb165 hg w9 hbox hb; have n0_ := Aside0.mk (below_step (qb_ HB.out) hb); have n1_ := Aside0.mk (hbox); have n2_ := Aside0.mk (bz_ hg (qb_ HB.out) : w.heap.size ≤ gb165); have n3_ := n2_; clear HB; have HB := n0_; have BK165 := n1_; have GW165 := n2_; have GE165 := n3_; clear n0_ n1_ n2_ n3_; clear hb hbox hg) | ((with_reducible refine gate_dst (N := 3) rfl ?_); refine be_ (N := 3) (cs := #[.int .u64 0, .int .u64 0]) (t := 54) ?_; intro gb166 hg w10 hbox hb; have n0_ := Aside0.mk (blk_below (qk_ BK165.out) hb); have n1_ := Aside0.mk (below_step (qb1_ GE165.out HB.out) hb); have n2_ := Aside0.mk (hbox); have n3_ := Aside0.mk (bz_ hg (qb1_ GE165.out HB.out) : w.heap.size ≤ gb166); have n4_ := n3_; have n5_ := Aside0.mk (nl_ hg (qk_ BK165.out) : gb165 ≠ gb166); have n6_ := Aside0.mk (ng_ hg (qk_ BK165.out) : gb166 ≠ gb165); clear BK165; clear HB; have BK165 := n0_; have HB := n1_; have BK166 := n2_; have GW166 := n3_; have GE166 := n4_; have NB165_166 := n5_; have NB166_165 := n6_; clear n0_ n1_ n2_ n3_ n4_ n5_ n6_; clear hb hbox hg; have hnb11 := NB165_166.out; have hnc11 := NB166_165.out; have hcz12_0 : w10.cell? ⟨gb165, 0, none⟩ = some (.int .i64 a0_0) := (blk_cell BK165.out 0).trans rfl; have hcz12_1 : w10.cell? ⟨gb165, 1, none⟩ = some (.int .u64 a0_1) := (blk_cell BK165.out 1).trans rfl; have hfz12_0 := blk_frozen BK165.out 0; have hfz12_1 := blk_frozen BK165.out 1; have hcz13_0 : w10.cell? ⟨gb166, 0, none⟩ = some (.int .u64 0) := (blk_cell BK166.out 0).trans rfl; have hcz13_1 : w10.cell? ⟨gb166, 1, none⟩ = some (.int .u64 0) := (blk_cell BK166.out 1).trans rfl; have hfz13_0 := blk_frozen BK166.out 0; have hfz13_1 := blk_frozen BK166.out 1)); try go_wp2_with (first | ((with_reducible refine gate_dst (N := 1) rfl ?_); refine be_ (N := 1) (cs := #[.int .i64 a0_0, .int .u64 a0_1]) (t := 24) ?_; intro gb165 hg w9 hbox hb; have n0_ := Aside0.mk (below_step (qb_ HB.out) hb); have n1_ := Aside0.mk (hbox); have n2_ := Aside0.mk (bz_ hg (qb_ HB.out) : w.heap.size ≤ gb165); have n3_ := n2_; clear HB; have HB := n0_; have BK165 := n1_; have GW165 := n2_; have GE165 := n3_; clear n0_ n1_ n2_ n3_; clear hb hbox hg) | ((with_reducible refine gate_dst (N := 3) rfl ?_); refine be_ (N := 3) (cs := #[.int .u64 0, .int .u64 0]) (t := 54) ?_; intro gb166 hg w10 hbox hb; have n0_ := Aside0.mk (blk_below (qk_ BK165.out) hb); have n1_ := Aside0.mk (below_step (qb1_ GE165.out HB.out) hb); have n2_ := Aside0.mk (hbox); have n3_ := Aside0.mk (bz_ hg (qb1_ GE165.out HB.out) : w.heap.size ≤ gb166); have n4_ := n3_; have n5_ := Aside0.mk (nl_ hg (qk_ BK165.out) : gb165 ≠ gb166); have n6_ := Aside0.mk (ng_ hg (qk_ BK165.out) : gb166 ≠ gb165); clear BK165; clear HB; have BK165 := n0_; have HB := n1_; have BK166 := n2_; have GW166 := n3_; have GE166 := n4_; have NB165_166 := n5_; have NB166_165 := n6_; clear n0_ n1_ n2_ n3_ n4_ n5_ n6_; clear hb hbox hg; have hnb11 := NB165_166.out; have hnc11 := NB166_165.out; have hcz12_0 : w10.cell? ⟨gb165, 0, none⟩ = some (.int .i64 a0_0) := (blk_cell BK165.out 0).trans rfl; have hcz12_1 : w10.cell? ⟨gb165, 1, none⟩ = some (.int .u64 a0_1) := (blk_cell BK165.out 1).trans rfl; have hfz12_0 := blk_frozen BK165.out 0; have hfz12_1 := blk_frozen BK165.out 1; have hcz13_0 : w10.cell? ⟨gb166, 0, none⟩ = some (.int .u64 0) := (blk_cell BK166.out 0).trans rfl; have hcz13_1 : w10.cell? ⟨gb166, 1, none⟩ = some (.int .u64 0) := (blk_cell BK166.out 1).trans rfl; have hfz13_0 := blk_frozen BK166.out 0; have hfz13_1 := blk_frozen BK166.out 1)))
   refine bodyPost_ret (results_tc rfl _ _ gb166 54 #[.int .u64 (IntKind.u64.wrap ((Go.bits .xor .u64 IntKind.u64.max (IntKind.u64.wrap (a0_0))) + 1)), .int .u64 (IntKind.u64.wrap ((Go.bits .xor .u64 IntKind.u64.max a0_1) + 1))] (0, 0) _ rfl (qpp_ #[.int .u64 (IntKind.u64.wrap ((Go.bits .xor .u64 IntKind.u64.max (IntKind.u64.wrap (a0_0))) + 1)), .int .u64 0] 1 #[.int .u64 0, .int .u64 0] 0 BK166.out) Tryd.underlying54 rfl (by kernel_rfl)) rfl ?_
   exact ⟨qe_, qb2_ GE165.out GE166.out HB.out⟩
  ·rw [if_neg c8] at H
   have c8b0 : ((IntKind.u64.wrap ((Go.bits .xor .u64 IntKind.u64.max a0_1) + 1)) == 0) = false := beq_eq_false_iff_ne.mpr c8
   have c8b1 : ((IntKind.u64.wrap ((Go.bits .xor .u64 IntKind.u64.max a0_1) + 1)) != 0) = true := bne_iff_ne.mpr c8
   simp only [Option.some.injEq, Prod.mk.injEq] at H
   obtain ⟨rfl, rfl, rfl⟩ := H
   go_enter Tryd.func43, Tryd.ntmps43
   go_wp2_with (first | ((with_reducible refine gate_dst (N := 1) rfl ?_); refine be_ (N := 1) (cs := #[.int .i64 a0_0, .int .u64 a0_1]) (t := 24) ?_; intro gb165 hg w14 hbox hb; have n0_ := Aside0.mk (below_step (qb_ HB.out) hb); have n1_ := Aside0.mk (hbox); have n2_ := Aside0.mk (bz_ hg (qb_ HB.out) : w.heap.size ≤ gb165); have n3_ := n2_; clear HB; have HB := n0_; have BK165 := n1_; have GW165 := n2_; have GE165 := n3_; clear n0_ n1_ n2_ n3_; clear hb hbox hg) | ((with_reducible refine gate_dst (N := 3) rfl ?_); refine be_ (N := 3) (cs := #[.int .u64 0, .int .u64 0]) (t := 54) ?_; intro gb166 hg w15 hbox hb; have n0_ := Aside0.mk (blk_below (qk_ BK165.out) hb); have n1_ := Aside0.mk (below_step (qb1_ GE165.out HB.out) hb); have n2_ := Aside0.mk (hbox); have n3_ := Aside0.mk (bz_ hg (qb1_ GE165.out HB.out) : w.heap.size ≤ gb166); have n4_ := n3_; have n5_ := Aside0.mk (nl_ hg (qk_ BK165.out) : gb165 ≠ gb166); have n6_ := Aside0.mk (ng_ hg (qk_ BK165.out) : gb166 ≠ gb165); clear BK165; clear HB; have BK165 := n0_; have HB := n1_; have BK166 := n2_; have GW166 := n3_; have GE166 := n4_; have NB165_166 := n5_; have NB166_165 := n6_; clear n0_ n1_ n2_ n3_ n4_ n5_ n6_; clear hb hbox hg; have hnb16 := NB165_166.out; have hnc16 := NB166_165.out; have hcz17_0 : w15.cell? ⟨gb165, 0, none⟩ = some (.int .i64 a0_0) := (blk_cell BK165.out 0).trans rfl; have hcz17_1 : w15.cell? ⟨gb165, 1, none⟩ = some (.int .u64 a0_1) := (blk_cell BK165.out 1).trans rfl; have hfz17_0 := blk_frozen BK165.out 0; have hfz17_1 := blk_frozen BK165.out 1; have hcz18_0 : w15.cell? ⟨gb166, 0, none⟩ = some (.int .u64 0) := (blk_cell BK166.out 0).trans rfl; have hcz18_1 : w15.cell? ⟨gb166, 1, none⟩ = some (.int .u64 0) := (blk_cell BK166.out 1).trans rfl; have hfz18_0 := blk_frozen BK166.out 0; have hfz18_1 := blk_frozen BK166.out 1))
   repeat (go_quiet (first | ((with_reducible refine gate_dst (N := 1) rfl ?_); refine be_ (N := 1) (cs := #[.int .i64 a0_0, .int .u64 a0_1]) (t := 24) ?_; intro gb165 hg w14 hbox hb; have n0_ := Aside0.mk (below_step (qb_ HB.out) hb); have n1_ := Aside0.mk (hbox); have n2_ := Aside0.mk (bz_ hg (qb_ HB.out) : w.heap.size ≤ gb165); have n3_ := n2_; clear HB; have HB := n0_; have BK165 := n1_; have GW165 := n2_; have GE165 := n3_; clear n0_ n1_ n2_ n3_; clear hb hbox hg) | ((with_reducible refine gate_dst (N := 3) rfl ?_); refine be_ (N := 3) (cs := #[.int .u64 0, .int .u64 0]) (t := 54) ?_; intro gb166 hg w15 hbox hb; have n0_ := Aside0.mk (blk_below (qk_ BK165.out) hb); have n1_ := Aside0.mk (below_step (qb1_ GE165.out HB.out) hb); have n2_ := Aside0.mk (hbox); have n3_ := Aside0.mk (bz_ hg (qb1_ GE165.out HB.out) : w.heap.size ≤ gb166); have n4_ := n3_; have n5_ := Aside0.mk (nl_ hg (qk_ BK165.out) : gb165 ≠ gb166); have n6_ := Aside0.mk (ng_ hg (qk_ BK165.out) : gb166 ≠ gb165); clear BK165; clear HB; have BK165 := n0_; have HB := n1_; have BK166 := n2_; have GW166 := n3_; have GE166 := n4_; have NB165_166 := n5_; have NB166_165 := n6_; clear n0_ n1_ n2_ n3_ n4_ n5_ n6_; clear hb hbox hg; have hnb16 := NB165_166.out; have hnc16 := NB166_165.out; have hcz17_0 : w15.cell? ⟨gb165, 0, none⟩ = some (.int .i64 a0_0) := (blk_cell BK165.out 0).trans rfl; have hcz17_1 : w15.cell? ⟨gb165, 1, none⟩ = some (.int .u64 a0_1) := (blk_cell BK165.out 1).trans rfl; have hfz17_0 := blk_frozen BK165.out 0; have hfz17_1 := blk_frozen BK165.out 1; have hcz18_0 : w15.cell? ⟨gb166, 0, none⟩ = some (.int .u64 0) := (blk_cell BK166.out 0).trans rfl; have hcz18_1 : w15.cell? ⟨gb166, 1, none⟩ = some (.int .u64 0) := (blk_cell BK166.out 1).trans rfl; have hfz18_0 := blk_frozen BK166.out 0; have hfz18_1 := blk_frozen BK166.out 1)); try go_wp2_with (first | ((with_reducible refine gate_dst (N := 1) rfl ?_); refine be_ (N := 1) (cs := #[.int .i64 a0_0, .int .u64 a0_1]) (t := 24) ?_; intro gb165 hg w14 hbox hb; have n0_ := Aside0.mk (below_step (qb_ HB.out) hb); have n1_ := Aside0.mk (hbox); have n2_ := Aside0.mk (bz_ hg (qb_ HB.out) : w.heap.size ≤ gb165); have n3_ := n2_; clear HB; have HB := n0_; have BK165 := n1_; have GW165 := n2_; have GE165 := n3_; clear n0_ n1_ n2_ n3_; clear hb hbox hg) | ((with_reducible refine gate_dst (N := 3) rfl ?_); refine be_ (N := 3) (cs := #[.int .u64 0, .int .u64 0]) (t := 54) ?_; intro gb166 hg w15 hbox hb; have n0_ := Aside0.mk (blk_below (qk_ BK165.out) hb); have n1_ := Aside0.mk (below_step (qb1_ GE165.out HB.out) hb); have n2_ := Aside0.mk (hbox); have n3_ := Aside0.mk (bz_ hg (qb1_ GE165.out HB.out) : w.heap.size ≤ gb166); have n4_ := n3_; have n5_ := Aside0.mk (nl_ hg (qk_ BK165.out) : gb165 ≠ gb166); have n6_ := Aside0.mk (ng_ hg (qk_ BK165.out) : gb166 ≠ gb165); clear BK165; clear HB; have BK165 := n0_; have HB := n1_; have BK166 := n2_; have GW166 := n3_; have GE166 := n4_; have NB165_166 := n5_; have NB166_165 := n6_; clear n0_ n1_ n2_ n3_ n4_ n5_ n6_; clear hb hbox hg; have hnb16 := NB165_166.out; have hnc16 := NB166_165.out; have hcz17_0 : w15.cell? ⟨gb165, 0, none⟩ = some (.int .i64 a0_0) := (blk_cell BK165.out 0).trans rfl; have hcz17_1 : w15.cell? ⟨gb165, 1, none⟩ = some (.int .u64 a0_1) := (blk_cell BK165.out 1).trans rfl; have hfz17_0 := blk_frozen BK165.out 0; have hfz17_1 := blk_frozen BK165.out 1; have hcz18_0 : w15.cell? ⟨gb166, 0, none⟩ = some (.int .u64 0) := (blk_cell BK166.out 0).trans rfl; have hcz18_1 : w15.cell? ⟨gb166, 1, none⟩ = some (.int .u64 0) := (blk_cell BK166.out 1).trans rfl; have hfz18_0 := blk_frozen BK166.out 0; have hfz18_1 := blk_frozen BK166.out 1)))
   refine bodyPost_ret (results_tc rfl _ _ gb166 54 #[.int .u64 (Go.bits .xor .u64 IntKind.u64.max (IntKind.u64.wrap (a0_0))), .int .u64 (IntKind.u64.wrap ((Go.bits .xor .u64 IntKind.u64.max a0_1) + 1))] (0, 0) _ rfl (qpp_ #[.int .u64 (Go.bits .xor .u64 IntKind.u64.max (IntKind.u64.wrap (a0_0))), .int .u64 0] 1 #[.int .u64 0, .int .u64 0] 0 BK166.out) Tryd.underlying54 rfl (by kernel_rfl)) rfl ?_
   exact ⟨qe_, qb2_ GE165.out GE166.out HB.out⟩
def corebankref01_Split.f (a0_0 a0_1 : Int) : Option (Bool × Int × Int) :=
 if isW a0_0 a0_1 then some (decide (a0_0 < 0), (if a0_0 < 0 then -(wv a0_0 a0_1) else wv a0_0 a0_1) / 18446744073709551616, (if a0_0 < 0 then -(wv a0_0 a0_1) else wv a0_0 a0_1) % 18446744073709551616) else none
theorem corebankref01_Split.eq {a b : Int} {r : Bool × Int × Int} (h : corebankref01_Split.f a b = some r) : corebankref01_SplitP.f a b = some r := by
 unfold corebankref01_Split.f at h
 split at h
 ·rename_i c
  obtain ⟨⟨c0, c1⟩, c2, c3⟩ := c
  injection h with h
  subst h
  unfold corebankref01_SplitP.f
  have hw : IntKind.u64.wrap a = if a < 0 then a + 18446744073709551616 else a := by rw [IntKind.wrap_u64]; split <;> omega
  rw [hw, xorMax b c2 c3]
  by_cases hn : a < 0
  ·rw [if_neg (by omega), if_pos hn, if_pos hn, xorMax _ (by omega) (by omega)]
   simp only [IntKind.wrap_u64, hn, decide_true]
   unfold wv
   split
   ·congr 3 <;> omega
   ·congr 3 <;> omega
  ·rw [if_pos (by omega), if_neg hn, if_neg hn]
   simp only [hn, decide_false]
   unfold wv
   congr 3 <;> omega
 ·cases h
theorem corebankref01_Split.calls (a0_0 : Int) (a0_1 : Int) (r1 : Bool) (r2 : Int) (r3 : Int) (w : World) (h : corebankref01_Split.f a0_0 a0_1 = some (r1, r2, r3)) :
  Calls Tryd.prog 43 #[.agg #[.int .i64 a0_0, .int .u64 a0_1]] w fun e w' => e = .returned (.tuple #[.bool r1, .agg #[.int .u64 r2, .int .u64 r3]]) ∧ Below w.heap.size w w' := by
 have h := corebankref01_Split.eq h
 exact corebankref01_SplitP.calls a0_0 a0_1 r1 r2 r3 w h
/-- The sum of two magnitudes modulo 2^128, and whether it is less than that. -/
def corebankref01_plus.f (a0_0 a0_1 a1_0 a1_1 : Int) : Option (Int × Int × Bool) :=
 if (inU a0_0 ∧ inU a0_1) ∧ inU a1_0 ∧ inU a1_1 then
  some ((wv a0_0 a0_1 + wv a1_0 a1_1) / 18446744073709551616 % 18446744073709551616, (wv a0_0 a0_1 + wv a1_0 a1_1) % 18446744073709551616, decide (wv a0_0 a0_1 + wv a1_0 a1_1 < 340282366920938463463374607431768211456)) else none
set_option maxHeartbeats 4000000 in
set_option maxRecDepth 100000 in
theorem corebankref01_plus.calls (a0_0 a0_1 a1_0 a1_1 r1 r2 : Int) (r3 : Bool) (w : World) (h : corebankref01_plus.f a0_0 a0_1 a1_0 a1_1 = some (r1, r2, r3)) :
  Calls Tryd.prog 48 #[.agg #[.int .u64 a0_0, .int .u64 a0_1], .agg #[.int .u64 a1_0, .int .u64 a1_1]] w fun e w' => e = .returned (.tuple #[.agg #[.int .u64 r1, .int .u64 r2], .bool r3]) ∧ Below w.heap.size w w' := by
 unfold corebankref01_plus.f at h
 split at h
 ·rename_i c
  obtain ⟨⟨⟨p0, p1⟩, q0, q1⟩, ⟨s0, s1⟩, t0, t1⟩ := c
  injection h with h
  injection h with h1 h
  injection h with h2 h3
  have H1 := Aside0.mk h1
  have H2 := Aside0.mk h2
  have H3 := Aside0.mk h3
  clear h1 h2 h3
  go_enter Tryd.func48, Tryd.ntmps48
  go_wp2
  all_goals
   refine bodyPost_ret (v := .tuple #[.agg #[.int .u64 r1, .int .u64 r2], .bool r3]) ?_ rfl ⟨rfl, (((Below.refl _ _).alloc (Nat.le_refl _) _).alloc (by simp) _).alloc (by simp; omega) _⟩
   simp [results, Tryd.results48, go_sem]
   have h1 := H1.out
   have h2 := H2.out
   have h3 := H3.out
   clear H1 H2 H3
   go_light
   subst h1 h2 h3
   simp only [IntKind.wrap_u64] at *
   unfold wv
   refine ⟨⟨by omega, by omega⟩, ?_⟩
   first
    | (apply decide_eq_decide.mpr; omega)
    | (apply decide_eq_false; omega)
    | (apply decide_eq_true; omega)
    | omega
 ·cases h
end Go.Proofs.YtkdhippoibjfkaaDoor.PR
end
section
namespace Go.Proofs.YtkdhippoibjfkaaDoor.PR
open Go.RowKit Go.Proofs.YtkdhippoibjfkaaDoorW.PrintWords Go.Proofs.YtkdhippoibjfkaaDoorW.PrintLast
set_option linter.unusedVariables false
set_option linter.unusedSimpArgs false
def corebankref01_JoinP.f (a0 : Bool) (a1_0 : Int) (a1_1 : Int) : Option (Int × Int × Bool) := if a0 = true then (if (IntKind.u64.wrap ((Go.bits .xor .u64 IntKind.u64.max a1_1) + 1)) = 0 then (if a1_0 < 9223372036854775808 then (some (wrap64 (IntKind.u64.wrap ((Go.bits .xor .u64 IntKind.u64.max a1_0) + 1)), IntKind.u64.wrap ((Go.bits .xor .u64 IntKind.u64.max a1_1) + 1), true)) else (if a1_0 = 9223372036854775808 then (some (wrap64 (IntKind.u64.wrap ((Go.bits .xor .u64 IntKind.u64.max a1_0) + 1)), IntKind.u64.wrap ((Go.bits .xor .u64 IntKind.u64.max a1_1) + 1), (a1_1 == 0))) else (some (wrap64 (IntKind.u64.wrap ((Go.bits .xor .u64 IntKind.u64.max a1_0) + 1)), IntKind.u64.wrap ((Go.bits .xor .u64 IntKind.u64.max a1_1) + 1), false)))) else (if a1_0 < 9223372036854775808 then (some (wrap64 (Go.bits .xor .u64 IntKind.u64.max a1_0), IntKind.u64.wrap ((Go.bits .xor .u64 IntKind.u64.max a1_1) + 1), true)) else (if a1_0 = 9223372036854775808 then (some (wrap64 (Go.bits .xor .u64 IntKind.u64.max a1_0), IntKind.u64.wrap ((Go.bits .xor .u64 IntKind.u64.max a1_1) + 1), (a1_1 == 0))) else (some (wrap64 (Go.bits .xor .u64 IntKind.u64.max a1_0), IntKind.u64.wrap ((Go.bits .xor .u64 IntKind.u64.max a1_1) + 1), false))))) else (some (wrap64 (a1_0), a1_1, decide (a1_0 < 9223372036854775808)))
def corebankref01_JoinP.T2 : Bool × List (List Nat × List Nat) := (true, [([], []), ([0], [0]), ([1], [1]), ([], []), ([3], [3]), ([2, 4], [2, 4]), ([], []), ([6], [6]), ([7], [7]), ([5, 0, 1, 2, 3, 4, 5], [5]), ([8, 9, 0, 1, 2, 3, 4, 5, 6, 7, 8, 9], [8])])
def corebankref01_JoinP.B2 : List Nat := [0, 1, 3, 0, 8, 31, 0, 64, 192, 63, 1023]
theorem corebankref01_JoinP.tab2 : rtab .any (opsOf Tryd.f49 2) = corebankref01_JoinP.T2 := by kernel_rfl
theorem corebankref01_JoinP.bits2 : waitsOk corebankref01_JoinP.T2.2 corebankref01_JoinP.B2 = true := by kernel_rfl
def corebankref01_JoinP.T3 : Bool × List (List Nat × List Nat) := (true, [([], []), ([0], [0]), ([1], [1]), ([2], [2]), ([], []), ([4], [4]), ([5], [5]), ([3, 0, 1, 2, 3], [3]), ([6, 7, 0, 1, 2, 3, 4, 5, 6, 7], [6])])
def corebankref01_JoinP.B3 : List Nat := [0, 1, 3, 7, 0, 16, 48, 15, 255]
theorem corebankref01_JoinP.tab3 : rtab .any (opsOf Tryd.f49 3) = corebankref01_JoinP.T3 := by kernel_rfl
theorem corebankref01_JoinP.bits3 : waitsOk corebankref01_JoinP.T3.2 corebankref01_JoinP.B3 = true := by kernel_rfl
def corebankref01_JoinP.T6 : Bool × List (List Nat × List Nat) := (true, [([], []), ([0], [0]), ([], []), ([1, 2], [1, 2]), ([], []), ([4], [4]), ([5], [5]), ([6], [6]), ([7], [7]), ([8, 7], [7, 8]), ([9, 7], [7, 9]), ([10, 7, 7], [7, 10]), ([11], [11]), ([12, 11], [11, 12]), ([13, 11], [11, 13]), ([11, 14, 7], [7, 11, 14]), ([7, 15], [7, 15]), ([3, 11, 0, 1, 2, 3], [3]), ([16, 17, 0, 1, 2, 3, 4, 5, 6, 7, 8, 9, 10, 11, 12, 13, 14, 15, 16, 17], [16])])
def corebankref01_JoinP.B6 : List Nat := [0, 1, 0, 7, 0, 16, 48, 112, 240, 496, 1008, 2032, 4080, 8176, 16368, 32752, 65520, 4095, 262143]
theorem corebankref01_JoinP.tab6 : rtab .any (opsOf Tryd.f49 6) = corebankref01_JoinP.T6 := by kernel_rfl
theorem corebankref01_JoinP.bits6 : waitsOk corebankref01_JoinP.T6.2 corebankref01_JoinP.B6 = true := by kernel_rfl
set_option maxHeartbeats 8000000 in
set_option maxRecDepth 100000 in
theorem corebankref01_JoinP.calls (a0 : Bool) (a1_0 : Int) (a1_1 : Int) (r1 : Int) (r2 : Int) (r3 : Bool) (w : World) (h : corebankref01_JoinP.f a0 a1_0 a1_1 = some (r1, r2, r3)) :
  Calls Tryd.prog 49 #[.bool a0, .agg #[.int .u64 a1_0, .int .u64 a1_1]] w fun e w' => e = .returned (.tuple #[.agg #[.int .i64 r1, .int .u64 r2], .bool r3]) ∧ Below w.heap.size w w' := by
 have hu54 := Tryd.underlying54
 have hu24 := Tryd.underlying24
 have hsgn : IntKind.u64.signed = false := rfl
 have HB := Aside0.mk (Below.refl w.heap.size w)
 have H : (if a0 = true then (if (IntKind.u64.wrap ((Go.bits .xor .u64 IntKind.u64.max a1_1) + 1)) = 0 then (if a1_0 < 9223372036854775808 then (some (wrap64 (IntKind.u64.wrap ((Go.bits .xor .u64 IntKind.u64.max a1_0) + 1)), IntKind.u64.wrap ((Go.bits .xor .u64 IntKind.u64.max a1_1) + 1), true)) else (if a1_0 = 9223372036854775808 then (some (wrap64 (IntKind.u64.wrap ((Go.bits .xor .u64 IntKind.u64.max a1_0) + 1)), IntKind.u64.wrap ((Go.bits .xor .u64 IntKind.u64.max a1_1) + 1), (a1_1 == 0))) else (some (wrap64 (IntKind.u64.wrap ((Go.bits .xor .u64 IntKind.u64.max a1_0) + 1)), IntKind.u64.wrap ((Go.bits .xor .u64 IntKind.u64.max a1_1) + 1), false)))) else (if a1_0 < 9223372036854775808 then (some (wrap64 (Go.bits .xor .u64 IntKind.u64.max a1_0), IntKind.u64.wrap ((Go.bits .xor .u64 IntKind.u64.max a1_1) + 1), true)) else (if a1_0 = 9223372036854775808 then (some (wrap64 (Go.bits .xor .u64 IntKind.u64.max a1_0), IntKind.u64.wrap ((Go.bits .xor .u64 IntKind.u64.max a1_1) + 1), (a1_1 == 0))) else (some (wrap64 (Go.bits .xor .u64 IntKind.u64.max a1_0), IntKind.u64.wrap ((Go.bits .xor .u64 IntKind.u64.max a1_1) + 1), false))))) else (some (wrap64 (a1_0), a1_1, decide (a1_0 < 9223372036854775808)))) = some (r1, r2, r3) := h
 clear h
 by_cases c3 : a0 = true
 ·subst c3
  have H1 : (if (IntKind.u64.wrap ((Go.bits .xor .u64 IntKind.u64.max a1_1) + 1)) = 0 then (if a1_0 < 9223372036854775808 then (some (wrap64 (IntKind.u64.wrap ((Go.bits .xor .u64 IntKind.u64.max a1_0) + 1)), IntKind.u64.wrap ((Go.bits .xor .u64 IntKind.u64.max a1_1) + 1), true)) else (if a1_0 = 9223372036854775808 then (some (wrap64 (IntKind.u64.wrap ((Go.bits .xor .u64 IntKind.u64.max a1_0) + 1)), IntKind.u64.wrap ((Go.bits .xor .u64 IntKind.u64.max a1_1) + 1), (a1_1 == 0))) else (some (wrap64 (IntKind.u64.wrap ((Go.bits .xor .u64 IntKind.u64.max a1_0) + 1)), IntKind.u64.wrap ((Go.bits .xor .u64 IntKind.u64.max a1_1) + 1), false)))) else (if a1_0 < 9223372036854775808 then (some (wrap64 (Go.bits .xor .u64 IntKind.u64.max a1_0), IntKind.u64.wrap ((Go.bits .xor .u64 IntKind.u64.max a1_1) + 1), true)) else (if a1_0 = 9223372036854775808 then (some (wrap64 (Go.bits .xor .u64 IntKind.u64.max a1_0), IntKind.u64.wrap ((Go.bits .xor .u64 IntKind.u64.max a1_1) + 1), (a1_1 == 0))) else (some (wrap64 (Go.bits .xor .u64 IntKind.u64.max a1_0), IntKind.u64.wrap ((Go.bits .xor .u64 IntKind.u64.max a1_1) + 1), false))))) = some (r1, r2, r3) := by rw [if_pos rfl] at H; exact H
  clear H
  have H := H1
  clear H1
  by_cases c4 : (IntKind.u64.wrap ((Go.bits .xor .u64 IntKind.u64.max a1_1) + 1)) = 0
  ·rw [if_pos c4] at H
   have c4b0 : ((IntKind.u64.wrap ((Go.bits .xor .u64 IntKind.u64.max a1_1) + 1)) == 0) = true := beq_iff_eq.mpr c4
   have c4b1 : ((IntKind.u64.wrap ((Go.bits .xor .u64 IntKind.u64.max a1_1) + 1)) != 0) = false := bne_eq_false_iff_eq.mpr c4
   clear c4
   by_cases c5 : a1_0 < 9223372036854775808
   ·rw [if_pos c5] at H
    have c5b0 : decide (a1_0 < 9223372036854775808) = true := decide_eq_true c5
    clear c5
    simp only [Option.some.injEq, Prod.mk.injEq] at H
    obtain ⟨rfl, rfl, rfl⟩ := H
    go_enter Tryd.func49, Tryd.ntmps49
    try go_wp2_with (first | ((with_reducible refine gate_dst (N := 3) rfl ?_); refine be_ (N := 3) (cs := #[.int .u64 a1_0, .int .u64 a1_1]) (t := 54) ?_; intro gb167 hg w6 hbox hb; have n0_ := Aside0.mk (below_step (qb_ HB.out) hb); have n1_ := Aside0.mk (hbox); have n2_ := Aside0.mk (bz_ hg (qb_ HB.out) : w.heap.size ≤ gb167); have n3_ := n2_; clear HB; have HB := n0_; have BK167 := n1_; have GW167 := n2_; have GE167 := n3_; clear n0_ n1_ n2_ n3_; clear hb hbox hg) | ((with_reducible refine gate_dst (N := 4) rfl ?_); refine be_ (N := 4) (cs := #[.int .i64 0, .int .u64 0]) (t := 24) ?_; intro gb168 hg w7 hbox hb; have n0_ := Aside0.mk (blk_below (qk_ BK167.out) hb); have n1_ := Aside0.mk (below_step (qb1_ GE167.out HB.out) hb); have n2_ := Aside0.mk (hbox); have n3_ := Aside0.mk (bz_ hg (qb1_ GE167.out HB.out) : w.heap.size ≤ gb168); have n4_ := n3_; have n5_ := Aside0.mk (nl_ hg (qk_ BK167.out) : gb167 ≠ gb168); have n6_ := Aside0.mk (ng_ hg (qk_ BK167.out) : gb168 ≠ gb167); clear BK167; clear HB; have BK167 := n0_; have HB := n1_; have BK168 := n2_; have GW168 := n3_; have GE168 := n4_; have NB167_168 := n5_; have NB168_167 := n6_; clear n0_ n1_ n2_ n3_ n4_ n5_ n6_; clear hb hbox hg))
    have n0_ := Aside0.mk (blk_drew BK167.out)
    have n1_ := Aside0.mk (blk_drew BK168.out)
    have n2_ := Aside0.mk (below_drew1 HB.out)
    clear BK167
    clear BK168
    clear HB
    have BK167 := n0_
    have BK168 := n1_
    have HB := n2_
    clear n0_ n1_ n2_
    refine start_ (n := 9) (S := fun w' => w'.cell? ⟨gb167, 0, none⟩ = some (.int .u64 a1_0) ∧ w'.cell? ⟨gb167, 1, none⟩ = some (.int .u64 a1_1)) (ds := []) (nb_ 9 0) (by kernel_rfl) rfl rfl ⟨(blk_cell BK167.out 0).trans rfl, (blk_cell BK167.out 1).trans rfl⟩ (fun hHeld => ?_); refine with_tabW corebankref01_JoinP.tab3 corebankref01_JoinP.bits3 (fun HT_ HW_ => ?_)
    generalize w7.drew = w8 at BK167 BK168 HB hHeld ⊢
    refine pz_ 0 19 (nb_ 9 1) HT_.out ?_
    refine pz_ 4 23 (nb_ 9 17) HT_.out ?_
    refine tk2_ 1 20 (nb_ 9 19) HT_.out HW_.out hHeld ?_
    refine pz_ 2 21 (nb_ 9 23) HT_.out ?_
    refine pz_ 3 22 (nb_ 9 31) HT_.out ?_
    refine pz_ 7 6 (nb_ 9 159) HT_.out ?_
    refine tk2_ 5 24 (nb_ 9 191) HT_.out HW_.out hHeld ?_
    refine pz_ 6 25 (nb_ 9 255) HT_.out ?_
    refine pz_ 8 7 (nb_ 9 511) HT_.out ?_
    refine done_ (done_of HT_.out (by kernel_rfl)) ?_
    try go_wp2
    have n0_ := Aside0.mk (blk_drew BK167.out)
    have n1_ := Aside0.mk (blk_drew BK168.out)
    have n2_ := Aside0.mk (below_drew1 HB.out)
    clear BK167
    clear BK168
    clear HB
    have BK167 := n0_
    have BK168 := n1_
    have HB := n2_
    clear n0_ n1_ n2_
    refine start_ (n := 19) (S := fun w' => w'.cell? ⟨gb167, 0, none⟩ = some (.int .u64 a1_0) ∧ w'.cell? ⟨gb167, 1, none⟩ = some (.int .u64 a1_1)) (ds := []) (nb_ 19 0) (by kernel_rfl) rfl rfl ⟨(blk_cell BK167.out 0).trans rfl, (blk_cell BK167.out 1).trans rfl⟩ (fun hHeld => ?_); refine with_tabW corebankref01_JoinP.tab6 corebankref01_JoinP.bits6 (fun HT_ HW_ => ?_)
    generalize w8.drew = w9 at BK167 BK168 HB hHeld ⊢
    refine pz_ 0 30 (nb_ 19 1) HT_.out ?_
    refine pz_ 1 31 (nb_ 19 3) HT_.out ?_
    refine pz_ 2 32 (nb_ 19 7) HT_.out ?_
    refine pz_ 3 33 (nb_ 19 15) HT_.out ?_
    refine pz_ 4 34 (nb_ 19 31) HT_.out ?_
    refine tk2_ 5 35 (nb_ 19 63) HT_.out HW_.out hHeld ?_
    refine pz_ 6 36 (nb_ 19 127) HT_.out ?_
    refine pz_ 7 37 (nb_ 19 255) HT_.out ?_
    refine pu_ 8 38 (nb_ 19 511) HT_.out ?_
    refine pu_ 9 39 (nb_ 19 1023) HT_.out ?_
    refine pu_ 10 40 (nb_ 19 2047) HT_.out ?_
    refine pu_ 11 41 (nb_ 19 4095) HT_.out ?_
    refine pu_ 12 42 (nb_ 19 8191) HT_.out ?_
    refine pu_ 13 43 (nb_ 19 16383) HT_.out ?_
    refine pu_ 14 44 (nb_ 19 32767) HT_.out ?_
    refine pu_ 15 45 (nb_ 19 65535) HT_.out ?_
    refine pz_ 16 46 (nb_ 19 131071) HT_.out ?_
    refine one_ (i := 17) (N := none) (nb_ 19 262143) rfl rfl (one_of HT_.out (by kernel_rfl)) (by decide) (fun K hK => ?_)
    have hs10 : w9.cell? ⟨gb168, 0, none⟩ = some (.int .i64 0) := (blk_cell BK168.out 0).trans rfl
    have hfs10 := blk_frozen BK168.out 0
    have hns10_0 := NB167_168.out
    have hms10_0 := NB168_167.out
    have hs11 : w9.cell? ⟨gb168, 1, none⟩ = some (.int .u64 0) := (blk_cell BK168.out 1).trans rfl
    have hfs11 := blk_frozen BK168.out 1
    have hns11_0 := NB167_168.out
    have hms11_0 := NB168_167.out
    refine skip_ (w1 := ?_) (by rfl) rfl ?_ ?_
    rotate_left
    ·go_simp
     rfl
    refine hK.out _ _ ⟨((cell_far (p := ⟨gb168, _, none⟩) NB167_168.out _).trans (((cell_far (p := ⟨gb168, _, none⟩) NB167_168.out _).trans (hHeld.1)))), ((cell_far (p := ⟨gb168, _, none⟩) NB167_168.out _).trans (((cell_far (p := ⟨gb168, _, none⟩) NB167_168.out _).trans (hHeld.2))))⟩ (fun hHeld => ?_)
    clear hK K
    refine pz_ 18 5 (nb_ 19 524287) HT_.out ?_
    refine done_ (done_of HT_.out (by kernel_rfl)) ?_
    try go_wp2
    refine bodyPost_ret (results_ct rfl _ _ gb168 24 #[.int .i64 (wrap64 (IntKind.u64.wrap ((Go.bits .xor .u64 IntKind.u64.max a1_0) + 1))), .int .u64 (IntKind.u64.wrap ((Go.bits .xor .u64 IntKind.u64.max a1_1) + 1))] (0, 0) _ rfl (qpp_ #[.int .i64 (wrap64 (IntKind.u64.wrap ((Go.bits .xor .u64 IntKind.u64.max a1_0) + 1))), .int .u64 0] 1 #[.int .i64 0, .int .u64 0] 0 BK168.out) Tryd.underlying24 rfl (by kernel_rfl)) rfl ?_
    exact ⟨qe_, qb2_ GE167.out GE168.out HB.out⟩
   ·rw [if_neg c5] at H
    have c5b0 : decide (a1_0 < 9223372036854775808) = false := decide_eq_false c5
    clear c5
    by_cases c12 : a1_0 = 9223372036854775808
    ·rw [if_pos c12] at H
     have c12b0 : (a1_0 == 9223372036854775808) = true := beq_iff_eq.mpr c12
     have c12b1 : (a1_0 != 9223372036854775808) = false := bne_eq_false_iff_eq.mpr c12
     clear c12
     simp only [Option.some.injEq, Prod.mk.injEq] at H
     obtain ⟨rfl, rfl, rfl⟩ := H
     go_enter Tryd.func49, Tryd.ntmps49
     try go_wp2_with (first | ((with_reducible refine gate_dst (N := 3) rfl ?_); refine be_ (N := 3) (cs := #[.int .u64 a1_0, .int .u64 a1_1]) (t := 54) ?_; intro gb167 hg w13 hbox hb; have n0_ := Aside0.mk (below_step (qb_ HB.out) hb); have n1_ := Aside0.mk (hbox); have n2_ := Aside0.mk (bz_ hg (qb_ HB.out) : w.heap.size ≤ gb167); have n3_ := n2_; clear HB; have HB := n0_; have BK167 := n1_; have GW167 := n2_; have GE167 := n3_; clear n0_ n1_ n2_ n3_; clear hb hbox hg) | ((with_reducible refine gate_dst (N := 4) rfl ?_); refine be_ (N := 4) (cs := #[.int .i64 0, .int .u64 0]) (t := 24) ?_; intro gb168 hg w14 hbox hb; have n0_ := Aside0.mk (blk_below (qk_ BK167.out) hb); have n1_ := Aside0.mk (below_step (qb1_ GE167.out HB.out) hb); have n2_ := Aside0.mk (hbox); have n3_ := Aside0.mk (bz_ hg (qb1_ GE167.out HB.out) : w.heap.size ≤ gb168); have n4_ := n3_; have n5_ := Aside0.mk (nl_ hg (qk_ BK167.out) : gb167 ≠ gb168); have n6_ := Aside0.mk (ng_ hg (qk_ BK167.out) : gb168 ≠ gb167); clear BK167; clear HB; have BK167 := n0_; have HB := n1_; have BK168 := n2_; have GW168 := n3_; have GE168 := n4_; have NB167_168 := n5_; have NB168_167 := n6_; clear n0_ n1_ n2_ n3_ n4_ n5_ n6_; clear hb hbox hg))
     have n0_ := Aside0.mk (blk_drew BK167.out)
     have n1_ := Aside0.mk (blk_drew BK168.out)
     have n2_ := Aside0.mk (below_drew1 HB.out)
     clear BK167
     clear BK168
     clear HB
     have BK167 := n0_
     have BK168 := n1_
     have HB := n2_
     clear n0_ n1_ n2_
     refine start_ (n := 9) (S := fun w' => w'.cell? ⟨gb167, 0, none⟩ = some (.int .u64 a1_0) ∧ w'.cell? ⟨gb167, 1, none⟩ = some (.int .u64 a1_1)) (ds := []) (nb_ 9 0) (by kernel_rfl) rfl rfl ⟨(blk_cell BK167.out 0).trans rfl, (blk_cell BK167.out 1).trans rfl⟩ (fun hHeld => ?_); refine with_tabW corebankref01_JoinP.tab3 corebankref01_JoinP.bits3 (fun HT_ HW_ => ?_)
     generalize w14.drew = w15 at BK167 BK168 HB hHeld ⊢
     refine pz_ 0 19 (nb_ 9 1) HT_.out ?_
     refine pz_ 4 23 (nb_ 9 17) HT_.out ?_
     refine tk2_ 1 20 (nb_ 9 19) HT_.out HW_.out hHeld ?_
     refine pz_ 2 21 (nb_ 9 23) HT_.out ?_
     refine pz_ 3 22 (nb_ 9 31) HT_.out ?_
     refine pz_ 7 6 (nb_ 9 159) HT_.out ?_
     refine tk2_ 5 24 (nb_ 9 191) HT_.out HW_.out hHeld ?_
     refine pz_ 6 25 (nb_ 9 255) HT_.out ?_
     refine pz_ 8 7 (nb_ 9 511) HT_.out ?_
     refine done_ (done_of HT_.out (by kernel_rfl)) ?_
     try go_wp2
     have n0_ := Aside0.mk (blk_drew BK167.out)
     have n1_ := Aside0.mk (blk_drew BK168.out)
     have n2_ := Aside0.mk (below_drew1 HB.out)
     clear BK167
     clear BK168
     clear HB
     have BK167 := n0_
     have BK168 := n1_
     have HB := n2_
     clear n0_ n1_ n2_
     refine start_ (n := 19) (S := fun w' => w'.cell? ⟨gb167, 0, none⟩ = some (.int .u64 a1_0) ∧ w'.cell? ⟨gb167, 1, none⟩ = some (.int .u64 a1_1)) (ds := []) (nb_ 19 0) (by kernel_rfl) rfl rfl ⟨(blk_cell BK167.out 0).trans rfl, (blk_cell BK167.out 1).trans rfl⟩ (fun hHeld => ?_); refine with_tabW corebankref01_JoinP.tab6 corebankref01_JoinP.bits6 (fun HT_ HW_ => ?_)
     generalize w15.drew = w16 at BK167 BK168 HB hHeld ⊢
     refine pz_ 0 30 (nb_ 19 1) HT_.out ?_
     refine pz_ 1 31 (nb_ 19 3) HT_.out ?_
     refine pz_ 2 32 (nb_ 19 7) HT_.out ?_
     refine pz_ 3 33 (nb_ 19 15) HT_.out ?_
     refine pz_ 4 34 (nb_ 19 31) HT_.out ?_
     refine tk2_ 5 35 (nb_ 19 63) HT_.out HW_.out hHeld ?_
     refine pz_ 6 36 (nb_ 19 127) HT_.out ?_
     refine pz_ 7 37 (nb_ 19 255) HT_.out ?_
     refine pz_ 8 38 (nb_ 19 511) HT_.out ?_
     refine tk2_ 9 39 (nb_ 19 1023) HT_.out HW_.out hHeld ?_
     refine pz_ 10 40 (nb_ 19 2047) HT_.out ?_
     refine pz_ 11 41 (nb_ 19 4095) HT_.out ?_
     refine pz_ 12 42 (nb_ 19 8191) HT_.out ?_
     refine tk2_ 13 43 (nb_ 19 16383) HT_.out HW_.out hHeld ?_
     refine pz_ 14 44 (nb_ 19 32767) HT_.out ?_
     refine pz_ 15 45 (nb_ 19 65535) HT_.out ?_
     refine pz_ 16 46 (nb_ 19 131071) HT_.out ?_
     refine one_ (i := 17) (N := none) (nb_ 19 262143) rfl rfl (one_of HT_.out (by kernel_rfl)) (by decide) (fun K hK => ?_)
     have hs17 : w16.cell? ⟨gb168, 0, none⟩ = some (.int .i64 0) := (blk_cell BK168.out 0).trans rfl
     have hfs17 := blk_frozen BK168.out 0
     have hns17_0 := NB167_168.out
     have hms17_0 := NB168_167.out
     have hs18 : w16.cell? ⟨gb168, 1, none⟩ = some (.int .u64 0) := (blk_cell BK168.out 1).trans rfl
     have hfs18 := blk_frozen BK168.out 1
     have hns18_0 := NB167_168.out
     have hms18_0 := NB168_167.out
     refine skip_ (w1 := ?_) (by rfl) rfl ?_ ?_
     rotate_left
     ·go_simp
      rfl
     refine hK.out _ _ ⟨((cell_far (p := ⟨gb168, _, none⟩) NB167_168.out _).trans (((cell_far (p := ⟨gb168, _, none⟩) NB167_168.out _).trans (hHeld.1)))), ((cell_far (p := ⟨gb168, _, none⟩) NB167_168.out _).trans (((cell_far (p := ⟨gb168, _, none⟩) NB167_168.out _).trans (hHeld.2))))⟩ (fun hHeld => ?_)
     clear hK K
     refine pz_ 18 5 (nb_ 19 524287) HT_.out ?_
     refine done_ (done_of HT_.out (by kernel_rfl)) ?_
     try go_wp2
     refine bodyPost_ret (results_ct rfl _ _ gb168 24 #[.int .i64 (wrap64 (IntKind.u64.wrap ((Go.bits .xor .u64 IntKind.u64.max a1_0) + 1))), .int .u64 (IntKind.u64.wrap ((Go.bits .xor .u64 IntKind.u64.max a1_1) + 1))] (0, 0) _ rfl (qpp_ #[.int .i64 (wrap64 (IntKind.u64.wrap ((Go.bits .xor .u64 IntKind.u64.max a1_0) + 1))), .int .u64 0] 1 #[.int .i64 0, .int .u64 0] 0 BK168.out) Tryd.underlying24 rfl (by kernel_rfl)) rfl ?_
     exact ⟨qe_, qb2_ GE167.out GE168.out HB.out⟩
    ·rw [if_neg c12] at H
     have c12b0 : (a1_0 == 9223372036854775808) = false := beq_eq_false_iff_ne.mpr c12
     have c12b1 : (a1_0 != 9223372036854775808) = true := bne_iff_ne.mpr c12
     simp only [Option.some.injEq, Prod.mk.injEq] at H
     obtain ⟨rfl, rfl, rfl⟩ := H
     go_enter Tryd.func49, Tryd.ntmps49
     try go_wp2_with (first | ((with_reducible refine gate_dst (N := 3) rfl ?_); refine be_ (N := 3) (cs := #[.int .u64 a1_0, .int .u64 a1_1]) (t := 54) ?_; intro gb167 hg w19 hbox hb; have n0_ := Aside0.mk (below_step (qb_ HB.out) hb); have n1_ := Aside0.mk (hbox); have n2_ := Aside0.mk (bz_ hg (qb_ HB.out) : w.heap.size ≤ gb167); have n3_ := n2_; clear HB; have HB := n0_; have BK167 := n1_; have GW167 := n2_; have GE167 := n3_; clear n0_ n1_ n2_ n3_; clear hb hbox hg) | ((with_reducible refine gate_dst (N := 4) rfl ?_); refine be_ (N := 4) (cs := #[.int .i64 0, .int .u64 0]) (t := 24) ?_; intro gb168 hg w20 hbox hb; have n0_ := Aside0.mk (blk_below (qk_ BK167.out) hb); have n1_ := Aside0.mk (below_step (qb1_ GE167.out HB.out) hb); have n2_ := Aside0.mk (hbox); have n3_ := Aside0.mk (bz_ hg (qb1_ GE167.out HB.out) : w.heap.size ≤ gb168); have n4_ := n3_; have n5_ := Aside0.mk (nl_ hg (qk_ BK167.out) : gb167 ≠ gb168); have n6_ := Aside0.mk (ng_ hg (qk_ BK167.out) : gb168 ≠ gb167); clear BK167; clear HB; have BK167 := n0_; have HB := n1_; have BK168 := n2_; have GW168 := n3_; have GE168 := n4_; have NB167_168 := n5_; have NB168_167 := n6_; clear n0_ n1_ n2_ n3_ n4_ n5_ n6_; clear hb hbox hg))
     have n0_ := Aside0.mk (blk_drew BK167.out)
     have n1_ := Aside0.mk (blk_drew BK168.out)
     have n2_ := Aside0.mk (below_drew1 HB.out)
     clear BK167
     clear BK168
     clear HB
     have BK167 := n0_
     have BK168 := n1_
     have HB := n2_
     clear n0_ n1_ n2_
     refine start_ (n := 9) (S := fun w' => w'.cell? ⟨gb167, 0, none⟩ = some (.int .u64 a1_0) ∧ w'.cell? ⟨gb167, 1, none⟩ = some (.int .u64 a1_1)) (ds := []) (nb_ 9 0) (by kernel_rfl) rfl rfl ⟨(blk_cell BK167.out 0).trans rfl, (blk_cell BK167.out 1).trans rfl⟩ (fun hHeld => ?_); refine with_tabW corebankref01_JoinP.tab3 corebankref01_JoinP.bits3 (fun HT_ HW_ => ?_)
     generalize w20.drew = w21 at BK167 BK168 HB hHeld ⊢
     refine pz_ 0 19 (nb_ 9 1) HT_.out ?_
     refine pz_ 4 23 (nb_ 9 17) HT_.out ?_
     refine tk2_ 1 20 (nb_ 9 19) HT_.out HW_.out hHeld ?_
     refine pz_ 2 21 (nb_ 9 23) HT_.out ?_
     refine pz_ 3 22 (nb_ 9 31) HT_.out ?_
     refine pz_ 7 6 (nb_ 9 159) HT_.out ?_
     refine tk2_ 5 24 (nb_ 9 191) HT_.out HW_.out hHeld ?_
     refine pz_ 6 25 (nb_ 9 255) HT_.out ?_
     refine pz_ 8 7 (nb_ 9 511) HT_.out ?_
     refine done_ (done_of HT_.out (by kernel_rfl)) ?_
     try go_wp2
     have n0_ := Aside0.mk (blk_drew BK167.out)
     have n1_ := Aside0.mk (blk_drew BK168.out)
     have n2_ := Aside0.mk (below_drew1 HB.out)
     clear BK167
     clear BK168
     clear HB
     have BK167 := n0_
     have BK168 := n1_
     have HB := n2_
     clear n0_ n1_ n2_
     refine start_ (n := 19) (S := fun w' => w'.cell? ⟨gb167, 0, none⟩ = some (.int .u64 a1_0) ∧ w'.cell? ⟨gb167, 1, none⟩ = some (.int .u64 a1_1)) (ds := []) (nb_ 19 0) (by kernel_rfl) rfl rfl ⟨(blk_cell BK167.out 0).trans rfl, (blk_cell BK167.out 1).trans rfl⟩ (fun hHeld => ?_); refine with_tabW corebankref01_JoinP.tab6 corebankref01_JoinP.bits6 (fun HT_ HW_ => ?_)
     generalize w21.drew = w22 at BK167 BK168 HB hHeld ⊢
     refine pz_ 0 30 (nb_ 19 1) HT_.out ?_
     refine pz_ 1 31 (nb_ 19 3) HT_.out ?_
     refine pz_ 2 32 (nb_ 19 7) HT_.out ?_
     refine pz_ 3 33 (nb_ 19 15) HT_.out ?_
     refine pz_ 4 34 (nb_ 19 31) HT_.out ?_
     refine tk2_ 5 35 (nb_ 19 63) HT_.out HW_.out hHeld ?_
     refine pz_ 6 36 (nb_ 19 127) HT_.out ?_
     refine pz_ 7 37 (nb_ 19 255) HT_.out ?_
     refine pz_ 8 38 (nb_ 19 511) HT_.out ?_
     refine tk2_ 9 39 (nb_ 19 1023) HT_.out HW_.out hHeld ?_
     refine pz_ 10 40 (nb_ 19 2047) HT_.out ?_
     refine pz_ 11 41 (nb_ 19 4095) HT_.out ?_
     refine pu_ 12 42 (nb_ 19 8191) HT_.out ?_
     refine pu_ 13 43 (nb_ 19 16383) HT_.out ?_
     refine pu_ 14 44 (nb_ 19 32767) HT_.out ?_
     refine pz_ 15 45 (nb_ 19 65535) HT_.out ?_
     refine pz_ 16 46 (nb_ 19 131071) HT_.out ?_
     refine one_ (i := 17) (N := none) (nb_ 19 262143) rfl rfl (one_of HT_.out (by kernel_rfl)) (by decide) (fun K hK => ?_)
     have hs23 : w22.cell? ⟨gb168, 0, none⟩ = some (.int .i64 0) := (blk_cell BK168.out 0).trans rfl
     have hfs23 := blk_frozen BK168.out 0
     have hns23_0 := NB167_168.out
     have hms23_0 := NB168_167.out
     have hs24 : w22.cell? ⟨gb168, 1, none⟩ = some (.int .u64 0) := (blk_cell BK168.out 1).trans rfl
     have hfs24 := blk_frozen BK168.out 1
     have hns24_0 := NB167_168.out
     have hms24_0 := NB168_167.out
     refine skip_ (w1 := ?_) (by rfl) rfl ?_ ?_
     rotate_left
     ·go_simp
      rfl
     refine hK.out _ _ ⟨((cell_far (p := ⟨gb168, _, none⟩) NB167_168.out _).trans (((cell_far (p := ⟨gb168, _, none⟩) NB167_168.out _).trans (hHeld.1)))), ((cell_far (p := ⟨gb168, _, none⟩) NB167_168.out _).trans (((cell_far (p := ⟨gb168, _, none⟩) NB167_168.out _).trans (hHeld.2))))⟩ (fun hHeld => ?_)
     clear hK K
     refine pz_ 18 5 (nb_ 19 524287) HT_.out ?_
     refine done_ (done_of HT_.out (by kernel_rfl)) ?_
     try go_wp2
     refine bodyPost_ret (results_ct rfl _ _ gb168 24 #[.int .i64 (wrap64 (IntKind.u64.wrap ((Go.bits .xor .u64 IntKind.u64.max a1_0) + 1))), .int .u64 (IntKind.u64.wrap ((Go.bits .xor .u64 IntKind.u64.max a1_1) + 1))] (0, 0) _ rfl (qpp_ #[.int .i64 (wrap64 (IntKind.u64.wrap ((Go.bits .xor .u64 IntKind.u64.max a1_0) + 1))), .int .u64 0] 1 #[.int .i64 0, .int .u64 0] 0 BK168.out) Tryd.underlying24 rfl (by kernel_rfl)) rfl ?_
     exact ⟨qe_, qb2_ GE167.out GE168.out HB.out⟩
  ·rw [if_neg c4] at H
   have c4b0 : ((IntKind.u64.wrap ((Go.bits .xor .u64 IntKind.u64.max a1_1) + 1)) == 0) = false := beq_eq_false_iff_ne.mpr c4
   have c4b1 : ((IntKind.u64.wrap ((Go.bits .xor .u64 IntKind.u64.max a1_1) + 1)) != 0) = true := bne_iff_ne.mpr c4
   by_cases c25 : a1_0 < 9223372036854775808
   ·rw [if_pos c25] at H
    have c25b0 : decide (a1_0 < 9223372036854775808) = true := decide_eq_true c25
    clear c25
    simp only [Option.some.injEq, Prod.mk.injEq] at H
    obtain ⟨rfl, rfl, rfl⟩ := H
    go_enter Tryd.func49, Tryd.ntmps49
    try go_wp2_with (first | ((with_reducible refine gate_dst (N := 3) rfl ?_); refine be_ (N := 3) (cs := #[.int .u64 a1_0, .int .u64 a1_1]) (t := 54) ?_; intro gb167 hg w26 hbox hb; have n0_ := Aside0.mk (below_step (qb_ HB.out) hb); have n1_ := Aside0.mk (hbox); have n2_ := Aside0.mk (bz_ hg (qb_ HB.out) : w.heap.size ≤ gb167); have n3_ := n2_; clear HB; have HB := n0_; have BK167 := n1_; have GW167 := n2_; have GE167 := n3_; clear n0_ n1_ n2_ n3_; clear hb hbox hg) | ((with_reducible refine gate_dst (N := 4) rfl ?_); refine be_ (N := 4) (cs := #[.int .i64 0, .int .u64 0]) (t := 24) ?_; intro gb168 hg w27 hbox hb; have n0_ := Aside0.mk (blk_below (qk_ BK167.out) hb); have n1_ := Aside0.mk (below_step (qb1_ GE167.out HB.out) hb); have n2_ := Aside0.mk (hbox); have n3_ := Aside0.mk (bz_ hg (qb1_ GE167.out HB.out) : w.heap.size ≤ gb168); have n4_ := n3_; have n5_ := Aside0.mk (nl_ hg (qk_ BK167.out) : gb167 ≠ gb168); have n6_ := Aside0.mk (ng_ hg (qk_ BK167.out) : gb168 ≠ gb167); clear BK167; clear HB; have BK167 := n0_; have HB := n1_; have BK168 := n2_; have GW168 := n3_; have GE168 := n4_; have NB167_168 := n5_; have NB168_167 := n6_; clear n0_ n1_ n2_ n3_ n4_ n5_ n6_; clear hb hbox hg))
    have n0_ := Aside0.mk (blk_drew BK167.out)
    have n1_ := Aside0.mk (blk_drew BK168.out)
    have n2_ := Aside0.mk (below_drew1 HB.out)
    clear BK167
    clear BK168
    clear HB
    have BK167 := n0_
    have BK168 := n1_
    have HB := n2_
    clear n0_ n1_ n2_
    refine start_ (n := 9) (S := fun w' => w'.cell? ⟨gb167, 0, none⟩ = some (.int .u64 a1_0) ∧ w'.cell? ⟨gb167, 1, none⟩ = some (.int .u64 a1_1)) (ds := []) (nb_ 9 0) (by kernel_rfl) rfl rfl ⟨(blk_cell BK167.out 0).trans rfl, (blk_cell BK167.out 1).trans rfl⟩ (fun hHeld => ?_); refine with_tabW corebankref01_JoinP.tab3 corebankref01_JoinP.bits3 (fun HT_ HW_ => ?_)
    generalize w27.drew = w28 at BK167 BK168 HB hHeld ⊢
    refine pz_ 0 19 (nb_ 9 1) HT_.out ?_
    refine pz_ 4 23 (nb_ 9 17) HT_.out ?_
    refine tk2_ 1 20 (nb_ 9 19) HT_.out HW_.out hHeld ?_
    refine pz_ 2 21 (nb_ 9 23) HT_.out ?_
    refine pz_ 3 22 (nb_ 9 31) HT_.out ?_
    refine pz_ 7 6 (nb_ 9 159) HT_.out ?_
    refine tk2_ 5 24 (nb_ 9 191) HT_.out HW_.out hHeld ?_
    refine pz_ 6 25 (nb_ 9 255) HT_.out ?_
    refine pz_ 8 7 (nb_ 9 511) HT_.out ?_
    refine done_ (done_of HT_.out (by kernel_rfl)) ?_
    try go_wp2
    have n0_ := Aside0.mk (blk_drew BK167.out)
    have n1_ := Aside0.mk (blk_drew BK168.out)
    have n2_ := Aside0.mk (below_drew1 HB.out)
    clear BK167
    clear BK168
    clear HB
    have BK167 := n0_
    have BK168 := n1_
    have HB := n2_
    clear n0_ n1_ n2_
    refine start_ (n := 19) (S := fun w' => w'.cell? ⟨gb167, 0, none⟩ = some (.int .u64 a1_0) ∧ w'.cell? ⟨gb167, 1, none⟩ = some (.int .u64 a1_1)) (ds := []) (nb_ 19 0) (by kernel_rfl) rfl rfl ⟨(blk_cell BK167.out 0).trans rfl, (blk_cell BK167.out 1).trans rfl⟩ (fun hHeld => ?_); refine with_tabW corebankref01_JoinP.tab6 corebankref01_JoinP.bits6 (fun HT_ HW_ => ?_)
    generalize w28.drew = w29 at BK167 BK168 HB hHeld ⊢
    refine pz_ 0 30 (nb_ 19 1) HT_.out ?_
    refine pz_ 1 31 (nb_ 19 3) HT_.out ?_
    refine pz_ 2 32 (nb_ 19 7) HT_.out ?_
    refine pz_ 3 33 (nb_ 19 15) HT_.out ?_
    refine pz_ 4 34 (nb_ 19 31) HT_.out ?_
    refine tk2_ 5 35 (nb_ 19 63) HT_.out HW_.out hHeld ?_
    refine pz_ 6 36 (nb_ 19 127) HT_.out ?_
    refine pz_ 7 37 (nb_ 19 255) HT_.out ?_
    refine pu_ 8 38 (nb_ 19 511) HT_.out ?_
    refine pu_ 9 39 (nb_ 19 1023) HT_.out ?_
    refine pu_ 10 40 (nb_ 19 2047) HT_.out ?_
    refine pu_ 11 41 (nb_ 19 4095) HT_.out ?_
    refine pu_ 12 42 (nb_ 19 8191) HT_.out ?_
    refine pu_ 13 43 (nb_ 19 16383) HT_.out ?_
    refine pu_ 14 44 (nb_ 19 32767) HT_.out ?_
    refine pu_ 15 45 (nb_ 19 65535) HT_.out ?_
    refine pz_ 16 46 (nb_ 19 131071) HT_.out ?_
    refine one_ (i := 17) (N := none) (nb_ 19 262143) rfl rfl (one_of HT_.out (by kernel_rfl)) (by decide) (fun K hK => ?_)
    have hs30 : w29.cell? ⟨gb168, 0, none⟩ = some (.int .i64 0) := (blk_cell BK168.out 0).trans rfl
    have hfs30 := blk_frozen BK168.out 0
    have hns30_0 := NB167_168.out
    have hms30_0 := NB168_167.out
    have hs31 : w29.cell? ⟨gb168, 1, none⟩ = some (.int .u64 0) := (blk_cell BK168.out 1).trans rfl
    have hfs31 := blk_frozen BK168.out 1
    have hns31_0 := NB167_168.out
    have hms31_0 := NB168_167.out
    refine skip_ (w1 := ?_) (by rfl) rfl ?_ ?_
    rotate_left
    ·go_simp
     rfl
    refine hK.out _ _ ⟨((cell_far (p := ⟨gb168, _, none⟩) NB167_168.out _).trans (((cell_far (p := ⟨gb168, _, none⟩) NB167_168.out _).trans (hHeld.1)))), ((cell_far (p := ⟨gb168, _, none⟩) NB167_168.out _).trans (((cell_far (p := ⟨gb168, _, none⟩) NB167_168.out _).trans (hHeld.2))))⟩ (fun hHeld => ?_)
    clear hK K
    refine pz_ 18 5 (nb_ 19 524287) HT_.out ?_
    refine done_ (done_of HT_.out (by kernel_rfl)) ?_
    try go_wp2
    refine bodyPost_ret (results_ct rfl _ _ gb168 24 #[.int .i64 (wrap64 (Go.bits .xor .u64 IntKind.u64.max a1_0)), .int .u64 (IntKind.u64.wrap ((Go.bits .xor .u64 IntKind.u64.max a1_1) + 1))] (0, 0) _ rfl (qpp_ #[.int .i64 (wrap64 (Go.bits .xor .u64 IntKind.u64.max a1_0)), .int .u64 0] 1 #[.int .i64 0, .int .u64 0] 0 BK168.out) Tryd.underlying24 rfl (by kernel_rfl)) rfl ?_
    exact ⟨qe_, qb2_ GE167.out GE168.out HB.out⟩
   ·rw [if_neg c25] at H
    have c25b0 : decide (a1_0 < 9223372036854775808) = false := decide_eq_false c25
    clear c25
    by_cases c32 : a1_0 = 9223372036854775808
    ·rw [if_pos c32] at H
     have c32b0 : (a1_0 == 9223372036854775808) = true := beq_iff_eq.mpr c32
     have c32b1 : (a1_0 != 9223372036854775808) = false := bne_eq_false_iff_eq.mpr c32
     clear c32
     simp only [Option.some.injEq, Prod.mk.injEq] at H
     obtain ⟨rfl, rfl, rfl⟩ := H
     go_enter Tryd.func49, Tryd.ntmps49
     try go_wp2_with (first | ((with_reducible refine gate_dst (N := 3) rfl ?_); refine be_ (N := 3) (cs := #[.int .u64 a1_0, .int .u64 a1_1]) (t := 54) ?_; intro gb167 hg w33 hbox hb; have n0_ := Aside0.mk (below_step (qb_ HB.out) hb); have n1_ := Aside0.mk (hbox); have n2_ := Aside0.mk (bz_ hg (qb_ HB.out) : w.heap.size ≤ gb167); have n3_ := n2_; clear HB; have HB := n0_; have BK167 := n1_; have GW167 := n2_; have GE167 := n3_; clear n0_ n1_ n2_ n3_; clear hb hbox hg) | ((with_reducible refine gate_dst (N := 4) rfl ?_); refine be_ (N := 4) (cs := #[.int .i64 0, .int .u64 0]) (t := 24) ?_; intro gb168 hg w34 hbox hb; have n0_ := Aside0.mk (blk_below (qk_ BK167.out) hb); have n1_ := Aside0.mk (below_step (qb1_ GE167.out HB.out) hb); have n2_ := Aside0.mk (hbox); have n3_ := Aside0.mk (bz_ hg (qb1_ GE167.out HB.out) : w.heap.size ≤ gb168); have n4_ := n3_; have n5_ := Aside0.mk (nl_ hg (qk_ BK167.out) : gb167 ≠ gb168); have n6_ := Aside0.mk (ng_ hg (qk_ BK167.out) : gb168 ≠ gb167); clear BK167; clear HB; have BK167 := n0_; have HB := n1_; have BK168 := n2_; have GW168 := n3_; have GE168 := n4_; have NB167_168 := n5_; have NB168_167 := n6_; clear n0_ n1_ n2_ n3_ n4_ n5_ n6_; clear hb hbox hg))
     have n0_ := Aside0.mk (blk_drew BK167.out)
     have n1_ := Aside0.mk (blk_drew BK168.out)
     have n2_ := Aside0.mk (below_drew1 HB.out)
     clear BK167
     clear BK168
     clear HB
     have BK167 := n0_
     have BK168 := n1_
     have HB := n2_
     clear n0_ n1_ n2_
     refine start_ (n := 9) (S := fun w' => w'.cell? ⟨gb167, 0, none⟩ = some (.int .u64 a1_0) ∧ w'.cell? ⟨gb167, 1, none⟩ = some (.int .u64 a1_1)) (ds := []) (nb_ 9 0) (by kernel_rfl) rfl rfl ⟨(blk_cell BK167.out 0).trans rfl, (blk_cell BK167.out 1).trans rfl⟩ (fun hHeld => ?_); refine with_tabW corebankref01_JoinP.tab3 corebankref01_JoinP.bits3 (fun HT_ HW_ => ?_)
     generalize w34.drew = w35 at BK167 BK168 HB hHeld ⊢
     refine pz_ 0 19 (nb_ 9 1) HT_.out ?_
     refine pz_ 4 23 (nb_ 9 17) HT_.out ?_
     refine tk2_ 1 20 (nb_ 9 19) HT_.out HW_.out hHeld ?_
     refine pz_ 2 21 (nb_ 9 23) HT_.out ?_
     refine pz_ 3 22 (nb_ 9 31) HT_.out ?_
     refine pz_ 7 6 (nb_ 9 159) HT_.out ?_
     refine tk2_ 5 24 (nb_ 9 191) HT_.out HW_.out hHeld ?_
     refine pz_ 6 25 (nb_ 9 255) HT_.out ?_
     refine pz_ 8 7 (nb_ 9 511) HT_.out ?_
     refine done_ (done_of HT_.out (by kernel_rfl)) ?_
     try go_wp2
     have n0_ := Aside0.mk (blk_drew BK167.out)
     have n1_ := Aside0.mk (blk_drew BK168.out)
     have n2_ := Aside0.mk (below_drew1 HB.out)
     clear BK167
     clear BK168
     clear HB
     have BK167 := n0_
     have BK168 := n1_
     have HB := n2_
     clear n0_ n1_ n2_
     refine start_ (n := 19) (S := fun w' => w'.cell? ⟨gb167, 0, none⟩ = some (.int .u64 a1_0) ∧ w'.cell? ⟨gb167, 1, none⟩ = some (.int .u64 a1_1)) (ds := []) (nb_ 19 0) (by kernel_rfl) rfl rfl ⟨(blk_cell BK167.out 0).trans rfl, (blk_cell BK167.out 1).trans rfl⟩ (fun hHeld => ?_); refine with_tabW corebankref01_JoinP.tab6 corebankref01_JoinP.bits6 (fun HT_ HW_ => ?_)
     generalize w35.drew = w36 at BK167 BK168 HB hHeld ⊢
     refine pz_ 0 30 (nb_ 19 1) HT_.out ?_
     refine pz_ 1 31 (nb_ 19 3) HT_.out ?_
     refine pz_ 2 32 (nb_ 19 7) HT_.out ?_
     refine pz_ 3 33 (nb_ 19 15) HT_.out ?_
     refine pz_ 4 34 (nb_ 19 31) HT_.out ?_
     refine tk2_ 5 35 (nb_ 19 63) HT_.out HW_.out hHeld ?_
     refine pz_ 6 36 (nb_ 19 127) HT_.out ?_
     refine pz_ 7 37 (nb_ 19 255) HT_.out ?_
     refine pz_ 8 38 (nb_ 19 511) HT_.out ?_
     refine tk2_ 9 39 (nb_ 19 1023) HT_.out HW_.out hHeld ?_
     refine pz_ 10 40 (nb_ 19 2047) HT_.out ?_
     refine pz_ 11 41 (nb_ 19 4095) HT_.out ?_
     refine pz_ 12 42 (nb_ 19 8191) HT_.out ?_
     refine tk2_ 13 43 (nb_ 19 16383) HT_.out HW_.out hHeld ?_
     refine pz_ 14 44 (nb_ 19 32767) HT_.out ?_
     refine pz_ 15 45 (nb_ 19 65535) HT_.out ?_
     refine pz_ 16 46 (nb_ 19 131071) HT_.out ?_
     refine one_ (i := 17) (N := none) (nb_ 19 262143) rfl rfl (one_of HT_.out (by kernel_rfl)) (by decide) (fun K hK => ?_)
     have hs37 : w36.cell? ⟨gb168, 0, none⟩ = some (.int .i64 0) := (blk_cell BK168.out 0).trans rfl
     have hfs37 := blk_frozen BK168.out 0
     have hns37_0 := NB167_168.out
     have hms37_0 := NB168_167.out
     have hs38 : w36.cell? ⟨gb168, 1, none⟩ = some (.int .u64 0) := (blk_cell BK168.out 1).trans rfl
     have hfs38 := blk_frozen BK168.out 1
     have hns38_0 := NB167_168.out
     have hms38_0 := NB168_167.out
     refine skip_ (w1 := ?_) (by rfl) rfl ?_ ?_
     rotate_left
     ·go_simp
      rfl
     refine hK.out _ _ ⟨((cell_far (p := ⟨gb168, _, none⟩) NB167_168.out _).trans (((cell_far (p := ⟨gb168, _, none⟩) NB167_168.out _).trans (hHeld.1)))), ((cell_far (p := ⟨gb168, _, none⟩) NB167_168.out _).trans (((cell_far (p := ⟨gb168, _, none⟩) NB167_168.out _).trans (hHeld.2))))⟩ (fun hHeld => ?_)
     clear hK K
     refine pz_ 18 5 (nb_ 19 524287) HT_.out ?_
     refine done_ (done_of HT_.out (by kernel_rfl)) ?_
     try go_wp2
     refine bodyPost_ret (results_ct rfl _ _ gb168 24 #[.int .i64 (wrap64 (Go.bits .xor .u64 IntKind.u64.max a1_0)), .int .u64 (IntKind.u64.wrap ((Go.bits .xor .u64 IntKind.u64.max a1_1) + 1))] (0, 0) _ rfl (qpp_ #[.int .i64 (wrap64 (Go.bits .xor .u64 IntKind.u64.max a1_0)), .int .u64 0] 1 #[.int .i64 0, .int .u64 0] 0 BK168.out) Tryd.underlying24 rfl (by kernel_rfl)) rfl ?_
     exact ⟨qe_, qb2_ GE167.out GE168.out HB.out⟩
    ·rw [if_neg c32] at H
     have c32b0 : (a1_0 == 9223372036854775808) = false := beq_eq_false_iff_ne.mpr c32
     have c32b1 : (a1_0 != 9223372036854775808) = true := bne_iff_ne.mpr c32
     simp only [Option.some.injEq, Prod.mk.injEq] at H
     obtain ⟨rfl, rfl, rfl⟩ := H
     go_enter Tryd.func49, Tryd.ntmps49
     try go_wp2_with (first | ((with_reducible refine gate_dst (N := 3) rfl ?_); refine be_ (N := 3) (cs := #[.int .u64 a1_0, .int .u64 a1_1]) (t := 54) ?_; intro gb167 hg w39 hbox hb; have n0_ := Aside0.mk (below_step (qb_ HB.out) hb); have n1_ := Aside0.mk (hbox); have n2_ := Aside0.mk (bz_ hg (qb_ HB.out) : w.heap.size ≤ gb167); have n3_ := n2_; clear HB; have HB := n0_; have BK167 := n1_; have GW167 := n2_; have GE167 := n3_; clear n0_ n1_ n2_ n3_; clear hb hbox hg) | ((with_reducible refine gate_dst (N := 4) rfl ?_); refine be_ (N := 4) (cs := #[.int .i64 0, .int .u64 0]) (t := 24) ?_; intro gb168 hg w40 hbox hb; have n0_ := Aside0.mk (blk_below (qk_ BK167.out) hb); have n1_ := Aside0.mk (below_step (qb1_ GE167.out HB.out) hb); have n2_ := Aside0.mk (hbox); have n3_ := Aside0.mk (bz_ hg (qb1_ GE167.out HB.out) : w.heap.size ≤ gb168); have n4_ := n3_; have n5_ := Aside0.mk (nl_ hg (qk_ BK167.out) : gb167 ≠ gb168); have n6_ := Aside0.mk (ng_ hg (qk_ BK167.out) : gb168 ≠ gb167); clear BK167; clear HB; have BK167 := n0_; have HB := n1_; have BK168 := n2_; have GW168 := n3_; have GE168 := n4_; have NB167_168 := n5_; have NB168_167 := n6_; clear n0_ n1_ n2_ n3_ n4_ n5_ n6_; clear hb hbox hg))
     have n0_ := Aside0.mk (blk_drew BK167.out)
     have n1_ := Aside0.mk (blk_drew BK168.out)
     have n2_ := Aside0.mk (below_drew1 HB.out)
     clear BK167
     clear BK168
     clear HB
     have BK167 := n0_
     have BK168 := n1_
     have HB := n2_
     clear n0_ n1_ n2_
     refine start_ (n := 9) (S := fun w' => w'.cell? ⟨gb167, 0, none⟩ = some (.int .u64 a1_0) ∧ w'.cell? ⟨gb167, 1, none⟩ = some (.int .u64 a1_1)) (ds := []) (nb_ 9 0) (by kernel_rfl) rfl rfl ⟨(blk_cell BK167.out 0).trans rfl, (blk_cell BK167.out 1).trans rfl⟩ (fun hHeld => ?_); refine with_tabW corebankref01_JoinP.tab3 corebankref01_JoinP.bits3 (fun HT_ HW_ => ?_)
     generalize w40.drew = w41 at BK167 BK168 HB hHeld ⊢
     refine pz_ 0 19 (nb_ 9 1) HT_.out ?_
     refine pz_ 4 23 (nb_ 9 17) HT_.out ?_
     refine tk2_ 1 20 (nb_ 9 19) HT_.out HW_.out hHeld ?_
     refine pz_ 2 21 (nb_ 9 23) HT_.out ?_
     refine pz_ 3 22 (nb_ 9 31) HT_.out ?_
     refine pz_ 7 6 (nb_ 9 159) HT_.out ?_
     refine tk2_ 5 24 (nb_ 9 191) HT_.out HW_.out hHeld ?_
     refine pz_ 6 25 (nb_ 9 255) HT_.out ?_
     refine pz_ 8 7 (nb_ 9 511) HT_.out ?_
     refine done_ (done_of HT_.out (by kernel_rfl)) ?_
     try go_wp2
     have n0_ := Aside0.mk (blk_drew BK167.out)
     have n1_ := Aside0.mk (blk_drew BK168.out)
     have n2_ := Aside0.mk (below_drew1 HB.out)
     clear BK167
     clear BK168
     clear HB
     have BK167 := n0_
     have BK168 := n1_
     have HB := n2_
     clear n0_ n1_ n2_
     refine start_ (n := 19) (S := fun w' => w'.cell? ⟨gb167, 0, none⟩ = some (.int .u64 a1_0) ∧ w'.cell? ⟨gb167, 1, none⟩ = some (.int .u64 a1_1)) (ds := []) (nb_ 19 0) (by kernel_rfl) rfl rfl ⟨(blk_cell BK167.out 0).trans rfl, (blk_cell BK167.out 1).trans rfl⟩ (fun hHeld => ?_); refine with_tabW corebankref01_JoinP.tab6 corebankref01_JoinP.bits6 (fun HT_ HW_ => ?_)
     generalize w41.drew = w42 at BK167 BK168 HB hHeld ⊢
     refine pz_ 0 30 (nb_ 19 1) HT_.out ?_
     refine pz_ 1 31 (nb_ 19 3) HT_.out ?_
     refine pz_ 2 32 (nb_ 19 7) HT_.out ?_
     refine pz_ 3 33 (nb_ 19 15) HT_.out ?_
     refine pz_ 4 34 (nb_ 19 31) HT_.out ?_
     refine tk2_ 5 35 (nb_ 19 63) HT_.out HW_.out hHeld ?_
     refine pz_ 6 36 (nb_ 19 127) HT_.out ?_
     refine pz_ 7 37 (nb_ 19 255) HT_.out ?_
     refine pz_ 8 38 (nb_ 19 511) HT_.out ?_
     refine tk2_ 9 39 (nb_ 19 1023) HT_.out HW_.out hHeld ?_
     refine pz_ 10 40 (nb_ 19 2047) HT_.out ?_
     refine pz_ 11 41 (nb_ 19 4095) HT_.out ?_
     refine pu_ 12 42 (nb_ 19 8191) HT_.out ?_
     refine pu_ 13 43 (nb_ 19 16383) HT_.out ?_
     refine pu_ 14 44 (nb_ 19 32767) HT_.out ?_
     refine pz_ 15 45 (nb_ 19 65535) HT_.out ?_
     refine pz_ 16 46 (nb_ 19 131071) HT_.out ?_
     refine one_ (i := 17) (N := none) (nb_ 19 262143) rfl rfl (one_of HT_.out (by kernel_rfl)) (by decide) (fun K hK => ?_)
     have hs43 : w42.cell? ⟨gb168, 0, none⟩ = some (.int .i64 0) := (blk_cell BK168.out 0).trans rfl
     have hfs43 := blk_frozen BK168.out 0
     have hns43_0 := NB167_168.out
     have hms43_0 := NB168_167.out
     have hs44 : w42.cell? ⟨gb168, 1, none⟩ = some (.int .u64 0) := (blk_cell BK168.out 1).trans rfl
     have hfs44 := blk_frozen BK168.out 1
     have hns44_0 := NB167_168.out
     have hms44_0 := NB168_167.out
     refine skip_ (w1 := ?_) (by rfl) rfl ?_ ?_
     rotate_left
     ·go_simp
      rfl
     refine hK.out _ _ ⟨((cell_far (p := ⟨gb168, _, none⟩) NB167_168.out _).trans (((cell_far (p := ⟨gb168, _, none⟩) NB167_168.out _).trans (hHeld.1)))), ((cell_far (p := ⟨gb168, _, none⟩) NB167_168.out _).trans (((cell_far (p := ⟨gb168, _, none⟩) NB167_168.out _).trans (hHeld.2))))⟩ (fun hHeld => ?_)
     clear hK K
     refine pz_ 18 5 (nb_ 19 524287) HT_.out ?_
     refine done_ (done_of HT_.out (by kernel_rfl)) ?_
     try go_wp2
     refine bodyPost_ret (results_ct rfl _ _ gb168 24 #[.int .i64 (wrap64 (Go.bits .xor .u64 IntKind.u64.max a1_0)), .int .u64 (IntKind.u64.wrap ((Go.bits .xor .u64 IntKind.u64.max a1_1) + 1))] (0, 0) _ rfl (qpp_ #[.int .i64 (wrap64 (Go.bits .xor .u64 IntKind.u64.max a1_0)), .int .u64 0] 1 #[.int .i64 0, .int .u64 0] 0 BK168.out) Tryd.underlying24 rfl (by kernel_rfl)) rfl ?_
     exact ⟨qe_, qb2_ GE167.out GE168.out HB.out⟩
 ·replace c3 := Bool.eq_false_iff.mpr c3
  subst c3
  have H1 : (some (wrap64 (a1_0), a1_1, decide (a1_0 < 9223372036854775808))) = some (r1, r2, r3) := by rw [if_neg (show ¬ (false = true) by decide)] at H; exact H
  clear H
  have H := H1
  clear H1
  simp only [Option.some.injEq, Prod.mk.injEq] at H
  obtain ⟨rfl, rfl, rfl⟩ := H
  go_enter Tryd.func49, Tryd.ntmps49
  try go_wp2_with (first | ((with_reducible refine gate_dst (N := 3) rfl ?_); refine be_ (N := 3) (cs := #[.int .u64 a1_0, .int .u64 a1_1]) (t := 54) ?_; intro gb167 hg w45 hbox hb; have n0_ := Aside0.mk (below_step (qb_ HB.out) hb); have n1_ := Aside0.mk (hbox); have n2_ := Aside0.mk (bz_ hg (qb_ HB.out) : w.heap.size ≤ gb167); have n3_ := n2_; clear HB; have HB := n0_; have BK167 := n1_; have GW167 := n2_; have GE167 := n3_; clear n0_ n1_ n2_ n3_; clear hb hbox hg) | ((with_reducible refine gate_dst (N := 4) rfl ?_); refine be_ (N := 4) (cs := #[.int .i64 0, .int .u64 0]) (t := 24) ?_; intro gb168 hg w46 hbox hb; have n0_ := Aside0.mk (blk_below (qk_ BK167.out) hb); have n1_ := Aside0.mk (below_step (qb1_ GE167.out HB.out) hb); have n2_ := Aside0.mk (hbox); have n3_ := Aside0.mk (bz_ hg (qb1_ GE167.out HB.out) : w.heap.size ≤ gb168); have n4_ := n3_; have n5_ := Aside0.mk (nl_ hg (qk_ BK167.out) : gb167 ≠ gb168); have n6_ := Aside0.mk (ng_ hg (qk_ BK167.out) : gb168 ≠ gb167); clear BK167; clear HB; have BK167 := n0_; have HB := n1_; have BK168 := n2_; have GW168 := n3_; have GE168 := n4_; have NB167_168 := n5_; have NB168_167 := n6_; clear n0_ n1_ n2_ n3_ n4_ n5_ n6_; clear hb hbox hg))
  have n0_ := Aside0.mk (blk_drew BK167.out)
  have n1_ := Aside0.mk (blk_drew BK168.out)
  have n2_ := Aside0.mk (below_drew1 HB.out)
  clear BK167
  clear BK168
  clear HB
  have BK167 := n0_
  have BK168 := n1_
  have HB := n2_
  clear n0_ n1_ n2_
  refine start_ (n := 11) (S := fun w' => w'.cell? ⟨gb167, 0, none⟩ = some (.int .u64 a1_0) ∧ w'.cell? ⟨gb167, 1, none⟩ = some (.int .u64 a1_1)) (ds := []) (nb_ 11 0) (by kernel_rfl) rfl rfl ⟨(blk_cell BK167.out 0).trans rfl, (blk_cell BK167.out 1).trans rfl⟩ (fun hHeld => ?_); refine with_tabW corebankref01_JoinP.tab2 corebankref01_JoinP.bits2 (fun HT_ HW_ => ?_)
  generalize w46.drew = w47 at BK167 BK168 HB hHeld ⊢
  refine pz_ 0 10 (nb_ 11 1) HT_.out ?_
  refine pz_ 3 13 (nb_ 11 9) HT_.out ?_
  refine pz_ 6 16 (nb_ 11 73) HT_.out ?_
  refine tk2_ 1 11 (nb_ 11 75) HT_.out HW_.out hHeld ?_
  refine pz_ 2 12 (nb_ 11 79) HT_.out ?_
  refine tk2_ 4 14 (nb_ 11 95) HT_.out HW_.out hHeld ?_
  refine pz_ 5 15 (nb_ 11 127) HT_.out ?_
  refine tk2_ 7 17 (nb_ 11 255) HT_.out HW_.out hHeld ?_
  refine pz_ 8 18 (nb_ 11 511) HT_.out ?_
  refine one_ (i := 9) (N := none) (nb_ 11 1023) rfl rfl (one_of HT_.out (by kernel_rfl)) (by decide) (fun K hK => ?_)
  have hs48 : w47.cell? ⟨gb168, 0, none⟩ = some (.int .i64 0) := (blk_cell BK168.out 0).trans rfl
  have hfs48 := blk_frozen BK168.out 0
  have hns48_0 := NB167_168.out
  have hms48_0 := NB168_167.out
  have hs49 : w47.cell? ⟨gb168, 1, none⟩ = some (.int .u64 0) := (blk_cell BK168.out 1).trans rfl
  have hfs49 := blk_frozen BK168.out 1
  have hns49_0 := NB167_168.out
  have hms49_0 := NB168_167.out
  refine skip_ (w1 := ?_) (by rfl) rfl ?_ ?_
  rotate_left
  ·go_simp
   rfl
  refine hK.out _ _ ⟨((cell_far (p := ⟨gb168, _, none⟩) NB167_168.out _).trans (((cell_far (p := ⟨gb168, _, none⟩) NB167_168.out _).trans (hHeld.1)))), ((cell_far (p := ⟨gb168, _, none⟩) NB167_168.out _).trans (((cell_far (p := ⟨gb168, _, none⟩) NB167_168.out _).trans (hHeld.2))))⟩ (fun hHeld => ?_)
  clear hK K
  refine pz_ 10 5 (nb_ 11 2047) HT_.out ?_
  refine done_ (done_of HT_.out (by kernel_rfl)) ?_
  try go_wp2
  refine bodyPost_ret (results_ct rfl _ _ gb168 24 #[.int .i64 (wrap64 (a1_0)), .int .u64 a1_1] (0, 0) _ rfl (qpp_ #[.int .i64 (wrap64 (a1_0)), .int .u64 0] 1 #[.int .i64 0, .int .u64 0] 0 BK168.out) Tryd.underlying24 rfl (by kernel_rfl)) rfl ?_
  exact ⟨qe_, qb2_ GE167.out GE168.out HB.out⟩
end Go.Proofs.YtkdhippoibjfkaaDoor.PR
end
