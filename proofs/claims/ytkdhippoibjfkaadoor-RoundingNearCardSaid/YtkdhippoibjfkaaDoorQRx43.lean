import Derived.Test.YtkdhippoibjfkaaDoorQRm2
import Derived.Test.YtkdhippoibjfkaaDoorQRm6
import Derived.Test.YtkdhippoibjfkaaDoorQRx32
import Derived.Test.YtkdhippoibjfkaaDoorQRx34
namespace Go.Proofs.YtkdhippoibjfkaaDoor.PR
open Go.RowKit Go.Proofs.YtkdhippoibjfkaaDoorW.PrintWords Go.Proofs.YtkdhippoibjfkaaDoorW.PrintLast
set_option linter.unusedVariables false
set_option linter.unusedSimpArgs false
attribute [local go_sem high] eqA24
mutual
def corebanklaw02_near.j0 : Nat → Int → Int → Int → Bool → Int → Int → Int → Int → Option (Bool)
 | 0, _, _, _, _, _, _, _, _ => none
 | k + 1, x1, x2, x4, x27, x549000, x549001, x550000, x550001 => if x27 = true then (some false) else ((corebankref01_Of.f 0).bind fun bt556 => ((corebankref01_Cmp.f x550000 x550001 bt556.1 bt556.2).bind fun t558 => ((corebankref01_Of.f 0).bind fun bt559 => ((corebankref01_Cmp.f x550000 x550001 bt559.1 bt559.2).bind fun t561 => (if x4 = 1 then (if t558 ≤ 0 then (if x549000 ≥ 0 then (some true) else (if t561 ≥ 0 then (some (decide (x549000 < 0))) else (some false))) else (if t561 ≥ 0 then (some (decide (x549000 < 0))) else (some false))) else (if x4 = 2 then (if t561 ≥ 0 then (if x549000 ≥ 0 then (some true) else (if t558 ≤ 0 then (some (decide (x549000 < 0))) else (some false))) else (if t558 ≤ 0 then (some (decide (x549000 < 0))) else (some false))) else (if x4 = 3 then (some (decide (t558 ≤ 0))) else (if x4 = 4 then (some (decide (t561 ≥ 0))) else ((corebankref01_Scale.f x550000 x550001 2).bind fun bt562 => ((corebankref01_Of.f x2).bind fun bt566 => ((corebankref01_Cmp.f bt562.1 bt562.2.1 bt566.1 bt566.2).bind fun t568 => (if t568 < 0 then ((corebankref01_Of.f (wrap64 (-x2))).bind fun bt569 => ((corebankref01_Cmp.f bt562.1 bt562.2.1 bt569.1 bt569.2).bind fun t571 => (corebanklaw02_near.j1 k x1 x2 x4 (decide (t558 ≤ 0)) (decide (t561 ≥ 0)) (decide (t571 > 0)) x549000 x549001 bt562.1 bt562.2.1))) else (corebanklaw02_near.j1 k x1 x2 x4 (decide (t558 ≤ 0)) (decide (t561 ≥ 0)) false x549000 x549001 bt562.1 bt562.2.1)))))))))))))
def corebanklaw02_near.j1 : Nat → Int → Int → Int → Bool → Bool → Bool → Int → Int → Int → Int → Option (Bool)
 | 0, _, _, _, _, _, _, _, _, _, _ => none
 | k + 1, x1, x2, x4, x11, x12, x92, x549000, x549001, x566000, x566001 => if x92 = true then (some true) else ((corebankref01_Of.f x2).bind fun bt572 => (if (x566000 == bt572.1 && (x566001 == bt572.2)) = true then (corebanklaw02_near.j2 k x1 x4 x11 x12 true x549000 x549001) else ((corebankref01_Of.f (wrap64 (-x2))).bind fun bt574 => (corebanklaw02_near.j2 k x1 x4 x11 x12 (x566000 == bt574.1 && (x566001 == bt574.2)) x549000 x549001))))
def corebanklaw02_near.j2 : Nat → Int → Int → Bool → Bool → Bool → Int → Int → Option (Bool)
 | 0, _, _, _, _, _, _, _ => none
 | k + 1, x1, x4, x11, x12, x103, x549000, x549001 => if x103 = true then (if x4 = 6 then (if (Int.tmod x1 2) = 0 then (some true) else (if x4 = 5 then (if x12 = true then (if x549000 ≥ 0 then (some true) else (if x11 = true then (some (decide (x549000 < 0))) else (some false))) else (if x11 = true then (some (decide (x549000 < 0))) else (some false))) else (some false))) else (if x4 = 5 then (if x12 = true then (if x549000 ≥ 0 then (some true) else (if x11 = true then (some (decide (x549000 < 0))) else (some false))) else (if x11 = true then (some (decide (x549000 < 0))) else (some false))) else (some false))) else (some false)
end
def corebanklaw02_near.f (k : Nat) (a0_0 : Int) (a0_1 : Int) (a1 : Int) (a2 : Int) (a3_0 : Int) (a3_1 : Int) (a4 : Int) : Option (Bool) := (corebankref01_Of.f a2).bind fun bt550 => ((corebankref01_Cmp.f a3_0 a3_1 bt550.1 bt550.2).bind fun t552 => (if t552 ≥ 0 then (corebanklaw02_near.j0 k a1 a2 a4 true a0_0 a0_1 a3_0 a3_1) else ((corebankref01_Of.f (wrap64 (-a2))).bind fun bt553 => ((corebankref01_Cmp.f a3_0 a3_1 bt553.1 bt553.2).bind fun t555 => (corebanklaw02_near.j0 k a1 a2 a4 (decide (t555 ≤ 0)) a0_0 a0_1 a3_0 a3_1)))))
theorem corebanklaw02_near.mono_l : ∀ k, (∀ y0 y1 y2 y3 y4 y5 y6 y7, LeO (corebanklaw02_near.j0 k y0 y1 y2 y3 y4 y5 y6 y7) (corebanklaw02_near.j0 (k + 1) y0 y1 y2 y3 y4 y5 y6 y7)) ∧ (∀ y0 y1 y2 y3 y4 y5 y6 y7 y8 y9, LeO (corebanklaw02_near.j1 k y0 y1 y2 y3 y4 y5 y6 y7 y8 y9) (corebanklaw02_near.j1 (k + 1) y0 y1 y2 y3 y4 y5 y6 y7 y8 y9)) ∧ (∀ y0 y1 y2 y3 y4 y5 y6, LeO (corebanklaw02_near.j2 k y0 y1 y2 y3 y4 y5 y6) (corebanklaw02_near.j2 (k + 1) y0 y1 y2 y3 y4 y5 y6))
 | 0 => ⟨fun _ _ _ _ _ _ _ _ r h => by simp [corebanklaw02_near.j0] at h, fun _ _ _ _ _ _ _ _ _ _ r h => by simp [corebanklaw02_near.j1] at h, fun _ _ _ _ _ _ _ r h => by simp [corebanklaw02_near.j2] at h⟩
 | k + 1 => by
  obtain ⟨ih0, ih1, ih2⟩ := corebanklaw02_near.mono_l k
  refine ⟨?_, ?_, ?_⟩
  ·intro y0 y1 y2 y3 y4 y5 y6 y7
   unfold corebanklaw02_near.j0
   repeat' first
   | (with_reducible exact ih0 _ _ _ _ _ _ _ _)
   | (with_reducible exact ih1 _ _ _ _ _ _ _ _ _ _)
   | (with_reducible exact ih2 _ _ _ _ _ _ _)
   | (with_reducible exact LeO.refl _)
   | (with_reducible exact LeO.none _)
   | (with_reducible refine LeO.ite ?_ ?_)
   | (with_reducible refine LeO.bind ?_ (fun _ => ?_))
   | exact ih0 _ _ _ _ _ _ _ _
   | exact ih1 _ _ _ _ _ _ _ _ _ _
   | exact ih2 _ _ _ _ _ _ _
   | exact LeO.none _
   | refine LeO.ite ?_ ?_
   | refine LeO.bind ?_ (fun _ => ?_)
  ·intro y0 y1 y2 y3 y4 y5 y6 y7 y8 y9
   unfold corebanklaw02_near.j1
   repeat' first
   | (with_reducible exact ih0 _ _ _ _ _ _ _ _)
   | (with_reducible exact ih1 _ _ _ _ _ _ _ _ _ _)
   | (with_reducible exact ih2 _ _ _ _ _ _ _)
   | (with_reducible exact LeO.refl _)
   | (with_reducible exact LeO.none _)
   | (with_reducible refine LeO.ite ?_ ?_)
   | (with_reducible refine LeO.bind ?_ (fun _ => ?_))
   | exact ih0 _ _ _ _ _ _ _ _
   | exact ih1 _ _ _ _ _ _ _ _ _ _
   | exact ih2 _ _ _ _ _ _ _
   | exact LeO.none _
   | refine LeO.ite ?_ ?_
   | refine LeO.bind ?_ (fun _ => ?_)
  ·intro y0 y1 y2 y3 y4 y5 y6
   unfold corebanklaw02_near.j2
   repeat' first
   | (with_reducible exact ih0 _ _ _ _ _ _ _ _)
   | (with_reducible exact ih1 _ _ _ _ _ _ _ _ _ _)
   | (with_reducible exact ih2 _ _ _ _ _ _ _)
   | (with_reducible exact LeO.refl _)
   | (with_reducible exact LeO.none _)
   | (with_reducible refine LeO.ite ?_ ?_)
   | (with_reducible refine LeO.bind ?_ (fun _ => ?_))
   | exact ih0 _ _ _ _ _ _ _ _
   | exact ih1 _ _ _ _ _ _ _ _ _ _
   | exact ih2 _ _ _ _ _ _ _
   | exact LeO.none _
   | refine LeO.ite ?_ ?_
   | refine LeO.bind ?_ (fun _ => ?_)
theorem corebanklaw02_near.mono : ∀ a0 a1 a2 a3 a4 a5 a6 k, LeO (corebanklaw02_near.f k a0 a1 a2 a3 a4 a5 a6) (corebanklaw02_near.f (k + 1) a0 a1 a2 a3 a4 a5 a6) := by
 intro a0 a1 a2 a3 a4 a5 a6 k
 obtain ⟨ih0, ih1, ih2⟩ := corebanklaw02_near.mono_l k
 unfold corebanklaw02_near.f
 repeat' first
   | (with_reducible exact ih0 _ _ _ _ _ _ _ _)
   | (with_reducible exact ih1 _ _ _ _ _ _ _ _ _ _)
   | (with_reducible exact ih2 _ _ _ _ _ _ _)
   | (with_reducible exact LeO.refl _)
   | (with_reducible exact LeO.none _)
   | (with_reducible refine LeO.ite ?_ ?_)
   | (with_reducible refine LeO.bind ?_ (fun _ => ?_))
   | exact ih0 _ _ _ _ _ _ _ _
   | exact ih1 _ _ _ _ _ _ _ _ _ _
   | exact ih2 _ _ _ _ _ _ _
   | exact LeO.none _
   | refine LeO.ite ?_ ?_
   | refine LeO.bind ?_ (fun _ => ?_)
def corebanklaw02_near.T1 : Bool × List (List Nat × List Nat) := (true, [([], []), ([], []), ([1], [1]), ([0, 2, 2], [0, 2]), ([3], [3]), ([4, 3], [4]), ([5], [5]), ([5], [5]), ([7, 5], [5, 7]), ([8, 5, 5], [5, 8]), ([6, 9, 9, 5], [5, 6, 9]), ([10, 5], [5, 10]), ([5, 11], [5, 11])])
def corebanklaw02_near.B1 : List Nat := [0, 0, 2, 7, 15, 31, 63, 63, 191, 447, 1023, 2047, 4095]
theorem corebanklaw02_near.tab1 : rtab .any (opsOf Tryd.f33 1) = corebanklaw02_near.T1 := by kernel_rfl
theorem corebanklaw02_near.bits1 : waitsOk corebanklaw02_near.T1.2 corebanklaw02_near.B1 = true := by kernel_rfl
def corebanklaw02_near.T3 : Bool × List (List Nat × List Nat) := (true, [([], []), ([], []), ([0, 1, 1], [0, 1]), ([2], [2]), ([], []), ([2], []), ([4, 5, 5], [4, 5]), ([6], [6]), ([3, 6, 0, 1, 2, 3], [3]), ([7, 8, 0, 1, 2, 3, 4, 5, 6, 7, 8], [7])])
def corebanklaw02_near.B3 : List Nat := [0, 0, 3, 7, 0, 7, 55, 119, 127, 511]
theorem corebanklaw02_near.tab3 : rtab .any (opsOf Tryd.f33 3) = corebanklaw02_near.T3 := by kernel_rfl
theorem corebanklaw02_near.bits3 : waitsOk corebanklaw02_near.T3.2 corebanklaw02_near.B3 = true := by kernel_rfl
def corebanklaw02_near.T14 : Bool × List (List Nat × List Nat) := (true, [([], []), ([], []), ([1], [1]), ([0, 2, 2], [0, 2]), ([3], [3]), ([4, 3], [4]), ([5], [5]), ([5], [5]), ([7, 5], [5, 7]), ([8, 5, 5], [5, 8]), ([6, 9, 9, 5], [5, 6, 9]), ([10, 5], [5, 10]), ([5, 11], [5, 11])])
def corebanklaw02_near.B14 : List Nat := [0, 0, 2, 7, 15, 31, 63, 63, 191, 447, 1023, 2047, 4095]
theorem corebanklaw02_near.tab14 : rtab .any (opsOf Tryd.f33 14) = corebanklaw02_near.T14 := by kernel_rfl
theorem corebanklaw02_near.bits14 : waitsOk corebanklaw02_near.T14.2 corebanklaw02_near.B14 = true := by kernel_rfl
def corebanklaw02_near.T16 : Bool × List (List Nat × List Nat) := (true, [([], []), ([], []), ([1], [1]), ([0, 2], [0, 2]), ([3, 2], [3]), ([4], [4]), ([4], [4]), ([6, 4], [4, 6]), ([7, 4, 4], [4, 7]), ([5, 8, 4], [4, 5, 8]), ([4, 9], [4, 9])])
def corebanklaw02_near.B16 : List Nat := [0, 0, 2, 7, 15, 31, 31, 95, 223, 511, 1023]
theorem corebanklaw02_near.tab16 : rtab .any (opsOf Tryd.f33 16) = corebanklaw02_near.T16 := by kernel_rfl
theorem corebanklaw02_near.bits16 : waitsOk corebanklaw02_near.T16.2 corebanklaw02_near.B16 = true := by kernel_rfl
set_option maxHeartbeats 8000000 in
set_option maxRecDepth 100000 in
theorem corebanklaw02_near.calls (k : Nat) (a0_0 : Int) (a0_1 : Int) (a1 : Int) (a2 : Int) (a3_0 : Int) (a3_1 : Int) (a4 : Int) (r : Bool) (w : World) (h : corebanklaw02_near.f k a0_0 a0_1 a1 a2 a3_0 a3_1 a4 = some r) :
  Calls Tryd.prog 33 #[.agg #[.int .i64 a0_0, .int .u64 a0_1], .int .i64 a1, .int .i64 a2, .agg #[.int .i64 a3_0, .int .u64 a3_1], .int .i64 a4] w fun e w' => e = .returned (.bool r) ∧ Below w.heap.size w w' := by
 have hu24 := Tryd.underlying24
 have HB := Aside0.mk (Below.refl w.heap.size w)
 have H : ((corebankref01_Of.f a2).bind fun bt550 => ((corebankref01_Cmp.f a3_0 a3_1 bt550.1 bt550.2).bind fun t552 => (if t552 ≥ 0 then (corebanklaw02_near.j0 k a1 a2 a4 true a0_0 a0_1 a3_0 a3_1) else ((corebankref01_Of.f (wrap64 (-a2))).bind fun bt553 => ((corebankref01_Cmp.f a3_0 a3_1 bt553.1 bt553.2).bind fun t555 => (corebanklaw02_near.j0 k a1 a2 a4 (decide (t555 ≤ 0)) a0_0 a0_1 a3_0 a3_1)))))) = some r := h
 clear h
 have HC6 := Aside0.mk H
 clear H
 go_enter Tryd.func33, Tryd.ntmps33
 go_upto_region 1 with (first | ((with_reducible refine gate_dst (N := 5) rfl ?_); refine be_ (N := 5) (cs := #[.int .i64 a0_0, .int .u64 a0_1]) (t := 24) ?_; intro gb548 hg w7 hbox hb; have n0_ := Aside0.mk (below_step (qb_ HB.out) hb); have n1_ := Aside0.mk (hbox); have n2_ := Aside0.mk (bz_ hg (qb_ HB.out) : w.heap.size ≤ gb548); have n3_ := n2_; clear HB; have HB := n0_; have BK548 := n1_; have GW548 := n2_; have GE548 := n3_; clear n0_ n1_ n2_ n3_; clear hb hbox hg) | ((with_reducible refine gate_dst (N := 8) rfl ?_); refine be_ (N := 8) (cs := #[.int .i64 a3_0, .int .u64 a3_1]) (t := 24) ?_; intro gb549 hg w8 hbox hb; have n0_ := Aside0.mk (blk_below (qk_ BK548.out) hb); have n1_ := Aside0.mk (below_step (qb1_ GE548.out HB.out) hb); have n2_ := Aside0.mk (hbox); have n3_ := Aside0.mk (bz_ hg (qb1_ GE548.out HB.out) : w.heap.size ≤ gb549); have n4_ := n3_; have n5_ := Aside0.mk (nl_ hg (qk_ BK548.out) : gb548 ≠ gb549); have n6_ := Aside0.mk (ng_ hg (qk_ BK548.out) : gb549 ≠ gb548); clear BK548; clear HB; have BK548 := n0_; have HB := n1_; have BK549 := n2_; have GW549 := n3_; have GE549 := n4_; have NB548_549 := n5_; have NB549_548 := n6_; clear n0_ n1_ n2_ n3_ n4_ n5_ n6_; clear hb hbox hg))
 (try simp only [Act.put, List.setIfInBounds_toArray, List.set_cons_zero, List.set_cons_succ])
 go_cut [27] (fun v27 wc => ∃ (kq : Nat) (x27_5 : Bool), v27 = .bool x27_5 ∧ Aside0 (corebanklaw02_near.j0 kq a1 a2 a4 x27_5 a0_0 a0_1 a3_0 a3_1 = some r) ∧ Aside0 (kq ≤ k) ∧ Aside0 (wc.heap[gb548]? = some (.cells #[.int .i64 a0_0, .int .u64 a0_1] 24 (0, 0))) ∧ Aside0 (wc.heap[gb549]? = some (.cells #[.int .i64 a3_0, .int .u64 a3_1] 24 (0, 0))) ∧ Aside0 (Below w.heap.size w wc))
 case first =>
  have H := HC6.out
  clear HC6
  replace H := Option.bind_eq_some_iff.mp H
  obtain ⟨⟨t550, t551⟩, A90, H⟩ := H
  replace H : ((corebankref01_Cmp.f a3_0 a3_1 t550 t551).bind fun t552 => (if t552 ≥ 0 then (corebanklaw02_near.j0 k a1 a2 a4 true a0_0 a0_1 a3_0 a3_1) else ((corebankref01_Of.f (wrap64 (-a2))).bind fun bt553 => ((corebankref01_Cmp.f a3_0 a3_1 bt553.1 bt553.2).bind fun t555 => (corebanklaw02_near.j0 k a1 a2 a4 (decide (t555 ≤ 0)) a0_0 a0_1 a3_0 a3_1))))) = some r := H
  have A9 := Aside0.mk A90
  clear A90
  replace H := Option.bind_eq_some_iff.mp H
  obtain ⟨t552, A100, H⟩ := H
  replace H : (if t552 ≥ 0 then (corebanklaw02_near.j0 k a1 a2 a4 true a0_0 a0_1 a3_0 a3_1) else ((corebankref01_Of.f (wrap64 (-a2))).bind fun bt553 => ((corebankref01_Cmp.f a3_0 a3_1 bt553.1 bt553.2).bind fun t555 => (corebanklaw02_near.j0 k a1 a2 a4 (decide (t555 ≤ 0)) a0_0 a0_1 a3_0 a3_1)))) = some r := H
  have A10 := Aside0.mk A100
  clear A100
  by_cases c11 : t552 ≥ 0
  ·rw [if_pos c11] at H
   have c11b0 : decide (0 ≤ t552) = true := decide_eq_true c11
   clear c11
   (first | rw [c11b0] | (simp only [i64_w, i32_w]; rw [c11b0]) | skip)
   have H' := Aside0.mk H
   clear H
   try go_wp2
   have n0_ := Aside0.mk (blk_drew BK548.out)
   have n1_ := Aside0.mk (blk_drew BK549.out)
   have n2_ := Aside0.mk (below_drew1 HB.out)
   clear BK548
   clear BK549
   clear HB
   have BK548 := n0_
   have BK549 := n1_
   have HB := n2_
   clear n0_ n1_ n2_
   refine start_ (n := 13) (S := fun w' => w'.cell? ⟨gb549, 0, none⟩ = some (.int .i64 a3_0) ∧ w'.cell? ⟨gb549, 1, none⟩ = some (.int .u64 a3_1)) (ds := []) (nb_ 13 0) (by kernel_rfl) rfl rfl ⟨(blk_cell BK549.out 0).trans rfl, (blk_cell BK549.out 1).trans rfl⟩ (fun hHeld => ?_); refine with_tabW corebanklaw02_near.tab1 corebanklaw02_near.bits1 (fun HT_ HW_ => ?_)
   generalize w8.drew = w12 at BK548 BK549 HB hHeld ⊢
   refine pz_ 1 16 (nb_ 13 2) HT_.out ?_
   refine tk2_ 0 15 (nb_ 13 3) HT_.out HW_.out hHeld ?_
   refine on_ 2 17 (nb_ 13 7) HT_.out (fun K hK => ?_)
   refine goes_ Tryd.func21 (by kernel_rfl) rfl #[.int .i64 a2] (by rfl) rfl rfl ql_ ?_
   with_reducible refine (corebankref01_Of.calls a2 t550 t551 _ A9.out).mono ?_
   rintro e w13 ⟨rfl, hb⟩
   refine ⟨_, rfl, ?_⟩
   have n0_ := Aside0.mk (blk_below (qk_ BK548.out) hb)
   have n1_ := Aside0.mk (blk_below (qk_ BK549.out) hb)
   have n2_ := Aside0.mk (below_step (qb2_ GE548.out GE549.out HB.out) hb)
   clear BK548
   clear BK549
   clear HB
   have BK548 := n0_
   have BK549 := n1_
   have HB := n2_
   clear n0_ n1_ n2_
   (try clear hb)
   (try clear hb2)
   (try clear hk)
   (try clear hi)
   refine hK.out _ _ ⟨(blk_cell BK549.out 0).trans rfl, (blk_cell BK549.out 1).trans rfl⟩ (fun hHeld => ?_)
   clear hK K
   refine no_ ?_
   refine on_ 3 18 (nb_ 13 15) HT_.out (fun K hK => ?_)
   refine goes_ Tryd.func20 (by kernel_rfl) rfl #[.agg #[.int .i64 a3_0, .int .u64 a3_1], .agg #[.int .i64 t550, .int .u64 t551]] (by rfl) rfl rfl ql_ ?_
   with_reducible refine (corebankref01_Cmp.calls a3_0 a3_1 t550 t551 t552 _ A10.out).mono ?_
   rintro e w14 ⟨rfl, hb⟩
   refine ⟨_, rfl, ?_⟩
   have n0_ := Aside0.mk (blk_below (qk_ BK548.out) hb)
   have n1_ := Aside0.mk (blk_below (qk_ BK549.out) hb)
   have n2_ := Aside0.mk (below_step (qb2_ GE548.out GE549.out HB.out) hb)
   clear BK548
   clear BK549
   clear HB
   have BK548 := n0_
   have BK549 := n1_
   have HB := n2_
   clear n0_ n1_ n2_
   (try clear hb)
   (try clear hb2)
   (try clear hk)
   (try clear hi)
   refine hK.out _ _ ⟨(blk_cell BK549.out 0).trans rfl, (blk_cell BK549.out 1).trans rfl⟩ (fun hHeld => ?_)
   clear hK K
   refine no_ ?_
   refine pz_ 4 19 (nb_ 13 31) HT_.out ?_
   refine pz_ 5 20 (nb_ 13 63) HT_.out ?_
   refine pu_ 6 21 (nb_ 13 127) HT_.out ?_
   refine pu_ 7 22 (nb_ 13 255) HT_.out ?_
   refine pu_ 8 23 (nb_ 13 511) HT_.out ?_
   refine pu_ 9 24 (nb_ 13 1023) HT_.out ?_
   refine pu_ 10 25 (nb_ 13 2047) HT_.out ?_
   refine pu_ 11 26 (nb_ 13 4095) HT_.out ?_
   refine pz_ 12 27 (nb_ 13 8191) HT_.out ?_
   refine done_ (done_of HT_.out (by kernel_rfl)) ?_
   try go_wp2
   go_meet
   case rel => exact ⟨_, (true), qs_, H', ⟨qo_⟩, ⟨qk_ BK548.out⟩, ⟨qk_ BK549.out⟩, ⟨qb2_ GE548.out GE549.out HB.out⟩⟩
  ·rw [if_neg c11] at H
   have c11b0 : decide (0 ≤ t552) = false := decide_eq_false c11
   clear c11
   (first | rw [c11b0] | (simp only [i64_w, i32_w]; rw [c11b0]) | skip)
   replace H := Option.bind_eq_some_iff.mp H
   obtain ⟨⟨t553, t554⟩, A150, H⟩ := H
   replace H : ((corebankref01_Cmp.f a3_0 a3_1 t553 t554).bind fun t555 => (corebanklaw02_near.j0 k a1 a2 a4 (decide (t555 ≤ 0)) a0_0 a0_1 a3_0 a3_1)) = some r := H
   have A15 := Aside0.mk A150
   clear A150
   replace H := Option.bind_eq_some_iff.mp H
   obtain ⟨t555, A160, H⟩ := H
   replace H : (corebanklaw02_near.j0 k a1 a2 a4 (decide (t555 ≤ 0)) a0_0 a0_1 a3_0 a3_1) = some r := H
   have A16 := Aside0.mk A160
   clear A160
   have H' := Aside0.mk H
   clear H
   try go_wp2
   have n0_ := Aside0.mk (blk_drew BK548.out)
   have n1_ := Aside0.mk (blk_drew BK549.out)
   have n2_ := Aside0.mk (below_drew1 HB.out)
   clear BK548
   clear BK549
   clear HB
   have BK548 := n0_
   have BK549 := n1_
   have HB := n2_
   clear n0_ n1_ n2_
   refine start_ (n := 13) (S := fun w' => w'.cell? ⟨gb549, 0, none⟩ = some (.int .i64 a3_0) ∧ w'.cell? ⟨gb549, 1, none⟩ = some (.int .u64 a3_1)) (ds := []) (nb_ 13 0) (by kernel_rfl) rfl rfl ⟨(blk_cell BK549.out 0).trans rfl, (blk_cell BK549.out 1).trans rfl⟩ (fun hHeld => ?_); refine with_tabW corebanklaw02_near.tab1 corebanklaw02_near.bits1 (fun HT_ HW_ => ?_)
   generalize w8.drew = w17 at BK548 BK549 HB hHeld ⊢
   refine pz_ 1 16 (nb_ 13 2) HT_.out ?_
   refine tk2_ 0 15 (nb_ 13 3) HT_.out HW_.out hHeld ?_
   refine on_ 2 17 (nb_ 13 7) HT_.out (fun K hK => ?_)
   refine goes_ Tryd.func21 (by kernel_rfl) rfl #[.int .i64 a2] (by rfl) rfl rfl ql_ ?_
   with_reducible refine (corebankref01_Of.calls a2 t550 t551 _ A9.out).mono ?_
   rintro e w18 ⟨rfl, hb⟩
   refine ⟨_, rfl, ?_⟩
   have n0_ := Aside0.mk (blk_below (qk_ BK548.out) hb)
   have n1_ := Aside0.mk (blk_below (qk_ BK549.out) hb)
   have n2_ := Aside0.mk (below_step (qb2_ GE548.out GE549.out HB.out) hb)
   clear BK548
   clear BK549
   clear HB
   have BK548 := n0_
   have BK549 := n1_
   have HB := n2_
   clear n0_ n1_ n2_
   (try clear hb)
   (try clear hb2)
   (try clear hk)
   (try clear hi)
   refine hK.out _ _ ⟨(blk_cell BK549.out 0).trans rfl, (blk_cell BK549.out 1).trans rfl⟩ (fun hHeld => ?_)
   clear hK K
   refine no_ ?_
   refine on_ 3 18 (nb_ 13 15) HT_.out (fun K hK => ?_)
   refine goes_ Tryd.func20 (by kernel_rfl) rfl #[.agg #[.int .i64 a3_0, .int .u64 a3_1], .agg #[.int .i64 t550, .int .u64 t551]] (by rfl) rfl rfl ql_ ?_
   with_reducible refine (corebankref01_Cmp.calls a3_0 a3_1 t550 t551 t552 _ A10.out).mono ?_
   rintro e w19 ⟨rfl, hb⟩
   refine ⟨_, rfl, ?_⟩
   have n0_ := Aside0.mk (blk_below (qk_ BK548.out) hb)
   have n1_ := Aside0.mk (blk_below (qk_ BK549.out) hb)
   have n2_ := Aside0.mk (below_step (qb2_ GE548.out GE549.out HB.out) hb)
   clear BK548
   clear BK549
   clear HB
   have BK548 := n0_
   have BK549 := n1_
   have HB := n2_
   clear n0_ n1_ n2_
   (try clear hb)
   (try clear hb2)
   (try clear hk)
   (try clear hi)
   refine hK.out _ _ ⟨(blk_cell BK549.out 0).trans rfl, (blk_cell BK549.out 1).trans rfl⟩ (fun hHeld => ?_)
   clear hK K
   refine no_ ?_
   refine pz_ 4 19 (nb_ 13 31) HT_.out ?_
   refine pz_ 5 20 (nb_ 13 63) HT_.out ?_
   refine pz_ 7 22 (nb_ 13 191) HT_.out ?_
   refine pz_ 8 23 (nb_ 13 447) HT_.out ?_
   refine tk2_ 6 21 (nb_ 13 511) HT_.out HW_.out hHeld ?_
   refine on_ 9 24 (nb_ 13 1023) HT_.out (fun K hK => ?_)
   refine goes_ Tryd.func21 (by kernel_rfl) rfl #[.int .i64 (wrap64 (-a2))] (by rfl) rfl rfl ql_ ?_
   with_reducible refine (corebankref01_Of.calls (wrap64 (-a2)) t553 t554 _ A15.out).mono ?_
   rintro e w20 ⟨rfl, hb⟩
   refine ⟨_, rfl, ?_⟩
   have n0_ := Aside0.mk (blk_below (qk_ BK548.out) hb)
   have n1_ := Aside0.mk (blk_below (qk_ BK549.out) hb)
   have n2_ := Aside0.mk (below_step (qb2_ GE548.out GE549.out HB.out) hb)
   clear BK548
   clear BK549
   clear HB
   have BK548 := n0_
   have BK549 := n1_
   have HB := n2_
   clear n0_ n1_ n2_
   (try clear hb)
   (try clear hb2)
   (try clear hk)
   (try clear hi)
   refine hK.out _ _ ⟨(blk_cell BK549.out 0).trans rfl, (blk_cell BK549.out 1).trans rfl⟩ (fun hHeld => ?_)
   clear hK K
   refine no_ ?_
   refine on_ 10 25 (nb_ 13 2047) HT_.out (fun K hK => ?_)
   refine goes_ Tryd.func20 (by kernel_rfl) rfl #[.agg #[.int .i64 a3_0, .int .u64 a3_1], .agg #[.int .i64 t553, .int .u64 t554]] (by rfl) rfl rfl ql_ ?_
   with_reducible refine (corebankref01_Cmp.calls a3_0 a3_1 t553 t554 t555 _ A16.out).mono ?_
   rintro e w21 ⟨rfl, hb⟩
   refine ⟨_, rfl, ?_⟩
   have n0_ := Aside0.mk (blk_below (qk_ BK548.out) hb)
   have n1_ := Aside0.mk (blk_below (qk_ BK549.out) hb)
   have n2_ := Aside0.mk (below_step (qb2_ GE548.out GE549.out HB.out) hb)
   clear BK548
   clear BK549
   clear HB
   have BK548 := n0_
   have BK549 := n1_
   have HB := n2_
   clear n0_ n1_ n2_
   (try clear hb)
   (try clear hb2)
   (try clear hk)
   (try clear hi)
   refine hK.out _ _ ⟨(blk_cell BK549.out 0).trans rfl, (blk_cell BK549.out 1).trans rfl⟩ (fun hHeld => ?_)
   clear hK K
   refine no_ ?_
   refine pz_ 11 26 (nb_ 13 4095) HT_.out ?_
   refine pz_ 12 27 (nb_ 13 8191) HT_.out ?_
   refine done_ (done_of HT_.out (by kernel_rfl)) ?_
   try go_wp2
   go_meet
   case rel => exact ⟨_, (decide (t555 ≤ 0)), qs_, H', ⟨qo_⟩, ⟨qk_ BK548.out⟩, ⟨qk_ BK549.out⟩, ⟨qb2_ GE548.out GE549.out HB.out⟩⟩
 case rest =>
  clear HC6
  try clear c1
  try clear c2
  try clear p2
  try clear c3
  try clear p6
  try clear c11
  try clear c11b0
  try clear c20
  try clear c21
  obtain ⟨kq, x27_5, rfl, HA, HJ5, BK548, BK549, HB⟩ := hcut
  cases kq with
  | zero => exact absurd HA.out (by simp [corebanklaw02_near.j0])
  | succ kj5 =>
   have H := HA.out
   clear HA
   simp only [corebanklaw02_near.j0] at H
   by_cases c22 : x27_5 = true
   ·subst c22
    have H1 : (some false) = some r := by rw [if_pos rfl] at H; exact H
    clear H
    have H := H1
    clear H1
    obtain rfl := Option.some.inj H
    go_wp2
    go_ret
    exact ⟨qe_, qb2_ GE548.out GE549.out HB.out⟩
   ·replace c22 := Bool.eq_false_iff.mpr c22
    subst c22
    have H1 : ((corebankref01_Of.f 0).bind fun bt556 => ((corebankref01_Cmp.f a3_0 a3_1 bt556.1 bt556.2).bind fun t558 => ((corebankref01_Of.f 0).bind fun bt559 => ((corebankref01_Cmp.f a3_0 a3_1 bt559.1 bt559.2).bind fun t561 => (if a4 = 1 then (if t558 ≤ 0 then (if a0_0 ≥ 0 then (some true) else (if t561 ≥ 0 then (some (decide (a0_0 < 0))) else (some false))) else (if t561 ≥ 0 then (some (decide (a0_0 < 0))) else (some false))) else (if a4 = 2 then (if t561 ≥ 0 then (if a0_0 ≥ 0 then (some true) else (if t558 ≤ 0 then (some (decide (a0_0 < 0))) else (some false))) else (if t558 ≤ 0 then (some (decide (a0_0 < 0))) else (some false))) else (if a4 = 3 then (some (decide (t558 ≤ 0))) else (if a4 = 4 then (some (decide (t561 ≥ 0))) else ((corebankref01_Scale.f a3_0 a3_1 2).bind fun bt562 => ((corebankref01_Of.f a2).bind fun bt566 => ((corebankref01_Cmp.f bt562.1 bt562.2.1 bt566.1 bt566.2).bind fun t568 => (if t568 < 0 then ((corebankref01_Of.f (wrap64 (-a2))).bind fun bt569 => ((corebankref01_Cmp.f bt562.1 bt562.2.1 bt569.1 bt569.2).bind fun t571 => (corebanklaw02_near.j1 kj5 a1 a2 a4 (decide (t558 ≤ 0)) (decide (t561 ≥ 0)) (decide (t571 > 0)) a0_0 a0_1 bt562.1 bt562.2.1))) else (corebanklaw02_near.j1 kj5 a1 a2 a4 (decide (t558 ≤ 0)) (decide (t561 ≥ 0)) false a0_0 a0_1 bt562.1 bt562.2.1))))))))))))) = some r := by rw [if_neg (show ¬ (false = true) by decide)] at H; exact H
    clear H
    have H := H1
    clear H1
    replace H := Option.bind_eq_some_iff.mp H
    obtain ⟨⟨t556, t557⟩, A230, H⟩ := H
    replace H : ((corebankref01_Cmp.f a3_0 a3_1 t556 t557).bind fun t558 => ((corebankref01_Of.f 0).bind fun bt559 => ((corebankref01_Cmp.f a3_0 a3_1 bt559.1 bt559.2).bind fun t561 => (if a4 = 1 then (if t558 ≤ 0 then (if a0_0 ≥ 0 then (some true) else (if t561 ≥ 0 then (some (decide (a0_0 < 0))) else (some false))) else (if t561 ≥ 0 then (some (decide (a0_0 < 0))) else (some false))) else (if a4 = 2 then (if t561 ≥ 0 then (if a0_0 ≥ 0 then (some true) else (if t558 ≤ 0 then (some (decide (a0_0 < 0))) else (some false))) else (if t558 ≤ 0 then (some (decide (a0_0 < 0))) else (some false))) else (if a4 = 3 then (some (decide (t558 ≤ 0))) else (if a4 = 4 then (some (decide (t561 ≥ 0))) else ((corebankref01_Scale.f a3_0 a3_1 2).bind fun bt562 => ((corebankref01_Of.f a2).bind fun bt566 => ((corebankref01_Cmp.f bt562.1 bt562.2.1 bt566.1 bt566.2).bind fun t568 => (if t568 < 0 then ((corebankref01_Of.f (wrap64 (-a2))).bind fun bt569 => ((corebankref01_Cmp.f bt562.1 bt562.2.1 bt569.1 bt569.2).bind fun t571 => (corebanklaw02_near.j1 kj5 a1 a2 a4 (decide (t558 ≤ 0)) (decide (t561 ≥ 0)) (decide (t571 > 0)) a0_0 a0_1 bt562.1 bt562.2.1))) else (corebanklaw02_near.j1 kj5 a1 a2 a4 (decide (t558 ≤ 0)) (decide (t561 ≥ 0)) false a0_0 a0_1 bt562.1 bt562.2.1)))))))))))) = some r := H
    have A23 := Aside0.mk A230
    clear A230
    replace H := Option.bind_eq_some_iff.mp H
    obtain ⟨t558, A240, H⟩ := H
    replace H : ((corebankref01_Of.f 0).bind fun bt559 => ((corebankref01_Cmp.f a3_0 a3_1 bt559.1 bt559.2).bind fun t561 => (if a4 = 1 then (if t558 ≤ 0 then (if a0_0 ≥ 0 then (some true) else (if t561 ≥ 0 then (some (decide (a0_0 < 0))) else (some false))) else (if t561 ≥ 0 then (some (decide (a0_0 < 0))) else (some false))) else (if a4 = 2 then (if t561 ≥ 0 then (if a0_0 ≥ 0 then (some true) else (if t558 ≤ 0 then (some (decide (a0_0 < 0))) else (some false))) else (if t558 ≤ 0 then (some (decide (a0_0 < 0))) else (some false))) else (if a4 = 3 then (some (decide (t558 ≤ 0))) else (if a4 = 4 then (some (decide (t561 ≥ 0))) else ((corebankref01_Scale.f a3_0 a3_1 2).bind fun bt562 => ((corebankref01_Of.f a2).bind fun bt566 => ((corebankref01_Cmp.f bt562.1 bt562.2.1 bt566.1 bt566.2).bind fun t568 => (if t568 < 0 then ((corebankref01_Of.f (wrap64 (-a2))).bind fun bt569 => ((corebankref01_Cmp.f bt562.1 bt562.2.1 bt569.1 bt569.2).bind fun t571 => (corebanklaw02_near.j1 kj5 a1 a2 a4 (decide (t558 ≤ 0)) (decide (t561 ≥ 0)) (decide (t571 > 0)) a0_0 a0_1 bt562.1 bt562.2.1))) else (corebanklaw02_near.j1 kj5 a1 a2 a4 (decide (t558 ≤ 0)) (decide (t561 ≥ 0)) false a0_0 a0_1 bt562.1 bt562.2.1))))))))))) = some r := H
    have A24 := Aside0.mk A240
    clear A240
    replace H := Option.bind_eq_some_iff.mp H
    obtain ⟨⟨t559, t560⟩, A250, H⟩ := H
    replace H : ((corebankref01_Cmp.f a3_0 a3_1 t559 t560).bind fun t561 => (if a4 = 1 then (if t558 ≤ 0 then (if a0_0 ≥ 0 then (some true) else (if t561 ≥ 0 then (some (decide (a0_0 < 0))) else (some false))) else (if t561 ≥ 0 then (some (decide (a0_0 < 0))) else (some false))) else (if a4 = 2 then (if t561 ≥ 0 then (if a0_0 ≥ 0 then (some true) else (if t558 ≤ 0 then (some (decide (a0_0 < 0))) else (some false))) else (if t558 ≤ 0 then (some (decide (a0_0 < 0))) else (some false))) else (if a4 = 3 then (some (decide (t558 ≤ 0))) else (if a4 = 4 then (some (decide (t561 ≥ 0))) else ((corebankref01_Scale.f a3_0 a3_1 2).bind fun bt562 => ((corebankref01_Of.f a2).bind fun bt566 => ((corebankref01_Cmp.f bt562.1 bt562.2.1 bt566.1 bt566.2).bind fun t568 => (if t568 < 0 then ((corebankref01_Of.f (wrap64 (-a2))).bind fun bt569 => ((corebankref01_Cmp.f bt562.1 bt562.2.1 bt569.1 bt569.2).bind fun t571 => (corebanklaw02_near.j1 kj5 a1 a2 a4 (decide (t558 ≤ 0)) (decide (t561 ≥ 0)) (decide (t571 > 0)) a0_0 a0_1 bt562.1 bt562.2.1))) else (corebanklaw02_near.j1 kj5 a1 a2 a4 (decide (t558 ≤ 0)) (decide (t561 ≥ 0)) false a0_0 a0_1 bt562.1 bt562.2.1)))))))))) = some r := H
    have A25 := Aside0.mk A250
    clear A250
    replace H := Option.bind_eq_some_iff.mp H
    obtain ⟨t561, A260, H⟩ := H
    replace H : (if a4 = 1 then (if t558 ≤ 0 then (if a0_0 ≥ 0 then (some true) else (if t561 ≥ 0 then (some (decide (a0_0 < 0))) else (some false))) else (if t561 ≥ 0 then (some (decide (a0_0 < 0))) else (some false))) else (if a4 = 2 then (if t561 ≥ 0 then (if a0_0 ≥ 0 then (some true) else (if t558 ≤ 0 then (some (decide (a0_0 < 0))) else (some false))) else (if t558 ≤ 0 then (some (decide (a0_0 < 0))) else (some false))) else (if a4 = 3 then (some (decide (t558 ≤ 0))) else (if a4 = 4 then (some (decide (t561 ≥ 0))) else ((corebankref01_Scale.f a3_0 a3_1 2).bind fun bt562 => ((corebankref01_Of.f a2).bind fun bt566 => ((corebankref01_Cmp.f bt562.1 bt562.2.1 bt566.1 bt566.2).bind fun t568 => (if t568 < 0 then ((corebankref01_Of.f (wrap64 (-a2))).bind fun bt569 => ((corebankref01_Cmp.f bt562.1 bt562.2.1 bt569.1 bt569.2).bind fun t571 => (corebanklaw02_near.j1 kj5 a1 a2 a4 (decide (t558 ≤ 0)) (decide (t561 ≥ 0)) (decide (t571 > 0)) a0_0 a0_1 bt562.1 bt562.2.1))) else (corebanklaw02_near.j1 kj5 a1 a2 a4 (decide (t558 ≤ 0)) (decide (t561 ≥ 0)) false a0_0 a0_1 bt562.1 bt562.2.1))))))))) = some r := H
    have A26 := Aside0.mk A260
    clear A260
    by_cases c27 : a4 = 1
    ·rw [if_pos c27] at H
     have c27b0 : (a4 == 1) = true := beq_iff_eq.mpr c27
     have c27b1 : (a4 != 1) = false := bne_eq_false_iff_eq.mpr c27
     clear c27
     by_cases c28 : t558 ≤ 0
     ·rw [if_pos c28] at H
      have c28b0 : decide (t558 ≤ 0) = true := decide_eq_true c28
      clear c28
      by_cases c29 : a0_0 ≥ 0
      ·rw [if_pos c29] at H
       have c29b0 : decide (0 ≤ a0_0) = true := decide_eq_true c29
       clear c29
       obtain rfl := Option.some.inj H
       try go_wp2
       have n0_ := Aside0.mk (blk_drew BK548.out)
       have n1_ := Aside0.mk (blk_drew BK549.out)
       have n2_ := Aside0.mk (below_drew1 HB.out)
       clear BK548
       clear BK549
       clear HB
       have BK548 := n0_
       have BK549 := n1_
       have HB := n2_
       clear n0_ n1_ n2_
       refine start_ (n := 10) (S := fun w' => w'.cell? ⟨gb549, 0, none⟩ = some (.int .i64 a3_0) ∧ w'.cell? ⟨gb549, 1, none⟩ = some (.int .u64 a3_1)) (ds := []) (nb_ 10 0) (by kernel_rfl) rfl rfl ⟨(blk_cell BK549.out 0).trans rfl, (blk_cell BK549.out 1).trans rfl⟩ (fun hHeld => ?_); refine with_tabW corebanklaw02_near.tab3 corebanklaw02_near.bits3 (fun HT_ HW_ => ?_)
       generalize wc.drew = w30 at BK548 BK549 HB hHeld ⊢
       refine tk2_ 0 28 (nb_ 10 1) HT_.out HW_.out hHeld ?_
       refine tk2_ 4 32 (nb_ 10 17) HT_.out HW_.out hHeld ?_
       refine on_ 1 29 (nb_ 10 19) HT_.out (fun K hK => ?_)
       refine goes_ Tryd.func21 (by kernel_rfl) rfl #[.int .i64 0] (by rfl) rfl rfl ql_ ?_
       with_reducible refine (corebankref01_Of.calls 0 t556 t557 _ A23.out).mono ?_
       rintro e w31 ⟨rfl, hb⟩
       refine ⟨_, rfl, ?_⟩
       have n0_ := Aside0.mk (blk_below (qk_ BK548.out) hb)
       have n1_ := Aside0.mk (blk_below (qk_ BK549.out) hb)
       have n2_ := Aside0.mk (below_step (qb2_ GE548.out GE549.out HB.out) hb)
       clear BK548
       clear BK549
       clear HB
       have BK548 := n0_
       have BK549 := n1_
       have HB := n2_
       clear n0_ n1_ n2_
       (try clear hb)
       (try clear hb2)
       (try clear hk)
       (try clear hi)
       refine hK.out _ _ ⟨(blk_cell BK549.out 0).trans rfl, (blk_cell BK549.out 1).trans rfl⟩ (fun hHeld => ?_)
       clear hK K
       refine no_ ?_
       refine on_ 2 30 (nb_ 10 23) HT_.out (fun K hK => ?_)
       refine goes_ Tryd.func20 (by kernel_rfl) rfl #[.agg #[.int .i64 a3_0, .int .u64 a3_1], .agg #[.int .i64 t556, .int .u64 t557]] (by rfl) rfl rfl ql_ ?_
       with_reducible refine (corebankref01_Cmp.calls a3_0 a3_1 t556 t557 t558 _ A24.out).mono ?_
       rintro e w32 ⟨rfl, hb⟩
       refine ⟨_, rfl, ?_⟩
       have n0_ := Aside0.mk (blk_below (qk_ BK548.out) hb)
       have n1_ := Aside0.mk (blk_below (qk_ BK549.out) hb)
       have n2_ := Aside0.mk (below_step (qb2_ GE548.out GE549.out HB.out) hb)
       clear BK548
       clear BK549
       clear HB
       have BK548 := n0_
       have BK549 := n1_
       have HB := n2_
       clear n0_ n1_ n2_
       (try clear hb)
       (try clear hb2)
       (try clear hk)
       (try clear hi)
       refine hK.out _ _ ⟨(blk_cell BK549.out 0).trans rfl, (blk_cell BK549.out 1).trans rfl⟩ (fun hHeld => ?_)
       clear hK K
       refine no_ ?_
       refine pz_ 3 31 (nb_ 10 31) HT_.out ?_
       refine on_ 5 33 (nb_ 10 63) HT_.out (fun K hK => ?_)
       refine goes_ Tryd.func21 (by kernel_rfl) rfl #[.int .i64 0] (by rfl) rfl rfl ql_ ?_
       with_reducible refine (corebankref01_Of.calls 0 t559 t560 _ A25.out).mono ?_
       rintro e w33 ⟨rfl, hb⟩
       refine ⟨_, rfl, ?_⟩
       have n0_ := Aside0.mk (blk_below (qk_ BK548.out) hb)
       have n1_ := Aside0.mk (blk_below (qk_ BK549.out) hb)
       have n2_ := Aside0.mk (below_step (qb2_ GE548.out GE549.out HB.out) hb)
       clear BK548
       clear BK549
       clear HB
       have BK548 := n0_
       have BK549 := n1_
       have HB := n2_
       clear n0_ n1_ n2_
       (try clear hb)
       (try clear hb2)
       (try clear hk)
       (try clear hi)
       refine hK.out _ _ ⟨(blk_cell BK549.out 0).trans rfl, (blk_cell BK549.out 1).trans rfl⟩ (fun hHeld => ?_)
       clear hK K
       refine no_ ?_
       refine on_ 6 34 (nb_ 10 127) HT_.out (fun K hK => ?_)
       refine goes_ Tryd.func20 (by kernel_rfl) rfl #[.agg #[.int .i64 a3_0, .int .u64 a3_1], .agg #[.int .i64 t559, .int .u64 t560]] (by rfl) rfl rfl ql_ ?_
       with_reducible refine (corebankref01_Cmp.calls a3_0 a3_1 t559 t560 t561 _ A26.out).mono ?_
       rintro e w34 ⟨rfl, hb⟩
       refine ⟨_, rfl, ?_⟩
       have n0_ := Aside0.mk (blk_below (qk_ BK548.out) hb)
       have n1_ := Aside0.mk (blk_below (qk_ BK549.out) hb)
       have n2_ := Aside0.mk (below_step (qb2_ GE548.out GE549.out HB.out) hb)
       clear BK548
       clear BK549
       clear HB
       have BK548 := n0_
       have BK549 := n1_
       have HB := n2_
       clear n0_ n1_ n2_
       (try clear hb)
       (try clear hb2)
       (try clear hk)
       (try clear hi)
       refine hK.out _ _ ⟨(blk_cell BK549.out 0).trans rfl, (blk_cell BK549.out 1).trans rfl⟩ (fun hHeld => ?_)
       clear hK K
       refine no_ ?_
       refine pz_ 7 35 (nb_ 10 255) HT_.out ?_
       refine pz_ 8 11 (nb_ 10 511) HT_.out ?_
       refine pz_ 9 12 (nb_ 10 1023) HT_.out ?_
       refine done_ (done_of HT_.out (by kernel_rfl)) ?_
       have hnb35 := NB548_549.out
       have hnc35 := NB549_548.out
       have hcz36_0 : w34.cell? ⟨gb548, 0, none⟩ = some (.int .i64 a0_0) := (blk_cell BK548.out 0).trans rfl
       have hcz36_1 : w34.cell? ⟨gb548, 1, none⟩ = some (.int .u64 a0_1) := (blk_cell BK548.out 1).trans rfl
       have hfz36_0 := blk_frozen BK548.out 0
       have hfz36_1 := blk_frozen BK548.out 1
       try go_wp2
       go_ret
       exact ⟨qe_, qb2_ GE548.out GE549.out HB.out⟩
      ·rw [if_neg c29] at H
       have c29b0 : decide (0 ≤ a0_0) = false := decide_eq_false c29
       clear c29
       by_cases c37 : t561 ≥ 0
       ·rw [if_pos c37] at H
        have c37b0 : decide (0 ≤ t561) = true := decide_eq_true c37
        clear c37
        obtain rfl := Option.some.inj H
        try go_wp2
        have n0_ := Aside0.mk (blk_drew BK548.out)
        have n1_ := Aside0.mk (blk_drew BK549.out)
        have n2_ := Aside0.mk (below_drew1 HB.out)
        clear BK548
        clear BK549
        clear HB
        have BK548 := n0_
        have BK549 := n1_
        have HB := n2_
        clear n0_ n1_ n2_
        refine start_ (n := 10) (S := fun w' => w'.cell? ⟨gb549, 0, none⟩ = some (.int .i64 a3_0) ∧ w'.cell? ⟨gb549, 1, none⟩ = some (.int .u64 a3_1)) (ds := []) (nb_ 10 0) (by kernel_rfl) rfl rfl ⟨(blk_cell BK549.out 0).trans rfl, (blk_cell BK549.out 1).trans rfl⟩ (fun hHeld => ?_); refine with_tabW corebanklaw02_near.tab3 corebanklaw02_near.bits3 (fun HT_ HW_ => ?_)
        generalize wc.drew = w38 at BK548 BK549 HB hHeld ⊢
        refine tk2_ 0 28 (nb_ 10 1) HT_.out HW_.out hHeld ?_
        refine tk2_ 4 32 (nb_ 10 17) HT_.out HW_.out hHeld ?_
        refine on_ 1 29 (nb_ 10 19) HT_.out (fun K hK => ?_)
        refine goes_ Tryd.func21 (by kernel_rfl) rfl #[.int .i64 0] (by rfl) rfl rfl ql_ ?_
        with_reducible refine (corebankref01_Of.calls 0 t556 t557 _ A23.out).mono ?_
        rintro e w39 ⟨rfl, hb⟩
        refine ⟨_, rfl, ?_⟩
        have n0_ := Aside0.mk (blk_below (qk_ BK548.out) hb)
        have n1_ := Aside0.mk (blk_below (qk_ BK549.out) hb)
        have n2_ := Aside0.mk (below_step (qb2_ GE548.out GE549.out HB.out) hb)
        clear BK548
        clear BK549
        clear HB
        have BK548 := n0_
        have BK549 := n1_
        have HB := n2_
        clear n0_ n1_ n2_
        (try clear hb)
        (try clear hb2)
        (try clear hk)
        (try clear hi)
        refine hK.out _ _ ⟨(blk_cell BK549.out 0).trans rfl, (blk_cell BK549.out 1).trans rfl⟩ (fun hHeld => ?_)
        clear hK K
        refine no_ ?_
        refine on_ 2 30 (nb_ 10 23) HT_.out (fun K hK => ?_)
        refine goes_ Tryd.func20 (by kernel_rfl) rfl #[.agg #[.int .i64 a3_0, .int .u64 a3_1], .agg #[.int .i64 t556, .int .u64 t557]] (by rfl) rfl rfl ql_ ?_
        with_reducible refine (corebankref01_Cmp.calls a3_0 a3_1 t556 t557 t558 _ A24.out).mono ?_
        rintro e w40 ⟨rfl, hb⟩
        refine ⟨_, rfl, ?_⟩
        have n0_ := Aside0.mk (blk_below (qk_ BK548.out) hb)
        have n1_ := Aside0.mk (blk_below (qk_ BK549.out) hb)
        have n2_ := Aside0.mk (below_step (qb2_ GE548.out GE549.out HB.out) hb)
        clear BK548
        clear BK549
        clear HB
        have BK548 := n0_
        have BK549 := n1_
        have HB := n2_
        clear n0_ n1_ n2_
        (try clear hb)
        (try clear hb2)
        (try clear hk)
        (try clear hi)
        refine hK.out _ _ ⟨(blk_cell BK549.out 0).trans rfl, (blk_cell BK549.out 1).trans rfl⟩ (fun hHeld => ?_)
        clear hK K
        refine no_ ?_
        refine pz_ 3 31 (nb_ 10 31) HT_.out ?_
        refine on_ 5 33 (nb_ 10 63) HT_.out (fun K hK => ?_)
        refine goes_ Tryd.func21 (by kernel_rfl) rfl #[.int .i64 0] (by rfl) rfl rfl ql_ ?_
        with_reducible refine (corebankref01_Of.calls 0 t559 t560 _ A25.out).mono ?_
        rintro e w41 ⟨rfl, hb⟩
        refine ⟨_, rfl, ?_⟩
        have n0_ := Aside0.mk (blk_below (qk_ BK548.out) hb)
        have n1_ := Aside0.mk (blk_below (qk_ BK549.out) hb)
        have n2_ := Aside0.mk (below_step (qb2_ GE548.out GE549.out HB.out) hb)
        clear BK548
        clear BK549
        clear HB
        have BK548 := n0_
        have BK549 := n1_
        have HB := n2_
        clear n0_ n1_ n2_
        (try clear hb)
        (try clear hb2)
        (try clear hk)
        (try clear hi)
        refine hK.out _ _ ⟨(blk_cell BK549.out 0).trans rfl, (blk_cell BK549.out 1).trans rfl⟩ (fun hHeld => ?_)
        clear hK K
        refine no_ ?_
        refine on_ 6 34 (nb_ 10 127) HT_.out (fun K hK => ?_)
        refine goes_ Tryd.func20 (by kernel_rfl) rfl #[.agg #[.int .i64 a3_0, .int .u64 a3_1], .agg #[.int .i64 t559, .int .u64 t560]] (by rfl) rfl rfl ql_ ?_
        with_reducible refine (corebankref01_Cmp.calls a3_0 a3_1 t559 t560 t561 _ A26.out).mono ?_
        rintro e w42 ⟨rfl, hb⟩
        refine ⟨_, rfl, ?_⟩
        have n0_ := Aside0.mk (blk_below (qk_ BK548.out) hb)
        have n1_ := Aside0.mk (blk_below (qk_ BK549.out) hb)
        have n2_ := Aside0.mk (below_step (qb2_ GE548.out GE549.out HB.out) hb)
        clear BK548
        clear BK549
        clear HB
        have BK548 := n0_
        have BK549 := n1_
        have HB := n2_
        clear n0_ n1_ n2_
        (try clear hb)
        (try clear hb2)
        (try clear hk)
        (try clear hi)
        refine hK.out _ _ ⟨(blk_cell BK549.out 0).trans rfl, (blk_cell BK549.out 1).trans rfl⟩ (fun hHeld => ?_)
        clear hK K
        refine no_ ?_
        refine pz_ 7 35 (nb_ 10 255) HT_.out ?_
        refine pz_ 8 11 (nb_ 10 511) HT_.out ?_
        refine pz_ 9 12 (nb_ 10 1023) HT_.out ?_
        refine done_ (done_of HT_.out (by kernel_rfl)) ?_
        have hnb43 := NB548_549.out
        have hnc43 := NB549_548.out
        have hcz44_0 : w42.cell? ⟨gb548, 0, none⟩ = some (.int .i64 a0_0) := (blk_cell BK548.out 0).trans rfl
        have hcz44_1 : w42.cell? ⟨gb548, 1, none⟩ = some (.int .u64 a0_1) := (blk_cell BK548.out 1).trans rfl
        have hfz44_0 := blk_frozen BK548.out 0
        have hfz44_1 := blk_frozen BK548.out 1
        try go_wp2
        go_ret
        exact ⟨qe_, qb2_ GE548.out GE549.out HB.out⟩
       ·rw [if_neg c37] at H
        have c37b0 : decide (0 ≤ t561) = false := decide_eq_false c37
        clear c37
        obtain rfl := Option.some.inj H
        try go_wp2
        have n0_ := Aside0.mk (blk_drew BK548.out)
        have n1_ := Aside0.mk (blk_drew BK549.out)
        have n2_ := Aside0.mk (below_drew1 HB.out)
        clear BK548
        clear BK549
        clear HB
        have BK548 := n0_
        have BK549 := n1_
        have HB := n2_
        clear n0_ n1_ n2_
        refine start_ (n := 10) (S := fun w' => w'.cell? ⟨gb549, 0, none⟩ = some (.int .i64 a3_0) ∧ w'.cell? ⟨gb549, 1, none⟩ = some (.int .u64 a3_1)) (ds := []) (nb_ 10 0) (by kernel_rfl) rfl rfl ⟨(blk_cell BK549.out 0).trans rfl, (blk_cell BK549.out 1).trans rfl⟩ (fun hHeld => ?_); refine with_tabW corebanklaw02_near.tab3 corebanklaw02_near.bits3 (fun HT_ HW_ => ?_)
        generalize wc.drew = w45 at BK548 BK549 HB hHeld ⊢
        refine tk2_ 0 28 (nb_ 10 1) HT_.out HW_.out hHeld ?_
        refine tk2_ 4 32 (nb_ 10 17) HT_.out HW_.out hHeld ?_
        refine on_ 1 29 (nb_ 10 19) HT_.out (fun K hK => ?_)
        refine goes_ Tryd.func21 (by kernel_rfl) rfl #[.int .i64 0] (by rfl) rfl rfl ql_ ?_
        with_reducible refine (corebankref01_Of.calls 0 t556 t557 _ A23.out).mono ?_
        rintro e w46 ⟨rfl, hb⟩
        refine ⟨_, rfl, ?_⟩
        have n0_ := Aside0.mk (blk_below (qk_ BK548.out) hb)
        have n1_ := Aside0.mk (blk_below (qk_ BK549.out) hb)
        have n2_ := Aside0.mk (below_step (qb2_ GE548.out GE549.out HB.out) hb)
        clear BK548
        clear BK549
        clear HB
        have BK548 := n0_
        have BK549 := n1_
        have HB := n2_
        clear n0_ n1_ n2_
        (try clear hb)
        (try clear hb2)
        (try clear hk)
        (try clear hi)
        refine hK.out _ _ ⟨(blk_cell BK549.out 0).trans rfl, (blk_cell BK549.out 1).trans rfl⟩ (fun hHeld => ?_)
        clear hK K
        refine no_ ?_
        refine on_ 2 30 (nb_ 10 23) HT_.out (fun K hK => ?_)
        refine goes_ Tryd.func20 (by kernel_rfl) rfl #[.agg #[.int .i64 a3_0, .int .u64 a3_1], .agg #[.int .i64 t556, .int .u64 t557]] (by rfl) rfl rfl ql_ ?_
        with_reducible refine (corebankref01_Cmp.calls a3_0 a3_1 t556 t557 t558 _ A24.out).mono ?_
        rintro e w47 ⟨rfl, hb⟩
        refine ⟨_, rfl, ?_⟩
        have n0_ := Aside0.mk (blk_below (qk_ BK548.out) hb)
        have n1_ := Aside0.mk (blk_below (qk_ BK549.out) hb)
        have n2_ := Aside0.mk (below_step (qb2_ GE548.out GE549.out HB.out) hb)
        clear BK548
        clear BK549
        clear HB
        have BK548 := n0_
        have BK549 := n1_
        have HB := n2_
        clear n0_ n1_ n2_
        (try clear hb)
        (try clear hb2)
        (try clear hk)
        (try clear hi)
        refine hK.out _ _ ⟨(blk_cell BK549.out 0).trans rfl, (blk_cell BK549.out 1).trans rfl⟩ (fun hHeld => ?_)
        clear hK K
        refine no_ ?_
        refine pz_ 3 31 (nb_ 10 31) HT_.out ?_
        refine on_ 5 33 (nb_ 10 63) HT_.out (fun K hK => ?_)
        refine goes_ Tryd.func21 (by kernel_rfl) rfl #[.int .i64 0] (by rfl) rfl rfl ql_ ?_
        with_reducible refine (corebankref01_Of.calls 0 t559 t560 _ A25.out).mono ?_
        rintro e w48 ⟨rfl, hb⟩
        refine ⟨_, rfl, ?_⟩
        have n0_ := Aside0.mk (blk_below (qk_ BK548.out) hb)
        have n1_ := Aside0.mk (blk_below (qk_ BK549.out) hb)
        have n2_ := Aside0.mk (below_step (qb2_ GE548.out GE549.out HB.out) hb)
        clear BK548
        clear BK549
        clear HB
        have BK548 := n0_
        have BK549 := n1_
        have HB := n2_
        clear n0_ n1_ n2_
        (try clear hb)
        (try clear hb2)
        (try clear hk)
        (try clear hi)
        refine hK.out _ _ ⟨(blk_cell BK549.out 0).trans rfl, (blk_cell BK549.out 1).trans rfl⟩ (fun hHeld => ?_)
        clear hK K
        refine no_ ?_
        refine on_ 6 34 (nb_ 10 127) HT_.out (fun K hK => ?_)
        refine goes_ Tryd.func20 (by kernel_rfl) rfl #[.agg #[.int .i64 a3_0, .int .u64 a3_1], .agg #[.int .i64 t559, .int .u64 t560]] (by rfl) rfl rfl ql_ ?_
        with_reducible refine (corebankref01_Cmp.calls a3_0 a3_1 t559 t560 t561 _ A26.out).mono ?_
        rintro e w49 ⟨rfl, hb⟩
        refine ⟨_, rfl, ?_⟩
        have n0_ := Aside0.mk (blk_below (qk_ BK548.out) hb)
        have n1_ := Aside0.mk (blk_below (qk_ BK549.out) hb)
        have n2_ := Aside0.mk (below_step (qb2_ GE548.out GE549.out HB.out) hb)
        clear BK548
        clear BK549
        clear HB
        have BK548 := n0_
        have BK549 := n1_
        have HB := n2_
        clear n0_ n1_ n2_
        (try clear hb)
        (try clear hb2)
        (try clear hk)
        (try clear hi)
        refine hK.out _ _ ⟨(blk_cell BK549.out 0).trans rfl, (blk_cell BK549.out 1).trans rfl⟩ (fun hHeld => ?_)
        clear hK K
        refine no_ ?_
        refine pz_ 7 35 (nb_ 10 255) HT_.out ?_
        refine pz_ 8 11 (nb_ 10 511) HT_.out ?_
        refine pz_ 9 12 (nb_ 10 1023) HT_.out ?_
        refine done_ (done_of HT_.out (by kernel_rfl)) ?_
        have hnb50 := NB548_549.out
        have hnc50 := NB549_548.out
        have hcz51_0 : w49.cell? ⟨gb548, 0, none⟩ = some (.int .i64 a0_0) := (blk_cell BK548.out 0).trans rfl
        have hcz51_1 : w49.cell? ⟨gb548, 1, none⟩ = some (.int .u64 a0_1) := (blk_cell BK548.out 1).trans rfl
        have hfz51_0 := blk_frozen BK548.out 0
        have hfz51_1 := blk_frozen BK548.out 1
        try go_wp2
        go_ret
        exact ⟨qe_, qb2_ GE548.out GE549.out HB.out⟩
     ·rw [if_neg c28] at H
      have c28b0 : decide (t558 ≤ 0) = false := decide_eq_false c28
      clear c28
      by_cases c52 : t561 ≥ 0
      ·rw [if_pos c52] at H
       have c52b0 : decide (0 ≤ t561) = true := decide_eq_true c52
       clear c52
       obtain rfl := Option.some.inj H
       try go_wp2
       have n0_ := Aside0.mk (blk_drew BK548.out)
       have n1_ := Aside0.mk (blk_drew BK549.out)
       have n2_ := Aside0.mk (below_drew1 HB.out)
       clear BK548
       clear BK549
       clear HB
       have BK548 := n0_
       have BK549 := n1_
       have HB := n2_
       clear n0_ n1_ n2_
       refine start_ (n := 10) (S := fun w' => w'.cell? ⟨gb549, 0, none⟩ = some (.int .i64 a3_0) ∧ w'.cell? ⟨gb549, 1, none⟩ = some (.int .u64 a3_1)) (ds := []) (nb_ 10 0) (by kernel_rfl) rfl rfl ⟨(blk_cell BK549.out 0).trans rfl, (blk_cell BK549.out 1).trans rfl⟩ (fun hHeld => ?_); refine with_tabW corebanklaw02_near.tab3 corebanklaw02_near.bits3 (fun HT_ HW_ => ?_)
       generalize wc.drew = w53 at BK548 BK549 HB hHeld ⊢
       refine tk2_ 0 28 (nb_ 10 1) HT_.out HW_.out hHeld ?_
       refine tk2_ 4 32 (nb_ 10 17) HT_.out HW_.out hHeld ?_
       refine on_ 1 29 (nb_ 10 19) HT_.out (fun K hK => ?_)
       refine goes_ Tryd.func21 (by kernel_rfl) rfl #[.int .i64 0] (by rfl) rfl rfl ql_ ?_
       with_reducible refine (corebankref01_Of.calls 0 t556 t557 _ A23.out).mono ?_
       rintro e w54 ⟨rfl, hb⟩
       refine ⟨_, rfl, ?_⟩
       have n0_ := Aside0.mk (blk_below (qk_ BK548.out) hb)
       have n1_ := Aside0.mk (blk_below (qk_ BK549.out) hb)
       have n2_ := Aside0.mk (below_step (qb2_ GE548.out GE549.out HB.out) hb)
       clear BK548
       clear BK549
       clear HB
       have BK548 := n0_
       have BK549 := n1_
       have HB := n2_
       clear n0_ n1_ n2_
       (try clear hb)
       (try clear hb2)
       (try clear hk)
       (try clear hi)
       refine hK.out _ _ ⟨(blk_cell BK549.out 0).trans rfl, (blk_cell BK549.out 1).trans rfl⟩ (fun hHeld => ?_)
       clear hK K
       refine no_ ?_
       refine on_ 2 30 (nb_ 10 23) HT_.out (fun K hK => ?_)
       refine goes_ Tryd.func20 (by kernel_rfl) rfl #[.agg #[.int .i64 a3_0, .int .u64 a3_1], .agg #[.int .i64 t556, .int .u64 t557]] (by rfl) rfl rfl ql_ ?_
       with_reducible refine (corebankref01_Cmp.calls a3_0 a3_1 t556 t557 t558 _ A24.out).mono ?_
       rintro e w55 ⟨rfl, hb⟩
       refine ⟨_, rfl, ?_⟩
       have n0_ := Aside0.mk (blk_below (qk_ BK548.out) hb)
       have n1_ := Aside0.mk (blk_below (qk_ BK549.out) hb)
       have n2_ := Aside0.mk (below_step (qb2_ GE548.out GE549.out HB.out) hb)
       clear BK548
       clear BK549
       clear HB
       have BK548 := n0_
       have BK549 := n1_
       have HB := n2_
       clear n0_ n1_ n2_
       (try clear hb)
       (try clear hb2)
       (try clear hk)
       (try clear hi)
       refine hK.out _ _ ⟨(blk_cell BK549.out 0).trans rfl, (blk_cell BK549.out 1).trans rfl⟩ (fun hHeld => ?_)
       clear hK K
       refine no_ ?_
       refine pz_ 3 31 (nb_ 10 31) HT_.out ?_
       refine on_ 5 33 (nb_ 10 63) HT_.out (fun K hK => ?_)
       refine goes_ Tryd.func21 (by kernel_rfl) rfl #[.int .i64 0] (by rfl) rfl rfl ql_ ?_
       with_reducible refine (corebankref01_Of.calls 0 t559 t560 _ A25.out).mono ?_
       rintro e w56 ⟨rfl, hb⟩
       refine ⟨_, rfl, ?_⟩
       have n0_ := Aside0.mk (blk_below (qk_ BK548.out) hb)
       have n1_ := Aside0.mk (blk_below (qk_ BK549.out) hb)
       have n2_ := Aside0.mk (below_step (qb2_ GE548.out GE549.out HB.out) hb)
       clear BK548
       clear BK549
       clear HB
       have BK548 := n0_
       have BK549 := n1_
       have HB := n2_
       clear n0_ n1_ n2_
       (try clear hb)
       (try clear hb2)
       (try clear hk)
       (try clear hi)
       refine hK.out _ _ ⟨(blk_cell BK549.out 0).trans rfl, (blk_cell BK549.out 1).trans rfl⟩ (fun hHeld => ?_)
       clear hK K
       refine no_ ?_
       refine on_ 6 34 (nb_ 10 127) HT_.out (fun K hK => ?_)
       refine goes_ Tryd.func20 (by kernel_rfl) rfl #[.agg #[.int .i64 a3_0, .int .u64 a3_1], .agg #[.int .i64 t559, .int .u64 t560]] (by rfl) rfl rfl ql_ ?_
       with_reducible refine (corebankref01_Cmp.calls a3_0 a3_1 t559 t560 t561 _ A26.out).mono ?_
       rintro e w57 ⟨rfl, hb⟩
       refine ⟨_, rfl, ?_⟩
       have n0_ := Aside0.mk (blk_below (qk_ BK548.out) hb)
       have n1_ := Aside0.mk (blk_below (qk_ BK549.out) hb)
       have n2_ := Aside0.mk (below_step (qb2_ GE548.out GE549.out HB.out) hb)
       clear BK548
       clear BK549
       clear HB
       have BK548 := n0_
       have BK549 := n1_
       have HB := n2_
       clear n0_ n1_ n2_
       (try clear hb)
       (try clear hb2)
       (try clear hk)
       (try clear hi)
       refine hK.out _ _ ⟨(blk_cell BK549.out 0).trans rfl, (blk_cell BK549.out 1).trans rfl⟩ (fun hHeld => ?_)
       clear hK K
       refine no_ ?_
       refine pz_ 7 35 (nb_ 10 255) HT_.out ?_
       refine pz_ 8 11 (nb_ 10 511) HT_.out ?_
       refine pz_ 9 12 (nb_ 10 1023) HT_.out ?_
       refine done_ (done_of HT_.out (by kernel_rfl)) ?_
       have hnb58 := NB548_549.out
       have hnc58 := NB549_548.out
       have hcz59_0 : w57.cell? ⟨gb548, 0, none⟩ = some (.int .i64 a0_0) := (blk_cell BK548.out 0).trans rfl
       have hcz59_1 : w57.cell? ⟨gb548, 1, none⟩ = some (.int .u64 a0_1) := (blk_cell BK548.out 1).trans rfl
       have hfz59_0 := blk_frozen BK548.out 0
       have hfz59_1 := blk_frozen BK548.out 1
       try go_wp2
       go_ret
       exact ⟨qe_, qb2_ GE548.out GE549.out HB.out⟩
      ·rw [if_neg c52] at H
       have c52b0 : decide (0 ≤ t561) = false := decide_eq_false c52
       clear c52
       obtain rfl := Option.some.inj H
       try go_wp2
       have n0_ := Aside0.mk (blk_drew BK548.out)
       have n1_ := Aside0.mk (blk_drew BK549.out)
       have n2_ := Aside0.mk (below_drew1 HB.out)
       clear BK548
       clear BK549
       clear HB
       have BK548 := n0_
       have BK549 := n1_
       have HB := n2_
       clear n0_ n1_ n2_
       refine start_ (n := 10) (S := fun w' => w'.cell? ⟨gb549, 0, none⟩ = some (.int .i64 a3_0) ∧ w'.cell? ⟨gb549, 1, none⟩ = some (.int .u64 a3_1)) (ds := []) (nb_ 10 0) (by kernel_rfl) rfl rfl ⟨(blk_cell BK549.out 0).trans rfl, (blk_cell BK549.out 1).trans rfl⟩ (fun hHeld => ?_); refine with_tabW corebanklaw02_near.tab3 corebanklaw02_near.bits3 (fun HT_ HW_ => ?_)
       generalize wc.drew = w60 at BK548 BK549 HB hHeld ⊢
       refine tk2_ 0 28 (nb_ 10 1) HT_.out HW_.out hHeld ?_
       refine tk2_ 4 32 (nb_ 10 17) HT_.out HW_.out hHeld ?_
       refine on_ 1 29 (nb_ 10 19) HT_.out (fun K hK => ?_)
       refine goes_ Tryd.func21 (by kernel_rfl) rfl #[.int .i64 0] (by rfl) rfl rfl ql_ ?_
       with_reducible refine (corebankref01_Of.calls 0 t556 t557 _ A23.out).mono ?_
       rintro e w61 ⟨rfl, hb⟩
       refine ⟨_, rfl, ?_⟩
       have n0_ := Aside0.mk (blk_below (qk_ BK548.out) hb)
       have n1_ := Aside0.mk (blk_below (qk_ BK549.out) hb)
       have n2_ := Aside0.mk (below_step (qb2_ GE548.out GE549.out HB.out) hb)
       clear BK548
       clear BK549
       clear HB
       have BK548 := n0_
       have BK549 := n1_
       have HB := n2_
       clear n0_ n1_ n2_
       (try clear hb)
       (try clear hb2)
       (try clear hk)
       (try clear hi)
       refine hK.out _ _ ⟨(blk_cell BK549.out 0).trans rfl, (blk_cell BK549.out 1).trans rfl⟩ (fun hHeld => ?_)
       clear hK K
       refine no_ ?_
       refine on_ 2 30 (nb_ 10 23) HT_.out (fun K hK => ?_)
       refine goes_ Tryd.func20 (by kernel_rfl) rfl #[.agg #[.int .i64 a3_0, .int .u64 a3_1], .agg #[.int .i64 t556, .int .u64 t557]] (by rfl) rfl rfl ql_ ?_
       with_reducible refine (corebankref01_Cmp.calls a3_0 a3_1 t556 t557 t558 _ A24.out).mono ?_
       rintro e w62 ⟨rfl, hb⟩
       refine ⟨_, rfl, ?_⟩
       have n0_ := Aside0.mk (blk_below (qk_ BK548.out) hb)
       have n1_ := Aside0.mk (blk_below (qk_ BK549.out) hb)
       have n2_ := Aside0.mk (below_step (qb2_ GE548.out GE549.out HB.out) hb)
       clear BK548
       clear BK549
       clear HB
       have BK548 := n0_
       have BK549 := n1_
       have HB := n2_
       clear n0_ n1_ n2_
       (try clear hb)
       (try clear hb2)
       (try clear hk)
       (try clear hi)
       refine hK.out _ _ ⟨(blk_cell BK549.out 0).trans rfl, (blk_cell BK549.out 1).trans rfl⟩ (fun hHeld => ?_)
       clear hK K
       refine no_ ?_
       refine pz_ 3 31 (nb_ 10 31) HT_.out ?_
       refine on_ 5 33 (nb_ 10 63) HT_.out (fun K hK => ?_)
       refine goes_ Tryd.func21 (by kernel_rfl) rfl #[.int .i64 0] (by rfl) rfl rfl ql_ ?_
       with_reducible refine (corebankref01_Of.calls 0 t559 t560 _ A25.out).mono ?_
       rintro e w63 ⟨rfl, hb⟩
       refine ⟨_, rfl, ?_⟩
       have n0_ := Aside0.mk (blk_below (qk_ BK548.out) hb)
       have n1_ := Aside0.mk (blk_below (qk_ BK549.out) hb)
       have n2_ := Aside0.mk (below_step (qb2_ GE548.out GE549.out HB.out) hb)
       clear BK548
       clear BK549
       clear HB
       have BK548 := n0_
       have BK549 := n1_
       have HB := n2_
       clear n0_ n1_ n2_
       (try clear hb)
       (try clear hb2)
       (try clear hk)
       (try clear hi)
       refine hK.out _ _ ⟨(blk_cell BK549.out 0).trans rfl, (blk_cell BK549.out 1).trans rfl⟩ (fun hHeld => ?_)
       clear hK K
       refine no_ ?_
       refine on_ 6 34 (nb_ 10 127) HT_.out (fun K hK => ?_)
       refine goes_ Tryd.func20 (by kernel_rfl) rfl #[.agg #[.int .i64 a3_0, .int .u64 a3_1], .agg #[.int .i64 t559, .int .u64 t560]] (by rfl) rfl rfl ql_ ?_
       with_reducible refine (corebankref01_Cmp.calls a3_0 a3_1 t559 t560 t561 _ A26.out).mono ?_
       rintro e w64 ⟨rfl, hb⟩
       refine ⟨_, rfl, ?_⟩
       have n0_ := Aside0.mk (blk_below (qk_ BK548.out) hb)
       have n1_ := Aside0.mk (blk_below (qk_ BK549.out) hb)
       have n2_ := Aside0.mk (below_step (qb2_ GE548.out GE549.out HB.out) hb)
       clear BK548
       clear BK549
       clear HB
       have BK548 := n0_
       have BK549 := n1_
       have HB := n2_
       clear n0_ n1_ n2_
       (try clear hb)
       (try clear hb2)
       (try clear hk)
       (try clear hi)
       refine hK.out _ _ ⟨(blk_cell BK549.out 0).trans rfl, (blk_cell BK549.out 1).trans rfl⟩ (fun hHeld => ?_)
       clear hK K
       refine no_ ?_
       refine pz_ 7 35 (nb_ 10 255) HT_.out ?_
       refine pz_ 8 11 (nb_ 10 511) HT_.out ?_
       refine pz_ 9 12 (nb_ 10 1023) HT_.out ?_
       refine done_ (done_of HT_.out (by kernel_rfl)) ?_
       try go_wp2
       go_ret
       exact ⟨qe_, qb2_ GE548.out GE549.out HB.out⟩
    ·rw [if_neg c27] at H
     have c27b0 : (a4 == 1) = false := beq_eq_false_iff_ne.mpr c27
     have c27b1 : (a4 != 1) = true := bne_iff_ne.mpr c27
     by_cases c65 : a4 = 2
     ·rw [if_pos c65] at H
      have c65b0 : (a4 == 2) = true := beq_iff_eq.mpr c65
      have c65b1 : (a4 != 2) = false := bne_eq_false_iff_eq.mpr c65
      clear c65
      by_cases c66 : t561 ≥ 0
      ·rw [if_pos c66] at H
       have c66b0 : decide (0 ≤ t561) = true := decide_eq_true c66
       clear c66
       by_cases c67 : a0_0 ≥ 0
       ·rw [if_pos c67] at H
        have c67b0 : decide (0 ≤ a0_0) = true := decide_eq_true c67
        clear c67
        obtain rfl := Option.some.inj H
        try go_wp2
        have n0_ := Aside0.mk (blk_drew BK548.out)
        have n1_ := Aside0.mk (blk_drew BK549.out)
        have n2_ := Aside0.mk (below_drew1 HB.out)
        clear BK548
        clear BK549
        clear HB
        have BK548 := n0_
        have BK549 := n1_
        have HB := n2_
        clear n0_ n1_ n2_
        refine start_ (n := 10) (S := fun w' => w'.cell? ⟨gb549, 0, none⟩ = some (.int .i64 a3_0) ∧ w'.cell? ⟨gb549, 1, none⟩ = some (.int .u64 a3_1)) (ds := []) (nb_ 10 0) (by kernel_rfl) rfl rfl ⟨(blk_cell BK549.out 0).trans rfl, (blk_cell BK549.out 1).trans rfl⟩ (fun hHeld => ?_); refine with_tabW corebanklaw02_near.tab3 corebanklaw02_near.bits3 (fun HT_ HW_ => ?_)
        generalize wc.drew = w68 at BK548 BK549 HB hHeld ⊢
        refine tk2_ 0 28 (nb_ 10 1) HT_.out HW_.out hHeld ?_
        refine tk2_ 4 32 (nb_ 10 17) HT_.out HW_.out hHeld ?_
        refine on_ 1 29 (nb_ 10 19) HT_.out (fun K hK => ?_)
        refine goes_ Tryd.func21 (by kernel_rfl) rfl #[.int .i64 0] (by rfl) rfl rfl ql_ ?_
        with_reducible refine (corebankref01_Of.calls 0 t556 t557 _ A23.out).mono ?_
        rintro e w69 ⟨rfl, hb⟩
        refine ⟨_, rfl, ?_⟩
        have n0_ := Aside0.mk (blk_below (qk_ BK548.out) hb)
        have n1_ := Aside0.mk (blk_below (qk_ BK549.out) hb)
        have n2_ := Aside0.mk (below_step (qb2_ GE548.out GE549.out HB.out) hb)
        clear BK548
        clear BK549
        clear HB
        have BK548 := n0_
        have BK549 := n1_
        have HB := n2_
        clear n0_ n1_ n2_
        (try clear hb)
        (try clear hb2)
        (try clear hk)
        (try clear hi)
        refine hK.out _ _ ⟨(blk_cell BK549.out 0).trans rfl, (blk_cell BK549.out 1).trans rfl⟩ (fun hHeld => ?_)
        clear hK K
        refine no_ ?_
        refine on_ 2 30 (nb_ 10 23) HT_.out (fun K hK => ?_)
        refine goes_ Tryd.func20 (by kernel_rfl) rfl #[.agg #[.int .i64 a3_0, .int .u64 a3_1], .agg #[.int .i64 t556, .int .u64 t557]] (by rfl) rfl rfl ql_ ?_
        with_reducible refine (corebankref01_Cmp.calls a3_0 a3_1 t556 t557 t558 _ A24.out).mono ?_
        rintro e w70 ⟨rfl, hb⟩
        refine ⟨_, rfl, ?_⟩
        have n0_ := Aside0.mk (blk_below (qk_ BK548.out) hb)
        have n1_ := Aside0.mk (blk_below (qk_ BK549.out) hb)
        have n2_ := Aside0.mk (below_step (qb2_ GE548.out GE549.out HB.out) hb)
        clear BK548
        clear BK549
        clear HB
        have BK548 := n0_
        have BK549 := n1_
        have HB := n2_
        clear n0_ n1_ n2_
        (try clear hb)
        (try clear hb2)
        (try clear hk)
        (try clear hi)
        refine hK.out _ _ ⟨(blk_cell BK549.out 0).trans rfl, (blk_cell BK549.out 1).trans rfl⟩ (fun hHeld => ?_)
        clear hK K
        refine no_ ?_
        refine pz_ 3 31 (nb_ 10 31) HT_.out ?_
        refine on_ 5 33 (nb_ 10 63) HT_.out (fun K hK => ?_)
        refine goes_ Tryd.func21 (by kernel_rfl) rfl #[.int .i64 0] (by rfl) rfl rfl ql_ ?_
        with_reducible refine (corebankref01_Of.calls 0 t559 t560 _ A25.out).mono ?_
        rintro e w71 ⟨rfl, hb⟩
        refine ⟨_, rfl, ?_⟩
        have n0_ := Aside0.mk (blk_below (qk_ BK548.out) hb)
        have n1_ := Aside0.mk (blk_below (qk_ BK549.out) hb)
        have n2_ := Aside0.mk (below_step (qb2_ GE548.out GE549.out HB.out) hb)
        clear BK548
        clear BK549
        clear HB
        have BK548 := n0_
        have BK549 := n1_
        have HB := n2_
        clear n0_ n1_ n2_
        (try clear hb)
        (try clear hb2)
        (try clear hk)
        (try clear hi)
        refine hK.out _ _ ⟨(blk_cell BK549.out 0).trans rfl, (blk_cell BK549.out 1).trans rfl⟩ (fun hHeld => ?_)
        clear hK K
        refine no_ ?_
        refine on_ 6 34 (nb_ 10 127) HT_.out (fun K hK => ?_)
        refine goes_ Tryd.func20 (by kernel_rfl) rfl #[.agg #[.int .i64 a3_0, .int .u64 a3_1], .agg #[.int .i64 t559, .int .u64 t560]] (by rfl) rfl rfl ql_ ?_
        with_reducible refine (corebankref01_Cmp.calls a3_0 a3_1 t559 t560 t561 _ A26.out).mono ?_
        rintro e w72 ⟨rfl, hb⟩
        refine ⟨_, rfl, ?_⟩
        have n0_ := Aside0.mk (blk_below (qk_ BK548.out) hb)
        have n1_ := Aside0.mk (blk_below (qk_ BK549.out) hb)
        have n2_ := Aside0.mk (below_step (qb2_ GE548.out GE549.out HB.out) hb)
        clear BK548
        clear BK549
        clear HB
        have BK548 := n0_
        have BK549 := n1_
        have HB := n2_
        clear n0_ n1_ n2_
        (try clear hb)
        (try clear hb2)
        (try clear hk)
        (try clear hi)
        refine hK.out _ _ ⟨(blk_cell BK549.out 0).trans rfl, (blk_cell BK549.out 1).trans rfl⟩ (fun hHeld => ?_)
        clear hK K
        refine no_ ?_
        refine pz_ 7 35 (nb_ 10 255) HT_.out ?_
        refine pz_ 8 11 (nb_ 10 511) HT_.out ?_
        refine pz_ 9 12 (nb_ 10 1023) HT_.out ?_
        refine done_ (done_of HT_.out (by kernel_rfl)) ?_
        have hnb73 := NB548_549.out
        have hnc73 := NB549_548.out
        have hcz74_0 : w72.cell? ⟨gb548, 0, none⟩ = some (.int .i64 a0_0) := (blk_cell BK548.out 0).trans rfl
        have hcz74_1 : w72.cell? ⟨gb548, 1, none⟩ = some (.int .u64 a0_1) := (blk_cell BK548.out 1).trans rfl
        have hfz74_0 := blk_frozen BK548.out 0
        have hfz74_1 := blk_frozen BK548.out 1
        try go_wp2
        go_ret
        exact ⟨qe_, qb2_ GE548.out GE549.out HB.out⟩
       ·rw [if_neg c67] at H
        have c67b0 : decide (0 ≤ a0_0) = false := decide_eq_false c67
        clear c67
        by_cases c75 : t558 ≤ 0
        ·rw [if_pos c75] at H
         have c75b0 : decide (t558 ≤ 0) = true := decide_eq_true c75
         clear c75
         obtain rfl := Option.some.inj H
         try go_wp2
         have n0_ := Aside0.mk (blk_drew BK548.out)
         have n1_ := Aside0.mk (blk_drew BK549.out)
         have n2_ := Aside0.mk (below_drew1 HB.out)
         clear BK548
         clear BK549
         clear HB
         have BK548 := n0_
         have BK549 := n1_
         have HB := n2_
         clear n0_ n1_ n2_
         refine start_ (n := 10) (S := fun w' => w'.cell? ⟨gb549, 0, none⟩ = some (.int .i64 a3_0) ∧ w'.cell? ⟨gb549, 1, none⟩ = some (.int .u64 a3_1)) (ds := []) (nb_ 10 0) (by kernel_rfl) rfl rfl ⟨(blk_cell BK549.out 0).trans rfl, (blk_cell BK549.out 1).trans rfl⟩ (fun hHeld => ?_); refine with_tabW corebanklaw02_near.tab3 corebanklaw02_near.bits3 (fun HT_ HW_ => ?_)
         generalize wc.drew = w76 at BK548 BK549 HB hHeld ⊢
         refine tk2_ 0 28 (nb_ 10 1) HT_.out HW_.out hHeld ?_
         refine tk2_ 4 32 (nb_ 10 17) HT_.out HW_.out hHeld ?_
         refine on_ 1 29 (nb_ 10 19) HT_.out (fun K hK => ?_)
         refine goes_ Tryd.func21 (by kernel_rfl) rfl #[.int .i64 0] (by rfl) rfl rfl ql_ ?_
         with_reducible refine (corebankref01_Of.calls 0 t556 t557 _ A23.out).mono ?_
         rintro e w77 ⟨rfl, hb⟩
         refine ⟨_, rfl, ?_⟩
         have n0_ := Aside0.mk (blk_below (qk_ BK548.out) hb)
         have n1_ := Aside0.mk (blk_below (qk_ BK549.out) hb)
         have n2_ := Aside0.mk (below_step (qb2_ GE548.out GE549.out HB.out) hb)
         clear BK548
         clear BK549
         clear HB
         have BK548 := n0_
         have BK549 := n1_
         have HB := n2_
         clear n0_ n1_ n2_
         (try clear hb)
         (try clear hb2)
         (try clear hk)
         (try clear hi)
         refine hK.out _ _ ⟨(blk_cell BK549.out 0).trans rfl, (blk_cell BK549.out 1).trans rfl⟩ (fun hHeld => ?_)
         clear hK K
         refine no_ ?_
         refine on_ 2 30 (nb_ 10 23) HT_.out (fun K hK => ?_)
         refine goes_ Tryd.func20 (by kernel_rfl) rfl #[.agg #[.int .i64 a3_0, .int .u64 a3_1], .agg #[.int .i64 t556, .int .u64 t557]] (by rfl) rfl rfl ql_ ?_
         with_reducible refine (corebankref01_Cmp.calls a3_0 a3_1 t556 t557 t558 _ A24.out).mono ?_
         rintro e w78 ⟨rfl, hb⟩
         refine ⟨_, rfl, ?_⟩
         have n0_ := Aside0.mk (blk_below (qk_ BK548.out) hb)
         have n1_ := Aside0.mk (blk_below (qk_ BK549.out) hb)
         have n2_ := Aside0.mk (below_step (qb2_ GE548.out GE549.out HB.out) hb)
         clear BK548
         clear BK549
         clear HB
         have BK548 := n0_
         have BK549 := n1_
         have HB := n2_
         clear n0_ n1_ n2_
         (try clear hb)
         (try clear hb2)
         (try clear hk)
         (try clear hi)
         refine hK.out _ _ ⟨(blk_cell BK549.out 0).trans rfl, (blk_cell BK549.out 1).trans rfl⟩ (fun hHeld => ?_)
         clear hK K
         refine no_ ?_
         refine pz_ 3 31 (nb_ 10 31) HT_.out ?_
         refine on_ 5 33 (nb_ 10 63) HT_.out (fun K hK => ?_)
         refine goes_ Tryd.func21 (by kernel_rfl) rfl #[.int .i64 0] (by rfl) rfl rfl ql_ ?_
         with_reducible refine (corebankref01_Of.calls 0 t559 t560 _ A25.out).mono ?_
         rintro e w79 ⟨rfl, hb⟩
         refine ⟨_, rfl, ?_⟩
         have n0_ := Aside0.mk (blk_below (qk_ BK548.out) hb)
         have n1_ := Aside0.mk (blk_below (qk_ BK549.out) hb)
         have n2_ := Aside0.mk (below_step (qb2_ GE548.out GE549.out HB.out) hb)
         clear BK548
         clear BK549
         clear HB
         have BK548 := n0_
         have BK549 := n1_
         have HB := n2_
         clear n0_ n1_ n2_
         (try clear hb)
         (try clear hb2)
         (try clear hk)
         (try clear hi)
         refine hK.out _ _ ⟨(blk_cell BK549.out 0).trans rfl, (blk_cell BK549.out 1).trans rfl⟩ (fun hHeld => ?_)
         clear hK K
         refine no_ ?_
         refine on_ 6 34 (nb_ 10 127) HT_.out (fun K hK => ?_)
         refine goes_ Tryd.func20 (by kernel_rfl) rfl #[.agg #[.int .i64 a3_0, .int .u64 a3_1], .agg #[.int .i64 t559, .int .u64 t560]] (by rfl) rfl rfl ql_ ?_
         with_reducible refine (corebankref01_Cmp.calls a3_0 a3_1 t559 t560 t561 _ A26.out).mono ?_
         rintro e w80 ⟨rfl, hb⟩
         refine ⟨_, rfl, ?_⟩
         have n0_ := Aside0.mk (blk_below (qk_ BK548.out) hb)
         have n1_ := Aside0.mk (blk_below (qk_ BK549.out) hb)
         have n2_ := Aside0.mk (below_step (qb2_ GE548.out GE549.out HB.out) hb)
         clear BK548
         clear BK549
         clear HB
         have BK548 := n0_
         have BK549 := n1_
         have HB := n2_
         clear n0_ n1_ n2_
         (try clear hb)
         (try clear hb2)
         (try clear hk)
         (try clear hi)
         refine hK.out _ _ ⟨(blk_cell BK549.out 0).trans rfl, (blk_cell BK549.out 1).trans rfl⟩ (fun hHeld => ?_)
         clear hK K
         refine no_ ?_
         refine pz_ 7 35 (nb_ 10 255) HT_.out ?_
         refine pz_ 8 11 (nb_ 10 511) HT_.out ?_
         refine pz_ 9 12 (nb_ 10 1023) HT_.out ?_
         refine done_ (done_of HT_.out (by kernel_rfl)) ?_
         have hnb81 := NB548_549.out
         have hnc81 := NB549_548.out
         have hcz82_0 : w80.cell? ⟨gb548, 0, none⟩ = some (.int .i64 a0_0) := (blk_cell BK548.out 0).trans rfl
         have hcz82_1 : w80.cell? ⟨gb548, 1, none⟩ = some (.int .u64 a0_1) := (blk_cell BK548.out 1).trans rfl
         have hfz82_0 := blk_frozen BK548.out 0
         have hfz82_1 := blk_frozen BK548.out 1
         try go_wp2
         go_ret
         exact ⟨qe_, qb2_ GE548.out GE549.out HB.out⟩
        ·rw [if_neg c75] at H
         have c75b0 : decide (t558 ≤ 0) = false := decide_eq_false c75
         clear c75
         obtain rfl := Option.some.inj H
         try go_wp2
         have n0_ := Aside0.mk (blk_drew BK548.out)
         have n1_ := Aside0.mk (blk_drew BK549.out)
         have n2_ := Aside0.mk (below_drew1 HB.out)
         clear BK548
         clear BK549
         clear HB
         have BK548 := n0_
         have BK549 := n1_
         have HB := n2_
         clear n0_ n1_ n2_
         refine start_ (n := 10) (S := fun w' => w'.cell? ⟨gb549, 0, none⟩ = some (.int .i64 a3_0) ∧ w'.cell? ⟨gb549, 1, none⟩ = some (.int .u64 a3_1)) (ds := []) (nb_ 10 0) (by kernel_rfl) rfl rfl ⟨(blk_cell BK549.out 0).trans rfl, (blk_cell BK549.out 1).trans rfl⟩ (fun hHeld => ?_); refine with_tabW corebanklaw02_near.tab3 corebanklaw02_near.bits3 (fun HT_ HW_ => ?_)
         generalize wc.drew = w83 at BK548 BK549 HB hHeld ⊢
         refine tk2_ 0 28 (nb_ 10 1) HT_.out HW_.out hHeld ?_
         refine tk2_ 4 32 (nb_ 10 17) HT_.out HW_.out hHeld ?_
         refine on_ 1 29 (nb_ 10 19) HT_.out (fun K hK => ?_)
         refine goes_ Tryd.func21 (by kernel_rfl) rfl #[.int .i64 0] (by rfl) rfl rfl ql_ ?_
         with_reducible refine (corebankref01_Of.calls 0 t556 t557 _ A23.out).mono ?_
         rintro e w84 ⟨rfl, hb⟩
         refine ⟨_, rfl, ?_⟩
         have n0_ := Aside0.mk (blk_below (qk_ BK548.out) hb)
         have n1_ := Aside0.mk (blk_below (qk_ BK549.out) hb)
         have n2_ := Aside0.mk (below_step (qb2_ GE548.out GE549.out HB.out) hb)
         clear BK548
         clear BK549
         clear HB
         have BK548 := n0_
         have BK549 := n1_
         have HB := n2_
         clear n0_ n1_ n2_
         (try clear hb)
         (try clear hb2)
         (try clear hk)
         (try clear hi)
         refine hK.out _ _ ⟨(blk_cell BK549.out 0).trans rfl, (blk_cell BK549.out 1).trans rfl⟩ (fun hHeld => ?_)
         clear hK K
         refine no_ ?_
         refine on_ 2 30 (nb_ 10 23) HT_.out (fun K hK => ?_)
         refine goes_ Tryd.func20 (by kernel_rfl) rfl #[.agg #[.int .i64 a3_0, .int .u64 a3_1], .agg #[.int .i64 t556, .int .u64 t557]] (by rfl) rfl rfl ql_ ?_
         with_reducible refine (corebankref01_Cmp.calls a3_0 a3_1 t556 t557 t558 _ A24.out).mono ?_
         rintro e w85 ⟨rfl, hb⟩
         refine ⟨_, rfl, ?_⟩
         have n0_ := Aside0.mk (blk_below (qk_ BK548.out) hb)
         have n1_ := Aside0.mk (blk_below (qk_ BK549.out) hb)
         have n2_ := Aside0.mk (below_step (qb2_ GE548.out GE549.out HB.out) hb)
         clear BK548
         clear BK549
         clear HB
         have BK548 := n0_
         have BK549 := n1_
         have HB := n2_
         clear n0_ n1_ n2_
         (try clear hb)
         (try clear hb2)
         (try clear hk)
         (try clear hi)
         refine hK.out _ _ ⟨(blk_cell BK549.out 0).trans rfl, (blk_cell BK549.out 1).trans rfl⟩ (fun hHeld => ?_)
         clear hK K
         refine no_ ?_
         refine pz_ 3 31 (nb_ 10 31) HT_.out ?_
         refine on_ 5 33 (nb_ 10 63) HT_.out (fun K hK => ?_)
         refine goes_ Tryd.func21 (by kernel_rfl) rfl #[.int .i64 0] (by rfl) rfl rfl ql_ ?_
         with_reducible refine (corebankref01_Of.calls 0 t559 t560 _ A25.out).mono ?_
         rintro e w86 ⟨rfl, hb⟩
         refine ⟨_, rfl, ?_⟩
         have n0_ := Aside0.mk (blk_below (qk_ BK548.out) hb)
         have n1_ := Aside0.mk (blk_below (qk_ BK549.out) hb)
         have n2_ := Aside0.mk (below_step (qb2_ GE548.out GE549.out HB.out) hb)
         clear BK548
         clear BK549
         clear HB
         have BK548 := n0_
         have BK549 := n1_
         have HB := n2_
         clear n0_ n1_ n2_
         (try clear hb)
         (try clear hb2)
         (try clear hk)
         (try clear hi)
         refine hK.out _ _ ⟨(blk_cell BK549.out 0).trans rfl, (blk_cell BK549.out 1).trans rfl⟩ (fun hHeld => ?_)
         clear hK K
         refine no_ ?_
         refine on_ 6 34 (nb_ 10 127) HT_.out (fun K hK => ?_)
         refine goes_ Tryd.func20 (by kernel_rfl) rfl #[.agg #[.int .i64 a3_0, .int .u64 a3_1], .agg #[.int .i64 t559, .int .u64 t560]] (by rfl) rfl rfl ql_ ?_
         with_reducible refine (corebankref01_Cmp.calls a3_0 a3_1 t559 t560 t561 _ A26.out).mono ?_
         rintro e w87 ⟨rfl, hb⟩
         refine ⟨_, rfl, ?_⟩
         have n0_ := Aside0.mk (blk_below (qk_ BK548.out) hb)
         have n1_ := Aside0.mk (blk_below (qk_ BK549.out) hb)
         have n2_ := Aside0.mk (below_step (qb2_ GE548.out GE549.out HB.out) hb)
         clear BK548
         clear BK549
         clear HB
         have BK548 := n0_
         have BK549 := n1_
         have HB := n2_
         clear n0_ n1_ n2_
         (try clear hb)
         (try clear hb2)
         (try clear hk)
         (try clear hi)
         refine hK.out _ _ ⟨(blk_cell BK549.out 0).trans rfl, (blk_cell BK549.out 1).trans rfl⟩ (fun hHeld => ?_)
         clear hK K
         refine no_ ?_
         refine pz_ 7 35 (nb_ 10 255) HT_.out ?_
         refine pz_ 8 11 (nb_ 10 511) HT_.out ?_
         refine pz_ 9 12 (nb_ 10 1023) HT_.out ?_
         refine done_ (done_of HT_.out (by kernel_rfl)) ?_
         have hnb88 := NB548_549.out
         have hnc88 := NB549_548.out
         have hcz89_0 : w87.cell? ⟨gb548, 0, none⟩ = some (.int .i64 a0_0) := (blk_cell BK548.out 0).trans rfl
         have hcz89_1 : w87.cell? ⟨gb548, 1, none⟩ = some (.int .u64 a0_1) := (blk_cell BK548.out 1).trans rfl
         have hfz89_0 := blk_frozen BK548.out 0
         have hfz89_1 := blk_frozen BK548.out 1
         try go_wp2
         go_ret
         exact ⟨qe_, qb2_ GE548.out GE549.out HB.out⟩
      ·rw [if_neg c66] at H
       have c66b0 : decide (0 ≤ t561) = false := decide_eq_false c66
       clear c66
       by_cases c90 : t558 ≤ 0
       ·rw [if_pos c90] at H
        have c90b0 : decide (t558 ≤ 0) = true := decide_eq_true c90
        clear c90
        obtain rfl := Option.some.inj H
        try go_wp2
        have n0_ := Aside0.mk (blk_drew BK548.out)
        have n1_ := Aside0.mk (blk_drew BK549.out)
        have n2_ := Aside0.mk (below_drew1 HB.out)
        clear BK548
        clear BK549
        clear HB
        have BK548 := n0_
        have BK549 := n1_
        have HB := n2_
        clear n0_ n1_ n2_
        refine start_ (n := 10) (S := fun w' => w'.cell? ⟨gb549, 0, none⟩ = some (.int .i64 a3_0) ∧ w'.cell? ⟨gb549, 1, none⟩ = some (.int .u64 a3_1)) (ds := []) (nb_ 10 0) (by kernel_rfl) rfl rfl ⟨(blk_cell BK549.out 0).trans rfl, (blk_cell BK549.out 1).trans rfl⟩ (fun hHeld => ?_); refine with_tabW corebanklaw02_near.tab3 corebanklaw02_near.bits3 (fun HT_ HW_ => ?_)
        generalize wc.drew = w91 at BK548 BK549 HB hHeld ⊢
        refine tk2_ 0 28 (nb_ 10 1) HT_.out HW_.out hHeld ?_
        refine tk2_ 4 32 (nb_ 10 17) HT_.out HW_.out hHeld ?_
        refine on_ 1 29 (nb_ 10 19) HT_.out (fun K hK => ?_)
        refine goes_ Tryd.func21 (by kernel_rfl) rfl #[.int .i64 0] (by rfl) rfl rfl ql_ ?_
        with_reducible refine (corebankref01_Of.calls 0 t556 t557 _ A23.out).mono ?_
        rintro e w92 ⟨rfl, hb⟩
        refine ⟨_, rfl, ?_⟩
        have n0_ := Aside0.mk (blk_below (qk_ BK548.out) hb)
        have n1_ := Aside0.mk (blk_below (qk_ BK549.out) hb)
        have n2_ := Aside0.mk (below_step (qb2_ GE548.out GE549.out HB.out) hb)
        clear BK548
        clear BK549
        clear HB
        have BK548 := n0_
        have BK549 := n1_
        have HB := n2_
        clear n0_ n1_ n2_
        (try clear hb)
        (try clear hb2)
        (try clear hk)
        (try clear hi)
        refine hK.out _ _ ⟨(blk_cell BK549.out 0).trans rfl, (blk_cell BK549.out 1).trans rfl⟩ (fun hHeld => ?_)
        clear hK K
        refine no_ ?_
        refine on_ 2 30 (nb_ 10 23) HT_.out (fun K hK => ?_)
        refine goes_ Tryd.func20 (by kernel_rfl) rfl #[.agg #[.int .i64 a3_0, .int .u64 a3_1], .agg #[.int .i64 t556, .int .u64 t557]] (by rfl) rfl rfl ql_ ?_
        with_reducible refine (corebankref01_Cmp.calls a3_0 a3_1 t556 t557 t558 _ A24.out).mono ?_
        rintro e w93 ⟨rfl, hb⟩
        refine ⟨_, rfl, ?_⟩
        have n0_ := Aside0.mk (blk_below (qk_ BK548.out) hb)
        have n1_ := Aside0.mk (blk_below (qk_ BK549.out) hb)
        have n2_ := Aside0.mk (below_step (qb2_ GE548.out GE549.out HB.out) hb)
        clear BK548
        clear BK549
        clear HB
        have BK548 := n0_
        have BK549 := n1_
        have HB := n2_
        clear n0_ n1_ n2_
        (try clear hb)
        (try clear hb2)
        (try clear hk)
        (try clear hi)
        refine hK.out _ _ ⟨(blk_cell BK549.out 0).trans rfl, (blk_cell BK549.out 1).trans rfl⟩ (fun hHeld => ?_)
        clear hK K
        refine no_ ?_
        refine pz_ 3 31 (nb_ 10 31) HT_.out ?_
        refine on_ 5 33 (nb_ 10 63) HT_.out (fun K hK => ?_)
        refine goes_ Tryd.func21 (by kernel_rfl) rfl #[.int .i64 0] (by rfl) rfl rfl ql_ ?_
        with_reducible refine (corebankref01_Of.calls 0 t559 t560 _ A25.out).mono ?_
        rintro e w94 ⟨rfl, hb⟩
        refine ⟨_, rfl, ?_⟩
        have n0_ := Aside0.mk (blk_below (qk_ BK548.out) hb)
        have n1_ := Aside0.mk (blk_below (qk_ BK549.out) hb)
        have n2_ := Aside0.mk (below_step (qb2_ GE548.out GE549.out HB.out) hb)
        clear BK548
        clear BK549
        clear HB
        have BK548 := n0_
        have BK549 := n1_
        have HB := n2_
        clear n0_ n1_ n2_
        (try clear hb)
        (try clear hb2)
        (try clear hk)
        (try clear hi)
        refine hK.out _ _ ⟨(blk_cell BK549.out 0).trans rfl, (blk_cell BK549.out 1).trans rfl⟩ (fun hHeld => ?_)
        clear hK K
        refine no_ ?_
        refine on_ 6 34 (nb_ 10 127) HT_.out (fun K hK => ?_)
        refine goes_ Tryd.func20 (by kernel_rfl) rfl #[.agg #[.int .i64 a3_0, .int .u64 a3_1], .agg #[.int .i64 t559, .int .u64 t560]] (by rfl) rfl rfl ql_ ?_
        with_reducible refine (corebankref01_Cmp.calls a3_0 a3_1 t559 t560 t561 _ A26.out).mono ?_
        rintro e w95 ⟨rfl, hb⟩
        refine ⟨_, rfl, ?_⟩
        have n0_ := Aside0.mk (blk_below (qk_ BK548.out) hb)
        have n1_ := Aside0.mk (blk_below (qk_ BK549.out) hb)
        have n2_ := Aside0.mk (below_step (qb2_ GE548.out GE549.out HB.out) hb)
        clear BK548
        clear BK549
        clear HB
        have BK548 := n0_
        have BK549 := n1_
        have HB := n2_
        clear n0_ n1_ n2_
        (try clear hb)
        (try clear hb2)
        (try clear hk)
        (try clear hi)
        refine hK.out _ _ ⟨(blk_cell BK549.out 0).trans rfl, (blk_cell BK549.out 1).trans rfl⟩ (fun hHeld => ?_)
        clear hK K
        refine no_ ?_
        refine pz_ 7 35 (nb_ 10 255) HT_.out ?_
        refine pz_ 8 11 (nb_ 10 511) HT_.out ?_
        refine pz_ 9 12 (nb_ 10 1023) HT_.out ?_
        refine done_ (done_of HT_.out (by kernel_rfl)) ?_
        have hnb96 := NB548_549.out
        have hnc96 := NB549_548.out
        have hcz97_0 : w95.cell? ⟨gb548, 0, none⟩ = some (.int .i64 a0_0) := (blk_cell BK548.out 0).trans rfl
        have hcz97_1 : w95.cell? ⟨gb548, 1, none⟩ = some (.int .u64 a0_1) := (blk_cell BK548.out 1).trans rfl
        have hfz97_0 := blk_frozen BK548.out 0
        have hfz97_1 := blk_frozen BK548.out 1
        try go_wp2
        go_ret
        exact ⟨qe_, qb2_ GE548.out GE549.out HB.out⟩
       ·rw [if_neg c90] at H
        have c90b0 : decide (t558 ≤ 0) = false := decide_eq_false c90
        clear c90
        obtain rfl := Option.some.inj H
        try go_wp2
        have n0_ := Aside0.mk (blk_drew BK548.out)
        have n1_ := Aside0.mk (blk_drew BK549.out)
        have n2_ := Aside0.mk (below_drew1 HB.out)
        clear BK548
        clear BK549
        clear HB
        have BK548 := n0_
        have BK549 := n1_
        have HB := n2_
        clear n0_ n1_ n2_
        refine start_ (n := 10) (S := fun w' => w'.cell? ⟨gb549, 0, none⟩ = some (.int .i64 a3_0) ∧ w'.cell? ⟨gb549, 1, none⟩ = some (.int .u64 a3_1)) (ds := []) (nb_ 10 0) (by kernel_rfl) rfl rfl ⟨(blk_cell BK549.out 0).trans rfl, (blk_cell BK549.out 1).trans rfl⟩ (fun hHeld => ?_); refine with_tabW corebanklaw02_near.tab3 corebanklaw02_near.bits3 (fun HT_ HW_ => ?_)
        generalize wc.drew = w98 at BK548 BK549 HB hHeld ⊢
        refine tk2_ 0 28 (nb_ 10 1) HT_.out HW_.out hHeld ?_
        refine tk2_ 4 32 (nb_ 10 17) HT_.out HW_.out hHeld ?_
        refine on_ 1 29 (nb_ 10 19) HT_.out (fun K hK => ?_)
        refine goes_ Tryd.func21 (by kernel_rfl) rfl #[.int .i64 0] (by rfl) rfl rfl ql_ ?_
        with_reducible refine (corebankref01_Of.calls 0 t556 t557 _ A23.out).mono ?_
        rintro e w99 ⟨rfl, hb⟩
        refine ⟨_, rfl, ?_⟩
        have n0_ := Aside0.mk (blk_below (qk_ BK548.out) hb)
        have n1_ := Aside0.mk (blk_below (qk_ BK549.out) hb)
        have n2_ := Aside0.mk (below_step (qb2_ GE548.out GE549.out HB.out) hb)
        clear BK548
        clear BK549
        clear HB
        have BK548 := n0_
        have BK549 := n1_
        have HB := n2_
        clear n0_ n1_ n2_
        (try clear hb)
        (try clear hb2)
        (try clear hk)
        (try clear hi)
        refine hK.out _ _ ⟨(blk_cell BK549.out 0).trans rfl, (blk_cell BK549.out 1).trans rfl⟩ (fun hHeld => ?_)
        clear hK K
        refine no_ ?_
        refine on_ 2 30 (nb_ 10 23) HT_.out (fun K hK => ?_)
        refine goes_ Tryd.func20 (by kernel_rfl) rfl #[.agg #[.int .i64 a3_0, .int .u64 a3_1], .agg #[.int .i64 t556, .int .u64 t557]] (by rfl) rfl rfl ql_ ?_
        with_reducible refine (corebankref01_Cmp.calls a3_0 a3_1 t556 t557 t558 _ A24.out).mono ?_
        rintro e w100 ⟨rfl, hb⟩
        refine ⟨_, rfl, ?_⟩
        have n0_ := Aside0.mk (blk_below (qk_ BK548.out) hb)
        have n1_ := Aside0.mk (blk_below (qk_ BK549.out) hb)
        have n2_ := Aside0.mk (below_step (qb2_ GE548.out GE549.out HB.out) hb)
        clear BK548
        clear BK549
        clear HB
        have BK548 := n0_
        have BK549 := n1_
        have HB := n2_
        clear n0_ n1_ n2_
        (try clear hb)
        (try clear hb2)
        (try clear hk)
        (try clear hi)
        refine hK.out _ _ ⟨(blk_cell BK549.out 0).trans rfl, (blk_cell BK549.out 1).trans rfl⟩ (fun hHeld => ?_)
        clear hK K
        refine no_ ?_
        refine pz_ 3 31 (nb_ 10 31) HT_.out ?_
        refine on_ 5 33 (nb_ 10 63) HT_.out (fun K hK => ?_)
        refine goes_ Tryd.func21 (by kernel_rfl) rfl #[.int .i64 0] (by rfl) rfl rfl ql_ ?_
        with_reducible refine (corebankref01_Of.calls 0 t559 t560 _ A25.out).mono ?_
        rintro e w101 ⟨rfl, hb⟩
        refine ⟨_, rfl, ?_⟩
        have n0_ := Aside0.mk (blk_below (qk_ BK548.out) hb)
        have n1_ := Aside0.mk (blk_below (qk_ BK549.out) hb)
        have n2_ := Aside0.mk (below_step (qb2_ GE548.out GE549.out HB.out) hb)
        clear BK548
        clear BK549
        clear HB
        have BK548 := n0_
        have BK549 := n1_
        have HB := n2_
        clear n0_ n1_ n2_
        (try clear hb)
        (try clear hb2)
        (try clear hk)
        (try clear hi)
        refine hK.out _ _ ⟨(blk_cell BK549.out 0).trans rfl, (blk_cell BK549.out 1).trans rfl⟩ (fun hHeld => ?_)
        clear hK K
        refine no_ ?_
        refine on_ 6 34 (nb_ 10 127) HT_.out (fun K hK => ?_)
        refine goes_ Tryd.func20 (by kernel_rfl) rfl #[.agg #[.int .i64 a3_0, .int .u64 a3_1], .agg #[.int .i64 t559, .int .u64 t560]] (by rfl) rfl rfl ql_ ?_
        with_reducible refine (corebankref01_Cmp.calls a3_0 a3_1 t559 t560 t561 _ A26.out).mono ?_
        rintro e w102 ⟨rfl, hb⟩
        refine ⟨_, rfl, ?_⟩
        have n0_ := Aside0.mk (blk_below (qk_ BK548.out) hb)
        have n1_ := Aside0.mk (blk_below (qk_ BK549.out) hb)
        have n2_ := Aside0.mk (below_step (qb2_ GE548.out GE549.out HB.out) hb)
        clear BK548
        clear BK549
        clear HB
        have BK548 := n0_
        have BK549 := n1_
        have HB := n2_
        clear n0_ n1_ n2_
        (try clear hb)
        (try clear hb2)
        (try clear hk)
        (try clear hi)
        refine hK.out _ _ ⟨(blk_cell BK549.out 0).trans rfl, (blk_cell BK549.out 1).trans rfl⟩ (fun hHeld => ?_)
        clear hK K
        refine no_ ?_
        refine pz_ 7 35 (nb_ 10 255) HT_.out ?_
        refine pz_ 8 11 (nb_ 10 511) HT_.out ?_
        refine pz_ 9 12 (nb_ 10 1023) HT_.out ?_
        refine done_ (done_of HT_.out (by kernel_rfl)) ?_
        try go_wp2
        go_ret
        exact ⟨qe_, qb2_ GE548.out GE549.out HB.out⟩
     ·rw [if_neg c65] at H
      have c65b0 : (a4 == 2) = false := beq_eq_false_iff_ne.mpr c65
      have c65b1 : (a4 != 2) = true := bne_iff_ne.mpr c65
      by_cases c103 : a4 = 3
      ·rw [if_pos c103] at H
       have c103b0 : (a4 == 3) = true := beq_iff_eq.mpr c103
       have c103b1 : (a4 != 3) = false := bne_eq_false_iff_eq.mpr c103
       clear c103
       obtain rfl := Option.some.inj H
       try go_wp2
       have n0_ := Aside0.mk (blk_drew BK548.out)
       have n1_ := Aside0.mk (blk_drew BK549.out)
       have n2_ := Aside0.mk (below_drew1 HB.out)
       clear BK548
       clear BK549
       clear HB
       have BK548 := n0_
       have BK549 := n1_
       have HB := n2_
       clear n0_ n1_ n2_
       refine start_ (n := 10) (S := fun w' => w'.cell? ⟨gb549, 0, none⟩ = some (.int .i64 a3_0) ∧ w'.cell? ⟨gb549, 1, none⟩ = some (.int .u64 a3_1)) (ds := []) (nb_ 10 0) (by kernel_rfl) rfl rfl ⟨(blk_cell BK549.out 0).trans rfl, (blk_cell BK549.out 1).trans rfl⟩ (fun hHeld => ?_); refine with_tabW corebanklaw02_near.tab3 corebanklaw02_near.bits3 (fun HT_ HW_ => ?_)
       generalize wc.drew = w104 at BK548 BK549 HB hHeld ⊢
       refine tk2_ 0 28 (nb_ 10 1) HT_.out HW_.out hHeld ?_
       refine tk2_ 4 32 (nb_ 10 17) HT_.out HW_.out hHeld ?_
       refine on_ 1 29 (nb_ 10 19) HT_.out (fun K hK => ?_)
       refine goes_ Tryd.func21 (by kernel_rfl) rfl #[.int .i64 0] (by rfl) rfl rfl ql_ ?_
       with_reducible refine (corebankref01_Of.calls 0 t556 t557 _ A23.out).mono ?_
       rintro e w105 ⟨rfl, hb⟩
       refine ⟨_, rfl, ?_⟩
       have n0_ := Aside0.mk (blk_below (qk_ BK548.out) hb)
       have n1_ := Aside0.mk (blk_below (qk_ BK549.out) hb)
       have n2_ := Aside0.mk (below_step (qb2_ GE548.out GE549.out HB.out) hb)
       clear BK548
       clear BK549
       clear HB
       have BK548 := n0_
       have BK549 := n1_
       have HB := n2_
       clear n0_ n1_ n2_
       (try clear hb)
       (try clear hb2)
       (try clear hk)
       (try clear hi)
       refine hK.out _ _ ⟨(blk_cell BK549.out 0).trans rfl, (blk_cell BK549.out 1).trans rfl⟩ (fun hHeld => ?_)
       clear hK K
       refine no_ ?_
       refine on_ 2 30 (nb_ 10 23) HT_.out (fun K hK => ?_)
       refine goes_ Tryd.func20 (by kernel_rfl) rfl #[.agg #[.int .i64 a3_0, .int .u64 a3_1], .agg #[.int .i64 t556, .int .u64 t557]] (by rfl) rfl rfl ql_ ?_
       with_reducible refine (corebankref01_Cmp.calls a3_0 a3_1 t556 t557 t558 _ A24.out).mono ?_
       rintro e w106 ⟨rfl, hb⟩
       refine ⟨_, rfl, ?_⟩
       have n0_ := Aside0.mk (blk_below (qk_ BK548.out) hb)
       have n1_ := Aside0.mk (blk_below (qk_ BK549.out) hb)
       have n2_ := Aside0.mk (below_step (qb2_ GE548.out GE549.out HB.out) hb)
       clear BK548
       clear BK549
       clear HB
       have BK548 := n0_
       have BK549 := n1_
       have HB := n2_
       clear n0_ n1_ n2_
       (try clear hb)
       (try clear hb2)
       (try clear hk)
       (try clear hi)
       refine hK.out _ _ ⟨(blk_cell BK549.out 0).trans rfl, (blk_cell BK549.out 1).trans rfl⟩ (fun hHeld => ?_)
       clear hK K
       refine no_ ?_
       refine pz_ 3 31 (nb_ 10 31) HT_.out ?_
       refine on_ 5 33 (nb_ 10 63) HT_.out (fun K hK => ?_)
       refine goes_ Tryd.func21 (by kernel_rfl) rfl #[.int .i64 0] (by rfl) rfl rfl ql_ ?_
       with_reducible refine (corebankref01_Of.calls 0 t559 t560 _ A25.out).mono ?_
       rintro e w107 ⟨rfl, hb⟩
       refine ⟨_, rfl, ?_⟩
       have n0_ := Aside0.mk (blk_below (qk_ BK548.out) hb)
       have n1_ := Aside0.mk (blk_below (qk_ BK549.out) hb)
       have n2_ := Aside0.mk (below_step (qb2_ GE548.out GE549.out HB.out) hb)
       clear BK548
       clear BK549
       clear HB
       have BK548 := n0_
       have BK549 := n1_
       have HB := n2_
       clear n0_ n1_ n2_
       (try clear hb)
       (try clear hb2)
       (try clear hk)
       (try clear hi)
       refine hK.out _ _ ⟨(blk_cell BK549.out 0).trans rfl, (blk_cell BK549.out 1).trans rfl⟩ (fun hHeld => ?_)
       clear hK K
       refine no_ ?_
       refine on_ 6 34 (nb_ 10 127) HT_.out (fun K hK => ?_)
       refine goes_ Tryd.func20 (by kernel_rfl) rfl #[.agg #[.int .i64 a3_0, .int .u64 a3_1], .agg #[.int .i64 t559, .int .u64 t560]] (by rfl) rfl rfl ql_ ?_
       with_reducible refine (corebankref01_Cmp.calls a3_0 a3_1 t559 t560 t561 _ A26.out).mono ?_
       rintro e w108 ⟨rfl, hb⟩
       refine ⟨_, rfl, ?_⟩
       have n0_ := Aside0.mk (blk_below (qk_ BK548.out) hb)
       have n1_ := Aside0.mk (blk_below (qk_ BK549.out) hb)
       have n2_ := Aside0.mk (below_step (qb2_ GE548.out GE549.out HB.out) hb)
       clear BK548
       clear BK549
       clear HB
       have BK548 := n0_
       have BK549 := n1_
       have HB := n2_
       clear n0_ n1_ n2_
       (try clear hb)
       (try clear hb2)
       (try clear hk)
       (try clear hi)
       refine hK.out _ _ ⟨(blk_cell BK549.out 0).trans rfl, (blk_cell BK549.out 1).trans rfl⟩ (fun hHeld => ?_)
       clear hK K
       refine no_ ?_
       refine pz_ 7 35 (nb_ 10 255) HT_.out ?_
       refine pz_ 8 11 (nb_ 10 511) HT_.out ?_
       refine pz_ 9 12 (nb_ 10 1023) HT_.out ?_
       refine done_ (done_of HT_.out (by kernel_rfl)) ?_
       try go_wp2
       go_ret
       exact ⟨qe_, qb2_ GE548.out GE549.out HB.out⟩
      ·rw [if_neg c103] at H
       have c103b0 : (a4 == 3) = false := beq_eq_false_iff_ne.mpr c103
       have c103b1 : (a4 != 3) = true := bne_iff_ne.mpr c103
       by_cases c109 : a4 = 4
       ·rw [if_pos c109] at H
        have c109b0 : (a4 == 4) = true := beq_iff_eq.mpr c109
        have c109b1 : (a4 != 4) = false := bne_eq_false_iff_eq.mpr c109
        clear c109
        obtain rfl := Option.some.inj H
        try go_wp2
        have n0_ := Aside0.mk (blk_drew BK548.out)
        have n1_ := Aside0.mk (blk_drew BK549.out)
        have n2_ := Aside0.mk (below_drew1 HB.out)
        clear BK548
        clear BK549
        clear HB
        have BK548 := n0_
        have BK549 := n1_
        have HB := n2_
        clear n0_ n1_ n2_
        refine start_ (n := 10) (S := fun w' => w'.cell? ⟨gb549, 0, none⟩ = some (.int .i64 a3_0) ∧ w'.cell? ⟨gb549, 1, none⟩ = some (.int .u64 a3_1)) (ds := []) (nb_ 10 0) (by kernel_rfl) rfl rfl ⟨(blk_cell BK549.out 0).trans rfl, (blk_cell BK549.out 1).trans rfl⟩ (fun hHeld => ?_); refine with_tabW corebanklaw02_near.tab3 corebanklaw02_near.bits3 (fun HT_ HW_ => ?_)
        generalize wc.drew = w110 at BK548 BK549 HB hHeld ⊢
        refine tk2_ 0 28 (nb_ 10 1) HT_.out HW_.out hHeld ?_
        refine tk2_ 4 32 (nb_ 10 17) HT_.out HW_.out hHeld ?_
        refine on_ 1 29 (nb_ 10 19) HT_.out (fun K hK => ?_)
        refine goes_ Tryd.func21 (by kernel_rfl) rfl #[.int .i64 0] (by rfl) rfl rfl ql_ ?_
        with_reducible refine (corebankref01_Of.calls 0 t556 t557 _ A23.out).mono ?_
        rintro e w111 ⟨rfl, hb⟩
        refine ⟨_, rfl, ?_⟩
        have n0_ := Aside0.mk (blk_below (qk_ BK548.out) hb)
        have n1_ := Aside0.mk (blk_below (qk_ BK549.out) hb)
        have n2_ := Aside0.mk (below_step (qb2_ GE548.out GE549.out HB.out) hb)
        clear BK548
        clear BK549
        clear HB
        have BK548 := n0_
        have BK549 := n1_
        have HB := n2_
        clear n0_ n1_ n2_
        (try clear hb)
        (try clear hb2)
        (try clear hk)
        (try clear hi)
        refine hK.out _ _ ⟨(blk_cell BK549.out 0).trans rfl, (blk_cell BK549.out 1).trans rfl⟩ (fun hHeld => ?_)
        clear hK K
        refine no_ ?_
        refine on_ 2 30 (nb_ 10 23) HT_.out (fun K hK => ?_)
        refine goes_ Tryd.func20 (by kernel_rfl) rfl #[.agg #[.int .i64 a3_0, .int .u64 a3_1], .agg #[.int .i64 t556, .int .u64 t557]] (by rfl) rfl rfl ql_ ?_
        with_reducible refine (corebankref01_Cmp.calls a3_0 a3_1 t556 t557 t558 _ A24.out).mono ?_
        rintro e w112 ⟨rfl, hb⟩
        refine ⟨_, rfl, ?_⟩
        have n0_ := Aside0.mk (blk_below (qk_ BK548.out) hb)
        have n1_ := Aside0.mk (blk_below (qk_ BK549.out) hb)
        have n2_ := Aside0.mk (below_step (qb2_ GE548.out GE549.out HB.out) hb)
        clear BK548
        clear BK549
        clear HB
        have BK548 := n0_
        have BK549 := n1_
        have HB := n2_
        clear n0_ n1_ n2_
        (try clear hb)
        (try clear hb2)
        (try clear hk)
        (try clear hi)
        refine hK.out _ _ ⟨(blk_cell BK549.out 0).trans rfl, (blk_cell BK549.out 1).trans rfl⟩ (fun hHeld => ?_)
        clear hK K
        refine no_ ?_
        refine pz_ 3 31 (nb_ 10 31) HT_.out ?_
        refine on_ 5 33 (nb_ 10 63) HT_.out (fun K hK => ?_)
        refine goes_ Tryd.func21 (by kernel_rfl) rfl #[.int .i64 0] (by rfl) rfl rfl ql_ ?_
        with_reducible refine (corebankref01_Of.calls 0 t559 t560 _ A25.out).mono ?_
        rintro e w113 ⟨rfl, hb⟩
        refine ⟨_, rfl, ?_⟩
        have n0_ := Aside0.mk (blk_below (qk_ BK548.out) hb)
        have n1_ := Aside0.mk (blk_below (qk_ BK549.out) hb)
        have n2_ := Aside0.mk (below_step (qb2_ GE548.out GE549.out HB.out) hb)
        clear BK548
        clear BK549
        clear HB
        have BK548 := n0_
        have BK549 := n1_
        have HB := n2_
        clear n0_ n1_ n2_
        (try clear hb)
        (try clear hb2)
        (try clear hk)
        (try clear hi)
        refine hK.out _ _ ⟨(blk_cell BK549.out 0).trans rfl, (blk_cell BK549.out 1).trans rfl⟩ (fun hHeld => ?_)
        clear hK K
        refine no_ ?_
        refine on_ 6 34 (nb_ 10 127) HT_.out (fun K hK => ?_)
        refine goes_ Tryd.func20 (by kernel_rfl) rfl #[.agg #[.int .i64 a3_0, .int .u64 a3_1], .agg #[.int .i64 t559, .int .u64 t560]] (by rfl) rfl rfl ql_ ?_
        with_reducible refine (corebankref01_Cmp.calls a3_0 a3_1 t559 t560 t561 _ A26.out).mono ?_
        rintro e w114 ⟨rfl, hb⟩
        refine ⟨_, rfl, ?_⟩
        have n0_ := Aside0.mk (blk_below (qk_ BK548.out) hb)
        have n1_ := Aside0.mk (blk_below (qk_ BK549.out) hb)
        have n2_ := Aside0.mk (below_step (qb2_ GE548.out GE549.out HB.out) hb)
        clear BK548
        clear BK549
        clear HB
        have BK548 := n0_
        have BK549 := n1_
        have HB := n2_
        clear n0_ n1_ n2_
        (try clear hb)
        (try clear hb2)
        (try clear hk)
        (try clear hi)
        refine hK.out _ _ ⟨(blk_cell BK549.out 0).trans rfl, (blk_cell BK549.out 1).trans rfl⟩ (fun hHeld => ?_)
        clear hK K
        refine no_ ?_
        refine pz_ 7 35 (nb_ 10 255) HT_.out ?_
        refine pz_ 8 11 (nb_ 10 511) HT_.out ?_
        refine pz_ 9 12 (nb_ 10 1023) HT_.out ?_
        refine done_ (done_of HT_.out (by kernel_rfl)) ?_
        try go_wp2
        go_ret
        exact ⟨qe_, qb2_ GE548.out GE549.out HB.out⟩
       ·rw [if_neg c109] at H
        have c109b0 : (a4 == 4) = false := beq_eq_false_iff_ne.mpr c109
        have c109b1 : (a4 != 4) = true := bne_iff_ne.mpr c109
        replace H := Option.bind_eq_some_iff.mp H
        obtain ⟨⟨t562, t563, t564⟩, A1150, H⟩ := H
        replace H : ((corebankref01_Of.f a2).bind fun bt566 => ((corebankref01_Cmp.f t562 t563 bt566.1 bt566.2).bind fun t568 => (if t568 < 0 then ((corebankref01_Of.f (wrap64 (-a2))).bind fun bt569 => ((corebankref01_Cmp.f t562 t563 bt569.1 bt569.2).bind fun t571 => (corebanklaw02_near.j1 kj5 a1 a2 a4 (decide (t558 ≤ 0)) (decide (t561 ≥ 0)) (decide (t571 > 0)) a0_0 a0_1 t562 t563))) else (corebanklaw02_near.j1 kj5 a1 a2 a4 (decide (t558 ≤ 0)) (decide (t561 ≥ 0)) false a0_0 a0_1 t562 t563)))) = some r := H
        have A115 := Aside0.mk A1150
        clear A1150
        have HC116 := Aside0.mk H
        clear H
        try go_wp2
        have n0_ := Aside0.mk (blk_drew BK548.out)
        have n1_ := Aside0.mk (blk_drew BK549.out)
        have n2_ := Aside0.mk (below_drew1 HB.out)
        clear BK548
        clear BK549
        clear HB
        have BK548 := n0_
        have BK549 := n1_
        have HB := n2_
        clear n0_ n1_ n2_
        refine start_ (n := 10) (S := fun w' => w'.cell? ⟨gb549, 0, none⟩ = some (.int .i64 a3_0) ∧ w'.cell? ⟨gb549, 1, none⟩ = some (.int .u64 a3_1)) (ds := []) (nb_ 10 0) (by kernel_rfl) rfl rfl ⟨(blk_cell BK549.out 0).trans rfl, (blk_cell BK549.out 1).trans rfl⟩ (fun hHeld => ?_); refine with_tabW corebanklaw02_near.tab3 corebanklaw02_near.bits3 (fun HT_ HW_ => ?_)
        generalize wc.drew = w117 at BK548 BK549 HB hHeld ⊢
        refine tk2_ 0 28 (nb_ 10 1) HT_.out HW_.out hHeld ?_
        refine tk2_ 4 32 (nb_ 10 17) HT_.out HW_.out hHeld ?_
        refine on_ 1 29 (nb_ 10 19) HT_.out (fun K hK => ?_)
        refine goes_ Tryd.func21 (by kernel_rfl) rfl #[.int .i64 0] (by rfl) rfl rfl ql_ ?_
        with_reducible refine (corebankref01_Of.calls 0 t556 t557 _ A23.out).mono ?_
        rintro e w118 ⟨rfl, hb⟩
        refine ⟨_, rfl, ?_⟩
        have n0_ := Aside0.mk (blk_below (qk_ BK548.out) hb)
        have n1_ := Aside0.mk (blk_below (qk_ BK549.out) hb)
        have n2_ := Aside0.mk (below_step (qb2_ GE548.out GE549.out HB.out) hb)
        clear BK548
        clear BK549
        clear HB
        have BK548 := n0_
        have BK549 := n1_
        have HB := n2_
        clear n0_ n1_ n2_
        (try clear hb)
        (try clear hb2)
        (try clear hk)
        (try clear hi)
        refine hK.out _ _ ⟨(blk_cell BK549.out 0).trans rfl, (blk_cell BK549.out 1).trans rfl⟩ (fun hHeld => ?_)
        clear hK K
        refine no_ ?_
        refine on_ 2 30 (nb_ 10 23) HT_.out (fun K hK => ?_)
        refine goes_ Tryd.func20 (by kernel_rfl) rfl #[.agg #[.int .i64 a3_0, .int .u64 a3_1], .agg #[.int .i64 t556, .int .u64 t557]] (by rfl) rfl rfl ql_ ?_
        with_reducible refine (corebankref01_Cmp.calls a3_0 a3_1 t556 t557 t558 _ A24.out).mono ?_
        rintro e w119 ⟨rfl, hb⟩
        refine ⟨_, rfl, ?_⟩
        have n0_ := Aside0.mk (blk_below (qk_ BK548.out) hb)
        have n1_ := Aside0.mk (blk_below (qk_ BK549.out) hb)
        have n2_ := Aside0.mk (below_step (qb2_ GE548.out GE549.out HB.out) hb)
        clear BK548
        clear BK549
        clear HB
        have BK548 := n0_
        have BK549 := n1_
        have HB := n2_
        clear n0_ n1_ n2_
        (try clear hb)
        (try clear hb2)
        (try clear hk)
        (try clear hi)
        refine hK.out _ _ ⟨(blk_cell BK549.out 0).trans rfl, (blk_cell BK549.out 1).trans rfl⟩ (fun hHeld => ?_)
        clear hK K
        refine no_ ?_
        refine pz_ 3 31 (nb_ 10 31) HT_.out ?_
        refine on_ 5 33 (nb_ 10 63) HT_.out (fun K hK => ?_)
        refine goes_ Tryd.func21 (by kernel_rfl) rfl #[.int .i64 0] (by rfl) rfl rfl ql_ ?_
        with_reducible refine (corebankref01_Of.calls 0 t559 t560 _ A25.out).mono ?_
        rintro e w120 ⟨rfl, hb⟩
        refine ⟨_, rfl, ?_⟩
        have n0_ := Aside0.mk (blk_below (qk_ BK548.out) hb)
        have n1_ := Aside0.mk (blk_below (qk_ BK549.out) hb)
        have n2_ := Aside0.mk (below_step (qb2_ GE548.out GE549.out HB.out) hb)
        clear BK548
        clear BK549
        clear HB
        have BK548 := n0_
        have BK549 := n1_
        have HB := n2_
        clear n0_ n1_ n2_
        (try clear hb)
        (try clear hb2)
        (try clear hk)
        (try clear hi)
        refine hK.out _ _ ⟨(blk_cell BK549.out 0).trans rfl, (blk_cell BK549.out 1).trans rfl⟩ (fun hHeld => ?_)
        clear hK K
        refine no_ ?_
        refine on_ 6 34 (nb_ 10 127) HT_.out (fun K hK => ?_)
        refine goes_ Tryd.func20 (by kernel_rfl) rfl #[.agg #[.int .i64 a3_0, .int .u64 a3_1], .agg #[.int .i64 t559, .int .u64 t560]] (by rfl) rfl rfl ql_ ?_
        with_reducible refine (corebankref01_Cmp.calls a3_0 a3_1 t559 t560 t561 _ A26.out).mono ?_
        rintro e w121 ⟨rfl, hb⟩
        refine ⟨_, rfl, ?_⟩
        have n0_ := Aside0.mk (blk_below (qk_ BK548.out) hb)
        have n1_ := Aside0.mk (blk_below (qk_ BK549.out) hb)
        have n2_ := Aside0.mk (below_step (qb2_ GE548.out GE549.out HB.out) hb)
        clear BK548
        clear BK549
        clear HB
        have BK548 := n0_
        have BK549 := n1_
        have HB := n2_
        clear n0_ n1_ n2_
        (try clear hb)
        (try clear hb2)
        (try clear hk)
        (try clear hi)
        refine hK.out _ _ ⟨(blk_cell BK549.out 0).trans rfl, (blk_cell BK549.out 1).trans rfl⟩ (fun hHeld => ?_)
        clear hK K
        refine no_ ?_
        refine pz_ 7 35 (nb_ 10 255) HT_.out ?_
        refine pz_ 8 11 (nb_ 10 511) HT_.out ?_
        refine pz_ 9 12 (nb_ 10 1023) HT_.out ?_
        refine done_ (done_of HT_.out (by kernel_rfl)) ?_
        have hnb122 := NB549_548.out
        have hnc122 := NB548_549.out
        have hcz123_0 : w121.cell? ⟨gb549, 0, none⟩ = some (.int .i64 a3_0) := (blk_cell BK549.out 0).trans rfl
        have hcz123_1 : w121.cell? ⟨gb549, 1, none⟩ = some (.int .u64 a3_1) := (blk_cell BK549.out 1).trans rfl
        have hfz123_0 := blk_frozen BK549.out 0
        have hfz123_1 := blk_frozen BK549.out 1
        go_upto_region 14 with (first | ((with_reducible refine gate_callee (f := 45) rfl ?_); refine goesL_ (some 77) rfl rfl Tryd.func45 (by kernel_rfl) rfl #[.agg #[.int .i64 a3_0, .int .u64 a3_1], .int .i64 2] rfl ql_ ?_; (with_reducible refine (corebankref01_Scale.calls a3_0 a3_1 2 t562 t563 t564 _ A115.out).mono ?_); rintro e w124 ⟨rfl, hb⟩; refine ⟨_, rfl, ?_⟩; have n0_ := Aside0.mk (blk_below (qk_ BK548.out) hb); have n1_ := Aside0.mk (blk_below (qk_ BK549.out) hb); have n2_ := Aside0.mk (below_step (qb2_ GE548.out GE549.out HB.out) hb); clear BK548; clear BK549; clear HB; have BK548 := n0_; have BK549 := n1_; have HB := n2_; clear n0_ n1_ n2_; (try clear hb); (try clear hb2); (try clear hk); (try clear hi)) | ((with_reducible refine gate_dst (N := 13) rfl ?_); refine be_ (N := 13) (cs := #[.int .i64 0, .int .u64 0]) (t := 24) ?_; intro gb565 hg w125 hbox hb; have n0_ := Aside0.mk (blk_below (qk_ BK548.out) hb); have n1_ := Aside0.mk (blk_below (qk_ BK549.out) hb); have n2_ := Aside0.mk (below_step (qb2_ GE548.out GE549.out HB.out) hb); have n3_ := Aside0.mk (hbox); have n4_ := Aside0.mk (bz_ hg (qb2_ GE548.out GE549.out HB.out) : w.heap.size ≤ gb565); have n5_ := n4_; have n6_ := Aside0.mk (nl_ hg (qk_ BK548.out) : gb548 ≠ gb565); have n7_ := Aside0.mk (ng_ hg (qk_ BK548.out) : gb565 ≠ gb548); have n8_ := Aside0.mk (nl_ hg (qk_ BK549.out) : gb549 ≠ gb565); have n9_ := Aside0.mk (ng_ hg (qk_ BK549.out) : gb565 ≠ gb549); clear BK548; clear BK549; clear HB; have BK548 := n0_; have BK549 := n1_; have HB := n2_; have BK565 := n3_; have GW565 := n4_; have GE565 := n5_; have NB548_565 := n6_; have NB565_548 := n7_; have NB549_565 := n8_; have NB565_549 := n9_; clear n0_ n1_ n2_ n3_ n4_ n5_ n6_ n7_ n8_ n9_; clear hb hbox hg; have hnb126 := NB565_548.out; have hnc126 := NB548_565.out; have hnb127 := NB565_549.out; have hnc127 := NB549_565.out; have hcz128_0 : w125.cell? ⟨gb565, 0, none⟩ = some (.int .i64 0) := (blk_cell BK565.out 0).trans rfl; have hcz128_1 : w125.cell? ⟨gb565, 1, none⟩ = some (.int .u64 0) := (blk_cell BK565.out 1).trans rfl; have hfz128_0 := blk_frozen BK565.out 0; have hfz128_1 := blk_frozen BK565.out 1))
        (try simp only [Act.put, List.setIfInBounds_toArray, List.set_cons_zero, List.set_cons_succ])
        go_cut [92] (fun v92 wc => ∃ (kq : Nat) (x92_115 : Bool), v92 = .bool x92_115 ∧ Aside0 (corebanklaw02_near.j1 kq a1 a2 a4 (decide (t558 ≤ 0)) (decide (t561 ≥ 0)) x92_115 a0_0 a0_1 t562 t563 = some r) ∧ Aside0 (kq ≤ kj5) ∧ Aside0 (wc.heap[gb548]? = some (.cells #[.int .i64 a0_0, .int .u64 a0_1] 24 (0, 0))) ∧ Aside0 (wc.heap[gb549]? = some (.cells #[.int .i64 a3_0, .int .u64 a3_1] 24 (0, 0))) ∧ Aside0 (wc.heap[gb565]? = some (.cells #[.int .i64 t562, .int .u64 t563] 24 (0, 0))) ∧ Aside0 (Below w.heap.size w wc))
        case first =>
         have H := HC116.out
         clear HC116
         replace H := Option.bind_eq_some_iff.mp H
         obtain ⟨⟨t566, t567⟩, A1290, H⟩ := H
         replace H : ((corebankref01_Cmp.f t562 t563 t566 t567).bind fun t568 => (if t568 < 0 then ((corebankref01_Of.f (wrap64 (-a2))).bind fun bt569 => ((corebankref01_Cmp.f t562 t563 bt569.1 bt569.2).bind fun t571 => (corebanklaw02_near.j1 kj5 a1 a2 a4 (decide (t558 ≤ 0)) (decide (t561 ≥ 0)) (decide (t571 > 0)) a0_0 a0_1 t562 t563))) else (corebanklaw02_near.j1 kj5 a1 a2 a4 (decide (t558 ≤ 0)) (decide (t561 ≥ 0)) false a0_0 a0_1 t562 t563))) = some r := H
         have A129 := Aside0.mk A1290
         clear A1290
         replace H := Option.bind_eq_some_iff.mp H
         obtain ⟨t568, A1300, H⟩ := H
         replace H : (if t568 < 0 then ((corebankref01_Of.f (wrap64 (-a2))).bind fun bt569 => ((corebankref01_Cmp.f t562 t563 bt569.1 bt569.2).bind fun t571 => (corebanklaw02_near.j1 kj5 a1 a2 a4 (decide (t558 ≤ 0)) (decide (t561 ≥ 0)) (decide (t571 > 0)) a0_0 a0_1 t562 t563))) else (corebanklaw02_near.j1 kj5 a1 a2 a4 (decide (t558 ≤ 0)) (decide (t561 ≥ 0)) false a0_0 a0_1 t562 t563)) = some r := H
         have A130 := Aside0.mk A1300
         clear A1300
         by_cases c131 : t568 < 0
         ·rw [if_pos c131] at H
          have c131b0 : decide (t568 < 0) = true := decide_eq_true c131
          clear c131
          (first | rw [c131b0] | (simp only [i64_w, i32_w]; rw [c131b0]) | skip)
          replace H := Option.bind_eq_some_iff.mp H
          obtain ⟨⟨t569, t570⟩, A1320, H⟩ := H
          replace H : ((corebankref01_Cmp.f t562 t563 t569 t570).bind fun t571 => (corebanklaw02_near.j1 kj5 a1 a2 a4 (decide (t558 ≤ 0)) (decide (t561 ≥ 0)) (decide (t571 > 0)) a0_0 a0_1 t562 t563)) = some r := H
          have A132 := Aside0.mk A1320
          clear A1320
          replace H := Option.bind_eq_some_iff.mp H
          obtain ⟨t571, A1330, H⟩ := H
          replace H : (corebanklaw02_near.j1 kj5 a1 a2 a4 (decide (t558 ≤ 0)) (decide (t561 ≥ 0)) (decide (t571 > 0)) a0_0 a0_1 t562 t563) = some r := H
          have A133 := Aside0.mk A1330
          clear A1330
          have H' := Aside0.mk H
          clear H
          try go_wp2
          have n0_ : Aside0 (((w125.setCell ⟨gb565, 0, none⟩ (.int .i64 t562)).setCell ⟨gb565, 1, none⟩ (.int .u64 t563)).heap[gb548]? = some (.cells #[.int .i64 a0_0, .int .u64 a0_1] 24 (0, 0))) := ⟨qff_ NB548_565.out NB548_565.out BK548.out⟩
          have n1_ : Aside0 (((w125.setCell ⟨gb565, 0, none⟩ (.int .i64 t562)).setCell ⟨gb565, 1, none⟩ (.int .u64 t563)).heap[gb549]? = some (.cells #[.int .i64 a3_0, .int .u64 a3_1] 24 (0, 0))) := ⟨qff_ NB549_565.out NB549_565.out BK549.out⟩
          have n2_ : Aside0 (((w125.setCell ⟨gb565, 0, none⟩ (.int .i64 t562)).setCell ⟨gb565, 1, none⟩ (.int .u64 t563)).heap[gb565]? = some (.cells #[.int .i64 t562, .int .u64 t563] 24 (0, 0))) := ⟨qpp_ #[.int .i64 t562, .int .u64 0] 1 #[.int .i64 0, .int .u64 0] 0 BK565.out⟩
          have n3_ : Aside0 (Below w.heap.size w ((w125.setCell ⟨gb565, 0, none⟩ (.int .i64 t562)).setCell ⟨gb565, 1, none⟩ (.int .u64 t563))) := ⟨qb3_ GE548.out GE549.out GE565.out HB.out⟩
          (try clear BK548)
          (try clear BK549)
          (try clear BK565)
          (try clear HB)
          generalize ((w125.setCell ⟨gb565, 0, none⟩ (.int .i64 t562)).setCell ⟨gb565, 1, none⟩ (.int .u64 t563)) = w134 at n0_ n1_ n2_ n3_ ⊢
          have BK548 := n0_
          have BK549 := n1_
          have BK565 := n2_
          have HB := n3_
          clear n0_ n1_ n2_ n3_
          have n0_ := Aside0.mk (blk_drew BK548.out)
          have n1_ := Aside0.mk (blk_drew BK549.out)
          have n2_ := Aside0.mk (blk_drew BK565.out)
          have n3_ := Aside0.mk (below_drew1 HB.out)
          clear BK548
          clear BK549
          clear BK565
          clear HB
          have BK548 := n0_
          have BK549 := n1_
          have BK565 := n2_
          have HB := n3_
          clear n0_ n1_ n2_ n3_
          refine start_ (n := 13) (S := fun w' => w'.cell? ⟨gb565, 0, none⟩ = some (.int .i64 t562) ∧ w'.cell? ⟨gb565, 1, none⟩ = some (.int .u64 t563)) (ds := []) (nb_ 13 0) (by kernel_rfl) rfl rfl ⟨(blk_cell BK565.out 0).trans rfl, (blk_cell BK565.out 1).trans rfl⟩ (fun hHeld => ?_); refine with_tabW corebanklaw02_near.tab14 corebanklaw02_near.bits14 (fun HT_ HW_ => ?_)
          generalize w134.drew = w135 at BK548 BK549 BK565 HB hHeld ⊢
          refine pz_ 1 81 (nb_ 13 2) HT_.out ?_
          refine tk2_ 0 80 (nb_ 13 3) HT_.out HW_.out hHeld ?_
          refine on_ 2 82 (nb_ 13 7) HT_.out (fun K hK => ?_)
          refine goes_ Tryd.func21 (by kernel_rfl) rfl #[.int .i64 a2] (by rfl) rfl rfl ql_ ?_
          with_reducible refine (corebankref01_Of.calls a2 t566 t567 _ A129.out).mono ?_
          rintro e w136 ⟨rfl, hb⟩
          refine ⟨_, rfl, ?_⟩
          have n0_ := Aside0.mk (blk_below (qk_ BK548.out) hb)
          have n1_ := Aside0.mk (blk_below (qk_ BK549.out) hb)
          have n2_ := Aside0.mk (blk_below (qk_ BK565.out) hb)
          have n3_ := Aside0.mk (below_step (qb3_ GE548.out GE549.out GE565.out HB.out) hb)
          clear BK548
          clear BK549
          clear BK565
          clear HB
          have BK548 := n0_
          have BK549 := n1_
          have BK565 := n2_
          have HB := n3_
          clear n0_ n1_ n2_ n3_
          (try clear hb)
          (try clear hb2)
          (try clear hk)
          (try clear hi)
          refine hK.out _ _ ⟨(blk_cell BK565.out 0).trans rfl, (blk_cell BK565.out 1).trans rfl⟩ (fun hHeld => ?_)
          clear hK K
          refine no_ ?_
          refine on_ 3 83 (nb_ 13 15) HT_.out (fun K hK => ?_)
          refine goes_ Tryd.func20 (by kernel_rfl) rfl #[.agg #[.int .i64 t562, .int .u64 t563], .agg #[.int .i64 t566, .int .u64 t567]] (by rfl) rfl rfl ql_ ?_
          with_reducible refine (corebankref01_Cmp.calls t562 t563 t566 t567 t568 _ A130.out).mono ?_
          rintro e w137 ⟨rfl, hb⟩
          refine ⟨_, rfl, ?_⟩
          have n0_ := Aside0.mk (blk_below (qk_ BK548.out) hb)
          have n1_ := Aside0.mk (blk_below (qk_ BK549.out) hb)
          have n2_ := Aside0.mk (blk_below (qk_ BK565.out) hb)
          have n3_ := Aside0.mk (below_step (qb3_ GE548.out GE549.out GE565.out HB.out) hb)
          clear BK548
          clear BK549
          clear BK565
          clear HB
          have BK548 := n0_
          have BK549 := n1_
          have BK565 := n2_
          have HB := n3_
          clear n0_ n1_ n2_ n3_
          (try clear hb)
          (try clear hb2)
          (try clear hk)
          (try clear hi)
          refine hK.out _ _ ⟨(blk_cell BK565.out 0).trans rfl, (blk_cell BK565.out 1).trans rfl⟩ (fun hHeld => ?_)
          clear hK K
          refine no_ ?_
          refine pz_ 4 84 (nb_ 13 31) HT_.out ?_
          refine pz_ 5 85 (nb_ 13 63) HT_.out ?_
          refine pz_ 7 87 (nb_ 13 191) HT_.out ?_
          refine pz_ 8 88 (nb_ 13 447) HT_.out ?_
          refine tk2_ 6 86 (nb_ 13 511) HT_.out HW_.out hHeld ?_
          refine on_ 9 89 (nb_ 13 1023) HT_.out (fun K hK => ?_)
          refine goes_ Tryd.func21 (by kernel_rfl) rfl #[.int .i64 (wrap64 (-a2))] (by rfl) rfl rfl ql_ ?_
          with_reducible refine (corebankref01_Of.calls (wrap64 (-a2)) t569 t570 _ A132.out).mono ?_
          rintro e w138 ⟨rfl, hb⟩
          refine ⟨_, rfl, ?_⟩
          have n0_ := Aside0.mk (blk_below (qk_ BK548.out) hb)
          have n1_ := Aside0.mk (blk_below (qk_ BK549.out) hb)
          have n2_ := Aside0.mk (blk_below (qk_ BK565.out) hb)
          have n3_ := Aside0.mk (below_step (qb3_ GE548.out GE549.out GE565.out HB.out) hb)
          clear BK548
          clear BK549
          clear BK565
          clear HB
          have BK548 := n0_
          have BK549 := n1_
          have BK565 := n2_
          have HB := n3_
          clear n0_ n1_ n2_ n3_
          (try clear hb)
          (try clear hb2)
          (try clear hk)
          (try clear hi)
          refine hK.out _ _ ⟨(blk_cell BK565.out 0).trans rfl, (blk_cell BK565.out 1).trans rfl⟩ (fun hHeld => ?_)
          clear hK K
          refine no_ ?_
          refine on_ 10 90 (nb_ 13 2047) HT_.out (fun K hK => ?_)
          refine goes_ Tryd.func20 (by kernel_rfl) rfl #[.agg #[.int .i64 t562, .int .u64 t563], .agg #[.int .i64 t569, .int .u64 t570]] (by rfl) rfl rfl ql_ ?_
          with_reducible refine (corebankref01_Cmp.calls t562 t563 t569 t570 t571 _ A133.out).mono ?_
          rintro e w139 ⟨rfl, hb⟩
          refine ⟨_, rfl, ?_⟩
          have n0_ := Aside0.mk (blk_below (qk_ BK548.out) hb)
          have n1_ := Aside0.mk (blk_below (qk_ BK549.out) hb)
          have n2_ := Aside0.mk (blk_below (qk_ BK565.out) hb)
          have n3_ := Aside0.mk (below_step (qb3_ GE548.out GE549.out GE565.out HB.out) hb)
          clear BK548
          clear BK549
          clear BK565
          clear HB
          have BK548 := n0_
          have BK549 := n1_
          have BK565 := n2_
          have HB := n3_
          clear n0_ n1_ n2_ n3_
          (try clear hb)
          (try clear hb2)
          (try clear hk)
          (try clear hi)
          refine hK.out _ _ ⟨(blk_cell BK565.out 0).trans rfl, (blk_cell BK565.out 1).trans rfl⟩ (fun hHeld => ?_)
          clear hK K
          refine no_ ?_
          refine pz_ 11 91 (nb_ 13 4095) HT_.out ?_
          refine pz_ 12 92 (nb_ 13 8191) HT_.out ?_
          refine done_ (done_of HT_.out (by kernel_rfl)) ?_
          try go_wp2
          go_meet
          case rel => exact ⟨_, (decide (t571 > 0)), qs_, H', ⟨by have := HJ5.out; first | omega | exact Nat.le_refl _⟩, ⟨qk_ BK548.out⟩, ⟨qk_ BK549.out⟩, ⟨qk_ BK565.out⟩, ⟨qb3_ GE548.out GE549.out GE565.out HB.out⟩⟩
         ·rw [if_neg c131] at H
          have c131b0 : decide (t568 < 0) = false := decide_eq_false c131
          clear c131
          (first | rw [c131b0] | (simp only [i64_w, i32_w]; rw [c131b0]) | skip)
          have H' := Aside0.mk H
          clear H
          try go_wp2
          have n0_ : Aside0 (((w125.setCell ⟨gb565, 0, none⟩ (.int .i64 t562)).setCell ⟨gb565, 1, none⟩ (.int .u64 t563)).heap[gb548]? = some (.cells #[.int .i64 a0_0, .int .u64 a0_1] 24 (0, 0))) := ⟨qff_ NB548_565.out NB548_565.out BK548.out⟩
          have n1_ : Aside0 (((w125.setCell ⟨gb565, 0, none⟩ (.int .i64 t562)).setCell ⟨gb565, 1, none⟩ (.int .u64 t563)).heap[gb549]? = some (.cells #[.int .i64 a3_0, .int .u64 a3_1] 24 (0, 0))) := ⟨qff_ NB549_565.out NB549_565.out BK549.out⟩
          have n2_ : Aside0 (((w125.setCell ⟨gb565, 0, none⟩ (.int .i64 t562)).setCell ⟨gb565, 1, none⟩ (.int .u64 t563)).heap[gb565]? = some (.cells #[.int .i64 t562, .int .u64 t563] 24 (0, 0))) := ⟨qpp_ #[.int .i64 t562, .int .u64 0] 1 #[.int .i64 0, .int .u64 0] 0 BK565.out⟩
          have n3_ : Aside0 (Below w.heap.size w ((w125.setCell ⟨gb565, 0, none⟩ (.int .i64 t562)).setCell ⟨gb565, 1, none⟩ (.int .u64 t563))) := ⟨qb3_ GE548.out GE549.out GE565.out HB.out⟩
          (try clear BK548)
          (try clear BK549)
          (try clear BK565)
          (try clear HB)
          generalize ((w125.setCell ⟨gb565, 0, none⟩ (.int .i64 t562)).setCell ⟨gb565, 1, none⟩ (.int .u64 t563)) = w140 at n0_ n1_ n2_ n3_ ⊢
          have BK548 := n0_
          have BK549 := n1_
          have BK565 := n2_
          have HB := n3_
          clear n0_ n1_ n2_ n3_
          have n0_ := Aside0.mk (blk_drew BK548.out)
          have n1_ := Aside0.mk (blk_drew BK549.out)
          have n2_ := Aside0.mk (blk_drew BK565.out)
          have n3_ := Aside0.mk (below_drew1 HB.out)
          clear BK548
          clear BK549
          clear BK565
          clear HB
          have BK548 := n0_
          have BK549 := n1_
          have BK565 := n2_
          have HB := n3_
          clear n0_ n1_ n2_ n3_
          refine start_ (n := 13) (S := fun w' => w'.cell? ⟨gb565, 0, none⟩ = some (.int .i64 t562) ∧ w'.cell? ⟨gb565, 1, none⟩ = some (.int .u64 t563)) (ds := []) (nb_ 13 0) (by kernel_rfl) rfl rfl ⟨(blk_cell BK565.out 0).trans rfl, (blk_cell BK565.out 1).trans rfl⟩ (fun hHeld => ?_); refine with_tabW corebanklaw02_near.tab14 corebanklaw02_near.bits14 (fun HT_ HW_ => ?_)
          generalize w140.drew = w141 at BK548 BK549 BK565 HB hHeld ⊢
          refine pz_ 1 81 (nb_ 13 2) HT_.out ?_
          refine tk2_ 0 80 (nb_ 13 3) HT_.out HW_.out hHeld ?_
          refine on_ 2 82 (nb_ 13 7) HT_.out (fun K hK => ?_)
          refine goes_ Tryd.func21 (by kernel_rfl) rfl #[.int .i64 a2] (by rfl) rfl rfl ql_ ?_
          with_reducible refine (corebankref01_Of.calls a2 t566 t567 _ A129.out).mono ?_
          rintro e w142 ⟨rfl, hb⟩
          refine ⟨_, rfl, ?_⟩
          have n0_ := Aside0.mk (blk_below (qk_ BK548.out) hb)
          have n1_ := Aside0.mk (blk_below (qk_ BK549.out) hb)
          have n2_ := Aside0.mk (blk_below (qk_ BK565.out) hb)
          have n3_ := Aside0.mk (below_step (qb3_ GE548.out GE549.out GE565.out HB.out) hb)
          clear BK548
          clear BK549
          clear BK565
          clear HB
          have BK548 := n0_
          have BK549 := n1_
          have BK565 := n2_
          have HB := n3_
          clear n0_ n1_ n2_ n3_
          (try clear hb)
          (try clear hb2)
          (try clear hk)
          (try clear hi)
          refine hK.out _ _ ⟨(blk_cell BK565.out 0).trans rfl, (blk_cell BK565.out 1).trans rfl⟩ (fun hHeld => ?_)
          clear hK K
          refine no_ ?_
          refine on_ 3 83 (nb_ 13 15) HT_.out (fun K hK => ?_)
          refine goes_ Tryd.func20 (by kernel_rfl) rfl #[.agg #[.int .i64 t562, .int .u64 t563], .agg #[.int .i64 t566, .int .u64 t567]] (by rfl) rfl rfl ql_ ?_
          with_reducible refine (corebankref01_Cmp.calls t562 t563 t566 t567 t568 _ A130.out).mono ?_
          rintro e w143 ⟨rfl, hb⟩
          refine ⟨_, rfl, ?_⟩
          have n0_ := Aside0.mk (blk_below (qk_ BK548.out) hb)
          have n1_ := Aside0.mk (blk_below (qk_ BK549.out) hb)
          have n2_ := Aside0.mk (blk_below (qk_ BK565.out) hb)
          have n3_ := Aside0.mk (below_step (qb3_ GE548.out GE549.out GE565.out HB.out) hb)
          clear BK548
          clear BK549
          clear BK565
          clear HB
          have BK548 := n0_
          have BK549 := n1_
          have BK565 := n2_
          have HB := n3_
          clear n0_ n1_ n2_ n3_
          (try clear hb)
          (try clear hb2)
          (try clear hk)
          (try clear hi)
          refine hK.out _ _ ⟨(blk_cell BK565.out 0).trans rfl, (blk_cell BK565.out 1).trans rfl⟩ (fun hHeld => ?_)
          clear hK K
          refine no_ ?_
          refine pz_ 4 84 (nb_ 13 31) HT_.out ?_
          refine pz_ 5 85 (nb_ 13 63) HT_.out ?_
          refine pu_ 6 86 (nb_ 13 127) HT_.out ?_
          refine pu_ 7 87 (nb_ 13 255) HT_.out ?_
          refine pu_ 8 88 (nb_ 13 511) HT_.out ?_
          refine pu_ 9 89 (nb_ 13 1023) HT_.out ?_
          refine pu_ 10 90 (nb_ 13 2047) HT_.out ?_
          refine pu_ 11 91 (nb_ 13 4095) HT_.out ?_
          refine pz_ 12 92 (nb_ 13 8191) HT_.out ?_
          refine done_ (done_of HT_.out (by kernel_rfl)) ?_
          try go_wp2
          go_meet
          case rel => exact ⟨_, (false), qs_, H', ⟨by have := HJ5.out; first | omega | exact Nat.le_refl _⟩, ⟨qk_ BK548.out⟩, ⟨qk_ BK549.out⟩, ⟨qk_ BK565.out⟩, ⟨qb3_ GE548.out GE549.out GE565.out HB.out⟩⟩
        case rest =>
         clear HC116
         try clear c1
         try clear c2
         try clear p2
         try clear c4
         try clear p6
         try clear c10
         try clear c12
         try clear c13
         try clear c20
         try clear c21
         try clear c45
         try clear p64
         try clear c109
         try clear c109b0
         try clear c109b1
         try clear c122
         try clear c126
         try clear c127
         try clear c131
         try clear c131b0
         try clear hcz123_0
         try clear hcz123_1
         try clear hcz128_0
         try clear hcz128_1
         try clear hfz123_0
         try clear hfz123_1
         try clear hfz128_0
         try clear hfz128_1
         obtain ⟨kq, x92_115, rfl, HA, HJ115, BK548, BK549, BK565, HB⟩ := hcut
         cases kq with
         | zero => exact absurd HA.out (by simp [corebanklaw02_near.j1])
         | succ kj115 =>
          have H := HA.out
          clear HA
          simp only [corebanklaw02_near.j1] at H
          by_cases c144 : x92_115 = true
          ·subst c144
           have H1 : (some true) = some r := by rw [if_pos rfl] at H; exact H
           clear H
           have H := H1
           clear H1
           obtain rfl := Option.some.inj H
           go_wp2
           go_ret
           exact ⟨qe_, qb3_ GE548.out GE549.out GE565.out HB.out⟩
          ·replace c144 := Bool.eq_false_iff.mpr c144
           subst c144
           have H1 : ((corebankref01_Of.f a2).bind fun bt572 => (if (t562 == bt572.1 && (t563 == bt572.2)) = true then (corebanklaw02_near.j2 kj115 a1 a4 (decide (t558 ≤ 0)) (decide (t561 ≥ 0)) true a0_0 a0_1) else ((corebankref01_Of.f (wrap64 (-a2))).bind fun bt574 => (corebanklaw02_near.j2 kj115 a1 a4 (decide (t558 ≤ 0)) (decide (t561 ≥ 0)) (t562 == bt574.1 && (t563 == bt574.2)) a0_0 a0_1)))) = some r := by rw [if_neg (show ¬ (false = true) by decide)] at H; exact H
           clear H
           have H := H1
           clear H1
           have HC145 := Aside0.mk H
           clear H
           go_upto_region 16 with (fail)
           go_cut [103] (fun v103 wc => ∃ (kq : Nat) (x103_144 : Bool), v103 = .bool x103_144 ∧ Aside0 (corebanklaw02_near.j2 kq a1 a4 (decide (t558 ≤ 0)) (decide (t561 ≥ 0)) x103_144 a0_0 a0_1 = some r) ∧ Aside0 (kq ≤ kj115) ∧ Aside0 (wc.heap[gb548]? = some (.cells #[.int .i64 a0_0, .int .u64 a0_1] 24 (0, 0))) ∧ Aside0 (wc.heap[gb549]? = some (.cells #[.int .i64 a3_0, .int .u64 a3_1] 24 (0, 0))) ∧ Aside0 (wc.heap[gb565]? = some (.cells #[.int .i64 t562, .int .u64 t563] 24 (0, 0))) ∧ Aside0 (Below w.heap.size w wc))
           case first =>
            have H := HC145.out
            clear HC145
            replace H := Option.bind_eq_some_iff.mp H
            obtain ⟨⟨t572, t573⟩, A1460, H⟩ := H
            replace H : (if (t562 == t572 && (t563 == t573)) = true then (corebanklaw02_near.j2 kj115 a1 a4 (decide (t558 ≤ 0)) (decide (t561 ≥ 0)) true a0_0 a0_1) else ((corebankref01_Of.f (wrap64 (-a2))).bind fun bt574 => (corebanklaw02_near.j2 kj115 a1 a4 (decide (t558 ≤ 0)) (decide (t561 ≥ 0)) (t562 == bt574.1 && (t563 == bt574.2)) a0_0 a0_1))) = some r := H
            have A146 := Aside0.mk A1460
            clear A1460
            by_cases c147 : (t562 == t572 && (t563 == t573)) = true
            ·rw [if_pos c147] at H
             have c147b0 : (t562 == t572 && (t563 == t573)) = true := c147
             (try (have c147b1 : decide (t562 = t572 && (t563 == t573)) = true := by simpa using c147))
             (try (have c147b2 : (t562 == t572 && (t563 == t573)) = true := by simpa using c147))
             clear c147
             (first | rw [c147b0] | (simp only [i64_w, i32_w]; rw [c147b0]) | skip)
             have H' := Aside0.mk H
             clear H
             try go_wp2
             have n0_ := Aside0.mk (blk_drew BK548.out)
             have n1_ := Aside0.mk (blk_drew BK549.out)
             have n2_ := Aside0.mk (blk_drew BK565.out)
             have n3_ := Aside0.mk (below_drew1 HB.out)
             clear BK548
             clear BK549
             clear BK565
             clear HB
             have BK548 := n0_
             have BK549 := n1_
             have BK565 := n2_
             have HB := n3_
             clear n0_ n1_ n2_ n3_
             refine start_ (n := 11) (S := fun w' => w'.cell? ⟨gb565, 0, none⟩ = some (.int .i64 t562) ∧ w'.cell? ⟨gb565, 1, none⟩ = some (.int .u64 t563)) (ds := []) (nb_ 11 0) (by kernel_rfl) rfl rfl ⟨(blk_cell BK565.out 0).trans rfl, (blk_cell BK565.out 1).trans rfl⟩ (fun hHeld => ?_); refine with_tabW corebanklaw02_near.tab16 corebanklaw02_near.bits16 (fun HT_ HW_ => ?_)
             generalize wc.drew = w148 at BK548 BK549 BK565 HB hHeld ⊢
             refine pz_ 1 94 (nb_ 11 2) HT_.out ?_
             refine tk2_ 0 93 (nb_ 11 3) HT_.out HW_.out hHeld ?_
             refine on_ 2 95 (nb_ 11 7) HT_.out (fun K hK => ?_)
             refine goes_ Tryd.func21 (by kernel_rfl) rfl #[.int .i64 a2] (by rfl) rfl rfl ql_ ?_
             with_reducible refine (corebankref01_Of.calls a2 t572 t573 _ A146.out).mono ?_
             rintro e w149 ⟨rfl, hb⟩
             refine ⟨_, rfl, ?_⟩
             have n0_ := Aside0.mk (blk_below (qk_ BK548.out) hb)
             have n1_ := Aside0.mk (blk_below (qk_ BK549.out) hb)
             have n2_ := Aside0.mk (blk_below (qk_ BK565.out) hb)
             have n3_ := Aside0.mk (below_step (qb3_ GE548.out GE549.out GE565.out HB.out) hb)
             clear BK548
             clear BK549
             clear BK565
             clear HB
             have BK548 := n0_
             have BK549 := n1_
             have BK565 := n2_
             have HB := n3_
             clear n0_ n1_ n2_ n3_
             (try clear hb)
             (try clear hb2)
             (try clear hk)
             (try clear hi)
             refine hK.out _ _ ⟨(blk_cell BK565.out 0).trans rfl, (blk_cell BK565.out 1).trans rfl⟩ (fun hHeld => ?_)
             clear hK K
             refine no_ ?_
             refine pz_ 3 96 (nb_ 11 15) HT_.out ?_
             refine pz_ 4 97 (nb_ 11 31) HT_.out ?_
             refine pu_ 5 98 (nb_ 11 63) HT_.out ?_
             refine pu_ 6 99 (nb_ 11 127) HT_.out ?_
             refine pu_ 7 100 (nb_ 11 255) HT_.out ?_
             refine pu_ 8 101 (nb_ 11 511) HT_.out ?_
             refine pu_ 9 102 (nb_ 11 1023) HT_.out ?_
             refine pz_ 10 103 (nb_ 11 2047) HT_.out ?_
             refine done_ (done_of HT_.out (by kernel_rfl)) ?_
             try go_wp2
             go_meet
             case rel => exact ⟨_, (true), qs_, H', ⟨by have := HJ5.out; have := HJ115.out; first | omega | exact Nat.le_refl _⟩, ⟨qk_ BK548.out⟩, ⟨qk_ BK549.out⟩, ⟨qk_ BK565.out⟩, ⟨qb3_ GE548.out GE549.out GE565.out HB.out⟩⟩
            ·rw [if_neg c147] at H
             have c147b0 : (t562 == t572 && (t563 == t573)) = false := by simpa using c147
             (try (have c147b1 : decide (t562 = t572 && (t563 == t573)) = false := by simpa using c147))
             (try (have c147b2 : (t562 == t572 && (t563 == t573)) = false := by simpa using c147))
             (try (have c147b3 : ¬ (t562 = t572 && (t563 == t573)) := by simpa using c147))
             clear c147
             (first | rw [c147b0] | (simp only [i64_w, i32_w]; rw [c147b0]) | skip)
             replace H := Option.bind_eq_some_iff.mp H
             obtain ⟨⟨t574, t575⟩, A1500, H⟩ := H
             replace H : (corebanklaw02_near.j2 kj115 a1 a4 (decide (t558 ≤ 0)) (decide (t561 ≥ 0)) (t562 == t574 && (t563 == t575)) a0_0 a0_1) = some r := H
             have A150 := Aside0.mk A1500
             clear A1500
             have H' := Aside0.mk H
             clear H
             try go_wp2
             have n0_ := Aside0.mk (blk_drew BK548.out)
             have n1_ := Aside0.mk (blk_drew BK549.out)
             have n2_ := Aside0.mk (blk_drew BK565.out)
             have n3_ := Aside0.mk (below_drew1 HB.out)
             clear BK548
             clear BK549
             clear BK565
             clear HB
             have BK548 := n0_
             have BK549 := n1_
             have BK565 := n2_
             have HB := n3_
             clear n0_ n1_ n2_ n3_
             refine start_ (n := 11) (S := fun w' => w'.cell? ⟨gb565, 0, none⟩ = some (.int .i64 t562) ∧ w'.cell? ⟨gb565, 1, none⟩ = some (.int .u64 t563)) (ds := []) (nb_ 11 0) (by kernel_rfl) rfl rfl ⟨(blk_cell BK565.out 0).trans rfl, (blk_cell BK565.out 1).trans rfl⟩ (fun hHeld => ?_); refine with_tabW corebanklaw02_near.tab16 corebanklaw02_near.bits16 (fun HT_ HW_ => ?_)
             generalize wc.drew = w151 at BK548 BK549 BK565 HB hHeld ⊢
             refine pz_ 1 94 (nb_ 11 2) HT_.out ?_
             refine tk2_ 0 93 (nb_ 11 3) HT_.out HW_.out hHeld ?_
             refine on_ 2 95 (nb_ 11 7) HT_.out (fun K hK => ?_)
             refine goes_ Tryd.func21 (by kernel_rfl) rfl #[.int .i64 a2] (by rfl) rfl rfl ql_ ?_
             with_reducible refine (corebankref01_Of.calls a2 t572 t573 _ A146.out).mono ?_
             rintro e w152 ⟨rfl, hb⟩
             refine ⟨_, rfl, ?_⟩
             have n0_ := Aside0.mk (blk_below (qk_ BK548.out) hb)
             have n1_ := Aside0.mk (blk_below (qk_ BK549.out) hb)
             have n2_ := Aside0.mk (blk_below (qk_ BK565.out) hb)
             have n3_ := Aside0.mk (below_step (qb3_ GE548.out GE549.out GE565.out HB.out) hb)
             clear BK548
             clear BK549
             clear BK565
             clear HB
             have BK548 := n0_
             have BK549 := n1_
             have BK565 := n2_
             have HB := n3_
             clear n0_ n1_ n2_ n3_
             (try clear hb)
             (try clear hb2)
             (try clear hk)
             (try clear hi)
             refine hK.out _ _ ⟨(blk_cell BK565.out 0).trans rfl, (blk_cell BK565.out 1).trans rfl⟩ (fun hHeld => ?_)
             clear hK K
             refine no_ ?_
             refine pz_ 3 96 (nb_ 11 15) HT_.out ?_
             refine pz_ 4 97 (nb_ 11 31) HT_.out ?_
             refine pz_ 6 99 (nb_ 11 95) HT_.out ?_
             refine pz_ 7 100 (nb_ 11 223) HT_.out ?_
             refine tk2_ 5 98 (nb_ 11 255) HT_.out HW_.out hHeld ?_
             refine on_ 8 101 (nb_ 11 511) HT_.out (fun K hK => ?_)
             refine goes_ Tryd.func21 (by kernel_rfl) rfl #[.int .i64 (wrap64 (-a2))] (by rfl) rfl rfl ql_ ?_
             with_reducible refine (corebankref01_Of.calls (wrap64 (-a2)) t574 t575 _ A150.out).mono ?_
             rintro e w153 ⟨rfl, hb⟩
             refine ⟨_, rfl, ?_⟩
             have n0_ := Aside0.mk (blk_below (qk_ BK548.out) hb)
             have n1_ := Aside0.mk (blk_below (qk_ BK549.out) hb)
             have n2_ := Aside0.mk (blk_below (qk_ BK565.out) hb)
             have n3_ := Aside0.mk (below_step (qb3_ GE548.out GE549.out GE565.out HB.out) hb)
             clear BK548
             clear BK549
             clear BK565
             clear HB
             have BK548 := n0_
             have BK549 := n1_
             have BK565 := n2_
             have HB := n3_
             clear n0_ n1_ n2_ n3_
             (try clear hb)
             (try clear hb2)
             (try clear hk)
             (try clear hi)
             refine hK.out _ _ ⟨(blk_cell BK565.out 0).trans rfl, (blk_cell BK565.out 1).trans rfl⟩ (fun hHeld => ?_)
             clear hK K
             refine no_ ?_
             refine pz_ 9 102 (nb_ 11 1023) HT_.out ?_
             refine pz_ 10 103 (nb_ 11 2047) HT_.out ?_
             refine done_ (done_of HT_.out (by kernel_rfl)) ?_
             try go_wp2
             go_meet
             case rel => exact ⟨_, ((t562 == t574 && (t563 == t575))), qs_, H', ⟨by have := HJ5.out; have := HJ115.out; first | omega | exact Nat.le_refl _⟩, ⟨qk_ BK548.out⟩, ⟨qk_ BK549.out⟩, ⟨qk_ BK565.out⟩, ⟨qb3_ GE548.out GE549.out GE565.out HB.out⟩⟩
           case rest =>
            clear HC145
            try clear c1
            try clear c2
            try clear p2
            try clear c4
            try clear p6
            try clear c10
            try clear c12
            try clear c13
            try clear c14
            try clear c20
            try clear c21
            try clear c45
            try clear p64
            try clear c109
            try clear c109b0
            try clear c109b1
            try clear c122
            try clear c126
            try clear c127
            try clear c131
            try clear c131b0
            try clear c144
            try clear c147
            try clear c147b0
            try clear c147b1
            try clear c147b2
            try clear hcz123_0
            try clear hcz123_1
            try clear hcz128_0
            try clear hcz128_1
            try clear hfz123_0
            try clear hfz123_1
            try clear hfz128_0
            try clear hfz128_1
            try clear p2
            try clear p6
            try clear p64
            obtain ⟨kq, x103_144, rfl, HA, HJ144, BK548, BK549, BK565, HB⟩ := hcut
            cases kq with
            | zero => exact absurd HA.out (by simp [corebanklaw02_near.j2])
            | succ kj144 =>
             have H := HA.out
             clear HA
             simp only [corebanklaw02_near.j2] at H
             by_cases c154 : x103_144 = true
             ·subst c154
              have H1 : (if a4 = 6 then (if (Int.tmod a1 2) = 0 then (some true) else (if a4 = 5 then (if (decide (t561 ≥ 0)) = true then (if a0_0 ≥ 0 then (some true) else (if (decide (t558 ≤ 0)) = true then (some (decide (a0_0 < 0))) else (some false))) else (if (decide (t558 ≤ 0)) = true then (some (decide (a0_0 < 0))) else (some false))) else (some false))) else (if a4 = 5 then (if (decide (t561 ≥ 0)) = true then (if a0_0 ≥ 0 then (some true) else (if (decide (t558 ≤ 0)) = true then (some (decide (a0_0 < 0))) else (some false))) else (if (decide (t558 ≤ 0)) = true then (some (decide (a0_0 < 0))) else (some false))) else (some false))) = some r := by rw [if_pos rfl] at H; exact H
              clear H
              have H := H1
              clear H1
              by_cases c155 : a4 = 6
              ·rw [if_pos c155] at H
               have c155b0 : (a4 == 6) = true := beq_iff_eq.mpr c155
               have c155b1 : (a4 != 6) = false := bne_eq_false_iff_eq.mpr c155
               clear c155
               by_cases c156 : (Int.tmod a1 2) = 0
               ·rw [if_pos c156] at H
                have c156b0 : ((Int.tmod a1 2) == 0) = true := beq_iff_eq.mpr c156
                have c156b1 : ((Int.tmod a1 2) != 0) = false := bne_eq_false_iff_eq.mpr c156
                clear c156
                obtain rfl := Option.some.inj H
                go_wp2
                go_ret
                exact ⟨qe_, qb3_ GE548.out GE549.out GE565.out HB.out⟩
               ·rw [if_neg c156] at H
                have c156b0 : ((Int.tmod a1 2) == 0) = false := beq_eq_false_iff_ne.mpr c156
                have c156b1 : ((Int.tmod a1 2) != 0) = true := bne_iff_ne.mpr c156
                by_cases c157 : a4 = 5
                ·rw [if_pos c157] at H
                 have c157b0 : (a4 == 5) = true := beq_iff_eq.mpr c157
                 have c157b1 : (a4 != 5) = false := bne_eq_false_iff_eq.mpr c157
                 clear c157
                 by_cases c158 : (decide (t561 ≥ 0)) = true
                 ·rw [if_pos c158] at H
                  have c158b0 : (decide (t561 ≥ 0)) = true := c158
                  clear c158
                  by_cases c159 : a0_0 ≥ 0
                  ·rw [if_pos c159] at H
                   have c159b0 : decide (0 ≤ a0_0) = true := decide_eq_true c159
                   clear c159
                   obtain rfl := Option.some.inj H
                   have hnb160 := NB548_549.out
                   have hnc160 := NB549_548.out
                   have hnb161 := NB548_565.out
                   have hnc161 := NB565_548.out
                   have hcz162_0 : wc.cell? ⟨gb548, 0, none⟩ = some (.int .i64 a0_0) := (blk_cell BK548.out 0).trans rfl
                   have hcz162_1 : wc.cell? ⟨gb548, 1, none⟩ = some (.int .u64 a0_1) := (blk_cell BK548.out 1).trans rfl
                   have hfz162_0 := blk_frozen BK548.out 0
                   have hfz162_1 := blk_frozen BK548.out 1
                   go_wp2
                   go_ret
                   exact ⟨qe_, qb3_ GE548.out GE549.out GE565.out HB.out⟩
                  ·rw [if_neg c159] at H
                   have c159b0 : decide (0 ≤ a0_0) = false := decide_eq_false c159
                   clear c159
                   by_cases c163 : (decide (t558 ≤ 0)) = true
                   ·rw [if_pos c163] at H
                    have c163b0 : (decide (t558 ≤ 0)) = true := c163
                    clear c163
                    obtain rfl := Option.some.inj H
                    have hnb164 := NB548_549.out
                    have hnc164 := NB549_548.out
                    have hnb165 := NB548_565.out
                    have hnc165 := NB565_548.out
                    have hcz166_0 : wc.cell? ⟨gb548, 0, none⟩ = some (.int .i64 a0_0) := (blk_cell BK548.out 0).trans rfl
                    have hcz166_1 : wc.cell? ⟨gb548, 1, none⟩ = some (.int .u64 a0_1) := (blk_cell BK548.out 1).trans rfl
                    have hfz166_0 := blk_frozen BK548.out 0
                    have hfz166_1 := blk_frozen BK548.out 1
                    go_wp2
                    go_ret
                    exact ⟨qe_, qb3_ GE548.out GE549.out GE565.out HB.out⟩
                   ·rw [if_neg c163] at H
                    have c163b0 : (decide (t558 ≤ 0)) = false := by simpa using c163
                    clear c163
                    obtain rfl := Option.some.inj H
                    have hnb167 := NB548_549.out
                    have hnc167 := NB549_548.out
                    have hnb168 := NB548_565.out
                    have hnc168 := NB565_548.out
                    have hcz169_0 : wc.cell? ⟨gb548, 0, none⟩ = some (.int .i64 a0_0) := (blk_cell BK548.out 0).trans rfl
                    have hcz169_1 : wc.cell? ⟨gb548, 1, none⟩ = some (.int .u64 a0_1) := (blk_cell BK548.out 1).trans rfl
                    have hfz169_0 := blk_frozen BK548.out 0
                    have hfz169_1 := blk_frozen BK548.out 1
                    go_wp2
                    go_ret
                    exact ⟨qe_, qb3_ GE548.out GE549.out GE565.out HB.out⟩
                 ·rw [if_neg c158] at H
                  have c158b0 : (decide (t561 ≥ 0)) = false := by simpa using c158
                  clear c158
                  by_cases c170 : (decide (t558 ≤ 0)) = true
                  ·rw [if_pos c170] at H
                   have c170b0 : (decide (t558 ≤ 0)) = true := c170
                   clear c170
                   obtain rfl := Option.some.inj H
                   have hnb171 := NB548_549.out
                   have hnc171 := NB549_548.out
                   have hnb172 := NB548_565.out
                   have hnc172 := NB565_548.out
                   have hcz173_0 : wc.cell? ⟨gb548, 0, none⟩ = some (.int .i64 a0_0) := (blk_cell BK548.out 0).trans rfl
                   have hcz173_1 : wc.cell? ⟨gb548, 1, none⟩ = some (.int .u64 a0_1) := (blk_cell BK548.out 1).trans rfl
                   have hfz173_0 := blk_frozen BK548.out 0
                   have hfz173_1 := blk_frozen BK548.out 1
                   go_wp2
                   go_ret
                   exact ⟨qe_, qb3_ GE548.out GE549.out GE565.out HB.out⟩
                  ·rw [if_neg c170] at H
                   have c170b0 : (decide (t558 ≤ 0)) = false := by simpa using c170
                   clear c170
                   obtain rfl := Option.some.inj H
                   go_wp2
                   go_ret
                   exact ⟨qe_, qb3_ GE548.out GE549.out GE565.out HB.out⟩
                ·rw [if_neg c157] at H
                 have c157b0 : (a4 == 5) = false := beq_eq_false_iff_ne.mpr c157
                 have c157b1 : (a4 != 5) = true := bne_iff_ne.mpr c157
                 obtain rfl := Option.some.inj H
                 go_wp2
                 go_ret
                 exact ⟨qe_, qb3_ GE548.out GE549.out GE565.out HB.out⟩
              ·rw [if_neg c155] at H
               have c155b0 : (a4 == 6) = false := beq_eq_false_iff_ne.mpr c155
               have c155b1 : (a4 != 6) = true := bne_iff_ne.mpr c155
               by_cases c174 : a4 = 5
               ·rw [if_pos c174] at H
                have c174b0 : (a4 == 5) = true := beq_iff_eq.mpr c174
                have c174b1 : (a4 != 5) = false := bne_eq_false_iff_eq.mpr c174
                clear c174
                by_cases c175 : (decide (t561 ≥ 0)) = true
                ·rw [if_pos c175] at H
                 have c175b0 : (decide (t561 ≥ 0)) = true := c175
                 clear c175
                 by_cases c176 : a0_0 ≥ 0
                 ·rw [if_pos c176] at H
                  have c176b0 : decide (0 ≤ a0_0) = true := decide_eq_true c176
                  clear c176
                  obtain rfl := Option.some.inj H
                  have hnb177 := NB548_549.out
                  have hnc177 := NB549_548.out
                  have hnb178 := NB548_565.out
                  have hnc178 := NB565_548.out
                  have hcz179_0 : wc.cell? ⟨gb548, 0, none⟩ = some (.int .i64 a0_0) := (blk_cell BK548.out 0).trans rfl
                  have hcz179_1 : wc.cell? ⟨gb548, 1, none⟩ = some (.int .u64 a0_1) := (blk_cell BK548.out 1).trans rfl
                  have hfz179_0 := blk_frozen BK548.out 0
                  have hfz179_1 := blk_frozen BK548.out 1
                  go_wp2
                  go_ret
                  exact ⟨qe_, qb3_ GE548.out GE549.out GE565.out HB.out⟩
                 ·rw [if_neg c176] at H
                  have c176b0 : decide (0 ≤ a0_0) = false := decide_eq_false c176
                  clear c176
                  by_cases c180 : (decide (t558 ≤ 0)) = true
                  ·rw [if_pos c180] at H
                   have c180b0 : (decide (t558 ≤ 0)) = true := c180
                   clear c180
                   obtain rfl := Option.some.inj H
                   have hnb181 := NB548_549.out
                   have hnc181 := NB549_548.out
                   have hnb182 := NB548_565.out
                   have hnc182 := NB565_548.out
                   have hcz183_0 : wc.cell? ⟨gb548, 0, none⟩ = some (.int .i64 a0_0) := (blk_cell BK548.out 0).trans rfl
                   have hcz183_1 : wc.cell? ⟨gb548, 1, none⟩ = some (.int .u64 a0_1) := (blk_cell BK548.out 1).trans rfl
                   have hfz183_0 := blk_frozen BK548.out 0
                   have hfz183_1 := blk_frozen BK548.out 1
                   go_wp2
                   go_ret
                   exact ⟨qe_, qb3_ GE548.out GE549.out GE565.out HB.out⟩
                  ·rw [if_neg c180] at H
                   have c180b0 : (decide (t558 ≤ 0)) = false := by simpa using c180
                   clear c180
                   obtain rfl := Option.some.inj H
                   have hnb184 := NB548_549.out
                   have hnc184 := NB549_548.out
                   have hnb185 := NB548_565.out
                   have hnc185 := NB565_548.out
                   have hcz186_0 : wc.cell? ⟨gb548, 0, none⟩ = some (.int .i64 a0_0) := (blk_cell BK548.out 0).trans rfl
                   have hcz186_1 : wc.cell? ⟨gb548, 1, none⟩ = some (.int .u64 a0_1) := (blk_cell BK548.out 1).trans rfl
                   have hfz186_0 := blk_frozen BK548.out 0
                   have hfz186_1 := blk_frozen BK548.out 1
                   go_wp2
                   go_ret
                   exact ⟨qe_, qb3_ GE548.out GE549.out GE565.out HB.out⟩
                ·rw [if_neg c175] at H
                 have c175b0 : (decide (t561 ≥ 0)) = false := by simpa using c175
                 clear c175
                 by_cases c187 : (decide (t558 ≤ 0)) = true
                 ·rw [if_pos c187] at H
                  have c187b0 : (decide (t558 ≤ 0)) = true := c187
                  clear c187
                  obtain rfl := Option.some.inj H
                  have hnb188 := NB548_549.out
                  have hnc188 := NB549_548.out
                  have hnb189 := NB548_565.out
                  have hnc189 := NB565_548.out
                  have hcz190_0 : wc.cell? ⟨gb548, 0, none⟩ = some (.int .i64 a0_0) := (blk_cell BK548.out 0).trans rfl
                  have hcz190_1 : wc.cell? ⟨gb548, 1, none⟩ = some (.int .u64 a0_1) := (blk_cell BK548.out 1).trans rfl
                  have hfz190_0 := blk_frozen BK548.out 0
                  have hfz190_1 := blk_frozen BK548.out 1
                  go_wp2
                  go_ret
                  exact ⟨qe_, qb3_ GE548.out GE549.out GE565.out HB.out⟩
                 ·rw [if_neg c187] at H
                  have c187b0 : (decide (t558 ≤ 0)) = false := by simpa using c187
                  clear c187
                  obtain rfl := Option.some.inj H
                  go_wp2
                  go_ret
                  exact ⟨qe_, qb3_ GE548.out GE549.out GE565.out HB.out⟩
               ·rw [if_neg c174] at H
                have c174b0 : (a4 == 5) = false := beq_eq_false_iff_ne.mpr c174
                have c174b1 : (a4 != 5) = true := bne_iff_ne.mpr c174
                obtain rfl := Option.some.inj H
                go_wp2
                go_ret
                exact ⟨qe_, qb3_ GE548.out GE549.out GE565.out HB.out⟩
             ·replace c154 := Bool.eq_false_iff.mpr c154
              subst c154
              have H1 : (some false) = some r := by rw [if_neg (show ¬ (false = true) by decide)] at H; exact H
              clear H
              have H := H1
              clear H1
              obtain rfl := Option.some.inj H
              go_wp2
              go_ret
              exact ⟨qe_, qb3_ GE548.out GE549.out GE565.out HB.out⟩
end Go.Proofs.YtkdhippoibjfkaaDoor.PR
