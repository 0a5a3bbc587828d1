import Derived.Test.YtkdhippoibjfkaaDoorQRm2
import Derived.Test.YtkdhippoibjfkaaDoorQRm3
section
namespace Go.Proofs.YtkdhippoibjfkaaDoor.PR
open Go.RowKit Go.Proofs.YtkdhippoibjfkaaDoorW.PrintWords Go.Proofs.YtkdhippoibjfkaaDoorW.PrintLast
set_option linter.unusedVariables false
set_option linter.unusedSimpArgs false
attribute [local go_sem high] eqA66
mutual
def wide_DivP.j0 : Nat → Int → Int → Bool → Int → Int → Int → Int → Option (Int × Int × Int × Int)
 | 0, _, _, _, _, _, _, _ => none
 | k + 1, x1, x8, x28, x125000, x125001, x132000, x132001 => if x28 = true then ((wide_size_times.f x132000 x132001 1 1).bind fun bt132 => (wide_DivP.j1 k (IntKind.u64.wrap ((IntKind.u64.wrap (x1)) - x8)) x125000 x125001 bt132.1 bt132.2.1)) else (wide_DivP.j1 k x8 x125000 x125001 x132000 x132001)
def wide_DivP.j1 : Nat → Int → Int → Int → Int → Int → Option (Int × Int × Int × Int)
 | 0, _, _, _, _, _ => none
 | k + 1, x8, x125000, x125001, x132000, x132001 => if x125000 < 0 then ((wide_size_signed.f x132000 x132001 (!(x132000 == 0) || (!(x132001 == 0)))).bind fun bt135 => (some (bt135.1, bt135.2.1, wrap64 (x8), 0))) else ((wide_size_signed.f x132000 x132001 false).bind fun bt139 => (some (bt139.1, bt139.2.1, wrap64 (x8), 0)))
end
def wide_DivP.f (k : Nat) (a0_0 : Int) (a0_1 : Int) (a1 : Int) : Option (Int × Int × Int × Int) := if a1 < 1 then (some (0, 0, 0, 1)) else ((wide_absolute.f a0_0 a0_1).bind fun bt126 => ((wide_size_divide.f bt126.1 bt126.2 (IntKind.u64.wrap (a1))).bind fun bt128 => (if a0_0 < 0 then (wide_DivP.j0 k a1 bt128.2.2 (decide (bt128.2.2 > 0)) a0_0 a0_1 bt128.1 bt128.2.1) else (wide_DivP.j0 k a1 bt128.2.2 false a0_0 a0_1 bt128.1 bt128.2.1))))
theorem wide_DivP.mono_l : ∀ k, (∀ y0 y1 y2 y3 y4 y5 y6, LeO (wide_DivP.j0 k y0 y1 y2 y3 y4 y5 y6) (wide_DivP.j0 (k + 1) y0 y1 y2 y3 y4 y5 y6)) ∧ (∀ y0 y1 y2 y3 y4, LeO (wide_DivP.j1 k y0 y1 y2 y3 y4) (wide_DivP.j1 (k + 1) y0 y1 y2 y3 y4))
 | 0 => ⟨fun _ _ _ _ _ _ _ r h => by simp [wide_DivP.j0] at h, fun _ _ _ _ _ r h => by simp [wide_DivP.j1] at h⟩
 | k + 1 => by
  obtain ⟨ih0, ih1⟩ := wide_DivP.mono_l k
  refine ⟨?_, ?_⟩
  ·intro y0 y1 y2 y3 y4 y5 y6
   unfold wide_DivP.j0
   repeat' first
   | (with_reducible exact ih0 _ _ _ _ _ _ _)
   | (with_reducible exact ih1 _ _ _ _ _)
   | (with_reducible exact LeO.refl _)
   | (with_reducible exact LeO.none _)
   | (with_reducible refine LeO.ite ?_ ?_)
   | (with_reducible refine LeO.bind ?_ (fun _ => ?_))
   | exact ih0 _ _ _ _ _ _ _
   | exact ih1 _ _ _ _ _
   | exact LeO.none _
   | refine LeO.ite ?_ ?_
   | refine LeO.bind ?_ (fun _ => ?_)
  ·intro y0 y1 y2 y3 y4
   unfold wide_DivP.j1
   repeat' first
   | (with_reducible exact ih0 _ _ _ _ _ _ _)
   | (with_reducible exact ih1 _ _ _ _ _)
   | (with_reducible exact LeO.refl _)
   | (with_reducible exact LeO.none _)
   | (with_reducible refine LeO.ite ?_ ?_)
   | (with_reducible refine LeO.bind ?_ (fun _ => ?_))
   | exact ih0 _ _ _ _ _ _ _
   | exact ih1 _ _ _ _ _
   | exact LeO.none _
   | refine LeO.ite ?_ ?_
   | refine LeO.bind ?_ (fun _ => ?_)
theorem wide_DivP.mono : ∀ a0 a1 a2 k, LeO (wide_DivP.f k a0 a1 a2) (wide_DivP.f (k + 1) a0 a1 a2) := by
 intro a0 a1 a2 k
 obtain ⟨ih0, ih1⟩ := wide_DivP.mono_l k
 unfold wide_DivP.f
 repeat' first
   | (with_reducible exact ih0 _ _ _ _ _ _ _)
   | (with_reducible exact ih1 _ _ _ _ _)
   | (with_reducible exact LeO.refl _)
   | (with_reducible exact LeO.none _)
   | (with_reducible refine LeO.ite ?_ ?_)
   | (with_reducible refine LeO.bind ?_ (fun _ => ?_))
   | exact ih0 _ _ _ _ _ _ _
   | exact ih1 _ _ _ _ _
   | exact LeO.none _
   | refine LeO.ite ?_ ?_
   | refine LeO.bind ?_ (fun _ => ?_)
def wide_DivP.T7 : Bool × List (List Nat × List Nat) := (true, [([], []), ([], []), ([1], [1]), ([2], [2]), ([3], [3]), ([4], [4]), ([4], [4]), ([5, 6, 4], [4, 5, 6]), ([4, 7], [4, 7]), ([0, 8, 4], [0, 8]), ([9], [9]), ([10], [10]), ([10], [10]), ([], []), ([13, 11, 9, 0, 1, 2, 3, 4, 5, 6, 7, 8, 9, 10, 11, 13], [11, 13]), ([12, 14, 0, 1, 2, 3, 4, 5, 6, 7, 8, 9, 10, 11, 12, 13, 14], [12])])
def wide_DivP.B7 : List Nat := [0, 0, 2, 6, 14, 30, 30, 126, 254, 511, 1023, 2047, 2047, 0, 12287, 32767]
theorem wide_DivP.tab7 : rtab .any (opsOf Tryd.f34 7) = wide_DivP.T7 := by kernel_rfl
theorem wide_DivP.bits7 : waitsOk wide_DivP.T7.2 wide_DivP.B7 = true := by kernel_rfl
set_option maxHeartbeats 8000000 in
set_option maxRecDepth 100000 in
theorem wide_DivP.calls (k : Nat) (a0_0 : Int) (a0_1 : Int) (a1 : Int) (r1 : Int) (r2 : Int) (r3 : Int) (r4 : Int) (w : World) (h : wide_DivP.f k a0_0 a0_1 a1 = some (r1, r2, r3, r4)) :
  Calls Tryd.prog 34 #[.agg #[.int .i64 a0_0, .int .u64 a0_1], .int .i64 a1] w fun e w' => e = .returned (.tuple #[.agg #[.int .i64 r1, .int .u64 r2], .int .i64 r3, .int .i64 r4]) ∧ Below w.heap.size w w' := by
 have hu24 := Tryd.underlying24
 have hu66 := Tryd.underlying66
 have HB := Aside0.mk (Below.refl w.heap.size w)
 have H : (if a1 < 1 then (some (0, 0, 0, 1)) else ((wide_absolute.f a0_0 a0_1).bind fun bt126 => ((wide_size_divide.f bt126.1 bt126.2 (IntKind.u64.wrap (a1))).bind fun bt128 => (if a0_0 < 0 then (wide_DivP.j0 k a1 bt128.2.2 (decide (bt128.2.2 > 0)) a0_0 a0_1 bt128.1 bt128.2.1) else (wide_DivP.j0 k a1 bt128.2.2 false a0_0 a0_1 bt128.1 bt128.2.1))))) = some (r1, r2, r3, r4) := h
 clear h
 by_cases c3 : a1 < 1
 ·rw [if_pos c3] at H
  have c3b0 : decide (a1 < 1) = true := decide_eq_true c3
  clear c3
  simp only [Option.some.injEq, Prod.mk.injEq] at H
  obtain ⟨rfl, rfl, rfl, rfl⟩ := H
  go_enter Tryd.func34, Tryd.ntmps34
  go_wp2_with (first | ((with_reducible refine gate_dst (N := 2) rfl ?_); refine be_ (N := 2) (cs := #[.int .i64 a0_0, .int .u64 a0_1]) (t := 24) ?_; intro gb124 hg w4 hbox hb; have n0_ := Aside0.mk (below_step (qb_ HB.out) hb); have n1_ := Aside0.mk (hbox); have n2_ := Aside0.mk (bz_ hg (qb_ HB.out) : w.heap.size ≤ gb124); have n3_ := n2_; clear HB; have HB := n0_; have BK124 := n1_; have GW124 := n2_; have GE124 := n3_; clear n0_ n1_ n2_ n3_; clear hb hbox hg) | ((with_reducible refine gate_dst (N := 4) rfl ?_); refine be_ (N := 4) (cs := #[.int .i64 0, .int .u64 0]) (t := 24) ?_; intro gb125 hg w5 hbox hb; have n0_ := Aside0.mk (blk_below (qk_ BK124.out) hb); have n1_ := Aside0.mk (below_step (qb1_ GE124.out HB.out) hb); have n2_ := Aside0.mk (hbox); have n3_ := Aside0.mk (bz_ hg (qb1_ GE124.out HB.out) : w.heap.size ≤ gb125); have n4_ := n3_; have n5_ := Aside0.mk (nl_ hg (qk_ BK124.out) : gb124 ≠ gb125); have n6_ := Aside0.mk (ng_ hg (qk_ BK124.out) : gb125 ≠ gb124); clear BK124; clear HB; have BK124 := n0_; have HB := n1_; have BK125 := n2_; have GW125 := n3_; have GE125 := n4_; have NB124_125 := n5_; have NB125_124 := n6_; clear n0_ n1_ n2_ n3_ n4_ n5_ n6_; clear hb hbox hg; have hnb6 := NB125_124.out; have hnc6 := NB124_125.out; have hcz7_0 : w5.cell? ⟨gb125, 0, none⟩ = some (.int .i64 0) := (blk_cell BK125.out 0).trans rfl; have hcz7_1 : w5.cell? ⟨gb125, 1, none⟩ = some (.int .u64 0) := (blk_cell BK125.out 1).trans rfl; have hfz7_0 := blk_frozen BK125.out 0; have hfz7_1 := blk_frozen BK125.out 1))
  refine bodyPost_ret (results_ctt rfl _ _ gb125 24 #[.int .i64 0, .int .u64 0] (0, 0) _ rfl (qpp_ #[.int .i64 0, .int .u64 0] 1 #[.int .i64 0, .int .u64 0] 0 BK125.out) Tryd.underlying24 rfl (by kernel_rfl)) rfl ?_
  exact ⟨qe_, qb2_ GE124.out GE125.out HB.out⟩
 ·rw [if_neg c3] at H
  have c3b0 : decide (a1 < 1) = false := decide_eq_false c3
  clear c3
  replace H := Option.bind_eq_some_iff.mp H
  obtain ⟨⟨t126, t127⟩, A80, H⟩ := H
  replace H : ((wide_size_divide.f t126 t127 (IntKind.u64.wrap (a1))).bind fun bt128 => (if a0_0 < 0 then (wide_DivP.j0 k a1 bt128.2.2 (decide (bt128.2.2 > 0)) a0_0 a0_1 bt128.1 bt128.2.1) else (wide_DivP.j0 k a1 bt128.2.2 false a0_0 a0_1 bt128.1 bt128.2.1))) = some (r1, r2, r3, r4) := H
  have A8 := Aside0.mk A80
  clear A80
  replace H := Option.bind_eq_some_iff.mp H
  obtain ⟨⟨t128, t129, t130⟩, A90, H⟩ := H
  replace H : (if a0_0 < 0 then (wide_DivP.j0 k a1 t130 (decide (t130 > 0)) a0_0 a0_1 t128 t129) else (wide_DivP.j0 k a1 t130 false a0_0 a0_1 t128 t129)) = some (r1, r2, r3, r4) := H
  have A9 := Aside0.mk A90
  clear A90
  have HC10 := Aside0.mk H
  clear H
  go_enter Tryd.func34, Tryd.ntmps34
  go_upto_region 4 with (first | ((with_reducible refine gate_dst (N := 2) rfl ?_); refine be_ (N := 2) (cs := #[.int .i64 a0_0, .int .u64 a0_1]) (t := 24) ?_; intro gb124 hg w11 hbox hb; have n0_ := Aside0.mk (below_step (qb_ HB.out) hb); have n1_ := Aside0.mk (hbox); have n2_ := Aside0.mk (bz_ hg (qb_ HB.out) : w.heap.size ≤ gb124); have n3_ := n2_; clear HB; have HB := n0_; have BK124 := n1_; have GW124 := n2_; have GE124 := n3_; clear n0_ n1_ n2_ n3_; clear hb hbox hg) | ((with_reducible refine gate_dst (N := 4) rfl ?_); refine be_ (N := 4) (cs := #[.int .i64 0, .int .u64 0]) (t := 24) ?_; intro gb125 hg w12 hbox hb; have n0_ := Aside0.mk (blk_below (qk_ BK124.out) hb); have n1_ := Aside0.mk (below_step (qb1_ GE124.out HB.out) hb); have n2_ := Aside0.mk (hbox); have n3_ := Aside0.mk (bz_ hg (qb1_ GE124.out HB.out) : w.heap.size ≤ gb125); have n4_ := n3_; have n5_ := Aside0.mk (nl_ hg (qk_ BK124.out) : gb124 ≠ gb125); have n6_ := Aside0.mk (ng_ hg (qk_ BK124.out) : gb125 ≠ gb124); clear BK124; clear HB; have BK124 := n0_; have HB := n1_; have BK125 := n2_; have GW125 := n3_; have GE125 := n4_; have NB124_125 := n5_; have NB125_124 := n6_; clear n0_ n1_ n2_ n3_ n4_ n5_ n6_; clear hb hbox hg; have hnb13 := NB124_125.out; have hnc13 := NB125_124.out; have hcz14_0 : w12.cell? ⟨gb124, 0, none⟩ = some (.int .i64 a0_0) := (blk_cell BK124.out 0).trans rfl; have hcz14_1 : w12.cell? ⟨gb124, 1, none⟩ = some (.int .u64 a0_1) := (blk_cell BK124.out 1).trans rfl; have hfz14_0 := blk_frozen BK124.out 0; have hfz14_1 := blk_frozen BK124.out 1) | ((with_reducible refine gate_callee (f := 50) rfl ?_); refine goesL_ (some 16) rfl rfl Tryd.func50 (by kernel_rfl) rfl #[.agg #[.int .i64 a0_0, .int .u64 a0_1]] rfl ql_ ?_; (with_reducible refine (wide_absolute.calls a0_0 a0_1 t126 t127 _ A8.out).mono ?_); rintro e w15 ⟨rfl, hb⟩; refine ⟨_, rfl, ?_⟩; have n0_ := Aside0.mk (blk_below (qk_ BK124.out) hb); have n1_ := Aside0.mk (blk_below (qk_ BK125.out) hb); have n2_ := Aside0.mk (below_step (qb2_ GE124.out GE125.out HB.out) hb); clear BK124; clear BK125; clear HB; have BK124 := n0_; have BK125 := n1_; have HB := n2_; clear n0_ n1_ n2_; (try clear hb); (try clear hb2); (try clear hk); (try clear hi)) | ((with_reducible refine gate_callee (f := 51) rfl ?_); refine goesL_ (some 19) rfl rfl Tryd.func51 (by kernel_rfl) rfl #[.agg #[.int .u64 t126, .int .u64 t127], .int .u64 (IntKind.u64.wrap (a1))] rfl ql_ ?_; (with_reducible refine (wide_size_divide.calls t126 t127 (IntKind.u64.wrap (a1)) t128 t129 t130 _ A9.out).mono ?_); rintro e w16 ⟨rfl, hb⟩; refine ⟨_, rfl, ?_⟩; have n0_ := Aside0.mk (blk_below (qk_ BK124.out) hb); have n1_ := Aside0.mk (blk_below (qk_ BK125.out) hb); have n2_ := Aside0.mk (below_step (qb2_ GE124.out GE125.out HB.out) hb); clear BK124; clear BK125; clear HB; have BK124 := n0_; have BK125 := n1_; have HB := n2_; clear n0_ n1_ n2_; (try clear hb); (try clear hb2); (try clear hk); (try clear hi)) | ((with_reducible refine gate_dst (N := 7) rfl ?_); refine be_ (N := 7) (cs := #[.int .u64 0, .int .u64 0]) (t := 66) ?_; intro gb131 hg w17 hbox hb; have n0_ := Aside0.mk (blk_below (qk_ BK124.out) hb); have n1_ := Aside0.mk (blk_below (qk_ BK125.out) hb); have n2_ := Aside0.mk (below_step (qb2_ GE124.out GE125.out HB.out) hb); have n3_ := Aside0.mk (hbox); have n4_ := Aside0.mk (bz_ hg (qb2_ GE124.out GE125.out HB.out) : w.heap.size ≤ gb131); have n5_ := n4_; have n6_ := Aside0.mk (nl_ hg (qk_ BK124.out) : gb124 ≠ gb131); have n7_ := Aside0.mk (ng_ hg (qk_ BK124.out) : gb131 ≠ gb124); have n8_ := Aside0.mk (nl_ hg (qk_ BK125.out) : gb125 ≠ gb131); have n9_ := Aside0.mk (ng_ hg (qk_ BK125.out) : gb131 ≠ gb125); clear BK124; clear BK125; clear HB; have BK124 := n0_; have BK125 := n1_; have HB := n2_; have BK131 := n3_; have GW131 := n4_; have GE131 := n5_; have NB124_131 := n6_; have NB131_124 := n7_; have NB125_131 := n8_; have NB131_125 := n9_; clear n0_ n1_ n2_ n3_ n4_ n5_ n6_ n7_ n8_ n9_; clear hb hbox hg; have hnb18 := NB131_124.out; have hnc18 := NB124_131.out; have hnb19 := NB131_125.out; have hnc19 := NB125_131.out; have hcz20_0 : w17.cell? ⟨gb131, 0, none⟩ = some (.int .u64 0) := (blk_cell BK131.out 0).trans rfl; have hcz20_1 : w17.cell? ⟨gb131, 1, none⟩ = some (.int .u64 0) := (blk_cell BK131.out 1).trans rfl; have hfz20_0 := blk_frozen BK131.out 0; have hfz20_1 := blk_frozen BK131.out 1))
  (try simp only [Act.put, List.setIfInBounds_toArray, List.set_cons_zero, List.set_cons_succ])
  go_cut [28] (fun v28 wc => ∃ (kq : Nat) (x28_9 : Bool), v28 = .bool x28_9 ∧ Aside0 (wide_DivP.j0 kq a1 t130 x28_9 a0_0 a0_1 t128 t129 = some (r1, r2, r3, r4)) ∧ Aside0 (kq ≤ k) ∧ Aside0 (wc.heap[gb124]? = some (.cells #[.int .i64 a0_0, .int .u64 a0_1] 24 (0, 0))) ∧ Aside0 (wc.heap[gb125]? = some (.cells #[.int .i64 0, .int .u64 0] 24 (0, 0))) ∧ Aside0 (wc.heap[gb131]? = some (.cells #[.int .u64 t128, .int .u64 t129] 66 (0, 0))) ∧ Aside0 (Below w.heap.size w wc))
  case first =>
   have H := HC10.out
   clear HC10
   by_cases c21 : a0_0 < 0
   ·rw [if_pos c21] at H
    have c21b0 : decide (a0_0 < 0) = true := decide_eq_true c21
    clear c21
    (first | rw [c21b0] | (simp only [i64_w, i32_w]; rw [c21b0]) | skip)
    have H' := Aside0.mk H
    clear H
    have hnb22 := NB124_125.out
    have hnc22 := NB125_124.out
    have hnb23 := NB124_131.out
    have hnc23 := NB131_124.out
    have hcz24_0 : w17.cell? ⟨gb124, 0, none⟩ = some (.int .i64 a0_0) := (blk_cell BK124.out 0).trans rfl
    have hcz24_1 : w17.cell? ⟨gb124, 1, none⟩ = some (.int .u64 a0_1) := (blk_cell BK124.out 1).trans rfl
    have hfz24_0 := blk_frozen BK124.out 0
    have hfz24_1 := blk_frozen BK124.out 1
    go_wp2
    go_meet
    case rel => exact ⟨_, (decide (t130 > 0)), qs_, H', ⟨qo_⟩, ⟨qff_ NB124_131.out NB124_131.out BK124.out⟩, ⟨qff_ NB125_131.out NB125_131.out BK125.out⟩, ⟨qpp_ #[.int .u64 t128, .int .u64 0] 1 #[.int .u64 0, .int .u64 0] 0 BK131.out⟩, ⟨qb3_ GE124.out GE125.out GE131.out HB.out⟩⟩
   ·rw [if_neg c21] at H
    have c21b0 : decide (a0_0 < 0) = false := decide_eq_false c21
    clear c21
    (first | rw [c21b0] | (simp only [i64_w, i32_w]; rw [c21b0]) | skip)
    have H' := Aside0.mk H
    clear H
    have hnb25 := NB124_125.out
    have hnc25 := NB125_124.out
    have hnb26 := NB124_131.out
    have hnc26 := NB131_124.out
    have hcz27_0 : w17.cell? ⟨gb124, 0, none⟩ = some (.int .i64 a0_0) := (blk_cell BK124.out 0).trans rfl
    have hcz27_1 : w17.cell? ⟨gb124, 1, none⟩ = some (.int .u64 a0_1) := (blk_cell BK124.out 1).trans rfl
    have hfz27_0 := blk_frozen BK124.out 0
    have hfz27_1 := blk_frozen BK124.out 1
    go_wp2
    go_meet
    case rel => exact ⟨_, (false), qs_, H', ⟨qo_⟩, ⟨qff_ NB124_131.out NB124_131.out BK124.out⟩, ⟨qff_ NB125_131.out NB125_131.out BK125.out⟩, ⟨qpp_ #[.int .u64 t128, .int .u64 0] 1 #[.int .u64 0, .int .u64 0] 0 BK131.out⟩, ⟨qb3_ GE124.out GE125.out GE131.out HB.out⟩⟩
  case rest =>
   clear HC10
   try clear c1
   try clear c2
   try clear p2
   try clear c3
   try clear c3b0
   try clear c5
   try clear c6
   try clear c13
   try clear c18
   try clear c19
   try clear c21
   try clear c21b0
   try clear c22
   try clear c23
   try clear c25
   try clear c26
   try clear hcz14_0
   try clear hcz14_1
   try clear hcz20_0
   try clear hcz20_1
   try clear hcz24_0
   try clear hcz24_1
   try clear hcz27_0
   try clear hcz27_1
   try clear hcz7_0
   try clear hcz7_1
   try clear hfz14_0
   try clear hfz14_1
   try clear hfz20_0
   try clear hfz20_1
   try clear hfz24_0
   try clear hfz24_1
   try clear hfz27_0
   try clear hfz27_1
   try clear hfz7_0
   try clear hfz7_1
   obtain ⟨kq, x28_9, rfl, HA, HJ9, BK124, BK125, BK131, HB⟩ := hcut
   cases kq with
   | zero => exact absurd HA.out (by simp [wide_DivP.j0])
   | succ kj9 =>
    have H := HA.out
    clear HA
    simp only [wide_DivP.j0] at H
    have HC28 := Aside0.mk H
    clear H
    go_upto_if 28 with (fail)
    go_cut [8] (fun v8 wc => ∃ (kq : Nat) (x8_27 : Int) (x132000_27 : Int) (x132001_27 : Int), v8 = .int .u64 x8_27 ∧ Aside0 (wide_DivP.j1 kq x8_27 a0_0 a0_1 x132000_27 x132001_27 = some (r1, r2, r3, r4)) ∧ Aside0 (kq ≤ kj9) ∧ Aside0 (wc.heap[gb124]? = some (.cells #[.int .i64 a0_0, .int .u64 a0_1] 24 (0, 0))) ∧ Aside0 (wc.heap[gb125]? = some (.cells #[.int .i64 0, .int .u64 0] 24 (0, 0))) ∧ Aside0 (wc.heap[gb131]? = some (.cells #[.int .u64 x132000_27, .int .u64 x132001_27] 66 (0, 0))) ∧ Aside0 (Below w.heap.size w wc))
    case first =>
     have H := HC28.out
     clear HC28
     by_cases c29 : x28_9 = true
     ·subst c29
      have H1 : ((wide_size_times.f t128 t129 1 1).bind fun bt132 => (wide_DivP.j1 kj9 (IntKind.u64.wrap ((IntKind.u64.wrap (a1)) - t130)) a0_0 a0_1 bt132.1 bt132.2.1)) = some (r1, r2, r3, r4) := by rw [if_pos rfl] at H; exact H
      clear H
      have H := H1
      clear H1
      replace H := Option.bind_eq_some_iff.mp H
      obtain ⟨⟨t132, t133, t134⟩, A300, H⟩ := H
      replace H : (wide_DivP.j1 kj9 (IntKind.u64.wrap ((IntKind.u64.wrap (a1)) - t130)) a0_0 a0_1 t132 t133) = some (r1, r2, r3, r4) := H
      have A30 := Aside0.mk A300
      clear A300
      have H' := Aside0.mk H
      clear H
      have hnb31 := NB131_124.out
      have hnc31 := NB124_131.out
      have hnb32 := NB131_125.out
      have hnc32 := NB125_131.out
      have hcz33_0 : wc.cell? ⟨gb131, 0, none⟩ = some (.int .u64 t128) := (blk_cell BK131.out 0).trans rfl
      have hcz33_1 : wc.cell? ⟨gb131, 1, none⟩ = some (.int .u64 t129) := (blk_cell BK131.out 1).trans rfl
      have hfz33_0 := blk_frozen BK131.out 0
      have hfz33_1 := blk_frozen BK131.out 1
      go_wp2_with (first | ((with_reducible refine gate_callee (f := 52) rfl ?_); refine goesL_ (some 31) rfl rfl Tryd.func52 (by kernel_rfl) rfl #[.agg #[.int .u64 t128, .int .u64 t129], .int .u64 1, .int .u64 1] rfl ql_ ?_; (with_reducible refine (wide_size_times.calls t128 t129 1 1 t132 t133 t134 _ A30.out).mono ?_); rintro e w34 ⟨rfl, hb⟩; refine ⟨_, rfl, ?_⟩; have n0_ := Aside0.mk (blk_below (qk_ BK124.out) hb); have n1_ := Aside0.mk (blk_below (qk_ BK125.out) hb); have n2_ := Aside0.mk (blk_below (qk_ BK131.out) hb); have n3_ := Aside0.mk (below_step (qb3_ GE124.out GE125.out GE131.out HB.out) hb); clear BK124; clear BK125; clear BK131; clear HB; have BK124 := n0_; have BK125 := n1_; have BK131 := n2_; have HB := n3_; clear n0_ n1_ n2_ n3_; (try clear hb); (try clear hb2); (try clear hk); (try clear hi); have hcz35_0 : w34.cell? ⟨gb131, 0, none⟩ = some (.int .u64 t128) := (blk_cell BK131.out 0).trans rfl; have hcz35_1 : w34.cell? ⟨gb131, 1, none⟩ = some (.int .u64 t129) := (blk_cell BK131.out 1).trans rfl; have hfz35_0 := blk_frozen BK131.out 0; have hfz35_1 := blk_frozen BK131.out 1))
      go_meet
      case rel => exact ⟨_, (IntKind.u64.wrap ((IntKind.u64.wrap (a1)) - t130)), (t132), (t133), qs_, H', ⟨by have := HJ9.out; first | omega | exact Nat.le_refl _⟩, ⟨qff_ NB124_131.out NB124_131.out BK124.out⟩, ⟨qff_ NB125_131.out NB125_131.out BK125.out⟩, ⟨qpp_ #[.int .u64 t132, .int .u64 t129] 1 #[.int .u64 t128, .int .u64 t129] 0 BK131.out⟩, ⟨qb3_ GE124.out GE125.out GE131.out HB.out⟩⟩
     ·replace c29 := Bool.eq_false_iff.mpr c29
      subst c29
      have H1 : (wide_DivP.j1 kj9 t130 a0_0 a0_1 t128 t129) = some (r1, r2, r3, r4) := by rw [if_neg (show ¬ (false = true) by decide)] at H; exact H
      clear H
      have H := H1
      clear H1
      have H' := Aside0.mk H
      clear H
      go_wp2
      go_meet
      case rel => exact ⟨_, (t130), (t128), (t129), qs_, H', ⟨by have := HJ9.out; first | omega | exact Nat.le_refl _⟩, ⟨qk_ BK124.out⟩, ⟨qk_ BK125.out⟩, ⟨qk_ BK131.out⟩, ⟨qb3_ GE124.out GE125.out GE131.out HB.out⟩⟩
    case rest =>
     clear HC28
     try clear c1
     try clear c2
     try clear p2
     try clear c3
     try clear c3b0
     try clear c5
     try clear c6
     try clear c13
     try clear c18
     try clear c19
     try clear c21
     try clear c21b0
     try clear c22
     try clear c23
     try clear c25
     try clear c26
     try clear c29
     try clear c31
     try clear c32
     try clear c34
     try clear hcz14_0
     try clear hcz14_1
     try clear hcz20_0
     try clear hcz20_1
     try clear hcz24_0
     try clear hcz24_1
     try clear hcz27_0
     try clear hcz27_1
     try clear hcz33_0
     try clear hcz33_1
     try clear hcz35_0
     try clear hcz35_1
     try clear hcz7_0
     try clear hcz7_1
     try clear hfz14_0
     try clear hfz14_1
     try clear hfz20_0
     try clear hfz20_1
     try clear hfz24_0
     try clear hfz24_1
     try clear hfz27_0
     try clear hfz27_1
     try clear hfz33_0
     try clear hfz33_1
     try clear hfz35_0
     try clear hfz35_1
     try clear hfz7_0
     try clear hfz7_1
     try clear p2
     obtain ⟨kq, x8_27, x132000_27, x132001_27, rfl, HA, HJ27, BK124, BK125, BK131, HB⟩ := hcut
     cases kq with
     | zero => exact absurd HA.out (by simp [wide_DivP.j1])
     | succ kj27 =>
      have H := HA.out
      clear HA
      simp only [wide_DivP.j1] at H
      by_cases c36 : a0_0 < 0
      ·rw [if_pos c36] at H
       have c36b0 : decide (a0_0 < 0) = true := decide_eq_true c36
       clear c36
       replace H := Option.bind_eq_some_iff.mp H
       obtain ⟨⟨t135, t136, t137⟩, A370, H⟩ := H
       replace H : (some (t135, t136, wrap64 (x8_27), 0)) = some (r1, r2, r3, r4) := H
       have A37 := Aside0.mk A370
       clear A370
       simp only [Option.some.injEq, Prod.mk.injEq] at H
       obtain ⟨rfl, rfl, rfl, rfl⟩ := H
       try go_wp2
       have n0_ := Aside0.mk (blk_drew BK124.out)
       have n1_ := Aside0.mk (blk_drew BK125.out)
       have n2_ := Aside0.mk (blk_drew BK131.out)
       have n3_ := Aside0.mk (below_drew1 HB.out)
       clear BK124
       clear BK125
       clear BK131
       clear HB
       have BK124 := n0_
       have BK125 := n1_
       have BK131 := n2_
       have HB := n3_
       clear n0_ n1_ n2_ n3_
       refine start_ (n := 16) (S := fun w' => w'.cell? ⟨gb131, 0, none⟩ = some (.int .u64 x132000_27) ∧ w'.cell? ⟨gb131, 1, none⟩ = some (.int .u64 x132001_27) ∧ w'.cell? ⟨gb124, 0, none⟩ = some (.int .i64 a0_0) ∧ w'.cell? ⟨gb124, 1, none⟩ = some (.int .u64 a0_1)) (ds := []) (nb_ 16 0) (by kernel_rfl) rfl rfl ⟨(blk_cell BK131.out 0).trans rfl, (blk_cell BK131.out 1).trans rfl, (blk_cell BK124.out 0).trans rfl, (blk_cell BK124.out 1).trans rfl⟩ (fun hHeld => ?_); refine with_tabW wide_DivP.tab7 wide_DivP.bits7 (fun HT_ HW_ => ?_)
       generalize wc.drew = w38 at BK124 BK125 BK131 HB hHeld ⊢
       refine pz_ 1 40 (nb_ 16 2) HT_.out ?_
       refine tk4_ 0 39 (nb_ 16 3) HT_.out HW_.out hHeld ?_
       refine tk4_ 2 41 (nb_ 16 7) HT_.out HW_.out hHeld ?_
       refine pz_ 3 42 (nb_ 16 15) HT_.out ?_
       refine pz_ 4 43 (nb_ 16 31) HT_.out ?_
       refine pz_ 6 45 (nb_ 16 95) HT_.out ?_
       refine tk4_ 5 44 (nb_ 16 127) HT_.out HW_.out hHeld ?_
       refine pz_ 7 46 (nb_ 16 255) HT_.out ?_
       refine pz_ 8 47 (nb_ 16 511) HT_.out ?_
       refine join_ (σ := Nat) 2 (nb_ 16 16383) (fun s_ => [(48, .tuple #[.agg #[.int .i64 t135, .int .u64 t136], .int .i64 t137]), (9, .pointer (some ⟨s_, 0, none⟩)), (38, .tuple #[.agg #[.int .i64 t135, .int .u64 t136], .int .i64 t137]), (49, .agg #[.int .i64 t135, .int .u64 t136]), (50, .int .i64 t137)]) (fun s_ w' => (w'.cell? ⟨gb131, 0, none⟩ = some (.int .u64 x132000_27) ∧ w'.cell? ⟨gb131, 1, none⟩ = some (.int .u64 x132001_27) ∧ w'.cell? ⟨gb124, 0, none⟩ = some (.int .i64 a0_0) ∧ w'.cell? ⟨gb124, 1, none⟩ = some (.int .u64 a0_1)) ∧ (w'.heap[gb124]? = some (.cells #[.int .i64 a0_0, .int .u64 a0_1] 24 (0, 0))) ∧ (w'.heap[gb125]? = some (.cells #[.int .i64 0, .int .u64 0] 24 (0, 0))) ∧ (w'.heap[gb131]? = some (.cells #[.int .u64 x132000_27, .int .u64 x132001_27] 66 (0, 0))) ∧ (w'.heap[s_]? = some (.cells #[.int .i64 0, .int .u64 0] 24 (0, 0))) ∧ (w.heap.size ≤ s_) ∧ (w.heap.size ≤ s_) ∧ (gb124 ≠ s_) ∧ (s_ ≠ gb124) ∧ (gb125 ≠ s_) ∧ (s_ ≠ gb125) ∧ (gb131 ≠ s_) ∧ (s_ ≠ gb131) ∧ (Below w.heap.size w w')) ?_ ?_
       rotate_left
       ·intro hCont
        refine two_ (i := 9) (j := 13) (Ni := some 48) (Nj := some 9) (nb_ 16 1023) (nb_ 16 8703) rfl rfl rfl rfl (two_of HT_.out (by kernel_rfl)) (by decide) (by decide) (fun K hK => ?_) (fun K hK => ?_)
        ·skip
         refine goes_ Tryd.func53 (by kernel_rfl) rfl #[.agg #[.int .u64 x132000_27, .int .u64 x132001_27], .bool (!(x132000_27 == 0) || (!(x132001_27 == 0)))] (by rfl) rfl rfl ql_ ?_
         with_reducible refine (wide_size_signed.calls x132000_27 x132001_27 (!(x132000_27 == 0) || (!(x132001_27 == 0))) t135 t136 t137 _ A37.out).mono ?_
         rintro e w39 ⟨rfl, hb⟩
         refine ⟨_, rfl, ?_⟩
         have n0_ := Aside0.mk (blk_below (qk_ BK124.out) hb)
         have n1_ := Aside0.mk (blk_below (qk_ BK125.out) hb)
         have n2_ := Aside0.mk (blk_below (qk_ BK131.out) hb)
         have n3_ := Aside0.mk (below_step (qb3_ GE124.out GE125.out GE131.out HB.out) hb)
         clear BK124
         clear BK125
         clear BK131
         clear HB
         have BK124 := n0_
         have BK125 := n1_
         have BK131 := n2_
         have HB := n3_
         clear n0_ n1_ n2_ n3_
         (try clear hb)
         (try clear hb2)
         (try clear hk)
         (try clear hi)
         refine hK.out _ _ ⟨(blk_cell BK131.out 0).trans rfl, (blk_cell BK131.out 1).trans rfl, (blk_cell BK124.out 0).trans rfl, (blk_cell BK124.out 1).trans rfl⟩ (fun hHeld => ?_)
         clear hK K
         refine no_ ?_
         refine pz_ 10 38 (nb_ 16 2047) HT_.out ?_
         refine pz_ 11 49 (nb_ 16 4095) HT_.out ?_
         refine pz_ 12 50 (nb_ 16 8191) HT_.out ?_
         refine on_ 13 9 (nb_ 16 16383) HT_.out (fun K hK => ?_)
         refine box_step ?hg (N := 9) ?hd (cs := #[.int .i64 0, .int .u64 0]) (t := 24) ?hr ?_; (case hd => rfl); (case hg => rfl); (case hr => first | (go_simp; done) | (go_simp; rfl))
         intro gb138 hg w40 hbox hb
         have n0_ := Aside0.mk (blk_below (qk_ BK124.out) hb)
         have n1_ := Aside0.mk (blk_below (qk_ BK125.out) hb)
         have n2_ := Aside0.mk (blk_below (qk_ BK131.out) hb)
         have n3_ := Aside0.mk (below_step (qb3_ GE124.out GE125.out GE131.out HB.out) hb)
         have n4_ := Aside0.mk (hbox)
         have n5_ := Aside0.mk (bz_ hg (qb3_ GE124.out GE125.out GE131.out HB.out) : w.heap.size ≤ gb138)
         have n6_ := Aside0.mk (bz_ hg (qb3_ GE124.out GE125.out GE131.out HB.out) : w.heap.size ≤ gb138)
         have n7_ := Aside0.mk (nl_ hg (qk_ BK124.out) : gb124 ≠ gb138)
         have n8_ := Aside0.mk (ng_ hg (qk_ BK124.out) : gb138 ≠ gb124)
         have n9_ := Aside0.mk (nl_ hg (qk_ BK125.out) : gb125 ≠ gb138)
         have n10_ := Aside0.mk (ng_ hg (qk_ BK125.out) : gb138 ≠ gb125)
         have n11_ := Aside0.mk (nl_ hg (qk_ BK131.out) : gb131 ≠ gb138)
         have n12_ := Aside0.mk (ng_ hg (qk_ BK131.out) : gb138 ≠ gb131)
         clear BK124
         clear BK125
         clear BK131
         clear HB
         have BK124 := n0_
         have BK125 := n1_
         have BK131 := n2_
         have HB := n3_
         have BK138 := n4_
         have GW138 := n5_
         have GE138 := n6_
         have NB124_138 := n7_
         have NB138_124 := n8_
         have NB125_138 := n9_
         have NB138_125 := n10_
         have NB131_138 := n11_
         have NB138_131 := n12_
         clear n0_ n1_ n2_ n3_ n4_ n5_ n6_ n7_ n8_ n9_ n10_ n11_ n12_
         clear hb hbox hg
         refine hK.out _ _ ⟨(blk_cell BK131.out 0).trans rfl, (blk_cell BK131.out 1).trans rfl, (blk_cell BK124.out 0).trans rfl, (blk_cell BK124.out 1).trans rfl⟩ (fun hHeld => ?_)
         clear hK K
         refine no_ ?_
         exact norm_ (by simp only [putAll, Act.put, List.setIfInBounds_toArray, List.set_cons_zero, List.set_cons_succ]) (hCont (gb138) _ ⟨hHeld, (qk_ BK124.out), (qk_ BK125.out), (qk_ BK131.out), (qk_ BK138.out), GW138.out, GE138.out, NB124_138.out, NB138_124.out, NB125_138.out, NB138_125.out, NB131_138.out, NB138_131.out, (qb4_ GE124.out GE125.out GE131.out GE138.out HB.out)⟩)
        ·skip
         refine box_step ?hg (N := 9) ?hd (cs := #[.int .i64 0, .int .u64 0]) (t := 24) ?hr ?_; (case hd => rfl); (case hg => rfl); (case hr => first | (go_simp; done) | (go_simp; rfl))
         intro gb138 hg w39 hbox hb
         have n0_ := Aside0.mk (blk_below (qk_ BK124.out) hb)
         have n1_ := Aside0.mk (blk_below (qk_ BK125.out) hb)
         have n2_ := Aside0.mk (blk_below (qk_ BK131.out) hb)
         have n3_ := Aside0.mk (below_step (qb3_ GE124.out GE125.out GE131.out HB.out) hb)
         have n4_ := Aside0.mk (hbox)
         have n5_ := Aside0.mk (bz_ hg (qb3_ GE124.out GE125.out GE131.out HB.out) : w.heap.size ≤ gb138)
         have n6_ := Aside0.mk (bz_ hg (qb3_ GE124.out GE125.out GE131.out HB.out) : w.heap.size ≤ gb138)
         have n7_ := Aside0.mk (nl_ hg (qk_ BK124.out) : gb124 ≠ gb138)
         have n8_ := Aside0.mk (ng_ hg (qk_ BK124.out) : gb138 ≠ gb124)
         have n9_ := Aside0.mk (nl_ hg (qk_ BK125.out) : gb125 ≠ gb138)
         have n10_ := Aside0.mk (ng_ hg (qk_ BK125.out) : gb138 ≠ gb125)
         have n11_ := Aside0.mk (nl_ hg (qk_ BK131.out) : gb131 ≠ gb138)
         have n12_ := Aside0.mk (ng_ hg (qk_ BK131.out) : gb138 ≠ gb131)
         clear BK124
         clear BK125
         clear BK131
         clear HB
         have BK124 := n0_
         have BK125 := n1_
         have BK131 := n2_
         have HB := n3_
         have BK138 := n4_
         have GW138 := n5_
         have GE138 := n6_
         have NB124_138 := n7_
         have NB138_124 := n8_
         have NB125_138 := n9_
         have NB138_125 := n10_
         have NB131_138 := n11_
         have NB138_131 := n12_
         clear n0_ n1_ n2_ n3_ n4_ n5_ n6_ n7_ n8_ n9_ n10_ n11_ n12_
         clear hb hbox hg
         refine hK.out _ _ ⟨(blk_cell BK131.out 0).trans rfl, (blk_cell BK131.out 1).trans rfl, (blk_cell BK124.out 0).trans rfl, (blk_cell BK124.out 1).trans rfl⟩ (fun hHeld => ?_)
         clear hK K
         refine no_ ?_
         refine on_ 9 48 (nb_ 16 9215) HT_.out (fun K hK => ?_)
         refine goes_ Tryd.func53 (by kernel_rfl) rfl #[.agg #[.int .u64 x132000_27, .int .u64 x132001_27], .bool (!(x132000_27 == 0) || (!(x132001_27 == 0)))] (by rfl) rfl rfl ql_ ?_
         with_reducible refine (wide_size_signed.calls x132000_27 x132001_27 (!(x132000_27 == 0) || (!(x132001_27 == 0))) t135 t136 t137 _ A37.out).mono ?_
         rintro e w40 ⟨rfl, hb⟩
         refine ⟨_, rfl, ?_⟩
         have n0_ := Aside0.mk (blk_below (qk_ BK124.out) hb)
         have n1_ := Aside0.mk (blk_below (qk_ BK125.out) hb)
         have n2_ := Aside0.mk (blk_below (qk_ BK131.out) hb)
         have n3_ := Aside0.mk (blk_below (qk_ BK138.out) hb)
         have n4_ := Aside0.mk (below_step (qb4_ GE124.out GE125.out GE131.out GE138.out HB.out) hb)
         clear BK124
         clear BK125
         clear BK131
         clear BK138
         clear HB
         have BK124 := n0_
         have BK125 := n1_
         have BK131 := n2_
         have BK138 := n3_
         have HB := n4_
         clear n0_ n1_ n2_ n3_ n4_
         (try clear hb)
         (try clear hb2)
         (try clear hk)
         (try clear hi)
         refine hK.out _ _ ⟨(blk_cell BK131.out 0).trans rfl, (blk_cell BK131.out 1).trans rfl, (blk_cell BK124.out 0).trans rfl, (blk_cell BK124.out 1).trans rfl⟩ (fun hHeld => ?_)
         clear hK K
         refine no_ ?_
         refine pz_ 10 38 (nb_ 16 10239) HT_.out ?_
         refine pz_ 11 49 (nb_ 16 12287) HT_.out ?_
         refine pz_ 12 50 (nb_ 16 16383) HT_.out ?_
         exact norm_ (by simp only [putAll, Act.put, List.setIfInBounds_toArray, List.set_cons_zero, List.set_cons_succ]) (hCont (gb138) _ ⟨hHeld, (qk_ BK124.out), (qk_ BK125.out), (qk_ BK131.out), (qk_ BK138.out), GW138.out, GE138.out, NB124_138.out, NB138_124.out, NB125_138.out, NB138_125.out, NB131_138.out, NB138_131.out, (qb4_ GE124.out GE125.out GE131.out GE138.out HB.out)⟩)
       rintro gb138 w41 ⟨hS_, h0_, h1_, h2_, h3_, h4_, h5_, h6_, h7_, h8_, h9_, h10_, h11_, h12_⟩
       have n0_ : Aside0 (w41.heap[gb124]? = some (.cells #[.int .i64 a0_0, .int .u64 a0_1] 24 (0, 0))) := ⟨h0_⟩
       have n1_ : Aside0 (w41.heap[gb125]? = some (.cells #[.int .i64 0, .int .u64 0] 24 (0, 0))) := ⟨h1_⟩
       have n2_ : Aside0 (w41.heap[gb131]? = some (.cells #[.int .u64 x132000_27, .int .u64 x132001_27] 66 (0, 0))) := ⟨h2_⟩
       have n3_ : Aside0 (w41.heap[gb138]? = some (.cells #[.int .i64 0, .int .u64 0] 24 (0, 0))) := ⟨h3_⟩
       have n4_ : Aside0 (w.heap.size ≤ gb138) := ⟨h4_⟩
       have n5_ : Aside0 (w.heap.size ≤ gb138) := ⟨h5_⟩
       have n6_ : Aside0 (gb124 ≠ gb138) := ⟨h6_⟩
       have n7_ : Aside0 (gb138 ≠ gb124) := ⟨h7_⟩
       have n8_ : Aside0 (gb125 ≠ gb138) := ⟨h8_⟩
       have n9_ : Aside0 (gb138 ≠ gb125) := ⟨h9_⟩
       have n10_ : Aside0 (gb131 ≠ gb138) := ⟨h10_⟩
       have n11_ : Aside0 (gb138 ≠ gb131) := ⟨h11_⟩
       have n12_ : Aside0 (Below w.heap.size w w41) := ⟨h12_⟩
       clear BK124
       clear BK125
       clear BK131
       clear HB
       clear h0_ h1_ h2_ h3_ h4_ h5_ h6_ h7_ h8_ h9_ h10_ h11_ h12_
       have BK124 := n0_
       have BK125 := n1_
       have BK131 := n2_
       have BK138 := n3_
       have GW138 := n4_
       have GE138 := n5_
       have NB124_138 := n6_
       have NB138_124 := n7_
       have NB125_138 := n8_
       have NB138_125 := n9_
       have NB131_138 := n10_
       have NB138_131 := n11_
       have HB := n12_
       clear n0_ n1_ n2_ n3_ n4_ n5_ n6_ n7_ n8_ n9_ n10_ n11_ n12_
       have hHeld : w41.cell? ⟨gb131, 0, none⟩ = some (.int .u64 x132000_27) ∧ w41.cell? ⟨gb131, 1, none⟩ = some (.int .u64 x132001_27) ∧ w41.cell? ⟨gb124, 0, none⟩ = some (.int .i64 a0_0) ∧ w41.cell? ⟨gb124, 1, none⟩ = some (.int .u64 a0_1) := hS_
       refine norm_ (a' := ?_) ?_ ?_
       rotate_left
       ·simp only [putAll, Act.put, List.setIfInBounds_toArray, List.set_cons_zero, List.set_cons_succ]
        rfl
       refine one_ (i := 14) (N := none) (nb_ 16 32767) rfl rfl (one_of HT_.out (by kernel_rfl)) (by decide) (fun K hK => ?_)
       have hs42 : w41.cell? ⟨gb138, 0, none⟩ = some (.int .i64 0) := (blk_cell BK138.out 0).trans rfl
       have hfs42 := blk_frozen BK138.out 0
       have hns42_0 := NB124_138.out
       have hns42_1 := NB125_138.out
       have hns42_2 := NB131_138.out
       have hms42_0 := NB138_124.out
       have hms42_1 := NB138_125.out
       have hms42_2 := NB138_131.out
       have hs43 : w41.cell? ⟨gb138, 1, none⟩ = some (.int .u64 0) := (blk_cell BK138.out 1).trans rfl
       have hfs43 := blk_frozen BK138.out 1
       have hns43_0 := NB124_138.out
       have hns43_1 := NB125_138.out
       have hns43_2 := NB131_138.out
       have hms43_0 := NB138_124.out
       have hms43_1 := NB138_125.out
       have hms43_2 := NB138_131.out
       refine skip_ (w1 := ?_) (by rfl) rfl ?_ ?_
       rotate_left
       ·go_simp
        rfl
       refine hK.out _ _ ⟨((cell_far (p := ⟨gb138, _, none⟩) NB131_138.out _).trans (((cell_far (p := ⟨gb138, _, none⟩) NB131_138.out _).trans (hHeld.1)))), ((cell_far (p := ⟨gb138, _, none⟩) NB131_138.out _).trans (((cell_far (p := ⟨gb138, _, none⟩) NB131_138.out _).trans (hHeld.2.1)))), ((cell_far (p := ⟨gb138, _, none⟩) NB124_138.out _).trans (((cell_far (p := ⟨gb138, _, none⟩) NB124_138.out _).trans (hHeld.2.2.1)))), ((cell_far (p := ⟨gb138, _, none⟩) NB124_138.out _).trans (((cell_far (p := ⟨gb138, _, none⟩) NB124_138.out _).trans (hHeld.2.2.2))))⟩ (fun hHeld => ?_)
       clear hK K
       refine pz_ 15 10 (nb_ 16 65535) HT_.out ?_
       refine done_ (done_of HT_.out (by kernel_rfl)) ?_
       have hnb44 := NB138_124.out
       have hnc44 := NB124_138.out
       have hnb45 := NB138_125.out
       have hnc45 := NB125_138.out
       have hnb46 := NB138_131.out
       have hnc46 := NB131_138.out
       have hcz47_0 : w41.cell? ⟨gb138, 0, none⟩ = some (.int .i64 0) := (blk_cell BK138.out 0).trans rfl
       have hcz47_1 : w41.cell? ⟨gb138, 1, none⟩ = some (.int .u64 0) := (blk_cell BK138.out 1).trans rfl
       have hfz47_0 := blk_frozen BK138.out 0
       have hfz47_1 := blk_frozen BK138.out 1
       have hnb48 := NB125_124.out
       have hnc48 := NB124_125.out
       have hnb49 := NB125_131.out
       have hnc49 := NB131_125.out
       have hcz50_0 : w41.cell? ⟨gb125, 0, none⟩ = some (.int .i64 0) := (blk_cell BK125.out 0).trans rfl
       have hcz50_1 : w41.cell? ⟨gb125, 1, none⟩ = some (.int .u64 0) := (blk_cell BK125.out 1).trans rfl
       have hfz50_0 := blk_frozen BK125.out 0
       have hfz50_1 := blk_frozen BK125.out 1
       try go_wp2
       refine bodyPost_ret (results_ctt rfl _ _ gb125 24 #[.int .i64 t135, .int .u64 t136] (0, 0) _ rfl (qppff_ #[.int .i64 t135, .int .u64 0] 1 #[.int .i64 0, .int .u64 0] 0 NB125_138.out NB125_138.out BK125.out) Tryd.underlying24 rfl (by kernel_rfl)) rfl ?_
       exact ⟨qe_, qb4_ GE124.out GE125.out GE131.out GE138.out HB.out⟩
      ·rw [if_neg c36] at H
       have c36b0 : decide (a0_0 < 0) = false := decide_eq_false c36
       clear c36
       replace H := Option.bind_eq_some_iff.mp H
       obtain ⟨⟨t139, t140, t141⟩, A510, H⟩ := H
       replace H : (some (t139, t140, wrap64 (x8_27), 0)) = some (r1, r2, r3, r4) := H
       have A51 := Aside0.mk A510
       clear A510
       simp only [Option.some.injEq, Prod.mk.injEq] at H
       obtain ⟨rfl, rfl, rfl, rfl⟩ := H
       try go_wp2
       have n0_ := Aside0.mk (blk_drew BK124.out)
       have n1_ := Aside0.mk (blk_drew BK125.out)
       have n2_ := Aside0.mk (blk_drew BK131.out)
       have n3_ := Aside0.mk (below_drew1 HB.out)
       clear BK124
       clear BK125
       clear BK131
       clear HB
       have BK124 := n0_
       have BK125 := n1_
       have BK131 := n2_
       have HB := n3_
       clear n0_ n1_ n2_ n3_
       refine start_ (n := 16) (S := fun w' => w'.cell? ⟨gb131, 0, none⟩ = some (.int .u64 x132000_27) ∧ w'.cell? ⟨gb131, 1, none⟩ = some (.int .u64 x132001_27) ∧ w'.cell? ⟨gb124, 0, none⟩ = some (.int .i64 a0_0) ∧ w'.cell? ⟨gb124, 1, none⟩ = some (.int .u64 a0_1)) (ds := []) (nb_ 16 0) (by kernel_rfl) rfl rfl ⟨(blk_cell BK131.out 0).trans rfl, (blk_cell BK131.out 1).trans rfl, (blk_cell BK124.out 0).trans rfl, (blk_cell BK124.out 1).trans rfl⟩ (fun hHeld => ?_); refine with_tabW wide_DivP.tab7 wide_DivP.bits7 (fun HT_ HW_ => ?_)
       generalize wc.drew = w52 at BK124 BK125 BK131 HB hHeld ⊢
       refine pz_ 1 40 (nb_ 16 2) HT_.out ?_
       refine tk4_ 0 39 (nb_ 16 3) HT_.out HW_.out hHeld ?_
       refine tk4_ 2 41 (nb_ 16 7) HT_.out HW_.out hHeld ?_
       refine pz_ 3 42 (nb_ 16 15) HT_.out ?_
       refine pz_ 4 43 (nb_ 16 31) HT_.out ?_
       refine pu_ 5 44 (nb_ 16 63) HT_.out ?_
       refine pu_ 6 45 (nb_ 16 127) HT_.out ?_
       refine pu_ 7 46 (nb_ 16 255) HT_.out ?_
       refine pz_ 8 47 (nb_ 16 511) HT_.out ?_
       refine join_ (σ := Nat) 2 (nb_ 16 16383) (fun s_ => [(48, .tuple #[.agg #[.int .i64 t139, .int .u64 t140], .int .i64 t141]), (9, .pointer (some ⟨s_, 0, none⟩)), (38, .tuple #[.agg #[.int .i64 t139, .int .u64 t140], .int .i64 t141]), (49, .agg #[.int .i64 t139, .int .u64 t140]), (50, .int .i64 t141)]) (fun s_ w' => (w'.cell? ⟨gb131, 0, none⟩ = some (.int .u64 x132000_27) ∧ w'.cell? ⟨gb131, 1, none⟩ = some (.int .u64 x132001_27) ∧ w'.cell? ⟨gb124, 0, none⟩ = some (.int .i64 a0_0) ∧ w'.cell? ⟨gb124, 1, none⟩ = some (.int .u64 a0_1)) ∧ (w'.heap[gb124]? = some (.cells #[.int .i64 a0_0, .int .u64 a0_1] 24 (0, 0))) ∧ (w'.heap[gb125]? = some (.cells #[.int .i64 0, .int .u64 0] 24 (0, 0))) ∧ (w'.heap[gb131]? = some (.cells #[.int .u64 x132000_27, .int .u64 x132001_27] 66 (0, 0))) ∧ (w'.heap[s_]? = some (.cells #[.int .i64 0, .int .u64 0] 24 (0, 0))) ∧ (w.heap.size ≤ s_) ∧ (w.heap.size ≤ s_) ∧ (gb124 ≠ s_) ∧ (s_ ≠ gb124) ∧ (gb125 ≠ s_) ∧ (s_ ≠ gb125) ∧ (gb131 ≠ s_) ∧ (s_ ≠ gb131) ∧ (Below w.heap.size w w')) ?_ ?_
       rotate_left
       ·intro hCont
        refine two_ (i := 9) (j := 13) (Ni := some 48) (Nj := some 9) (nb_ 16 1023) (nb_ 16 8703) rfl rfl rfl rfl (two_of HT_.out (by kernel_rfl)) (by decide) (by decide) (fun K hK => ?_) (fun K hK => ?_)
        ·skip
         refine goes_ Tryd.func53 (by kernel_rfl) rfl #[.agg #[.int .u64 x132000_27, .int .u64 x132001_27], .bool false] (by rfl) rfl rfl ql_ ?_
         with_reducible refine (wide_size_signed.calls x132000_27 x132001_27 false t139 t140 t141 _ A51.out).mono ?_
         rintro e w53 ⟨rfl, hb⟩
         refine ⟨_, rfl, ?_⟩
         have n0_ := Aside0.mk (blk_below (qk_ BK124.out) hb)
         have n1_ := Aside0.mk (blk_below (qk_ BK125.out) hb)
         have n2_ := Aside0.mk (blk_below (qk_ BK131.out) hb)
         have n3_ := Aside0.mk (below_step (qb3_ GE124.out GE125.out GE131.out HB.out) hb)
         clear BK124
         clear BK125
         clear BK131
         clear HB
         have BK124 := n0_
         have BK125 := n1_
         have BK131 := n2_
         have HB := n3_
         clear n0_ n1_ n2_ n3_
         (try clear hb)
         (try clear hb2)
         (try clear hk)
         (try clear hi)
         refine hK.out _ _ ⟨(blk_cell BK131.out 0).trans rfl, (blk_cell BK131.out 1).trans rfl, (blk_cell BK124.out 0).trans rfl, (blk_cell BK124.out 1).trans rfl⟩ (fun hHeld => ?_)
         clear hK K
         refine no_ ?_
         refine pz_ 10 38 (nb_ 16 2047) HT_.out ?_
         refine pz_ 11 49 (nb_ 16 4095) HT_.out ?_
         refine pz_ 12 50 (nb_ 16 8191) HT_.out ?_
         refine on_ 13 9 (nb_ 16 16383) HT_.out (fun K hK => ?_)
         refine box_step ?hg (N := 9) ?hd (cs := #[.int .i64 0, .int .u64 0]) (t := 24) ?hr ?_; (case hd => rfl); (case hg => rfl); (case hr => first | (go_simp; done) | (go_simp; rfl))
         intro gb142 hg w54 hbox hb
         have n0_ := Aside0.mk (blk_below (qk_ BK124.out) hb)
         have n1_ := Aside0.mk (blk_below (qk_ BK125.out) hb)
         have n2_ := Aside0.mk (blk_below (qk_ BK131.out) hb)
         have n3_ := Aside0.mk (below_step (qb3_ GE124.out GE125.out GE131.out HB.out) hb)
         have n4_ := Aside0.mk (hbox)
         have n5_ := Aside0.mk (bz_ hg (qb3_ GE124.out GE125.out GE131.out HB.out) : w.heap.size ≤ gb142)
         have n6_ := Aside0.mk (bz_ hg (qb3_ GE124.out GE125.out GE131.out HB.out) : w.heap.size ≤ gb142)
         have n7_ := Aside0.mk (nl_ hg (qk_ BK124.out) : gb124 ≠ gb142)
         have n8_ := Aside0.mk (ng_ hg (qk_ BK124.out) : gb142 ≠ gb124)
         have n9_ := Aside0.mk (nl_ hg (qk_ BK125.out) : gb125 ≠ gb142)
         have n10_ := Aside0.mk (ng_ hg (qk_ BK125.out) : gb142 ≠ gb125)
         have n11_ := Aside0.mk (nl_ hg (qk_ BK131.out) : gb131 ≠ gb142)
         have n12_ := Aside0.mk (ng_ hg (qk_ BK131.out) : gb142 ≠ gb131)
         clear BK124
         clear BK125
         clear BK131
         clear HB
         have BK124 := n0_
         have BK125 := n1_
         have BK131 := n2_
         have HB := n3_
         have BK142 := n4_
         have GW142 := n5_
         have GE142 := n6_
         have NB124_142 := n7_
         have NB142_124 := n8_
         have NB125_142 := n9_
         have NB142_125 := n10_
         have NB131_142 := n11_
         have NB142_131 := n12_
         clear n0_ n1_ n2_ n3_ n4_ n5_ n6_ n7_ n8_ n9_ n10_ n11_ n12_
         clear hb hbox hg
         refine hK.out _ _ ⟨(blk_cell BK131.out 0).trans rfl, (blk_cell BK131.out 1).trans rfl, (blk_cell BK124.out 0).trans rfl, (blk_cell BK124.out 1).trans rfl⟩ (fun hHeld => ?_)
         clear hK K
         refine no_ ?_
         exact norm_ (by simp only [putAll, Act.put, List.setIfInBounds_toArray, List.set_cons_zero, List.set_cons_succ]) (hCont (gb142) _ ⟨hHeld, (qk_ BK124.out), (qk_ BK125.out), (qk_ BK131.out), (qk_ BK142.out), GW142.out, GE142.out, NB124_142.out, NB142_124.out, NB125_142.out, NB142_125.out, NB131_142.out, NB142_131.out, (qb4_ GE124.out GE125.out GE131.out GE142.out HB.out)⟩)
        ·skip
         refine box_step ?hg (N := 9) ?hd (cs := #[.int .i64 0, .int .u64 0]) (t := 24) ?hr ?_; (case hd => rfl); (case hg => rfl); (case hr => first | (go_simp; done) | (go_simp; rfl))
         intro gb142 hg w53 hbox hb
         have n0_ := Aside0.mk (blk_below (qk_ BK124.out) hb)
         have n1_ := Aside0.mk (blk_below (qk_ BK125.out) hb)
         have n2_ := Aside0.mk (blk_below (qk_ BK131.out) hb)
         have n3_ := Aside0.mk (below_step (qb3_ GE124.out GE125.out GE131.out HB.out) hb)
         have n4_ := Aside0.mk (hbox)
         have n5_ := Aside0.mk (bz_ hg (qb3_ GE124.out GE125.out GE131.out HB.out) : w.heap.size ≤ gb142)
         have n6_ := Aside0.mk (bz_ hg (qb3_ GE124.out GE125.out GE131.out HB.out) : w.heap.size ≤ gb142)
         have n7_ := Aside0.mk (nl_ hg (qk_ BK124.out) : gb124 ≠ gb142)
         have n8_ := Aside0.mk (ng_ hg (qk_ BK124.out) : gb142 ≠ gb124)
         have n9_ := Aside0.mk (nl_ hg (qk_ BK125.out) : gb125 ≠ gb142)
         have n10_ := Aside0.mk (ng_ hg (qk_ BK125.out) : gb142 ≠ gb125)
         have n11_ := Aside0.mk (nl_ hg (qk_ BK131.out) : gb131 ≠ gb142)
         have n12_ := Aside0.mk (ng_ hg (qk_ BK131.out) : gb142 ≠ gb131)
         clear BK124
         clear BK125
         clear BK131
         clear HB
         have BK124 := n0_
         have BK125 := n1_
         have BK131 := n2_
         have HB := n3_
         have BK142 := n4_
         have GW142 := n5_
         have GE142 := n6_
         have NB124_142 := n7_
         have NB142_124 := n8_
         have NB125_142 := n9_
         have NB142_125 := n10_
         have NB131_142 := n11_
         have NB142_131 := n12_
         clear n0_ n1_ n2_ n3_ n4_ n5_ n6_ n7_ n8_ n9_ n10_ n11_ n12_
         clear hb hbox hg
         refine hK.out _ _ ⟨(blk_cell BK131.out 0).trans rfl, (blk_cell BK131.out 1).trans rfl, (blk_cell BK124.out 0).trans rfl, (blk_cell BK124.out 1).trans rfl⟩ (fun hHeld => ?_)
         clear hK K
         refine no_ ?_
         refine on_ 9 48 (nb_ 16 9215) HT_.out (fun K hK => ?_)
         refine goes_ Tryd.func53 (by kernel_rfl) rfl #[.agg #[.int .u64 x132000_27, .int .u64 x132001_27], .bool false] (by rfl) rfl rfl ql_ ?_
         with_reducible refine (wide_size_signed.calls x132000_27 x132001_27 false t139 t140 t141 _ A51.out).mono ?_
         rintro e w54 ⟨rfl, hb⟩
         refine ⟨_, rfl, ?_⟩
         have n0_ := Aside0.mk (blk_below (qk_ BK124.out) hb)
         have n1_ := Aside0.mk (blk_below (qk_ BK125.out) hb)
         have n2_ := Aside0.mk (blk_below (qk_ BK131.out) hb)
         have n3_ := Aside0.mk (blk_below (qk_ BK142.out) hb)
         have n4_ := Aside0.mk (below_step (qb4_ GE124.out GE125.out GE131.out GE142.out HB.out) hb)
         clear BK124
         clear BK125
         clear BK131
         clear BK142
         clear HB
         have BK124 := n0_
         have BK125 := n1_
         have BK131 := n2_
         have BK142 := n3_
         have HB := n4_
         clear n0_ n1_ n2_ n3_ n4_
         (try clear hb)
         (try clear hb2)
         (try clear hk)
         (try clear hi)
         refine hK.out _ _ ⟨(blk_cell BK131.out 0).trans rfl, (blk_cell BK131.out 1).trans rfl, (blk_cell BK124.out 0).trans rfl, (blk_cell BK124.out 1).trans rfl⟩ (fun hHeld => ?_)
         clear hK K
         refine no_ ?_
         refine pz_ 10 38 (nb_ 16 10239) HT_.out ?_
         refine pz_ 11 49 (nb_ 16 12287) HT_.out ?_
         refine pz_ 12 50 (nb_ 16 16383) HT_.out ?_
         exact norm_ (by simp only [putAll, Act.put, List.setIfInBounds_toArray, List.set_cons_zero, List.set_cons_succ]) (hCont (gb142) _ ⟨hHeld, (qk_ BK124.out), (qk_ BK125.out), (qk_ BK131.out), (qk_ BK142.out), GW142.out, GE142.out, NB124_142.out, NB142_124.out, NB125_142.out, NB142_125.out, NB131_142.out, NB142_131.out, (qb4_ GE124.out GE125.out GE131.out GE142.out HB.out)⟩)
       rintro gb142 w55 ⟨hS_, h0_, h1_, h2_, h3_, h4_, h5_, h6_, h7_, h8_, h9_, h10_, h11_, h12_⟩
       have n0_ : Aside0 (w55.heap[gb124]? = some (.cells #[.int .i64 a0_0, .int .u64 a0_1] 24 (0, 0))) := ⟨h0_⟩
       have n1_ : Aside0 (w55.heap[gb125]? = some (.cells #[.int .i64 0, .int .u64 0] 24 (0, 0))) := ⟨h1_⟩
       have n2_ : Aside0 (w55.heap[gb131]? = some (.cells #[.int .u64 x132000_27, .int .u64 x132001_27] 66 (0, 0))) := ⟨h2_⟩
       have n3_ : Aside0 (w55.heap[gb142]? = some (.cells #[.int .i64 0, .int .u64 0] 24 (0, 0))) := ⟨h3_⟩
       have n4_ : Aside0 (w.heap.size ≤ gb142) := ⟨h4_⟩
       have n5_ : Aside0 (w.heap.size ≤ gb142) := ⟨h5_⟩
       have n6_ : Aside0 (gb124 ≠ gb142) := ⟨h6_⟩
       have n7_ : Aside0 (gb142 ≠ gb124) := ⟨h7_⟩
       have n8_ : Aside0 (gb125 ≠ gb142) := ⟨h8_⟩
       have n9_ : Aside0 (gb142 ≠ gb125) := ⟨h9_⟩
       have n10_ : Aside0 (gb131 ≠ gb142) := ⟨h10_⟩
       have n11_ : Aside0 (gb142 ≠ gb131) := ⟨h11_⟩
       have n12_ : Aside0 (Below w.heap.size w w55) := ⟨h12_⟩
       clear BK124
       clear BK125
       clear BK131
       clear HB
       clear h0_ h1_ h2_ h3_ h4_ h5_ h6_ h7_ h8_ h9_ h10_ h11_ h12_
       have BK124 := n0_
       have BK125 := n1_
       have BK131 := n2_
       have BK142 := n3_
       have GW142 := n4_
       have GE142 := n5_
       have NB124_142 := n6_
       have NB142_124 := n7_
       have NB125_142 := n8_
       have NB142_125 := n9_
       have NB131_142 := n10_
       have NB142_131 := n11_
       have HB := n12_
       clear n0_ n1_ n2_ n3_ n4_ n5_ n6_ n7_ n8_ n9_ n10_ n11_ n12_
       have hHeld : w55.cell? ⟨gb131, 0, none⟩ = some (.int .u64 x132000_27) ∧ w55.cell? ⟨gb131, 1, none⟩ = some (.int .u64 x132001_27) ∧ w55.cell? ⟨gb124, 0, none⟩ = some (.int .i64 a0_0) ∧ w55.cell? ⟨gb124, 1, none⟩ = some (.int .u64 a0_1) := hS_
       refine norm_ (a' := ?_) ?_ ?_
       rotate_left
       ·simp only [putAll, Act.put, List.setIfInBounds_toArray, List.set_cons_zero, List.set_cons_succ]
        rfl
       refine one_ (i := 14) (N := none) (nb_ 16 32767) rfl rfl (one_of HT_.out (by kernel_rfl)) (by decide) (fun K hK => ?_)
       have hs56 : w55.cell? ⟨gb142, 0, none⟩ = some (.int .i64 0) := (blk_cell BK142.out 0).trans rfl
       have hfs56 := blk_frozen BK142.out 0
       have hns56_0 := NB124_142.out
       have hns56_1 := NB125_142.out
       have hns56_2 := NB131_142.out
       have hms56_0 := NB142_124.out
       have hms56_1 := NB142_125.out
       have hms56_2 := NB142_131.out
       have hs57 : w55.cell? ⟨gb142, 1, none⟩ = some (.int .u64 0) := (blk_cell BK142.out 1).trans rfl
       have hfs57 := blk_frozen BK142.out 1
       have hns57_0 := NB124_142.out
       have hns57_1 := NB125_142.out
       have hns57_2 := NB131_142.out
       have hms57_0 := NB142_124.out
       have hms57_1 := NB142_125.out
       have hms57_2 := NB142_131.out
       refine skip_ (w1 := ?_) (by rfl) rfl ?_ ?_
       rotate_left
       ·go_simp
        rfl
       refine hK.out _ _ ⟨((cell_far (p := ⟨gb142, _, none⟩) NB131_142.out _).trans (((cell_far (p := ⟨gb142, _, none⟩) NB131_142.out _).trans (hHeld.1)))), ((cell_far (p := ⟨gb142, _, none⟩) NB131_142.out _).trans (((cell_far (p := ⟨gb142, _, none⟩) NB131_142.out _).trans (hHeld.2.1)))), ((cell_far (p := ⟨gb142, _, none⟩) NB124_142.out _).trans (((cell_far (p := ⟨gb142, _, none⟩) NB124_142.out _).trans (hHeld.2.2.1)))), ((cell_far (p := ⟨gb142, _, none⟩) NB124_142.out _).trans (((cell_far (p := ⟨gb142, _, none⟩) NB124_142.out _).trans (hHeld.2.2.2))))⟩ (fun hHeld => ?_)
       clear hK K
       refine pz_ 15 10 (nb_ 16 65535) HT_.out ?_
       refine done_ (done_of HT_.out (by kernel_rfl)) ?_
       have hnb58 := NB142_124.out
       have hnc58 := NB124_142.out
       have hnb59 := NB142_125.out
       have hnc59 := NB125_142.out
       have hnb60 := NB142_131.out
       have hnc60 := NB131_142.out
       have hcz61_0 : w55.cell? ⟨gb142, 0, none⟩ = some (.int .i64 0) := (blk_cell BK142.out 0).trans rfl
       have hcz61_1 : w55.cell? ⟨gb142, 1, none⟩ = some (.int .u64 0) := (blk_cell BK142.out 1).trans rfl
       have hfz61_0 := blk_frozen BK142.out 0
       have hfz61_1 := blk_frozen BK142.out 1
       have hnb62 := NB125_124.out
       have hnc62 := NB124_125.out
       have hnb63 := NB125_131.out
       have hnc63 := NB131_125.out
       have hcz64_0 : w55.cell? ⟨gb125, 0, none⟩ = some (.int .i64 0) := (blk_cell BK125.out 0).trans rfl
       have hcz64_1 : w55.cell? ⟨gb125, 1, none⟩ = some (.int .u64 0) := (blk_cell BK125.out 1).trans rfl
       have hfz64_0 := blk_frozen BK125.out 0
       have hfz64_1 := blk_frozen BK125.out 1
       try go_wp2
       refine bodyPost_ret (results_ctt rfl _ _ gb125 24 #[.int .i64 t139, .int .u64 t140] (0, 0) _ rfl (qppff_ #[.int .i64 t139, .int .u64 0] 1 #[.int .i64 0, .int .u64 0] 0 NB125_142.out NB125_142.out BK125.out) Tryd.underlying24 rfl (by kernel_rfl)) rfl ?_
       exact ⟨qe_, qb4_ GE124.out GE125.out GE131.out GE142.out HB.out⟩
end Go.Proofs.YtkdhippoibjfkaaDoor.PR
end
section
namespace Go.Proofs.YtkdhippoibjfkaaDoor.PR
open Go.RowKit Go.Proofs.YtkdhippoibjfkaaDoorW.PrintWords Go.Proofs.YtkdhippoibjfkaaDoorW.PrintLast
set_option linter.unusedVariables false
set_option linter.unusedSimpArgs false
attribute [local go_sem high] eqA66
def wide_Div.f (a0_0 a0_1 a1 : Int) : Option (Int × Int × Int × Int) :=
 if isW a0_0 a0_1 ∧ inI a1 then
  some (if a1 < 1 then (0, 0, 0, 1) else (wv a0_0 a0_1 / a1 / 18446744073709551616, wv a0_0 a0_1 / a1 % 18446744073709551616, wv a0_0 a0_1 % a1, 0)) else none
theorem wide_Div.eq {a b n : Int} {r : Int × Int × Int × Int} (h : wide_Div.f a b n = some r) : ∃ k, wide_DivP.f k a b n = some r := by
 unfold wide_Div.f at h
 split at h
 ·rename_i q
  obtain ⟨⟨⟨a0, a1⟩, b0, b1⟩, n0, n1⟩ := q
  injection h with h
  subst h
  refine ⟨2, ?_⟩
  unfold wide_DivP.f
  by_cases hn : n < 1
  ·rw [if_pos hn, if_pos hn]
  ·rw [if_neg hn, if_neg hn]
   unfold wide_absolute.f
   rw [if_pos ⟨⟨a0, a1⟩, b0, b1⟩]
   simp only [Option.bind_some]
   have hun : IntKind.u64.wrap n = n := u64_id _ (by omega) (by omega)
   have hv : wv a b = a * 18446744073709551616 + b := rfl
   have mrange : 0 ≤ (if a < 0 then -(wv a b) else wv a b) ∧ (if a < 0 then -(wv a b) else wv a b) ≤ 170141183460469231731687303715884105728 := by split <;> omega
   have hvm : wv a b = if a < 0 then -(if a < 0 then -(wv a b) else wv a b) else (if a < 0 then -(wv a b) else wv a b) := by split <;> omega
   generalize hm : (if a < 0 then -(wv a b) else wv a b) = m at *
   obtain ⟨m0, m1⟩ := mrange
   have hwm : wv (m / 18446744073709551616) (m % 18446744073709551616) = m := by unfold wv; omega
   unfold wide_size_divide.f
   rw [hun, if_pos ⟨⟨by unfold inU; omega, by unfold inU; omega⟩, by omega, by omega⟩, hwm]
   simp only [Option.bind_some]
   have q0 : 0 ≤ m / n := Int.ediv_nonneg m0 (by omega)
   have q1 : m / n ≤ m := Int.ediv_le_self n m0
   have r0 := Int.emod_nonneg m (show n ≠ 0 by omega)
   have r1 := Int.emod_lt_of_pos m (show 0 < n by omega)
   have hwq : wv (m / n / 18446744073709551616) (m / n % 18446744073709551616) = m / n := by unfold wv; omega
   by_cases ha : a < 0
   ·rw [if_pos ha]
    simp only [wide_DivP.j0, wide_DivP.j1]
    rw [if_pos ha] at hvm
    obtain ⟨d1, d2⟩ := neg_div (m := m) (n := n) (by omega)
    have mpos : 0 < m := by
     rw [if_pos ha] at hm
     omega
    rw [hvm, d1, d2]
    by_cases hr : 0 < m % n
    ·rw [if_pos (by simpa using hr), if_pos hr, if_pos hr]
     have hq2 : m / n ≤ 170141183460469231731687303715884105727 := by
      by_cases h1n : n = 1
      ·subst h1n; rw [Int.emod_one] at hr; omega
      ·have h3 := Int.emod_add_mul_ediv m n
       have h4 : 2 * (m / n) ≤ n * (m / n) := Int.mul_le_mul_of_nonneg_right (by omega) q0
       omega
     unfold wide_size_times.f
     rw [if_pos ⟨⟨by unfold inU; omega, by unfold inU; omega⟩, by decide, by decide⟩, hwq, Int.mul_one]
     simp only [Option.bind_some]
     rw [if_pos ha, hun, u64_id (n - m % n) (by omega) (by omega)]
     have hwq2 : wv ((m / n + 1) / 18446744073709551616 % 18446744073709551616) ((m / n + 1) % 18446744073709551616) = m / n + 1 := by unfold wv; omega
     unfold wide_size_signed.f
     rw [if_pos ⟨by unfold inU; omega, by unfold inU; omega⟩, hwq2]
     have hne : (!((m / n + 1) / 18446744073709551616 % 18446744073709551616 == 0) || !((m / n + 1) % 18446744073709551616 == 0)) = true := by
      rw [Bool.or_eq_true]
      simp only [Bool.not_eq_true', beq_eq_false_iff_ne]
      omega
     rw [hne, if_neg (by simp; omega)]
     simp only [Option.bind_some, if_true]
     rw [i64_id (n - m % n) (by omega) (by omega)]
    ·rw [if_neg (by simpa using hr), if_neg hr, if_neg hr, if_pos ha]
     unfold wide_size_signed.f
     rw [if_pos ⟨by unfold inU; omega, by unfold inU; omega⟩, hwq]
     have hr0 : m % n = 0 := by omega
     by_cases hz : m / n = 0
     ·have h3 := Int.emod_add_mul_ediv m n
      rw [hz, Int.mul_zero] at h3
      omega
     ·have hne : (!(m / n / 18446744073709551616 == 0) || !(m / n % 18446744073709551616 == 0)) = true := by
       rw [Bool.or_eq_true]
       simp only [Bool.not_eq_true', beq_eq_false_iff_ne]
       omega
      rw [hne, if_neg (by simp; omega)]
      simp only [Option.bind_some, if_true]
      rw [hr0, i64_id 0 (by omega) (by omega)]
   ·rw [if_neg ha]
    simp only [wide_DivP.j0, wide_DivP.j1]
    rw [if_neg ha] at hvm hm
    rw [if_neg (by decide), if_neg ha, hvm]
    unfold wide_size_signed.f
    rw [if_pos ⟨by unfold inU; omega, by unfold inU; omega⟩, hwq, if_neg (by simp; omega)]
    simp only [Option.bind_some, Bool.false_eq_true, if_false]
    rw [i64_id (m % n) (by omega) (by omega)]
 ·cases h
theorem wide_Div.calls (a0_0 : Int) (a0_1 : Int) (a1 : Int) (r1 : Int) (r2 : Int) (r3 : Int) (r4 : Int) (w : World) (h : wide_Div.f a0_0 a0_1 a1 = some (r1, r2, r3, r4)) :
  Calls Tryd.prog 34 #[.agg #[.int .i64 a0_0, .int .u64 a0_1], .int .i64 a1] w fun e w' => e = .returned (.tuple #[.agg #[.int .i64 r1, .int .u64 r2], .int .i64 r3, .int .i64 r4]) ∧ Below w.heap.size w w' := by
 obtain ⟨k, h⟩ := wide_Div.eq h
 exact wide_DivP.calls k a0_0 a0_1 a1 r1 r2 r3 r4 w h
def wide_AddP.j0 : Nat → Int → Int → Bool → Option (Int × Int × Int)
 | 0, _, _, _ => none
 | k + 1, x6, x8, x39 => if x39 = true then (some (0, 0, 6)) else (some (x8, x6, 0))
def wide_AddP.f (k : Nat) (a0_0 : Int) (a0_1 : Int) (a1_0 : Int) (a1_1 : Int) : Option (Int × Int × Int) := if ((decide (a0_0 < 0)) == (decide (a1_0 < 0))) = true then (wide_AddP.j0 k (addLo a0_1 a1_1) (wrap64 ((wrap64 (a0_0 + a1_0)) + (wrap64 (addHi a0_1 a1_1)))) ((decide ((wrap64 ((wrap64 (a0_0 + a1_0)) + (wrap64 (addHi a0_1 a1_1)))) < 0)) != (decide (a0_0 < 0)))) else (wide_AddP.j0 k (addLo a0_1 a1_1) (wrap64 ((wrap64 (a0_0 + a1_0)) + (wrap64 (addHi a0_1 a1_1)))) false)
theorem wide_AddP.mono_l : ∀ k, (∀ y0 y1 y2, LeO (wide_AddP.j0 k y0 y1 y2) (wide_AddP.j0 (k + 1) y0 y1 y2))
 | 0 => fun _ _ _ r h => by simp [wide_AddP.j0] at h
 | k + 1 => by
  have ih0 := wide_AddP.mono_l k
  ·intro y0 y1 y2
   unfold wide_AddP.j0
   repeat' first
   | (with_reducible exact ih0 _ _ _)
   | (with_reducible exact LeO.refl _)
   | (with_reducible exact LeO.none _)
   | (with_reducible refine LeO.ite ?_ ?_)
   | (with_reducible refine LeO.bind ?_ (fun _ => ?_))
   | exact ih0 _ _ _
   | exact LeO.none _
   | refine LeO.ite ?_ ?_
   | refine LeO.bind ?_ (fun _ => ?_)
theorem wide_AddP.mono : ∀ a0 a1 a2 a3 k, LeO (wide_AddP.f k a0 a1 a2 a3) (wide_AddP.f (k + 1) a0 a1 a2 a3) := by
 intro a0 a1 a2 a3 k
 have ih0 := wide_AddP.mono_l k
 unfold wide_AddP.f
 repeat' first
   | (with_reducible exact ih0 _ _ _)
   | (with_reducible exact LeO.refl _)
   | (with_reducible exact LeO.none _)
   | (with_reducible refine LeO.ite ?_ ?_)
   | (with_reducible refine LeO.bind ?_ (fun _ => ?_))
   | exact ih0 _ _ _
   | exact LeO.none _
   | refine LeO.ite ?_ ?_
   | refine LeO.bind ?_ (fun _ => ?_)
set_option maxHeartbeats 8000000 in
set_option maxRecDepth 100000 in
theorem wide_AddP.calls (k : Nat) (a0_0 : Int) (a0_1 : Int) (a1_0 : Int) (a1_1 : Int) (r1 : Int) (r2 : Int) (r3 : Int) (w : World) (h : wide_AddP.f k a0_0 a0_1 a1_0 a1_1 = some (r1, r2, r3)) :
  Calls Tryd.prog 35 #[.agg #[.int .i64 a0_0, .int .u64 a0_1], .agg #[.int .i64 a1_0, .int .u64 a1_1]] w fun e w' => e = .returned (.tuple #[.agg #[.int .i64 r1, .int .u64 r2], .int .i64 r3]) ∧ Below w.heap.size w w' := by
 have hu24 := Tryd.underlying24
 have hadd64 := add64_run
 have HB := Aside0.mk (Below.refl w.heap.size w)
 have H : (if ((decide (a0_0 < 0)) == (decide (a1_0 < 0))) = true then (wide_AddP.j0 k (addLo a0_1 a1_1) (wrap64 ((wrap64 (a0_0 + a1_0)) + (wrap64 (addHi a0_1 a1_1)))) ((decide ((wrap64 ((wrap64 (a0_0 + a1_0)) + (wrap64 (addHi a0_1 a1_1)))) < 0)) != (decide (a0_0 < 0)))) else (wide_AddP.j0 k (addLo a0_1 a1_1) (wrap64 ((wrap64 (a0_0 + a1_0)) + (wrap64 (addHi a0_1 a1_1)))) false)) = some (r1, r2, r3) := h
 clear h
 have HC3 := Aside0.mk H
 clear H
 go_enter Tryd.func35, Tryd.ntmps35
 go_upto_region 3 with (first | ((with_reducible refine gate_dst (N := 2) rfl ?_); refine be_ (N := 2) (cs := #[.int .i64 a0_0, .int .u64 a0_1]) (t := 24) ?_; intro gb143 hg w4 hbox hb; have n0_ := Aside0.mk (below_step (qb_ HB.out) hb); have n1_ := Aside0.mk (hbox); have n2_ := Aside0.mk (bz_ hg (qb_ HB.out) : w.heap.size ≤ gb143); have n3_ := n2_; clear HB; have HB := n0_; have BK143 := n1_; have GW143 := n2_; have GE143 := n3_; clear n0_ n1_ n2_ n3_; clear hb hbox hg) | ((with_reducible refine gate_dst (N := 3) rfl ?_); refine be_ (N := 3) (cs := #[.int .i64 a1_0, .int .u64 a1_1]) (t := 24) ?_; intro gb144 hg w5 hbox hb; have n0_ := Aside0.mk (blk_below (qk_ BK143.out) hb); have n1_ := Aside0.mk (below_step (qb1_ GE143.out HB.out) hb); have n2_ := Aside0.mk (hbox); have n3_ := Aside0.mk (bz_ hg (qb1_ GE143.out HB.out) : w.heap.size ≤ gb144); have n4_ := n3_; have n5_ := Aside0.mk (nl_ hg (qk_ BK143.out) : gb143 ≠ gb144); have n6_ := Aside0.mk (ng_ hg (qk_ BK143.out) : gb144 ≠ gb143); clear BK143; clear HB; have BK143 := n0_; have HB := n1_; have BK144 := n2_; have GW144 := n3_; have GE144 := n4_; have NB143_144 := n5_; have NB144_143 := n6_; clear n0_ n1_ n2_ n3_ n4_ n5_ n6_; clear hb hbox hg) | ((with_reducible refine gate_dst (N := 4) rfl ?_); refine be_ (N := 4) (cs := #[.int .i64 0, .int .u64 0]) (t := 24) ?_; intro gb145 hg w6 hbox hb; have n0_ := Aside0.mk (blk_below (qk_ BK143.out) hb); have n1_ := Aside0.mk (blk_below (qk_ BK144.out) hb); have n2_ := Aside0.mk (below_step (qb2_ GE143.out GE144.out HB.out) hb); have n3_ := Aside0.mk (hbox); have n4_ := Aside0.mk (bz_ hg (qb2_ GE143.out GE144.out HB.out) : w.heap.size ≤ gb145); have n5_ := n4_; have n6_ := Aside0.mk (nl_ hg (qk_ BK143.out) : gb143 ≠ gb145); have n7_ := Aside0.mk (ng_ hg (qk_ BK143.out) : gb145 ≠ gb143); have n8_ := Aside0.mk (nl_ hg (qk_ BK144.out) : gb144 ≠ gb145); have n9_ := Aside0.mk (ng_ hg (qk_ BK144.out) : gb145 ≠ gb144); clear BK143; clear BK144; clear HB; have BK143 := n0_; have BK144 := n1_; have HB := n2_; have BK145 := n3_; have GW145 := n4_; have GE145 := n5_; have NB143_145 := n6_; have NB145_143 := n7_; have NB144_145 := n8_; have NB145_144 := n9_; clear n0_ n1_ n2_ n3_ n4_ n5_ n6_ n7_ n8_ n9_; clear hb hbox hg; have hnb7 := NB143_144.out; have hnc7 := NB144_143.out; have hnb8 := NB143_145.out; have hnc8 := NB145_143.out; have hcz9_0 : w6.cell? ⟨gb143, 0, none⟩ = some (.int .i64 a0_0) := (blk_cell BK143.out 0).trans rfl; have hcz9_1 : w6.cell? ⟨gb143, 1, none⟩ = some (.int .u64 a0_1) := (blk_cell BK143.out 1).trans rfl; have hfz9_0 := blk_frozen BK143.out 0; have hfz9_1 := blk_frozen BK143.out 1; have hnb10 := NB144_145.out; have hnc10 := NB145_144.out; have hcz11_0 : w6.cell? ⟨gb144, 0, none⟩ = some (.int .i64 a1_0) := (blk_cell BK144.out 0).trans rfl; have hcz11_1 : w6.cell? ⟨gb144, 1, none⟩ = some (.int .u64 a1_1) := (blk_cell BK144.out 1).trans rfl; have hfz11_0 := blk_frozen BK144.out 0; have hfz11_1 := blk_frozen BK144.out 1))
 (try simp only [Act.put, List.setIfInBounds_toArray, List.set_cons_zero, List.set_cons_succ])
 go_cut [39] (fun v39 wc => ∃ (kq : Nat) (x39_2 : Bool), v39 = .bool x39_2 ∧ Aside0 (wide_AddP.j0 kq (addLo a0_1 a1_1) (wrap64 ((wrap64 (a0_0 + a1_0)) + (wrap64 (addHi a0_1 a1_1)))) x39_2 = some (r1, r2, r3)) ∧ Aside0 (kq ≤ k) ∧ Aside0 (wc.heap[gb143]? = some (.cells #[.int .i64 a0_0, .int .u64 a0_1] 24 (0, 0))) ∧ Aside0 (wc.heap[gb144]? = some (.cells #[.int .i64 a1_0, .int .u64 a1_1] 24 (0, 0))) ∧ Aside0 (wc.heap[gb145]? = some (.cells #[.int .i64 0, .int .u64 0] 24 (0, 0))) ∧ Aside0 (Below w.heap.size w wc))
 case first =>
  have H := HC3.out
  clear HC3
  by_cases c12 : ((decide (a0_0 < 0)) == (decide (a1_0 < 0))) = true
  ·rw [if_pos c12] at H
   have c12b0 : ((decide (a0_0 < 0)) == (decide (a1_0 < 0))) = true := c12
   (try (have c12b1 : decide ((decide (a0_0 < 0)) = (decide (a1_0 < 0))) = true := by simpa using c12))
   (try (have c12b2 : ((decide (a0_0 < 0)) == (decide (a1_0 < 0))) = true := by simpa using c12))
   clear c12
   (first | rw [c12b0] | (simp only [i64_w, i32_w]; rw [c12b0]) | skip)
   have H' := Aside0.mk H
   clear H
   have hnb13 := NB143_144.out
   have hnc13 := NB144_143.out
   have hnb14 := NB143_145.out
   have hnc14 := NB145_143.out
   have hcz15_0 : w6.cell? ⟨gb143, 0, none⟩ = some (.int .i64 a0_0) := (blk_cell BK143.out 0).trans rfl
   have hcz15_1 : w6.cell? ⟨gb143, 1, none⟩ = some (.int .u64 a0_1) := (blk_cell BK143.out 1).trans rfl
   have hfz15_0 := blk_frozen BK143.out 0
   have hfz15_1 := blk_frozen BK143.out 1
   have hnb16 := NB144_145.out
   have hnc16 := NB145_144.out
   have hcz17_0 : w6.cell? ⟨gb144, 0, none⟩ = some (.int .i64 a1_0) := (blk_cell BK144.out 0).trans rfl
   have hcz17_1 : w6.cell? ⟨gb144, 1, none⟩ = some (.int .u64 a1_1) := (blk_cell BK144.out 1).trans rfl
   have hfz17_0 := blk_frozen BK144.out 0
   have hfz17_1 := blk_frozen BK144.out 1
   go_wp2
   go_meet
   case rel => exact ⟨_, (((decide ((wrap64 ((wrap64 (a0_0 + a1_0)) + (wrap64 (addHi a0_1 a1_1)))) < 0)) != (decide (a0_0 < 0)))), qs_, H', ⟨qo_⟩, ⟨qk_ BK143.out⟩, ⟨qk_ BK144.out⟩, ⟨qk_ BK145.out⟩, ⟨qb3_ GE143.out GE144.out GE145.out HB.out⟩⟩
  ·rw [if_neg c12] at H
   have c12b0 : ((decide (a0_0 < 0)) == (decide (a1_0 < 0))) = false := by simpa using c12
   (try (have c12b1 : decide ((decide (a0_0 < 0)) = (decide (a1_0 < 0))) = false := by simpa using c12))
   (try (have c12b2 : ((decide (a0_0 < 0)) == (decide (a1_0 < 0))) = false := by simpa using c12))
   (try (have c12b3 : ¬ ((decide (a0_0 < 0)) = (decide (a1_0 < 0))) := by simpa using c12))
   clear c12
   (first | rw [c12b0] | (simp only [i64_w, i32_w]; rw [c12b0]) | skip)
   have H' := Aside0.mk H
   clear H
   have hnb18 := NB143_144.out
   have hnc18 := NB144_143.out
   have hnb19 := NB143_145.out
   have hnc19 := NB145_143.out
   have hcz20_0 : w6.cell? ⟨gb143, 0, none⟩ = some (.int .i64 a0_0) := (blk_cell BK143.out 0).trans rfl
   have hcz20_1 : w6.cell? ⟨gb143, 1, none⟩ = some (.int .u64 a0_1) := (blk_cell BK143.out 1).trans rfl
   have hfz20_0 := blk_frozen BK143.out 0
   have hfz20_1 := blk_frozen BK143.out 1
   have hnb21 := NB144_145.out
   have hnc21 := NB145_144.out
   have hcz22_0 : w6.cell? ⟨gb144, 0, none⟩ = some (.int .i64 a1_0) := (blk_cell BK144.out 0).trans rfl
   have hcz22_1 : w6.cell? ⟨gb144, 1, none⟩ = some (.int .u64 a1_1) := (blk_cell BK144.out 1).trans rfl
   have hfz22_0 := blk_frozen BK144.out 0
   have hfz22_1 := blk_frozen BK144.out 1
   go_wp2
   go_meet
   case rel => exact ⟨_, (false), qs_, H', ⟨qo_⟩, ⟨qk_ BK143.out⟩, ⟨qk_ BK144.out⟩, ⟨qk_ BK145.out⟩, ⟨qb3_ GE143.out GE144.out GE145.out HB.out⟩⟩
 case rest =>
  clear HC3
  try clear c1
  try clear c2
  try clear p2
  try clear c3
  try clear p6
  try clear c7
  try clear c8
  try clear c10
  try clear c12
  try clear c12b0
  try clear c12b1
  try clear c12b2
  try clear c13
  try clear c14
  try clear c16
  try clear c18
  try clear c19
  try clear c21
  try clear hcz11_0
  try clear hcz11_1
  try clear hcz15_0
  try clear hcz15_1
  try clear hcz17_0
  try clear hcz17_1
  try clear hcz20_0
  try clear hcz20_1
  try clear hcz22_0
  try clear hcz22_1
  try clear hcz9_0
  try clear hcz9_1
  try clear hfz11_0
  try clear hfz11_1
  try clear hfz15_0
  try clear hfz15_1
  try clear hfz17_0
  try clear hfz17_1
  try clear hfz20_0
  try clear hfz20_1
  try clear hfz22_0
  try clear hfz22_1
  try clear hfz9_0
  try clear hfz9_1
  obtain ⟨kq, x39_2, rfl, HA, HJ2, BK143, BK144, BK145, HB⟩ := hcut
  cases kq with
  | zero => exact absurd HA.out (by simp [wide_AddP.j0])
  | succ kj2 =>
   have H := HA.out
   clear HA
   simp only [wide_AddP.j0] at H
   by_cases c23 : x39_2 = true
   ·subst c23
    have H1 : (some (0, 0, 6)) = some (r1, r2, r3) := by rw [if_pos rfl] at H; exact H
    clear H
    have H := H1
    clear H1
    simp only [Option.some.injEq, Prod.mk.injEq] at H
    obtain ⟨rfl, rfl, rfl⟩ := H
    have hnb24 := NB145_143.out
    have hnc24 := NB143_145.out
    have hnb25 := NB145_144.out
    have hnc25 := NB144_145.out
    have hcz26_0 : wc.cell? ⟨gb145, 0, none⟩ = some (.int .i64 0) := (blk_cell BK145.out 0).trans rfl
    have hcz26_1 : wc.cell? ⟨gb145, 1, none⟩ = some (.int .u64 0) := (blk_cell BK145.out 1).trans rfl
    have hfz26_0 := blk_frozen BK145.out 0
    have hfz26_1 := blk_frozen BK145.out 1
    go_wp2
    refine bodyPost_ret (results_ct rfl _ _ gb145 24 #[.int .i64 0, .int .u64 0] (0, 0) _ rfl (qpp_ #[.int .i64 0, .int .u64 0] 1 #[.int .i64 0, .int .u64 0] 0 BK145.out) Tryd.underlying24 rfl (by kernel_rfl)) rfl ?_
    exact ⟨qe_, qb3_ GE143.out GE144.out GE145.out HB.out⟩
   ·replace c23 := Bool.eq_false_iff.mpr c23
    subst c23
    have H1 : (some ((wrap64 ((wrap64 (a0_0 + a1_0)) + (wrap64 (addHi a0_1 a1_1)))), (addLo a0_1 a1_1), 0)) = some (r1, r2, r3) := by rw [if_neg (show ¬ (false = true) by decide)] at H; exact H
    clear H
    have H := H1
    clear H1
    simp only [Option.some.injEq, Prod.mk.injEq] at H
    obtain ⟨rfl, rfl, rfl⟩ := H
    have hnb27 := NB145_143.out
    have hnc27 := NB143_145.out
    have hnb28 := NB145_144.out
    have hnc28 := NB144_145.out
    have hcz29_0 : wc.cell? ⟨gb145, 0, none⟩ = some (.int .i64 0) := (blk_cell BK145.out 0).trans rfl
    have hcz29_1 : wc.cell? ⟨gb145, 1, none⟩ = some (.int .u64 0) := (blk_cell BK145.out 1).trans rfl
    have hfz29_0 := blk_frozen BK145.out 0
    have hfz29_1 := blk_frozen BK145.out 1
    go_wp2
    refine bodyPost_ret (results_ct rfl _ _ gb145 24 #[.int .i64 (wrap64 ((wrap64 (a0_0 + a1_0)) + (wrap64 (addHi a0_1 a1_1)))), .int .u64 (addLo a0_1 a1_1)] (0, 0) _ rfl (qpp_ #[.int .i64 (wrap64 ((wrap64 (a0_0 + a1_0)) + (wrap64 (addHi a0_1 a1_1)))), .int .u64 0] 1 #[.int .i64 0, .int .u64 0] 0 BK145.out) Tryd.underlying24 rfl (by kernel_rfl)) rfl ?_
    exact ⟨qe_, qb3_ GE143.out GE144.out GE145.out HB.out⟩
def wide_Add.f (a0_0 a0_1 a1_0 a1_1 : Int) : Option (Int × Int × Int) :=
 if isW a0_0 a0_1 ∧ isW a1_0 a1_1 then
  some (if in128 (wv a0_0 a0_1 + wv a1_0 a1_1) then ((wv a0_0 a0_1 + wv a1_0 a1_1) / 18446744073709551616, (wv a0_0 a0_1 + wv a1_0 a1_1) % 18446744073709551616, 0) else (0, 0, 6)) else none
theorem wide_Add.eq {a b c d : Int} {r : Int × Int × Int} (h : wide_Add.f a b c d = some r) : ∃ k, wide_AddP.f k a b c d = some r := by
 unfold wide_Add.f at h
 split at h
 ·rename_i q
  obtain ⟨⟨⟨a0, a1⟩, b0, b1⟩, ⟨c0, c1⟩, d0, d1⟩ := q
  injection h with h
  subst h
  refine ⟨1, ?_⟩
  unfold wide_AddP.f
  simp only [wide_AddP.j0]
  have hl : addLo b d = (b + d) % 18446744073709551616 := by unfold addLo; omega
  have hh : addHi b d = (b + d) / 18446744073709551616 := by unfold addHi; omega
  rw [hl, hh]
  have hw : wrap64 (wrap64 (a + c) + wrap64 ((b + d) / 18446744073709551616)) = (a + c + (b + d) / 18446744073709551616 + 9223372036854775808) % 18446744073709551616 - 9223372036854775808 := by unfold wrap64; omega
  rw [hw]
  clear hl hh hw
  by_cases hin : in128 (wv a b + wv c d)
  ·rw [if_pos hin]
   unfold in128 wv at hin
   have e1 : (a + c + (b + d) / 18446744073709551616 + 9223372036854775808) % 18446744073709551616 - 9223372036854775808 = (wv a b + wv c d) / 18446744073709551616 := by unfold wv; omega
   have e2 : (b + d) % 18446744073709551616 = (wv a b + wv c d) % 18446744073709551616 := by unfold wv; omega
   have e3 : (wv a b + wv c d) / 18446744073709551616 = a + c + (b + d) / 18446744073709551616 := by unfold wv; omega
   rw [e1, e2]
   by_cases s1 : a < 0 <;> by_cases s2 : c < 0
   ·have s3 : (wv a b + wv c d) / 18446744073709551616 < 0 := by omega
    simp [s1, s2, s3]
   ·simp [s1, s2]
   ·simp [s1, s2]
   ·have s3 : ¬ (wv a b + wv c d) / 18446744073709551616 < 0 := by omega
    simp [s1, s2, s3]
  ·rw [if_neg hin]
   unfold in128 wv at hin
   by_cases s1 : a < 0 <;> by_cases s2 : c < 0
   ·have s3 : ¬ (a + c + (b + d) / 18446744073709551616 + 9223372036854775808) % 18446744073709551616 - 9223372036854775808 < 0 := by omega
    simp [s1, s2, s3]
   ·omega
   ·omega
   ·have s3 : (a + c + (b + d) / 18446744073709551616 + 9223372036854775808) % 18446744073709551616 - 9223372036854775808 < 0 := by omega
    simp [s1, s2, s3]
 ·cases h
theorem wide_Add.calls (a0_0 : Int) (a0_1 : Int) (a1_0 : Int) (a1_1 : Int) (r1 : Int) (r2 : Int) (r3 : Int) (w : World) (h : wide_Add.f a0_0 a0_1 a1_0 a1_1 = some (r1, r2, r3)) :
  Calls Tryd.prog 35 #[.agg #[.int .i64 a0_0, .int .u64 a0_1], .agg #[.int .i64 a1_0, .int .u64 a1_1]] w fun e w' => e = .returned (.tuple #[.agg #[.int .i64 r1, .int .u64 r2], .int .i64 r3]) ∧ Below w.heap.size w w' := by
 obtain ⟨k, h⟩ := wide_Add.eq h
 exact wide_AddP.calls k a0_0 a0_1 a1_0 a1_1 r1 r2 r3 w h
def wide_OfP.f (a0 : Int) : Option (Int × Int) := some (a0 / 9223372036854775808, IntKind.u64.wrap (a0))
set_option maxHeartbeats 8000000 in
set_option maxRecDepth 100000 in
theorem wide_OfP.calls (a0 : Int) (r1 : Int) (r2 : Int) (w : World) (h : wide_OfP.f a0 = some (r1, r2)) :
  Calls Tryd.prog 36 #[.int .i64 a0] w fun e w' => e = .returned (.agg #[.int .i64 r1, .int .u64 r2]) ∧ Below w.heap.size w w' := by
 have hu24 := Tryd.underlying24
 have HB := Aside0.mk (Below.refl w.heap.size w)
 have H : (some (a0 / 9223372036854775808, IntKind.u64.wrap (a0))) = some (r1, r2) := h
 clear h
 simp only [Option.some.injEq, Prod.mk.injEq] at H
 obtain ⟨rfl, rfl⟩ := H
 go_enter Tryd.func36, Tryd.ntmps36
 go_wp2_with (first | ((with_reducible refine gate_dst (N := 2) rfl ?_); refine be_ (N := 2) (cs := #[.int .i64 0, .int .u64 0]) (t := 24) ?_; intro gb146 hg w2 hbox hb; have n0_ := Aside0.mk (below_step (qb_ HB.out) hb); have n1_ := Aside0.mk (hbox); have n2_ := Aside0.mk (bz_ hg (qb_ HB.out) : w.heap.size ≤ gb146); have n3_ := n2_; clear HB; have HB := n0_; have BK146 := n1_; have GW146 := n2_; have GE146 := n3_; clear n0_ n1_ n2_ n3_; clear hb hbox hg; have hcz3_0 : w2.cell? ⟨gb146, 0, none⟩ = some (.int .i64 0) := (blk_cell BK146.out 0).trans rfl; have hcz3_1 : w2.cell? ⟨gb146, 1, none⟩ = some (.int .u64 0) := (blk_cell BK146.out 1).trans rfl; have hfz3_0 := blk_frozen BK146.out 0; have hfz3_1 := blk_frozen BK146.out 1))
 refine bodyPost_ret (results_cell_row rfl _ _ gb146 24 #[.int .i64 (a0 / 9223372036854775808), .int .u64 (IntKind.u64.wrap (a0))] (0, 0) _ rfl (qpp_ #[.int .i64 (a0 / 9223372036854775808), .int .u64 0] 1 #[.int .i64 0, .int .u64 0] 0 BK146.out) Tryd.underlying24 rfl (by kernel_rfl)) rfl ?_
 exact ⟨qe_, qb1_ GE146.out HB.out⟩
def wide_Of.f (a0 : Int) : Option (Int × Int) := if inI a0 then some (a0 / 18446744073709551616, a0 % 18446744073709551616) else none
theorem wide_Of.eq {a : Int} {r : Int × Int} (h : wide_Of.f a = some r) : wide_OfP.f a = some r := by
 unfold wide_Of.f at h
 split at h
 ·rename_i c
  obtain ⟨c0, c1⟩ := c
  injection h with h
  subst h
  unfold wide_OfP.f
  simp only [IntKind.wrap_u64]
  congr 2
  omega
 ·cases h
theorem wide_Of.calls (a0 : Int) (r1 : Int) (r2 : Int) (w : World) (h : wide_Of.f a0 = some (r1, r2)) :
  Calls Tryd.prog 36 #[.int .i64 a0] w fun e w' => e = .returned (.agg #[.int .i64 r1, .int .u64 r2]) ∧ Below w.heap.size w w' := by
 have h := wide_Of.eq h
 exact wide_OfP.calls a0 r1 r2 w h
end Go.Proofs.YtkdhippoibjfkaaDoor.PR
end
section
namespace Go.Proofs.YtkdhippoibjfkaaDoor.PR
open Go.RowKit Go.Proofs.YtkdhippoibjfkaaDoorW.PrintWords Go.Proofs.YtkdhippoibjfkaaDoorW.PrintLast
set_option linter.unusedVariables false
set_option linter.unusedSimpArgs false
attribute [local go_sem high] eqA24
def rounding_more.f (a0_0 a0_1 a1 a2 a3 : Int) : Option Int :=
 if (1 ≤ a3 ∧ a3 ≤ 6) ∧ inI a0_0 ∧ inU a0_1 ∧ 0 < a1 ∧ a1 < a2 ∧ a2 ≤ 9223372036854775807 then
  some (if upB (decide (a0_0 < 0)) (decide (a0_1 % 2 = 1)) a1 a2 a3 = true then 1 else 0) else none
theorem and1 (x : Int) (h0 : 0 ≤ x) (h1 : x ≤ 18446744073709551615) : bits .and .u64 x 1 = x % 2 := by
 obtain ⟨n, rfl⟩ := Int.eq_ofNat_of_zero_le h0
 have h := u64_and_nat n 1 (by omega) (by omega)
 rw [show ((1 : Nat) : Int) = 1 from rfl] at h
 rw [h, Nat.and_one_is_mod]
 omega
set_option maxHeartbeats 4000000 in
set_option maxRecDepth 100000 in
theorem rounding_more.calls (a0_0 a0_1 a1 a2 a3 r : Int) (w : World) (hG : GW w) (h : rounding_more.f a0_0 a0_1 a1 a2 a3 = some r) :
  Calls Tryd.prog 37 #[.agg #[.int .i64 a0_0, .int .u64 a0_1], .int .i64 a1, .int .i64 a2, .int .i64 a3] w fun e w' => e = .returned (.int .i64 r) ∧ Below w.heap.size w w' := by
 unfold rounding_more.f at h
 split at h
 ·rename_i c
  obtain ⟨⟨m1, m6⟩, ⟨i0, i1⟩, ⟨u0, u1⟩, p1, p2, p3⟩ := c
  injection h with h
  have hG' := hG.below (Below.alloc (Below.refl w.heap.size w) (Nat.le_refl _) (.cells #[.int .i64 a0_0, .int .u64 a0_1] 24))
  have s2 := hG'.st 2 (by decide)
  have s3 := hG'.st 3 (by decide)
  have s4 := hG'.st 4 (by decide)
  have s5 := hG'.st 5 (by decide)
  have s6 := hG'.st 6 (by decide)
  have s7 := hG'.st 7 (by decide)
  have s8 := hG'.st 8 (by decide)
  have s9 := hG'.st 9 (by decide)
  simp only [stepsL, List.getD_cons_succ, List.getD_cons_zero] at s2 s3 s4 s5 s6 s7 s8 s9
  clear hG hG'
  have fin : ∀ {x : Int}, x = r → (Ending.returned (.int .i64 x) = Ending.returned (.int .i64 r)) := by rintro x rfl; rfl
  by_cases hn : a0_0 < 0
  all_goals rcases (by omega : a3 = 1 ∨ a3 = 2 ∨ a3 = 3 ∨ a3 = 4 ∨ a3 = 5 ∨ a3 = 6) with rfl | rfl | rfl | rfl | rfl | rfl
  all_goals
   simp [upB, hn] at h
   have HH := Aside0.mk h
   clear h
   go_enter Tryd.func37, Tryd.ntmps37
   go_wp2
   all_goals
    go_ret
    refine ⟨fin ?_, (Below.refl _ _).alloc (Nat.le_refl _) _⟩
    have h := HH.out
    clear HH s2 s3 s4 s5 s6 s7 s8 s9 fin
    go_light
    first
     | exact h
     | (rw [and1 _ u0 u1]; unfold wrap64; omega)
     | (rw [and1 _ u0 u1]; unfold wrap64; split at h <;> omega)
     | (split at h <;> omega)
 ·cases h
def wide_IntP.f (a0_0 : Int) (a0_1 : Int) : Option (Int × Bool) := (wide_Of.f (wrap64 (a0_1))).bind fun bt148 => (if (!(bt148.1 == a0_0) || (!(bt148.2 == a0_1))) = true then (some (0, false)) else (some (wrap64 (a0_1), true)))
set_option maxHeartbeats 8000000 in
set_option maxRecDepth 100000 in
theorem wide_IntP.calls (a0_0 : Int) (a0_1 : Int) (r1 : Int) (r2 : Bool) (w : World) (h : wide_IntP.f a0_0 a0_1 = some (r1, r2)) :
  Calls Tryd.prog 38 #[.agg #[.int .i64 a0_0, .int .u64 a0_1]] w fun e w' => e = .returned (.tuple #[.int .i64 r1, .bool r2]) ∧ Below w.heap.size w w' := by
 have hu24 := Tryd.underlying24
 have HB := Aside0.mk (Below.refl w.heap.size w)
 have H : ((wide_Of.f (wrap64 (a0_1))).bind fun bt148 => (if (!(bt148.1 == a0_0) || (!(bt148.2 == a0_1))) = true then (some (0, false)) else (some (wrap64 (a0_1), true)))) = some (r1, r2) := h
 clear h
 replace H := Option.bind_eq_some_iff.mp H
 obtain ⟨⟨t148, t149⟩, A20, H⟩ := H
 replace H : (if (!(t148 == a0_0) || (!(t149 == a0_1))) = true then (some (0, false)) else (some (wrap64 (a0_1), true))) = some (r1, r2) := H
 have A2 := Aside0.mk A20
 clear A20
 by_cases c3 : (!(t148 == a0_0) || (!(t149 == a0_1))) = true
 ·rw [if_pos c3] at H
  have c3b0 : (!(t148 == a0_0) || (!(t149 == a0_1))) = true := c3
  clear c3
  simp only [Option.some.injEq, Prod.mk.injEq] at H
  obtain ⟨rfl, rfl⟩ := H
  go_enter Tryd.func38, Tryd.ntmps38
  try go_wp2_with (first | ((with_reducible refine gate_dst (N := 1) rfl ?_); refine be_ (N := 1) (cs := #[.int .i64 a0_0, .int .u64 a0_1]) (t := 24) ?_; intro gb147 hg w4 hbox hb; have n0_ := Aside0.mk (below_step (qb_ HB.out) hb); have n1_ := Aside0.mk (hbox); have n2_ := Aside0.mk (bz_ hg (qb_ HB.out) : w.heap.size ≤ gb147); have n3_ := n2_; clear HB; have HB := n0_; have BK147 := n1_; have GW147 := n2_; have GE147 := n3_; clear n0_ n1_ n2_ n3_; clear hb hbox hg; have hcz5_0 : w4.cell? ⟨gb147, 0, none⟩ = some (.int .i64 a0_0) := (blk_cell BK147.out 0).trans rfl; have hcz5_1 : w4.cell? ⟨gb147, 1, none⟩ = some (.int .u64 a0_1) := (blk_cell BK147.out 1).trans rfl; have hfz5_0 := blk_frozen BK147.out 0; have hfz5_1 := blk_frozen BK147.out 1))
  have n0_ := Aside0.mk (blk_drew BK147.out)
  have n1_ := Aside0.mk (below_drew1 HB.out)
  clear BK147
  clear HB
  have BK147 := n0_
  have HB := n1_
  clear n0_ n1_
  refine start_ (n := 4) (S := fun w' => w'.cell? ⟨gb147, 0, none⟩ = some (.int .i64 a0_0) ∧ w'.cell? ⟨gb147, 1, none⟩ = some (.int .u64 a0_1)) (ds := []) (nb_ 4 0) (by kernel_rfl) rfl rfl ⟨(blk_cell BK147.out 0).trans rfl, (blk_cell BK147.out 1).trans rfl⟩ (fun hHeld => ?_)
  generalize w4.drew = w6 at BK147 HB hHeld ⊢
  refine pure_ (i := 0) (N := some 8) (v := ?_) (a' := ?_) (nb_ 4 1) rfl rfl (by kernel_rfl) (fun _ _ _ h => h) (Or.inl ⟨by rfl, ?_⟩) ?_ ?_
  rotate_left
  ·intro w'
   go_simp
   with_reducible rfl
  rotate_left
  ·simp only [Act.put, List.setIfInBounds_toArray, List.set_cons_zero, List.set_cons_succ, i64_w, i32_w]
   rfl
  refine take_ (i := 2) (N := some 10) (v := ?_) (a' := ?_) (nb_ 4 5) rfl rfl (by kernel_rfl) (fun _ _ _ h => h) (Or.inl ⟨by rfl, ?_⟩) hHeld ?_ ?_
  rotate_left
  ·rintro w' ⟨s0, s1⟩
   go_simp
   with_reducible rfl
  rotate_left
  ·simp only [Act.put, List.setIfInBounds_toArray, List.set_cons_zero, List.set_cons_succ, i64_w, i32_w]
   rfl
  refine one_ (i := 1) (N := some 9) (nb_ 4 7) rfl rfl (by kernel_rfl) (by decide) (fun K hK => ?_)
  refine goes_ Tryd.func36 (by kernel_rfl) rfl #[.int .i64 (wrap64 (a0_1))] (by rfl) rfl rfl ql_ ?_
  with_reducible refine (wide_Of.calls (wrap64 (a0_1)) t148 t149 _ A2.out).mono ?_
  rintro e w7 ⟨rfl, hb⟩
  refine ⟨_, rfl, ?_⟩
  have n0_ := Aside0.mk (blk_below (qk_ BK147.out) hb)
  have n1_ := Aside0.mk (below_step (qb1_ GE147.out HB.out) hb)
  clear BK147
  clear HB
  have BK147 := n0_
  have HB := n1_
  clear n0_ n1_
  (try clear hb)
  (try clear hb2)
  (try clear hk)
  (try clear hi)
  refine hK.out _ _ ⟨(blk_cell BK147.out 0).trans rfl, (blk_cell BK147.out 1).trans rfl⟩ (fun hHeld => ?_)
  clear hK K
  refine no_ ?_
  refine pure_ (i := 3) (N := some 11) (v := ?_) (a' := ?_) (nb_ 4 15) rfl rfl (by kernel_rfl) (fun _ _ _ h => h) (Or.inl ⟨by rfl, ?_⟩) ?_ ?_
  rotate_left
  ·intro w'
   go_simp
   with_reducible rfl
  rotate_left
  ·simp only [Act.put, List.setIfInBounds_toArray, List.set_cons_zero, List.set_cons_succ, i64_w, i32_w]
   rfl
  refine done_ (by kernel_rfl) ?_
  try go_wp2
  go_ret2
  exact ⟨qe_, qb1_ GE147.out HB.out⟩
 ·rw [if_neg c3] at H
  have c3b0 : (!(t148 == a0_0) || (!(t149 == a0_1))) = false := by simpa using c3
  clear c3
  simp only [Option.some.injEq, Prod.mk.injEq] at H
  obtain ⟨rfl, rfl⟩ := H
  go_enter Tryd.func38, Tryd.ntmps38
  try go_wp2_with (first | ((with_reducible refine gate_dst (N := 1) rfl ?_); refine be_ (N := 1) (cs := #[.int .i64 a0_0, .int .u64 a0_1]) (t := 24) ?_; intro gb147 hg w8 hbox hb; have n0_ := Aside0.mk (below_step (qb_ HB.out) hb); have n1_ := Aside0.mk (hbox); have n2_ := Aside0.mk (bz_ hg (qb_ HB.out) : w.heap.size ≤ gb147); have n3_ := n2_; clear HB; have HB := n0_; have BK147 := n1_; have GW147 := n2_; have GE147 := n3_; clear n0_ n1_ n2_ n3_; clear hb hbox hg; have hcz9_0 : w8.cell? ⟨gb147, 0, none⟩ = some (.int .i64 a0_0) := (blk_cell BK147.out 0).trans rfl; have hcz9_1 : w8.cell? ⟨gb147, 1, none⟩ = some (.int .u64 a0_1) := (blk_cell BK147.out 1).trans rfl; have hfz9_0 := blk_frozen BK147.out 0; have hfz9_1 := blk_frozen BK147.out 1))
  have n0_ := Aside0.mk (blk_drew BK147.out)
  have n1_ := Aside0.mk (below_drew1 HB.out)
  clear BK147
  clear HB
  have BK147 := n0_
  have HB := n1_
  clear n0_ n1_
  refine start_ (n := 4) (S := fun w' => w'.cell? ⟨gb147, 0, none⟩ = some (.int .i64 a0_0) ∧ w'.cell? ⟨gb147, 1, none⟩ = some (.int .u64 a0_1)) (ds := []) (nb_ 4 0) (by kernel_rfl) rfl rfl ⟨(blk_cell BK147.out 0).trans rfl, (blk_cell BK147.out 1).trans rfl⟩ (fun hHeld => ?_)
  generalize w8.drew = w10 at BK147 HB hHeld ⊢
  refine pure_ (i := 0) (N := some 8) (v := ?_) (a' := ?_) (nb_ 4 1) rfl rfl (by kernel_rfl) (fun _ _ _ h => h) (Or.inl ⟨by rfl, ?_⟩) ?_ ?_
  rotate_left
  ·intro w'
   go_simp
   with_reducible rfl
  rotate_left
  ·simp only [Act.put, List.setIfInBounds_toArray, List.set_cons_zero, List.set_cons_succ, i64_w, i32_w]
   rfl
  refine take_ (i := 2) (N := some 10) (v := ?_) (a' := ?_) (nb_ 4 5) rfl rfl (by kernel_rfl) (fun _ _ _ h => h) (Or.inl ⟨by rfl, ?_⟩) hHeld ?_ ?_
  rotate_left
  ·rintro w' ⟨s0, s1⟩
   go_simp
   with_reducible rfl
  rotate_left
  ·simp only [Act.put, List.setIfInBounds_toArray, List.set_cons_zero, List.set_cons_succ, i64_w, i32_w]
   rfl
  refine one_ (i := 1) (N := some 9) (nb_ 4 7) rfl rfl (by kernel_rfl) (by decide) (fun K hK => ?_)
  refine goes_ Tryd.func36 (by kernel_rfl) rfl #[.int .i64 (wrap64 (a0_1))] (by rfl) rfl rfl ql_ ?_
  with_reducible refine (wide_Of.calls (wrap64 (a0_1)) t148 t149 _ A2.out).mono ?_
  rintro e w11 ⟨rfl, hb⟩
  refine ⟨_, rfl, ?_⟩
  have n0_ := Aside0.mk (blk_below (qk_ BK147.out) hb)
  have n1_ := Aside0.mk (below_step (qb1_ GE147.out HB.out) hb)
  clear BK147
  clear HB
  have BK147 := n0_
  have HB := n1_
  clear n0_ n1_
  (try clear hb)
  (try clear hb2)
  (try clear hk)
  (try clear hi)
  refine hK.out _ _ ⟨(blk_cell BK147.out 0).trans rfl, (blk_cell BK147.out 1).trans rfl⟩ (fun hHeld => ?_)
  clear hK K
  refine no_ ?_
  refine pure_ (i := 3) (N := some 11) (v := ?_) (a' := ?_) (nb_ 4 15) rfl rfl (by kernel_rfl) (fun _ _ _ h => h) (Or.inl ⟨by rfl, ?_⟩) ?_ ?_
  rotate_left
  ·intro w'
   go_simp
   with_reducible rfl
  rotate_left
  ·simp only [Act.put, List.setIfInBounds_toArray, List.set_cons_zero, List.set_cons_succ, i64_w, i32_w]
   rfl
  refine done_ (by kernel_rfl) ?_
  try go_wp2
  go_ret2
  exact ⟨qe_, qb1_ GE147.out HB.out⟩
def wide_Int.f (a0_0 a0_1 : Int) : Option (Int × Bool) :=
 if isW a0_0 a0_1 then some (if inI (wv a0_0 a0_1) then (wv a0_0 a0_1, true) else (0, false)) else none
theorem wide_Int.eq {a b : Int} {r : Int × Bool} (h : wide_Int.f a b = some r) : wide_IntP.f a b = some r := by
 unfold wide_Int.f at h
 split at h
 ·rename_i c
  obtain ⟨⟨c0, c1⟩, c2, c3⟩ := c
  injection h with h
  subst h
  unfold wide_IntP.f wide_Of.f
  rw [if_pos (by unfold inI wrap64; omega)]
  simp only [Option.bind_some]
  by_cases e : inI (wv a b)
  ·rw [if_pos e]
   unfold inI wv at e
   have e1 : wrap64 b / 18446744073709551616 = a := by unfold wrap64; omega
   have e2 : wrap64 b % 18446744073709551616 = b := by unfold wrap64; omega
   rw [e1, e2, if_neg (by simp)]
   congr 2
   unfold wrap64 wv
   omega
  ·rw [if_neg e]
   unfold inI wv at e
   have e1 : wrap64 b / 18446744073709551616 ≠ a := by unfold wrap64; omega
   rw [if_pos (by simp [e1])]
 ·cases h
theorem wide_Int.calls (a0_0 : Int) (a0_1 : Int) (r1 : Int) (r2 : Bool) (w : World) (h : wide_Int.f a0_0 a0_1 = some (r1, r2)) :
  Calls Tryd.prog 38 #[.agg #[.int .i64 a0_0, .int .u64 a0_1]] w fun e w' => e = .returned (.tuple #[.int .i64 r1, .bool r2]) ∧ Below w.heap.size w w' := by
 have h := wide_Int.eq h
 exact wide_IntP.calls a0_0 a0_1 r1 r2 w h
end Go.Proofs.YtkdhippoibjfkaaDoor.PR
end
