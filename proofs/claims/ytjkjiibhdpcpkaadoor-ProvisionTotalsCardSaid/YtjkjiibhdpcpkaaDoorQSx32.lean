import Derived.Test.YtjkjiibhdpcpkaaDoorQRm2
import Derived.Test.YtjkjiibhdpcpkaaDoorQSx29
import Derived.Test.YtjkjiibhdpcpkaaDoorQSx30
import Derived.Test.YtjkjiibhdpcpkaaDoorQSx31
namespace Go.Proofs.YtjkjiibhdpcpkaaDoor.PS
open Go.RowKit Go.Proofs.YtjkjiibhdpcpkaaDoorW.PrintWords Go.Proofs.YtjkjiibhdpcpkaaDoorW.PrintLast
set_option linter.unusedVariables false
set_option linter.unusedSimpArgs false
def corebankref01_Join.f (a0 : Bool) (a1_0 a1_1 : Int) : Option (Int × Int × Bool) :=
 if inU a1_0 ∧ inU a1_1 then
  some (wrap64 ((if a0 = true then -(wv a1_0 a1_1) else wv a1_0 a1_1) / 18446744073709551616), (if a0 = true then -(wv a1_0 a1_1) else wv a1_0 a1_1) % 18446744073709551616, decide (in128 (if a0 = true then -(wv a1_0 a1_1) else wv a1_0 a1_1))) else none
theorem corebankref01_Join.eq {n : Bool} {a b : Int} {r : Int × Int × Bool} (h : corebankref01_Join.f n a b = some r) : corebankref01_JoinP.f n a b = some r := by
 unfold corebankref01_Join.f at h
 split at h
 ·rename_i c
  obtain ⟨⟨c0, c1⟩, c2, c3⟩ := c
  injection h with h
  subst h
  unfold corebankref01_JoinP.f
  rw [xorMax b c2 c3, xorMax a c0 c1]
  simp only [IntKind.wrap_u64]
  cases n with
  | true =>
   simp only [if_true]
   unfold wv
   split <;> split
   ·rw [decide_eq_true (by unfold in128; omega)]; congr 2
    ·unfold wrap64; omega
    ·congr 1; omega
   ·split
    ·congr 2
     ·unfold wrap64; omega
     ·congr 1
      ·omega
      ·rw [Bool.eq_iff_iff, beq_iff_eq, decide_eq_true_eq]; unfold in128; omega
    ·rw [decide_eq_false (by unfold in128; omega)]; congr 2
     ·unfold wrap64; omega
     ·congr 1; omega
   ·rw [decide_eq_true (by unfold in128; omega)]; congr 2
    ·unfold wrap64; omega
    ·congr 1; omega
   ·split
    ·congr 2
     ·unfold wrap64; omega
     ·congr 1
      ·omega
      ·rw [Bool.eq_iff_iff, beq_iff_eq, decide_eq_true_eq]; unfold in128; omega
    ·rw [decide_eq_false (by unfold in128; omega)]; congr 2
     ·unfold wrap64; omega
     ·congr 1; omega
  | false =>
   simp only [Bool.false_eq_true, if_false]
   unfold wv
   congr 2
   ·unfold wrap64; omega
   ·congr 1
    ·omega
    ·apply decide_eq_decide.mpr; unfold in128; omega
 ·cases h
theorem corebankref01_Join.calls (a0 : Bool) (a1_0 a1_1 r1 r2 : Int) (r3 : Bool) (w : World) (h : corebankref01_Join.f a0 a1_0 a1_1 = some (r1, r2, r3)) :
  Calls Tryd.prog 73 #[.bool a0, .agg #[.int .u64 a1_0, .int .u64 a1_1]] w fun e w' => e = .returned (.tuple #[.agg #[.int .i64 r1, .int .u64 r2], .bool r3]) ∧ Below w.heap.size w w' := by
 have h := corebankref01_Join.eq h
 exact corebankref01_JoinP.calls a0 a1_0 a1_1 r1 r2 r3 w h
mutual
def corebankref01_DivP.j0 : Nat → Int → Bool → Int → Bool → Int → Int → Option (Int × Int × Int × Int)
 | 0, _, _, _, _, _, _ => none
 | k + 1, x1, x7, x10, x32, x312000, x312001 => if x32 = true then ((corebankref01_plus.f x312000 x312001 0 1).bind fun bt312 => (corebankref01_DivP.j1 k x7 (IntKind.u64.wrap ((IntKind.u64.wrap (x1)) - x10)) bt312.1 bt312.2.1)) else (corebankref01_DivP.j1 k x7 x10 x312000 x312001)
def corebankref01_DivP.j1 : Nat → Bool → Int → Int → Int → Option (Int × Int × Int × Int)
 | 0, _, _, _, _ => none
 | k + 1, x7, x10, x312000, x312001 => (corebankref01_Join.f x7 x312000 x312001).bind fun bt315 => (some (bt315.1, bt315.2.1, wrap64 (x10), 0))
end
def corebankref01_DivP.f (k : Nat) (a0_0 a0_1 a1 : Int) : Option (Int × Int × Int × Int) := if a1 < 1 then (some (0, 0, 0, 1)) else ((corebankref01_Split.f a0_0 a0_1).bind fun bt304 => ((corebankref01_Quotient.f bt304.2.1 bt304.2.2 (IntKind.u64.wrap (a1))).bind fun bt308 => (if bt304.1 = true then (corebankref01_DivP.j0 k a1 bt304.1 bt308.2.2 (decide (bt308.2.2 > 0)) bt308.1 bt308.2.1) else (corebankref01_DivP.j0 k a1 bt304.1 bt308.2.2 false bt308.1 bt308.2.1))))
theorem corebankref01_DivP.mono_l : ∀ k, (∀ y0 y1 y2 y3 y4 y5, LeO (corebankref01_DivP.j0 k y0 y1 y2 y3 y4 y5) (corebankref01_DivP.j0 (k + 1) y0 y1 y2 y3 y4 y5)) ∧ (∀ y0 y1 y2 y3, LeO (corebankref01_DivP.j1 k y0 y1 y2 y3) (corebankref01_DivP.j1 (k + 1) y0 y1 y2 y3))
 | 0 => ⟨fun _ _ _ _ _ _ r h => by simp [corebankref01_DivP.j0] at h, fun _ _ _ _ r h => by simp [corebankref01_DivP.j1] at h⟩
 | k + 1 => by
  obtain ⟨ih0, ih1⟩ := corebankref01_DivP.mono_l k
  refine ⟨?_, ?_⟩
  ·intro y0 y1 y2 y3 y4 y5
   unfold corebankref01_DivP.j0
   repeat' first
   | (with_reducible exact ih0 _ _ _ _ _ _)
   | (with_reducible exact ih1 _ _ _ _)
   | (with_reducible exact LeO.refl _)
   | (with_reducible exact LeO.none _)
   | (with_reducible refine LeO.ite ?_ ?_)
   | (with_reducible refine LeO.bind ?_ (fun _ => ?_))
   | exact ih0 _ _ _ _ _ _
   | exact ih1 _ _ _ _
   | exact LeO.none _
   | refine LeO.ite ?_ ?_
   | refine LeO.bind ?_ (fun _ => ?_)
  ·intro y0 y1 y2 y3
   unfold corebankref01_DivP.j1
   repeat' first
   | (with_reducible exact ih0 _ _ _ _ _ _)
   | (with_reducible exact ih1 _ _ _ _)
   | (with_reducible exact LeO.refl _)
   | (with_reducible exact LeO.none _)
   | (with_reducible refine LeO.ite ?_ ?_)
   | (with_reducible refine LeO.bind ?_ (fun _ => ?_))
   | exact ih0 _ _ _ _ _ _
   | exact ih1 _ _ _ _
   | exact LeO.none _
   | refine LeO.ite ?_ ?_
   | refine LeO.bind ?_ (fun _ => ?_)
theorem corebankref01_DivP.mono : ∀ a0 a1 a2 k, LeO (corebankref01_DivP.f k a0 a1 a2) (corebankref01_DivP.f (k + 1) a0 a1 a2) := by
 intro a0 a1 a2 k
 obtain ⟨ih0, ih1⟩ := corebankref01_DivP.mono_l k
 unfold corebankref01_DivP.f
 repeat' first
   | (with_reducible exact ih0 _ _ _ _ _ _)
   | (with_reducible exact ih1 _ _ _ _)
   | (with_reducible exact LeO.refl _)
   | (with_reducible exact LeO.none _)
   | (with_reducible refine LeO.ite ?_ ?_)
   | (with_reducible refine LeO.bind ?_ (fun _ => ?_))
   | exact ih0 _ _ _ _ _ _
   | exact ih1 _ _ _ _
   | exact LeO.none _
   | refine LeO.ite ?_ ?_
   | refine LeO.bind ?_ (fun _ => ?_)
set_option maxHeartbeats 8000000 in
set_option maxRecDepth 100000 in
theorem corebankref01_DivP.calls (k : Nat) (a0_0 a0_1 a1 r1 r2 r3 r4 : Int) (w : World) (h : corebankref01_DivP.f k a0_0 a0_1 a1 = some (r1, r2, r3, r4)) :
  Calls Tryd.prog 59 #[.agg #[.int .i64 a0_0, .int .u64 a0_1], .int .i64 a1] w fun e w' => e = .returned (.tuple #[.agg #[.int .i64 r1, .int .u64 r2], .int .i64 r3, .int .i64 r4]) ∧ Below w.heap.size w w' := by
 have hu63 := Tryd.underlying63
 have hu96 := Tryd.underlying96
 have HB := Aside0.mk (Below.refl w.heap.size w)
 have H : (if a1 < 1 then (some (0, 0, 0, 1)) else ((corebankref01_Split.f a0_0 a0_1).bind fun bt304 => ((corebankref01_Quotient.f bt304.2.1 bt304.2.2 (IntKind.u64.wrap (a1))).bind fun bt308 => (if bt304.1 = true then (corebankref01_DivP.j0 k a1 bt304.1 bt308.2.2 (decide (bt308.2.2 > 0)) bt308.1 bt308.2.1) else (corebankref01_DivP.j0 k a1 bt304.1 bt308.2.2 false bt308.1 bt308.2.1))))) = some (r1, r2, r3, r4) := h
 clear h
 by_cases c3 : a1 < 1
 ·rw [if_pos c3] at H
  have c3b0 : decide (a1 < 1) = true := decide_eq_true c3
  clear c3
  simp only [Option.some.injEq, Prod.mk.injEq] at H
  obtain ⟨rfl, rfl, rfl, rfl⟩ := H
  go_enter Tryd.func59, Tryd.ntmps59
  go_wp2_with (first | ((with_reducible refine gate_dst (N := 2) rfl ?_); refine be_ (N := 2) (cs := #[.int .i64 a0_0, .int .u64 a0_1]) (t := 63) ?_; intro gb302 hg w4 hbox hb; have n0_ := Aside0.mk (below_step (qb_ HB.out) hb); have n1_ := Aside0.mk (hbox); have n2_ := Aside0.mk (bz_ hg (qb_ HB.out) : w.heap.size ≤ gb302); have n3_ := n2_; clear HB; have HB := n0_; have BK302 := n1_; have GW302 := n2_; have GE302 := n3_; clear n0_ n1_ n2_ n3_; clear hb hbox hg) | ((with_reducible refine gate_dst (N := 4) rfl ?_); refine be_ (N := 4) (cs := #[.int .i64 0, .int .u64 0]) (t := 63) ?_; intro gb303 hg w5 hbox hb; have n0_ := Aside0.mk (blk_below (qk_ BK302.out) hb); have n1_ := Aside0.mk (below_step (qb1_ GE302.out HB.out) hb); have n2_ := Aside0.mk (hbox); have n3_ := Aside0.mk (bz_ hg (qb1_ GE302.out HB.out) : w.heap.size ≤ gb303); have n4_ := n3_; have n5_ := Aside0.mk (nl_ hg (qk_ BK302.out) : gb302 ≠ gb303); have n6_ := Aside0.mk (ng_ hg (qk_ BK302.out) : gb303 ≠ gb302); clear BK302; clear HB; have BK302 := n0_; have HB := n1_; have BK303 := n2_; have GW303 := n3_; have GE303 := n4_; have NB302_303 := n5_; have NB303_302 := n6_; clear n0_ n1_ n2_ n3_ n4_ n5_ n6_; clear hb hbox hg; have hnb6 := NB303_302.out; have hnc6 := NB302_303.out; obtain ⟨hcz7_0, hcz7_1, hfz7_0, hfz7_1⟩ := cz2_ BK303.out))
  refine bodyPost_ret (results_ctt rfl _ _ gb303 63 #[.int .i64 0, .int .u64 0] (0, 0) _ rfl (qpp_ #[.int .i64 0, .int .u64 0] 1 #[.int .i64 0, .int .u64 0] 0 BK303.out) Tryd.underlying63 rfl (by kernel_rfl)) rfl ?_
  exact ⟨qe_, qb2_ GE302.out GE303.out HB.out⟩
 ·rw [if_neg c3] at H
  have c3b0 : decide (a1 < 1) = false := decide_eq_false c3
  clear c3
  replace H := Option.bind_eq_some_iff.mp H
  obtain ⟨⟨t304, t305, t306⟩, A80, H⟩ := H
  replace H : ((corebankref01_Quotient.f t305 t306 (IntKind.u64.wrap (a1))).bind fun bt308 => (if t304 = true then (corebankref01_DivP.j0 k a1 t304 bt308.2.2 (decide (bt308.2.2 > 0)) bt308.1 bt308.2.1) else (corebankref01_DivP.j0 k a1 t304 bt308.2.2 false bt308.1 bt308.2.1))) = some (r1, r2, r3, r4) := H
  have A8 := Aside0.mk A80
  clear A80
  replace H := Option.bind_eq_some_iff.mp H
  obtain ⟨⟨t308, t309, t310⟩, A90, H⟩ := H
  replace H : (if t304 = true then (corebankref01_DivP.j0 k a1 t304 t310 (decide (t310 > 0)) t308 t309) else (corebankref01_DivP.j0 k a1 t304 t310 false t308 t309)) = some (r1, r2, r3, r4) := H
  have A9 := Aside0.mk A90
  clear A90
  have HC10 := Aside0.mk H
  clear H
  go_enter Tryd.func59, Tryd.ntmps59
  go_upto_region 5 with (first | ((with_reducible refine gate_dst (N := 2) rfl ?_); refine be_ (N := 2) (cs := #[.int .i64 a0_0, .int .u64 a0_1]) (t := 63) ?_; intro gb302 hg w11 hbox hb; have n0_ := Aside0.mk (below_step (qb_ HB.out) hb); have n1_ := Aside0.mk (hbox); have n2_ := Aside0.mk (bz_ hg (qb_ HB.out) : w.heap.size ≤ gb302); have n3_ := n2_; clear HB; have HB := n0_; have BK302 := n1_; have GW302 := n2_; have GE302 := n3_; clear n0_ n1_ n2_ n3_; clear hb hbox hg) | ((with_reducible refine gate_dst (N := 4) rfl ?_); refine be_ (N := 4) (cs := #[.int .i64 0, .int .u64 0]) (t := 63) ?_; intro gb303 hg w12 hbox hb; have n0_ := Aside0.mk (blk_below (qk_ BK302.out) hb); have n1_ := Aside0.mk (below_step (qb1_ GE302.out HB.out) hb); have n2_ := Aside0.mk (hbox); have n3_ := Aside0.mk (bz_ hg (qb1_ GE302.out HB.out) : w.heap.size ≤ gb303); have n4_ := n3_; have n5_ := Aside0.mk (nl_ hg (qk_ BK302.out) : gb302 ≠ gb303); have n6_ := Aside0.mk (ng_ hg (qk_ BK302.out) : gb303 ≠ gb302); clear BK302; clear HB; have BK302 := n0_; have HB := n1_; have BK303 := n2_; have GW303 := n3_; have GE303 := n4_; have NB302_303 := n5_; have NB303_302 := n6_; clear n0_ n1_ n2_ n3_ n4_ n5_ n6_; clear hb hbox hg; have hnb13 := NB302_303.out; have hnc13 := NB303_302.out; obtain ⟨hcz14_0, hcz14_1, hfz14_0, hfz14_1⟩ := cz2_ BK302.out) | ((with_reducible refine gate_callee (f := 70) rfl ?_); refine goesL_ (some 18) rfl rfl Tryd.func70 (by kernel_rfl) rfl #[.agg #[.int .i64 a0_0, .int .u64 a0_1]] rfl ql_ ?_; (with_reducible refine (corebankref01_Split.calls a0_0 a0_1 t304 t305 t306 _ A8.out).mono ?_); rintro e w15 ⟨rfl, hb⟩; refine ⟨_, rfl, ?_⟩; have n0_ := Aside0.mk (blk_below (qk_ BK302.out) hb); have n1_ := Aside0.mk (blk_below (qk_ BK303.out) hb); have n2_ := Aside0.mk (below_step (qb2_ GE302.out GE303.out HB.out) hb); clear BK302; clear BK303; clear HB; have BK302 := n0_; have BK303 := n1_; have HB := n2_; clear n0_ n1_ n2_; (try clear hb); (try clear hb2); (try clear hk); (try clear hi)) | ((with_reducible refine gate_dst (N := 8) rfl ?_); refine be_ (N := 8) (cs := #[.int .u64 0, .int .u64 0]) (t := 96) ?_; intro gb307 hg w16 hbox hb; have n0_ := Aside0.mk (blk_below (qk_ BK302.out) hb); have n1_ := Aside0.mk (blk_below (qk_ BK303.out) hb); have n2_ := Aside0.mk (below_step (qb2_ GE302.out GE303.out HB.out) hb); have n3_ := Aside0.mk (hbox); have n4_ := Aside0.mk (bz_ hg (qb2_ GE302.out GE303.out HB.out) : w.heap.size ≤ gb307); have n5_ := n4_; have n6_ := Aside0.mk (nl_ hg (qk_ BK302.out) : gb302 ≠ gb307); have n7_ := Aside0.mk (ng_ hg (qk_ BK302.out) : gb307 ≠ gb302); have n8_ := Aside0.mk (nl_ hg (qk_ BK303.out) : gb303 ≠ gb307); have n9_ := Aside0.mk (ng_ hg (qk_ BK303.out) : gb307 ≠ gb303); clear BK302; clear BK303; clear HB; have BK302 := n0_; have BK303 := n1_; have HB := n2_; have BK307 := n3_; have GW307 := n4_; have GE307 := n5_; have NB302_307 := n6_; have NB307_302 := n7_; have NB303_307 := n8_; have NB307_303 := n9_; clear n0_ n1_ n2_ n3_ n4_ n5_ n6_ n7_ n8_ n9_; clear hb hbox hg; have hnb17 := NB307_302.out; have hnc17 := NB302_307.out; have hnb18 := NB307_303.out; have hnc18 := NB303_307.out; obtain ⟨hcz19_0, hcz19_1, hfz19_0, hfz19_1⟩ := cz2_ BK307.out) | ((with_reducible refine gate_callee (f := 71) rfl ?_); refine goesL_ (some 25) rfl rfl Tryd.func71 (by kernel_rfl) rfl #[.agg #[.int .u64 t305, .int .u64 t306], .int .u64 (IntKind.u64.wrap (a1))] rfl ql_ ?_; (with_reducible refine (corebankref01_Quotient.calls t305 t306 (IntKind.u64.wrap (a1)) t308 t309 t310 _ A9.out).mono ?_); rintro e w20 ⟨rfl, hb⟩; refine ⟨_, rfl, ?_⟩; have n0_ := Aside0.mk (blk_below (g := gb302) (o := .cells #[.int .i64 a0_0, .int .u64 a0_1] 63 (0, 0)) (qff_ NB302_307.out NB302_307.out BK302.out) hb); have n1_ := Aside0.mk (blk_below (g := gb303) (o := .cells #[.int .i64 0, .int .u64 0] 63 (0, 0)) (qff_ NB303_307.out NB303_307.out BK303.out) hb); have n2_ := Aside0.mk (blk_below (g := gb307) (o := .cells #[.int .u64 t305, .int .u64 t306] 96 (0, 0)) (qpp_ #[.int .u64 t305, .int .u64 0] 1 #[.int .u64 0, .int .u64 0] 0 BK307.out) hb); have n3_ := Aside0.mk (below_step (qb3_ GE302.out GE303.out GE307.out HB.out) hb); clear BK302; clear BK303; clear BK307; clear HB; have BK302 := n0_; have BK303 := n1_; have BK307 := n2_; have HB := n3_; clear n0_ n1_ n2_ n3_; (try clear hb); (try clear hb2); (try clear hk); (try clear hi)) | ((with_reducible refine gate_dst (N := 9) rfl ?_); refine be_ (N := 9) (cs := #[.int .u64 0, .int .u64 0]) (t := 96) ?_; intro gb311 hg w21 hbox hb; have n0_ := Aside0.mk (blk_below (qk_ BK302.out) hb); have n1_ := Aside0.mk (blk_below (qk_ BK303.out) hb); have n2_ := Aside0.mk (blk_below (qk_ BK307.out) hb); have n3_ := Aside0.mk (below_step (qb3_ GE302.out GE303.out GE307.out HB.out) hb); have n4_ := Aside0.mk (hbox); have n5_ := Aside0.mk (bz_ hg (qb3_ GE302.out GE303.out GE307.out HB.out) : w.heap.size ≤ gb311); have n6_ := n5_; have n7_ := Aside0.mk (nl_ hg (qk_ BK302.out) : gb302 ≠ gb311); have n8_ := Aside0.mk (ng_ hg (qk_ BK302.out) : gb311 ≠ gb302); have n9_ := Aside0.mk (nl_ hg (qk_ BK303.out) : gb303 ≠ gb311); have n10_ := Aside0.mk (ng_ hg (qk_ BK303.out) : gb311 ≠ gb303); have n11_ := Aside0.mk (nl_ hg (qk_ BK307.out) : gb307 ≠ gb311); have n12_ := Aside0.mk (ng_ hg (qk_ BK307.out) : gb311 ≠ gb307); clear BK302; clear BK303; clear BK307; clear HB; have BK302 := n0_; have BK303 := n1_; have BK307 := n2_; have HB := n3_; have BK311 := n4_; have GW311 := n5_; have GE311 := n6_; have NB302_311 := n7_; have NB311_302 := n8_; have NB303_311 := n9_; have NB311_303 := n10_; have NB307_311 := n11_; have NB311_307 := n12_; clear n0_ n1_ n2_ n3_ n4_ n5_ n6_ n7_ n8_ n9_ n10_ n11_ n12_; clear hb hbox hg; have hnb22 := NB311_302.out; have hnc22 := NB302_311.out; have hnb23 := NB311_303.out; have hnc23 := NB303_311.out; have hnb24 := NB311_307.out; have hnc24 := NB307_311.out; obtain ⟨hcz25_0, hcz25_1, hfz25_0, hfz25_1⟩ := cz2_ BK311.out))
  (try simp only [Act.put, List.setIfInBounds_toArray, List.set_cons_zero, List.set_cons_succ])
  go_cut [32] (fun v32 wc => ∃ (kq : Nat) (x32_9 : Bool), v32 = .bool x32_9 ∧ Aside0 (corebankref01_DivP.j0 kq a1 t304 t310 x32_9 t308 t309 = some (r1, r2, r3, r4)) ∧ Aside0 (kq ≤ k) ∧ Aside0 (wc.heap[gb302]? = some (.cells #[.int .i64 a0_0, .int .u64 a0_1] 63 (0, 0))) ∧ Aside0 (wc.heap[gb303]? = some (.cells #[.int .i64 0, .int .u64 0] 63 (0, 0))) ∧ Aside0 (wc.heap[gb307]? = some (.cells #[.int .u64 t305, .int .u64 t306] 96 (0, 0))) ∧ Aside0 (wc.heap[gb311]? = some (.cells #[.int .u64 t308, .int .u64 t309] 96 (0, 0))) ∧ Aside0 (Below w.heap.size w wc))
  case first =>
   have H := HC10.out
   clear HC10
   by_cases c26 : t304 = true
   ·subst c26
    have H1 : (corebankref01_DivP.j0 k a1 true t310 (decide (t310 > 0)) t308 t309) = some (r1, r2, r3, r4) := by rw [if_pos rfl] at H; exact H
    clear H
    have H := H1
    clear H1
    have H' := Aside0.mk H
    clear H
    go_wp2
    go_meet
    case rel => exact ⟨_, (decide (t310 > 0)), qs_, H', ⟨qo_⟩, ⟨qff_ NB302_311.out NB302_311.out BK302.out⟩, ⟨qff_ NB303_311.out NB303_311.out BK303.out⟩, ⟨qff_ NB307_311.out NB307_311.out BK307.out⟩, ⟨qpp_ #[.int .u64 t308, .int .u64 0] 1 #[.int .u64 0, .int .u64 0] 0 BK311.out⟩, ⟨qb4_ GE302.out GE303.out GE307.out GE311.out HB.out⟩⟩
   ·replace c26 := Bool.eq_false_iff.mpr c26
    subst c26
    have H1 : (corebankref01_DivP.j0 k a1 false t310 false t308 t309) = some (r1, r2, r3, r4) := by rw [if_neg (show ¬ (false = true) by decide)] at H; exact H
    clear H
    have H := H1
    clear H1
    have H' := Aside0.mk H
    clear H
    go_wp2
    go_meet
    case rel => exact ⟨_, (false), qs_, H', ⟨qo_⟩, ⟨qff_ NB302_311.out NB302_311.out BK302.out⟩, ⟨qff_ NB303_311.out NB303_311.out BK303.out⟩, ⟨qff_ NB307_311.out NB307_311.out BK307.out⟩, ⟨qpp_ #[.int .u64 t308, .int .u64 0] 1 #[.int .u64 0, .int .u64 0] 0 BK311.out⟩, ⟨qb4_ GE302.out GE303.out GE307.out GE311.out HB.out⟩⟩
  case rest =>
   clear HC10
   try clear c1
   try clear c2
   try clear p2
   try clear c3
   try clear c3b0
   try clear c5
   try clear c6
   try clear c7
   try clear c13
   try clear c17
   try clear c18
   try clear c22
   try clear c23
   try clear c24
   try clear c26
   try clear hcz14_0
   try clear hcz14_1
   try clear hcz19_0
   try clear hcz19_1
   try clear hcz25_0
   try clear hcz25_1
   try clear hcz7_0
   try clear hcz7_1
   try clear hfz14_0
   try clear hfz14_1
   try clear hfz19_0
   try clear hfz19_1
   try clear hfz25_0
   try clear hfz25_1
   try clear hfz7_0
   try clear hfz7_1
   obtain ⟨kq, x32_9, rfl, HA, HJ9, BK302, BK303, BK307, BK311, HB⟩ := hcut
   cases kq with
   | zero => exact absurd HA.out (by simp [corebankref01_DivP.j0])
   | succ kj9 =>
    have H := HA.out
    clear HA
    simp only [corebankref01_DivP.j0] at H
    have HC27 := Aside0.mk H
    clear H
    go_upto_if 32 with (fail)
    go_cut [10] (fun v10 wc => ∃ (kq : Nat) (x10_26 x312000_26 x312001_26 : Int), v10 = .int .u64 x10_26 ∧ Aside0 (corebankref01_DivP.j1 kq t304 x10_26 x312000_26 x312001_26 = some (r1, r2, r3, r4)) ∧ Aside0 (kq ≤ kj9) ∧ Aside0 (wc.heap[gb302]? = some (.cells #[.int .i64 a0_0, .int .u64 a0_1] 63 (0, 0))) ∧ Aside0 (wc.heap[gb303]? = some (.cells #[.int .i64 0, .int .u64 0] 63 (0, 0))) ∧ Aside0 (wc.heap[gb307]? = some (.cells #[.int .u64 t305, .int .u64 t306] 96 (0, 0))) ∧ Aside0 (wc.heap[gb311]? = some (.cells #[.int .u64 x312000_26, .int .u64 x312001_26] 96 (0, 0))) ∧ Aside0 (Below w.heap.size w wc))
    case first =>
     have H := HC27.out
     clear HC27
     by_cases c28 : x32_9 = true
     ·subst c28
      have H1 : ((corebankref01_plus.f t308 t309 0 1).bind fun bt312 => (corebankref01_DivP.j1 kj9 t304 (IntKind.u64.wrap ((IntKind.u64.wrap (a1)) - t310)) bt312.1 bt312.2.1)) = some (r1, r2, r3, r4) := by rw [if_pos rfl] at H; exact H
      clear H
      have H := H1
      clear H1
      replace H := Option.bind_eq_some_iff.mp H
      obtain ⟨⟨t312, t313, t314⟩, A290, H⟩ := H
      replace H : (corebankref01_DivP.j1 kj9 t304 (IntKind.u64.wrap ((IntKind.u64.wrap (a1)) - t310)) t312 t313) = some (r1, r2, r3, r4) := H
      have A29 := Aside0.mk A290
      clear A290
      have H' := Aside0.mk H
      clear H
      have hnb30 := NB311_302.out
      have hnc30 := NB302_311.out
      have hnb31 := NB311_303.out
      have hnc31 := NB303_311.out
      have hnb32 := NB311_307.out
      have hnc32 := NB307_311.out
      obtain ⟨hcz33_0, hcz33_1, hfz33_0, hfz33_1⟩ := cz2_ BK311.out
      go_wp2_with (first | ((with_reducible refine gate_callee (f := 72) rfl ?_); refine goesL_ (some 36) rfl rfl Tryd.func72 (by kernel_rfl) rfl #[.agg #[.int .u64 t308, .int .u64 t309], .agg #[.int .u64 0, .int .u64 1]] rfl ql_ ?_; (with_reducible refine (corebankref01_plus.calls t308 t309 0 1 t312 t313 t314 _ A29.out).mono ?_); rintro e w34 ⟨rfl, hb⟩; refine ⟨_, rfl, ?_⟩; have n0_ := Aside0.mk (blk_below (qk_ BK302.out) hb); have n1_ := Aside0.mk (blk_below (qk_ BK303.out) hb); have n2_ := Aside0.mk (blk_below (qk_ BK307.out) hb); have n3_ := Aside0.mk (blk_below (qk_ BK311.out) hb); have n4_ := Aside0.mk (below_step (qb4_ GE302.out GE303.out GE307.out GE311.out HB.out) hb); clear BK302; clear BK303; clear BK307; clear BK311; clear HB; have BK302 := n0_; have BK303 := n1_; have BK307 := n2_; have BK311 := n3_; have HB := n4_; clear n0_ n1_ n2_ n3_ n4_; (try clear hb); (try clear hb2); (try clear hk); (try clear hi); obtain ⟨hcz35_0, hcz35_1, hfz35_0, hfz35_1⟩ := cz2_ BK311.out))
      go_meet
      case rel => exact ⟨_, (IntKind.u64.wrap ((IntKind.u64.wrap (a1)) - t310)), (t312), (t313), qs_, H', ⟨by have := HJ9.out; first | omega | exact Nat.le_refl _⟩, ⟨qff_ NB302_311.out NB302_311.out BK302.out⟩, ⟨qff_ NB303_311.out NB303_311.out BK303.out⟩, ⟨qff_ NB307_311.out NB307_311.out BK307.out⟩, ⟨qpp_ #[.int .u64 t312, .int .u64 t309] 1 #[.int .u64 t308, .int .u64 t309] 0 BK311.out⟩, ⟨qb4_ GE302.out GE303.out GE307.out GE311.out HB.out⟩⟩
     ·replace c28 := Bool.eq_false_iff.mpr c28
      subst c28
      have H1 : (corebankref01_DivP.j1 kj9 t304 t310 t308 t309) = some (r1, r2, r3, r4) := by rw [if_neg (show ¬ (false = true) by decide)] at H; exact H
      clear H
      have H := H1
      clear H1
      have H' := Aside0.mk H
      clear H
      go_wp2
      go_meet
      case rel => exact ⟨_, (t310), (t308), (t309), qs_, H', ⟨by have := HJ9.out; first | omega | exact Nat.le_refl _⟩, ⟨qk_ BK302.out⟩, ⟨qk_ BK303.out⟩, ⟨qk_ BK307.out⟩, ⟨qk_ BK311.out⟩, ⟨qb4_ GE302.out GE303.out GE307.out GE311.out HB.out⟩⟩
    case rest =>
     clear HC27
     try clear c1
     try clear c2
     try clear p2
     try clear c3
     try clear c3b0
     try clear c5
     try clear c6
     try clear c7
     try clear c13
     try clear c17
     try clear c18
     try clear c22
     try clear c23
     try clear c24
     try clear c26
     try clear c28
     try clear c30
     try clear c31
     try clear c32
     try clear hcz14_0
     try clear hcz14_1
     try clear hcz19_0
     try clear hcz19_1
     try clear hcz25_0
     try clear hcz25_1
     try clear hcz33_0
     try clear hcz33_1
     try clear hcz35_0
     try clear hcz35_1
     try clear hcz7_0
     try clear hcz7_1
     try clear hfz14_0
     try clear hfz14_1
     try clear hfz19_0
     try clear hfz19_1
     try clear hfz25_0
     try clear hfz25_1
     try clear hfz33_0
     try clear hfz33_1
     try clear hfz35_0
     try clear hfz35_1
     try clear hfz7_0
     try clear hfz7_1
     try clear p2
     obtain ⟨kq, x10_26, x312000_26, x312001_26, rfl, HA, HJ26, BK302, BK303, BK307, BK311, HB⟩ := hcut
     cases kq with
     | zero => exact absurd HA.out (by simp [corebankref01_DivP.j1])
     | succ kj26 =>
      have H := HA.out
      clear HA
      simp only [corebankref01_DivP.j1] at H
      replace H := Option.bind_eq_some_iff.mp H
      obtain ⟨⟨t315, t316, t317⟩, A360, H⟩ := H
      replace H : (some (t315, t316, wrap64 (x10_26), 0)) = some (r1, r2, r3, r4) := H
      have A36 := Aside0.mk A360
      clear A360
      simp only [Option.some.injEq, Prod.mk.injEq] at H
      obtain ⟨rfl, rfl, rfl, rfl⟩ := H
      have hnb37 := NB311_302.out
      have hnc37 := NB302_311.out
      have hnb38 := NB311_303.out
      have hnc38 := NB303_311.out
      have hnb39 := NB311_307.out
      have hnc39 := NB307_311.out
      obtain ⟨hcz40_0, hcz40_1, hfz40_0, hfz40_1⟩ := cz2_ BK311.out
      go_wp2_with (first | ((with_reducible refine gate_callee (f := 73) rfl ?_); refine goesL_ (some 46) rfl rfl Tryd.func73 (by kernel_rfl) rfl #[.bool t304, .agg #[.int .u64 x312000_26, .int .u64 x312001_26]] rfl ql_ ?_; (with_reducible refine (corebankref01_Join.calls t304 x312000_26 x312001_26 t315 t316 t317 _ A36.out).mono ?_); rintro e w41 ⟨rfl, hb⟩; refine ⟨_, rfl, ?_⟩; have n0_ := Aside0.mk (blk_below (qk_ BK302.out) hb); have n1_ := Aside0.mk (blk_below (qk_ BK303.out) hb); have n2_ := Aside0.mk (blk_below (qk_ BK307.out) hb); have n3_ := Aside0.mk (blk_below (qk_ BK311.out) hb); have n4_ := Aside0.mk (below_step (qb4_ GE302.out GE303.out GE307.out GE311.out HB.out) hb); clear BK302; clear BK303; clear BK307; clear BK311; clear HB; have BK302 := n0_; have BK303 := n1_; have BK307 := n2_; have BK311 := n3_; have HB := n4_; clear n0_ n1_ n2_ n3_ n4_; (try clear hb); (try clear hb2); (try clear hk); (try clear hi)) | ((with_reducible refine gate_dst (N := 11) rfl ?_); refine be_ (N := 11) (cs := #[.int .i64 0, .int .u64 0]) (t := 63) ?_; intro gb318 hg w42 hbox hb; have n0_ := Aside0.mk (blk_below (qk_ BK302.out) hb); have n1_ := Aside0.mk (blk_below (qk_ BK303.out) hb); have n2_ := Aside0.mk (blk_below (qk_ BK307.out) hb); have n3_ := Aside0.mk (blk_below (qk_ BK311.out) hb); have n4_ := Aside0.mk (below_step (qb4_ GE302.out GE303.out GE307.out GE311.out HB.out) hb); have n5_ := Aside0.mk (hbox); have n6_ := Aside0.mk (bz_ hg (qb4_ GE302.out GE303.out GE307.out GE311.out HB.out) : w.heap.size ≤ gb318); have n7_ := n6_; have n8_ := Aside0.mk (nl_ hg (qk_ BK302.out) : gb302 ≠ gb318); have n9_ := Aside0.mk (ng_ hg (qk_ BK302.out) : gb318 ≠ gb302); have n10_ := Aside0.mk (nl_ hg (qk_ BK303.out) : gb303 ≠ gb318); have n11_ := Aside0.mk (ng_ hg (qk_ BK303.out) : gb318 ≠ gb303); have n12_ := Aside0.mk (nl_ hg (qk_ BK307.out) : gb307 ≠ gb318); have n13_ := Aside0.mk (ng_ hg (qk_ BK307.out) : gb318 ≠ gb307); have n14_ := Aside0.mk (nl_ hg (qk_ BK311.out) : gb311 ≠ gb318); have n15_ := Aside0.mk (ng_ hg (qk_ BK311.out) : gb318 ≠ gb311); clear BK302; clear BK303; clear BK307; clear BK311; clear HB; have BK302 := n0_; have BK303 := n1_; have BK307 := n2_; have BK311 := n3_; have HB := n4_; have BK318 := n5_; have GW318 := n6_; have GE318 := n7_; have NB302_318 := n8_; have NB318_302 := n9_; have NB303_318 := n10_; have NB318_303 := n11_; have NB307_318 := n12_; have NB318_307 := n13_; have NB311_318 := n14_; have NB318_311 := n15_; clear n0_ n1_ n2_ n3_ n4_ n5_ n6_ n7_ n8_ n9_ n10_ n11_ n12_ n13_ n14_ n15_; clear hb hbox hg; have hnb43 := NB318_302.out; have hnc43 := NB302_318.out; have hnb44 := NB318_303.out; have hnc44 := NB303_318.out; have hnb45 := NB318_307.out; have hnc45 := NB307_318.out; have hnb46 := NB318_311.out; have hnc46 := NB311_318.out; obtain ⟨hcz47_0, hcz47_1, hfz47_0, hfz47_1⟩ := cz2_ BK318.out; have hnb48 := NB303_302.out; have hnc48 := NB302_303.out; have hnb49 := NB303_307.out; have hnc49 := NB307_303.out; obtain ⟨hcz50_0, hcz50_1, hfz50_0, hfz50_1⟩ := cz2_ BK303.out))
      refine bodyPost_ret (results_ctt rfl _ _ gb303 63 #[.int .i64 t315, .int .u64 t316] (0, 0) _ rfl (qppff_ #[.int .i64 t315, .int .u64 0] 1 #[.int .i64 0, .int .u64 0] 0 NB303_318.out NB303_318.out BK303.out) Tryd.underlying63 rfl (by kernel_rfl)) rfl ?_
      exact ⟨qe_, qb5_ GE302.out GE303.out GE307.out GE311.out GE318.out HB.out⟩
end Go.Proofs.YtjkjiibhdpcpkaaDoor.PS
