import Derived.Test.YtjkjiibhdpcpkaaDoorQRm2
import Derived.Test.YtjkjiibhdpcpkaaDoorQSx29
namespace Go.Proofs.YtjkjiibhdpcpkaaDoor.PS
open Go.RowKit Go.Proofs.YtjkjiibhdpcpkaaDoorW.PrintWords Go.Proofs.YtjkjiibhdpcpkaaDoorW.PrintLast
set_option linter.unusedVariables false
set_option linter.unusedSimpArgs false
mutual
def corebankref01_QuotientP.l0 : Nat → Int → Int → Int → Int → Int → Int → Int → Option (Int × Int × Int)
 | 0, _, _, _, _, _, _, _ => none
 | k + 1, x1, x7, x8, x292000, x292001, x294000, x294001 => if x8 < 128 then (if (Go.bits .and .u64 x292000 9223372036854775808) = 0 then (corebankref01_QuotientP.j1 k x1 (IntKind.u64.wrap (x7 * 2)) x8 x292000 x292001 x294000 x294001) else (corebankref01_QuotientP.j1 k x1 (IntKind.u64.wrap ((IntKind.u64.wrap (x7 * 2)) + 1)) x8 x292000 x292001 x294000 x294001)) else (some (x294000, x294001, x7))
def corebankref01_QuotientP.j1 : Nat → Int → Int → Int → Int → Int → Int → Int → Option (Int × Int × Int)
 | 0, _, _, _, _, _, _, _ => none
 | k + 1, x1, x7, x8, x292000, x292001, x294000, x294001 => (corebankref01_shifted.f x292000 x292001).bind fun bt294 => ((corebankref01_shifted.f x294000 x294001).bind fun bt297 => (if x7 ≥ x1 then (corebankref01_QuotientP.l0 k x1 (IntKind.u64.wrap (x7 - x1)) (wrap64 (x8 + 1)) bt294.1 bt294.2.1 bt297.1 (IntKind.u64.wrap (bt297.2.1 + 1))) else (corebankref01_QuotientP.l0 k x1 x7 (wrap64 (x8 + 1)) bt294.1 bt294.2.1 bt297.1 bt297.2.1)))
end
def corebankref01_QuotientP.f (k : Nat) (a0_0 a0_1 a1 : Int) : Option (Int × Int × Int) := corebankref01_QuotientP.l0 k a1 0 0 a0_0 a0_1 0 0
theorem corebankref01_QuotientP.mono_l : ∀ k, (∀ y0 y1 y2 y3 y4 y5 y6, LeO (corebankref01_QuotientP.l0 k y0 y1 y2 y3 y4 y5 y6) (corebankref01_QuotientP.l0 (k + 1) y0 y1 y2 y3 y4 y5 y6)) ∧ (∀ y0 y1 y2 y3 y4 y5 y6, LeO (corebankref01_QuotientP.j1 k y0 y1 y2 y3 y4 y5 y6) (corebankref01_QuotientP.j1 (k + 1) y0 y1 y2 y3 y4 y5 y6))
 | 0 => ⟨fun _ _ _ _ _ _ _ r h => by simp [corebankref01_QuotientP.l0] at h, fun _ _ _ _ _ _ _ r h => by simp [corebankref01_QuotientP.j1] at h⟩
 | k + 1 => by
  obtain ⟨ih0, ih1⟩ := corebankref01_QuotientP.mono_l k
  refine ⟨?_, ?_⟩
  ·intro y0 y1 y2 y3 y4 y5 y6
   unfold corebankref01_QuotientP.l0
   repeat' first
   | (with_reducible exact ih0 _ _ _ _ _ _ _)
   | (with_reducible exact ih1 _ _ _ _ _ _ _)
   | (with_reducible exact LeO.refl _)
   | (with_reducible exact LeO.none _)
   | (with_reducible refine LeO.ite ?_ ?_)
   | (with_reducible refine LeO.bind ?_ (fun _ => ?_))
   | exact ih0 _ _ _ _ _ _ _
   | exact ih1 _ _ _ _ _ _ _
   | exact LeO.none _
   | refine LeO.ite ?_ ?_
   | refine LeO.bind ?_ (fun _ => ?_)
  ·intro y0 y1 y2 y3 y4 y5 y6
   unfold corebankref01_QuotientP.j1
   repeat' first
   | (with_reducible exact ih0 _ _ _ _ _ _ _)
   | (with_reducible exact ih1 _ _ _ _ _ _ _)
   | (with_reducible exact LeO.refl _)
   | (with_reducible exact LeO.none _)
   | (with_reducible refine LeO.ite ?_ ?_)
   | (with_reducible refine LeO.bind ?_ (fun _ => ?_))
   | exact ih0 _ _ _ _ _ _ _
   | exact ih1 _ _ _ _ _ _ _
   | exact LeO.none _
   | refine LeO.ite ?_ ?_
   | refine LeO.bind ?_ (fun _ => ?_)
theorem corebankref01_QuotientP.mono : ∀ a0 a1 a2 k, LeO (corebankref01_QuotientP.f k a0 a1 a2) (corebankref01_QuotientP.f (k + 1) a0 a1 a2) := by
 intro a0 a1 a2 k
 obtain ⟨ih0, ih1⟩ := corebankref01_QuotientP.mono_l k
 unfold corebankref01_QuotientP.f
 repeat' first
   | (with_reducible exact ih0 _ _ _ _ _ _ _)
   | (with_reducible exact ih1 _ _ _ _ _ _ _)
   | (with_reducible exact LeO.refl _)
   | (with_reducible exact LeO.none _)
   | (with_reducible refine LeO.ite ?_ ?_)
   | (with_reducible refine LeO.bind ?_ (fun _ => ?_))
   | exact ih0 _ _ _ _ _ _ _
   | exact ih1 _ _ _ _ _ _ _
   | exact LeO.none _
   | refine LeO.ite ?_ ?_
   | refine LeO.bind ?_ (fun _ => ?_)
set_option maxHeartbeats 8000000 in
set_option maxRecDepth 100000 in
theorem corebankref01_QuotientP.calls (k : Nat) (a0_0 a0_1 a1 r1 r2 r3 : Int) (w : World) (h : corebankref01_QuotientP.f k a0_0 a0_1 a1 = some (r1, r2, r3)) :
  Calls Tryd.prog 71 #[.agg #[.int .u64 a0_0, .int .u64 a0_1], .int .u64 a1] w fun e w' => e = .returned (.tuple #[.agg #[.int .u64 r1, .int .u64 r2], .int .u64 r3]) ∧ Below w.heap.size w w' := by
 have hu96 := Tryd.underlying96
 have HB := Aside0.mk (Below.refl w.heap.size w)
 have H : (corebankref01_QuotientP.l0 k a1 0 0 a0_0 a0_1 0 0) = some (r1, r2, r3) := h
 clear h
 have H' := Aside0.mk H
 clear H
 go_enter Tryd.func71, Tryd.ntmps71
 go_wp2_with (first | ((with_reducible refine gate_dst (N := 2) rfl ?_); refine be_ (N := 2) (cs := #[.int .u64 a0_0, .int .u64 a0_1]) (t := 96) ?_; intro gb291 hg w3 hbox hb; have n0_ := Aside0.mk (below_step (qb_ HB.out) hb); have n1_ := Aside0.mk (hbox); have n2_ := Aside0.mk (bz_ hg (qb_ HB.out) : w.heap.size ≤ gb291); have n3_ := n2_; clear HB; have HB := n0_; have BK291 := n1_; have GW291 := n2_; have GE291 := n3_; clear n0_ n1_ n2_ n3_; clear hb hbox hg) | ((with_reducible refine gate_dst (N := 4) rfl ?_); refine be_ (N := 4) (cs := #[.int .u64 0, .int .u64 0]) (t := 96) ?_; intro gb292 hg w4 hbox hb; have n0_ := Aside0.mk (blk_below (qk_ BK291.out) hb); have n1_ := Aside0.mk (below_step (qb1_ GE291.out HB.out) hb); have n2_ := Aside0.mk (hbox); have n3_ := Aside0.mk (bz_ hg (qb1_ GE291.out HB.out) : w.heap.size ≤ gb292); have n4_ := n3_; have n5_ := Aside0.mk (nl_ hg (qk_ BK291.out) : gb291 ≠ gb292); have n6_ := Aside0.mk (ng_ hg (qk_ BK291.out) : gb292 ≠ gb291); clear BK291; clear HB; have BK291 := n0_; have HB := n1_; have BK292 := n2_; have GW292 := n3_; have GE292 := n4_; have NB291_292 := n5_; have NB292_291 := n6_; clear n0_ n1_ n2_ n3_ n4_ n5_ n6_; clear hb hbox hg) | ((with_reducible refine gate_dst (N := 6) rfl ?_); refine be_ (N := 6) (cs := #[.int .u64 0, .int .u64 0]) (t := 96) ?_; intro gb293 hg w5 hbox hb; have n0_ := Aside0.mk (blk_below (qk_ BK291.out) hb); have n1_ := Aside0.mk (blk_below (qk_ BK292.out) hb); have n2_ := Aside0.mk (below_step (qb2_ GE291.out GE292.out HB.out) hb); have n3_ := Aside0.mk (hbox); have n4_ := Aside0.mk (bz_ hg (qb2_ GE291.out GE292.out HB.out) : w.heap.size ≤ gb293); have n5_ := n4_; have n6_ := Aside0.mk (nl_ hg (qk_ BK291.out) : gb291 ≠ gb293); have n7_ := Aside0.mk (ng_ hg (qk_ BK291.out) : gb293 ≠ gb291); have n8_ := Aside0.mk (nl_ hg (qk_ BK292.out) : gb292 ≠ gb293); have n9_ := Aside0.mk (ng_ hg (qk_ BK292.out) : gb293 ≠ gb292); clear BK291; clear BK292; clear HB; have BK291 := n0_; have BK292 := n1_; have HB := n2_; have BK293 := n3_; have GW293 := n4_; have GE293 := n5_; have NB291_293 := n6_; have NB293_291 := n7_; have NB292_293 := n8_; have NB293_292 := n9_; clear n0_ n1_ n2_ n3_ n4_ n5_ n6_ n7_ n8_ n9_; clear hb hbox hg; have hnb6 := NB293_291.out; have hnc6 := NB291_293.out; have hnb7 := NB293_292.out; have hnc7 := NB292_293.out; obtain ⟨hcz8_0, hcz8_1, hfz8_0, hfz8_1⟩ := cz2_ BK293.out))
 go_loopg [7, 8] k (fun kq v7 v8 w' => ∃ (x7_1 x8_1 x292000_1 x292001_1 x294000_1 x294001_1 : Int), v7 = .int .u64 x7_1 ∧ v8 = .int .i64 x8_1 ∧ Aside0 (corebankref01_QuotientP.l0 kq a1 x7_1 x8_1 x292000_1 x292001_1 x294000_1 x294001_1 = some (r1, r2, r3)) ∧ Aside0 (kq ≤ k) ∧ Aside0 (w'.heap[gb291]? = some (.cells #[.int .u64 x292000_1, .int .u64 x292001_1] 96 (0, 0))) ∧ Aside0 (w'.heap[gb292]? = some (.cells #[.int .u64 0, .int .u64 0] 96 (0, 0))) ∧ Aside0 (w'.heap[gb293]? = some (.cells #[.int .u64 x294000_1, .int .u64 x294001_1] 96 (0, 0))) ∧ Aside0 (Below w.heap.size w w'))
 case atStart => exact ⟨(0), (0), (a0_0), (a0_1), (0), (0), qs_, qs_, H', ⟨Nat.le_refl _⟩, ⟨qff_ NB291_293.out NB291_293.out BK291.out⟩, ⟨qff_ NB292_293.out NB292_293.out BK292.out⟩, ⟨qpp_ #[.int .u64 0, .int .u64 0] 1 #[.int .u64 0, .int .u64 0] 0 BK293.out⟩, ⟨qb3_ GE291.out GE292.out GE293.out HB.out⟩⟩
 case round =>
  clear H'
  try clear p2
  try clear c6
  try clear c7
  try clear hcz8_0
  try clear hcz8_1
  try clear hfz8_0
  try clear hfz8_1
  obtain ⟨x7_1, x8_1, x292000_1, x292001_1, x294000_1, x294001_1, rfl, rfl, HA, HK1, BK291, BK292, BK293, HB⟩ := hrel
  cases gk with
  | zero => exact absurd HA.out (by simp [corebankref01_QuotientP.l0])
  | succ k1 =>
   have H := HA.out
   clear HA
   simp only [corebankref01_QuotientP.l0] at H
   by_cases c9 : x8_1 < 128
   ·rw [if_pos c9] at H
    have c9b0 : decide (x8_1 < 128) = true := decide_eq_true c9
    clear c9
    have HC10 := Aside0.mk H
    clear H
    have hnb11 := NB291_292.out
    have hnc11 := NB292_291.out
    have hnb12 := NB291_293.out
    have hnc12 := NB293_291.out
    obtain ⟨hcz13_0, hcz13_1, hfz13_0, hfz13_1⟩ := cz2_ BK291.out
    go_upto_if 19 with (fail)
    go_cut [7] (fun v7 wc => ∃ (kq : Nat) (x7_9 : Int), v7 = .int .u64 x7_9 ∧ Aside0 (corebankref01_QuotientP.j1 kq a1 x7_9 x8_1 x292000_1 x292001_1 x294000_1 x294001_1 = some (r1, r2, r3)) ∧ Aside0 (kq ≤ k1) ∧ Aside0 (wc.heap[gb291]? = some (.cells #[.int .u64 x292000_1, .int .u64 x292001_1] 96 (0, 0))) ∧ Aside0 (wc.heap[gb292]? = some (.cells #[.int .u64 0, .int .u64 0] 96 (0, 0))) ∧ Aside0 (wc.heap[gb293]? = some (.cells #[.int .u64 x294000_1, .int .u64 x294001_1] 96 (0, 0))) ∧ Aside0 (Below w.heap.size w wc))
    case first =>
     have H := HC10.out
     clear HC10
     by_cases c14 : (Go.bits .and .u64 x292000_1 9223372036854775808) = 0
     ·rw [if_pos c14] at H
      have c14b0 : ((Go.bits .and .u64 x292000_1 9223372036854775808) == 0) = true := beq_iff_eq.mpr c14
      have c14b1 : ((Go.bits .and .u64 x292000_1 9223372036854775808) != 0) = false := bne_eq_false_iff_eq.mpr c14
      clear c14
      (first | rw [c14b0] | (simp only [i64_w, i32_w]; rw [c14b0]) | skip)
      have H' := Aside0.mk H
      clear H
      go_wp2
      go_meet
      case rel => exact ⟨_, (IntKind.u64.wrap (x7_1 * 2)), qs_, H', ⟨by have := HK1.out; first | omega | exact Nat.le_refl _⟩, ⟨qk_ BK291.out⟩, ⟨qk_ BK292.out⟩, ⟨qk_ BK293.out⟩, ⟨qb3_ GE291.out GE292.out GE293.out HB.out⟩⟩
     ·rw [if_neg c14] at H
      have c14b0 : ((Go.bits .and .u64 x292000_1 9223372036854775808) == 0) = false := beq_eq_false_iff_ne.mpr c14
      have c14b1 : ((Go.bits .and .u64 x292000_1 9223372036854775808) != 0) = true := bne_iff_ne.mpr c14
      (first | rw [c14b0] | (simp only [i64_w, i32_w]; rw [c14b0]) | skip)
      have H' := Aside0.mk H
      clear H
      go_wp2
      go_meet
      case rel => exact ⟨_, (IntKind.u64.wrap ((IntKind.u64.wrap (x7_1 * 2)) + 1)), qs_, H', ⟨by have := HK1.out; first | omega | exact Nat.le_refl _⟩, ⟨qk_ BK291.out⟩, ⟨qk_ BK292.out⟩, ⟨qk_ BK293.out⟩, ⟨qb3_ GE291.out GE292.out GE293.out HB.out⟩⟩
    case rest =>
     clear HC10
     try clear c1
     try clear p2
     try clear c6
     try clear c7
     try clear c9
     try clear c9b0
     try clear c11
     try clear c12
     try clear c14
     try clear c14b0
     try clear c14b1
     try clear hcz13_0
     try clear hcz13_1
     try clear hcz8_0
     try clear hcz8_1
     try clear hfz13_0
     try clear hfz13_1
     try clear hfz8_0
     try clear hfz8_1
     try clear p2
     obtain ⟨kq, x7_9, rfl, HA, HJ9, BK291, BK292, BK293, HB⟩ := hcut
     cases kq with
     | zero => exact absurd HA.out (by simp [corebankref01_QuotientP.j1])
     | succ kj9 =>
      have H := HA.out
      clear HA
      simp only [corebankref01_QuotientP.j1] at H
      replace H := Option.bind_eq_some_iff.mp H
      obtain ⟨⟨t294, t295, t296⟩, A150, H⟩ := H
      replace H : ((corebankref01_shifted.f x294000_1 x294001_1).bind fun bt297 => (if x7_9 ≥ a1 then (corebankref01_QuotientP.l0 kj9 a1 (IntKind.u64.wrap (x7_9 - a1)) (wrap64 (x8_1 + 1)) t294 t295 bt297.1 (IntKind.u64.wrap (bt297.2.1 + 1))) else (corebankref01_QuotientP.l0 kj9 a1 x7_9 (wrap64 (x8_1 + 1)) t294 t295 bt297.1 bt297.2.1))) = some (r1, r2, r3) := H
      have A15 := Aside0.mk A150
      clear A150
      replace H := Option.bind_eq_some_iff.mp H
      obtain ⟨⟨t297, t298, t299⟩, A160, H⟩ := H
      replace H : (if x7_9 ≥ a1 then (corebankref01_QuotientP.l0 kj9 a1 (IntKind.u64.wrap (x7_9 - a1)) (wrap64 (x8_1 + 1)) t294 t295 t297 (IntKind.u64.wrap (t298 + 1))) else (corebankref01_QuotientP.l0 kj9 a1 x7_9 (wrap64 (x8_1 + 1)) t294 t295 t297 t298)) = some (r1, r2, r3) := H
      have A16 := Aside0.mk A160
      clear A160
      by_cases c17 : x7_9 ≥ a1
      ·rw [if_pos c17] at H
       have c17b0 : decide (a1 ≤ x7_9) = true := decide_eq_true c17
       clear c17
       have H' := Aside0.mk H
       clear H
       have hnb18 := NB291_292.out
       have hnc18 := NB292_291.out
       have hnb19 := NB291_293.out
       have hnc19 := NB293_291.out
       obtain ⟨hcz20_0, hcz20_1, hfz20_0, hfz20_1⟩ := cz2_ BK291.out
       go_wp2_with (first | ((with_reducible refine gate_callee (f := 78) rfl ?_); refine goesL_ (some 24) rfl rfl Tryd.func78 (by kernel_rfl) rfl #[.agg #[.int .u64 x292000_1, .int .u64 x292001_1]] rfl ql_ ?_; (with_reducible refine (corebankref01_shifted.calls x292000_1 x292001_1 t294 t295 t296 _ A15.out).mono ?_); rintro e w21 ⟨rfl, hb⟩; refine ⟨_, rfl, ?_⟩; have n0_ := Aside0.mk (blk_below (qk_ BK291.out) hb); have n1_ := Aside0.mk (blk_below (qk_ BK292.out) hb); have n2_ := Aside0.mk (blk_below (qk_ BK293.out) hb); have n3_ := Aside0.mk (below_step (qb3_ GE291.out GE292.out GE293.out HB.out) hb); clear BK291; clear BK292; clear BK293; clear HB; have BK291 := n0_; have BK292 := n1_; have BK293 := n2_; have HB := n3_; clear n0_ n1_ n2_ n3_; (try clear hb); (try clear hb2); (try clear hk); (try clear hi); obtain ⟨hcz22_0, hcz22_1, hfz22_0, hfz22_1⟩ := cz2_ BK291.out; have hnb23 := NB293_292.out; have hnc23 := NB292_293.out; obtain ⟨hcz24_0, hcz24_1, hfz24_0, hfz24_1⟩ := cz2_ BK293.out) | ((with_reducible refine gate_callee (f := 78) rfl ?_); refine goesL_ (some 29) rfl rfl Tryd.func78 (by kernel_rfl) rfl #[.agg #[.int .u64 x294000_1, .int .u64 x294001_1]] rfl ql_ ?_; (with_reducible refine (corebankref01_shifted.calls x294000_1 x294001_1 t297 t298 t299 _ A16.out).mono ?_); rintro e w25 ⟨rfl, hb⟩; refine ⟨_, rfl, ?_⟩; have n0_ := Aside0.mk (blk_below (g := gb291) (o := .cells #[.int .u64 t294, .int .u64 t295] 96 (0, 0)) (qpp_ #[.int .u64 t294, .int .u64 x292001_1] 1 #[.int .u64 x292000_1, .int .u64 x292001_1] 0 BK291.out) hb); have n1_ := Aside0.mk (blk_below (g := gb292) (o := .cells #[.int .u64 0, .int .u64 0] 96 (0, 0)) (qff_ NB292_291.out NB292_291.out BK292.out) hb); have n2_ := Aside0.mk (blk_below (g := gb293) (o := .cells #[.int .u64 x294000_1, .int .u64 x294001_1] 96 (0, 0)) (qff_ NB293_291.out NB293_291.out BK293.out) hb); have n3_ := Aside0.mk (below_step (qb3_ GE291.out GE292.out GE293.out HB.out) hb); clear BK291; clear BK292; clear BK293; clear HB; have BK291 := n0_; have BK292 := n1_; have BK293 := n2_; have HB := n3_; clear n0_ n1_ n2_ n3_; (try clear hb); (try clear hb2); (try clear hk); (try clear hi); obtain ⟨hcz26_0, hcz26_1, hfz26_0, hfz26_1⟩ := cz2_ BK293.out))
       go_roundg kj9
       case measure => have := HK1.out; have := HJ9.out; omega
       case rel => exact ⟨(IntKind.u64.wrap (x7_9 - a1)), (wrap64 (x8_1 + 1)), (t294), (t295), (t297), (IntKind.u64.wrap (t298 + 1)), qs_, qs_, H', ⟨by have := HK1.out; have := HJ9.out; omega⟩, ⟨qfff_ NB291_293.out NB291_293.out NB291_293.out BK291.out⟩, ⟨qfff_ NB292_293.out NB292_293.out NB292_293.out BK292.out⟩, ⟨by (with_reducible repeat (first | refine blk_drewN ?_ _ | refine blk_drew ?_ | refine blk_alloc ?_ _)); refine blk_put (cs := #[.int .u64 t297, .int .u64 t298]) ?_ 1 _ rfl; (with_reducible repeat (first | refine blk_drewN ?_ _ | refine blk_drew ?_ | refine blk_alloc ?_ _)); refine blk_put (cs := #[.int .u64 t297, .int .u64 x294001_1]) ?_ 1 _ rfl; (with_reducible repeat (first | refine blk_drewN ?_ _ | refine blk_drew ?_ | refine blk_alloc ?_ _)); refine blk_put (cs := #[.int .u64 x294000_1, .int .u64 x294001_1]) ?_ 0 _ rfl; (with_reducible repeat (first | refine blk_drewN ?_ _ | refine blk_drew ?_ | refine blk_alloc ?_ _)); exact BK293.out⟩, ⟨qb3_ GE291.out GE292.out GE293.out HB.out⟩⟩
      ·rw [if_neg c17] at H
       have c17b0 : decide (a1 ≤ x7_9) = false := decide_eq_false c17
       clear c17
       have H' := Aside0.mk H
       clear H
       have hnb27 := NB291_292.out
       have hnc27 := NB292_291.out
       have hnb28 := NB291_293.out
       have hnc28 := NB293_291.out
       obtain ⟨hcz29_0, hcz29_1, hfz29_0, hfz29_1⟩ := cz2_ BK291.out
       go_wp2_with (first | ((with_reducible refine gate_callee (f := 78) rfl ?_); refine goesL_ (some 24) rfl rfl Tryd.func78 (by kernel_rfl) rfl #[.agg #[.int .u64 x292000_1, .int .u64 x292001_1]] rfl ql_ ?_; (with_reducible refine (corebankref01_shifted.calls x292000_1 x292001_1 t294 t295 t296 _ A15.out).mono ?_); rintro e w30 ⟨rfl, hb⟩; refine ⟨_, rfl, ?_⟩; have n0_ := Aside0.mk (blk_below (qk_ BK291.out) hb); have n1_ := Aside0.mk (blk_below (qk_ BK292.out) hb); have n2_ := Aside0.mk (blk_below (qk_ BK293.out) hb); have n3_ := Aside0.mk (below_step (qb3_ GE291.out GE292.out GE293.out HB.out) hb); clear BK291; clear BK292; clear BK293; clear HB; have BK291 := n0_; have BK292 := n1_; have BK293 := n2_; have HB := n3_; clear n0_ n1_ n2_ n3_; (try clear hb); (try clear hb2); (try clear hk); (try clear hi); obtain ⟨hcz31_0, hcz31_1, hfz31_0, hfz31_1⟩ := cz2_ BK291.out; have hnb32 := NB293_292.out; have hnc32 := NB292_293.out; obtain ⟨hcz33_0, hcz33_1, hfz33_0, hfz33_1⟩ := cz2_ BK293.out) | ((with_reducible refine gate_callee (f := 78) rfl ?_); refine goesL_ (some 29) rfl rfl Tryd.func78 (by kernel_rfl) rfl #[.agg #[.int .u64 x294000_1, .int .u64 x294001_1]] rfl ql_ ?_; (with_reducible refine (corebankref01_shifted.calls x294000_1 x294001_1 t297 t298 t299 _ A16.out).mono ?_); rintro e w34 ⟨rfl, hb⟩; refine ⟨_, rfl, ?_⟩; have n0_ := Aside0.mk (blk_below (g := gb291) (o := .cells #[.int .u64 t294, .int .u64 t295] 96 (0, 0)) (qpp_ #[.int .u64 t294, .int .u64 x292001_1] 1 #[.int .u64 x292000_1, .int .u64 x292001_1] 0 BK291.out) hb); have n1_ := Aside0.mk (blk_below (g := gb292) (o := .cells #[.int .u64 0, .int .u64 0] 96 (0, 0)) (qff_ NB292_291.out NB292_291.out BK292.out) hb); have n2_ := Aside0.mk (blk_below (g := gb293) (o := .cells #[.int .u64 x294000_1, .int .u64 x294001_1] 96 (0, 0)) (qff_ NB293_291.out NB293_291.out BK293.out) hb); have n3_ := Aside0.mk (below_step (qb3_ GE291.out GE292.out GE293.out HB.out) hb); clear BK291; clear BK292; clear BK293; clear HB; have BK291 := n0_; have BK292 := n1_; have BK293 := n2_; have HB := n3_; clear n0_ n1_ n2_ n3_; (try clear hb); (try clear hb2); (try clear hk); (try clear hi); obtain ⟨hcz35_0, hcz35_1, hfz35_0, hfz35_1⟩ := cz2_ BK293.out))
       go_roundg kj9
       case measure => have := HK1.out; have := HJ9.out; omega
       case rel => exact ⟨(x7_9), (wrap64 (x8_1 + 1)), (t294), (t295), (t297), (t298), qs_, qs_, H', ⟨by have := HK1.out; have := HJ9.out; omega⟩, ⟨qff_ NB291_293.out NB291_293.out BK291.out⟩, ⟨qff_ NB292_293.out NB292_293.out BK292.out⟩, ⟨qpp_ #[.int .u64 t297, .int .u64 x294001_1] 1 #[.int .u64 x294000_1, .int .u64 x294001_1] 0 BK293.out⟩, ⟨qb3_ GE291.out GE292.out GE293.out HB.out⟩⟩
   ·rw [if_neg c9] at H
    have c9b0 : decide (x8_1 < 128) = false := decide_eq_false c9
    clear c9
    simp only [Option.some.injEq, Prod.mk.injEq] at H
    obtain ⟨rfl, rfl, rfl⟩ := H
    have hnb36 := NB293_291.out
    have hnc36 := NB291_293.out
    have hnb37 := NB293_292.out
    have hnc37 := NB292_293.out
    obtain ⟨hcz38_0, hcz38_1, hfz38_0, hfz38_1⟩ := cz2_ BK293.out
    have hnb39 := NB292_291.out
    have hnc39 := NB291_292.out
    obtain ⟨hcz40_0, hcz40_1, hfz40_0, hfz40_1⟩ := cz2_ BK292.out
    go_wp2
    refine bodyPost_ret (results_ct rfl _ _ gb292 96 #[.int .u64 x294000_1, .int .u64 x294001_1] (0, 0) _ rfl (qpp_ #[.int .u64 x294000_1, .int .u64 0] 1 #[.int .u64 0, .int .u64 0] 0 BK292.out) Tryd.underlying96 rfl (by kernel_rfl)) rfl ?_
    exact ⟨qe_, qb3_ GE291.out GE292.out GE293.out HB.out⟩
def corebankref01_Quotient.f (a0_0 a0_1 a1 : Int) : Option (Int × Int × Int) :=
 if (inU a0_0 ∧ inU a0_1) ∧ 1 ≤ a1 ∧ a1 ≤ 9223372036854775807 then
  some (wv a0_0 a0_1 / a1 / 18446744073709551616, wv a0_0 a0_1 / a1 % 18446744073709551616, wv a0_0 a0_1 % a1) else none
theorem quot_loop (y : Int) (y0 : 1 ≤ y) (y1 : y ≤ 9223372036854775807) (n : Nat) :
  ∀ (x T q rest i : Int), 0 ≤ x → x < 340282366920938463463374607431768211456 → 0 ≤ q → 0 ≤ rest → rest < y → T = q * y + rest → T * 2 ^ n + x * 2 ^ n / 340282366920938463463374607431768211456 < 340282366920938463463374607431768211456 → 0 ≤ i → 128 - i = n →
   corebankref01_QuotientP.l0 (2 * n + 1) y rest i (x / 18446744073709551616) (x % 18446744073709551616) (q / 18446744073709551616) (q % 18446744073709551616) =
    some ((T * 2 ^ n + x * 2 ^ n / 340282366920938463463374607431768211456) / y / 18446744073709551616, (T * 2 ^ n + x * 2 ^ n / 340282366920938463463374607431768211456) / y % 18446744073709551616, (T * 2 ^ n + x * 2 ^ n / 340282366920938463463374607431768211456) % y) := by
 induction n with
 | zero =>
  intro x T q rest i x0 x1 q0 r0 r1 hT hF j0 j1
  simp only [Nat.mul_zero, Nat.zero_add, corebankref01_QuotientP.l0]
  rw [if_neg (by omega)]
  have : T * 2 ^ 0 + x * 2 ^ 0 / 340282366920938463463374607431768211456 = T := by rw [Int.pow_zero, Int.mul_one, Int.mul_one, Int.ediv_eq_zero_of_lt x0 x1]; omega
  rw [this]
  obtain ⟨f1, f2⟩ := div_of (by omega) hT r0 r1
  rw [f1, f2]
 | succ n ih =>
  intro x T q rest i x0 x1 q0 r0 r1 hT hF j0 j1
  have p0 : 0 < (2 : Int) ^ n := Int.pow_pos (by decide)
  have hqy : 0 ≤ q * y := Int.mul_nonneg q0 (by omega)
  have T0 : 0 ≤ T := by omega
  have hf : T * 2 ^ (n + 1) = 2 * T * 2 ^ n := by rw [Int.pow_succ]; grind
  have hx : x * 2 ^ (n + 1) = 2 * x * 2 ^ n := by rw [Int.pow_succ]; grind
  rw [hf, hx] at hF
  have hxp : 0 ≤ 2 * x * 2 ^ n := Int.mul_nonneg (by omega) (by omega)
  have hT2 : 2 * T < 340282366920938463463374607431768211456 := by
   have h1 : 2 * T * 1 ≤ 2 * T * 2 ^ n := Int.mul_le_mul_of_nonneg_left (by omega) (by omega)
   omega
  have hq2 : 2 * q ≤ 2 * T := by
   have : q * 1 ≤ q * y := Int.mul_le_mul_of_nonneg_left y0 q0
   omega
  have hwx : wv (x / 18446744073709551616) (x % 18446744073709551616) = x := by unfold wv; omega
  have hwq : wv (q / 18446744073709551616) (q % 18446744073709551616) = q := by unfold wv; omega
  have hbit : (Go.bits .and .u64 (x / 18446744073709551616) 9223372036854775808 = 0) ↔ x < 170141183460469231731687303715884105728 := by
   rw [andTop _ (by omega) (by omega)]; omega
  have hr2 : IntKind.u64.wrap (rest * 2) = rest * 2 := u64_id _ (by omega) (by omega)
  have hr3 : IntKind.u64.wrap (rest * 2 + 1) = rest * 2 + 1 := u64_id _ (by omega) (by omega)
  have hi : wrap64 (i + 1) = i + 1 := i64_id _ (by omega) (by omega)
  -- one round, for each value of the bit
  have round : ∀ bit : Int, (bit = 0 ∧ x < 170141183460469231731687303715884105728 ∨ bit = 1 ∧ ¬ x < 170141183460469231731687303715884105728) →
    corebankref01_QuotientP.j1 (2 * n + 1 + 1) y (rest * 2 + bit) i (x / 18446744073709551616) (x % 18446744073709551616) (q / 18446744073709551616) (q % 18446744073709551616) =
     some ((2 * T * 2 ^ n + 2 * x * 2 ^ n / 340282366920938463463374607431768211456) / y / 18446744073709551616, (2 * T * 2 ^ n + 2 * x * 2 ^ n / 340282366920938463463374607431768211456) / y % 18446744073709551616, (2 * T * 2 ^ n + 2 * x * 2 ^ n / 340282366920938463463374607431768211456) % y) := by
   intro bit hb
   have b01 : 0 ≤ bit ∧ bit ≤ 1 := by omega
   simp only [corebankref01_QuotientP.j1]
   unfold corebankref01_shifted.f
   rw [if_pos ⟨by unfold inU; omega, by unfold inU; omega⟩, if_pos ⟨by unfold inU; omega, by unfold inU; omega⟩, hwx, hwq]
   simp only [Option.bind_some]
   have g : (2 * T + bit) * 2 ^ n + (2 * x - bit * 340282366920938463463374607431768211456) * 2 ^ n / 340282366920938463463374607431768211456 = 2 * T * 2 ^ n + 2 * x * 2 ^ n / 340282366920938463463374607431768211456 := by
    rw [Int.add_mul, Int.sub_mul]
    have : bit * 340282366920938463463374607431768211456 * 2 ^ n = bit * 2 ^ n * 340282366920938463463374607431768211456 := by rw [Int.mul_right_comm]
    rw [this]
    generalize bit * 2 ^ n = p at *
    generalize 2 * x * 2 ^ n = z at *
    omega
   have hxm : 2 * x / 18446744073709551616 % 18446744073709551616 = (2 * x - bit * 340282366920938463463374607431768211456) / 18446744073709551616 := by omega
   have hxl : 2 * x % 18446744073709551616 = (2 * x - bit * 340282366920938463463374607431768211456) % 18446744073709551616 := by omega
   have hqm : 2 * q / 18446744073709551616 % 18446744073709551616 = 2 * q / 18446744073709551616 := by omega
   rw [hxm, hxl, hqm, hi]
   by_cases hc : rest * 2 + bit ≥ y
   ·rw [if_pos hc, u64_id (rest * 2 + bit - y) (by omega) (by omega), u64_id (2 * q % 18446744073709551616 + 1) (by omega) (by omega),
     show 2 * q / 18446744073709551616 = (2 * q + 1) / 18446744073709551616 by omega, show 2 * q % 18446744073709551616 + 1 = (2 * q + 1) % 18446744073709551616 by omega,
     ih (2 * x - bit * 340282366920938463463374607431768211456) (2 * T + bit) (2 * q + 1) (rest * 2 + bit - y) (i + 1) (by omega) (by omega) (by omega) (by omega) (by omega)
      (by rw [hT, Int.add_mul, Int.one_mul, Int.mul_assoc]; omega) (by rw [g]; exact hF) (by omega) (by omega), g]
   ·rw [if_neg hc, ih (2 * x - bit * 340282366920938463463374607431768211456) (2 * T + bit) (2 * q) (rest * 2 + bit) (i + 1) (by omega) (by omega) (by omega) (by omega) (by omega)
      (by rw [hT, Int.mul_assoc]; omega) (by rw [g]; exact hF) (by omega) (by omega), g]
  rw [show 2 * (n + 1) + 1 = (2 * n + 1 + 1) + 1 by omega, corebankref01_QuotientP.l0, if_pos (by omega), hf, hx, hr2, hr3]
  by_cases hb : x < 170141183460469231731687303715884105728
  ·rw [if_pos (hbit.2 hb)]
   have := round 0 (.inl ⟨rfl, hb⟩)
   rwa [Int.add_zero] at this
  ·rw [if_neg (fun hc => hb (hbit.1 hc))]
   exact round 1 (.inr ⟨rfl, hb⟩)
theorem corebankref01_Quotient.eq {a b c : Int} {r : Int × Int × Int} (h : corebankref01_Quotient.f a b c = some r) : ∃ k, corebankref01_QuotientP.f k a b c = some r := by
 unfold corebankref01_Quotient.f at h
 split at h
 ·rename_i q
  obtain ⟨⟨⟨a0, a1⟩, b0, b1⟩, c0, c1⟩ := q
  injection h with h
  subst h
  refine ⟨2 * 128 + 1, ?_⟩
  unfold corebankref01_QuotientP.f
  have hv : wv a b = a * 18446744073709551616 + b := rfl
  have hF : 0 * 2 ^ 128 + wv a b * 2 ^ 128 / 340282366920938463463374607431768211456 = wv a b := by
   rw [show (340282366920938463463374607431768211456 : Int) = 2 ^ 128 by decide, Int.mul_ediv_cancel _ (by decide)]; omega
  have := quot_loop c c0 c1 128 (wv a b) 0 0 0 0 (by omega) (by omega) (by omega) (by omega) (by omega) (by omega) (by rw [hF]; omega) (by omega) (by omega)
  rw [hF, show wv a b / 18446744073709551616 = a by omega, show wv a b % 18446744073709551616 = b by omega] at this
  exact this
 ·cases h
theorem corebankref01_Quotient.calls (a0_0 a0_1 a1 r1 r2 r3 : Int) (w : World) (h : corebankref01_Quotient.f a0_0 a0_1 a1 = some (r1, r2, r3)) :
  Calls Tryd.prog 71 #[.agg #[.int .u64 a0_0, .int .u64 a0_1], .int .u64 a1] w fun e w' => e = .returned (.tuple #[.agg #[.int .u64 r1, .int .u64 r2], .int .u64 r3]) ∧ Below w.heap.size w w' := by
 obtain ⟨k, h⟩ := corebankref01_Quotient.eq h
 exact corebankref01_QuotientP.calls k a0_0 a0_1 a1 r1 r2 r3 w h
end Go.Proofs.YtjkjiibhdpcpkaaDoor.PS
