import Derived.Test.YtjkjiibhdpcpkaaDoorQRm2
import Derived.Test.YtjkjiibhdpcpkaaDoorQRm8
section
namespace Go.Proofs.YtjkjiibhdpcpkaaDoor.PS
open Go.RowKit Go.Proofs.YtjkjiibhdpcpkaaDoorW.PrintWords Go.Proofs.YtjkjiibhdpcpkaaDoorW.PrintLast
set_option linter.unusedVariables false
set_option linter.unusedSimpArgs false
mutual
def corebankref01_QuotientP.l0 : Nat → Int → Int → Int → Int → Int → Int → Int → Option (Int × Int × Int)
 | 0, _, _, _, _, _, _, _ => none
 | k + 1, x1, x7, x8, x292000, x292001, x294000, x294001 => if x8 < 128 then (if (Go.bits .and .u64 x292000 9223372036854775808) = 0 then (corebankref01_QuotientP.j1 k x1 (IntKind.u64.wrap (x7 * 2)) x8 x292000 x292001 x294000 x294001) else (corebankref01_QuotientP.j1 k x1 (IntKind.u64.wrap ((IntKind.u64.wrap (x7 * 2)) + 1)) x8 x292000 x292001 x294000 x294001)) else (some (x294000, x294001, x7))
def corebankref01_QuotientP.j1 : Nat → Int → Int → Int → Int → Int → Int → Int → Option (Int × Int × Int)
 | 0, _, _, _, _, _, _, _ => none
 | k + 1, x1, x7, x8, x292000, x292001, x294000, x294001 => (corebankref01_shifted.f x292000 x292001).bind fun bt294 => ((corebankref01_shifted.f x294000 x294001).bind fun bt297 => (if x7 ≥ x1 then (corebankref01_QuotientP.l0 k x1 (IntKind.u64.wrap (x7 - x1)) (wrap64 (x8 + 1)) bt294.1 bt294.2.1 bt297.1 (IntKind.u64.wrap (bt297.2.1 + 1))) else (corebankref01_QuotientP.l0 k x1 x7 (wrap64 (x8 + 1)) bt294.1 bt294.2.1 bt297.1 bt297.2.1)))
end
def corebankref01_QuotientP.f (k : Nat) (a0_0 a0_1 a1 : Int) : Option (Int × Int × Int) := corebankref01_QuotientP.l0 k a1 0 0 a0_0 a0_1 0 0
set_option maxHeartbeats 8000000 in
set_option maxRecDepth 100000 in
theorem corebankref01_QuotientP.calls (k : Nat) (a0_0 a0_1 a1 r1 r2 r3 : Int) (w : World) (h : corebankref01_QuotientP.f k a0_0 a0_1 a1 = some (r1, r2, r3)) :
  Calls Tryd.prog 71 #[.agg #[.int .u64 a0_0, .int .u64 a0_1], .int .u64 a1] w fun e w' => e = .returned (.tuple #[.agg #[.int .u64 r1, .int .u64 r2], .int .u64 r3]) ∧ Below w.heap.size w w' := by
 have hu96 := Tryd.underlying96
 have HB := Aside0.mk (Below.refl w.heap.size w)
 have H : (corebankref01_QuotientP.l0 k a1 0 0 a0_0 a0_1 0 0) = some (r1, r2, r3) := h
 clear h
 have H' := Aside0.mk H
 clear H
 go_enter Tryd.func71, Tryd.ntmps71
 go_wp2_with (first | ((with_reducible refine gate_dst (N := 2) rfl ?_); refine be_ (N := 2) (cs := #[.int .u64 a0_0, .int .u64 a0_1]) (t := 96) ?_; intro gb291 hg w3 hbox hb; have n0_ := Aside0.mk (below_step (qb_ HB.out) hb); have n1_ := Aside0.mk (hbox); have n2_ := Aside0.mk (bz_ hg (qb_ HB.out) : w.heap.size ≤ gb291); have n3_ := n2_; clear HB; have HB := n0_; have BK291 := n1_; have GW291 := n2_; have GE291 := n3_; clear n0_ n1_ n2_ n3_; clear hb hbox hg) | ((with_reducible refine gate_dst (N := 4) rfl ?_); refine be_ (N := 4) (cs := #[.int .u64 0, .int .u64 0]) (t := 96) ?_; intro gb292 hg w4 hbox hb; have n0_ := Aside0.mk (blk_below (qk_ BK291.out) hb); have n1_ := Aside0.mk (below_step (qb1_ GE291.out HB.out) hb); have n2_ := Aside0.mk (hbox); have n3_ := Aside0.mk (bz_ hg (qb1_ GE291.out HB.out) : w.heap.size ≤ gb292); have n4_ := n3_; have n5_ := Aside0.mk (nl_ hg (qk_ BK291.out) : gb291 ≠ gb292); have n6_ := Aside0.mk (ng_ hg (qk_ BK291.out) : gb292 ≠ gb291); clear BK291; clear HB; have BK291 := n0_; have HB := n1_; have BK292 := n2_; have GW292 := n3_; have GE292 := n4_; have NB291_292 := n5_; have NB292_291 := n6_; clear n0_ n1_ n2_ n3_ n4_ n5_ n6_; clear hb hbox hg) | ((with_reducible refine gate_dst (N := 6) rfl ?_); refine be_ (N := 6) (cs := #[.int .u64 0, .int .u64 0]) (t := 96) ?_; intro gb293 hg w5 hbox hb; have n0_ := Aside0.mk (blk_below (qk_ BK291.out) hb); have n1_ := Aside0.mk (blk_below (qk_ BK292.out) hb); have n2_ := Aside0.mk (below_step (qb2_ GE291.out GE292.out HB.out) hb); have n3_ := Aside0.mk (hbox); have n4_ := Aside0.mk (bz_ hg (qb2_ GE291.out GE292.out HB.out) : w.heap.size ≤ gb293); have n5_ := n4_; have n6_ := Aside0.mk (nl_ hg (qk_ BK291.out) : gb291 ≠ gb293); have n7_ := Aside0.mk (ng_ hg (qk_ BK291.out) : gb293 ≠ gb291); have n8_ := Aside0.mk (nl_ hg (qk_ BK292.out) : gb292 ≠ gb293); have n9_ := Aside0.mk (ng_ hg (qk_ BK292.out) : gb293 ≠ gb292); clear BK291; clear BK292; clear HB; have BK291 := n0_; have BK292 := n1_; have HB := n2_; have BK293 := n3_; have GW293 := n4_; have GE293 := n5_; have NB291_293 := n6_; have NB293_291 := n7_; have NB292_293 := n8_; have NB293_292 := n9_; clear n0_ n1_ n2_ n3_ n4_ n5_ n6_ n7_ n8_ n9_; clear hb hbox hg; have hnb6 := NB293_291.out; have hnc6 := NB291_293.out; have hnb7 := NB293_292.out; have hnc7 := NB292_293.out; obtain ⟨Z8_0, Z8_1, Y8_0, Y8_1⟩ := cz2_ BK293.out))
 go_loopg [7, 8] k (fun kq v7 v8 w' => ∃ (x7_1 x8_1 x292000_1 x292001_1 x294000_1 x294001_1 : Int), v7 = .int .u64 x7_1 ∧ v8 = .int .i64 x8_1 ∧ Aside0 (corebankref01_QuotientP.l0 kq a1 x7_1 x8_1 x292000_1 x292001_1 x294000_1 x294001_1 = some (r1, r2, r3)) ∧ Aside0 (kq ≤ k) ∧ Aside0 (w'.heap[gb291]? = some (.cells #[.int .u64 x292000_1, .int .u64 x292001_1] 96 (0, 0))) ∧ Aside0 (w'.heap[gb292]? = some (.cells #[.int .u64 0, .int .u64 0] 96 (0, 0))) ∧ Aside0 (w'.heap[gb293]? = some (.cells #[.int .u64 x294000_1, .int .u64 x294001_1] 96 (0, 0))) ∧ Aside0 (Below w.heap.size w w'))
 case atStart => exact ⟨(0), (0), (a0_0), (a0_1), (0), (0), qs_, qs_, H', ⟨Nat.le_refl _⟩, ⟨qff_ NB291_293.out NB291_293.out BK291.out⟩, ⟨qff_ NB292_293.out NB292_293.out BK292.out⟩, ⟨qpp_ #[.int .u64 0, .int .u64 0] 1 #[.int .u64 0, .int .u64 0] 0 BK293.out⟩, ⟨qb3_ GE291.out GE292.out GE293.out HB.out⟩⟩
 case round =>
  clear H'
  try clear p2
  try clear c6
  try clear c7
  (try clear Z8_0 Z8_1 Y8_0 Y8_1)
  obtain ⟨x7_1, x8_1, x292000_1, x292001_1, x294000_1, x294001_1, rfl, rfl, HA, HK1, BK291, BK292, BK293, HB⟩ := hrel
  cases gk with
  | zero => exact absurd HA.out (by simp [corebankref01_QuotientP.l0])
  | succ k1 =>
   have H := HA.out
   clear HA
   simp only [corebankref01_QuotientP.l0] at H
   by_cases c9 : x8_1 < 128
   ·rw [if_pos c9] at H
    have c9b0 : decide (x8_1 < 128) = true := decide_eq_true c9
    clear c9
    have HC10 := Aside0.mk H
    clear H
    have hnb11 := NB291_292.out
    have hnc11 := NB292_291.out
    have hnb12 := NB291_293.out
    have hnc12 := NB293_291.out
    obtain ⟨Z13_0, Z13_1, Y13_0, Y13_1⟩ := cz2_ BK291.out
    go_upto_if 19 with (fail)
    go_cut [7] (fun v7 wc => ∃ (kq : Nat) (x7_9 : Int), v7 = .int .u64 x7_9 ∧ Aside0 (corebankref01_QuotientP.j1 kq a1 x7_9 x8_1 x292000_1 x292001_1 x294000_1 x294001_1 = some (r1, r2, r3)) ∧ Aside0 (kq ≤ k1) ∧ Aside0 (wc.heap[gb291]? = some (.cells #[.int .u64 x292000_1, .int .u64 x292001_1] 96 (0, 0))) ∧ Aside0 (wc.heap[gb292]? = some (.cells #[.int .u64 0, .int .u64 0] 96 (0, 0))) ∧ Aside0 (wc.heap[gb293]? = some (.cells #[.int .u64 x294000_1, .int .u64 x294001_1] 96 (0, 0))) ∧ Aside0 (Below w.heap.size w wc))
    case first =>
     have H := HC10.out
     clear HC10
     by_cases c14 : (Go.bits .and .u64 x292000_1 9223372036854775808) = 0
     ·rw [if_pos c14] at H
      have c14b0 : ((Go.bits .and .u64 x292000_1 9223372036854775808) == 0) = true := beq_iff_eq.mpr c14
      have c14b1 : ((Go.bits .and .u64 x292000_1 9223372036854775808) != 0) = false := bne_eq_false_iff_eq.mpr c14
      clear c14
      (first | rw [c14b0] | (simp only [i64_w, i32_w]; rw [c14b0]) | skip)
      have H' := Aside0.mk H
      clear H
      go_wp2
      go_meet
      case rel => exact ⟨_, (IntKind.u64.wrap (x7_1 * 2)), qs_, H', ⟨by have := HK1.out; first | omega | exact Nat.le_refl _⟩, ⟨qk_ BK291.out⟩, ⟨qk_ BK292.out⟩, ⟨qk_ BK293.out⟩, ⟨qb3_ GE291.out GE292.out GE293.out HB.out⟩⟩
     ·rw [if_neg c14] at H
      have c14b0 : ((Go.bits .and .u64 x292000_1 9223372036854775808) == 0) = false := beq_eq_false_iff_ne.mpr c14
      have c14b1 : ((Go.bits .and .u64 x292000_1 9223372036854775808) != 0) = true := bne_iff_ne.mpr c14
      (first | rw [c14b0] | (simp only [i64_w, i32_w]; rw [c14b0]) | skip)
      have H' := Aside0.mk H
      clear H
      go_wp2
      go_meet
      case rel => exact ⟨_, (IntKind.u64.wrap ((IntKind.u64.wrap (x7_1 * 2)) + 1)), qs_, H', ⟨by have := HK1.out; first | omega | exact Nat.le_refl _⟩, ⟨qk_ BK291.out⟩, ⟨qk_ BK292.out⟩, ⟨qk_ BK293.out⟩, ⟨qb3_ GE291.out GE292.out GE293.out HB.out⟩⟩
    case rest =>
     clear HC10
     try clear c1
     try clear p2
     try clear c6
     try clear c7
     try clear c9
     try clear c9b0
     try clear c11
     try clear c12
     try clear c14
     try clear c14b0
     try clear c14b1
     (try clear Z13_0 Z13_1 Y13_0 Y13_1)
     (try clear Z8_0 Z8_1 Y8_0 Y8_1)
     try clear p2
     obtain ⟨kq, x7_9, rfl, HA, HJ9, BK291, BK292, BK293, HB⟩ := hcut
     cases kq with
     | zero => exact absurd HA.out (by simp [corebankref01_QuotientP.j1])
     | succ kj9 =>
      have H := HA.out
      clear HA
      simp only [corebankref01_QuotientP.j1] at H
      replace H := Option.bind_eq_some_iff.mp H
      obtain ⟨⟨t294, t295, t296⟩, A150, H⟩ := H
      replace H : ((corebankref01_shifted.f x294000_1 x294001_1).bind fun bt297 => (if x7_9 ≥ a1 then (corebankref01_QuotientP.l0 kj9 a1 (IntKind.u64.wrap (x7_9 - a1)) (wrap64 (x8_1 + 1)) t294 t295 bt297.1 (IntKind.u64.wrap (bt297.2.1 + 1))) else (corebankref01_QuotientP.l0 kj9 a1 x7_9 (wrap64 (x8_1 + 1)) t294 t295 bt297.1 bt297.2.1))) = some (r1, r2, r3) := H
      have A15 := Aside0.mk A150
      clear A150
      replace H := Option.bind_eq_some_iff.mp H
      obtain ⟨⟨t297, t298, t299⟩, A160, H⟩ := H
      replace H : (if x7_9 ≥ a1 then (corebankref01_QuotientP.l0 kj9 a1 (IntKind.u64.wrap (x7_9 - a1)) (wrap64 (x8_1 + 1)) t294 t295 t297 (IntKind.u64.wrap (t298 + 1))) else (corebankref01_QuotientP.l0 kj9 a1 x7_9 (wrap64 (x8_1 + 1)) t294 t295 t297 t298)) = some (r1, r2, r3) := H
      have A16 := Aside0.mk A160
      clear A160
      by_cases c17 : x7_9 ≥ a1
      ·rw [if_pos c17] at H
       have c17b0 : decide (a1 ≤ x7_9) = true := decide_eq_true c17
       clear c17
       have H' := Aside0.mk H
       clear H
       have hnb18 := NB291_292.out
       have hnc18 := NB292_291.out
       have hnb19 := NB291_293.out
       have hnc19 := NB293_291.out
       obtain ⟨Z20_0, Z20_1, Y20_0, Y20_1⟩ := cz2_ BK291.out
       go_wp2_with (first | ((with_reducible refine gate_callee (f := 78) rfl ?_); refine goesL_ (some 24) rfl rfl Tryd.func78 (by kernel_rfl) rfl #[.agg #[.int .u64 x292000_1, .int .u64 x292001_1]] rfl ql_ ?_; (with_reducible refine (corebankref01_shifted.calls x292000_1 x292001_1 t294 t295 t296 _ A15.out).mono ?_); rintro e w21 ⟨rfl, hb⟩; refine ⟨_, rfl, ?_⟩; have n0_ := Aside0.mk (blk_below (qk_ BK291.out) hb); have n1_ := Aside0.mk (blk_below (qk_ BK292.out) hb); have n2_ := Aside0.mk (blk_below (qk_ BK293.out) hb); have n3_ := Aside0.mk (below_step (qb3_ GE291.out GE292.out GE293.out HB.out) hb); clear BK291; clear BK292; clear BK293; clear HB; have BK291 := n0_; have BK292 := n1_; have BK293 := n2_; have HB := n3_; clear n0_ n1_ n2_ n3_; (try clear hb); (try clear hb2); (try clear hk); (try clear hi); obtain ⟨Z22_0, Z22_1, Y22_0, Y22_1⟩ := cz2_ BK291.out; have hnb23 := NB293_292.out; have hnc23 := NB292_293.out; obtain ⟨Z24_0, Z24_1, Y24_0, Y24_1⟩ := cz2_ BK293.out) | ((with_reducible refine gate_callee (f := 78) rfl ?_); refine goesL_ (some 29) rfl rfl Tryd.func78 (by kernel_rfl) rfl #[.agg #[.int .u64 x294000_1, .int .u64 x294001_1]] rfl ql_ ?_; (with_reducible refine (corebankref01_shifted.calls x294000_1 x294001_1 t297 t298 t299 _ A16.out).mono ?_); rintro e w25 ⟨rfl, hb⟩; refine ⟨_, rfl, ?_⟩; have n0_ := Aside0.mk (blk_below (g := gb291) (o := .cells #[.int .u64 t294, .int .u64 t295] 96 (0, 0)) (qpp_ #[.int .u64 t294, .int .u64 x292001_1] 1 #[.int .u64 x292000_1, .int .u64 x292001_1] 0 BK291.out) hb); have n1_ := Aside0.mk (blk_below (g := gb292) (o := .cells #[.int .u64 0, .int .u64 0] 96 (0, 0)) (qff_ NB292_291.out NB292_291.out BK292.out) hb); have n2_ := Aside0.mk (blk_below (g := gb293) (o := .cells #[.int .u64 x294000_1, .int .u64 x294001_1] 96 (0, 0)) (qff_ NB293_291.out NB293_291.out BK293.out) hb); have n3_ := Aside0.mk (below_step (qb3_ GE291.out GE292.out GE293.out HB.out) hb); clear BK291; clear BK292; clear BK293; clear HB; have BK291 := n0_; have BK292 := n1_; have BK293 := n2_; have HB := n3_; clear n0_ n1_ n2_ n3_; (try clear hb); (try clear hb2); (try clear hk); (try clear hi); obtain ⟨Z26_0, Z26_1, Y26_0, Y26_1⟩ := cz2_ BK293.out))
       go_roundg kj9
       case measure => have := HK1.out; have := HJ9.out; omega
       case rel => exact ⟨(IntKind.u64.wrap (x7_9 - a1)), (wrap64 (x8_1 + 1)), (t294), (t295), (t297), (IntKind.u64.wrap (t298 + 1)), qs_, qs_, H', ⟨by have := HK1.out; have := HJ9.out; omega⟩, ⟨qfff_ NB291_293.out NB291_293.out NB291_293.out BK291.out⟩, ⟨qfff_ NB292_293.out NB292_293.out NB292_293.out BK292.out⟩, ⟨by (with_reducible repeat (first | refine blk_drewN ?_ _ | refine blk_drew ?_ | refine blk_alloc ?_ _)); refine blk_put (cs := #[.int .u64 t297, .int .u64 t298]) ?_ 1 _ rfl; (with_reducible repeat (first | refine blk_drewN ?_ _ | refine blk_drew ?_ | refine blk_alloc ?_ _)); refine blk_put (cs := #[.int .u64 t297, .int .u64 x294001_1]) ?_ 1 _ rfl; (with_reducible repeat (first | refine blk_drewN ?_ _ | refine blk_drew ?_ | refine blk_alloc ?_ _)); refine blk_put (cs := #[.int .u64 x294000_1, .int .u64 x294001_1]) ?_ 0 _ rfl; (with_reducible repeat (first | refine blk_drewN ?_ _ | refine blk_drew ?_ | refine blk_alloc ?_ _)); exact BK293.out⟩, ⟨qb3_ GE291.out GE292.out GE293.out HB.out⟩⟩
      ·rw [if_neg c17] at H
       have c17b0 : decide (a1 ≤ x7_9) = false := decide_eq_false c17
       clear c17
       have H' := Aside0.mk H
       clear H
       have hnb27 := NB291_292.out
       have hnc27 := NB292_291.out
       have hnb28 := NB291_293.out
       have hnc28 := NB293_291.out
       obtain ⟨Z29_0, Z29_1, Y29_0, Y29_1⟩ := cz2_ BK291.out
       go_wp2_with (first | ((with_reducible refine gate_callee (f := 78) rfl ?_); refine goesL_ (some 24) rfl rfl Tryd.func78 (by kernel_rfl) rfl #[.agg #[.int .u64 x292000_1, .int .u64 x292001_1]] rfl ql_ ?_; (with_reducible refine (corebankref01_shifted.calls x292000_1 x292001_1 t294 t295 t296 _ A15.out).mono ?_); rintro e w30 ⟨rfl, hb⟩; refine ⟨_, rfl, ?_⟩; have n0_ := Aside0.mk (blk_below (qk_ BK291.out) hb); have n1_ := Aside0.mk (blk_below (qk_ BK292.out) hb); have n2_ := Aside0.mk (blk_below (qk_ BK293.out) hb); have n3_ := Aside0.mk (below_step (qb3_ GE291.out GE292.out GE293.out HB.out) hb); clear BK291; clear BK292; clear BK293; clear HB; have BK291 := n0_; have BK292 := n1_; have BK293 := n2_; have HB := n3_; clear n0_ n1_ n2_ n3_; (try clear hb); (try clear hb2); (try clear hk); (try clear hi); obtain ⟨Z31_0, Z31_1, Y31_0, Y31_1⟩ := cz2_ BK291.out; have hnb32 := NB293_292.out; have hnc32 := NB292_293.out; obtain ⟨Z33_0, Z33_1, Y33_0, Y33_1⟩ := cz2_ BK293.out) | ((with_reducible refine gate_callee (f := 78) rfl ?_); refine goesL_ (some 29) rfl rfl Tryd.func78 (by kernel_rfl) rfl #[.agg #[.int .u64 x294000_1, .int .u64 x294001_1]] rfl ql_ ?_; (with_reducible refine (corebankref01_shifted.calls x294000_1 x294001_1 t297 t298 t299 _ A16.out).mono ?_); rintro e w34 ⟨rfl, hb⟩; refine ⟨_, rfl, ?_⟩; have n0_ := Aside0.mk (blk_below (g := gb291) (o := .cells #[.int .u64 t294, .int .u64 t295] 96 (0, 0)) (qpp_ #[.int .u64 t294, .int .u64 x292001_1] 1 #[.int .u64 x292000_1, .int .u64 x292001_1] 0 BK291.out) hb); have n1_ := Aside0.mk (blk_below (g := gb292) (o := .cells #[.int .u64 0, .int .u64 0] 96 (0, 0)) (qff_ NB292_291.out NB292_291.out BK292.out) hb); have n2_ := Aside0.mk (blk_below (g := gb293) (o := .cells #[.int .u64 x294000_1, .int .u64 x294001_1] 96 (0, 0)) (qff_ NB293_291.out NB293_291.out BK293.out) hb); have n3_ := Aside0.mk (below_step (qb3_ GE291.out GE292.out GE293.out HB.out) hb); clear BK291; clear BK292; clear BK293; clear HB; have BK291 := n0_; have BK292 := n1_; have BK293 := n2_; have HB := n3_; clear n0_ n1_ n2_ n3_; (try clear hb); (try clear hb2); (try clear hk); (try clear hi); obtain ⟨Z35_0, Z35_1, Y35_0, Y35_1⟩ := cz2_ BK293.out))
       go_roundg kj9
       case measure => have := HK1.out; have := HJ9.out; omega
       case rel => exact ⟨(x7_9), (wrap64 (x8_1 + 1)), (t294), (t295), (t297), (t298), qs_, qs_, H', ⟨by have := HK1.out; have := HJ9.out; omega⟩, ⟨qff_ NB291_293.out NB291_293.out BK291.out⟩, ⟨qff_ NB292_293.out NB292_293.out BK292.out⟩, ⟨qpp_ #[.int .u64 t297, .int .u64 x294001_1] 1 #[.int .u64 x294000_1, .int .u64 x294001_1] 0 BK293.out⟩, ⟨qb3_ GE291.out GE292.out GE293.out HB.out⟩⟩
   ·rw [if_neg c9] at H
    have c9b0 : decide (x8_1 < 128) = false := decide_eq_false c9
    clear c9
    simp only [Option.some.injEq, Prod.mk.injEq] at H
    obtain ⟨rfl, rfl, rfl⟩ := H
    have hnb36 := NB293_291.out
    have hnc36 := NB291_293.out
    have hnb37 := NB293_292.out
    have hnc37 := NB292_293.out
    obtain ⟨Z38_0, Z38_1, Y38_0, Y38_1⟩ := cz2_ BK293.out
    have hnb39 := NB292_291.out
    have hnc39 := NB291_292.out
    obtain ⟨Z40_0, Z40_1, Y40_0, Y40_1⟩ := cz2_ BK292.out
    go_wp2
    refine bodyPost_ret (results_ct rfl _ _ gb292 96 #[.int .u64 x294000_1, .int .u64 x294001_1] (0, 0) _ rfl (qpp_ #[.int .u64 x294000_1, .int .u64 0] 1 #[.int .u64 0, .int .u64 0] 0 BK292.out) Tryd.underlying96 rfl (by kernel_rfl)) rfl ?_
    exact ⟨qe_, qb3_ GE291.out GE292.out GE293.out HB.out⟩
def corebankref01_Quotient.f (a0_0 a0_1 a1 : Int) : Option (Int × Int × Int) :=
 if (inU a0_0 ∧ inU a0_1) ∧ 1 ≤ a1 ∧ a1 ≤ 9223372036854775807 then
  some (wv a0_0 a0_1 / a1 / 18446744073709551616, wv a0_0 a0_1 / a1 % 18446744073709551616, wv a0_0 a0_1 % a1) else none
theorem quot_loop (y : Int) (y0 : 1 ≤ y) (y1 : y ≤ 9223372036854775807) (n : Nat) :
  ∀ (x T q rest i : Int), 0 ≤ x → x < 340282366920938463463374607431768211456 → 0 ≤ q → 0 ≤ rest → rest < y → T = q * y + rest → T * 2 ^ n + x * 2 ^ n / 340282366920938463463374607431768211456 < 340282366920938463463374607431768211456 → 0 ≤ i → 128 - i = n →
   corebankref01_QuotientP.l0 (2 * n + 1) y rest i (x / 18446744073709551616) (x % 18446744073709551616) (q / 18446744073709551616) (q % 18446744073709551616) =
    some ((T * 2 ^ n + x * 2 ^ n / 340282366920938463463374607431768211456) / y / 18446744073709551616, (T * 2 ^ n + x * 2 ^ n / 340282366920938463463374607431768211456) / y % 18446744073709551616, (T * 2 ^ n + x * 2 ^ n / 340282366920938463463374607431768211456) % y) := by
 induction n with
 | zero =>
  intro x T q rest i x0 x1 q0 r0 r1 hT hF j0 j1
  simp only [Nat.mul_zero, Nat.zero_add, corebankref01_QuotientP.l0]
  rw [if_neg (by omega)]
  have : T * 2 ^ 0 + x * 2 ^ 0 / 340282366920938463463374607431768211456 = T := by rw [Int.pow_zero, Int.mul_one, Int.mul_one, Int.ediv_eq_zero_of_lt x0 x1]; omega
  rw [this]
  obtain ⟨f1, f2⟩ := div_of (by omega) hT r0 r1
  rw [f1, f2]
 | succ n ih =>
  intro x T q rest i x0 x1 q0 r0 r1 hT hF j0 j1
  have p0 : 0 < (2 : Int) ^ n := Int.pow_pos (by decide)
  have hqy : 0 ≤ q * y := Int.mul_nonneg q0 (by omega)
  have T0 : 0 ≤ T := by omega
  have hf : T * 2 ^ (n + 1) = 2 * T * 2 ^ n := by rw [Int.pow_succ]; grind
  have hx : x * 2 ^ (n + 1) = 2 * x * 2 ^ n := by rw [Int.pow_succ]; grind
  rw [hf, hx] at hF
  have hxp : 0 ≤ 2 * x * 2 ^ n := Int.mul_nonneg (by omega) (by omega)
  have hT2 : 2 * T < 340282366920938463463374607431768211456 := by
   have h1 : 2 * T * 1 ≤ 2 * T * 2 ^ n := Int.mul_le_mul_of_nonneg_left (by omega) (by omega)
   omega
  have hq2 : 2 * q ≤ 2 * T := by
   have : q * 1 ≤ q * y := Int.mul_le_mul_of_nonneg_left y0 q0
   omega
  have hwx : wv (x / 18446744073709551616) (x % 18446744073709551616) = x := by unfold wv; omega
  have hwq : wv (q / 18446744073709551616) (q % 18446744073709551616) = q := by unfold wv; omega
  have hbit : (Go.bits .and .u64 (x / 18446744073709551616) 9223372036854775808 = 0) ↔ x < 170141183460469231731687303715884105728 := by
   rw [andTop _ (by omega) (by omega)]; omega
  have hr2 : IntKind.u64.wrap (rest * 2) = rest * 2 := u64_id _ (by omega) (by omega)
  have hr3 : IntKind.u64.wrap (rest * 2 + 1) = rest * 2 + 1 := u64_id _ (by omega) (by omega)
  have hi : wrap64 (i + 1) = i + 1 := i64_id _ (by omega) (by omega)
  -- one round, for each value of the bit
  have round : ∀ bit : Int, (bit = 0 ∧ x < 170141183460469231731687303715884105728 ∨ bit = 1 ∧ ¬ x < 170141183460469231731687303715884105728) →
    corebankref01_QuotientP.j1 (2 * n + 1 + 1) y (rest * 2 + bit) i (x / 18446744073709551616) (x % 18446744073709551616) (q / 18446744073709551616) (q % 18446744073709551616) =
     some ((2 * T * 2 ^ n + 2 * x * 2 ^ n / 340282366920938463463374607431768211456) / y / 18446744073709551616, (2 * T * 2 ^ n + 2 * x * 2 ^ n / 340282366920938463463374607431768211456) / y % 18446744073709551616, (2 * T * 2 ^ n + 2 * x * 2 ^ n / 340282366920938463463374607431768211456) % y) := by
   intro bit hb
   have b01 : 0 ≤ bit ∧ bit ≤ 1 := by omega
   simp only [corebankref01_QuotientP.j1]
   unfold corebankref01_shifted.f
   rw [if_pos ⟨by unfold inU; omega, by unfold inU; omega⟩, if_pos ⟨by unfold inU; omega, by unfold inU; omega⟩, hwx, hwq]
   simp only [Option.bind_some]
   have g : (2 * T + bit) * 2 ^ n + (2 * x - bit * 340282366920938463463374607431768211456) * 2 ^ n / 340282366920938463463374607431768211456 = 2 * T * 2 ^ n + 2 * x * 2 ^ n / 340282366920938463463374607431768211456 := by
    rw [Int.add_mul, Int.sub_mul]
    have : bit * 340282366920938463463374607431768211456 * 2 ^ n = bit * 2 ^ n * 340282366920938463463374607431768211456 := by rw [Int.mul_right_comm]
    rw [this]
    generalize bit * 2 ^ n = p at *
    generalize 2 * x * 2 ^ n = z at *
    omega
   have hxm : 2 * x / 18446744073709551616 % 18446744073709551616 = (2 * x - bit * 340282366920938463463374607431768211456) / 18446744073709551616 := by omega
   have hxl : 2 * x % 18446744073709551616 = (2 * x - bit * 340282366920938463463374607431768211456) % 18446744073709551616 := by omega
   have hqm : 2 * q / 18446744073709551616 % 18446744073709551616 = 2 * q / 18446744073709551616 := by omega
   rw [hxm, hxl, hqm, hi]
   by_cases hc : rest * 2 + bit ≥ y
   ·rw [if_pos hc, u64_id (rest * 2 + bit - y) (by omega) (by omega), u64_id (2 * q % 18446744073709551616 + 1) (by omega) (by omega),
     show 2 * q / 18446744073709551616 = (2 * q + 1) / 18446744073709551616 by omega, show 2 * q % 18446744073709551616 + 1 = (2 * q + 1) % 18446744073709551616 by omega,
     ih (2 * x - bit * 340282366920938463463374607431768211456) (2 * T + bit) (2 * q + 1) (rest * 2 + bit - y) (i + 1) (by omega) (by omega) (by omega) (by omega) (by omega)
      (by rw [hT, Int.add_mul, Int.one_mul, Int.mul_assoc]; omega) (by rw [g]; exact hF) (by omega) (by omega), g]
   ·rw [if_neg hc, ih (2 * x - bit * 340282366920938463463374607431768211456) (2 * T + bit) (2 * q) (rest * 2 + bit) (i + 1) (by omega) (by omega) (by omega) (by omega) (by omega)
      (by rw [hT, Int.mul_assoc]; omega) (by rw [g]; exact hF) (by omega) (by omega), g]
  rw [show 2 * (n + 1) + 1 = (2 * n + 1 + 1) + 1 by omega, corebankref01_QuotientP.l0, if_pos (by omega), hf, hx, hr2, hr3]
  by_cases hb : x < 170141183460469231731687303715884105728
  ·rw [if_pos (hbit.2 hb)]
   have := round 0 (.inl ⟨rfl, hb⟩)
   rwa [Int.add_zero] at this
  ·rw [if_neg (fun hc => hb (hbit.1 hc))]
   exact round 1 (.inr ⟨rfl, hb⟩)
theorem corebankref01_Quotient.eq {a b c : Int} {r : Int × Int × Int} (h : corebankref01_Quotient.f a b c = some r) : ∃ k, corebankref01_QuotientP.f k a b c = some r := by
 unfold corebankref01_Quotient.f at h
 split at h
 ·rename_i q
  obtain ⟨⟨⟨a0, a1⟩, b0, b1⟩, c0, c1⟩ := q
  injection h with h
  subst h
  refine ⟨2 * 128 + 1, ?_⟩
  unfold corebankref01_QuotientP.f
  have hv : wv a b = a * 18446744073709551616 + b := rfl
  have hF : 0 * 2 ^ 128 + wv a b * 2 ^ 128 / 340282366920938463463374607431768211456 = wv a b := by
   rw [show (340282366920938463463374607431768211456 : Int) = 2 ^ 128 by decide, Int.mul_ediv_cancel _ (by decide)]; omega
  have := quot_loop c c0 c1 128 (wv a b) 0 0 0 0 (by omega) (by omega) (by omega) (by omega) (by omega) (by omega) (by rw [hF]; omega) (by omega) (by omega)
  rw [hF, show wv a b / 18446744073709551616 = a by omega, show wv a b % 18446744073709551616 = b by omega] at this
  exact this
 ·cases h
theorem corebankref01_Quotient.calls (a0_0 a0_1 a1 r1 r2 r3 : Int) (w : World) (h : corebankref01_Quotient.f a0_0 a0_1 a1 = some (r1, r2, r3)) :
  Calls Tryd.prog 71 #[.agg #[.int .u64 a0_0, .int .u64 a0_1], .int .u64 a1] w fun e w' => e = .returned (.tuple #[.agg #[.int .u64 r1, .int .u64 r2], .int .u64 r3]) ∧ Below w.heap.size w w' := by
 obtain ⟨k, h⟩ := corebankref01_Quotient.eq h
 exact corebankref01_QuotientP.calls k a0_0 a0_1 a1 r1 r2 r3 w h
def corebankref01_JoinP.f (a0 : Bool) (a1_0 a1_1 : Int) : Option (Int × Int × Bool) := if a0 = true then (if (IntKind.u64.wrap ((Go.bits .xor .u64 IntKind.u64.max a1_1) + 1)) = 0 then (if a1_0 < 9223372036854775808 then (some (wrap64 (IntKind.u64.wrap ((Go.bits .xor .u64 IntKind.u64.max a1_0) + 1)), IntKind.u64.wrap ((Go.bits .xor .u64 IntKind.u64.max a1_1) + 1), true)) else (if a1_0 = 9223372036854775808 then (some (wrap64 (IntKind.u64.wrap ((Go.bits .xor .u64 IntKind.u64.max a1_0) + 1)), IntKind.u64.wrap ((Go.bits .xor .u64 IntKind.u64.max a1_1) + 1), (a1_1 == 0))) else (some (wrap64 (IntKind.u64.wrap ((Go.bits .xor .u64 IntKind.u64.max a1_0) + 1)), IntKind.u64.wrap ((Go.bits .xor .u64 IntKind.u64.max a1_1) + 1), false)))) else (if a1_0 < 9223372036854775808 then (some (wrap64 (Go.bits .xor .u64 IntKind.u64.max a1_0), IntKind.u64.wrap ((Go.bits .xor .u64 IntKind.u64.max a1_1) + 1), true)) else (if a1_0 = 9223372036854775808 then (some (wrap64 (Go.bits .xor .u64 IntKind.u64.max a1_0), IntKind.u64.wrap ((Go.bits .xor .u64 IntKind.u64.max a1_1) + 1), (a1_1 == 0))) else (some (wrap64 (Go.bits .xor .u64 IntKind.u64.max a1_0), IntKind.u64.wrap ((Go.bits .xor .u64 IntKind.u64.max a1_1) + 1), false))))) else (some (wrap64 (a1_0), a1_1, decide (a1_0 < 9223372036854775808)))
def corebankref01_JoinP.T2 : Bool × List (List Nat × List Nat) := (true, [([], []), ([0], [0]), ([1], [1]), ([], []), ([3], [3]), ([2, 4], [2, 4]), ([], []), ([6], [6]), ([7], [7]), ([5, 0, 1, 2, 3, 4, 5], [5]), ([8, 9, 0, 1, 2, 3, 4, 5, 6, 7, 8, 9], [8])])
def corebankref01_JoinP.B2 : List Nat := [0, 1, 3, 0, 8, 31, 0, 64, 192, 63, 1023]
theorem corebankref01_JoinP.tab2 : rtab .any (opsOf Tryd.f73 2) = corebankref01_JoinP.T2 := by kernel_rfl
theorem corebankref01_JoinP.bits2 : waitsOk corebankref01_JoinP.T2.2 corebankref01_JoinP.B2 = true := by kernel_rfl
def corebankref01_JoinP.T3 : Bool × List (List Nat × List Nat) := (true, [([], []), ([0], [0]), ([1], [1]), ([2], [2]), ([], []), ([4], [4]), ([5], [5]), ([3, 0, 1, 2, 3], [3]), ([6, 7, 0, 1, 2, 3, 4, 5, 6, 7], [6])])
def corebankref01_JoinP.B3 : List Nat := [0, 1, 3, 7, 0, 16, 48, 15, 255]
theorem corebankref01_JoinP.tab3 : rtab .any (opsOf Tryd.f73 3) = corebankref01_JoinP.T3 := by kernel_rfl
theorem corebankref01_JoinP.bits3 : waitsOk corebankref01_JoinP.T3.2 corebankref01_JoinP.B3 = true := by kernel_rfl
def corebankref01_JoinP.T6 : Bool × List (List Nat × List Nat) := (true, [([], []), ([0], [0]), ([], []), ([1, 2], [1, 2]), ([], []), ([4], [4]), ([5], [5]), ([6], [6]), ([7], [7]), ([8, 7], [7, 8]), ([9, 7], [7, 9]), ([10, 7, 7], [7, 10]), ([11], [11]), ([12, 11], [11, 12]), ([13, 11], [11, 13]), ([11, 14, 7], [7, 11, 14]), ([7, 15], [7, 15]), ([3, 11, 0, 1, 2, 3], [3]), ([16, 17, 0, 1, 2, 3, 4, 5, 6, 7, 8, 9, 10, 11, 12, 13, 14, 15, 16, 17], [16])])
def corebankref01_JoinP.B6 : List Nat := [0, 1, 0, 7, 0, 16, 48, 112, 240, 496, 1008, 2032, 4080, 8176, 16368, 32752, 65520, 4095, 262143]
theorem corebankref01_JoinP.tab6 : rtab .any (opsOf Tryd.f73 6) = corebankref01_JoinP.T6 := by kernel_rfl
theorem corebankref01_JoinP.bits6 : waitsOk corebankref01_JoinP.T6.2 corebankref01_JoinP.B6 = true := by kernel_rfl
set_option maxHeartbeats 8000000 in
set_option maxRecDepth 100000 in
theorem corebankref01_JoinP.calls (a0 : Bool) (a1_0 a1_1 r1 r2 : Int) (r3 : Bool) (w : World) (h : corebankref01_JoinP.f a0 a1_0 a1_1 = some (r1, r2, r3)) :
  Calls Tryd.prog 73 #[.bool a0, .agg #[.int .u64 a1_0, .int .u64 a1_1]] w fun e w' => e = .returned (.tuple #[.agg #[.int .i64 r1, .int .u64 r2], .bool r3]) ∧ Below w.heap.size w w' := by
 have hu96 := Tryd.underlying96
 have hu63 := Tryd.underlying63
 have hsgn : IntKind.u64.signed = false := rfl
 have HB := Aside0.mk (Below.refl w.heap.size w)
 have H : (if a0 = true then (if (IntKind.u64.wrap ((Go.bits .xor .u64 IntKind.u64.max a1_1) + 1)) = 0 then (if a1_0 < 9223372036854775808 then (some (wrap64 (IntKind.u64.wrap ((Go.bits .xor .u64 IntKind.u64.max a1_0) + 1)), IntKind.u64.wrap ((Go.bits .xor .u64 IntKind.u64.max a1_1) + 1), true)) else (if a1_0 = 9223372036854775808 then (some (wrap64 (IntKind.u64.wrap ((Go.bits .xor .u64 IntKind.u64.max a1_0) + 1)), IntKind.u64.wrap ((Go.bits .xor .u64 IntKind.u64.max a1_1) + 1), (a1_1 == 0))) else (some (wrap64 (IntKind.u64.wrap ((Go.bits .xor .u64 IntKind.u64.max a1_0) + 1)), IntKind.u64.wrap ((Go.bits .xor .u64 IntKind.u64.max a1_1) + 1), false)))) else (if a1_0 < 9223372036854775808 then (some (wrap64 (Go.bits .xor .u64 IntKind.u64.max a1_0), IntKind.u64.wrap ((Go.bits .xor .u64 IntKind.u64.max a1_1) + 1), true)) else (if a1_0 = 9223372036854775808 then (some (wrap64 (Go.bits .xor .u64 IntKind.u64.max a1_0), IntKind.u64.wrap ((Go.bits .xor .u64 IntKind.u64.max a1_1) + 1), (a1_1 == 0))) else (some (wrap64 (Go.bits .xor .u64 IntKind.u64.max a1_0), IntKind.u64.wrap ((Go.bits .xor .u64 IntKind.u64.max a1_1) + 1), false))))) else (some (wrap64 (a1_0), a1_1, decide (a1_0 < 9223372036854775808)))) = some (r1, r2, r3) := h
 clear h
 by_cases c3 : a0 = true
 ·subst c3
  have H1 : (if (IntKind.u64.wrap ((Go.bits .xor .u64 IntKind.u64.max a1_1) + 1)) = 0 then (if a1_0 < 9223372036854775808 then (some (wrap64 (IntKind.u64.wrap ((Go.bits .xor .u64 IntKind.u64.max a1_0) + 1)), IntKind.u64.wrap ((Go.bits .xor .u64 IntKind.u64.max a1_1) + 1), true)) else (if a1_0 = 9223372036854775808 then (some (wrap64 (IntKind.u64.wrap ((Go.bits .xor .u64 IntKind.u64.max a1_0) + 1)), IntKind.u64.wrap ((Go.bits .xor .u64 IntKind.u64.max a1_1) + 1), (a1_1 == 0))) else (some (wrap64 (IntKind.u64.wrap ((Go.bits .xor .u64 IntKind.u64.max a1_0) + 1)), IntKind.u64.wrap ((Go.bits .xor .u64 IntKind.u64.max a1_1) + 1), false)))) else (if a1_0 < 9223372036854775808 then (some (wrap64 (Go.bits .xor .u64 IntKind.u64.max a1_0), IntKind.u64.wrap ((Go.bits .xor .u64 IntKind.u64.max a1_1) + 1), true)) else (if a1_0 = 9223372036854775808 then (some (wrap64 (Go.bits .xor .u64 IntKind.u64.max a1_0), IntKind.u64.wrap ((Go.bits .xor .u64 IntKind.u64.max a1_1) + 1), (a1_1 == 0))) else (some (wrap64 (Go.bits .xor .u64 IntKind.u64.max a1_0), IntKind.u64.wrap ((Go.bits .xor .u64 IntKind.u64.max a1_1) + 1), false))))) = some (r1, r2, r3) := by rw [if_pos rfl] at H; exact H
  clear H
  have H := H1
  clear H1
  by_cases c4 : (IntKind.u64.wrap ((Go.bits .xor .u64 IntKind.u64.max a1_1) + 1)) = 0
  ·rw [if_pos c4] at H
   have c4b0 : ((IntKind.u64.wrap ((Go.bits .xor .u64 IntKind.u64.max a1_1) + 1)) == 0) = true := beq_iff_eq.mpr c4
   have c4b1 : ((IntKind.u64.wrap ((Go.bits .xor .u64 IntKind.u64.max a1_1) + 1)) != 0) = false := bne_eq_false_iff_eq.mpr c4
   clear c4
   by_cases c5 : a1_0 < 9223372036854775808
   ·rw [if_pos c5] at H
    have c5b0 : decide (a1_0 < 9223372036854775808) = true := decide_eq_true c5
    clear c5
    simp only [Option.some.injEq, Prod.mk.injEq] at H
    obtain ⟨rfl, rfl, rfl⟩ := H
    go_enter Tryd.func73, Tryd.ntmps73
    try go_wp2_with (first | ((with_reducible refine gate_dst (N := 3) rfl ?_); refine be_ (N := 3) (cs := #[.int .u64 a1_0, .int .u64 a1_1]) (t := 96) ?_; intro gb300 hg w6 hbox hb; have n0_ := Aside0.mk (below_step (qb_ HB.out) hb); have n1_ := Aside0.mk (hbox); have n2_ := Aside0.mk (bz_ hg (qb_ HB.out) : w.heap.size ≤ gb300); have n3_ := n2_; clear HB; have HB := n0_; have BK300 := n1_; have GW300 := n2_; have GE300 := n3_; clear n0_ n1_ n2_ n3_; clear hb hbox hg) | ((with_reducible refine gate_dst (N := 4) rfl ?_); refine be_ (N := 4) (cs := #[.int .i64 0, .int .u64 0]) (t := 63) ?_; intro gb301 hg w7 hbox hb; have n0_ := Aside0.mk (blk_below (qk_ BK300.out) hb); have n1_ := Aside0.mk (below_step (qb1_ GE300.out HB.out) hb); have n2_ := Aside0.mk (hbox); have n3_ := Aside0.mk (bz_ hg (qb1_ GE300.out HB.out) : w.heap.size ≤ gb301); have n4_ := n3_; have n5_ := Aside0.mk (nl_ hg (qk_ BK300.out) : gb300 ≠ gb301); have n6_ := Aside0.mk (ng_ hg (qk_ BK300.out) : gb301 ≠ gb300); clear BK300; clear HB; have BK300 := n0_; have HB := n1_; have BK301 := n2_; have GW301 := n3_; have GE301 := n4_; have NB300_301 := n5_; have NB301_300 := n6_; clear n0_ n1_ n2_ n3_ n4_ n5_ n6_; clear hb hbox hg))
    have n0_ := Aside0.mk (blk_drew BK300.out)
    have n1_ := Aside0.mk (blk_drew BK301.out)
    have n2_ := Aside0.mk (below_drew1 HB.out)
    clear BK300
    clear BK301
    clear HB
    have BK300 := n0_
    have BK301 := n1_
    have HB := n2_
    clear n0_ n1_ n2_
    refine start_ (n := 9) (S := cS2_ gb300 (.int .u64 a1_0) (.int .u64 a1_1)) (ds := []) (nb_ 9 0) (by kernel_rfl) rfl rfl (cc2_ BK300.out) (fun hHeld => ?_); refine with_tabW corebankref01_JoinP.tab3 corebankref01_JoinP.bits3 (fun HT_ HW_ => ?_)
    generalize w7.drew = w8 at BK300 BK301 HB hHeld ⊢
    refine pz_ 0 19 (nb_ 9 1) HT_.out ?_
    refine pz_ 4 23 (nb_ 9 17) HT_.out ?_
    refine tk2_ 1 20 (nb_ 9 19) HT_.out HW_.out hHeld ?_
    refine pz_ 2 21 (nb_ 9 23) HT_.out ?_
    refine pz_ 3 22 (nb_ 9 31) HT_.out ?_
    refine pz_ 7 6 (nb_ 9 159) HT_.out ?_
    refine tk2_ 5 24 (nb_ 9 191) HT_.out HW_.out hHeld ?_
    refine pz_ 6 25 (nb_ 9 255) HT_.out ?_
    refine pz_ 8 7 (nb_ 9 511) HT_.out ?_
    refine done_ (done_of HT_.out (by kernel_rfl)) ?_
    try go_wp2
    have n0_ := Aside0.mk (blk_drew BK300.out)
    have n1_ := Aside0.mk (blk_drew BK301.out)
    have n2_ := Aside0.mk (below_drew1 HB.out)
    clear BK300
    clear BK301
    clear HB
    have BK300 := n0_
    have BK301 := n1_
    have HB := n2_
    clear n0_ n1_ n2_
    refine start_ (n := 19) (S := cS2_ gb300 (.int .u64 a1_0) (.int .u64 a1_1)) (ds := []) (nb_ 19 0) (by kernel_rfl) rfl rfl (cc2_ BK300.out) (fun hHeld => ?_); refine with_tabW corebankref01_JoinP.tab6 corebankref01_JoinP.bits6 (fun HT_ HW_ => ?_)
    generalize w8.drew = w9 at BK300 BK301 HB hHeld ⊢
    refine pz_ 0 30 (nb_ 19 1) HT_.out ?_
    refine pz_ 1 31 (nb_ 19 3) HT_.out ?_
    refine pz_ 2 32 (nb_ 19 7) HT_.out ?_
    refine pz_ 3 33 (nb_ 19 15) HT_.out ?_
    refine pz_ 4 34 (nb_ 19 31) HT_.out ?_
    refine tk2_ 5 35 (nb_ 19 63) HT_.out HW_.out hHeld ?_
    refine pz_ 6 36 (nb_ 19 127) HT_.out ?_
    refine pz_ 7 37 (nb_ 19 255) HT_.out ?_
    refine pu_ 8 38 (nb_ 19 511) HT_.out ?_
    refine pu_ 9 39 (nb_ 19 1023) HT_.out ?_
    refine pu_ 10 40 (nb_ 19 2047) HT_.out ?_
    refine pu_ 11 41 (nb_ 19 4095) HT_.out ?_
    refine pu_ 12 42 (nb_ 19 8191) HT_.out ?_
    refine pu_ 13 43 (nb_ 19 16383) HT_.out ?_
    refine pu_ 14 44 (nb_ 19 32767) HT_.out ?_
    refine pu_ 15 45 (nb_ 19 65535) HT_.out ?_
    refine pz_ 16 46 (nb_ 19 131071) HT_.out ?_
    refine one_ (i := 17) (N := none) (nb_ 19 262143) rfl rfl (one_of HT_.out (by kernel_rfl)) (by decide) (fun K hK => ?_)
    have hs10 : w9.cell? ⟨gb301, 0, none⟩ = some (.int .i64 0) := (blk_cell BK301.out 0).trans rfl
    have hfs10 := blk_frozen BK301.out 0
    have hns10_0 := NB300_301.out
    have hms10_0 := NB301_300.out
    have hs11 : w9.cell? ⟨gb301, 1, none⟩ = some (.int .u64 0) := (blk_cell BK301.out 1).trans rfl
    have hfs11 := blk_frozen BK301.out 1
    have hns11_0 := NB300_301.out
    have hms11_0 := NB301_300.out
    refine skip_ (w1 := ?_) (by rfl) rfl ?_ ?_
    rotate_left
    ·go_simp
     rfl
    refine hK.out _ _ ⟨((cell_far (p := ⟨gb301, _, none⟩) NB300_301.out _).trans (((cell_far (p := ⟨gb301, _, none⟩) NB300_301.out _).trans (hHeld.1)))), ((cell_far (p := ⟨gb301, _, none⟩) NB300_301.out _).trans (((cell_far (p := ⟨gb301, _, none⟩) NB300_301.out _).trans (hHeld.2))))⟩ (fun hHeld => ?_)
    clear hK K
    refine pz_ 18 5 (nb_ 19 524287) HT_.out ?_
    refine done_ (done_of HT_.out (by kernel_rfl)) ?_
    try go_wp2
    refine bodyPost_ret (results_ct rfl _ _ gb301 63 #[.int .i64 (wrap64 (IntKind.u64.wrap ((Go.bits .xor .u64 IntKind.u64.max a1_0) + 1))), .int .u64 (IntKind.u64.wrap ((Go.bits .xor .u64 IntKind.u64.max a1_1) + 1))] (0, 0) _ rfl (qpp_ #[.int .i64 (wrap64 (IntKind.u64.wrap ((Go.bits .xor .u64 IntKind.u64.max a1_0) + 1))), .int .u64 0] 1 #[.int .i64 0, .int .u64 0] 0 BK301.out) Tryd.underlying63 rfl (by kernel_rfl)) rfl ?_
    exact ⟨qe_, qb2_ GE300.out GE301.out HB.out⟩
   ·rw [if_neg c5] at H
    have c5b0 : decide (a1_0 < 9223372036854775808) = false := decide_eq_false c5
    clear c5
    by_cases c12 : a1_0 = 9223372036854775808
    ·rw [if_pos c12] at H
     have c12b0 : (a1_0 == 9223372036854775808) = true := beq_iff_eq.mpr c12
     have c12b1 : (a1_0 != 9223372036854775808) = false := bne_eq_false_iff_eq.mpr c12
     clear c12
     simp only [Option.some.injEq, Prod.mk.injEq] at H
     obtain ⟨rfl, rfl, rfl⟩ := H
     go_enter Tryd.func73, Tryd.ntmps73
     try go_wp2_with (first | ((with_reducible refine gate_dst (N := 3) rfl ?_); refine be_ (N := 3) (cs := #[.int .u64 a1_0, .int .u64 a1_1]) (t := 96) ?_; intro gb300 hg w13 hbox hb; have n0_ := Aside0.mk (below_step (qb_ HB.out) hb); have n1_ := Aside0.mk (hbox); have n2_ := Aside0.mk (bz_ hg (qb_ HB.out) : w.heap.size ≤ gb300); have n3_ := n2_; clear HB; have HB := n0_; have BK300 := n1_; have GW300 := n2_; have GE300 := n3_; clear n0_ n1_ n2_ n3_; clear hb hbox hg) | ((with_reducible refine gate_dst (N := 4) rfl ?_); refine be_ (N := 4) (cs := #[.int .i64 0, .int .u64 0]) (t := 63) ?_; intro gb301 hg w14 hbox hb; have n0_ := Aside0.mk (blk_below (qk_ BK300.out) hb); have n1_ := Aside0.mk (below_step (qb1_ GE300.out HB.out) hb); have n2_ := Aside0.mk (hbox); have n3_ := Aside0.mk (bz_ hg (qb1_ GE300.out HB.out) : w.heap.size ≤ gb301); have n4_ := n3_; have n5_ := Aside0.mk (nl_ hg (qk_ BK300.out) : gb300 ≠ gb301); have n6_ := Aside0.mk (ng_ hg (qk_ BK300.out) : gb301 ≠ gb300); clear BK300; clear HB; have BK300 := n0_; have HB := n1_; have BK301 := n2_; have GW301 := n3_; have GE301 := n4_; have NB300_301 := n5_; have NB301_300 := n6_; clear n0_ n1_ n2_ n3_ n4_ n5_ n6_; clear hb hbox hg))
     have n0_ := Aside0.mk (blk_drew BK300.out)
     have n1_ := Aside0.mk (blk_drew BK301.out)
     have n2_ := Aside0.mk (below_drew1 HB.out)
     clear BK300
     clear BK301
     clear HB
     have BK300 := n0_
     have BK301 := n1_
     have HB := n2_
     clear n0_ n1_ n2_
     refine start_ (n := 9) (S := cS2_ gb300 (.int .u64 a1_0) (.int .u64 a1_1)) (ds := []) (nb_ 9 0) (by kernel_rfl) rfl rfl (cc2_ BK300.out) (fun hHeld => ?_); refine with_tabW corebankref01_JoinP.tab3 corebankref01_JoinP.bits3 (fun HT_ HW_ => ?_)
     generalize w14.drew = w15 at BK300 BK301 HB hHeld ⊢
     refine pz_ 0 19 (nb_ 9 1) HT_.out ?_
     refine pz_ 4 23 (nb_ 9 17) HT_.out ?_
     refine tk2_ 1 20 (nb_ 9 19) HT_.out HW_.out hHeld ?_
     refine pz_ 2 21 (nb_ 9 23) HT_.out ?_
     refine pz_ 3 22 (nb_ 9 31) HT_.out ?_
     refine pz_ 7 6 (nb_ 9 159) HT_.out ?_
     refine tk2_ 5 24 (nb_ 9 191) HT_.out HW_.out hHeld ?_
     refine pz_ 6 25 (nb_ 9 255) HT_.out ?_
     refine pz_ 8 7 (nb_ 9 511) HT_.out ?_
     refine done_ (done_of HT_.out (by kernel_rfl)) ?_
     try go_wp2
     have n0_ := Aside0.mk (blk_drew BK300.out)
     have n1_ := Aside0.mk (blk_drew BK301.out)
     have n2_ := Aside0.mk (below_drew1 HB.out)
     clear BK300
     clear BK301
     clear HB
     have BK300 := n0_
     have BK301 := n1_
     have HB := n2_
     clear n0_ n1_ n2_
     refine start_ (n := 19) (S := cS2_ gb300 (.int .u64 a1_0) (.int .u64 a1_1)) (ds := []) (nb_ 19 0) (by kernel_rfl) rfl rfl (cc2_ BK300.out) (fun hHeld => ?_); refine with_tabW corebankref01_JoinP.tab6 corebankref01_JoinP.bits6 (fun HT_ HW_ => ?_)
     generalize w15.drew = w16 at BK300 BK301 HB hHeld ⊢
     refine pz_ 0 30 (nb_ 19 1) HT_.out ?_
     refine pz_ 1 31 (nb_ 19 3) HT_.out ?_
     refine pz_ 2 32 (nb_ 19 7) HT_.out ?_
     refine pz_ 3 33 (nb_ 19 15) HT_.out ?_
     refine pz_ 4 34 (nb_ 19 31) HT_.out ?_
     refine tk2_ 5 35 (nb_ 19 63) HT_.out HW_.out hHeld ?_
     refine pz_ 6 36 (nb_ 19 127) HT_.out ?_
     refine pz_ 7 37 (nb_ 19 255) HT_.out ?_
     refine pz_ 8 38 (nb_ 19 511) HT_.out ?_
     refine tk2_ 9 39 (nb_ 19 1023) HT_.out HW_.out hHeld ?_
     refine pz_ 10 40 (nb_ 19 2047) HT_.out ?_
     refine pz_ 11 41 (nb_ 19 4095) HT_.out ?_
     refine pz_ 12 42 (nb_ 19 8191) HT_.out ?_
     refine tk2_ 13 43 (nb_ 19 16383) HT_.out HW_.out hHeld ?_
     refine pz_ 14 44 (nb_ 19 32767) HT_.out ?_
     refine pz_ 15 45 (nb_ 19 65535) HT_.out ?_
     refine pz_ 16 46 (nb_ 19 131071) HT_.out ?_
     refine one_ (i := 17) (N := none) (nb_ 19 262143) rfl rfl (one_of HT_.out (by kernel_rfl)) (by decide) (fun K hK => ?_)
     have hs17 : w16.cell? ⟨gb301, 0, none⟩ = some (.int .i64 0) := (blk_cell BK301.out 0).trans rfl
     have hfs17 := blk_frozen BK301.out 0
     have hns17_0 := NB300_301.out
     have hms17_0 := NB301_300.out
     have hs18 : w16.cell? ⟨gb301, 1, none⟩ = some (.int .u64 0) := (blk_cell BK301.out 1).trans rfl
     have hfs18 := blk_frozen BK301.out 1
     have hns18_0 := NB300_301.out
     have hms18_0 := NB301_300.out
     refine skip_ (w1 := ?_) (by rfl) rfl ?_ ?_
     rotate_left
     ·go_simp
      rfl
     refine hK.out _ _ ⟨((cell_far (p := ⟨gb301, _, none⟩) NB300_301.out _).trans (((cell_far (p := ⟨gb301, _, none⟩) NB300_301.out _).trans (hHeld.1)))), ((cell_far (p := ⟨gb301, _, none⟩) NB300_301.out _).trans (((cell_far (p := ⟨gb301, _, none⟩) NB300_301.out _).trans (hHeld.2))))⟩ (fun hHeld => ?_)
     clear hK K
     refine pz_ 18 5 (nb_ 19 524287) HT_.out ?_
     refine done_ (done_of HT_.out (by kernel_rfl)) ?_
     try go_wp2
     refine bodyPost_ret (results_ct rfl _ _ gb301 63 #[.int .i64 (wrap64 (IntKind.u64.wrap ((Go.bits .xor .u64 IntKind.u64.max a1_0) + 1))), .int .u64 (IntKind.u64.wrap ((Go.bits .xor .u64 IntKind.u64.max a1_1) + 1))] (0, 0) _ rfl (qpp_ #[.int .i64 (wrap64 (IntKind.u64.wrap ((Go.bits .xor .u64 IntKind.u64.max a1_0) + 1))), .int .u64 0] 1 #[.int .i64 0, .int .u64 0] 0 BK301.out) Tryd.underlying63 rfl (by kernel_rfl)) rfl ?_
     exact ⟨qe_, qb2_ GE300.out GE301.out HB.out⟩
    ·rw [if_neg c12] at H
     have c12b0 : (a1_0 == 9223372036854775808) = false := beq_eq_false_iff_ne.mpr c12
     have c12b1 : (a1_0 != 9223372036854775808) = true := bne_iff_ne.mpr c12
     simp only [Option.some.injEq, Prod.mk.injEq] at H
     obtain ⟨rfl, rfl, rfl⟩ := H
     go_enter Tryd.func73, Tryd.ntmps73
     try go_wp2_with (first | ((with_reducible refine gate_dst (N := 3) rfl ?_); refine be_ (N := 3) (cs := #[.int .u64 a1_0, .int .u64 a1_1]) (t := 96) ?_; intro gb300 hg w19 hbox hb; have n0_ := Aside0.mk (below_step (qb_ HB.out) hb); have n1_ := Aside0.mk (hbox); have n2_ := Aside0.mk (bz_ hg (qb_ HB.out) : w.heap.size ≤ gb300); have n3_ := n2_; clear HB; have HB := n0_; have BK300 := n1_; have GW300 := n2_; have GE300 := n3_; clear n0_ n1_ n2_ n3_; clear hb hbox hg) | ((with_reducible refine gate_dst (N := 4) rfl ?_); refine be_ (N := 4) (cs := #[.int .i64 0, .int .u64 0]) (t := 63) ?_; intro gb301 hg w20 hbox hb; have n0_ := Aside0.mk (blk_below (qk_ BK300.out) hb); have n1_ := Aside0.mk (below_step (qb1_ GE300.out HB.out) hb); have n2_ := Aside0.mk (hbox); have n3_ := Aside0.mk (bz_ hg (qb1_ GE300.out HB.out) : w.heap.size ≤ gb301); have n4_ := n3_; have n5_ := Aside0.mk (nl_ hg (qk_ BK300.out) : gb300 ≠ gb301); have n6_ := Aside0.mk (ng_ hg (qk_ BK300.out) : gb301 ≠ gb300); clear BK300; clear HB; have BK300 := n0_; have HB := n1_; have BK301 := n2_; have GW301 := n3_; have GE301 := n4_; have NB300_301 := n5_; have NB301_300 := n6_; clear n0_ n1_ n2_ n3_ n4_ n5_ n6_; clear hb hbox hg))
     have n0_ := Aside0.mk (blk_drew BK300.out)
     have n1_ := Aside0.mk (blk_drew BK301.out)
     have n2_ := Aside0.mk (below_drew1 HB.out)
     clear BK300
     clear BK301
     clear HB
     have BK300 := n0_
     have BK301 := n1_
     have HB := n2_
     clear n0_ n1_ n2_
     refine start_ (n := 9) (S := cS2_ gb300 (.int .u64 a1_0) (.int .u64 a1_1)) (ds := []) (nb_ 9 0) (by kernel_rfl) rfl rfl (cc2_ BK300.out) (fun hHeld => ?_); refine with_tabW corebankref01_JoinP.tab3 corebankref01_JoinP.bits3 (fun HT_ HW_ => ?_)
     generalize w20.drew = w21 at BK300 BK301 HB hHeld ⊢
     refine pz_ 0 19 (nb_ 9 1) HT_.out ?_
     refine pz_ 4 23 (nb_ 9 17) HT_.out ?_
     refine tk2_ 1 20 (nb_ 9 19) HT_.out HW_.out hHeld ?_
     refine pz_ 2 21 (nb_ 9 23) HT_.out ?_
     refine pz_ 3 22 (nb_ 9 31) HT_.out ?_
     refine pz_ 7 6 (nb_ 9 159) HT_.out ?_
     refine tk2_ 5 24 (nb_ 9 191) HT_.out HW_.out hHeld ?_
     refine pz_ 6 25 (nb_ 9 255) HT_.out ?_
     refine pz_ 8 7 (nb_ 9 511) HT_.out ?_
     refine done_ (done_of HT_.out (by kernel_rfl)) ?_
     try go_wp2
     have n0_ := Aside0.mk (blk_drew BK300.out)
     have n1_ := Aside0.mk (blk_drew BK301.out)
     have n2_ := Aside0.mk (below_drew1 HB.out)
     clear BK300
     clear BK301
     clear HB
     have BK300 := n0_
     have BK301 := n1_
     have HB := n2_
     clear n0_ n1_ n2_
     refine start_ (n := 19) (S := cS2_ gb300 (.int .u64 a1_0) (.int .u64 a1_1)) (ds := []) (nb_ 19 0) (by kernel_rfl) rfl rfl (cc2_ BK300.out) (fun hHeld => ?_); refine with_tabW corebankref01_JoinP.tab6 corebankref01_JoinP.bits6 (fun HT_ HW_ => ?_)
     generalize w21.drew = w22 at BK300 BK301 HB hHeld ⊢
     refine pz_ 0 30 (nb_ 19 1) HT_.out ?_
     refine pz_ 1 31 (nb_ 19 3) HT_.out ?_
     refine pz_ 2 32 (nb_ 19 7) HT_.out ?_
     refine pz_ 3 33 (nb_ 19 15) HT_.out ?_
     refine pz_ 4 34 (nb_ 19 31) HT_.out ?_
     refine tk2_ 5 35 (nb_ 19 63) HT_.out HW_.out hHeld ?_
     refine pz_ 6 36 (nb_ 19 127) HT_.out ?_
     refine pz_ 7 37 (nb_ 19 255) HT_.out ?_
     refine pz_ 8 38 (nb_ 19 511) HT_.out ?_
     refine tk2_ 9 39 (nb_ 19 1023) HT_.out HW_.out hHeld ?_
     refine pz_ 10 40 (nb_ 19 2047) HT_.out ?_
     refine pz_ 11 41 (nb_ 19 4095) HT_.out ?_
     refine pu_ 12 42 (nb_ 19 8191) HT_.out ?_
     refine pu_ 13 43 (nb_ 19 16383) HT_.out ?_
     refine pu_ 14 44 (nb_ 19 32767) HT_.out ?_
     refine pz_ 15 45 (nb_ 19 65535) HT_.out ?_
     refine pz_ 16 46 (nb_ 19 131071) HT_.out ?_
     refine one_ (i := 17) (N := none) (nb_ 19 262143) rfl rfl (one_of HT_.out (by kernel_rfl)) (by decide) (fun K hK => ?_)
     have hs23 : w22.cell? ⟨gb301, 0, none⟩ = some (.int .i64 0) := (blk_cell BK301.out 0).trans rfl
     have hfs23 := blk_frozen BK301.out 0
     have hns23_0 := NB300_301.out
     have hms23_0 := NB301_300.out
     have hs24 : w22.cell? ⟨gb301, 1, none⟩ = some (.int .u64 0) := (blk_cell BK301.out 1).trans rfl
     have hfs24 := blk_frozen BK301.out 1
     have hns24_0 := NB300_301.out
     have hms24_0 := NB301_300.out
     refine skip_ (w1 := ?_) (by rfl) rfl ?_ ?_
     rotate_left
     ·go_simp
      rfl
     refine hK.out _ _ ⟨((cell_far (p := ⟨gb301, _, none⟩) NB300_301.out _).trans (((cell_far (p := ⟨gb301, _, none⟩) NB300_301.out _).trans (hHeld.1)))), ((cell_far (p := ⟨gb301, _, none⟩) NB300_301.out _).trans (((cell_far (p := ⟨gb301, _, none⟩) NB300_301.out _).trans (hHeld.2))))⟩ (fun hHeld => ?_)
     clear hK K
     refine pz_ 18 5 (nb_ 19 524287) HT_.out ?_
     refine done_ (done_of HT_.out (by kernel_rfl)) ?_
     try go_wp2
     refine bodyPost_ret (results_ct rfl _ _ gb301 63 #[.int .i64 (wrap64 (IntKind.u64.wrap ((Go.bits .xor .u64 IntKind.u64.max a1_0) + 1))), .int .u64 (IntKind.u64.wrap ((Go.bits .xor .u64 IntKind.u64.max a1_1) + 1))] (0, 0) _ rfl (qpp_ #[.int .i64 (wrap64 (IntKind.u64.wrap ((Go.bits .xor .u64 IntKind.u64.max a1_0) + 1))), .int .u64 0] 1 #[.int .i64 0, .int .u64 0] 0 BK301.out) Tryd.underlying63 rfl (by kernel_rfl)) rfl ?_
     exact ⟨qe_, qb2_ GE300.out GE301.out HB.out⟩
  ·rw [if_neg c4] at H
   have c4b0 : ((IntKind.u64.wrap ((Go.bits .xor .u64 IntKind.u64.max a1_1) + 1)) == 0) = false := beq_eq_false_iff_ne.mpr c4
   have c4b1 : ((IntKind.u64.wrap ((Go.bits .xor .u64 IntKind.u64.max a1_1) + 1)) != 0) = true := bne_iff_ne.mpr c4
   by_cases c25 : a1_0 < 9223372036854775808
   ·rw [if_pos c25] at H
    have c25b0 : decide (a1_0 < 9223372036854775808) = true := decide_eq_true c25
    clear c25
    simp only [Option.some.injEq, Prod.mk.injEq] at H
    obtain ⟨rfl, rfl, rfl⟩ := H
    go_enter Tryd.func73, Tryd.ntmps73
    try go_wp2_with (first | ((with_reducible refine gate_dst (N := 3) rfl ?_); refine be_ (N := 3) (cs := #[.int .u64 a1_0, .int .u64 a1_1]) (t := 96) ?_; intro gb300 hg w26 hbox hb; have n0_ := Aside0.mk (below_step (qb_ HB.out) hb); have n1_ := Aside0.mk (hbox); have n2_ := Aside0.mk (bz_ hg (qb_ HB.out) : w.heap.size ≤ gb300); have n3_ := n2_; clear HB; have HB := n0_; have BK300 := n1_; have GW300 := n2_; have GE300 := n3_; clear n0_ n1_ n2_ n3_; clear hb hbox hg) | ((with_reducible refine gate_dst (N := 4) rfl ?_); refine be_ (N := 4) (cs := #[.int .i64 0, .int .u64 0]) (t := 63) ?_; intro gb301 hg w27 hbox hb; have n0_ := Aside0.mk (blk_below (qk_ BK300.out) hb); have n1_ := Aside0.mk (below_step (qb1_ GE300.out HB.out) hb); have n2_ := Aside0.mk (hbox); have n3_ := Aside0.mk (bz_ hg (qb1_ GE300.out HB.out) : w.heap.size ≤ gb301); have n4_ := n3_; have n5_ := Aside0.mk (nl_ hg (qk_ BK300.out) : gb300 ≠ gb301); have n6_ := Aside0.mk (ng_ hg (qk_ BK300.out) : gb301 ≠ gb300); clear BK300; clear HB; have BK300 := n0_; have HB := n1_; have BK301 := n2_; have GW301 := n3_; have GE301 := n4_; have NB300_301 := n5_; have NB301_300 := n6_; clear n0_ n1_ n2_ n3_ n4_ n5_ n6_; clear hb hbox hg))
    have n0_ := Aside0.mk (blk_drew BK300.out)
    have n1_ := Aside0.mk (blk_drew BK301.out)
    have n2_ := Aside0.mk (below_drew1 HB.out)
    clear BK300
    clear BK301
    clear HB
    have BK300 := n0_
    have BK301 := n1_
    have HB := n2_
    clear n0_ n1_ n2_
    refine start_ (n := 9) (S := cS2_ gb300 (.int .u64 a1_0) (.int .u64 a1_1)) (ds := []) (nb_ 9 0) (by kernel_rfl) rfl rfl (cc2_ BK300.out) (fun hHeld => ?_); refine with_tabW corebankref01_JoinP.tab3 corebankref01_JoinP.bits3 (fun HT_ HW_ => ?_)
    generalize w27.drew = w28 at BK300 BK301 HB hHeld ⊢
    refine pz_ 0 19 (nb_ 9 1) HT_.out ?_
    refine pz_ 4 23 (nb_ 9 17) HT_.out ?_
    refine tk2_ 1 20 (nb_ 9 19) HT_.out HW_.out hHeld ?_
    refine pz_ 2 21 (nb_ 9 23) HT_.out ?_
    refine pz_ 3 22 (nb_ 9 31) HT_.out ?_
    refine pz_ 7 6 (nb_ 9 159) HT_.out ?_
    refine tk2_ 5 24 (nb_ 9 191) HT_.out HW_.out hHeld ?_
    refine pz_ 6 25 (nb_ 9 255) HT_.out ?_
    refine pz_ 8 7 (nb_ 9 511) HT_.out ?_
    refine done_ (done_of HT_.out (by kernel_rfl)) ?_
    try go_wp2
    have n0_ := Aside0.mk (blk_drew BK300.out)
    have n1_ := Aside0.mk (blk_drew BK301.out)
    have n2_ := Aside0.mk (below_drew1 HB.out)
    clear BK300
    clear BK301
    clear HB
    have BK300 := n0_
    have BK301 := n1_
    have HB := n2_
    clear n0_ n1_ n2_
    refine start_ (n := 19) (S := cS2_ gb300 (.int .u64 a1_0) (.int .u64 a1_1)) (ds := []) (nb_ 19 0) (by kernel_rfl) rfl rfl (cc2_ BK300.out) (fun hHeld => ?_); refine with_tabW corebankref01_JoinP.tab6 corebankref01_JoinP.bits6 (fun HT_ HW_ => ?_)
    generalize w28.drew = w29 at BK300 BK301 HB hHeld ⊢
    refine pz_ 0 30 (nb_ 19 1) HT_.out ?_
    refine pz_ 1 31 (nb_ 19 3) HT_.out ?_
    refine pz_ 2 32 (nb_ 19 7) HT_.out ?_
    refine pz_ 3 33 (nb_ 19 15) HT_.out ?_
    refine pz_ 4 34 (nb_ 19 31) HT_.out ?_
    refine tk2_ 5 35 (nb_ 19 63) HT_.out HW_.out hHeld ?_
    refine pz_ 6 36 (nb_ 19 127) HT_.out ?_
    refine pz_ 7 37 (nb_ 19 255) HT_.out ?_
    refine pu_ 8 38 (nb_ 19 511) HT_.out ?_
    refine pu_ 9 39 (nb_ 19 1023) HT_.out ?_
    refine pu_ 10 40 (nb_ 19 2047) HT_.out ?_
    refine pu_ 11 41 (nb_ 19 4095) HT_.out ?_
    refine pu_ 12 42 (nb_ 19 8191) HT_.out ?_
    refine pu_ 13 43 (nb_ 19 16383) HT_.out ?_
    refine pu_ 14 44 (nb_ 19 32767) HT_.out ?_
    refine pu_ 15 45 (nb_ 19 65535) HT_.out ?_
    refine pz_ 16 46 (nb_ 19 131071) HT_.out ?_
    refine one_ (i := 17) (N := none) (nb_ 19 262143) rfl rfl (one_of HT_.out (by kernel_rfl)) (by decide) (fun K hK => ?_)
    have hs30 : w29.cell? ⟨gb301, 0, none⟩ = some (.int .i64 0) := (blk_cell BK301.out 0).trans rfl
    have hfs30 := blk_frozen BK301.out 0
    have hns30_0 := NB300_301.out
    have hms30_0 := NB301_300.out
    have hs31 : w29.cell? ⟨gb301, 1, none⟩ = some (.int .u64 0) := (blk_cell BK301.out 1).trans rfl
    have hfs31 := blk_frozen BK301.out 1
    have hns31_0 := NB300_301.out
    have hms31_0 := NB301_300.out
    refine skip_ (w1 := ?_) (by rfl) rfl ?_ ?_
    rotate_left
    ·go_simp
     rfl
    refine hK.out _ _ ⟨((cell_far (p := ⟨gb301, _, none⟩) NB300_301.out _).trans (((cell_far (p := ⟨gb301, _, none⟩) NB300_301.out _).trans (hHeld.1)))), ((cell_far (p := ⟨gb301, _, none⟩) NB300_301.out _).trans (((cell_far (p := ⟨gb301, _, none⟩) NB300_301.out _).trans (hHeld.2))))⟩ (fun hHeld => ?_)
    clear hK K
    refine pz_ 18 5 (nb_ 19 524287) HT_.out ?_
    refine done_ (done_of HT_.out (by kernel_rfl)) ?_
    try go_wp2
    refine bodyPost_ret (results_ct rfl _ _ gb301 63 #[.int .i64 (wrap64 (Go.bits .xor .u64 IntKind.u64.max a1_0)), .int .u64 (IntKind.u64.wrap ((Go.bits .xor .u64 IntKind.u64.max a1_1) + 1))] (0, 0) _ rfl (qpp_ #[.int .i64 (wrap64 (Go.bits .xor .u64 IntKind.u64.max a1_0)), .int .u64 0] 1 #[.int .i64 0, .int .u64 0] 0 BK301.out) Tryd.underlying63 rfl (by kernel_rfl)) rfl ?_
    exact ⟨qe_, qb2_ GE300.out GE301.out HB.out⟩
   ·rw [if_neg c25] at H
    have c25b0 : decide (a1_0 < 9223372036854775808) = false := decide_eq_false c25
    clear c25
    by_cases c32 : a1_0 = 9223372036854775808
    ·rw [if_pos c32] at H
     have c32b0 : (a1_0 == 9223372036854775808) = true := beq_iff_eq.mpr c32
     have c32b1 : (a1_0 != 9223372036854775808) = false := bne_eq_false_iff_eq.mpr c32
     clear c32
     simp only [Option.some.injEq, Prod.mk.injEq] at H
     obtain ⟨rfl, rfl, rfl⟩ := H
     go_enter Tryd.func73, Tryd.ntmps73
     try go_wp2_with (first | ((with_reducible refine gate_dst (N := 3) rfl ?_); refine be_ (N := 3) (cs := #[.int .u64 a1_0, .int .u64 a1_1]) (t := 96) ?_; intro gb300 hg w33 hbox hb; have n0_ := Aside0.mk (below_step (qb_ HB.out) hb); have n1_ := Aside0.mk (hbox); have n2_ := Aside0.mk (bz_ hg (qb_ HB.out) : w.heap.size ≤ gb300); have n3_ := n2_; clear HB; have HB := n0_; have BK300 := n1_; have GW300 := n2_; have GE300 := n3_; clear n0_ n1_ n2_ n3_; clear hb hbox hg) | ((with_reducible refine gate_dst (N := 4) rfl ?_); refine be_ (N := 4) (cs := #[.int .i64 0, .int .u64 0]) (t := 63) ?_; intro gb301 hg w34 hbox hb; have n0_ := Aside0.mk (blk_below (qk_ BK300.out) hb); have n1_ := Aside0.mk (below_step (qb1_ GE300.out HB.out) hb); have n2_ := Aside0.mk (hbox); have n3_ := Aside0.mk (bz_ hg (qb1_ GE300.out HB.out) : w.heap.size ≤ gb301); have n4_ := n3_; have n5_ := Aside0.mk (nl_ hg (qk_ BK300.out) : gb300 ≠ gb301); have n6_ := Aside0.mk (ng_ hg (qk_ BK300.out) : gb301 ≠ gb300); clear BK300; clear HB; have BK300 := n0_; have HB := n1_; have BK301 := n2_; have GW301 := n3_; have GE301 := n4_; have NB300_301 := n5_; have NB301_300 := n6_; clear n0_ n1_ n2_ n3_ n4_ n5_ n6_; clear hb hbox hg))
     have n0_ := Aside0.mk (blk_drew BK300.out)
     have n1_ := Aside0.mk (blk_drew BK301.out)
     have n2_ := Aside0.mk (below_drew1 HB.out)
     clear BK300
     clear BK301
     clear HB
     have BK300 := n0_
     have BK301 := n1_
     have HB := n2_
     clear n0_ n1_ n2_
     refine start_ (n := 9) (S := cS2_ gb300 (.int .u64 a1_0) (.int .u64 a1_1)) (ds := []) (nb_ 9 0) (by kernel_rfl) rfl rfl (cc2_ BK300.out) (fun hHeld => ?_); refine with_tabW corebankref01_JoinP.tab3 corebankref01_JoinP.bits3 (fun HT_ HW_ => ?_)
     generalize w34.drew = w35 at BK300 BK301 HB hHeld ⊢
     refine pz_ 0 19 (nb_ 9 1) HT_.out ?_
     refine pz_ 4 23 (nb_ 9 17) HT_.out ?_
     refine tk2_ 1 20 (nb_ 9 19) HT_.out HW_.out hHeld ?_
     refine pz_ 2 21 (nb_ 9 23) HT_.out ?_
     refine pz_ 3 22 (nb_ 9 31) HT_.out ?_
     refine pz_ 7 6 (nb_ 9 159) HT_.out ?_
     refine tk2_ 5 24 (nb_ 9 191) HT_.out HW_.out hHeld ?_
     refine pz_ 6 25 (nb_ 9 255) HT_.out ?_
     refine pz_ 8 7 (nb_ 9 511) HT_.out ?_
     refine done_ (done_of HT_.out (by kernel_rfl)) ?_
     try go_wp2
     have n0_ := Aside0.mk (blk_drew BK300.out)
     have n1_ := Aside0.mk (blk_drew BK301.out)
     have n2_ := Aside0.mk (below_drew1 HB.out)
     clear BK300
     clear BK301
     clear HB
     have BK300 := n0_
     have BK301 := n1_
     have HB := n2_
     clear n0_ n1_ n2_
     refine start_ (n := 19) (S := cS2_ gb300 (.int .u64 a1_0) (.int .u64 a1_1)) (ds := []) (nb_ 19 0) (by kernel_rfl) rfl rfl (cc2_ BK300.out) (fun hHeld => ?_); refine with_tabW corebankref01_JoinP.tab6 corebankref01_JoinP.bits6 (fun HT_ HW_ => ?_)
     generalize w35.drew = w36 at BK300 BK301 HB hHeld ⊢
     refine pz_ 0 30 (nb_ 19 1) HT_.out ?_
     refine pz_ 1 31 (nb_ 19 3) HT_.out ?_
     refine pz_ 2 32 (nb_ 19 7) HT_.out ?_
     refine pz_ 3 33 (nb_ 19 15) HT_.out ?_
     refine pz_ 4 34 (nb_ 19 31) HT_.out ?_
     refine tk2_ 5 35 (nb_ 19 63) HT_.out HW_.out hHeld ?_
     refine pz_ 6 36 (nb_ 19 127) HT_.out ?_
     refine pz_ 7 37 (nb_ 19 255) HT_.out ?_
     refine pz_ 8 38 (nb_ 19 511) HT_.out ?_
     refine tk2_ 9 39 (nb_ 19 1023) HT_.out HW_.out hHeld ?_
     refine pz_ 10 40 (nb_ 19 2047) HT_.out ?_
     refine pz_ 11 41 (nb_ 19 4095) HT_.out ?_
     refine pz_ 12 42 (nb_ 19 8191) HT_.out ?_
     refine tk2_ 13 43 (nb_ 19 16383) HT_.out HW_.out hHeld ?_
     refine pz_ 14 44 (nb_ 19 32767) HT_.out ?_
     refine pz_ 15 45 (nb_ 19 65535) HT_.out ?_
     refine pz_ 16 46 (nb_ 19 131071) HT_.out ?_
     refine one_ (i := 17) (N := none) (nb_ 19 262143) rfl rfl (one_of HT_.out (by kernel_rfl)) (by decide) (fun K hK => ?_)
     have hs37 : w36.cell? ⟨gb301, 0, none⟩ = some (.int .i64 0) := (blk_cell BK301.out 0).trans rfl
     have hfs37 := blk_frozen BK301.out 0
     have hns37_0 := NB300_301.out
     have hms37_0 := NB301_300.out
     have hs38 : w36.cell? ⟨gb301, 1, none⟩ = some (.int .u64 0) := (blk_cell BK301.out 1).trans rfl
     have hfs38 := blk_frozen BK301.out 1
     have hns38_0 := NB300_301.out
     have hms38_0 := NB301_300.out
     refine skip_ (w1 := ?_) (by rfl) rfl ?_ ?_
     rotate_left
     ·go_simp
      rfl
     refine hK.out _ _ ⟨((cell_far (p := ⟨gb301, _, none⟩) NB300_301.out _).trans (((cell_far (p := ⟨gb301, _, none⟩) NB300_301.out _).trans (hHeld.1)))), ((cell_far (p := ⟨gb301, _, none⟩) NB300_301.out _).trans (((cell_far (p := ⟨gb301, _, none⟩) NB300_301.out _).trans (hHeld.2))))⟩ (fun hHeld => ?_)
     clear hK K
     refine pz_ 18 5 (nb_ 19 524287) HT_.out ?_
     refine done_ (done_of HT_.out (by kernel_rfl)) ?_
     try go_wp2
     refine bodyPost_ret (results_ct rfl _ _ gb301 63 #[.int .i64 (wrap64 (Go.bits .xor .u64 IntKind.u64.max a1_0)), .int .u64 (IntKind.u64.wrap ((Go.bits .xor .u64 IntKind.u64.max a1_1) + 1))] (0, 0) _ rfl (qpp_ #[.int .i64 (wrap64 (Go.bits .xor .u64 IntKind.u64.max a1_0)), .int .u64 0] 1 #[.int .i64 0, .int .u64 0] 0 BK301.out) Tryd.underlying63 rfl (by kernel_rfl)) rfl ?_
     exact ⟨qe_, qb2_ GE300.out GE301.out HB.out⟩
    ·rw [if_neg c32] at H
     have c32b0 : (a1_0 == 9223372036854775808) = false := beq_eq_false_iff_ne.mpr c32
     have c32b1 : (a1_0 != 9223372036854775808) = true := bne_iff_ne.mpr c32
     simp only [Option.some.injEq, Prod.mk.injEq] at H
     obtain ⟨rfl, rfl, rfl⟩ := H
     go_enter Tryd.func73, Tryd.ntmps73
     try go_wp2_with (first | ((with_reducible refine gate_dst (N := 3) rfl ?_); refine be_ (N := 3) (cs := #[.int .u64 a1_0, .int .u64 a1_1]) (t := 96) ?_; intro gb300 hg w39 hbox hb; have n0_ := Aside0.mk (below_step (qb_ HB.out) hb); have n1_ := Aside0.mk (hbox); have n2_ := Aside0.mk (bz_ hg (qb_ HB.out) : w.heap.size ≤ gb300); have n3_ := n2_; clear HB; have HB := n0_; have BK300 := n1_; have GW300 := n2_; have GE300 := n3_; clear n0_ n1_ n2_ n3_; clear hb hbox hg) | ((with_reducible refine gate_dst (N := 4) rfl ?_); refine be_ (N := 4) (cs := #[.int .i64 0, .int .u64 0]) (t := 63) ?_; intro gb301 hg w40 hbox hb; have n0_ := Aside0.mk (blk_below (qk_ BK300.out) hb); have n1_ := Aside0.mk (below_step (qb1_ GE300.out HB.out) hb); have n2_ := Aside0.mk (hbox); have n3_ := Aside0.mk (bz_ hg (qb1_ GE300.out HB.out) : w.heap.size ≤ gb301); have n4_ := n3_; have n5_ := Aside0.mk (nl_ hg (qk_ BK300.out) : gb300 ≠ gb301); have n6_ := Aside0.mk (ng_ hg (qk_ BK300.out) : gb301 ≠ gb300); clear BK300; clear HB; have BK300 := n0_; have HB := n1_; have BK301 := n2_; have GW301 := n3_; have GE301 := n4_; have NB300_301 := n5_; have NB301_300 := n6_; clear n0_ n1_ n2_ n3_ n4_ n5_ n6_; clear hb hbox hg))
     have n0_ := Aside0.mk (blk_drew BK300.out)
     have n1_ := Aside0.mk (blk_drew BK301.out)
     have n2_ := Aside0.mk (below_drew1 HB.out)
     clear BK300
     clear BK301
     clear HB
     have BK300 := n0_
     have BK301 := n1_
     have HB := n2_
     clear n0_ n1_ n2_
     refine start_ (n := 9) (S := cS2_ gb300 (.int .u64 a1_0) (.int .u64 a1_1)) (ds := []) (nb_ 9 0) (by kernel_rfl) rfl rfl (cc2_ BK300.out) (fun hHeld => ?_); refine with_tabW corebankref01_JoinP.tab3 corebankref01_JoinP.bits3 (fun HT_ HW_ => ?_)
     generalize w40.drew = w41 at BK300 BK301 HB hHeld ⊢
     refine pz_ 0 19 (nb_ 9 1) HT_.out ?_
     refine pz_ 4 23 (nb_ 9 17) HT_.out ?_
     refine tk2_ 1 20 (nb_ 9 19) HT_.out HW_.out hHeld ?_
     refine pz_ 2 21 (nb_ 9 23) HT_.out ?_
     refine pz_ 3 22 (nb_ 9 31) HT_.out ?_
     refine pz_ 7 6 (nb_ 9 159) HT_.out ?_
     refine tk2_ 5 24 (nb_ 9 191) HT_.out HW_.out hHeld ?_
     refine pz_ 6 25 (nb_ 9 255) HT_.out ?_
     refine pz_ 8 7 (nb_ 9 511) HT_.out ?_
     refine done_ (done_of HT_.out (by kernel_rfl)) ?_
     try go_wp2
     have n0_ := Aside0.mk (blk_drew BK300.out)
     have n1_ := Aside0.mk (blk_drew BK301.out)
     have n2_ := Aside0.mk (below_drew1 HB.out)
     clear BK300
     clear BK301
     clear HB
     have BK300 := n0_
     have BK301 := n1_
     have HB := n2_
     clear n0_ n1_ n2_
     refine start_ (n := 19) (S := cS2_ gb300 (.int .u64 a1_0) (.int .u64 a1_1)) (ds := []) (nb_ 19 0) (by kernel_rfl) rfl rfl (cc2_ BK300.out) (fun hHeld => ?_); refine with_tabW corebankref01_JoinP.tab6 corebankref01_JoinP.bits6 (fun HT_ HW_ => ?_)
     generalize w41.drew = w42 at BK300 BK301 HB hHeld ⊢
     refine pz_ 0 30 (nb_ 19 1) HT_.out ?_
     refine pz_ 1 31 (nb_ 19 3) HT_.out ?_
     refine pz_ 2 32 (nb_ 19 7) HT_.out ?_
     refine pz_ 3 33 (nb_ 19 15) HT_.out ?_
     refine pz_ 4 34 (nb_ 19 31) HT_.out ?_
     refine tk2_ 5 35 (nb_ 19 63) HT_.out HW_.out hHeld ?_
     refine pz_ 6 36 (nb_ 19 127) HT_.out ?_
     refine pz_ 7 37 (nb_ 19 255) HT_.out ?_
     refine pz_ 8 38 (nb_ 19 511) HT_.out ?_
     refine tk2_ 9 39 (nb_ 19 1023) HT_.out HW_.out hHeld ?_
     refine pz_ 10 40 (nb_ 19 2047) HT_.out ?_
     refine pz_ 11 41 (nb_ 19 4095) HT_.out ?_
     refine pu_ 12 42 (nb_ 19 8191) HT_.out ?_
     refine pu_ 13 43 (nb_ 19 16383) HT_.out ?_
     refine pu_ 14 44 (nb_ 19 32767) HT_.out ?_
     refine pz_ 15 45 (nb_ 19 65535) HT_.out ?_
     refine pz_ 16 46 (nb_ 19 131071) HT_.out ?_
     refine one_ (i := 17) (N := none) (nb_ 19 262143) rfl rfl (one_of HT_.out (by kernel_rfl)) (by decide) (fun K hK => ?_)
     have hs43 : w42.cell? ⟨gb301, 0, none⟩ = some (.int .i64 0) := (blk_cell BK301.out 0).trans rfl
     have hfs43 := blk_frozen BK301.out 0
     have hns43_0 := NB300_301.out
     have hms43_0 := NB301_300.out
     have hs44 : w42.cell? ⟨gb301, 1, none⟩ = some (.int .u64 0) := (blk_cell BK301.out 1).trans rfl
     have hfs44 := blk_frozen BK301.out 1
     have hns44_0 := NB300_301.out
     have hms44_0 := NB301_300.out
     refine skip_ (w1 := ?_) (by rfl) rfl ?_ ?_
     rotate_left
     ·go_simp
      rfl
     refine hK.out _ _ ⟨((cell_far (p := ⟨gb301, _, none⟩) NB300_301.out _).trans (((cell_far (p := ⟨gb301, _, none⟩) NB300_301.out _).trans (hHeld.1)))), ((cell_far (p := ⟨gb301, _, none⟩) NB300_301.out _).trans (((cell_far (p := ⟨gb301, _, none⟩) NB300_301.out _).trans (hHeld.2))))⟩ (fun hHeld => ?_)
     clear hK K
     refine pz_ 18 5 (nb_ 19 524287) HT_.out ?_
     refine done_ (done_of HT_.out (by kernel_rfl)) ?_
     try go_wp2
     refine bodyPost_ret (results_ct rfl _ _ gb301 63 #[.int .i64 (wrap64 (Go.bits .xor .u64 IntKind.u64.max a1_0)), .int .u64 (IntKind.u64.wrap ((Go.bits .xor .u64 IntKind.u64.max a1_1) + 1))] (0, 0) _ rfl (qpp_ #[.int .i64 (wrap64 (Go.bits .xor .u64 IntKind.u64.max a1_0)), .int .u64 0] 1 #[.int .i64 0, .int .u64 0] 0 BK301.out) Tryd.underlying63 rfl (by kernel_rfl)) rfl ?_
     exact ⟨qe_, qb2_ GE300.out GE301.out HB.out⟩
 ·replace c3 := Bool.eq_false_iff.mpr c3
  subst c3
  have H1 : (some (wrap64 (a1_0), a1_1, decide (a1_0 < 9223372036854775808))) = some (r1, r2, r3) := by rw [if_neg (show ¬ (false = true) by decide)] at H; exact H
  clear H
  have H := H1
  clear H1
  simp only [Option.some.injEq, Prod.mk.injEq] at H
  obtain ⟨rfl, rfl, rfl⟩ := H
  go_enter Tryd.func73, Tryd.ntmps73
  try go_wp2_with (first | ((with_reducible refine gate_dst (N := 3) rfl ?_); refine be_ (N := 3) (cs := #[.int .u64 a1_0, .int .u64 a1_1]) (t := 96) ?_; intro gb300 hg w45 hbox hb; have n0_ := Aside0.mk (below_step (qb_ HB.out) hb); have n1_ := Aside0.mk (hbox); have n2_ := Aside0.mk (bz_ hg (qb_ HB.out) : w.heap.size ≤ gb300); have n3_ := n2_; clear HB; have HB := n0_; have BK300 := n1_; have GW300 := n2_; have GE300 := n3_; clear n0_ n1_ n2_ n3_; clear hb hbox hg) | ((with_reducible refine gate_dst (N := 4) rfl ?_); refine be_ (N := 4) (cs := #[.int .i64 0, .int .u64 0]) (t := 63) ?_; intro gb301 hg w46 hbox hb; have n0_ := Aside0.mk (blk_below (qk_ BK300.out) hb); have n1_ := Aside0.mk (below_step (qb1_ GE300.out HB.out) hb); have n2_ := Aside0.mk (hbox); have n3_ := Aside0.mk (bz_ hg (qb1_ GE300.out HB.out) : w.heap.size ≤ gb301); have n4_ := n3_; have n5_ := Aside0.mk (nl_ hg (qk_ BK300.out) : gb300 ≠ gb301); have n6_ := Aside0.mk (ng_ hg (qk_ BK300.out) : gb301 ≠ gb300); clear BK300; clear HB; have BK300 := n0_; have HB := n1_; have BK301 := n2_; have GW301 := n3_; have GE301 := n4_; have NB300_301 := n5_; have NB301_300 := n6_; clear n0_ n1_ n2_ n3_ n4_ n5_ n6_; clear hb hbox hg))
  have n0_ := Aside0.mk (blk_drew BK300.out)
  have n1_ := Aside0.mk (blk_drew BK301.out)
  have n2_ := Aside0.mk (below_drew1 HB.out)
  clear BK300
  clear BK301
  clear HB
  have BK300 := n0_
  have BK301 := n1_
  have HB := n2_
  clear n0_ n1_ n2_
  refine start_ (n := 11) (S := cS2_ gb300 (.int .u64 a1_0) (.int .u64 a1_1)) (ds := []) (nb_ 11 0) (by kernel_rfl) rfl rfl (cc2_ BK300.out) (fun hHeld => ?_); refine with_tabW corebankref01_JoinP.tab2 corebankref01_JoinP.bits2 (fun HT_ HW_ => ?_)
  generalize w46.drew = w47 at BK300 BK301 HB hHeld ⊢
  refine pz_ 0 10 (nb_ 11 1) HT_.out ?_
  refine pz_ 3 13 (nb_ 11 9) HT_.out ?_
  refine pz_ 6 16 (nb_ 11 73) HT_.out ?_
  refine tk2_ 1 11 (nb_ 11 75) HT_.out HW_.out hHeld ?_
  refine pz_ 2 12 (nb_ 11 79) HT_.out ?_
  refine tk2_ 4 14 (nb_ 11 95) HT_.out HW_.out hHeld ?_
  refine pz_ 5 15 (nb_ 11 127) HT_.out ?_
  refine tk2_ 7 17 (nb_ 11 255) HT_.out HW_.out hHeld ?_
  refine pz_ 8 18 (nb_ 11 511) HT_.out ?_
  refine one_ (i := 9) (N := none) (nb_ 11 1023) rfl rfl (one_of HT_.out (by kernel_rfl)) (by decide) (fun K hK => ?_)
  have hs48 : w47.cell? ⟨gb301, 0, none⟩ = some (.int .i64 0) := (blk_cell BK301.out 0).trans rfl
  have hfs48 := blk_frozen BK301.out 0
  have hns48_0 := NB300_301.out
  have hms48_0 := NB301_300.out
  have hs49 : w47.cell? ⟨gb301, 1, none⟩ = some (.int .u64 0) := (blk_cell BK301.out 1).trans rfl
  have hfs49 := blk_frozen BK301.out 1
  have hns49_0 := NB300_301.out
  have hms49_0 := NB301_300.out
  refine skip_ (w1 := ?_) (by rfl) rfl ?_ ?_
  rotate_left
  ·go_simp
   rfl
  refine hK.out _ _ ⟨((cell_far (p := ⟨gb301, _, none⟩) NB300_301.out _).trans (((cell_far (p := ⟨gb301, _, none⟩) NB300_301.out _).trans (hHeld.1)))), ((cell_far (p := ⟨gb301, _, none⟩) NB300_301.out _).trans (((cell_far (p := ⟨gb301, _, none⟩) NB300_301.out _).trans (hHeld.2))))⟩ (fun hHeld => ?_)
  clear hK K
  refine pz_ 10 5 (nb_ 11 2047) HT_.out ?_
  refine done_ (done_of HT_.out (by kernel_rfl)) ?_
  try go_wp2
  refine bodyPost_ret (results_ct rfl _ _ gb301 63 #[.int .i64 (wrap64 (a1_0)), .int .u64 a1_1] (0, 0) _ rfl (qpp_ #[.int .i64 (wrap64 (a1_0)), .int .u64 0] 1 #[.int .i64 0, .int .u64 0] 0 BK301.out) Tryd.underlying63 rfl (by kernel_rfl)) rfl ?_
  exact ⟨qe_, qb2_ GE300.out GE301.out HB.out⟩
def corebankref01_Join.f (a0 : Bool) (a1_0 a1_1 : Int) : Option (Int × Int × Bool) :=
 if inU a1_0 ∧ inU a1_1 then
  some (wrap64 ((if a0 = true then -(wv a1_0 a1_1) else wv a1_0 a1_1) / 18446744073709551616), (if a0 = true then -(wv a1_0 a1_1) else wv a1_0 a1_1) % 18446744073709551616, decide (in128 (if a0 = true then -(wv a1_0 a1_1) else wv a1_0 a1_1))) else none
theorem corebankref01_Join.eq {n : Bool} {a b : Int} {r : Int × Int × Bool} (h : corebankref01_Join.f n a b = some r) : corebankref01_JoinP.f n a b = some r := by
 unfold corebankref01_Join.f at h
 split at h
 ·rename_i c
  obtain ⟨⟨c0, c1⟩, c2, c3⟩ := c
  injection h with h
  subst h
  unfold corebankref01_JoinP.f
  rw [xorMax b c2 c3, xorMax a c0 c1]
  simp only [IntKind.wrap_u64]
  cases n with
  | true =>
   simp only [if_true]
   unfold wv
   split <;> split
   ·rw [decide_eq_true (by unfold in128; omega)]; congr 2
    ·unfold wrap64; omega
    ·congr 1; omega
   ·split
    ·congr 2
     ·unfold wrap64; omega
     ·congr 1
      ·omega
      ·rw [Bool.eq_iff_iff, beq_iff_eq, decide_eq_true_eq]; unfold in128; omega
    ·rw [decide_eq_false (by unfold in128; omega)]; congr 2
     ·unfold wrap64; omega
     ·congr 1; omega
   ·rw [decide_eq_true (by unfold in128; omega)]; congr 2
    ·unfold wrap64; omega
    ·congr 1; omega
   ·split
    ·congr 2
     ·unfold wrap64; omega
     ·congr 1
      ·omega
      ·rw [Bool.eq_iff_iff, beq_iff_eq, decide_eq_true_eq]; unfold in128; omega
    ·rw [decide_eq_false (by unfold in128; omega)]; congr 2
     ·unfold wrap64; omega
     ·congr 1; omega
  | false =>
   simp only [Bool.false_eq_true, if_false]
   unfold wv
   congr 2
   ·unfold wrap64; omega
   ·congr 1
    ·omega
    ·apply decide_eq_decide.mpr; unfold in128; omega
 ·cases h
theorem corebankref01_Join.calls (a0 : Bool) (a1_0 a1_1 r1 r2 : Int) (r3 : Bool) (w : World) (h : corebankref01_Join.f a0 a1_0 a1_1 = some (r1, r2, r3)) :
  Calls Tryd.prog 73 #[.bool a0, .agg #[.int .u64 a1_0, .int .u64 a1_1]] w fun e w' => e = .returned (.tuple #[.agg #[.int .i64 r1, .int .u64 r2], .bool r3]) ∧ Below w.heap.size w w' := by
 have h := corebankref01_Join.eq h
 exact corebankref01_JoinP.calls a0 a1_0 a1_1 r1 r2 r3 w h
mutual
def corebankref01_DivP.j0 : Nat → Int → Bool → Int → Bool → Int → Int → Option (Int × Int × Int × Int)
 | 0, _, _, _, _, _, _ => none
 | k + 1, x1, x7, x10, x32, x312000, x312001 => if x32 = true then ((corebankref01_plus.f x312000 x312001 0 1).bind fun bt312 => (corebankref01_DivP.j1 k x7 (IntKind.u64.wrap ((IntKind.u64.wrap (x1)) - x10)) bt312.1 bt312.2.1)) else (corebankref01_DivP.j1 k x7 x10 x312000 x312001)
def corebankref01_DivP.j1 : Nat → Bool → Int → Int → Int → Option (Int × Int × Int × Int)
 | 0, _, _, _, _ => none
 | k + 1, x7, x10, x312000, x312001 => (corebankref01_Join.f x7 x312000 x312001).bind fun bt315 => (some (bt315.1, bt315.2.1, wrap64 (x10), 0))
end
def corebankref01_DivP.f (k : Nat) (a0_0 a0_1 a1 : Int) : Option (Int × Int × Int × Int) := if a1 < 1 then (some (0, 0, 0, 1)) else ((corebankref01_Split.f a0_0 a0_1).bind fun bt304 => ((corebankref01_Quotient.f bt304.2.1 bt304.2.2 (IntKind.u64.wrap (a1))).bind fun bt308 => (if bt304.1 = true then (corebankref01_DivP.j0 k a1 bt304.1 bt308.2.2 (decide (bt308.2.2 > 0)) bt308.1 bt308.2.1) else (corebankref01_DivP.j0 k a1 bt304.1 bt308.2.2 false bt308.1 bt308.2.1))))
set_option maxHeartbeats 8000000 in
set_option maxRecDepth 100000 in
theorem corebankref01_DivP.calls (k : Nat) (a0_0 a0_1 a1 r1 r2 r3 r4 : Int) (w : World) (h : corebankref01_DivP.f k a0_0 a0_1 a1 = some (r1, r2, r3, r4)) :
  Calls Tryd.prog 59 #[.agg #[.int .i64 a0_0, .int .u64 a0_1], .int .i64 a1] w fun e w' => e = .returned (.tuple #[.agg #[.int .i64 r1, .int .u64 r2], .int .i64 r3, .int .i64 r4]) ∧ Below w.heap.size w w' := by
 have hu63 := Tryd.underlying63
 have hu96 := Tryd.underlying96
 have HB := Aside0.mk (Below.refl w.heap.size w)
 have H : (if a1 < 1 then (some (0, 0, 0, 1)) else ((corebankref01_Split.f a0_0 a0_1).bind fun bt304 => ((corebankref01_Quotient.f bt304.2.1 bt304.2.2 (IntKind.u64.wrap (a1))).bind fun bt308 => (if bt304.1 = true then (corebankref01_DivP.j0 k a1 bt304.1 bt308.2.2 (decide (bt308.2.2 > 0)) bt308.1 bt308.2.1) else (corebankref01_DivP.j0 k a1 bt304.1 bt308.2.2 false bt308.1 bt308.2.1))))) = some (r1, r2, r3, r4) := h
 clear h
 by_cases c3 : a1 < 1
 ·rw [if_pos c3] at H
  have c3b0 : decide (a1 < 1) = true := decide_eq_true c3
  clear c3
  simp only [Option.some.injEq, Prod.mk.injEq] at H
  obtain ⟨rfl, rfl, rfl, rfl⟩ := H
  go_enter Tryd.func59, Tryd.ntmps59
  go_wp2_with (first | ((with_reducible refine gate_dst (N := 2) rfl ?_); refine be_ (N := 2) (cs := #[.int .i64 a0_0, .int .u64 a0_1]) (t := 63) ?_; intro gb302 hg w4 hbox hb; have n0_ := Aside0.mk (below_step (qb_ HB.out) hb); have n1_ := Aside0.mk (hbox); have n2_ := Aside0.mk (bz_ hg (qb_ HB.out) : w.heap.size ≤ gb302); have n3_ := n2_; clear HB; have HB := n0_; have BK302 := n1_; have GW302 := n2_; have GE302 := n3_; clear n0_ n1_ n2_ n3_; clear hb hbox hg) | ((with_reducible refine gate_dst (N := 4) rfl ?_); refine be_ (N := 4) (cs := #[.int .i64 0, .int .u64 0]) (t := 63) ?_; intro gb303 hg w5 hbox hb; have n0_ := Aside0.mk (blk_below (qk_ BK302.out) hb); have n1_ := Aside0.mk (below_step (qb1_ GE302.out HB.out) hb); have n2_ := Aside0.mk (hbox); have n3_ := Aside0.mk (bz_ hg (qb1_ GE302.out HB.out) : w.heap.size ≤ gb303); have n4_ := n3_; have n5_ := Aside0.mk (nl_ hg (qk_ BK302.out) : gb302 ≠ gb303); have n6_ := Aside0.mk (ng_ hg (qk_ BK302.out) : gb303 ≠ gb302); clear BK302; clear HB; have BK302 := n0_; have HB := n1_; have BK303 := n2_; have GW303 := n3_; have GE303 := n4_; have NB302_303 := n5_; have NB303_302 := n6_; clear n0_ n1_ n2_ n3_ n4_ n5_ n6_; clear hb hbox hg; have hnb6 := NB303_302.out; have hnc6 := NB302_303.out; obtain ⟨Z7_0, Z7_1, Y7_0, Y7_1⟩ := cz2_ BK303.out))
  refine bodyPost_ret (results_ctt rfl _ _ gb303 63 #[.int .i64 0, .int .u64 0] (0, 0) _ rfl (qpp_ #[.int .i64 0, .int .u64 0] 1 #[.int .i64 0, .int .u64 0] 0 BK303.out) Tryd.underlying63 rfl (by kernel_rfl)) rfl ?_
  exact ⟨qe_, qb2_ GE302.out GE303.out HB.out⟩
 ·rw [if_neg c3] at H
  have c3b0 : decide (a1 < 1) = false := decide_eq_false c3
  clear c3
  replace H := Option.bind_eq_some_iff.mp H
  obtain ⟨⟨t304, t305, t306⟩, A80, H⟩ := H
  replace H : ((corebankref01_Quotient.f t305 t306 (IntKind.u64.wrap (a1))).bind fun bt308 => (if t304 = true then (corebankref01_DivP.j0 k a1 t304 bt308.2.2 (decide (bt308.2.2 > 0)) bt308.1 bt308.2.1) else (corebankref01_DivP.j0 k a1 t304 bt308.2.2 false bt308.1 bt308.2.1))) = some (r1, r2, r3, r4) := H
  have A8 := Aside0.mk A80
  clear A80
  replace H := Option.bind_eq_some_iff.mp H
  obtain ⟨⟨t308, t309, t310⟩, A90, H⟩ := H
  replace H : (if t304 = true then (corebankref01_DivP.j0 k a1 t304 t310 (decide (t310 > 0)) t308 t309) else (corebankref01_DivP.j0 k a1 t304 t310 false t308 t309)) = some (r1, r2, r3, r4) := H
  have A9 := Aside0.mk A90
  clear A90
  have HC10 := Aside0.mk H
  clear H
  go_enter Tryd.func59, Tryd.ntmps59
  go_upto_region 5 with (first | ((with_reducible refine gate_dst (N := 2) rfl ?_); refine be_ (N := 2) (cs := #[.int .i64 a0_0, .int .u64 a0_1]) (t := 63) ?_; intro gb302 hg w11 hbox hb; have n0_ := Aside0.mk (below_step (qb_ HB.out) hb); have n1_ := Aside0.mk (hbox); have n2_ := Aside0.mk (bz_ hg (qb_ HB.out) : w.heap.size ≤ gb302); have n3_ := n2_; clear HB; have HB := n0_; have BK302 := n1_; have GW302 := n2_; have GE302 := n3_; clear n0_ n1_ n2_ n3_; clear hb hbox hg) | ((with_reducible refine gate_dst (N := 4) rfl ?_); refine be_ (N := 4) (cs := #[.int .i64 0, .int .u64 0]) (t := 63) ?_; intro gb303 hg w12 hbox hb; have n0_ := Aside0.mk (blk_below (qk_ BK302.out) hb); have n1_ := Aside0.mk (below_step (qb1_ GE302.out HB.out) hb); have n2_ := Aside0.mk (hbox); have n3_ := Aside0.mk (bz_ hg (qb1_ GE302.out HB.out) : w.heap.size ≤ gb303); have n4_ := n3_; have n5_ := Aside0.mk (nl_ hg (qk_ BK302.out) : gb302 ≠ gb303); have n6_ := Aside0.mk (ng_ hg (qk_ BK302.out) : gb303 ≠ gb302); clear BK302; clear HB; have BK302 := n0_; have HB := n1_; have BK303 := n2_; have GW303 := n3_; have GE303 := n4_; have NB302_303 := n5_; have NB303_302 := n6_; clear n0_ n1_ n2_ n3_ n4_ n5_ n6_; clear hb hbox hg; have hnb13 := NB302_303.out; have hnc13 := NB303_302.out; obtain ⟨Z14_0, Z14_1, Y14_0, Y14_1⟩ := cz2_ BK302.out) | ((with_reducible refine gate_callee (f := 70) rfl ?_); refine goesL_ (some 18) rfl rfl Tryd.func70 (by kernel_rfl) rfl #[.agg #[.int .i64 a0_0, .int .u64 a0_1]] rfl ql_ ?_; (with_reducible refine (corebankref01_Split.calls a0_0 a0_1 t304 t305 t306 _ A8.out).mono ?_); rintro e w15 ⟨rfl, hb⟩; refine ⟨_, rfl, ?_⟩; have n0_ := Aside0.mk (blk_below (qk_ BK302.out) hb); have n1_ := Aside0.mk (blk_below (qk_ BK303.out) hb); have n2_ := Aside0.mk (below_step (qb2_ GE302.out GE303.out HB.out) hb); clear BK302; clear BK303; clear HB; have BK302 := n0_; have BK303 := n1_; have HB := n2_; clear n0_ n1_ n2_; (try clear hb); (try clear hb2); (try clear hk); (try clear hi)) | ((with_reducible refine gate_dst (N := 8) rfl ?_); refine be_ (N := 8) (cs := #[.int .u64 0, .int .u64 0]) (t := 96) ?_; intro gb307 hg w16 hbox hb; have n0_ := Aside0.mk (blk_below (qk_ BK302.out) hb); have n1_ := Aside0.mk (blk_below (qk_ BK303.out) hb); have n2_ := Aside0.mk (below_step (qb2_ GE302.out GE303.out HB.out) hb); have n3_ := Aside0.mk (hbox); have n4_ := Aside0.mk (bz_ hg (qb2_ GE302.out GE303.out HB.out) : w.heap.size ≤ gb307); have n5_ := n4_; have n6_ := Aside0.mk (nl_ hg (qk_ BK302.out) : gb302 ≠ gb307); have n7_ := Aside0.mk (ng_ hg (qk_ BK302.out) : gb307 ≠ gb302); have n8_ := Aside0.mk (nl_ hg (qk_ BK303.out) : gb303 ≠ gb307); have n9_ := Aside0.mk (ng_ hg (qk_ BK303.out) : gb307 ≠ gb303); clear BK302; clear BK303; clear HB; have BK302 := n0_; have BK303 := n1_; have HB := n2_; have BK307 := n3_; have GW307 := n4_; have GE307 := n5_; have NB302_307 := n6_; have NB307_302 := n7_; have NB303_307 := n8_; have NB307_303 := n9_; clear n0_ n1_ n2_ n3_ n4_ n5_ n6_ n7_ n8_ n9_; clear hb hbox hg; have hnb17 := NB307_302.out; have hnc17 := NB302_307.out; have hnb18 := NB307_303.out; have hnc18 := NB303_307.out; obtain ⟨Z19_0, Z19_1, Y19_0, Y19_1⟩ := cz2_ BK307.out) | ((with_reducible refine gate_callee (f := 71) rfl ?_); refine goesL_ (some 25) rfl rfl Tryd.func71 (by kernel_rfl) rfl #[.agg #[.int .u64 t305, .int .u64 t306], .int .u64 (IntKind.u64.wrap (a1))] rfl ql_ ?_; (with_reducible refine (corebankref01_Quotient.calls t305 t306 (IntKind.u64.wrap (a1)) t308 t309 t310 _ A9.out).mono ?_); rintro e w20 ⟨rfl, hb⟩; refine ⟨_, rfl, ?_⟩; have n0_ := Aside0.mk (blk_below (g := gb302) (o := .cells #[.int .i64 a0_0, .int .u64 a0_1] 63 (0, 0)) (qff_ NB302_307.out NB302_307.out BK302.out) hb); have n1_ := Aside0.mk (blk_below (g := gb303) (o := .cells #[.int .i64 0, .int .u64 0] 63 (0, 0)) (qff_ NB303_307.out NB303_307.out BK303.out) hb); have n2_ := Aside0.mk (blk_below (g := gb307) (o := .cells #[.int .u64 t305, .int .u64 t306] 96 (0, 0)) (qpp_ #[.int .u64 t305, .int .u64 0] 1 #[.int .u64 0, .int .u64 0] 0 BK307.out) hb); have n3_ := Aside0.mk (below_step (qb3_ GE302.out GE303.out GE307.out HB.out) hb); clear BK302; clear BK303; clear BK307; clear HB; have BK302 := n0_; have BK303 := n1_; have BK307 := n2_; have HB := n3_; clear n0_ n1_ n2_ n3_; (try clear hb); (try clear hb2); (try clear hk); (try clear hi)) | ((with_reducible refine gate_dst (N := 9) rfl ?_); refine be_ (N := 9) (cs := #[.int .u64 0, .int .u64 0]) (t := 96) ?_; intro gb311 hg w21 hbox hb; have n0_ := Aside0.mk (blk_below (qk_ BK302.out) hb); have n1_ := Aside0.mk (blk_below (qk_ BK303.out) hb); have n2_ := Aside0.mk (blk_below (qk_ BK307.out) hb); have n3_ := Aside0.mk (below_step (qb3_ GE302.out GE303.out GE307.out HB.out) hb); have n4_ := Aside0.mk (hbox); have n5_ := Aside0.mk (bz_ hg (qb3_ GE302.out GE303.out GE307.out HB.out) : w.heap.size ≤ gb311); have n6_ := n5_; have n7_ := Aside0.mk (nl_ hg (qk_ BK302.out) : gb302 ≠ gb311); have n8_ := Aside0.mk (ng_ hg (qk_ BK302.out) : gb311 ≠ gb302); have n9_ := Aside0.mk (nl_ hg (qk_ BK303.out) : gb303 ≠ gb311); have n10_ := Aside0.mk (ng_ hg (qk_ BK303.out) : gb311 ≠ gb303); have n11_ := Aside0.mk (nl_ hg (qk_ BK307.out) : gb307 ≠ gb311); have n12_ := Aside0.mk (ng_ hg (qk_ BK307.out) : gb311 ≠ gb307); clear BK302; clear BK303; clear BK307; clear HB; have BK302 := n0_; have BK303 := n1_; have BK307 := n2_; have HB := n3_; have BK311 := n4_; have GW311 := n5_; have GE311 := n6_; have NB302_311 := n7_; have NB311_302 := n8_; have NB303_311 := n9_; have NB311_303 := n10_; have NB307_311 := n11_; have NB311_307 := n12_; clear n0_ n1_ n2_ n3_ n4_ n5_ n6_ n7_ n8_ n9_ n10_ n11_ n12_; clear hb hbox hg; have hnb22 := NB311_302.out; have hnc22 := NB302_311.out; have hnb23 := NB311_303.out; have hnc23 := NB303_311.out; have hnb24 := NB311_307.out; have hnc24 := NB307_311.out; obtain ⟨Z25_0, Z25_1, Y25_0, Y25_1⟩ := cz2_ BK311.out))
  (try simp only [Act.put, List.setIfInBounds_toArray, List.set_cons_zero, List.set_cons_succ])
  go_cut [32] (fun v32 wc => ∃ (kq : Nat) (x32_9 : Bool), v32 = .bool x32_9 ∧ Aside0 (corebankref01_DivP.j0 kq a1 t304 t310 x32_9 t308 t309 = some (r1, r2, r3, r4)) ∧ Aside0 (kq ≤ k) ∧ Aside0 (wc.heap[gb302]? = some (.cells #[.int .i64 a0_0, .int .u64 a0_1] 63 (0, 0))) ∧ Aside0 (wc.heap[gb303]? = some (.cells #[.int .i64 0, .int .u64 0] 63 (0, 0))) ∧ Aside0 (wc.heap[gb307]? = some (.cells #[.int .u64 t305, .int .u64 t306] 96 (0, 0))) ∧ Aside0 (wc.heap[gb311]? = some (.cells #[.int .u64 t308, .int .u64 t309] 96 (0, 0))) ∧ Aside0 (Below w.heap.size w wc))
  case first =>
   have H := HC10.out
   clear HC10
   by_cases c26 : t304 = true
   ·subst c26
    have H1 : (corebankref01_DivP.j0 k a1 true t310 (decide (t310 > 0)) t308 t309) = some (r1, r2, r3, r4) := by rw [if_pos rfl] at H; exact H
    clear H
    have H := H1
    clear H1
    have H' := Aside0.mk H
    clear H
    go_wp2
    go_meet
    case rel => exact ⟨_, (decide (t310 > 0)), qs_, H', ⟨qo_⟩, ⟨qff_ NB302_311.out NB302_311.out BK302.out⟩, ⟨qff_ NB303_311.out NB303_311.out BK303.out⟩, ⟨qff_ NB307_311.out NB307_311.out BK307.out⟩, ⟨qpp_ #[.int .u64 t308, .int .u64 0] 1 #[.int .u64 0, .int .u64 0] 0 BK311.out⟩, ⟨qb4_ GE302.out GE303.out GE307.out GE311.out HB.out⟩⟩
   ·replace c26 := Bool.eq_false_iff.mpr c26
    subst c26
    have H1 : (corebankref01_DivP.j0 k a1 false t310 false t308 t309) = some (r1, r2, r3, r4) := by rw [if_neg (show ¬ (false = true) by decide)] at H; exact H
    clear H
    have H := H1
    clear H1
    have H' := Aside0.mk H
    clear H
    go_wp2
    go_meet
    case rel => exact ⟨_, (false), qs_, H', ⟨qo_⟩, ⟨qff_ NB302_311.out NB302_311.out BK302.out⟩, ⟨qff_ NB303_311.out NB303_311.out BK303.out⟩, ⟨qff_ NB307_311.out NB307_311.out BK307.out⟩, ⟨qpp_ #[.int .u64 t308, .int .u64 0] 1 #[.int .u64 0, .int .u64 0] 0 BK311.out⟩, ⟨qb4_ GE302.out GE303.out GE307.out GE311.out HB.out⟩⟩
  case rest =>
   clear HC10
   try clear c1
   try clear c2
   try clear p2
   try clear c3
   try clear c3b0
   try clear c5
   try clear c6
   try clear c7
   try clear c13
   try clear c17
   try clear c18
   try clear c22
   try clear c23
   try clear c24
   try clear c26
   (try clear Z14_0 Z14_1 Y14_0 Y14_1)
   (try clear Z19_0 Z19_1 Y19_0 Y19_1)
   (try clear Z25_0 Z25_1 Y25_0 Y25_1)
   (try clear Z7_0 Z7_1 Y7_0 Y7_1)
   obtain ⟨kq, x32_9, rfl, HA, HJ9, BK302, BK303, BK307, BK311, HB⟩ := hcut
   cases kq with
   | zero => exact absurd HA.out (by simp [corebankref01_DivP.j0])
   | succ kj9 =>
    have H := HA.out
    clear HA
    simp only [corebankref01_DivP.j0] at H
    have HC27 := Aside0.mk H
    clear H
    go_upto_if 32 with (fail)
    go_cut [10] (fun v10 wc => ∃ (kq : Nat) (x10_26 x312000_26 x312001_26 : Int), v10 = .int .u64 x10_26 ∧ Aside0 (corebankref01_DivP.j1 kq t304 x10_26 x312000_26 x312001_26 = some (r1, r2, r3, r4)) ∧ Aside0 (kq ≤ kj9) ∧ Aside0 (wc.heap[gb302]? = some (.cells #[.int .i64 a0_0, .int .u64 a0_1] 63 (0, 0))) ∧ Aside0 (wc.heap[gb303]? = some (.cells #[.int .i64 0, .int .u64 0] 63 (0, 0))) ∧ Aside0 (wc.heap[gb307]? = some (.cells #[.int .u64 t305, .int .u64 t306] 96 (0, 0))) ∧ Aside0 (wc.heap[gb311]? = some (.cells #[.int .u64 x312000_26, .int .u64 x312001_26] 96 (0, 0))) ∧ Aside0 (Below w.heap.size w wc))
    case first =>
     have H := HC27.out
     clear HC27
     by_cases c28 : x32_9 = true
     ·subst c28
      have H1 : ((corebankref01_plus.f t308 t309 0 1).bind fun bt312 => (corebankref01_DivP.j1 kj9 t304 (IntKind.u64.wrap ((IntKind.u64.wrap (a1)) - t310)) bt312.1 bt312.2.1)) = some (r1, r2, r3, r4) := by rw [if_pos rfl] at H; exact H
      clear H
      have H := H1
      clear H1
      replace H := Option.bind_eq_some_iff.mp H
      obtain ⟨⟨t312, t313, t314⟩, A290, H⟩ := H
      replace H : (corebankref01_DivP.j1 kj9 t304 (IntKind.u64.wrap ((IntKind.u64.wrap (a1)) - t310)) t312 t313) = some (r1, r2, r3, r4) := H
      have A29 := Aside0.mk A290
      clear A290
      have H' := Aside0.mk H
      clear H
      have hnb30 := NB311_302.out
      have hnc30 := NB302_311.out
      have hnb31 := NB311_303.out
      have hnc31 := NB303_311.out
      have hnb32 := NB311_307.out
      have hnc32 := NB307_311.out
      obtain ⟨Z33_0, Z33_1, Y33_0, Y33_1⟩ := cz2_ BK311.out
      go_wp2_with (first | ((with_reducible refine gate_callee (f := 72) rfl ?_); refine goesL_ (some 36) rfl rfl Tryd.func72 (by kernel_rfl) rfl #[.agg #[.int .u64 t308, .int .u64 t309], .agg #[.int .u64 0, .int .u64 1]] rfl ql_ ?_; (with_reducible refine (corebankref01_plus.calls t308 t309 0 1 t312 t313 t314 _ A29.out).mono ?_); rintro e w34 ⟨rfl, hb⟩; refine ⟨_, rfl, ?_⟩; have n0_ := Aside0.mk (blk_below (qk_ BK302.out) hb); have n1_ := Aside0.mk (blk_below (qk_ BK303.out) hb); have n2_ := Aside0.mk (blk_below (qk_ BK307.out) hb); have n3_ := Aside0.mk (blk_below (qk_ BK311.out) hb); have n4_ := Aside0.mk (below_step (qb4_ GE302.out GE303.out GE307.out GE311.out HB.out) hb); clear BK302; clear BK303; clear BK307; clear BK311; clear HB; have BK302 := n0_; have BK303 := n1_; have BK307 := n2_; have BK311 := n3_; have HB := n4_; clear n0_ n1_ n2_ n3_ n4_; (try clear hb); (try clear hb2); (try clear hk); (try clear hi); obtain ⟨Z35_0, Z35_1, Y35_0, Y35_1⟩ := cz2_ BK311.out))
      go_meet
      case rel => exact ⟨_, (IntKind.u64.wrap ((IntKind.u64.wrap (a1)) - t310)), (t312), (t313), qs_, H', ⟨by have := HJ9.out; first | omega | exact Nat.le_refl _⟩, ⟨qff_ NB302_311.out NB302_311.out BK302.out⟩, ⟨qff_ NB303_311.out NB303_311.out BK303.out⟩, ⟨qff_ NB307_311.out NB307_311.out BK307.out⟩, ⟨qpp_ #[.int .u64 t312, .int .u64 t309] 1 #[.int .u64 t308, .int .u64 t309] 0 BK311.out⟩, ⟨qb4_ GE302.out GE303.out GE307.out GE311.out HB.out⟩⟩
     ·replace c28 := Bool.eq_false_iff.mpr c28
      subst c28
      have H1 : (corebankref01_DivP.j1 kj9 t304 t310 t308 t309) = some (r1, r2, r3, r4) := by rw [if_neg (show ¬ (false = true) by decide)] at H; exact H
      clear H
      have H := H1
      clear H1
      have H' := Aside0.mk H
      clear H
      go_wp2
      go_meet
      case rel => exact ⟨_, (t310), (t308), (t309), qs_, H', ⟨by have := HJ9.out; first | omega | exact Nat.le_refl _⟩, ⟨qk_ BK302.out⟩, ⟨qk_ BK303.out⟩, ⟨qk_ BK307.out⟩, ⟨qk_ BK311.out⟩, ⟨qb4_ GE302.out GE303.out GE307.out GE311.out HB.out⟩⟩
    case rest =>
     clear HC27
     try clear c1
     try clear c2
     try clear p2
     try clear c3
     try clear c3b0
     try clear c5
     try clear c6
     try clear c7
     try clear c13
     try clear c17
     try clear c18
     try clear c22
     try clear c23
     try clear c24
     try clear c26
     try clear c28
     try clear c30
     try clear c31
     try clear c32
     (try clear Z14_0 Z14_1 Y14_0 Y14_1)
     (try clear Z19_0 Z19_1 Y19_0 Y19_1)
     (try clear Z25_0 Z25_1 Y25_0 Y25_1)
     (try clear Z33_0 Z33_1 Y33_0 Y33_1)
     (try clear Z35_0 Z35_1 Y35_0 Y35_1)
     (try clear Z7_0 Z7_1 Y7_0 Y7_1)
     try clear p2
     obtain ⟨kq, x10_26, x312000_26, x312001_26, rfl, HA, HJ26, BK302, BK303, BK307, BK311, HB⟩ := hcut
     cases kq with
     | zero => exact absurd HA.out (by simp [corebankref01_DivP.j1])
     | succ kj26 =>
      have H := HA.out
      clear HA
      simp only [corebankref01_DivP.j1] at H
      replace H := Option.bind_eq_some_iff.mp H
      obtain ⟨⟨t315, t316, t317⟩, A360, H⟩ := H
      replace H : (some (t315, t316, wrap64 (x10_26), 0)) = some (r1, r2, r3, r4) := H
      have A36 := Aside0.mk A360
      clear A360
      simp only [Option.some.injEq, Prod.mk.injEq] at H
      obtain ⟨rfl, rfl, rfl, rfl⟩ := H
      have hnb37 := NB311_302.out
      have hnc37 := NB302_311.out
      have hnb38 := NB311_303.out
      have hnc38 := NB303_311.out
      have hnb39 := NB311_307.out
      have hnc39 := NB307_311.out
      obtain ⟨Z40_0, Z40_1, Y40_0, Y40_1⟩ := cz2_ BK311.out
      go_wp2_with (first | ((with_reducible refine gate_callee (f := 73) rfl ?_); refine goesL_ (some 46) rfl rfl Tryd.func73 (by kernel_rfl) rfl #[.bool t304, .agg #[.int .u64 x312000_26, .int .u64 x312001_26]] rfl ql_ ?_; (with_reducible refine (corebankref01_Join.calls t304 x312000_26 x312001_26 t315 t316 t317 _ A36.out).mono ?_); rintro e w41 ⟨rfl, hb⟩; refine ⟨_, rfl, ?_⟩; have n0_ := Aside0.mk (blk_below (qk_ BK302.out) hb); have n1_ := Aside0.mk (blk_below (qk_ BK303.out) hb); have n2_ := Aside0.mk (blk_below (qk_ BK307.out) hb); have n3_ := Aside0.mk (blk_below (qk_ BK311.out) hb); have n4_ := Aside0.mk (below_step (qb4_ GE302.out GE303.out GE307.out GE311.out HB.out) hb); clear BK302; clear BK303; clear BK307; clear BK311; clear HB; have BK302 := n0_; have BK303 := n1_; have BK307 := n2_; have BK311 := n3_; have HB := n4_; clear n0_ n1_ n2_ n3_ n4_; (try clear hb); (try clear hb2); (try clear hk); (try clear hi)) | ((with_reducible refine gate_dst (N := 11) rfl ?_); refine be_ (N := 11) (cs := #[.int .i64 0, .int .u64 0]) (t := 63) ?_; intro gb318 hg w42 hbox hb; have n0_ := Aside0.mk (blk_below (qk_ BK302.out) hb); have n1_ := Aside0.mk (blk_below (qk_ BK303.out) hb); have n2_ := Aside0.mk (blk_below (qk_ BK307.out) hb); have n3_ := Aside0.mk (blk_below (qk_ BK311.out) hb); have n4_ := Aside0.mk (below_step (qb4_ GE302.out GE303.out GE307.out GE311.out HB.out) hb); have n5_ := Aside0.mk (hbox); have n6_ := Aside0.mk (bz_ hg (qb4_ GE302.out GE303.out GE307.out GE311.out HB.out) : w.heap.size ≤ gb318); have n7_ := n6_; have n8_ := Aside0.mk (nl_ hg (qk_ BK302.out) : gb302 ≠ gb318); have n9_ := Aside0.mk (ng_ hg (qk_ BK302.out) : gb318 ≠ gb302); have n10_ := Aside0.mk (nl_ hg (qk_ BK303.out) : gb303 ≠ gb318); have n11_ := Aside0.mk (ng_ hg (qk_ BK303.out) : gb318 ≠ gb303); have n12_ := Aside0.mk (nl_ hg (qk_ BK307.out) : gb307 ≠ gb318); have n13_ := Aside0.mk (ng_ hg (qk_ BK307.out) : gb318 ≠ gb307); have n14_ := Aside0.mk (nl_ hg (qk_ BK311.out) : gb311 ≠ gb318); have n15_ := Aside0.mk (ng_ hg (qk_ BK311.out) : gb318 ≠ gb311); clear BK302; clear BK303; clear BK307; clear BK311; clear HB; have BK302 := n0_; have BK303 := n1_; have BK307 := n2_; have BK311 := n3_; have HB := n4_; have BK318 := n5_; have GW318 := n6_; have GE318 := n7_; have NB302_318 := n8_; have NB318_302 := n9_; have NB303_318 := n10_; have NB318_303 := n11_; have NB307_318 := n12_; have NB318_307 := n13_; have NB311_318 := n14_; have NB318_311 := n15_; clear n0_ n1_ n2_ n3_ n4_ n5_ n6_ n7_ n8_ n9_ n10_ n11_ n12_ n13_ n14_ n15_; clear hb hbox hg; have hnb43 := NB318_302.out; have hnc43 := NB302_318.out; have hnb44 := NB318_303.out; have hnc44 := NB303_318.out; have hnb45 := NB318_307.out; have hnc45 := NB307_318.out; have hnb46 := NB318_311.out; have hnc46 := NB311_318.out; obtain ⟨Z47_0, Z47_1, Y47_0, Y47_1⟩ := cz2_ BK318.out; have hnb48 := NB303_302.out; have hnc48 := NB302_303.out; have hnb49 := NB303_307.out; have hnc49 := NB307_303.out; obtain ⟨Z50_0, Z50_1, Y50_0, Y50_1⟩ := cz2_ BK303.out))
      refine bodyPost_ret (results_ctt rfl _ _ gb303 63 #[.int .i64 t315, .int .u64 t316] (0, 0) _ rfl (qppff_ #[.int .i64 t315, .int .u64 0] 1 #[.int .i64 0, .int .u64 0] 0 NB303_318.out NB303_318.out BK303.out) Tryd.underlying63 rfl (by kernel_rfl)) rfl ?_
      exact ⟨qe_, qb5_ GE302.out GE303.out GE307.out GE311.out GE318.out HB.out⟩
end Go.Proofs.YtjkjiibhdpcpkaaDoor.PS
end
