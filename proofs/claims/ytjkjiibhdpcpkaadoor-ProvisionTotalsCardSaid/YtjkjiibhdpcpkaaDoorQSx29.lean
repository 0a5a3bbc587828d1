import Derived.Test.YtjkjiibhdpcpkaaDoorQRm2
namespace Go.Proofs.YtjkjiibhdpcpkaaDoor.PS
open Go.RowKit Go.Proofs.YtjkjiibhdpcpkaaDoorW.PrintWords Go.Proofs.YtjkjiibhdpcpkaaDoorW.PrintLast
set_option linter.unusedVariables false
set_option linter.unusedSimpArgs false
def corebankref02_Good.f (a0 : Int) : Option (Bool) := if a0 ≥ (-1000000000000) then (some (decide (a0 ≤ 1000000000000))) else (some false)
set_option maxHeartbeats 8000000 in
set_option maxRecDepth 100000 in
theorem corebankref02_Good.calls (a0 : Int) (r : Bool) (w : World) (h : corebankref02_Good.f a0 = some r) :
  Calls Tryd.prog 23 #[.int .i64 a0] w fun e w' => e = .returned (.bool r) ∧ Drawn0 w w' := by
 have H : (if a0 ≥ (-1000000000000) then (some (decide (a0 ≤ 1000000000000))) else (some false)) = some r := h
 clear h
 by_cases c2 : a0 ≥ (-1000000000000)
 ·rw [if_pos c2] at H
  have c2b0 : decide ((-1000000000000) ≤ a0) = true := decide_eq_true c2
  clear c2
  obtain rfl := Option.some.inj H
  go_enter Tryd.func23, Tryd.ntmps23
  go_wp2
  go_ret
  exact ⟨by first | rfl | (simp; done) | (simp [*]; done), by repeat (first | exact Drawn0.refl _ | apply Drawn0.step)⟩
 ·rw [if_neg c2] at H
  have c2b0 : decide ((-1000000000000) ≤ a0) = false := decide_eq_false c2
  clear c2
  obtain rfl := Option.some.inj H
  go_enter Tryd.func23, Tryd.ntmps23
  go_wp2
  go_ret
  exact ⟨by first | rfl | (simp; done) | (simp [*]; done), by repeat (first | exact Drawn0.refl _ | apply Drawn0.step)⟩
def corebankref02_Valid.f (a0 : Int) : Option (Bool) := if a0 ≥ 1 then (some (decide (a0 ≤ 6))) else (some false)
set_option maxHeartbeats 8000000 in
set_option maxRecDepth 100000 in
theorem corebankref02_Valid.calls (a0 : Int) (r : Bool) (w : World) (h : corebankref02_Valid.f a0 = some r) :
  Calls Tryd.prog 58 #[.int .i64 a0] w fun e w' => e = .returned (.bool r) ∧ Drawn0 w w' := by
 have H : (if a0 ≥ 1 then (some (decide (a0 ≤ 6))) else (some false)) = some r := h
 clear h
 by_cases c2 : a0 ≥ 1
 ·rw [if_pos c2] at H
  have c2b0 : decide (1 ≤ a0) = true := decide_eq_true c2
  clear c2
  obtain rfl := Option.some.inj H
  go_enter Tryd.func58, Tryd.ntmps58
  go_wp2
  go_ret
  exact ⟨by first | rfl | (simp; done) | (simp [*]; done), by repeat (first | exact Drawn0.refl _ | apply Drawn0.step)⟩
 ·rw [if_neg c2] at H
  have c2b0 : decide (1 ≤ a0) = false := decide_eq_false c2
  clear c2
  obtain rfl := Option.some.inj H
  go_enter Tryd.func58, Tryd.ntmps58
  go_wp2
  go_ret
  exact ⟨by first | rfl | (simp; done) | (simp [*]; done), by repeat (first | exact Drawn0.refl _ | apply Drawn0.step)⟩
def corebankref01_SplitP.f (a0_0 a0_1 : Int) : Option (Bool × Int × Int) := if a0_0 ≥ 0 then (some (false, IntKind.u64.wrap (a0_0), a0_1)) else (if (IntKind.u64.wrap ((Go.bits .xor .u64 IntKind.u64.max a0_1) + 1)) = 0 then (some (true, IntKind.u64.wrap ((Go.bits .xor .u64 IntKind.u64.max (IntKind.u64.wrap (a0_0))) + 1), IntKind.u64.wrap ((Go.bits .xor .u64 IntKind.u64.max a0_1) + 1))) else (some (true, Go.bits .xor .u64 IntKind.u64.max (IntKind.u64.wrap (a0_0)), IntKind.u64.wrap ((Go.bits .xor .u64 IntKind.u64.max a0_1) + 1))))
set_option maxHeartbeats 8000000 in
set_option maxRecDepth 100000 in
theorem corebankref01_SplitP.calls (a0_0 a0_1 : Int) (r1 : Bool) (r2 r3 : Int) (w : World) (h : corebankref01_SplitP.f a0_0 a0_1 = some (r1, r2, r3)) :
  Calls Tryd.prog 70 #[.agg #[.int .i64 a0_0, .int .u64 a0_1]] w fun e w' => e = .returned (.tuple #[.bool r1, .agg #[.int .u64 r2, .int .u64 r3]]) ∧ Below w.heap.size w w' := by
 have hu63 := Tryd.underlying63
 have hu96 := Tryd.underlying96
 have hsgn : IntKind.u64.signed = false := rfl
 have HB := Aside0.mk (Below.refl w.heap.size w)
 have H : (if a0_0 ≥ 0 then (some (false, IntKind.u64.wrap (a0_0), a0_1)) else (if (IntKind.u64.wrap ((Go.bits .xor .u64 IntKind.u64.max a0_1) + 1)) = 0 then (some (true, IntKind.u64.wrap ((Go.bits .xor .u64 IntKind.u64.max (IntKind.u64.wrap (a0_0))) + 1), IntKind.u64.wrap ((Go.bits .xor .u64 IntKind.u64.max a0_1) + 1))) else (some (true, Go.bits .xor .u64 IntKind.u64.max (IntKind.u64.wrap (a0_0)), IntKind.u64.wrap ((Go.bits .xor .u64 IntKind.u64.max a0_1) + 1))))) = some (r1, r2, r3) := h
 clear h
 by_cases c2 : a0_0 ≥ 0
 ·rw [if_pos c2] at H
  have c2b0 : decide (0 ≤ a0_0) = true := decide_eq_true c2
  clear c2
  simp only [Option.some.injEq, Prod.mk.injEq] at H
  obtain ⟨rfl, rfl, rfl⟩ := H
  go_enter Tryd.func70, Tryd.ntmps70
  go_wp2_with (first | ((with_reducible refine gate_dst (N := 1) rfl ?_); refine be_ (N := 1) (cs := #[.int .i64 a0_0, .int .u64 a0_1]) (t := 63) ?_; intro gb284 hg w3 hbox hb; have n0_ := Aside0.mk (below_step (qb_ HB.out) hb); have n1_ := Aside0.mk (hbox); have n2_ := Aside0.mk (bz_ hg (qb_ HB.out) : w.heap.size ≤ gb284); have n3_ := n2_; clear HB; have HB := n0_; have BK284 := n1_; have GW284 := n2_; have GE284 := n3_; clear n0_ n1_ n2_ n3_; clear hb hbox hg) | ((with_reducible refine gate_dst (N := 3) rfl ?_); refine be_ (N := 3) (cs := #[.int .u64 0, .int .u64 0]) (t := 96) ?_; intro gb285 hg w4 hbox hb; have n0_ := Aside0.mk (blk_below (qk_ BK284.out) hb); have n1_ := Aside0.mk (below_step (qb1_ GE284.out HB.out) hb); have n2_ := Aside0.mk (hbox); have n3_ := Aside0.mk (bz_ hg (qb1_ GE284.out HB.out) : w.heap.size ≤ gb285); have n4_ := n3_; have n5_ := Aside0.mk (nl_ hg (qk_ BK284.out) : gb284 ≠ gb285); have n6_ := Aside0.mk (ng_ hg (qk_ BK284.out) : gb285 ≠ gb284); clear BK284; clear HB; have BK284 := n0_; have HB := n1_; have BK285 := n2_; have GW285 := n3_; have GE285 := n4_; have NB284_285 := n5_; have NB285_284 := n6_; clear n0_ n1_ n2_ n3_ n4_ n5_ n6_; clear hb hbox hg; have hnb5 := NB284_285.out; have hnc5 := NB285_284.out; obtain ⟨hcz6_0, hcz6_1, hfz6_0, hfz6_1⟩ := cz2_ BK284.out; obtain ⟨hcz7_0, hcz7_1, hfz7_0, hfz7_1⟩ := cz2_ BK285.out))
  repeat (go_quiet (first | ((with_reducible refine gate_dst (N := 1) rfl ?_); refine be_ (N := 1) (cs := #[.int .i64 a0_0, .int .u64 a0_1]) (t := 63) ?_; intro gb284 hg w3 hbox hb; have n0_ := Aside0.mk (below_step (qb_ HB.out) hb); have n1_ := Aside0.mk (hbox); have n2_ := Aside0.mk (bz_ hg (qb_ HB.out) : w.heap.size ≤ gb284); have n3_ := n2_; clear HB; have HB := n0_; have BK284 := n1_; have GW284 := n2_; have GE284 := n3_; clear n0_ n1_ n2_ n3_; clear hb hbox hg) | ((with_reducible refine gate_dst (N := 3) rfl ?_); refine be_ (N := 3) (cs := #[.int .u64 0, .int .u64 0]) (t := 96) ?_; intro gb285 hg w4 hbox hb; have n0_ := Aside0.mk (blk_below (qk_ BK284.out) hb); have n1_ := Aside0.mk (below_step (qb1_ GE284.out HB.out) hb); have n2_ := Aside0.mk (hbox); have n3_ := Aside0.mk (bz_ hg (qb1_ GE284.out HB.out) : w.heap.size ≤ gb285); have n4_ := n3_; have n5_ := Aside0.mk (nl_ hg (qk_ BK284.out) : gb284 ≠ gb285); have n6_ := Aside0.mk (ng_ hg (qk_ BK284.out) : gb285 ≠ gb284); clear BK284; clear HB; have BK284 := n0_; have HB := n1_; have BK285 := n2_; have GW285 := n3_; have GE285 := n4_; have NB284_285 := n5_; have NB285_284 := n6_; clear n0_ n1_ n2_ n3_ n4_ n5_ n6_; clear hb hbox hg; have hnb5 := NB284_285.out; have hnc5 := NB285_284.out; obtain ⟨hcz6_0, hcz6_1, hfz6_0, hfz6_1⟩ := cz2_ BK284.out; obtain ⟨hcz7_0, hcz7_1, hfz7_0, hfz7_1⟩ := cz2_ BK285.out)); try go_wp2_with (first | ((with_reducible refine gate_dst (N := 1) rfl ?_); refine be_ (N := 1) (cs := #[.int .i64 a0_0, .int .u64 a0_1]) (t := 63) ?_; intro gb284 hg w3 hbox hb; have n0_ := Aside0.mk (below_step (qb_ HB.out) hb); have n1_ := Aside0.mk (hbox); have n2_ := Aside0.mk (bz_ hg (qb_ HB.out) : w.heap.size ≤ gb284); have n3_ := n2_; clear HB; have HB := n0_; have BK284 := n1_; have GW284 := n2_; have GE284 := n3_; clear n0_ n1_ n2_ n3_; clear hb hbox hg) | ((with_reducible refine gate_dst (N := 3) rfl ?_); refine be_ (N := 3) (cs := #[.int .u64 0, .int .u64 0]) (t := 96) ?_; intro gb285 hg w4 hbox hb; have n0_ := Aside0.mk (blk_below (qk_ BK284.out) hb); have n1_ := Aside0.mk (below_step (qb1_ GE284.out HB.out) hb); have n2_ := Aside0.mk (hbox); have n3_ := Aside0.mk (bz_ hg (qb1_ GE284.out HB.out) : w.heap.size ≤ gb285); have n4_ := n3_; have n5_ := Aside0.mk (nl_ hg (qk_ BK284.out) : gb284 ≠ gb285); have n6_ := Aside0.mk (ng_ hg (qk_ BK284.out) : gb285 ≠ gb284); clear BK284; clear HB; have BK284 := n0_; have HB := n1_; have BK285 := n2_; have GW285 := n3_; have GE285 := n4_; have NB284_285 := n5_; have NB285_284 := n6_; clear n0_ n1_ n2_ n3_ n4_ n5_ n6_; clear hb hbox hg; have hnb5 := NB284_285.out; have hnc5 := NB285_284.out; obtain ⟨hcz6_0, hcz6_1, hfz6_0, hfz6_1⟩ := cz2_ BK284.out; obtain ⟨hcz7_0, hcz7_1, hfz7_0, hfz7_1⟩ := cz2_ BK285.out)))
  refine bodyPost_ret (results_tc rfl _ _ gb285 96 #[.int .u64 (IntKind.u64.wrap (a0_0)), .int .u64 a0_1] (0, 0) _ rfl (qpp_ #[.int .u64 (IntKind.u64.wrap (a0_0)), .int .u64 0] 1 #[.int .u64 0, .int .u64 0] 0 BK285.out) Tryd.underlying96 rfl (by kernel_rfl)) rfl ?_
  exact ⟨qe_, qb2_ GE284.out GE285.out HB.out⟩
 ·rw [if_neg c2] at H
  have c2b0 : decide (0 ≤ a0_0) = false := decide_eq_false c2
  clear c2
  by_cases c8 : (IntKind.u64.wrap ((Go.bits .xor .u64 IntKind.u64.max a0_1) + 1)) = 0
  ·rw [if_pos c8] at H
   have c8b0 : ((IntKind.u64.wrap ((Go.bits .xor .u64 IntKind.u64.max a0_1) + 1)) == 0) = true := beq_iff_eq.mpr c8
   have c8b1 : ((IntKind.u64.wrap ((Go.bits .xor .u64 IntKind.u64.max a0_1) + 1)) != 0) = false := bne_eq_false_iff_eq.mpr c8
   clear c8
   simp only [Option.some.injEq, Prod.mk.injEq] at H
   obtain ⟨rfl, rfl, rfl⟩ := H
   go_enter Tryd.func70, Tryd.ntmps70
   go_wp2_with (first | ((with_reducible refine gate_dst (N := 1) rfl ?_); refine be_ (N := 1) (cs := #[.int .i64 a0_0, .int .u64 a0_1]) (t := 63) ?_; intro gb284 hg w9 hbox hb; have n0_ := Aside0.mk (below_step (qb_ HB.out) hb); have n1_ := Aside0.mk (hbox); have n2_ := Aside0.mk (bz_ hg (qb_ HB.out) : w.heap.size ≤ gb284); have n3_ := n2_; clear HB; have HB := n0_; have BK284 := n1_; have GW284 := n2_; have GE284 := n3_; clear n0_ n1_ n2_ n3_; clear hb hbox hg) | ((with_reducible refine gate_dst (N := 3) rfl ?_); refine be_ (N := 3) (cs := #[.int .u64 0, .int .u64 0]) (t := 96) ?_; intro gb285 hg w10 hbox hb; have n0_ := Aside0.mk (blk_below (qk_ BK284.out) hb); have n1_ := Aside0.mk (below_step (qb1_ GE284.out HB.out) hb); have n2_ := Aside0.mk (hbox); have n3_ := Aside0.mk (bz_ hg (qb1_ GE284.out HB.out) : w.heap.size ≤ gb285); have n4_ := n3_; have n5_ := Aside0.mk (nl_ hg (qk_ BK284.out) : gb284 ≠ gb285); have n6_ := Aside0.mk (ng_ hg (qk_ BK284.out) : gb285 ≠ gb284); clear BK284; clear HB; have BK284 := n0_; have HB := n1_; have BK285 := n2_; have GW285 := n3_; have GE285 := n4_; have NB284_285 := n5_; have NB285_284 := n6_; clear n0_ n1_ n2_ n3_ n4_ n5_ n6_; clear hb hbox hg; have hnb11 := NB284_285.out; have hnc11 := NB285_284.out; obtain ⟨hcz12_0, hcz12_1, hfz12_0, hfz12_1⟩ := cz2_ BK284.out; obtain ⟨hcz13_0, hcz13_1, hfz13_0, hfz13_1⟩ := cz2_ BK285.out))
   repeat (go_quiet (first | ((with_reducible refine gate_dst (N := 1) rfl ?_); refine be_ (N := 1) (cs := #[.int .i64 a0_0, .int .u64 a0_1]) (t := 63) ?_; intro gb284 hg w9 hbox hb; have n0_ := Aside0.mk (below_step (qb_ HB.out) hb); have n1_ := Aside0.mk (hbox); have n2_ := Aside0.mk (bz_ hg (qb_ HB.out) : w.heap.size ≤ gb284); have n3_ := n2_; clear HB; have HB := n0_; have BK284 := n1_; have GW284 := n2_; have GE284 := n3_; clear n0_ n1_ n2_ n3_; clear hb hbox hg) | ((with_reducible refine gate_dst (N := 3) rfl ?_); refine be_ (N := 3) (cs := #[.int .u64 0, .int .u64 0]) (t := 96) ?_; intro gb285 hg w10 hbox hb; have n0_ := Aside0.mk (blk_below (qk_ BK284.out) hb); have n1_ := Aside0.mk (below_step (qb1_ GE284.out HB.out) hb); have n2_ := Aside0.mk (hbox); have n3_ := Aside0.mk (bz_ hg (qb1_ GE284.out HB.out) : w.heap.size ≤ gb285); have n4_ := n3_; have n5_ := Aside0.mk (nl_ hg (qk_ BK284.out) : gb284 ≠ gb285); have n6_ := Aside0.mk (ng_ hg (qk_ BK284.out) : gb285 ≠ gb284); clear BK284; clear HB; have BK284 := n0_; have HB := n1_; have BK285 := n2_; have GW285 := n3_; have GE285 := n4_; have NB284_285 := n5_; have NB285_284 := n6_; clear n0_ n1_ n2_ n3_ n4_ n5_ n6_; clear hb hbox hg; have hnb11 := NB284_285.out; have hnc11 := NB285_284.out; obtain ⟨hcz12_0, hcz12_1, hfz12_0, hfz12_1⟩ := cz2_ BK284.out; obtain ⟨hcz13_0, hcz13_1, hfz13_0, hfz13_1⟩ := cz2_ BK285.out)); try go_wp2_with (first | ((with_reducible refine gate_dst (N := 1) rfl ?_); refine be_ (N := 1) (cs := #[.int .i64 a0_0, .int .u64 a0_1]) (t := 63) ?_; intro gb284 hg w9 hbox hb; have n0_ := Aside0.mk (below_step (qb_ HB.out) hb); have n1_ := Aside0.mk (hbox); have n2_ := Aside0.mk (bz_ hg (qb_ HB.out) : w.heap.size ≤ gb284); have n3_ := n2_; clear HB; have HB := n0_; have BK284 := n1_; have GW284 := n2_; have GE284 := n3_; clear n0_ n1_ n2_ n3_; clear hb hbox hg) | ((with_reducible refine gate_dst (N := 3) rfl ?_); refine be_ (N := 3) (cs := #[.int .u64 0, .int .u64 0]) (t := 96) ?_; intro gb285 hg w10 hbox hb; have n0_ := Aside0.mk (blk_below (qk_ BK284.out) hb); have n1_ := Aside0.mk (below_step (qb1_ GE284.out HB.out) hb); have n2_ := Aside0.mk (hbox); have n3_ := Aside0.mk (bz_ hg (qb1_ GE284.out HB.out) : w.heap.size ≤ gb285); have n4_ := n3_; have n5_ := Aside0.mk (nl_ hg (qk_ BK284.out) : gb284 ≠ gb285); have n6_ := Aside0.mk (ng_ hg (qk_ BK284.out) : gb285 ≠ gb284); clear BK284; clear HB; have BK284 := n0_; have HB := n1_; have BK285 := n2_; have GW285 := n3_; have GE285 := n4_; have NB284_285 := n5_; have NB285_284 := n6_; clear n0_ n1_ n2_ n3_ n4_ n5_ n6_; clear hb hbox hg; have hnb11 := NB284_285.out; have hnc11 := NB285_284.out; obtain ⟨hcz12_0, hcz12_1, hfz12_0, hfz12_1⟩ := cz2_ BK284.out; obtain ⟨hcz13_0, hcz13_1, hfz13_0, hfz13_1⟩ := cz2_ BK285.out)))
   refine bodyPost_ret (results_tc rfl _ _ gb285 96 #[.int .u64 (IntKind.u64.wrap ((Go.bits .xor .u64 IntKind.u64.max (IntKind.u64.wrap (a0_0))) + 1)), .int .u64 (IntKind.u64.wrap ((Go.bits .xor .u64 IntKind.u64.max a0_1) + 1))] (0, 0) _ rfl (qpp_ #[.int .u64 (IntKind.u64.wrap ((Go.bits .xor .u64 IntKind.u64.max (IntKind.u64.wrap (a0_0))) + 1)), .int .u64 0] 1 #[.int .u64 0, .int .u64 0] 0 BK285.out) Tryd.underlying96 rfl (by kernel_rfl)) rfl ?_
   exact ⟨qe_, qb2_ GE284.out GE285.out HB.out⟩
  ·rw [if_neg c8] at H
   have c8b0 : ((IntKind.u64.wrap ((Go.bits .xor .u64 IntKind.u64.max a0_1) + 1)) == 0) = false := beq_eq_false_iff_ne.mpr c8
   have c8b1 : ((IntKind.u64.wrap ((Go.bits .xor .u64 IntKind.u64.max a0_1) + 1)) != 0) = true := bne_iff_ne.mpr c8
   simp only [Option.some.injEq, Prod.mk.injEq] at H
   obtain ⟨rfl, rfl, rfl⟩ := H
   go_enter Tryd.func70, Tryd.ntmps70
   go_wp2_with (first | ((with_reducible refine gate_dst (N := 1) rfl ?_); refine be_ (N := 1) (cs := #[.int .i64 a0_0, .int .u64 a0_1]) (t := 63) ?_; intro gb284 hg w14 hbox hb; have n0_ := Aside0.mk (below_step (qb_ HB.out) hb); have n1_ := Aside0.mk (hbox); have n2_ := Aside0.mk (bz_ hg (qb_ HB.out) : w.heap.size ≤ gb284); have n3_ := n2_; clear HB; have HB := n0_; have BK284 := n1_; have GW284 := n2_; have GE284 := n3_; clear n0_ n1_ n2_ n3_; clear hb hbox hg) | ((with_reducible refine gate_dst (N := 3) rfl ?_); refine be_ (N := 3) (cs := #[.int .u64 0, .int .u64 0]) (t := 96) ?_; intro gb285 hg w15 hbox hb; have n0_ := Aside0.mk (blk_below (qk_ BK284.out) hb); have n1_ := Aside0.mk (below_step (qb1_ GE284.out HB.out) hb); have n2_ := Aside0.mk (hbox); have n3_ := Aside0.mk (bz_ hg (qb1_ GE284.out HB.out) : w.heap.size ≤ gb285); have n4_ := n3_; have n5_ := Aside0.mk (nl_ hg (qk_ BK284.out) : gb284 ≠ gb285); have n6_ := Aside0.mk (ng_ hg (qk_ BK284.out) : gb285 ≠ gb284); clear BK284; clear HB; have BK284 := n0_; have HB := n1_; have BK285 := n2_; have GW285 := n3_; have GE285 := n4_; have NB284_285 := n5_; have NB285_284 := n6_; clear n0_ n1_ n2_ n3_ n4_ n5_ n6_; clear hb hbox hg; have hnb16 := NB284_285.out; have hnc16 := NB285_284.out; obtain ⟨hcz17_0, hcz17_1, hfz17_0, hfz17_1⟩ := cz2_ BK284.out; obtain ⟨hcz18_0, hcz18_1, hfz18_0, hfz18_1⟩ := cz2_ BK285.out))
   repeat (go_quiet (first | ((with_reducible refine gate_dst (N := 1) rfl ?_); refine be_ (N := 1) (cs := #[.int .i64 a0_0, .int .u64 a0_1]) (t := 63) ?_; intro gb284 hg w14 hbox hb; have n0_ := Aside0.mk (below_step (qb_ HB.out) hb); have n1_ := Aside0.mk (hbox); have n2_ := Aside0.mk (bz_ hg (qb_ HB.out) : w.heap.size ≤ gb284); have n3_ := n2_; clear HB; have HB := n0_; have BK284 := n1_; have GW284 := n2_; have GE284 := n3_; clear n0_ n1_ n2_ n3_; clear hb hbox hg) | ((with_reducible refine gate_dst (N := 3) rfl ?_); refine be_ (N := 3) (cs := #[.int .u64 0, .int .u64 0]) (t := 96) ?_; intro gb285 hg w15 hbox hb; have n0_ := Aside0.mk (blk_below (qk_ BK284.out) hb); have n1_ := Aside0.mk (below_step (qb1_ GE284.out HB.out) hb); have n2_ := Aside0.mk (hbox); have n3_ := Aside0.mk (bz_ hg (qb1_ GE284.out HB.out) : w.heap.size ≤ gb285); have n4_ := n3_; have n5_ := Aside0.mk (nl_ hg (qk_ BK284.out) : gb284 ≠ gb285); have n6_ := Aside0.mk (ng_ hg (qk_ BK284.out) : gb285 ≠ gb284); clear BK284; clear HB; have BK284 := n0_; have HB := n1_; have BK285 := n2_; have GW285 := n3_; have GE285 := n4_; have NB284_285 := n5_; have NB285_284 := n6_; clear n0_ n1_ n2_ n3_ n4_ n5_ n6_; clear hb hbox hg; have hnb16 := NB284_285.out; have hnc16 := NB285_284.out; obtain ⟨hcz17_0, hcz17_1, hfz17_0, hfz17_1⟩ := cz2_ BK284.out; obtain ⟨hcz18_0, hcz18_1, hfz18_0, hfz18_1⟩ := cz2_ BK285.out)); try go_wp2_with (first | ((with_reducible refine gate_dst (N := 1) rfl ?_); refine be_ (N := 1) (cs := #[.int .i64 a0_0, .int .u64 a0_1]) (t := 63) ?_; intro gb284 hg w14 hbox hb; have n0_ := Aside0.mk (below_step (qb_ HB.out) hb); have n1_ := Aside0.mk (hbox); have n2_ := Aside0.mk (bz_ hg (qb_ HB.out) : w.heap.size ≤ gb284); have n3_ := n2_; clear HB; have HB := n0_; have BK284 := n1_; have GW284 := n2_; have GE284 := n3_; clear n0_ n1_ n2_ n3_; clear hb hbox hg) | ((with_reducible refine gate_dst (N := 3) rfl ?_); refine be_ (N := 3) (cs := #[.int .u64 0, .int .u64 0]) (t := 96) ?_; intro gb285 hg w15 hbox hb; have n0_ := Aside0.mk (blk_below (qk_ BK284.out) hb); have n1_ := Aside0.mk (below_step (qb1_ GE284.out HB.out) hb); have n2_ := Aside0.mk (hbox); have n3_ := Aside0.mk (bz_ hg (qb1_ GE284.out HB.out) : w.heap.size ≤ gb285); have n4_ := n3_; have n5_ := Aside0.mk (nl_ hg (qk_ BK284.out) : gb284 ≠ gb285); have n6_ := Aside0.mk (ng_ hg (qk_ BK284.out) : gb285 ≠ gb284); clear BK284; clear HB; have BK284 := n0_; have HB := n1_; have BK285 := n2_; have GW285 := n3_; have GE285 := n4_; have NB284_285 := n5_; have NB285_284 := n6_; clear n0_ n1_ n2_ n3_ n4_ n5_ n6_; clear hb hbox hg; have hnb16 := NB284_285.out; have hnc16 := NB285_284.out; obtain ⟨hcz17_0, hcz17_1, hfz17_0, hfz17_1⟩ := cz2_ BK284.out; obtain ⟨hcz18_0, hcz18_1, hfz18_0, hfz18_1⟩ := cz2_ BK285.out)))
   refine bodyPost_ret (results_tc rfl _ _ gb285 96 #[.int .u64 (Go.bits .xor .u64 IntKind.u64.max (IntKind.u64.wrap (a0_0))), .int .u64 (IntKind.u64.wrap ((Go.bits .xor .u64 IntKind.u64.max a0_1) + 1))] (0, 0) _ rfl (qpp_ #[.int .u64 (Go.bits .xor .u64 IntKind.u64.max (IntKind.u64.wrap (a0_0))), .int .u64 0] 1 #[.int .u64 0, .int .u64 0] 0 BK285.out) Tryd.underlying96 rfl (by kernel_rfl)) rfl ?_
   exact ⟨qe_, qb2_ GE284.out GE285.out HB.out⟩
def corebankref01_Split.f (a0_0 a0_1 : Int) : Option (Bool × Int × Int) :=
 if isW a0_0 a0_1 then some (decide (a0_0 < 0), (if a0_0 < 0 then -(wv a0_0 a0_1) else wv a0_0 a0_1) / 18446744073709551616, (if a0_0 < 0 then -(wv a0_0 a0_1) else wv a0_0 a0_1) % 18446744073709551616) else none
theorem corebankref01_Split.eq {a b : Int} {r : Bool × Int × Int} (h : corebankref01_Split.f a b = some r) : corebankref01_SplitP.f a b = some r := by
 unfold corebankref01_Split.f at h
 split at h
 ·rename_i c
  obtain ⟨⟨c0, c1⟩, c2, c3⟩ := c
  injection h with h
  subst h
  unfold corebankref01_SplitP.f
  have hw : IntKind.u64.wrap a = if a < 0 then a + 18446744073709551616 else a := by rw [IntKind.wrap_u64]; split <;> omega
  rw [hw, xorMax b c2 c3]
  by_cases hn : a < 0
  ·rw [if_neg (by omega), if_pos hn, if_pos hn, xorMax _ (by omega) (by omega)]
   simp only [IntKind.wrap_u64, hn, decide_true]
   unfold wv
   split
   ·congr 3 <;> omega
   ·congr 3 <;> omega
  ·rw [if_pos (by omega), if_neg hn, if_neg hn]
   simp only [hn, decide_false]
   unfold wv
   congr 3 <;> omega
 ·cases h
theorem corebankref01_Split.calls (a0_0 a0_1 : Int) (r1 : Bool) (r2 r3 : Int) (w : World) (h : corebankref01_Split.f a0_0 a0_1 = some (r1, r2, r3)) :
  Calls Tryd.prog 70 #[.agg #[.int .i64 a0_0, .int .u64 a0_1]] w fun e w' => e = .returned (.tuple #[.bool r1, .agg #[.int .u64 r2, .int .u64 r3]]) ∧ Below w.heap.size w w' := by
 have h := corebankref01_Split.eq h
 exact corebankref01_SplitP.calls a0_0 a0_1 r1 r2 r3 w h
/-- The sum of two magnitudes modulo 2^128, and whether it is less than that. -/
def corebankref01_plus.f (a0_0 a0_1 a1_0 a1_1 : Int) : Option (Int × Int × Bool) :=
 if (inU a0_0 ∧ inU a0_1) ∧ inU a1_0 ∧ inU a1_1 then
  some ((wv a0_0 a0_1 + wv a1_0 a1_1) / 18446744073709551616 % 18446744073709551616, (wv a0_0 a0_1 + wv a1_0 a1_1) % 18446744073709551616, decide (wv a0_0 a0_1 + wv a1_0 a1_1 < 340282366920938463463374607431768211456)) else none
set_option maxHeartbeats 4000000 in
set_option maxRecDepth 100000 in
theorem corebankref01_plus.calls (a0_0 a0_1 a1_0 a1_1 r1 r2 : Int) (r3 : Bool) (w : World) (h : corebankref01_plus.f a0_0 a0_1 a1_0 a1_1 = some (r1, r2, r3)) :
  Calls Tryd.prog 72 #[.agg #[.int .u64 a0_0, .int .u64 a0_1], .agg #[.int .u64 a1_0, .int .u64 a1_1]] w fun e w' => e = .returned (.tuple #[.agg #[.int .u64 r1, .int .u64 r2], .bool r3]) ∧ Below w.heap.size w w' := by
 unfold corebankref01_plus.f at h
 split at h
 ·rename_i c
  obtain ⟨⟨⟨p0, p1⟩, q0, q1⟩, ⟨s0, s1⟩, t0, t1⟩ := c
  injection h with h
  injection h with h1 h
  injection h with h2 h3
  have H1 := Aside0.mk h1
  have H2 := Aside0.mk h2
  have H3 := Aside0.mk h3
  clear h1 h2 h3
  go_enter Tryd.func72, Tryd.ntmps72
  go_wp2
  all_goals
   refine bodyPost_ret (v := .tuple #[.agg #[.int .u64 r1, .int .u64 r2], .bool r3]) ?_ rfl ⟨rfl, (((Below.refl _ _).alloc (Nat.le_refl _) _).alloc (by simp) _).alloc (by simp; omega) _⟩
   simp [results, Tryd.results72, go_sem]
   have h1 := H1.out
   have h2 := H2.out
   have h3 := H3.out
   clear H1 H2 H3
   go_light
   subst h1 h2 h3
   simp only [IntKind.wrap_u64] at *
   unfold wv
   refine ⟨⟨by omega, by omega⟩, ?_⟩
   first
    | (apply decide_eq_decide.mpr; omega)
    | (apply decide_eq_false; omega)
    | (apply decide_eq_true; omega)
    | omega
 ·cases h
def corebankref01_shiftedP.f (a0_0 a0_1 : Int) : Option (Int × Int × Bool) := (corebankref01_plus.f a0_0 a0_1 a0_0 a0_1).bind fun bt288 => (some (bt288.1, bt288.2.1, bt288.2.2))
set_option maxHeartbeats 8000000 in
set_option maxRecDepth 100000 in
theorem corebankref01_shiftedP.calls (a0_0 a0_1 r1 r2 : Int) (r3 : Bool) (w : World) (h : corebankref01_shiftedP.f a0_0 a0_1 = some (r1, r2, r3)) :
  Calls Tryd.prog 78 #[.agg #[.int .u64 a0_0, .int .u64 a0_1]] w fun e w' => e = .returned (.tuple #[.agg #[.int .u64 r1, .int .u64 r2], .bool r3]) ∧ Below w.heap.size w w' := by
 have hu96 := Tryd.underlying96
 have HB := Aside0.mk (Below.refl w.heap.size w)
 have H : ((corebankref01_plus.f a0_0 a0_1 a0_0 a0_1).bind fun bt288 => (some (bt288.1, bt288.2.1, bt288.2.2))) = some (r1, r2, r3) := h
 clear h
 replace H := Option.bind_eq_some_iff.mp H
 obtain ⟨⟨t288, t289, t290⟩, A20, H⟩ := H
 replace H : (some (t288, t289, t290)) = some (r1, r2, r3) := H
 have A2 := Aside0.mk A20
 clear A20
 simp only [Option.some.injEq, Prod.mk.injEq] at H
 obtain ⟨rfl, rfl, rfl⟩ := H
 go_enter Tryd.func78, Tryd.ntmps78
 go_wp2_with (first | ((with_reducible refine gate_dst (N := 1) rfl ?_); refine be_ (N := 1) (cs := #[.int .u64 a0_0, .int .u64 a0_1]) (t := 96) ?_; intro gb286 hg w3 hbox hb; have n0_ := Aside0.mk (below_step (qb_ HB.out) hb); have n1_ := Aside0.mk (hbox); have n2_ := Aside0.mk (bz_ hg (qb_ HB.out) : w.heap.size ≤ gb286); have n3_ := n2_; clear HB; have HB := n0_; have BK286 := n1_; have GW286 := n2_; have GE286 := n3_; clear n0_ n1_ n2_ n3_; clear hb hbox hg) | ((with_reducible refine gate_dst (N := 2) rfl ?_); refine be_ (N := 2) (cs := #[.int .u64 0, .int .u64 0]) (t := 96) ?_; intro gb287 hg w4 hbox hb; have n0_ := Aside0.mk (blk_below (qk_ BK286.out) hb); have n1_ := Aside0.mk (below_step (qb1_ GE286.out HB.out) hb); have n2_ := Aside0.mk (hbox); have n3_ := Aside0.mk (bz_ hg (qb1_ GE286.out HB.out) : w.heap.size ≤ gb287); have n4_ := n3_; have n5_ := Aside0.mk (nl_ hg (qk_ BK286.out) : gb286 ≠ gb287); have n6_ := Aside0.mk (ng_ hg (qk_ BK286.out) : gb287 ≠ gb286); clear BK286; clear HB; have BK286 := n0_; have HB := n1_; have BK287 := n2_; have GW287 := n3_; have GE287 := n4_; have NB286_287 := n5_; have NB287_286 := n6_; clear n0_ n1_ n2_ n3_ n4_ n5_ n6_; clear hb hbox hg; have hnb5 := NB286_287.out; have hnc5 := NB287_286.out; obtain ⟨hcz6_0, hcz6_1, hfz6_0, hfz6_1⟩ := cz2_ BK286.out) | ((with_reducible refine gate_callee (f := 72) rfl ?_); refine goesL_ (some 6) rfl rfl Tryd.func72 (by kernel_rfl) rfl #[.agg #[.int .u64 a0_0, .int .u64 a0_1], .agg #[.int .u64 a0_0, .int .u64 a0_1]] rfl ql_ ?_; (with_reducible refine (corebankref01_plus.calls a0_0 a0_1 a0_0 a0_1 t288 t289 t290 _ A2.out).mono ?_); rintro e w7 ⟨rfl, hb⟩; refine ⟨_, rfl, ?_⟩; have n0_ := Aside0.mk (blk_below (qk_ BK286.out) hb); have n1_ := Aside0.mk (blk_below (qk_ BK287.out) hb); have n2_ := Aside0.mk (below_step (qb2_ GE286.out GE287.out HB.out) hb); clear BK286; clear BK287; clear HB; have BK286 := n0_; have BK287 := n1_; have HB := n2_; clear n0_ n1_ n2_; (try clear hb); (try clear hb2); (try clear hk); (try clear hi); obtain ⟨hcz8_0, hcz8_1, hfz8_0, hfz8_1⟩ := cz2_ BK287.out))
 refine bodyPost_ret (results_ct rfl _ _ gb287 96 #[.int .u64 t288, .int .u64 t289] (0, 0) _ rfl (qpp_ #[.int .u64 t288, .int .u64 0] 1 #[.int .u64 0, .int .u64 0] 0 BK287.out) Tryd.underlying96 rfl (by kernel_rfl)) rfl ?_
 exact ⟨qe_, qb2_ GE286.out GE287.out HB.out⟩
def corebankref01_shifted.f (a0_0 a0_1 : Int) : Option (Int × Int × Bool) :=
 if inU a0_0 ∧ inU a0_1 then some (2 * wv a0_0 a0_1 / 18446744073709551616 % 18446744073709551616, 2 * wv a0_0 a0_1 % 18446744073709551616, decide (2 * wv a0_0 a0_1 < 340282366920938463463374607431768211456)) else none
theorem corebankref01_shifted.eq {a b : Int} {r : Int × Int × Bool} (h : corebankref01_shifted.f a b = some r) : corebankref01_shiftedP.f a b = some r := by
 unfold corebankref01_shifted.f at h
 split at h
 ·rename_i q
  injection h with h
  subst h
  unfold corebankref01_shiftedP.f corebankref01_plus.f
  rw [if_pos ⟨q, q⟩, show wv a b + wv a b = 2 * wv a b by omega]
  rfl
 ·cases h
theorem corebankref01_shifted.calls (a0_0 a0_1 r1 r2 : Int) (r3 : Bool) (w : World) (h : corebankref01_shifted.f a0_0 a0_1 = some (r1, r2, r3)) :
  Calls Tryd.prog 78 #[.agg #[.int .u64 a0_0, .int .u64 a0_1]] w fun e w' => e = .returned (.tuple #[.agg #[.int .u64 r1, .int .u64 r2], .bool r3]) ∧ Below w.heap.size w w' := by
 have h := corebankref01_shifted.eq h
 exact corebankref01_shiftedP.calls a0_0 a0_1 r1 r2 r3 w h
end Go.Proofs.YtjkjiibhdpcpkaaDoor.PS
