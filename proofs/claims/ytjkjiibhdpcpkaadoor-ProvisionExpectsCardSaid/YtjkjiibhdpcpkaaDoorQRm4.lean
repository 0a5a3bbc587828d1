import Derived.Test.YtjkjiibhdpcpkaaDoorQRm2
section
namespace Go.Proofs.YtjkjiibhdpcpkaaDoor.PS
open Go.RowKit Go.Proofs.YtjkjiibhdpcpkaaDoorW.PrintWords Go.Proofs.YtjkjiibhdpcpkaaDoorW.PrintLast
set_option linter.unusedVariables false
set_option linter.unusedSimpArgs false
def provision_Rate.f (a0 : Int) : Option Int := some (if a0 = 1 then 10000 else if a0 = 2 then 100000 else if a0 = 3 then 450000 else 0)
set_option maxHeartbeats 1000000 in
set_option maxRecDepth 100000 in
theorem provision_Rate.c0 (w : World) :
  Calls Tryd.prog 11 #[.int .i64 0] w fun e w' => e = .returned (.int .i64 0) ∧ Below w.heap.size w w' := by
 go_enter Tryd.func11, Tryd.ntmps11
 go_wp2
 go_ret
 exact ⟨rfl, (Below.refl _ _).alloc (Nat.le_refl _) _⟩
set_option maxHeartbeats 1000000 in
set_option maxRecDepth 100000 in
theorem provision_Rate.c1 (w : World) :
  Calls Tryd.prog 11 #[.int .i64 1] w fun e w' => e = .returned (.int .i64 10000) ∧ Below w.heap.size w w' := by
 go_enter Tryd.func11, Tryd.ntmps11
 go_wp2
 go_ret
 exact ⟨rfl, (Below.refl _ _).alloc (Nat.le_refl _) _⟩
set_option maxHeartbeats 1000000 in
set_option maxRecDepth 100000 in
theorem provision_Rate.c2 (w : World) :
  Calls Tryd.prog 11 #[.int .i64 2] w fun e w' => e = .returned (.int .i64 100000) ∧ Below w.heap.size w w' := by
 go_enter Tryd.func11, Tryd.ntmps11
 go_wp2
 go_ret
 exact ⟨rfl, (Below.refl _ _).alloc (Nat.le_refl _) _⟩
set_option maxHeartbeats 1000000 in
set_option maxRecDepth 100000 in
theorem provision_Rate.c3 (w : World) :
  Calls Tryd.prog 11 #[.int .i64 3] w fun e w' => e = .returned (.int .i64 450000) ∧ Below w.heap.size w w' := by
 go_enter Tryd.func11, Tryd.ntmps11
 go_wp2
 go_ret
 exact ⟨rfl, (Below.refl _ _).alloc (Nat.le_refl _) _⟩
set_option maxHeartbeats 1000000 in
set_option maxRecDepth 100000 in
theorem provision_Rate.cn (a0 : Int) (c' : decide (a0 < 0) = true) (w : World) :
  Calls Tryd.prog 11 #[.int .i64 a0] w fun e w' => e = .returned (.int .i64 0) ∧ Below w.heap.size w w' := by
 go_enter Tryd.func11, Tryd.ntmps11
 go_wp2
 go_ret
 exact ⟨rfl, (Below.refl _ _).alloc (Nat.le_refl _) _⟩
set_option maxHeartbeats 1000000 in
set_option maxRecDepth 100000 in
theorem provision_Rate.cg (a0 : Int) (c' : decide (a0 < 0) = false) (c2 : decide (4 ≤ a0) = true) (w : World) :
  Calls Tryd.prog 11 #[.int .i64 a0] w fun e w' => e = .returned (.int .i64 0) ∧ Below w.heap.size w w' := by
 go_enter Tryd.func11, Tryd.ntmps11
 go_wp2
 go_ret
 exact ⟨rfl, (Below.refl _ _).alloc (Nat.le_refl _) _⟩
theorem provision_Rate.calls (a0 r : Int) (w : World) (h : provision_Rate.f a0 = some r) :
  Calls Tryd.prog 11 #[.int .i64 a0] w fun e w' => e = .returned (.int .i64 r) ∧ Below w.heap.size w w' := by
 unfold provision_Rate.f at h
 injection h with h
 subst h
 by_cases h1 : a0 = 1
 ·subst h1; exact provision_Rate.c1 w
 by_cases h2 : a0 = 2
 ·subst h2; exact provision_Rate.c2 w
 by_cases h3 : a0 = 3
 ·subst h3; exact provision_Rate.c3 w
 rw [if_neg h1, if_neg h2, if_neg h3]
 by_cases h0 : a0 = 0
 ·subst h0; exact provision_Rate.c0 w
 by_cases c : a0 < 0
 ·exact provision_Rate.cn a0 (decide_eq_true c) w
 ·exact provision_Rate.cg a0 (decide_eq_false c) (decide_eq_true (by omega)) w
def corebankref38_Rate.f (a0 : Int) : Option (Int) := if a0 = 1 then (some 10000) else (if a0 = 2 then (some 100000) else (if a0 = 3 then (some 450000) else (some 0)))
set_option maxHeartbeats 8000000 in
set_option maxRecDepth 100000 in
theorem corebankref38_Rate.calls (a0 r : Int) (w : World) (h : corebankref38_Rate.f a0 = some r) :
  Calls Tryd.prog 12 #[.int .i64 a0] w fun e w' => e = .returned (.int .i64 r) ∧ Drawn0 w w' := by
 have H : (if a0 = 1 then (some 10000) else (if a0 = 2 then (some 100000) else (if a0 = 3 then (some 450000) else (some 0)))) = some r := h
 clear h
 by_cases c2 : a0 = 1
 ·rw [if_pos c2] at H
  have c2b0 : (a0 == 1) = true := beq_iff_eq.mpr c2
  have c2b1 : (a0 != 1) = false := bne_eq_false_iff_eq.mpr c2
  clear c2
  obtain rfl := Option.some.inj H
  go_enter Tryd.func12, Tryd.ntmps12
  go_wp2
  go_ret
  exact ⟨by first | rfl | (simp; done) | (simp [*]; done), by repeat (first | exact Drawn0.refl _ | apply Drawn0.step)⟩
 ·rw [if_neg c2] at H
  have c2b0 : (a0 == 1) = false := beq_eq_false_iff_ne.mpr c2
  have c2b1 : (a0 != 1) = true := bne_iff_ne.mpr c2
  by_cases c3 : a0 = 2
  ·rw [if_pos c3] at H
   have c3b0 : (a0 == 2) = true := beq_iff_eq.mpr c3
   have c3b1 : (a0 != 2) = false := bne_eq_false_iff_eq.mpr c3
   clear c3
   obtain rfl := Option.some.inj H
   go_enter Tryd.func12, Tryd.ntmps12
   go_wp2
   go_ret
   exact ⟨by first | rfl | (simp; done) | (simp [*]; done), by repeat (first | exact Drawn0.refl _ | apply Drawn0.step)⟩
  ·rw [if_neg c3] at H
   have c3b0 : (a0 == 2) = false := beq_eq_false_iff_ne.mpr c3
   have c3b1 : (a0 != 2) = true := bne_iff_ne.mpr c3
   by_cases c4 : a0 = 3
   ·rw [if_pos c4] at H
    have c4b0 : (a0 == 3) = true := beq_iff_eq.mpr c4
    have c4b1 : (a0 != 3) = false := bne_eq_false_iff_eq.mpr c4
    clear c4
    obtain rfl := Option.some.inj H
    go_enter Tryd.func12, Tryd.ntmps12
    go_wp2
    go_ret
    exact ⟨by first | rfl | (simp; done) | (simp [*]; done), by repeat (first | exact Drawn0.refl _ | apply Drawn0.step)⟩
   ·rw [if_neg c4] at H
    have c4b0 : (a0 == 3) = false := beq_eq_false_iff_ne.mpr c4
    have c4b1 : (a0 != 3) = true := bne_iff_ne.mpr c4
    obtain rfl := Option.some.inj H
    go_enter Tryd.func12, Tryd.ntmps12
    go_wp2
    go_ret
    exact ⟨by first | rfl | (simp; done) | (simp [*]; done), by repeat (first | exact Drawn0.refl _ | apply Drawn0.step)⟩
def rounding_valid.f (a0 : Int) : Option (Bool) := if a0 ≥ (-1000000000000) then (some (decide (a0 ≤ 1000000000000))) else (some false)
set_option maxHeartbeats 8000000 in
set_option maxRecDepth 100000 in
theorem rounding_valid.calls (a0 : Int) (r : Bool) (w : World) (h : rounding_valid.f a0 = some r) :
  Calls Tryd.prog 41 #[.int .i64 a0] w fun e w' => e = .returned (.bool r) ∧ Drawn0 w w' := by
 have H : (if a0 ≥ (-1000000000000) then (some (decide (a0 ≤ 1000000000000))) else (some false)) = some r := h
 clear h
 by_cases c2 : a0 ≥ (-1000000000000)
 ·rw [if_pos c2] at H
  have c2b0 : decide ((-1000000000000) ≤ a0) = true := decide_eq_true c2
  clear c2
  obtain rfl := Option.some.inj H
  go_enter Tryd.func41, Tryd.ntmps41
  go_wp2
  go_ret
  exact ⟨by first | rfl | (simp; done) | (simp [*]; done), by repeat (first | exact Drawn0.refl _ | apply Drawn0.step)⟩
 ·rw [if_neg c2] at H
  have c2b0 : decide ((-1000000000000) ≤ a0) = false := decide_eq_false c2
  clear c2
  obtain rfl := Option.some.inj H
  go_enter Tryd.func41, Tryd.ntmps41
  go_wp2
  go_ret
  exact ⟨by first | rfl | (simp; done) | (simp [*]; done), by repeat (first | exact Drawn0.refl _ | apply Drawn0.step)⟩
def rounding_Valid.f (a0 : Int) : Option (Bool) := if a0 ≥ 1 then (some (decide (a0 ≤ 6))) else (some false)
set_option maxHeartbeats 8000000 in
set_option maxRecDepth 100000 in
theorem rounding_Valid.calls (a0 : Int) (r : Bool) (w : World) (h : rounding_Valid.f a0 = some r) :
  Calls Tryd.prog 42 #[.int .i64 a0] w fun e w' => e = .returned (.bool r) ∧ Drawn0 w w' := by
 have H : (if a0 ≥ 1 then (some (decide (a0 ≤ 6))) else (some false)) = some r := h
 clear h
 by_cases c2 : a0 ≥ 1
 ·rw [if_pos c2] at H
  have c2b0 : decide (1 ≤ a0) = true := decide_eq_true c2
  clear c2
  obtain rfl := Option.some.inj H
  go_enter Tryd.func42, Tryd.ntmps42
  go_wp2
  go_ret
  exact ⟨by first | rfl | (simp; done) | (simp [*]; done), by repeat (first | exact Drawn0.refl _ | apply Drawn0.step)⟩
 ·rw [if_neg c2] at H
  have c2b0 : decide (1 ≤ a0) = false := decide_eq_false c2
  clear c2
  obtain rfl := Option.some.inj H
  go_enter Tryd.func42, Tryd.ntmps42
  go_wp2
  go_ret
  exact ⟨by first | rfl | (simp; done) | (simp [*]; done), by repeat (first | exact Drawn0.refl _ | apply Drawn0.step)⟩
def wide_negateP.f (a0_0 a0_1 : Int) : Option (Int × Int) := some (wrap64 (IntKind.u64.wrap ((IntKind.u64.wrap (Go.bits .xor .i64 (-1) a0_0)) + (addHi (Go.bits .xor .u64 IntKind.u64.max a0_1) 1))), addLo (Go.bits .xor .u64 IntKind.u64.max a0_1) 1)
set_option maxHeartbeats 8000000 in
set_option maxRecDepth 100000 in
theorem wide_negateP.calls (a0_0 a0_1 r1 r2 : Int) (w : World) (h : wide_negateP.f a0_0 a0_1 = some (r1, r2)) :
  Calls Tryd.prog 57 #[.agg #[.int .i64 a0_0, .int .u64 a0_1]] w fun e w' => e = .returned (.agg #[.int .i64 r1, .int .u64 r2]) ∧ Below w.heap.size w w' := by
 have hu63 := Tryd.underlying63
 have hadd64 := add64_run
 have hsgn : IntKind.u64.signed = false := rfl
 have HB := Aside0.mk (Below.refl w.heap.size w)
 have H : (some (wrap64 (IntKind.u64.wrap ((IntKind.u64.wrap (Go.bits .xor .i64 (-1) a0_0)) + (addHi (Go.bits .xor .u64 IntKind.u64.max a0_1) 1))), addLo (Go.bits .xor .u64 IntKind.u64.max a0_1) 1)) = some (r1, r2) := h
 clear h
 simp only [Option.some.injEq, Prod.mk.injEq] at H
 obtain ⟨rfl, rfl⟩ := H
 go_enter Tryd.func57, Tryd.ntmps57
 go_wp2_with (first | ((with_reducible refine gate_dst (N := 1) rfl ?_); refine be_ (N := 1) (cs := #[.int .i64 a0_0, .int .u64 a0_1]) (t := 63) ?_; intro gb117 hg w2 hbox hb; have n0_ := Aside0.mk (below_step (qb_ HB.out) hb); have n1_ := Aside0.mk (hbox); have n2_ := Aside0.mk (bz_ hg (qb_ HB.out) : w.heap.size ≤ gb117); have n3_ := n2_; clear HB; have HB := n0_; have BK117 := n1_; have GW117 := n2_; have GE117 := n3_; clear n0_ n1_ n2_ n3_; clear hb hbox hg) | ((with_reducible refine gate_dst (N := 2) rfl ?_); refine be_ (N := 2) (cs := #[.int .i64 0, .int .u64 0]) (t := 63) ?_; intro gb118 hg w3 hbox hb; have n0_ := Aside0.mk (blk_below (qk_ BK117.out) hb); have n1_ := Aside0.mk (below_step (qb1_ GE117.out HB.out) hb); have n2_ := Aside0.mk (hbox); have n3_ := Aside0.mk (bz_ hg (qb1_ GE117.out HB.out) : w.heap.size ≤ gb118); have n4_ := n3_; have n5_ := Aside0.mk (nl_ hg (qk_ BK117.out) : gb117 ≠ gb118); have n6_ := Aside0.mk (ng_ hg (qk_ BK117.out) : gb118 ≠ gb117); clear BK117; clear HB; have BK117 := n0_; have HB := n1_; have BK118 := n2_; have GW118 := n3_; have GE118 := n4_; have NB117_118 := n5_; have NB118_117 := n6_; clear n0_ n1_ n2_ n3_ n4_ n5_ n6_; clear hb hbox hg; have hnb4 := NB117_118.out; have hnc4 := NB118_117.out; obtain ⟨Z5_0, Z5_1, Y5_0, Y5_1⟩ := cz2_ BK117.out; obtain ⟨Z6_0, Z6_1, Y6_0, Y6_1⟩ := cz2_ BK118.out))
 refine bodyPost_ret (results_cell_row rfl _ _ gb118 63 #[.int .i64 (wrap64 (IntKind.u64.wrap ((IntKind.u64.wrap (Go.bits .xor .i64 (-1) a0_0)) + (addHi (Go.bits .xor .u64 IntKind.u64.max a0_1) 1)))), .int .u64 (addLo (Go.bits .xor .u64 IntKind.u64.max a0_1) 1)] (0, 0) _ rfl (qpp_ #[.int .i64 (wrap64 (IntKind.u64.wrap ((IntKind.u64.wrap (Go.bits .xor .i64 (-1) a0_0)) + (addHi (Go.bits .xor .u64 IntKind.u64.max a0_1) 1)))), .int .u64 0] 1 #[.int .i64 0, .int .u64 0] 0 BK118.out) Tryd.underlying63 rfl (by kernel_rfl)) rfl ?_
 exact ⟨qe_, qb2_ GE117.out GE118.out HB.out⟩
def wide_negate.f (a0_0 a0_1 : Int) : Option (Int × Int) :=
 if isW a0_0 a0_1 then some (if wv a0_0 a0_1 = -170141183460469231731687303715884105728 then (a0_0, a0_1) else (-(wv a0_0 a0_1) / 18446744073709551616, -(wv a0_0 a0_1) % 18446744073709551616)) else none
theorem wide_negate.eq {a b : Int} {r : Int × Int} (h : wide_negate.f a b = some r) : wide_negateP.f a b = some r := by
 unfold wide_negate.f at h
 split at h
 ·rename_i c
  obtain ⟨⟨c0, c1⟩, c2, c3⟩ := c
  injection h with h
  subst h
  unfold wide_negateP.f
  rw [xorM1 a c0 c1, xorMax b c2 c3, IntKind.wrap_u64, IntKind.wrap_u64]
  unfold addHi addLo wrap64 wv
  split
  ·rename_i e
   have e1 : a = -9223372036854775808 := by omega
   have e2 : b = 0 := by omega
   subst e1 e2
   rfl
  ·congr 2 <;> omega
 ·cases h
theorem wide_negate.calls (a0_0 a0_1 r1 r2 : Int) (w : World) (h : wide_negate.f a0_0 a0_1 = some (r1, r2)) :
  Calls Tryd.prog 57 #[.agg #[.int .i64 a0_0, .int .u64 a0_1]] w fun e w' => e = .returned (.agg #[.int .i64 r1, .int .u64 r2]) ∧ Below w.heap.size w w' := by
 have h := wide_negate.eq h
 exact wide_negateP.calls a0_0 a0_1 r1 r2 w h
def wide_absoluteP.f (a0_0 a0_1 : Int) : Option (Int × Int) := if a0_0 < 0 then ((wide_negate.f a0_0 a0_1).bind fun bt121 => (some (IntKind.u64.wrap (bt121.1), bt121.2))) else (some (IntKind.u64.wrap (a0_0), a0_1))
set_option maxHeartbeats 8000000 in
set_option maxRecDepth 100000 in
theorem wide_absoluteP.calls (a0_0 a0_1 r1 r2 : Int) (w : World) (h : wide_absoluteP.f a0_0 a0_1 = some (r1, r2)) :
  Calls Tryd.prog 65 #[.agg #[.int .i64 a0_0, .int .u64 a0_1]] w fun e w' => e = .returned (.agg #[.int .u64 r1, .int .u64 r2]) ∧ Below w.heap.size w w' := by
 have hu63 := Tryd.underlying63
 have hu83 := Tryd.underlying83
 have HB := Aside0.mk (Below.refl w.heap.size w)
 have H : (if a0_0 < 0 then ((wide_negate.f a0_0 a0_1).bind fun bt121 => (some (IntKind.u64.wrap (bt121.1), bt121.2))) else (some (IntKind.u64.wrap (a0_0), a0_1))) = some (r1, r2) := h
 clear h
 by_cases c2 : a0_0 < 0
 ·rw [if_pos c2] at H
  have c2b0 : decide (a0_0 < 0) = true := decide_eq_true c2
  clear c2
  replace H := Option.bind_eq_some_iff.mp H
  obtain ⟨⟨t121, t122⟩, A30, H⟩ := H
  replace H : (some (IntKind.u64.wrap (t121), t122)) = some (r1, r2) := H
  have A3 := Aside0.mk A30
  clear A30
  simp only [Option.some.injEq, Prod.mk.injEq] at H
  obtain ⟨rfl, rfl⟩ := H
  go_enter Tryd.func65, Tryd.ntmps65
  go_wp2_with (first | ((with_reducible refine gate_dst (N := 1) rfl ?_); refine be_ (N := 1) (cs := #[.int .i64 a0_0, .int .u64 a0_1]) (t := 63) ?_; intro gb119 hg w4 hbox hb; have n0_ := Aside0.mk (below_step (qb_ HB.out) hb); have n1_ := Aside0.mk (hbox); have n2_ := Aside0.mk (bz_ hg (qb_ HB.out) : w.heap.size ≤ gb119); have n3_ := n2_; clear HB; have HB := n0_; have BK119 := n1_; have GW119 := n2_; have GE119 := n3_; clear n0_ n1_ n2_ n3_; clear hb hbox hg) | ((with_reducible refine gate_dst (N := 2) rfl ?_); refine be_ (N := 2) (cs := #[.int .u64 0, .int .u64 0]) (t := 83) ?_; intro gb120 hg w5 hbox hb; have n0_ := Aside0.mk (blk_below (qk_ BK119.out) hb); have n1_ := Aside0.mk (below_step (qb1_ GE119.out HB.out) hb); have n2_ := Aside0.mk (hbox); have n3_ := Aside0.mk (bz_ hg (qb1_ GE119.out HB.out) : w.heap.size ≤ gb120); have n4_ := n3_; have n5_ := Aside0.mk (nl_ hg (qk_ BK119.out) : gb119 ≠ gb120); have n6_ := Aside0.mk (ng_ hg (qk_ BK119.out) : gb120 ≠ gb119); clear BK119; clear HB; have BK119 := n0_; have HB := n1_; have BK120 := n2_; have GW120 := n3_; have GE120 := n4_; have NB119_120 := n5_; have NB120_119 := n6_; clear n0_ n1_ n2_ n3_ n4_ n5_ n6_; clear hb hbox hg; have hnb6 := NB119_120.out; have hnc6 := NB120_119.out; obtain ⟨Z7_0, Z7_1, Y7_0, Y7_1⟩ := cz2_ BK119.out) | ((with_reducible refine gate_callee (f := 57) rfl ?_); refine goesL_ (some 7) rfl rfl Tryd.func57 (by kernel_rfl) rfl #[.agg #[.int .i64 a0_0, .int .u64 a0_1]] rfl ql_ ?_; (with_reducible refine (wide_negate.calls a0_0 a0_1 t121 t122 _ A3.out).mono ?_); rintro e w8 ⟨rfl, hb⟩; refine ⟨_, rfl, ?_⟩; have n0_ := Aside0.mk (blk_below (qk_ BK119.out) hb); have n1_ := Aside0.mk (blk_below (qk_ BK120.out) hb); have n2_ := Aside0.mk (below_step (qb2_ GE119.out GE120.out HB.out) hb); clear BK119; clear BK120; clear HB; have BK119 := n0_; have BK120 := n1_; have HB := n2_; clear n0_ n1_ n2_; (try clear hb); (try clear hb2); (try clear hk); (try clear hi); obtain ⟨Z9_0, Z9_1, Y9_0, Y9_1⟩ := cz2_ BK119.out; obtain ⟨Z10_0, Z10_1, Y10_0, Y10_1⟩ := cz2_ BK120.out))
  refine bodyPost_ret (results_cell_row rfl _ _ gb120 83 #[.int .u64 (IntKind.u64.wrap (t121)), .int .u64 t122] (0, 0) _ rfl (qppff_ #[.int .u64 (IntKind.u64.wrap (t121)), .int .u64 0] 1 #[.int .u64 0, .int .u64 0] 0 NB120_119.out NB120_119.out BK120.out) Tryd.underlying83 rfl (by kernel_rfl)) rfl ?_
  exact ⟨qe_, qb2_ GE119.out GE120.out HB.out⟩
 ·rw [if_neg c2] at H
  have c2b0 : decide (a0_0 < 0) = false := decide_eq_false c2
  clear c2
  simp only [Option.some.injEq, Prod.mk.injEq] at H
  obtain ⟨rfl, rfl⟩ := H
  go_enter Tryd.func65, Tryd.ntmps65
  go_wp2_with (first | ((with_reducible refine gate_dst (N := 1) rfl ?_); refine be_ (N := 1) (cs := #[.int .i64 a0_0, .int .u64 a0_1]) (t := 63) ?_; intro gb119 hg w11 hbox hb; have n0_ := Aside0.mk (below_step (qb_ HB.out) hb); have n1_ := Aside0.mk (hbox); have n2_ := Aside0.mk (bz_ hg (qb_ HB.out) : w.heap.size ≤ gb119); have n3_ := n2_; clear HB; have HB := n0_; have BK119 := n1_; have GW119 := n2_; have GE119 := n3_; clear n0_ n1_ n2_ n3_; clear hb hbox hg) | ((with_reducible refine gate_dst (N := 2) rfl ?_); refine be_ (N := 2) (cs := #[.int .u64 0, .int .u64 0]) (t := 83) ?_; intro gb120 hg w12 hbox hb; have n0_ := Aside0.mk (blk_below (qk_ BK119.out) hb); have n1_ := Aside0.mk (below_step (qb1_ GE119.out HB.out) hb); have n2_ := Aside0.mk (hbox); have n3_ := Aside0.mk (bz_ hg (qb1_ GE119.out HB.out) : w.heap.size ≤ gb120); have n4_ := n3_; have n5_ := Aside0.mk (nl_ hg (qk_ BK119.out) : gb119 ≠ gb120); have n6_ := Aside0.mk (ng_ hg (qk_ BK119.out) : gb120 ≠ gb119); clear BK119; clear HB; have BK119 := n0_; have HB := n1_; have BK120 := n2_; have GW120 := n3_; have GE120 := n4_; have NB119_120 := n5_; have NB120_119 := n6_; clear n0_ n1_ n2_ n3_ n4_ n5_ n6_; clear hb hbox hg; have hnb13 := NB119_120.out; have hnc13 := NB120_119.out; obtain ⟨Z14_0, Z14_1, Y14_0, Y14_1⟩ := cz2_ BK119.out; obtain ⟨Z15_0, Z15_1, Y15_0, Y15_1⟩ := cz2_ BK120.out))
  refine bodyPost_ret (results_cell_row rfl _ _ gb120 83 #[.int .u64 (IntKind.u64.wrap (a0_0)), .int .u64 a0_1] (0, 0) _ rfl (qpp_ #[.int .u64 (IntKind.u64.wrap (a0_0)), .int .u64 0] 1 #[.int .u64 0, .int .u64 0] 0 BK120.out) Tryd.underlying83 rfl (by kernel_rfl)) rfl ?_
  exact ⟨qe_, qb2_ GE119.out GE120.out HB.out⟩
def wide_absolute.f (a0_0 a0_1 : Int) : Option (Int × Int) :=
 if isW a0_0 a0_1 then some ((if a0_0 < 0 then -(wv a0_0 a0_1) else wv a0_0 a0_1) / 18446744073709551616, (if a0_0 < 0 then -(wv a0_0 a0_1) else wv a0_0 a0_1) % 18446744073709551616) else none
theorem wide_absolute.eq {a b : Int} {r : Int × Int} (h : wide_absolute.f a b = some r) : wide_absoluteP.f a b = some r := by
 unfold wide_absolute.f at h
 split at h
 ·rename_i c
  injection h with h
  subst h
  unfold wide_absoluteP.f wide_negate.f
  rw [if_pos c]
  obtain ⟨⟨c0, c1⟩, c2, c3⟩ := c
  simp only [Option.bind_some]
  by_cases hn : a < 0
  ·rw [if_pos hn, if_pos hn]
   by_cases e : wv a b = -170141183460469231731687303715884105728
   ·rw [if_pos e]
    unfold wv at e ⊢
    have e1 : a = -9223372036854775808 := by omega
    have e2 : b = 0 := by omega
    subst e1 e2
    rfl
   ·rw [if_neg e]
    unfold wv at e ⊢
    simp only [IntKind.wrap_u64]
    congr 2 <;> omega
  ·rw [if_neg hn, if_neg hn]
   unfold wv
   simp only [IntKind.wrap_u64]
   congr 2 <;> omega
 ·cases h
theorem wide_absolute.calls (a0_0 a0_1 r1 r2 : Int) (w : World) (h : wide_absolute.f a0_0 a0_1 = some (r1, r2)) :
  Calls Tryd.prog 65 #[.agg #[.int .i64 a0_0, .int .u64 a0_1]] w fun e w' => e = .returned (.agg #[.int .u64 r1, .int .u64 r2]) ∧ Below w.heap.size w w' := by
 have h := wide_absolute.eq h
 exact wide_absoluteP.calls a0_0 a0_1 r1 r2 w h
def bits_Len64.f (a0 : Int) : Option Int := if inU a0 then some (Lib.bitLen a0.toNat : Int) else none
set_option maxRecDepth 100000 in
theorem tab_size : (Lib.len8tab.size : Int) = 256 := by
 have : Lib.len8tab.size = 256 := by decide
 omega
/-- The last step of each way: the table's byte is the length of the number's last byte. -/
theorem len_way (K : Nat) (y x : Int) (h : y.toNat < Lib.len8tab.size) (h0 : 0 ≤ y) (h1 : y ≤ 255) (hK : K ≤ 56) (hs : Lib.bitLen x.toNat = K + Lib.bitLen y.toNat) :
  wrap64 ((K : Int) + wrap64 ((Lib.len8tab[y.toNat]'h).toNat : Int)) = (Lib.bitLen x.toNat : Int) := by
 have e : ((Lib.len8tab[y.toNat]'h).toNat : Int) = (Lib.bitLen y.toNat : Int) := by
  rw [← Lib.len8_of y h0 h1]
  unfold Lib.len8
  rw [getElem?_pos Lib.len8tab y.toNat h]
  rfl
 have l := Lib.bitLen_le8' y h0 h1
 rw [e, hs]
 unfold wrap64
 omega
theorem len_way0 (y : Int) (h : y.toNat < Lib.len8tab.size) (h0 : 0 ≤ y) (h1 : y ≤ 255) :
  wrap64 (wrap64 ((Lib.len8tab[y.toNat]'h).toNat : Int)) = (Lib.bitLen y.toNat : Int) := by
 have e : ((Lib.len8tab[y.toNat]'h).toNat : Int) = (Lib.bitLen y.toNat : Int) := by
  rw [← Lib.len8_of y h0 h1]
  unfold Lib.len8
  rw [getElem?_pos Lib.len8tab y.toNat h]
  rfl
 have l := Lib.bitLen_le8' y h0 h1
 rw [e]
 unfold wrap64
 omega
theorem sh56 (x : Int) (h : 72057594037927936 ≤ x) (hx : x ≤ 18446744073709551615) : Lib.bitLen x.toNat = 56 + Lib.bitLen (x / 4294967296 / 65536 / 256).toNat := by
 rw [show (x / 4294967296 / 65536 / 256).toNat = x.toNat / 72057594037927936 by omega]; exact Lib.bitLen_shift56 x.toNat (by omega) (by omega)
theorem sh48 (x : Int) (h : 281474976710656 ≤ x) (hx : x / 4294967296 / 65536 ≤ 255) : Lib.bitLen x.toNat = 48 + Lib.bitLen (x / 4294967296 / 65536).toNat := by
 rw [show (x / 4294967296 / 65536).toNat = x.toNat / 281474976710656 by omega]; exact Lib.bitLen_shift48 x.toNat (by omega) (by omega)
theorem sh40 (x : Int) (h : 1099511627776 ≤ x) (hx : x / 4294967296 / 256 ≤ 255) : Lib.bitLen x.toNat = 40 + Lib.bitLen (x / 4294967296 / 256).toNat := by
 rw [show (x / 4294967296 / 256).toNat = x.toNat / 1099511627776 by omega]; exact Lib.bitLen_shift40 x.toNat (by omega) (by omega)
theorem sh32 (x : Int) (h : 4294967296 ≤ x) (hx : x / 4294967296 ≤ 255) : Lib.bitLen x.toNat = 32 + Lib.bitLen (x / 4294967296).toNat := by
 rw [show (x / 4294967296).toNat = x.toNat / 4294967296 by omega]; exact Lib.bitLen_shift32 x.toNat (by omega) (by omega)
theorem sh24 (x : Int) (h : 16777216 ≤ x) (hx : x / 65536 / 256 ≤ 255) : Lib.bitLen x.toNat = 24 + Lib.bitLen (x / 65536 / 256).toNat := by
 rw [show (x / 65536 / 256).toNat = x.toNat / 16777216 by omega]; exact Lib.bitLen_shift24 x.toNat (by omega) (by omega)
theorem sh16 (x : Int) (h : 65536 ≤ x) (hx : x / 65536 ≤ 255) : Lib.bitLen x.toNat = 16 + Lib.bitLen (x / 65536).toNat := by
 rw [show (x / 65536).toNat = x.toNat / 65536 by omega]; exact Lib.bitLen_shift16 x.toNat (by omega) (by omega)
theorem sh8 (x : Int) (h : 256 ≤ x) (hx : x / 256 ≤ 255) : Lib.bitLen x.toNat = 8 + Lib.bitLen (x / 256).toNat := by
 rw [show (x / 256).toNat = x.toNat / 256 by omega]; exact Lib.bitLen_shift8 x.toNat (by omega) (by omega)
set_option maxHeartbeats 8000000 in
set_option maxRecDepth 1000000 in
theorem bits_Len64.calls (a0 r : Int) (w : World) (h : bits_Len64.f a0 = some r) :
  Calls Tryd.prog 82 #[.int .u64 a0] w fun e w' => e = .returned (.int .i64 r) ∧ Drawn0 w w' := by
 unfold bits_Len64.f at h
 split at h
 ·rename_i c
  obtain ⟨h0, h1⟩ := c
  injection h with h
  suffices hs : Calls Tryd.prog 82 #[.int .u64 a0] w fun e w' => e = .returned (.int .i64 (Lib.bitLen a0.toNat)) ∧ w' = w by
   refine hs.mono ?_
   rintro e w' ⟨rfl, rfl⟩
   exact ⟨by rw [h], Drawn0.refl _⟩
  clear h
  go_enter Tryd.func82, Tryd.ntmps82
  go_wp2
  all_goals first
   | (go_ret; refine ⟨congrArg Ending.returned (congrArg (Value.int IntKind.i64) ?_), rfl⟩; go_light)
   | (exfalso; go_light; have hs := tab_size; omega)
  all_goals first
   | exact len_way 56 (a0 / 4294967296 / 65536 / 256) a0 _ (by omega) (by omega) (by decide) (sh56 a0 (by omega) (by omega))
   | exact len_way 48 (a0 / 4294967296 / 65536) a0 _ (by omega) (by omega) (by decide) (sh48 a0 (by omega) (by omega))
   | exact len_way 40 (a0 / 4294967296 / 256) a0 _ (by omega) (by omega) (by decide) (sh40 a0 (by omega) (by omega))
   | exact len_way 32 (a0 / 4294967296) a0 _ (by omega) (by omega) (by decide) (sh32 a0 (by omega) (by omega))
   | exact len_way 24 (a0 / 65536 / 256) a0 _ (by omega) (by omega) (by decide) (sh24 a0 (by omega) (by omega))
   | exact len_way 16 (a0 / 65536) a0 _ (by omega) (by omega) (by decide) (sh16 a0 (by omega) (by omega))
   | exact len_way 8 (a0 / 256) a0 _ (by omega) (by omega) (by decide) (sh8 a0 (by omega) (by omega))
   | exact len_way0 a0 _ (by omega) (by omega)
 ·cases h
def bits_LeadingZeros64.f (a0 : Int) : Option (Int) := (bits_Len64.f a0).bind fun t123 => (some (wrap64 (64 - t123)))
set_option maxHeartbeats 8000000 in
set_option maxRecDepth 100000 in
theorem bits_LeadingZeros64.calls (a0 r : Int) (w : World) (h : bits_LeadingZeros64.f a0 = some r) :
  Calls Tryd.prog 81 #[.int .u64 a0] w fun e w' => e = .returned (.int .i64 r) ∧ Drawn0 w w' := by
 have H : ((bits_Len64.f a0).bind fun t123 => (some (wrap64 (64 - t123)))) = some r := h
 clear h
 replace H := Option.bind_eq_some_iff.mp H
 obtain ⟨t123, A20, H⟩ := H
 replace H : (some (wrap64 (64 - t123))) = some r := H
 have A2 := Aside0.mk A20
 clear A20
 obtain rfl := Option.some.inj H
 go_enter Tryd.func81, Tryd.ntmps81
 go_wp2_with (first | ((with_reducible refine gate_callee (f := 82) rfl ?_); refine goesL_ (some 4) rfl rfl Tryd.func82 (by kernel_rfl) rfl #[.int .u64 a0] rfl ql_ ?_; (with_reducible refine (bits_Len64.calls a0 t123 _ A2.out).mono ?_); rintro e w' ⟨rfl, ⟨nd, rfl⟩⟩; refine ⟨_, rfl, ?_⟩))
 go_ret
 exact ⟨by first | rfl | (simp; done) | (simp [*]; done), by repeat (first | exact Drawn0.refl _ | apply Drawn0.step)⟩
mutual
def bits_Div64P.j2 : Nat → Int → Int → Int → Int → Int → Int → Int → Int → Option (Int × Int)
 | 0, _, _, _, _, _, _, _, _ => none
 | k + 1, x2, x8, x9, x10, x11, x13, x14, x15 => if x9 = 0 then (none) else (bits_Div64P.l1 k x2 x8 x9 x10 x14 x15 (IntKind.u64.wrap ((IntKind.u64.wrap ((IntKind.u64.wrap ((IntKind.u64.wrap (x11 * 4294967296)) + x13)) - (IntKind.u64.wrap (x15 * x2)))) - (IntKind.u64.wrap ((IntKind.u64.wrap (Int.tdiv (IntKind.u64.wrap ((IntKind.u64.wrap ((IntKind.u64.wrap (x11 * 4294967296)) + x13)) - (IntKind.u64.wrap (x15 * x2)))) x9)) * x9)))) (IntKind.u64.wrap ((IntKind.u64.wrap ((IntKind.u64.wrap (x11 * 4294967296)) + x13)) - (IntKind.u64.wrap (x15 * x2)))) (IntKind.u64.wrap (Int.tdiv (IntKind.u64.wrap ((IntKind.u64.wrap ((IntKind.u64.wrap (x11 * 4294967296)) + x13)) - (IntKind.u64.wrap (x15 * x2)))) x9)))
def bits_Div64P.l1 : Nat → Int → Int → Int → Int → Int → Int → Int → Int → Int → Option (Int × Int)
 | 0, _, _, _, _, _, _, _, _, _ => none
 | k + 1, x2, x8, x9, x10, x14, x15, x16, x17, x18 => if x18 ≥ 4294967296 then (bits_Div64P.j4 k x2 x8 x9 x10 x14 x15 x16 x17 x18 true) else (bits_Div64P.j4 k x2 x8 x9 x10 x14 x15 x16 x17 x18 (decide ((IntKind.u64.wrap (x18 * x10)) > (IntKind.u64.wrap ((IntKind.u64.wrap (4294967296 * x16)) + x14)))))
def bits_Div64P.j4 : Nat → Int → Int → Int → Int → Int → Int → Int → Int → Int → Bool → Option (Int × Int)
 | 0, _, _, _, _, _, _, _, _, _, _ => none
 | k + 1, x2, x8, x9, x10, x14, x15, x16, x17, x18, x113 => if x113 = true then (if (IntKind.u64.wrap (x16 + x9)) ≥ 4294967296 then (if 0 ≤ x8 then (some (IntKind.u64.wrap ((IntKind.u64.wrap (x15 * 4294967296)) + (IntKind.u64.wrap (x18 - 1))), shr .u64 (IntKind.u64.wrap ((IntKind.u64.wrap ((IntKind.u64.wrap (x17 * 4294967296)) + x14)) - (IntKind.u64.wrap ((IntKind.u64.wrap (x18 - 1)) * x2)))) x8)) else (none)) else (bits_Div64P.l1 k x2 x8 x9 x10 x14 x15 (IntKind.u64.wrap (x16 + x9)) x17 (IntKind.u64.wrap (x18 - 1)))) else (if 0 ≤ x8 then (some (IntKind.u64.wrap ((IntKind.u64.wrap (x15 * 4294967296)) + x18), shr .u64 (IntKind.u64.wrap ((IntKind.u64.wrap ((IntKind.u64.wrap (x17 * 4294967296)) + x14)) - (IntKind.u64.wrap (x18 * x2)))) x8)) else (none))
def bits_Div64P.l0 : Nat → Int → Int → Int → Int → Int → Int → Int → Int → Int → Option (Int × Int)
 | 0, _, _, _, _, _, _, _, _, _ => none
 | k + 1, x2, x8, x9, x10, x11, x13, x14, x15, x16 => if x15 ≥ 4294967296 then (bits_Div64P.j1 k x2 x8 x9 x10 x11 x13 x14 x15 x16 true) else (bits_Div64P.j1 k x2 x8 x9 x10 x11 x13 x14 x15 x16 (decide ((IntKind.u64.wrap (x15 * x10)) > (IntKind.u64.wrap ((IntKind.u64.wrap (4294967296 * x16)) + x13)))))
def bits_Div64P.j1 : Nat → Int → Int → Int → Int → Int → Int → Int → Int → Int → Bool → Option (Int × Int)
 | 0, _, _, _, _, _, _, _, _, _, _ => none
 | k + 1, x2, x8, x9, x10, x11, x13, x14, x15, x16, x78 => if x78 = true then (if (IntKind.u64.wrap (x16 + x9)) ≥ 4294967296 then (bits_Div64P.j2 k x2 x8 x9 x10 x11 x13 x14 (IntKind.u64.wrap (x15 - 1))) else (bits_Div64P.l0 k x2 x8 x9 x10 x11 x13 x14 (IntKind.u64.wrap (x15 - 1)) (IntKind.u64.wrap (x16 + x9)))) else (bits_Div64P.j2 k x2 x8 x9 x10 x11 x13 x14 x15)
end
def bits_Div64P.f (k : Nat) (a0 a1 a2 : Int) : Option (Int × Int) := if a2 = 0 then (none) else (if a2 ≤ a0 then (none) else (if a0 = 0 then (some (IntKind.u64.wrap (Int.tdiv a1 a2), Int.tmod a1 a2)) else ((bits_LeadingZeros64.f a2).bind fun t124 => (if 0 ≤ (IntKind.u64.wrap (t124)) then (if 0 ≤ (IntKind.u64.wrap (64 - (IntKind.u64.wrap (t124)))) then (if ((shl .u64 a2 (IntKind.u64.wrap (t124))) / 4294967296) = 0 then (none) else (bits_Div64P.l0 k (shl .u64 a2 (IntKind.u64.wrap (t124))) (IntKind.u64.wrap (t124)) ((shl .u64 a2 (IntKind.u64.wrap (t124))) / 4294967296) (Go.bits .and .u64 (shl .u64 a2 (IntKind.u64.wrap (t124))) 4294967295) (Go.bits .or .u64 (shl .u64 a0 (IntKind.u64.wrap (t124))) (shr .u64 a1 (IntKind.u64.wrap (64 - (IntKind.u64.wrap (t124)))))) ((shl .u64 a1 (IntKind.u64.wrap (t124))) / 4294967296) (Go.bits .and .u64 (shl .u64 a1 (IntKind.u64.wrap (t124))) 4294967295) (IntKind.u64.wrap (Int.tdiv (Go.bits .or .u64 (shl .u64 a0 (IntKind.u64.wrap (t124))) (shr .u64 a1 (IntKind.u64.wrap (64 - (IntKind.u64.wrap (t124)))))) ((shl .u64 a2 (IntKind.u64.wrap (t124))) / 4294967296))) (IntKind.u64.wrap ((Go.bits .or .u64 (shl .u64 a0 (IntKind.u64.wrap (t124))) (shr .u64 a1 (IntKind.u64.wrap (64 - (IntKind.u64.wrap (t124)))))) - (IntKind.u64.wrap ((IntKind.u64.wrap (Int.tdiv (Go.bits .or .u64 (shl .u64 a0 (IntKind.u64.wrap (t124))) (shr .u64 a1 (IntKind.u64.wrap (64 - (IntKind.u64.wrap (t124)))))) ((shl .u64 a2 (IntKind.u64.wrap (t124))) / 4294967296))) * ((shl .u64 a2 (IntKind.u64.wrap (t124))) / 4294967296))))))) else (none)) else (none)))))
set_option maxHeartbeats 8000000 in
set_option maxRecDepth 100000 in
theorem bits_Div64P.calls (k : Nat) (a0 a1 a2 r1 r2 : Int) (w : World) (h : bits_Div64P.f k a0 a1 a2 = some (r1, r2)) :
  Calls Tryd.prog 77 #[.int .u64 a0, .int .u64 a1, .int .u64 a2] w fun e w' => e = .returned (.tuple #[.int .u64 r1, .int .u64 r2]) ∧ Drawn0 w w' := by
 have H : (if a2 = 0 then (none) else (if a2 ≤ a0 then (none) else (if a0 = 0 then (some (IntKind.u64.wrap (Int.tdiv a1 a2), Int.tmod a1 a2)) else ((bits_LeadingZeros64.f a2).bind fun t124 => (if 0 ≤ (IntKind.u64.wrap (t124)) then (if 0 ≤ (IntKind.u64.wrap (64 - (IntKind.u64.wrap (t124)))) then (if ((shl .u64 a2 (IntKind.u64.wrap (t124))) / 4294967296) = 0 then (none) else (bits_Div64P.l0 k (shl .u64 a2 (IntKind.u64.wrap (t124))) (IntKind.u64.wrap (t124)) ((shl .u64 a2 (IntKind.u64.wrap (t124))) / 4294967296) (Go.bits .and .u64 (shl .u64 a2 (IntKind.u64.wrap (t124))) 4294967295) (Go.bits .or .u64 (shl .u64 a0 (IntKind.u64.wrap (t124))) (shr .u64 a1 (IntKind.u64.wrap (64 - (IntKind.u64.wrap (t124)))))) ((shl .u64 a1 (IntKind.u64.wrap (t124))) / 4294967296) (Go.bits .and .u64 (shl .u64 a1 (IntKind.u64.wrap (t124))) 4294967295) (IntKind.u64.wrap (Int.tdiv (Go.bits .or .u64 (shl .u64 a0 (IntKind.u64.wrap (t124))) (shr .u64 a1 (IntKind.u64.wrap (64 - (IntKind.u64.wrap (t124)))))) ((shl .u64 a2 (IntKind.u64.wrap (t124))) / 4294967296))) (IntKind.u64.wrap ((Go.bits .or .u64 (shl .u64 a0 (IntKind.u64.wrap (t124))) (shr .u64 a1 (IntKind.u64.wrap (64 - (IntKind.u64.wrap (t124)))))) - (IntKind.u64.wrap ((IntKind.u64.wrap (Int.tdiv (Go.bits .or .u64 (shl .u64 a0 (IntKind.u64.wrap (t124))) (shr .u64 a1 (IntKind.u64.wrap (64 - (IntKind.u64.wrap (t124)))))) ((shl .u64 a2 (IntKind.u64.wrap (t124))) / 4294967296))) * ((shl .u64 a2 (IntKind.u64.wrap (t124))) / 4294967296))))))) else (none)) else (none)))))) = some (r1, r2) := h
 clear h
 by_cases c4 : a2 = 0
 ·rw [if_pos c4] at H
  exact absurd H (by simp)
 ·rw [if_neg c4] at H
  have c4b0 : (a2 == 0) = false := beq_eq_false_iff_ne.mpr c4
  have c4b1 : (a2 != 0) = true := bne_iff_ne.mpr c4
  by_cases c5 : a2 ≤ a0
  ·rw [if_pos c5] at H
   exact absurd H (by simp)
  ·rw [if_neg c5] at H
   have c5b0 : decide (a2 ≤ a0) = false := decide_eq_false c5
   clear c5
   by_cases c6 : a0 = 0
   ·rw [if_pos c6] at H
    have c6b0 : (a0 == 0) = true := beq_iff_eq.mpr c6
    have c6b1 : (a0 != 0) = false := bne_eq_false_iff_eq.mpr c6
    clear c6
    simp only [Option.some.injEq, Prod.mk.injEq] at H
    obtain ⟨rfl, rfl⟩ := H
    go_enter Tryd.func77, Tryd.ntmps77
    go_wp2
    repeat (go_quiet (fail); try go_wp2)
    go_ret2
    exact ⟨by first | rfl | (simp; done) | (simp [*]; done), by repeat (first | exact Drawn0.refl _ | apply Drawn0.step)⟩
   ·rw [if_neg c6] at H
    have c6b0 : (a0 == 0) = false := beq_eq_false_iff_ne.mpr c6
    have c6b1 : (a0 != 0) = true := bne_iff_ne.mpr c6
    replace H := Option.bind_eq_some_iff.mp H
    obtain ⟨t124, A70, H⟩ := H
    replace H : (if 0 ≤ (IntKind.u64.wrap (t124)) then (if 0 ≤ (IntKind.u64.wrap (64 - (IntKind.u64.wrap (t124)))) then (if ((shl .u64 a2 (IntKind.u64.wrap (t124))) / 4294967296) = 0 then (none) else (bits_Div64P.l0 k (shl .u64 a2 (IntKind.u64.wrap (t124))) (IntKind.u64.wrap (t124)) ((shl .u64 a2 (IntKind.u64.wrap (t124))) / 4294967296) (Go.bits .and .u64 (shl .u64 a2 (IntKind.u64.wrap (t124))) 4294967295) (Go.bits .or .u64 (shl .u64 a0 (IntKind.u64.wrap (t124))) (shr .u64 a1 (IntKind.u64.wrap (64 - (IntKind.u64.wrap (t124)))))) ((shl .u64 a1 (IntKind.u64.wrap (t124))) / 4294967296) (Go.bits .and .u64 (shl .u64 a1 (IntKind.u64.wrap (t124))) 4294967295) (IntKind.u64.wrap (Int.tdiv (Go.bits .or .u64 (shl .u64 a0 (IntKind.u64.wrap (t124))) (shr .u64 a1 (IntKind.u64.wrap (64 - (IntKind.u64.wrap (t124)))))) ((shl .u64 a2 (IntKind.u64.wrap (t124))) / 4294967296))) (IntKind.u64.wrap ((Go.bits .or .u64 (shl .u64 a0 (IntKind.u64.wrap (t124))) (shr .u64 a1 (IntKind.u64.wrap (64 - (IntKind.u64.wrap (t124)))))) - (IntKind.u64.wrap ((IntKind.u64.wrap (Int.tdiv (Go.bits .or .u64 (shl .u64 a0 (IntKind.u64.wrap (t124))) (shr .u64 a1 (IntKind.u64.wrap (64 - (IntKind.u64.wrap (t124)))))) ((shl .u64 a2 (IntKind.u64.wrap (t124))) / 4294967296))) * ((shl .u64 a2 (IntKind.u64.wrap (t124))) / 4294967296))))))) else (none)) else (none)) = some (r1, r2) := H
    have A7 := Aside0.mk A70
    clear A70
    obtain ⟨ji8, hji8⟩ : ∃ j_ : Int, (IntKind.u64.wrap (t124)) = j_ := ⟨_, rfl⟩
    replace H : (if 0 ≤ (ji8) then (if 0 ≤ (IntKind.u64.wrap (64 - (ji8))) then (if ((shl .u64 a2 (ji8)) / 4294967296) = 0 then (none) else (bits_Div64P.l0 k (shl .u64 a2 (ji8)) ji8 ((shl .u64 a2 (ji8)) / 4294967296) (Go.bits .and .u64 (shl .u64 a2 (ji8)) 4294967295) (Go.bits .or .u64 (shl .u64 a0 (ji8)) (shr .u64 a1 (IntKind.u64.wrap (64 - (ji8))))) ((shl .u64 a1 (ji8)) / 4294967296) (Go.bits .and .u64 (shl .u64 a1 (ji8)) 4294967295) (IntKind.u64.wrap (Int.tdiv (Go.bits .or .u64 (shl .u64 a0 (ji8)) (shr .u64 a1 (IntKind.u64.wrap (64 - (ji8))))) ((shl .u64 a2 (ji8)) / 4294967296))) (IntKind.u64.wrap ((Go.bits .or .u64 (shl .u64 a0 (ji8)) (shr .u64 a1 (IntKind.u64.wrap (64 - (ji8))))) - (IntKind.u64.wrap ((IntKind.u64.wrap (Int.tdiv (Go.bits .or .u64 (shl .u64 a0 (ji8)) (shr .u64 a1 (IntKind.u64.wrap (64 - (ji8))))) ((shl .u64 a2 (ji8)) / 4294967296))) * ((shl .u64 a2 (ji8)) / 4294967296))))))) else (none)) else (none)) = some (r1, r2) := by first | (rw [hji8] at H; exact H) | (simp only [hji8] at H ⊢; exact H)
    (try rw [hji8] at A7)
    by_cases c9 : 0 ≤ (ji8)
    ·rw [if_pos c9] at H
     have c9b0 := eq_true c9
     have c9b1 : decide (0 ≤ (ji8)) = true := decide_eq_true c9
     clear c9
     obtain ⟨ji10, hji10⟩ : ∃ j_ : Int, (shl .u64 a2 (ji8)) = j_ := ⟨_, rfl⟩
     replace H : (if 0 ≤ (IntKind.u64.wrap (64 - (ji8))) then (if ((ji10) / 4294967296) = 0 then (none) else (bits_Div64P.l0 k ji10 ji8 ((ji10) / 4294967296) (Go.bits .and .u64 (ji10) 4294967295) (Go.bits .or .u64 (shl .u64 a0 (ji8)) (shr .u64 a1 (IntKind.u64.wrap (64 - (ji8))))) ((shl .u64 a1 (ji8)) / 4294967296) (Go.bits .and .u64 (shl .u64 a1 (ji8)) 4294967295) (IntKind.u64.wrap (Int.tdiv (Go.bits .or .u64 (shl .u64 a0 (ji8)) (shr .u64 a1 (IntKind.u64.wrap (64 - (ji8))))) ((ji10) / 4294967296))) (IntKind.u64.wrap ((Go.bits .or .u64 (shl .u64 a0 (ji8)) (shr .u64 a1 (IntKind.u64.wrap (64 - (ji8))))) - (IntKind.u64.wrap ((IntKind.u64.wrap (Int.tdiv (Go.bits .or .u64 (shl .u64 a0 (ji8)) (shr .u64 a1 (IntKind.u64.wrap (64 - (ji8))))) ((ji10) / 4294967296))) * ((ji10) / 4294967296))))))) else (none)) = some (r1, r2) := by first | (rw [hji10] at H; exact H) | (simp only [hji10] at H ⊢; exact H)
     (try rw [hji10] at A7)
     have hji10_ : (IntKind.u64.wrap (a2 * 2 ^ min (ji8).toNat 64)) = ji10 := hji10
     have hji10z : (ji8) ≤ 64 → (IntKind.u64.wrap (a2 * 2 ^ (ji8).toNat)) = ji10 := shl_small hji10
     have c11b0 := eq_true (of_decide_eq_true (by first | (with_reducible assumption) | assumption) : 0 ≤ (ji8))
     obtain ⟨ji12, hji12⟩ : ∃ j_ : Int, (shl .u64 a0 (ji8)) = j_ := ⟨_, rfl⟩
     replace H : (if 0 ≤ (IntKind.u64.wrap (64 - (ji8))) then (if ((ji10) / 4294967296) = 0 then (none) else (bits_Div64P.l0 k ji10 ji8 ((ji10) / 4294967296) (Go.bits .and .u64 (ji10) 4294967295) (Go.bits .or .u64 (ji12) (shr .u64 a1 (IntKind.u64.wrap (64 - (ji8))))) ((shl .u64 a1 (ji8)) / 4294967296) (Go.bits .and .u64 (shl .u64 a1 (ji8)) 4294967295) (IntKind.u64.wrap (Int.tdiv (Go.bits .or .u64 (ji12) (shr .u64 a1 (IntKind.u64.wrap (64 - (ji8))))) ((ji10) / 4294967296))) (IntKind.u64.wrap ((Go.bits .or .u64 (ji12) (shr .u64 a1 (IntKind.u64.wrap (64 - (ji8))))) - (IntKind.u64.wrap ((IntKind.u64.wrap (Int.tdiv (Go.bits .or .u64 (ji12) (shr .u64 a1 (IntKind.u64.wrap (64 - (ji8))))) ((ji10) / 4294967296))) * ((ji10) / 4294967296))))))) else (none)) = some (r1, r2) := by first | (rw [hji12] at H; exact H) | (simp only [hji12] at H ⊢; exact H)
     (try rw [hji12] at A7)
     have hji12_ : (IntKind.u64.wrap (a0 * 2 ^ min (ji8).toNat 64)) = ji12 := hji12
     have hji12z : (ji8) ≤ 64 → (IntKind.u64.wrap (a0 * 2 ^ (ji8).toNat)) = ji12 := shl_small hji12
     obtain ⟨ji13, hji13⟩ : ∃ j_ : Int, (IntKind.u64.wrap (64 - (ji8))) = j_ := ⟨_, rfl⟩
     replace H : (if 0 ≤ (ji13) then (if ((ji10) / 4294967296) = 0 then (none) else (bits_Div64P.l0 k ji10 ji8 ((ji10) / 4294967296) (Go.bits .and .u64 (ji10) 4294967295) (Go.bits .or .u64 (ji12) (shr .u64 a1 (ji13))) ((shl .u64 a1 (ji8)) / 4294967296) (Go.bits .and .u64 (shl .u64 a1 (ji8)) 4294967295) (IntKind.u64.wrap (Int.tdiv (Go.bits .or .u64 (ji12) (shr .u64 a1 (ji13))) ((ji10) / 4294967296))) (IntKind.u64.wrap ((Go.bits .or .u64 (ji12) (shr .u64 a1 (ji13))) - (IntKind.u64.wrap ((IntKind.u64.wrap (Int.tdiv (Go.bits .or .u64 (ji12) (shr .u64 a1 (ji13))) ((ji10) / 4294967296))) * ((ji10) / 4294967296))))))) else (none)) = some (r1, r2) := by first | (rw [hji13] at H; exact H) | (simp only [hji13] at H ⊢; exact H)
     (try rw [hji13] at A7)
     by_cases c14 : 0 ≤ (ji13)
     ·rw [if_pos c14] at H
      have c14b0 := eq_true c14
      have c14b1 : decide (0 ≤ (ji13)) = true := decide_eq_true c14
      clear c14
      obtain ⟨ji15, hji15⟩ : ∃ j_ : Int, (shr .u64 a1 (ji13)) = j_ := ⟨_, rfl⟩
      replace H : (if ((ji10) / 4294967296) = 0 then (none) else (bits_Div64P.l0 k ji10 ji8 ((ji10) / 4294967296) (Go.bits .and .u64 (ji10) 4294967295) (Go.bits .or .u64 (ji12) (ji15)) ((shl .u64 a1 (ji8)) / 4294967296) (Go.bits .and .u64 (shl .u64 a1 (ji8)) 4294967295) (IntKind.u64.wrap (Int.tdiv (Go.bits .or .u64 (ji12) (ji15)) ((ji10) / 4294967296))) (IntKind.u64.wrap ((Go.bits .or .u64 (ji12) (ji15)) - (IntKind.u64.wrap ((IntKind.u64.wrap (Int.tdiv (Go.bits .or .u64 (ji12) (ji15)) ((ji10) / 4294967296))) * ((ji10) / 4294967296))))))) = some (r1, r2) := by first | (rw [hji15] at H; exact H) | (simp only [hji15] at H ⊢; exact H)
      (try rw [hji15] at A7)
      have hji15_ : (a1 / 2 ^ min (ji13).toNat 64) = ji15 := hji15
      have hji15z : (ji13) ≤ 64 → (a1 / 2 ^ (ji13).toNat) = ji15 := shr_small hji15
      have c16b0 := eq_true (of_decide_eq_true (by first | (with_reducible assumption) | assumption) : 0 ≤ (ji8))
      obtain ⟨ji17, hji17⟩ : ∃ j_ : Int, (shl .u64 a1 (ji8)) = j_ := ⟨_, rfl⟩
      replace H : (if ((ji10) / 4294967296) = 0 then (none) else (bits_Div64P.l0 k ji10 ji8 ((ji10) / 4294967296) (Go.bits .and .u64 (ji10) 4294967295) (Go.bits .or .u64 (ji12) (ji15)) ((ji17) / 4294967296) (Go.bits .and .u64 (ji17) 4294967295) (IntKind.u64.wrap (Int.tdiv (Go.bits .or .u64 (ji12) (ji15)) ((ji10) / 4294967296))) (IntKind.u64.wrap ((Go.bits .or .u64 (ji12) (ji15)) - (IntKind.u64.wrap ((IntKind.u64.wrap (Int.tdiv (Go.bits .or .u64 (ji12) (ji15)) ((ji10) / 4294967296))) * ((ji10) / 4294967296))))))) = some (r1, r2) := by first | (rw [hji17] at H; exact H) | (simp only [hji17] at H ⊢; exact H)
      (try rw [hji17] at A7)
      have hji17_ : (IntKind.u64.wrap (a1 * 2 ^ min (ji8).toNat 64)) = ji17 := hji17
      have hji17z : (ji8) ≤ 64 → (IntKind.u64.wrap (a1 * 2 ^ (ji8).toNat)) = ji17 := shl_small hji17
      by_cases c18 : ((ji10) / 4294967296) = 0
      ·rw [if_pos c18] at H
       exact absurd H (by simp)
      ·rw [if_neg c18] at H
       have c18b0 : (((ji10) / 4294967296) == 0) = false := beq_eq_false_iff_ne.mpr c18
       have c18b1 : (((ji10) / 4294967296) != 0) = true := bne_iff_ne.mpr c18
       have HC19 := Aside0.mk H
       clear H
       go_enter Tryd.func77, Tryd.ntmps77
       go_upto_block 0 with (first | (go_at_call 81; (with_reducible refine (bits_LeadingZeros64.calls a2 t124 _ A7.out).mono ?_); rintro e w' ⟨rfl, ⟨nd, rfl⟩⟩; (try first | exact ⟨rfl, _, World.drewN_drewN _ _ _⟩ | exact ⟨rfl, _, Eq.trans (World.drewN_drewN _ _ _) (congrArg (World.drewN _) (Nat.add_assoc _ _ _))⟩)))
       repeat (go_quiet (first | (go_at_call 81; (with_reducible refine (bits_LeadingZeros64.calls a2 t124 _ A7.out).mono ?_); rintro e w' ⟨rfl, ⟨nd, rfl⟩⟩; (try first | exact ⟨rfl, _, World.drewN_drewN _ _ _⟩ | exact ⟨rfl, _, Eq.trans (World.drewN_drewN _ _ _) (congrArg (World.drewN _) (Nat.add_assoc _ _ _))⟩))); go_upto_block 0 with (first | (go_at_call 81; (with_reducible refine (bits_LeadingZeros64.calls a2 t124 _ A7.out).mono ?_); rintro e w' ⟨rfl, ⟨nd, rfl⟩⟩; (try first | exact ⟨rfl, _, World.drewN_drewN _ _ _⟩ | exact ⟨rfl, _, Eq.trans (World.drewN_drewN _ _ _) (congrArg (World.drewN _) (Nat.add_assoc _ _ _))⟩))))
       (try simp only [Act.put, List.setIfInBounds_toArray, List.set_cons_zero, List.set_cons_succ])
       go_cut [15] (fun v15 wc => ∃ (kq : Nat) (x15_18 : Int), v15 = .int .u64 x15_18 ∧ Aside0 (bits_Div64P.j2 kq ji10 ji8 ((ji10) / 4294967296) (Go.bits .and .u64 (ji10) 4294967295) (Go.bits .or .u64 (ji12) (ji15)) ((ji17) / 4294967296) (Go.bits .and .u64 (ji17) 4294967295) x15_18 = some (r1, r2)) ∧ Aside0 (kq ≤ k) ∧ Drawn0 w wc)
       case first =>
        have H := HC19.out
        clear HC19
        have H' := Aside0.mk H
        clear H
        go_wp2
        repeat (go_quiet (fail); try go_wp2)
        go_loopg [15, 16] k (fun kq v15 v16 w' => ∃ (x15_1 x16_1 : Int), v15 = .int .u64 x15_1 ∧ v16 = .int .u64 x16_1 ∧ Aside0 (bits_Div64P.l0 kq ji10 ji8 ((ji10) / 4294967296) (Go.bits .and .u64 (ji10) 4294967295) (Go.bits .or .u64 (ji12) (ji15)) ((ji17) / 4294967296) (Go.bits .and .u64 (ji17) 4294967295) x15_1 x16_1 = some (r1, r2)) ∧ Aside0 (kq ≤ k) ∧ Drawn0 w w')
        case atStart => exact ⟨(IntKind.u64.wrap (Int.tdiv (Go.bits .or .u64 (ji12) (ji15)) ((ji10) / 4294967296))), (IntKind.u64.wrap ((Go.bits .or .u64 (ji12) (ji15)) - (IntKind.u64.wrap ((IntKind.u64.wrap (Int.tdiv (Go.bits .or .u64 (ji12) (ji15)) ((ji10) / 4294967296))) * ((ji10) / 4294967296))))), (by first | rfl | (simp; done) | (simp only [← hji10, ← hji12, ← hji15] <;> (first | rfl | simp)) | (simp [*]; done)), (by first | rfl | (simp; done) | (simp only [← hji10, ← hji12, ← hji15] <;> (first | rfl | simp)) | (simp [*]; done)), H', ⟨Nat.le_refl _⟩, by repeat (first | exact Drawn0.refl _ | apply Drawn0.step)⟩
        case round =>
         clear H'
         try clear c1
         try clear p2
         try clear c4
         try clear c4b0
         try clear c4b1
         try clear c5
         try clear c5b0
         try clear c6
         try clear c6b0
         try clear c6b1
         try clear c7
         try clear c9
         try clear c9b0
         try clear c9b1
         try clear c11
         try clear c11b0
         try clear c14
         try clear c14b0
         try clear c14b1
         try clear c16
         try clear c16b0
         try clear c18
         try clear c18b0
         try clear c18b1
         obtain ⟨x15_1, x16_1, rfl, rfl, HA, HK1, ⟨m1, rfl⟩⟩ := hrel
         cases gk with
         | zero => exact absurd HA.out (by simp [bits_Div64P.l0])
         | succ k1 =>
          have H := HA.out
          clear HA
          simp only [bits_Div64P.l0] at H
          have HC20 := Aside0.mk H
          clear H
          go_upto_region 17 with (fail)
          repeat (go_quiet (fail); go_upto_region 17 with (fail))
          go_cut [78] (fun v78 wc => ∃ (kq : Nat) (x78_19 : Bool), v78 = .bool x78_19 ∧ Aside0 (bits_Div64P.j1 kq ji10 ji8 ((ji10) / 4294967296) (Go.bits .and .u64 (ji10) 4294967295) (Go.bits .or .u64 (ji12) (ji15)) ((ji17) / 4294967296) (Go.bits .and .u64 (ji17) 4294967295) x15_1 x16_1 x78_19 = some (r1, r2)) ∧ Aside0 (kq ≤ k1) ∧ Drawn0 w wc)
          case first =>
           have H := HC20.out
           clear HC20
           by_cases c21 : x15_1 ≥ 4294967296
           ·rw [if_pos c21] at H
            have c21b0 : decide (4294967296 ≤ x15_1) = true := decide_eq_true c21
            clear c21
            (first | rw [c21b0] | (simp only [i64_w, i32_w]; rw [c21b0]) | skip)
            have H' := Aside0.mk H
            clear H
            go_wp2
            repeat (go_quiet (fail); try go_wp2)
            go_meet
            case rel => exact ⟨_, (true), qs_, H', ⟨by have := HK1.out; first | omega | exact Nat.le_refl _⟩, by repeat (first | exact Drawn0.refl _ | apply Drawn0.step)⟩
           ·rw [if_neg c21] at H
            have c21b0 : decide (4294967296 ≤ x15_1) = false := decide_eq_false c21
            clear c21
            (first | rw [c21b0] | (simp only [i64_w, i32_w]; rw [c21b0]) | skip)
            have H' := Aside0.mk H
            clear H
            go_wp2
            repeat (go_quiet (fail); try go_wp2)
            go_meet
            case rel => exact ⟨_, (decide ((IntKind.u64.wrap (x15_1 * (Go.bits .and .u64 (ji10) 4294967295))) > (IntKind.u64.wrap ((IntKind.u64.wrap (4294967296 * x16_1)) + ((ji17) / 4294967296))))), (by first | rfl | (simp; done) | (simp only [← hji10, ← hji17] <;> (first | rfl | simp)) | (simp [*]; done)), H', ⟨by have := HK1.out; first | omega | exact Nat.le_refl _⟩, by repeat (first | exact Drawn0.refl _ | apply Drawn0.step)⟩
          case rest =>
           clear HC20
           try clear c1
           try clear c2
           try clear p2
           try clear c4
           try clear c4b0
           try clear c4b1
           try clear c5
           try clear c5b0
           try clear c6
           try clear c6b0
           try clear c6b1
           try clear c7
           try clear c9
           try clear c9b0
           try clear c9b1
           try clear c11
           try clear c11b0
           try clear c14
           try clear c14b0
           try clear c14b1
           try clear c16
           try clear c16b0
           try clear c18
           try clear c18b0
           try clear c18b1
           try clear c21
           try clear c21b0
           try clear p2
           obtain ⟨kq, x78_19, rfl, HA, HJ19, ⟨mc19, rfl⟩⟩ := hcut
           cases kq with
           | zero => exact absurd HA.out (by simp [bits_Div64P.j1])
           | succ kj19 =>
            have H := HA.out
            clear HA
            simp only [bits_Div64P.j1] at H
            by_cases c22 : x78_19 = true
            ·subst c22
             have H1 : (if (IntKind.u64.wrap (x16_1 + ((ji10) / 4294967296))) ≥ 4294967296 then (bits_Div64P.j2 kj19 ji10 ji8 ((ji10) / 4294967296) (Go.bits .and .u64 (ji10) 4294967295) (Go.bits .or .u64 (ji12) (ji15)) ((ji17) / 4294967296) (Go.bits .and .u64 (ji17) 4294967295) (IntKind.u64.wrap (x15_1 - 1))) else (bits_Div64P.l0 kj19 ji10 ji8 ((ji10) / 4294967296) (Go.bits .and .u64 (ji10) 4294967295) (Go.bits .or .u64 (ji12) (ji15)) ((ji17) / 4294967296) (Go.bits .and .u64 (ji17) 4294967295) (IntKind.u64.wrap (x15_1 - 1)) (IntKind.u64.wrap (x16_1 + ((ji10) / 4294967296))))) = some (r1, r2) := by rw [if_pos rfl] at H; exact H
             clear H
             have H := H1
             clear H1
             by_cases c23 : (IntKind.u64.wrap (x16_1 + ((ji10) / 4294967296))) ≥ 4294967296
             ·rw [if_pos c23] at H
              have c23b0 : decide (4294967296 ≤ (IntKind.u64.wrap (x16_1 + ((ji10) / 4294967296)))) = true := decide_eq_true c23
              clear c23
              have H' := Aside0.mk H
              clear H
              go_wp2
              repeat (go_quiet (fail); try go_wp2)
              go_meet
              case rel => exact ⟨_, (IntKind.u64.wrap (x15_1 - 1)), qs_, H', ⟨by have := HK1.out; have := HJ19.out; first | omega | exact Nat.le_refl _⟩, by repeat (first | exact Drawn0.refl _ | apply Drawn0.step)⟩
             ·rw [if_neg c23] at H
              have c23b0 : decide (4294967296 ≤ (IntKind.u64.wrap (x16_1 + ((ji10) / 4294967296)))) = false := decide_eq_false c23
              clear c23
              have H' := Aside0.mk H
              clear H
              go_wp2
              repeat (go_quiet (fail); try go_wp2)
              go_roundg kj19
              case measure => have := HK1.out; have := HJ19.out; omega
              case rel => exact ⟨(IntKind.u64.wrap (x15_1 - 1)), (IntKind.u64.wrap (x16_1 + ((ji10) / 4294967296))), qs_, (by first | rfl | (simp; done) | (simp only [← hji10] <;> (first | rfl | simp)) | (simp [*]; done)), H', ⟨by have := HK1.out; have := HJ19.out; omega⟩, by repeat (first | exact Drawn0.refl _ | apply Drawn0.step)⟩
            ·replace c22 := Bool.eq_false_iff.mpr c22
             subst c22
             have H1 : (bits_Div64P.j2 kj19 ji10 ji8 ((ji10) / 4294967296) (Go.bits .and .u64 (ji10) 4294967295) (Go.bits .or .u64 (ji12) (ji15)) ((ji17) / 4294967296) (Go.bits .and .u64 (ji17) 4294967295) x15_1) = some (r1, r2) := by rw [if_neg (show ¬ (false = true) by decide)] at H; exact H
             clear H
             have H := H1
             clear H1
             have H' := Aside0.mk H
             clear H
             go_wp2
             repeat (go_quiet (fail); try go_wp2)
             go_meet
             case rel => exact ⟨_, (x15_1), qs_, H', ⟨by have := HK1.out; have := HJ19.out; first | omega | exact Nat.le_refl _⟩, by repeat (first | exact Drawn0.refl _ | apply Drawn0.step)⟩
       case rest =>
        clear HC19
        try clear c1
        try clear c2
        try clear p2
        try clear c4
        try clear c4b0
        try clear c4b1
        try clear c5
        try clear c5b0
        try clear c6
        try clear c6b0
        try clear c6b1
        try clear c7
        try clear c9
        try clear c9b0
        try clear c9b1
        try clear c11
        try clear c11b0
        try clear c14
        try clear c14b0
        try clear c14b1
        try clear c16
        try clear c16b0
        try clear c18
        try clear c18b0
        try clear c18b1
        try clear c19
        try clear c21
        try clear c21b0
        try clear c22
        try clear c23
        try clear c23b0
        try clear p2
        obtain ⟨kq, x15_18, rfl, HA, HJ18, ⟨mc18, rfl⟩⟩ := hcut
        cases kq with
        | zero => exact absurd HA.out (by simp [bits_Div64P.j2])
        | succ kj18 =>
         have H := HA.out
         clear HA
         simp only [bits_Div64P.j2] at H
         by_cases c24 : ((ji10) / 4294967296) = 0
         ·rw [if_pos c24] at H
          exact absurd H (by simp)
         ·rw [if_neg c24] at H
          have c24b0 : (((ji10) / 4294967296) == 0) = false := beq_eq_false_iff_ne.mpr c24
          have c24b1 : (((ji10) / 4294967296) != 0) = true := bne_iff_ne.mpr c24
          have H' := Aside0.mk H
          clear H
          go_wp2
          repeat (go_quiet (fail); try go_wp2)
          go_loopg [16, 18] kj18 (fun kq v16 v18 w' => ∃ (x16_2 x18_2 : Int), v16 = .int .u64 x16_2 ∧ v18 = .int .u64 x18_2 ∧ Aside0 (bits_Div64P.l1 kq ji10 ji8 ((ji10) / 4294967296) (Go.bits .and .u64 (ji10) 4294967295) (Go.bits .and .u64 (ji17) 4294967295) x15_18 x16_2 (IntKind.u64.wrap ((IntKind.u64.wrap ((IntKind.u64.wrap ((Go.bits .or .u64 (ji12) (ji15)) * 4294967296)) + ((ji17) / 4294967296))) - (IntKind.u64.wrap (x15_18 * ji10)))) x18_2 = some (r1, r2)) ∧ Aside0 (kq ≤ kj18) ∧ Drawn0 w w')
          case atStart => exact ⟨(IntKind.u64.wrap ((IntKind.u64.wrap ((IntKind.u64.wrap ((IntKind.u64.wrap ((Go.bits .or .u64 (ji12) (ji15)) * 4294967296)) + ((ji17) / 4294967296))) - (IntKind.u64.wrap (x15_18 * ji10)))) - (IntKind.u64.wrap ((IntKind.u64.wrap (Int.tdiv (IntKind.u64.wrap ((IntKind.u64.wrap ((IntKind.u64.wrap ((Go.bits .or .u64 (ji12) (ji15)) * 4294967296)) + ((ji17) / 4294967296))) - (IntKind.u64.wrap (x15_18 * ji10)))) ((ji10) / 4294967296))) * ((ji10) / 4294967296))))), (IntKind.u64.wrap (Int.tdiv (IntKind.u64.wrap ((IntKind.u64.wrap ((IntKind.u64.wrap ((Go.bits .or .u64 (ji12) (ji15)) * 4294967296)) + ((ji17) / 4294967296))) - (IntKind.u64.wrap (x15_18 * ji10)))) ((ji10) / 4294967296))), (by first | rfl | (simp; done) | (simp only [← hji10, ← hji12, ← hji15, ← hji17] <;> (first | rfl | simp)) | (simp [*]; done)), (by first | rfl | (simp; done) | (simp only [← hji10, ← hji12, ← hji15, ← hji17] <;> (first | rfl | simp)) | (simp [*]; done)), H', ⟨Nat.le_refl _⟩, by repeat (first | exact Drawn0.refl _ | apply Drawn0.step)⟩
          case round =>
           clear H'
           try clear c1
           try clear c2
           try clear p2
           try clear c4
           try clear c4b0
           try clear c4b1
           try clear c5
           try clear c5b0
           try clear c6
           try clear c6b0
           try clear c6b1
           try clear c7
           try clear c9
           try clear c9b0
           try clear c9b1
           try clear c11
           try clear c11b0
           try clear c14
           try clear c14b0
           try clear c14b1
           try clear c16
           try clear c16b0
           try clear c18
           try clear c18b0
           try clear c18b1
           try clear c19
           try clear c21
           try clear c21b0
           try clear c22
           try clear c23
           try clear c23b0
           try clear c24
           try clear c24b0
           try clear c24b1
           try clear p2
           obtain ⟨x16_2, x18_2, rfl, rfl, HA, HK2, ⟨m2, rfl⟩⟩ := hrel
           cases gk with
           | zero => exact absurd HA.out (by simp [bits_Div64P.l1])
           | succ k2 =>
            have H := HA.out
            clear HA
            simp only [bits_Div64P.l1] at H
            have HC25 := Aside0.mk H
            clear H
            go_upto_region 24 with (fail)
            repeat (go_quiet (fail); go_upto_region 24 with (fail))
            go_cut [113] (fun v113 wc => ∃ (kq : Nat) (x113_24 : Bool), v113 = .bool x113_24 ∧ Aside0 (bits_Div64P.j4 kq ji10 ji8 ((ji10) / 4294967296) (Go.bits .and .u64 (ji10) 4294967295) (Go.bits .and .u64 (ji17) 4294967295) x15_18 x16_2 (IntKind.u64.wrap ((IntKind.u64.wrap ((IntKind.u64.wrap ((Go.bits .or .u64 (ji12) (ji15)) * 4294967296)) + ((ji17) / 4294967296))) - (IntKind.u64.wrap (x15_18 * ji10)))) x18_2 x113_24 = some (r1, r2)) ∧ Aside0 (kq ≤ k2) ∧ Drawn0 w wc)
            case first =>
             have H := HC25.out
             clear HC25
             by_cases c26 : x18_2 ≥ 4294967296
             ·rw [if_pos c26] at H
              have c26b0 : decide (4294967296 ≤ x18_2) = true := decide_eq_true c26
              clear c26
              (first | rw [c26b0] | (simp only [i64_w, i32_w]; rw [c26b0]) | skip)
              have H' := Aside0.mk H
              clear H
              go_wp2
              repeat (go_quiet (fail); try go_wp2)
              go_meet
              case rel => exact ⟨_, (true), qs_, H', ⟨by have := HJ18.out; have := HK2.out; first | omega | exact Nat.le_refl _⟩, by repeat (first | exact Drawn0.refl _ | apply Drawn0.step)⟩
             ·rw [if_neg c26] at H
              have c26b0 : decide (4294967296 ≤ x18_2) = false := decide_eq_false c26
              clear c26
              (first | rw [c26b0] | (simp only [i64_w, i32_w]; rw [c26b0]) | skip)
              have H' := Aside0.mk H
              clear H
              go_wp2
              repeat (go_quiet (fail); try go_wp2)
              go_meet
              case rel => exact ⟨_, (decide ((IntKind.u64.wrap (x18_2 * (Go.bits .and .u64 (ji10) 4294967295))) > (IntKind.u64.wrap ((IntKind.u64.wrap (4294967296 * x16_2)) + (Go.bits .and .u64 (ji17) 4294967295))))), (by first | rfl | (simp; done) | (simp only [← hji10, ← hji17] <;> (first | rfl | simp)) | (simp [*]; done)), H', ⟨by have := HJ18.out; have := HK2.out; first | omega | exact Nat.le_refl _⟩, by repeat (first | exact Drawn0.refl _ | apply Drawn0.step)⟩
            case rest =>
             clear HC25
             try clear c1
             try clear c2
             try clear p2
             try clear c4
             try clear c4b0
             try clear c4b1
             try clear c5
             try clear c5b0
             try clear c6
             try clear c6b0
             try clear c6b1
             try clear c7
             try clear c9
             try clear c9b0
             try clear c9b1
             try clear c11
             try clear c11b0
             try clear c14
             try clear c14b0
             try clear c14b1
             try clear c16
             try clear c16b0
             try clear c18
             try clear c18b0
             try clear c18b1
             try clear c19
             try clear c21
             try clear c21b0
             try clear c22
             try clear c23
             try clear c23b0
             try clear c24
             try clear c24b0
             try clear c24b1
             try clear c26
             try clear c26b0
             try clear p2
             obtain ⟨kq, x113_24, rfl, HA, HJ24, ⟨mc24, rfl⟩⟩ := hcut
             cases kq with
             | zero => exact absurd HA.out (by simp [bits_Div64P.j4])
             | succ kj24 =>
              have H := HA.out
              clear HA
              simp only [bits_Div64P.j4] at H
              by_cases c27 : x113_24 = true
              ·subst c27
               have H1 : (if (IntKind.u64.wrap (x16_2 + ((ji10) / 4294967296))) ≥ 4294967296 then (if 0 ≤ ji8 then (some (IntKind.u64.wrap ((IntKind.u64.wrap (x15_18 * 4294967296)) + (IntKind.u64.wrap (x18_2 - 1))), shr .u64 (IntKind.u64.wrap ((IntKind.u64.wrap ((IntKind.u64.wrap ((IntKind.u64.wrap ((IntKind.u64.wrap ((IntKind.u64.wrap ((Go.bits .or .u64 (ji12) (ji15)) * 4294967296)) + ((ji17) / 4294967296))) - (IntKind.u64.wrap (x15_18 * ji10)))) * 4294967296)) + (Go.bits .and .u64 (ji17) 4294967295))) - (IntKind.u64.wrap ((IntKind.u64.wrap (x18_2 - 1)) * ji10)))) ji8)) else (none)) else (bits_Div64P.l1 kj24 ji10 ji8 ((ji10) / 4294967296) (Go.bits .and .u64 (ji10) 4294967295) (Go.bits .and .u64 (ji17) 4294967295) x15_18 (IntKind.u64.wrap (x16_2 + ((ji10) / 4294967296))) (IntKind.u64.wrap ((IntKind.u64.wrap ((IntKind.u64.wrap ((Go.bits .or .u64 (ji12) (ji15)) * 4294967296)) + ((ji17) / 4294967296))) - (IntKind.u64.wrap (x15_18 * ji10)))) (IntKind.u64.wrap (x18_2 - 1)))) = some (r1, r2) := by rw [if_pos rfl] at H; exact H
               clear H
               have H := H1
               clear H1
               by_cases c28 : (IntKind.u64.wrap (x16_2 + ((ji10) / 4294967296))) ≥ 4294967296
               ·rw [if_pos c28] at H
                have c28b0 : decide (4294967296 ≤ (IntKind.u64.wrap (x16_2 + ((ji10) / 4294967296)))) = true := decide_eq_true c28
                clear c28
                by_cases c29 : 0 ≤ ji8
                ·rw [if_pos c29] at H
                 have c29b0 := eq_true c29
                 have c29b1 : decide (0 ≤ ji8) = true := decide_eq_true c29
                 clear c29
                 obtain ⟨ji30, hji30⟩ : ∃ j_ : Int, (shr .u64 (IntKind.u64.wrap ((IntKind.u64.wrap ((IntKind.u64.wrap ((IntKind.u64.wrap ((IntKind.u64.wrap ((IntKind.u64.wrap ((Go.bits .or .u64 (ji12) (ji15)) * 4294967296)) + ((ji17) / 4294967296))) - (IntKind.u64.wrap (x15_18 * ji10)))) * 4294967296)) + (Go.bits .and .u64 (ji17) 4294967295))) - (IntKind.u64.wrap ((IntKind.u64.wrap (x18_2 - 1)) * ji10)))) ji8) = j_ := ⟨_, rfl⟩
                 replace H : (some (IntKind.u64.wrap ((IntKind.u64.wrap (x15_18 * 4294967296)) + (IntKind.u64.wrap (x18_2 - 1))), ji30)) = some (r1, r2) := by first | (rw [hji30] at H; exact H) | (simp only [hji30] at H ⊢; exact H)
                 have hji30_ : ((IntKind.u64.wrap ((IntKind.u64.wrap ((IntKind.u64.wrap ((IntKind.u64.wrap ((IntKind.u64.wrap ((IntKind.u64.wrap ((Go.bits .or .u64 (ji12) (ji15)) * 4294967296)) + ((ji17) / 4294967296))) - (IntKind.u64.wrap (x15_18 * ji10)))) * 4294967296)) + (Go.bits .and .u64 (ji17) 4294967295))) - (IntKind.u64.wrap ((IntKind.u64.wrap (x18_2 - 1)) * ji10)))) / 2 ^ min ji8.toNat 64) = ji30 := hji30
                 have hji30z : ji8 ≤ 64 → ((IntKind.u64.wrap ((IntKind.u64.wrap ((IntKind.u64.wrap ((IntKind.u64.wrap ((IntKind.u64.wrap ((IntKind.u64.wrap ((Go.bits .or .u64 (ji12) (ji15)) * 4294967296)) + ((ji17) / 4294967296))) - (IntKind.u64.wrap (x15_18 * ji10)))) * 4294967296)) + (Go.bits .and .u64 (ji17) 4294967295))) - (IntKind.u64.wrap ((IntKind.u64.wrap (x18_2 - 1)) * ji10)))) / 2 ^ ji8.toNat) = ji30 := shr_small hji30
                 simp only [Option.some.injEq, Prod.mk.injEq] at H
                 obtain ⟨rfl, rfl⟩ := H
                 go_wp2
                 repeat (go_quiet (fail); try go_wp2)
                 go_ret2
                 exact ⟨by first | rfl | (simp; done) | (simp only [← hji8, ← hji10, ← hji12, ← hji13, ← hji15, ← hji17, ← hji30] <;> (first | rfl | simp)) | (simp [*]; done), by repeat (first | exact Drawn0.refl _ | apply Drawn0.step)⟩
                ·rw [if_neg c29] at H
                 exact absurd H (by simp)
               ·rw [if_neg c28] at H
                have c28b0 : decide (4294967296 ≤ (IntKind.u64.wrap (x16_2 + ((ji10) / 4294967296)))) = false := decide_eq_false c28
                clear c28
                have H' := Aside0.mk H
                clear H
                go_wp2
                repeat (go_quiet (fail); try go_wp2)
                go_roundg kj24
                case measure => have := HJ18.out; have := HK2.out; have := HJ24.out; omega
                case rel => exact ⟨(IntKind.u64.wrap (x16_2 + ((ji10) / 4294967296))), (IntKind.u64.wrap (x18_2 - 1)), (by first | rfl | (simp; done) | (simp only [← hji10] <;> (first | rfl | simp)) | (simp [*]; done)), qs_, H', ⟨by have := HJ18.out; have := HK2.out; have := HJ24.out; omega⟩, by repeat (first | exact Drawn0.refl _ | apply Drawn0.step)⟩
              ·replace c27 := Bool.eq_false_iff.mpr c27
               subst c27
               have H1 : (if 0 ≤ ji8 then (some (IntKind.u64.wrap ((IntKind.u64.wrap (x15_18 * 4294967296)) + x18_2), shr .u64 (IntKind.u64.wrap ((IntKind.u64.wrap ((IntKind.u64.wrap ((IntKind.u64.wrap ((IntKind.u64.wrap ((IntKind.u64.wrap ((Go.bits .or .u64 (ji12) (ji15)) * 4294967296)) + ((ji17) / 4294967296))) - (IntKind.u64.wrap (x15_18 * ji10)))) * 4294967296)) + (Go.bits .and .u64 (ji17) 4294967295))) - (IntKind.u64.wrap (x18_2 * ji10)))) ji8)) else (none)) = some (r1, r2) := by rw [if_neg (show ¬ (false = true) by decide)] at H; exact H
               clear H
               have H := H1
               clear H1
               by_cases c31 : 0 ≤ ji8
               ·rw [if_pos c31] at H
                have c31b0 := eq_true c31
                have c31b1 : decide (0 ≤ ji8) = true := decide_eq_true c31
                clear c31
                obtain ⟨ji32, hji32⟩ : ∃ j_ : Int, (shr .u64 (IntKind.u64.wrap ((IntKind.u64.wrap ((IntKind.u64.wrap ((IntKind.u64.wrap ((IntKind.u64.wrap ((IntKind.u64.wrap ((Go.bits .or .u64 (ji12) (ji15)) * 4294967296)) + ((ji17) / 4294967296))) - (IntKind.u64.wrap (x15_18 * ji10)))) * 4294967296)) + (Go.bits .and .u64 (ji17) 4294967295))) - (IntKind.u64.wrap (x18_2 * ji10)))) ji8) = j_ := ⟨_, rfl⟩
                replace H : (some (IntKind.u64.wrap ((IntKind.u64.wrap (x15_18 * 4294967296)) + x18_2), ji32)) = some (r1, r2) := by first | (rw [hji32] at H; exact H) | (simp only [hji32] at H ⊢; exact H)
                have hji32_ : ((IntKind.u64.wrap ((IntKind.u64.wrap ((IntKind.u64.wrap ((IntKind.u64.wrap ((IntKind.u64.wrap ((IntKind.u64.wrap ((Go.bits .or .u64 (ji12) (ji15)) * 4294967296)) + ((ji17) / 4294967296))) - (IntKind.u64.wrap (x15_18 * ji10)))) * 4294967296)) + (Go.bits .and .u64 (ji17) 4294967295))) - (IntKind.u64.wrap (x18_2 * ji10)))) / 2 ^ min ji8.toNat 64) = ji32 := hji32
                have hji32z : ji8 ≤ 64 → ((IntKind.u64.wrap ((IntKind.u64.wrap ((IntKind.u64.wrap ((IntKind.u64.wrap ((IntKind.u64.wrap ((IntKind.u64.wrap ((Go.bits .or .u64 (ji12) (ji15)) * 4294967296)) + ((ji17) / 4294967296))) - (IntKind.u64.wrap (x15_18 * ji10)))) * 4294967296)) + (Go.bits .and .u64 (ji17) 4294967295))) - (IntKind.u64.wrap (x18_2 * ji10)))) / 2 ^ ji8.toNat) = ji32 := shr_small hji32
                simp only [Option.some.injEq, Prod.mk.injEq] at H
                obtain ⟨rfl, rfl⟩ := H
                go_wp2
                repeat (go_quiet (fail); try go_wp2)
                go_ret2
                exact ⟨by first | rfl | (simp; done) | (simp only [← hji8, ← hji10, ← hji12, ← hji13, ← hji15, ← hji17, ← hji32] <;> (first | rfl | simp)) | (simp [*]; done), by repeat (first | exact Drawn0.refl _ | apply Drawn0.step)⟩
               ·rw [if_neg c31] at H
                exact absurd H (by simp)
     ·rw [if_neg c14] at H
      exact absurd H (by simp)
    ·rw [if_neg c9] at H
     exact absurd H (by simp)
/-- One digit of the division: where the guess is still too great. -/
theorem digit_gt (y yn1 yn0 u d q : Int) (hy : y = yn1 * 4294967296 + yn0) (hyp : 0 < y) :
  (q * yn0 > 4294967296 * (u - q * yn1) + d) ↔ (u * 4294967296 + d) / y < q := by
 have e : q * y = q * yn1 * 4294967296 + q * yn0 := by rw [hy, Int.mul_add, Int.mul_assoc]
 rw [Int.ediv_lt_iff_lt_mul hyp]
 constructor <;> intro h <;> omega
theorem digit_stop (yn0 q rh d : Int) (h0 : 0 ≤ yn0) (h1 : yn0 < 4294967296) (q1 : q ≤ 4294967296) (hr : 4294967296 ≤ rh) (hd : 0 ≤ d) (hq : 0 ≤ q) : q * yn0 ≤ 4294967296 * rh + d := by
 have : q * yn0 ≤ 4294967296 * yn0 := Int.mul_le_mul_of_nonneg_right q1 h0
 omega
theorem wrap_rem (u d t m : Int) (h : m = u * 4294967296 + d - t) (h0 : 0 ≤ m) (h1 : m < 18446744073709551616) :
  IntKind.u64.wrap ((IntKind.u64.wrap ((IntKind.u64.wrap (u * 4294967296)) + d)) - (IntKind.u64.wrap t)) = m := by
 rw [IntKind.wrap_u64, IntKind.wrap_u64, IntKind.wrap_u64, IntKind.wrap_u64]
 omega
theorem mul_small (a b : Int) (h0 : 0 ≤ a) (h1 : a < 4294967296) (h2 : 0 ≤ b) (h3 : b < 4294967296) : 0 ≤ a * b ∧ a * b < 18446744073709551616 := by
 refine ⟨Int.mul_nonneg h0 h2, ?_⟩
 have : a * b ≤ 4294967295 * b := Int.mul_le_mul_of_nonneg_right (by omega) h2
 omega
/-- The guess's test, as the program makes it. -/
theorem guess_gt {y yn1 yn0 u d q rh : Int} (hy : y = yn1 * 4294967296 + yn0) (hyp : 0 < y) (z0 : 0 ≤ yn0) (z1 : yn0 < 4294967296) (hrh : rh = u - q * yn1)
  (r0 : 0 ≤ rh) (r1 : rh < 4294967296) (d0 : 0 ≤ d) (d1 : d < 4294967296) (q0 : 0 ≤ q) (q1 : q < 4294967296) :
  decide ((IntKind.u64.wrap (q * yn0)) > (IntKind.u64.wrap ((IntKind.u64.wrap (4294967296 * rh)) + d))) = decide ((u * 4294967296 + d) / y < q) := by
 obtain ⟨m0, m1⟩ := mul_small q yn0 q0 q1 z0 z1
 rw [u64_id _ m0 m1, u64_id (4294967296 * rh) (by omega) (by omega), u64_id (4294967296 * rh + d) (by omega) (by omega), hrh]
 exact decide_eq_decide.mpr (digit_gt y yn1 yn0 u d q hy hyp)
theorem quo_rem (n y : Int) (hyp : 0 < y) : 0 ≤ n - n / y * y ∧ n - n / y * y < y := by
 have h1 := Int.emod_nonneg n (show y ≠ 0 by omega)
 have h2 := Int.emod_lt_of_pos n hyp
 have h3 := Int.emod_add_mul_ediv n y
 rw [Int.mul_comm y] at h3
 omega
theorem dv_l1 (y s yn1 yn0 d q1 u Q : Int) (hy : y = yn1 * 4294967296 + yn0) (z0 : 0 ≤ yn0) (z1 : yn0 < 4294967296) (y0 : 2147483648 ≤ yn1) (y1 : yn1 < 4294967296)
  (u0 : 0 ≤ u) (u1 : u < y) (d0 : 0 ≤ d) (d1 : d < 4294967296) (s0 : 0 ≤ s) (hQ : Q = (u * 4294967296 + d) / y) (q10 : 0 ≤ q1) (q11 : q1 < 4294967296) (n : Nat) :
  ∀ q rh : Int, (q - Q).toNat = n → Q ≤ q → rh = u - q * yn1 → 0 ≤ rh → rh < 4294967296 → q ≤ 4294967297 →
   ∃ k, bits_Div64P.l1 k y s yn1 yn0 d q1 rh u q = some (q1 * 4294967296 + Q, shr .u64 (u * 4294967296 + d - Q * y) s) := by
 have hyp : 0 < y := by omega
 have Q0 : 0 ≤ Q := by rw [hQ]; exact Int.ediv_nonneg (by omega) (by omega)
 have Q1 : Q < 4294967296 := by
  rw [hQ, Int.ediv_lt_iff_lt_mul hyp]; omega
 obtain ⟨m0, m1⟩ := quo_rem (u * 4294967296 + d) y hyp
 rw [← hQ] at m0 m1
 have fin : (some (IntKind.u64.wrap ((IntKind.u64.wrap (q1 * 4294967296)) + Q), shr .u64 (IntKind.u64.wrap ((IntKind.u64.wrap ((IntKind.u64.wrap (u * 4294967296)) + d)) - (IntKind.u64.wrap (Q * y)))) s)) = some (q1 * 4294967296 + Q, shr .u64 (u * 4294967296 + d - Q * y) s) := by
  rw [wrap_rem u d (Q * y) _ rfl m0 (by omega), u64_id (q1 * 4294967296) (by omega) (by omega), u64_id _ (by omega) (by omega)]
 have small : ∀ q, (u * 4294967296 + d) / y < q → Q + 1 ≤ q := fun q h => by omega
 induction n with
 | zero =>
  intro q rh hn hq hrh r0 r1 q2
  obtain rfl : q = Q := by omega
  refine ⟨2, ?_⟩
  simp only [bits_Div64P.l1]
  rw [if_neg (by omega), guess_gt hy hyp z0 z1 hrh r0 r1 d0 d1 Q0 Q1, ← hQ, decide_eq_false (by omega)]
  simp only [bits_Div64P.j4]
  rw [if_neg (by decide), if_pos s0, fin]
 | succ n ih =>
  intro q rh hn hq hrh r0 r1 q2
  have hQq : Q + 1 ≤ q := by omega
  have hrh' : rh + yn1 = u - (q - 1) * yn1 := by rw [hrh, Int.sub_mul, Int.one_mul]; omega
  have step : ∃ k, bits_Div64P.j4 k y s yn1 yn0 d q1 rh u q true = some (q1 * 4294967296 + Q, shr .u64 (u * 4294967296 + d - Q * y) s) := by
   by_cases hb : 4294967296 ≤ rh + yn1
   ·have hqQ : q - 1 = Q := by
     have h1 := digit_stop yn0 (q - 1) (rh + yn1) d z0 z1 (by omega) hb d0 (by omega)
     have h2 := digit_gt y yn1 yn0 u d (q - 1) hy hyp
     rw [← hrh', ← hQ] at h2
     have : ¬ Q < q - 1 := fun h => by have := h2.2 h; omega
     omega
    refine ⟨1, ?_⟩
    simp only [bits_Div64P.j4]
    rw [if_pos trivial, u64_id (rh + yn1) (by omega) (by omega), if_pos hb, if_pos s0, u64_id (q - 1) (by omega) (by omega), hqQ, fin]
   ·obtain ⟨k, hk⟩ := ih (q - 1) (rh + yn1) (by omega) (by omega) hrh' (by omega) (by omega) (by omega)
    refine ⟨k + 1, ?_⟩
    simp only [bits_Div64P.j4]
    rw [if_pos trivial, u64_id (rh + yn1) (by omega) (by omega), if_neg hb, u64_id (q - 1) (by omega) (by omega), hk]
  obtain ⟨k, hk⟩ := step
  refine ⟨k + 1, ?_⟩
  simp only [bits_Div64P.l1]
  by_cases hB : q ≥ 4294967296
  ·rw [if_pos hB, hk]
  ·rw [if_neg hB, guess_gt hy hyp z0 z1 hrh r0 r1 d0 d1 (by omega) (by omega), ← hQ, decide_eq_true (by omega), hk]
theorem dv_l0 (y s yn1 yn0 d u Q : Int) (d' : Int) (hy : y = yn1 * 4294967296 + yn0) (z0 : 0 ≤ yn0) (z1 : yn0 < 4294967296) (y0 : 2147483648 ≤ yn1) (y1 : yn1 < 4294967296)
  (u0 : 0 ≤ u) (u1 : u < y) (d0 : 0 ≤ d) (d1 : d < 4294967296) (e0 : 0 ≤ d') (e1 : d' < 4294967296) (s0 : 0 ≤ s) (hQ : Q = (u * 4294967296 + d) / y) (n : Nat) :
  ∀ q rh : Int, (q - Q).toNat = n → Q ≤ q → rh = u - q * yn1 → 0 ≤ rh → rh < 4294967296 → q ≤ 4294967297 →
   ∃ k, bits_Div64P.l0 k y s yn1 yn0 u d d' q rh = some (Q * 4294967296 + ((u * 4294967296 + d - Q * y) * 4294967296 + d') / y, shr .u64 ((u * 4294967296 + d - Q * y) * 4294967296 + d' - ((u * 4294967296 + d - Q * y) * 4294967296 + d') / y * y) s) := by
 have hyp : 0 < y := by omega
 have Q0 : 0 ≤ Q := by rw [hQ]; exact Int.ediv_nonneg (by omega) (by omega)
 have Q1 : Q < 4294967296 := by
  rw [hQ, Int.ediv_lt_iff_lt_mul hyp]; omega
 obtain ⟨m0, m1⟩ := quo_rem (u * 4294967296 + d) y hyp
 rw [← hQ] at m0 m1
 have fin : ∃ k, bits_Div64P.j2 k y s yn1 yn0 u d d' Q = some (Q * 4294967296 + ((u * 4294967296 + d - Q * y) * 4294967296 + d') / y, shr .u64 ((u * 4294967296 + d - Q * y) * 4294967296 + d' - ((u * 4294967296 + d - Q * y) * 4294967296 + d') / y * y) s) := by
  have hu := wrap_rem u d (Q * y) _ rfl m0 (by omega)
  have hv : IntKind.u64.wrap ((IntKind.u64.wrap ((IntKind.u64.wrap (u * 4294967296)) + d)) - (IntKind.u64.wrap (Q * y))) = u * 4294967296 + d - Q * y := hu
  generalize u * 4294967296 + d - Q * y = v at *
  have t0 : 0 ≤ v / yn1 := Int.ediv_nonneg m0 (by omega)
  have t1 : v / yn1 * yn1 ≤ v := by have := (quo_rem v yn1 (by omega)).1; omega
  have t2 : v - v / yn1 * yn1 < yn1 := (quo_rem v yn1 (by omega)).2
  have t3 : v / yn1 < 4294967298 := by
   rw [Int.ediv_lt_iff_lt_mul (by omega)]; omega
  have ht : IntKind.u64.wrap (Int.tdiv v yn1) = v / yn1 := by rw [Int.tdiv_eq_ediv_of_nonneg m0, u64_id _ t0 (by omega)]
  have hw : IntKind.u64.wrap (v - IntKind.u64.wrap (v / yn1 * yn1)) = v - v / yn1 * yn1 := by
   rw [u64_id (v / yn1 * yn1) (Int.mul_nonneg t0 (by omega)) (by omega), u64_id _ (by omega) (by omega)]
  have hle : (v * 4294967296 + d') / y ≤ v / yn1 := by
   have h1 : ¬ v / yn1 < (v * 4294967296 + d') / y := by
    intro h
    have h2 : (v / yn1 + 1) * y ≤ v * 4294967296 + d' := by
     have := (quo_rem (v * 4294967296 + d') y hyp).1
     have h3 : (v / yn1 + 1) * y ≤ (v * 4294967296 + d') / y * y := Int.mul_le_mul_of_nonneg_right (by omega) (by omega)
     omega
    have h4 : (v / yn1 + 1) * y = (v / yn1 * yn1 + yn1) * 4294967296 + (v / yn1 + 1) * yn0 := by rw [hy]; grind
    have h5 : 0 ≤ (v / yn1 + 1) * yn0 := Int.mul_nonneg (by omega) z0
    omega
   omega
  obtain ⟨k, hk⟩ := dv_l1 y s yn1 yn0 d' Q v _ hy z0 z1 y0 y1 m0 m1 e0 e1 s0 rfl Q0 Q1 _ (v / yn1) (v - v / yn1 * yn1) rfl hle rfl (by omega) (by omega) (by omega)
  refine ⟨k + 1, ?_⟩
  simp only [bits_Div64P.j2]
  rw [if_neg (by omega), hv, ht, hw, hk]
 induction n with
 | zero =>
  intro q rh hn hq hrh r0 r1 q2
  obtain rfl : q = Q := by omega
  obtain ⟨k, hk⟩ := fin
  refine ⟨k + 2, ?_⟩
  simp only [bits_Div64P.l0]
  rw [if_neg (by omega), guess_gt hy hyp z0 z1 hrh r0 r1 d0 d1 Q0 Q1, ← hQ, decide_eq_false (by omega)]
  simp only [bits_Div64P.j1]
  rw [if_neg (by decide), hk]
 | succ n ih =>
  intro q rh hn hq hrh r0 r1 q2
  have hQq : Q + 1 ≤ q := by omega
  have hrh' : rh + yn1 = u - (q - 1) * yn1 := by rw [hrh, Int.sub_mul, Int.one_mul]; omega
  have step : ∃ k, bits_Div64P.j1 k y s yn1 yn0 u d d' q rh true = some (Q * 4294967296 + ((u * 4294967296 + d - Q * y) * 4294967296 + d') / y, shr .u64 ((u * 4294967296 + d - Q * y) * 4294967296 + d' - ((u * 4294967296 + d - Q * y) * 4294967296 + d') / y * y) s) := by
   by_cases hb : 4294967296 ≤ rh + yn1
   ·have hqQ : q - 1 = Q := by
     have h1 := digit_stop yn0 (q - 1) (rh + yn1) d z0 z1 (by omega) hb d0 (by omega)
     have h2 := digit_gt y yn1 yn0 u d (q - 1) hy hyp
     rw [← hrh', ← hQ] at h2
     have : ¬ Q < q - 1 := fun h => by have := h2.2 h; omega
     omega
    obtain ⟨k, hk⟩ := fin
    refine ⟨k + 1, ?_⟩
    simp only [bits_Div64P.j1]
    rw [if_pos trivial, u64_id (rh + yn1) (by omega) (by omega), if_pos hb, u64_id (q - 1) (by omega) (by omega), hqQ, hk]
   ·obtain ⟨k, hk⟩ := ih (q - 1) (rh + yn1) (by omega) (by omega) hrh' (by omega) (by omega) (by omega)
    refine ⟨k + 1, ?_⟩
    simp only [bits_Div64P.j1]
    rw [if_pos trivial, u64_id (rh + yn1) (by omega) (by omega), if_neg hb, u64_id (q - 1) (by omega) (by omega), hk]
  obtain ⟨k, hk⟩ := step
  refine ⟨k + 1, ?_⟩
  simp only [bits_Div64P.l0]
  by_cases hB : q ≥ 4294967296
  ·rw [if_pos hB, hk]
  ·rw [if_neg hB, guess_gt hy hyp z0 z1 hrh r0 r1 d0 d1 (by omega) (by omega), ← hQ, decide_eq_true (by omega), hk]
/-- How many bits a number has. -/
theorem bitLen_bounds : ∀ x : Nat, x ≠ 0 → x < 2 ^ 64 → 1 ≤ Lib.bitLen x ∧ Lib.bitLen x ≤ 64 ∧ 2 ^ (Lib.bitLen x - 1) ≤ x ∧ x < 2 ^ Lib.bitLen x := by
 have key : ∀ n x : Nat, x ≠ 0 → x < 2 ^ (n + 1) → n < 64 → 1 ≤ Lib.bitLen x ∧ Lib.bitLen x ≤ n + 1 ∧ 2 ^ (Lib.bitLen x - 1) ≤ x ∧ x < 2 ^ Lib.bitLen x := by
  intro n
  induction n with
  | zero =>
   intro x h0 h1 _
   obtain rfl : x = 1 := by omega
   exact ⟨by decide, by decide, by decide, by decide⟩
  | succ n ih =>
   intro x h0 h1 hn
   have h64 : x < 2 ^ 64 := Nat.lt_of_lt_of_le h1 (Nat.pow_le_pow_right (by decide) (by omega))
   rw [Lib.bitLen_half x h0 h64]
   by_cases hx : x / 2 = 0
   ·rw [hx]
    obtain rfl : x = 1 := by omega
    exact ⟨by decide, by rw [show Lib.bitLen 0 = 0 from rfl]; omega, by decide, by decide⟩
   ·obtain ⟨a, b, c, d⟩ := ih (x / 2) hx (by rw [Nat.pow_succ] at h1; omega) (by omega)
    refine ⟨by omega, by omega, ?_, ?_⟩
    ·have e : 1 + Lib.bitLen (x / 2) - 1 = (Lib.bitLen (x / 2) - 1) + 1 := by omega
     rw [e, Nat.pow_succ]; omega
    ·rw [Nat.add_comm, Nat.pow_succ]; omega
 intro x h0 h1
 exact key 63 x h0 h1 (by decide)
def bits_Div64.f (a0 a1 a2 : Int) : Option (Int × Int) :=
 if 0 ≤ a0 ∧ a0 < a2 ∧ a2 ≤ 18446744073709551615 ∧ inU a1 then some ((a0 * 18446744073709551616 + a1) / a2, (a0 * 18446744073709551616 + a1) % a2) else none
theorem and32 (x : Int) (h0 : 0 ≤ x) (h1 : x < 18446744073709551616) : Go.bits .and .u64 x 4294967295 = x % 4294967296 :=
 bits_mask .u64 64 (by decide) (fun n a b => u64_id n a (by omega)) 32 (by decide) x h0 (by omega)
theorem digits_join (N p Y un32 un10 Q1 Q0 r1 r0 d1 d0 : Int) (h1 : N * p = un32 * 18446744073709551616 + un10) (hd : un10 = d1 * 4294967296 + d0)
  (e1 : un32 * 4294967296 + d1 = Q1 * Y + r1) (e0 : r1 * 4294967296 + d0 = Q0 * Y + r0) : N * p = (Q1 * 4294967296 + Q0) * Y + r0 := by
 have : (Q1 * 4294967296 + Q0) * Y = Q1 * Y * 4294967296 + Q0 * Y := by rw [Int.add_mul, Int.mul_right_comm]
 omega
theorem bits_Div64.eq {a b c : Int} {r : Int × Int} (h : bits_Div64.f a b c = some r) : ∃ k, bits_Div64P.f k a b c = some r := by
 unfold bits_Div64.f at h
 split at h
 ·rename_i q
  obtain ⟨a0, ac, c1, b0, b1⟩ := q
  injection h with h
  subst h
  unfold bits_Div64P.f
  simp only [if_neg (show ¬ c = 0 by omega), if_neg (show ¬ c ≤ a by omega)]
  by_cases ha : a = 0
  ·subst ha
   refine ⟨0, ?_⟩
   rw [if_pos rfl, Int.tdiv_eq_ediv_of_nonneg b0, Int.tmod_eq_emod_of_nonneg b0, u64_id _ (Int.ediv_nonneg b0 (by omega)) (by have := Int.ediv_le_self c b0; omega)]
   simp
  ·simp only [if_neg ha]
   obtain ⟨l1, l2, l3, l4⟩ := bitLen_bounds c.toNat (by omega) (by omega)
   have hlz : bits_LeadingZeros64.f c = some ((64 - Lib.bitLen c.toNat : Nat) : Int) := by
    unfold bits_LeadingZeros64.f bits_Len64.f
    rw [if_pos ⟨by omega, by omega⟩]
    simp only [Option.bind_some]
    congr 1
    unfold wrap64
    omega
   rw [hlz]
   simp only [Option.bind_some]
   generalize hs : 64 - Lib.bitLen c.toNat = s at *
   have hs63 : s ≤ 63 := by omega
   have hw : IntKind.u64.wrap (s : Int) = (s : Int) := u64_id _ (by omega) (by omega)
   have hw2 : IntKind.u64.wrap (64 - (s : Int)) = ((64 - s : Nat) : Int) := by rw [u64_id _ (by omega) (by omega)]; omega
   simp only [hw, hw2, if_pos (show 0 ≤ (s : Int) by omega), if_pos (show 0 ≤ ((64 - s : Nat) : Int) by omega)]
   -- the two powers
   have hpq : (2 : Int) ^ s * 2 ^ (64 - s) = 18446744073709551616 := by rw [← Int.pow_add, show s + (64 - s) = 64 by omega]; rfl
   have hp0 : 0 < (2 : Int) ^ s := Int.pow_pos (by decide)
   have hq0 : 0 < (2 : Int) ^ (64 - s) := Int.pow_pos (by decide)
   have hc1 : c * 2 ^ s < 18446744073709551616 := by
    have h1 : c < 2 ^ (64 - s) := by
     have : (c.toNat : Int) < ((2 ^ Lib.bitLen c.toNat : Nat) : Int) := by exact_mod_cast l4
     rw [show 64 - s = Lib.bitLen c.toNat by omega]
     push_cast at this
     omega
    have := Int.mul_lt_mul_of_pos_right h1 hp0
    rw [Int.mul_comm ((2 : Int) ^ (64 - s))] at this
    omega
   have hc0 : 9223372036854775808 ≤ c * 2 ^ s := by
    have h1 : (2 : Int) ^ (63 - s) ≤ c := by
     have : ((2 ^ (Lib.bitLen c.toNat - 1) : Nat) : Int) ≤ (c.toNat : Int) := by exact_mod_cast l3
     rw [show 63 - s = Lib.bitLen c.toNat - 1 by omega]
     push_cast at this
     omega
    have h2 := Int.mul_le_mul_of_nonneg_right h1 (Int.le_of_lt hp0)
    have h3 : (2 : Int) ^ (63 - s) * 2 ^ s = 9223372036854775808 := by rw [← Int.pow_add, show 63 - s + s = 63 by omega]; rfl
    omega
   have hsl : ∀ x : Int, shl .u64 x (s : Int) = (x * 2 ^ s) % 18446744073709551616 := by
    intro x
    unfold shl
    rw [IntKind.wrap_u64, show min (s : Int).toNat IntKind.u64.bits = s by simp [IntKind.bits]; omega]
   have hsr : shr .u64 b ((64 - s : Nat) : Int) = b / 2 ^ (64 - s) := by
    unfold shr
    rw [show min ((64 - s : Nat) : Int).toNat IntKind.u64.bits = 64 - s by simp [IntKind.bits]]
   have hsr2 : ∀ x : Int, shr .u64 x (s : Int) = x / 2 ^ s := by
    intro x
    unfold shr
    rw [show min (s : Int).toNat IntKind.u64.bits = s by simp [IntKind.bits]; omega]
   have hY : (c * 2 ^ s) % 18446744073709551616 = c * 2 ^ s := Int.emod_eq_of_lt (by omega) hc1
   have hA1 : a * 2 ^ s + 2 ^ s ≤ c * 2 ^ s := by
    have := Int.mul_le_mul_of_nonneg_right (show a + 1 ≤ c by omega) (Int.le_of_lt hp0)
    rw [Int.add_mul, Int.one_mul] at this
    exact this
   have hA0 : 0 ≤ a * 2 ^ s := Int.mul_nonneg a0 (Int.le_of_lt hp0)
   have hA : (a * 2 ^ s) % 18446744073709551616 = a * 2 ^ s := Int.emod_eq_of_lt hA0 (by omega)
   have hB0 : 0 ≤ b / 2 ^ (64 - s) := Int.ediv_nonneg b0 (Int.le_of_lt hq0)
   have hB1 : b / 2 ^ (64 - s) < 2 ^ s := by rw [Int.ediv_lt_iff_lt_mul hq0]; omega
   have hor : Go.bits .or .u64 (a * 2 ^ s) (b / 2 ^ (64 - s)) = a * 2 ^ s + b / 2 ^ (64 - s) :=
    bits_join .u64 64 (by decide) (fun n x y => u64_id n x (by omega)) s _ _ hA0 (by simp) (by omega) hB0 hB1 (by omega)
   -- what is divided, shifted
   have hNp : (a * 18446744073709551616 + b) * 2 ^ s = (a * 2 ^ s + b / 2 ^ (64 - s)) * 18446744073709551616 + (b * 2 ^ s) % 18446744073709551616 := by
    have h1 : (b * 2 ^ s) / 18446744073709551616 = b / 2 ^ (64 - s) := by
     rw [← hpq, Int.mul_comm b, Int.mul_ediv_mul_of_pos _ _ hp0]
    have h2 := Int.emod_add_mul_ediv (b * 2 ^ s) 18446744073709551616
    rw [h1] at h2
    rw [Int.add_mul, Int.mul_right_comm]
    omega
   simp only [hsl, hsr, hY, hA, hor]
   have hU1 : a * 2 ^ s + b / 2 ^ (64 - s) < c * 2 ^ s := by omega
   have hU0 : 0 ≤ a * 2 ^ s + b / 2 ^ (64 - s) := by omega
   have hL0 : 0 ≤ (b * 2 ^ s) % 18446744073709551616 := Int.emod_nonneg _ (by decide)
   have hL1 : (b * 2 ^ s) % 18446744073709551616 < 18446744073709551616 := Int.emod_lt_of_pos _ (by decide)
   have hcpos : 0 < c := by omega
   generalize hYg : c * 2 ^ s = Y at *
   generalize hug : a * 2 ^ s + b / 2 ^ (64 - s) = u at *
   generalize hlg : (b * 2 ^ s) % 18446744073709551616 = l at *
   rw [and32 Y (by omega) hc1, and32 l hL0 hL1]
   have hy : Y = Y / 4294967296 * 4294967296 + Y % 4294967296 := by omega
   have t0 : 0 ≤ u / (Y / 4294967296) := Int.ediv_nonneg hU0 (by omega)
   have t1 : u / (Y / 4294967296) * (Y / 4294967296) ≤ u := by have := (quo_rem u (Y / 4294967296) (by omega)).1; omega
   have t2 : u - u / (Y / 4294967296) * (Y / 4294967296) < Y / 4294967296 := (quo_rem u (Y / 4294967296) (by omega)).2
   have t3 : u / (Y / 4294967296) < 4294967298 := by
    rw [Int.ediv_lt_iff_lt_mul (by omega)]; omega
   have ht : IntKind.u64.wrap (Int.tdiv u (Y / 4294967296)) = u / (Y / 4294967296) := by rw [Int.tdiv_eq_ediv_of_nonneg hU0, u64_id _ t0 (by omega)]
   have hw3 : IntKind.u64.wrap (u - IntKind.u64.wrap (u / (Y / 4294967296) * (Y / 4294967296))) = u - u / (Y / 4294967296) * (Y / 4294967296) := by
    rw [u64_id (u / (Y / 4294967296) * (Y / 4294967296)) (Int.mul_nonneg t0 (by omega)) (by omega), u64_id _ (by omega) (by omega)]
   have hle : (u * 4294967296 + l / 4294967296) / Y ≤ u / (Y / 4294967296) := by
    have h1 : ¬ u / (Y / 4294967296) < (u * 4294967296 + l / 4294967296) / Y := by
     intro h
     have h2 : (u / (Y / 4294967296) + 1) * Y ≤ u * 4294967296 + l / 4294967296 := by
      have := (quo_rem (u * 4294967296 + l / 4294967296) Y (by omega)).1
      have h3 : (u / (Y / 4294967296) + 1) * Y ≤ (u * 4294967296 + l / 4294967296) / Y * Y := Int.mul_le_mul_of_nonneg_right (by omega) (by omega)
      omega
     have h4 : (u / (Y / 4294967296) + 1) * Y = (u / (Y / 4294967296) * (Y / 4294967296) + Y / 4294967296) * 4294967296 + (u / (Y / 4294967296) + 1) * (Y % 4294967296) := by
      have : (u / (Y / 4294967296) + 1) * Y = (u / (Y / 4294967296) + 1) * (Y / 4294967296 * 4294967296 + Y % 4294967296) := by rw [← hy]
      rw [this, Int.mul_add, ← Int.mul_assoc, Int.add_mul _ 1 (Y / 4294967296), Int.one_mul]
     have h5 : 0 ≤ (u / (Y / 4294967296) + 1) * (Y % 4294967296) := Int.mul_nonneg (by omega) (by omega)
     omega
    omega
   obtain ⟨k, hk⟩ := dv_l0 Y (s : Int) (Y / 4294967296) (Y % 4294967296) (l / 4294967296) u _ (l % 4294967296) hy (by omega) (by omega) (by omega) (by omega) hU0 hU1 (by omega) (by omega) (by omega) (by omega) (by omega) rfl _
    (u / (Y / 4294967296)) (u - u / (Y / 4294967296) * (Y / 4294967296)) rfl hle rfl (by omega) (by omega) (by omega)
   refine ⟨k, ?_⟩
   rw [if_neg (by omega), ht, hw3, hk, hsr2]
   -- the two digits together
   obtain ⟨m0, m1⟩ := quo_rem (u * 4294967296 + l / 4294967296) Y (by omega)
   generalize (u * 4294967296 + l / 4294967296) / Y = Q1 at *
   generalize hr1 : u * 4294967296 + l / 4294967296 - Q1 * Y = v1 at *
   obtain ⟨n0, n1⟩ := quo_rem (v1 * 4294967296 + l % 4294967296) Y (by omega)
   generalize (v1 * 4294967296 + l % 4294967296) / Y = Q0 at *
   generalize hr0 : v1 * 4294967296 + l % 4294967296 - Q0 * Y = v0 at *
   have hj := digits_join (a * 18446744073709551616 + b) (2 ^ s) Y u l Q1 Q0 v1 v0 (l / 4294967296) (l % 4294967296) hNp (by omega) (by omega) (by omega)
   rw [← hYg] at hj n1
   have hN : a * 18446744073709551616 + b = (Q1 * 4294967296 + Q0) * c + v0 / 2 ^ s ∧ v0 % 2 ^ s = 0 := by
    have h1 : ((a * 18446744073709551616 + b) - (Q1 * 4294967296 + Q0) * c) * 2 ^ s = v0 := by
     rw [Int.sub_mul, Int.mul_assoc (Q1 * 4294967296 + Q0), hj]; omega
    rw [← h1, Int.mul_ediv_cancel _ (by omega)]
    refine ⟨by omega, by simp⟩
   have hv0 : 0 ≤ v0 / 2 ^ s := Int.ediv_nonneg n0 (Int.le_of_lt hp0)
   have hv1 : v0 / 2 ^ s < c := by rw [Int.ediv_lt_iff_lt_mul hp0]; exact n1
   obtain ⟨f1, f2⟩ := div_of hcpos hN.1 hv0 hv1
   rw [f1, f2]
 ·cases h
theorem bits_Div64.calls (a0 a1 a2 r1 r2 : Int) (w : World) (h : bits_Div64.f a0 a1 a2 = some (r1, r2)) :
  Calls Tryd.prog 77 #[.int .u64 a0, .int .u64 a1, .int .u64 a2] w fun e w' => e = .returned (.tuple #[.int .u64 r1, .int .u64 r2]) ∧ Drawn0 w w' := by
 obtain ⟨k, h⟩ := bits_Div64.eq h
 exact bits_Div64P.calls k a0 a1 a2 r1 r2 w h
def wide_size_divideP.f (a0_0 a0_1 a1 : Int) : Option (Int × Int × Int) := if a1 = 0 then (none) else ((bits_Div64.f (Int.tmod a0_0 a1) a0_1 a1).bind fun bt127 => (some (IntKind.u64.wrap (Int.tdiv a0_0 a1), bt127.1, bt127.2)))
set_option maxHeartbeats 8000000 in
set_option maxRecDepth 100000 in
theorem wide_size_divideP.calls (a0_0 a0_1 a1 r1 r2 r3 : Int) (w : World) (h : wide_size_divideP.f a0_0 a0_1 a1 = some (r1, r2, r3)) :
  Calls Tryd.prog 66 #[.agg #[.int .u64 a0_0, .int .u64 a0_1], .int .u64 a1] w fun e w' => e = .returned (.tuple #[.agg #[.int .u64 r1, .int .u64 r2], .int .u64 r3]) ∧ Below w.heap.size w w' := by
 have hu83 := Tryd.underlying83
 have HB := Aside0.mk (Below.refl w.heap.size w)
 have H : (if a1 = 0 then (none) else ((bits_Div64.f (Int.tmod a0_0 a1) a0_1 a1).bind fun bt127 => (some (IntKind.u64.wrap (Int.tdiv a0_0 a1), bt127.1, bt127.2)))) = some (r1, r2, r3) := h
 clear h
 by_cases c3 : a1 = 0
 ·rw [if_pos c3] at H
  exact absurd H (by simp)
 ·rw [if_neg c3] at H
  have c3b0 : (a1 == 0) = false := beq_eq_false_iff_ne.mpr c3
  have c3b1 : (a1 != 0) = true := bne_iff_ne.mpr c3
  replace H := Option.bind_eq_some_iff.mp H
  obtain ⟨⟨t127, t128⟩, A40, H⟩ := H
  replace H : (some (IntKind.u64.wrap (Int.tdiv a0_0 a1), t127, t128)) = some (r1, r2, r3) := H
  have A4 := Aside0.mk A40
  clear A40
  simp only [Option.some.injEq, Prod.mk.injEq] at H
  obtain ⟨rfl, rfl, rfl⟩ := H
  go_enter Tryd.func66, Tryd.ntmps66
  go_wp2_with (first | ((with_reducible refine gate_dst (N := 2) rfl ?_); refine be_ (N := 2) (cs := #[.int .u64 a0_0, .int .u64 a0_1]) (t := 83) ?_; intro gb125 hg w5 hbox hb; have n0_ := Aside0.mk (below_step (qb_ HB.out) hb); have n1_ := Aside0.mk (hbox); have n2_ := Aside0.mk (bz_ hg (qb_ HB.out) : w.heap.size ≤ gb125); have n3_ := n2_; clear HB; have HB := n0_; have BK125 := n1_; have GW125 := n2_; have GE125 := n3_; clear n0_ n1_ n2_ n3_; clear hb hbox hg) | ((with_reducible refine gate_dst (N := 4) rfl ?_); refine be_ (N := 4) (cs := #[.int .u64 0, .int .u64 0]) (t := 83) ?_; intro gb126 hg w6 hbox hb; have n0_ := Aside0.mk (blk_below (qk_ BK125.out) hb); have n1_ := Aside0.mk (below_step (qb1_ GE125.out HB.out) hb); have n2_ := Aside0.mk (hbox); have n3_ := Aside0.mk (bz_ hg (qb1_ GE125.out HB.out) : w.heap.size ≤ gb126); have n4_ := n3_; have n5_ := Aside0.mk (nl_ hg (qk_ BK125.out) : gb125 ≠ gb126); have n6_ := Aside0.mk (ng_ hg (qk_ BK125.out) : gb126 ≠ gb125); clear BK125; clear HB; have BK125 := n0_; have HB := n1_; have BK126 := n2_; have GW126 := n3_; have GE126 := n4_; have NB125_126 := n5_; have NB126_125 := n6_; clear n0_ n1_ n2_ n3_ n4_ n5_ n6_; clear hb hbox hg; have hnb7 := NB125_126.out; have hnc7 := NB126_125.out; obtain ⟨Z8_0, Z8_1, Y8_0, Y8_1⟩ := cz2_ BK125.out) | (go_at_call 77; (with_reducible refine (bits_Div64.calls (Int.tmod a0_0 a1) a0_1 a1 t127 t128 _ A4.out).mono ?_); rintro e w' ⟨rfl, ⟨nd, rfl⟩⟩; (try first | exact ⟨rfl, _, World.drewN_drewN _ _ _⟩ | exact ⟨rfl, _, Eq.trans (World.drewN_drewN _ _ _) (congrArg (World.drewN _) (Nat.add_assoc _ _ _))⟩); obtain ⟨Z9_0, Z9_1, Y9_0, Y9_1⟩ := cz2_ BK126.out))
  repeat (go_quiet (first | ((with_reducible refine gate_dst (N := 2) rfl ?_); refine be_ (N := 2) (cs := #[.int .u64 a0_0, .int .u64 a0_1]) (t := 83) ?_; intro gb125 hg w5 hbox hb; have n0_ := Aside0.mk (below_step (qb_ HB.out) hb); have n1_ := Aside0.mk (hbox); have n2_ := Aside0.mk (bz_ hg (qb_ HB.out) : w.heap.size ≤ gb125); have n3_ := n2_; clear HB; have HB := n0_; have BK125 := n1_; have GW125 := n2_; have GE125 := n3_; clear n0_ n1_ n2_ n3_; clear hb hbox hg) | ((with_reducible refine gate_dst (N := 4) rfl ?_); refine be_ (N := 4) (cs := #[.int .u64 0, .int .u64 0]) (t := 83) ?_; intro gb126 hg w6 hbox hb; have n0_ := Aside0.mk (blk_below (qk_ BK125.out) hb); have n1_ := Aside0.mk (below_step (qb1_ GE125.out HB.out) hb); have n2_ := Aside0.mk (hbox); have n3_ := Aside0.mk (bz_ hg (qb1_ GE125.out HB.out) : w.heap.size ≤ gb126); have n4_ := n3_; have n5_ := Aside0.mk (nl_ hg (qk_ BK125.out) : gb125 ≠ gb126); have n6_ := Aside0.mk (ng_ hg (qk_ BK125.out) : gb126 ≠ gb125); clear BK125; clear HB; have BK125 := n0_; have HB := n1_; have BK126 := n2_; have GW126 := n3_; have GE126 := n4_; have NB125_126 := n5_; have NB126_125 := n6_; clear n0_ n1_ n2_ n3_ n4_ n5_ n6_; clear hb hbox hg; have hnb7 := NB125_126.out; have hnc7 := NB126_125.out; obtain ⟨Z8_0, Z8_1, Y8_0, Y8_1⟩ := cz2_ BK125.out) | (go_at_call 77; (with_reducible refine (bits_Div64.calls (Int.tmod a0_0 a1) a0_1 a1 t127 t128 _ A4.out).mono ?_); rintro e w' ⟨rfl, ⟨nd, rfl⟩⟩; (try first | exact ⟨rfl, _, World.drewN_drewN _ _ _⟩ | exact ⟨rfl, _, Eq.trans (World.drewN_drewN _ _ _) (congrArg (World.drewN _) (Nat.add_assoc _ _ _))⟩); obtain ⟨Z9_0, Z9_1, Y9_0, Y9_1⟩ := cz2_ BK126.out)); try go_wp2_with (first | ((with_reducible refine gate_dst (N := 2) rfl ?_); refine be_ (N := 2) (cs := #[.int .u64 a0_0, .int .u64 a0_1]) (t := 83) ?_; intro gb125 hg w5 hbox hb; have n0_ := Aside0.mk (below_step (qb_ HB.out) hb); have n1_ := Aside0.mk (hbox); have n2_ := Aside0.mk (bz_ hg (qb_ HB.out) : w.heap.size ≤ gb125); have n3_ := n2_; clear HB; have HB := n0_; have BK125 := n1_; have GW125 := n2_; have GE125 := n3_; clear n0_ n1_ n2_ n3_; clear hb hbox hg) | ((with_reducible refine gate_dst (N := 4) rfl ?_); refine be_ (N := 4) (cs := #[.int .u64 0, .int .u64 0]) (t := 83) ?_; intro gb126 hg w6 hbox hb; have n0_ := Aside0.mk (blk_below (qk_ BK125.out) hb); have n1_ := Aside0.mk (below_step (qb1_ GE125.out HB.out) hb); have n2_ := Aside0.mk (hbox); have n3_ := Aside0.mk (bz_ hg (qb1_ GE125.out HB.out) : w.heap.size ≤ gb126); have n4_ := n3_; have n5_ := Aside0.mk (nl_ hg (qk_ BK125.out) : gb125 ≠ gb126); have n6_ := Aside0.mk (ng_ hg (qk_ BK125.out) : gb126 ≠ gb125); clear BK125; clear HB; have BK125 := n0_; have HB := n1_; have BK126 := n2_; have GW126 := n3_; have GE126 := n4_; have NB125_126 := n5_; have NB126_125 := n6_; clear n0_ n1_ n2_ n3_ n4_ n5_ n6_; clear hb hbox hg; have hnb7 := NB125_126.out; have hnc7 := NB126_125.out; obtain ⟨Z8_0, Z8_1, Y8_0, Y8_1⟩ := cz2_ BK125.out) | (go_at_call 77; (with_reducible refine (bits_Div64.calls (Int.tmod a0_0 a1) a0_1 a1 t127 t128 _ A4.out).mono ?_); rintro e w' ⟨rfl, ⟨nd, rfl⟩⟩; (try first | exact ⟨rfl, _, World.drewN_drewN _ _ _⟩ | exact ⟨rfl, _, Eq.trans (World.drewN_drewN _ _ _) (congrArg (World.drewN _) (Nat.add_assoc _ _ _))⟩); obtain ⟨Z9_0, Z9_1, Y9_0, Y9_1⟩ := cz2_ BK126.out)))
  refine bodyPost_ret (results_ct rfl _ _ gb126 83 #[.int .u64 (IntKind.u64.wrap (Int.tdiv a0_0 a1)), .int .u64 t127] (0, 0) _ rfl (qpp_ #[.int .u64 (IntKind.u64.wrap (Int.tdiv a0_0 a1)), .int .u64 0] 1 #[.int .u64 0, .int .u64 0] 0 BK126.out) Tryd.underlying83 rfl (by kernel_rfl)) rfl ?_
  exact ⟨qe_, qb2_ GE125.out GE126.out HB.out⟩
def wide_size_divide.f (a0_0 a0_1 a1 : Int) : Option (Int × Int × Int) :=
 if (inU a0_0 ∧ inU a0_1) ∧ 1 ≤ a1 ∧ a1 ≤ 18446744073709551615 then
  some (wv a0_0 a0_1 / a1 / 18446744073709551616, wv a0_0 a0_1 / a1 % 18446744073709551616, wv a0_0 a0_1 % a1) else none
theorem wide_size_divide.eq {a b c : Int} {r : Int × Int × Int} (h : wide_size_divide.f a b c = some r) : wide_size_divideP.f a b c = some r := by
 unfold wide_size_divide.f at h
 split at h
 ·rename_i q
  obtain ⟨⟨⟨a0, a1⟩, b0, b1⟩, c0, c1⟩ := q
  injection h with h
  subst h
  unfold wide_size_divideP.f bits_Div64.f
  have m0 := Int.emod_nonneg a (show c ≠ 0 by omega)
  have m1 := Int.emod_lt_of_pos a (show 0 < c by omega)
  have q0 : 0 ≤ a / c := Int.ediv_nonneg a0 (by omega)
  have q1 : a / c ≤ a := Int.ediv_le_self c a0
  rw [if_neg (by omega), Int.tmod_eq_emod_of_nonneg a0, Int.tdiv_eq_ediv_of_nonneg a0, u64_id _ q0 (by omega), if_pos ⟨m0, m1, by omega, b0, b1⟩]
  simp only [Option.bind_some]
  have d0 : 0 ≤ (a % c * 18446744073709551616 + b) / c := Int.ediv_nonneg (by omega) (by omega)
  have d1 : (a % c * 18446744073709551616 + b) / c < 18446744073709551616 := by rw [Int.ediv_lt_iff_lt_mul (by omega)]; omega
  have e0 := Int.emod_nonneg (a % c * 18446744073709551616 + b) (show c ≠ 0 by omega)
  have e1 := Int.emod_lt_of_pos (a % c * 18446744073709551616 + b) (show 0 < c by omega)
  have hm := Int.emod_add_mul_ediv (a % c * 18446744073709551616 + b) c
  have ha := Int.emod_add_mul_ediv a c
  have hw : wv a b = (a / c * 18446744073709551616 + (a % c * 18446744073709551616 + b) / c) * c + (a % c * 18446744073709551616 + b) % c := by
   have : (a / c * 18446744073709551616 + (a % c * 18446744073709551616 + b) / c) * c = c * (a / c) * 18446744073709551616 + c * ((a % c * 18446744073709551616 + b) / c) := by
    rw [Int.add_mul, Int.mul_right_comm, Int.mul_comm (a / c) c, Int.mul_comm _ c]
   unfold wv
   omega
  obtain ⟨f1, f2⟩ := div_of (by omega) hw e0 e1
  rw [f1, f2]
  congr 2
  ·omega
  ·congr 1; omega
 ·cases h
theorem wide_size_divide.calls (a0_0 a0_1 a1 r1 r2 r3 : Int) (w : World) (h : wide_size_divide.f a0_0 a0_1 a1 = some (r1, r2, r3)) :
  Calls Tryd.prog 66 #[.agg #[.int .u64 a0_0, .int .u64 a0_1], .int .u64 a1] w fun e w' => e = .returned (.tuple #[.agg #[.int .u64 r1, .int .u64 r2], .int .u64 r3]) ∧ Below w.heap.size w w' := by
 have h := wide_size_divide.eq h
 exact wide_size_divideP.calls a0_0 a0_1 a1 r1 r2 r3 w h
end Go.Proofs.YtjkjiibhdpcpkaaDoor.PS
end
