import Derived.Test.YtjkjiibhdpcpkaaDoorQRm2
import Derived.Test.YtjkjiibhdpcpkaaDoorQRm4
section
namespace Go.Proofs.YtjkjiibhdpcpkaaDoor.PS
open Go.RowKit Go.Proofs.YtjkjiibhdpcpkaaDoorW.PrintWords Go.Proofs.YtjkjiibhdpcpkaaDoorW.PrintLast
set_option linter.unusedVariables false
set_option linter.unusedSimpArgs false
namespace M64
theorem maskN (a : Nat) (ha : a < 18446744073709551616) : bits .and .u64 (a : Int) 4294967295 = ((a % 4294967296 : Nat) : Int) := by
 have h := bits_and_u64_nat a 4294967295 ha (by omega)
 have e : a &&& 4294967295 = a % 4294967296 := Nat.and_two_pow_sub_one_eq_mod a 32
 rw [e] at h
 exact h
theorem divN (a : Nat) : (a : Int) / 4294967296 = ((a / 4294967296 : Nat) : Int) := by omega
theorem mulN (a b : Nat) : (a : Int) * (b : Int) = ((a * b : Nat) : Int) := (Int.natCast_mul a b).symm
theorem addN (a b : Nat) : (a : Int) + (b : Int) = ((a + b : Nat) : Int) := (Int.natCast_add a b).symm
theorem wrapN (a : Nat) (ha : a < 18446744073709551616) : IntKind.u64.wrap (a : Int) = (a : Int) := by rw [IntKind.wrap_u64]; omega
theorem wrapM (a : Nat) : IntKind.u64.wrap (a : Int) = ((a % 18446744073709551616 : Nat) : Int) := by rw [IntKind.wrap_u64]; omega
end M64
set_option maxHeartbeats 1000000 in
theorem mul64_nat (x y : Nat) (hx : x < 18446744073709551616) (hy : y < 18446744073709551616) (w : World) :
  Calls Tryd.prog 55 #[.int .u64 x, .int .u64 y] w fun e w' => e = .returned (.tuple #[.int .u64 ((x * y / 18446744073709551616 : Nat) : Int), .int .u64 ((x * y % 18446744073709551616 : Nat) : Int)]) ∧ w' = w := by
 obtain ⟨bd, bt, bw, hhi⟩ := Lib.mul64_hi x y hx hy
 have ba := Lib.half_mul_le (a := x / 4294967296) (b := y / 4294967296) (by omega) (by omega)
 have bb := Lib.half_mul_le (a := x / 4294967296) (b := y % 4294967296) (by omega) (by omega)
 have bc := Lib.half_mul_le (a := x % 4294967296) (b := y / 4294967296) (by omega) (by omega)
 have ba' : x / 4294967296 * (y / 4294967296) < 18446744073709551616 := by omega
 have bb' : x / 4294967296 * (y % 4294967296) < 18446744073709551616 := by omega
 have bc' : x % 4294967296 * (y / 4294967296) < 18446744073709551616 := by omega
 have bh1 : x / 4294967296 * (y / 4294967296) + (x / 4294967296 * (y % 4294967296) + x % 4294967296 * (y % 4294967296) / 4294967296) / 4294967296 < 18446744073709551616 := by omega
 have bh : x / 4294967296 * (y / 4294967296) + (x / 4294967296 * (y % 4294967296) + x % 4294967296 * (y % 4294967296) / 4294967296) / 4294967296 + ((x / 4294967296 * (y % 4294967296) + x % 4294967296 * (y % 4294967296) / 4294967296) % 4294967296 + x % 4294967296 * (y / 4294967296)) / 4294967296 < 18446744073709551616 := by omega
 go_enter Tryd.func55, Tryd.ntmps55
 go_wp2
 simp only [M64.maskN x hx, M64.maskN y hy, M64.divN, M64.mulN, M64.addN, M64.wrapN _ bd, M64.wrapN _ bb', M64.wrapN _ bt, M64.maskN _ bt, M64.wrapN _ bc', M64.wrapN _ bw, M64.wrapN _ ba', M64.wrapN _ bh1, M64.wrapN _ bh, M64.wrapM (x * y)]
 rw [hhi]
 go_ret2
 exact ⟨rfl, rfl⟩
def bits_Mul64.f (a0 a1 : Int) : Option (Int × Int) :=
 if inU a0 ∧ inU a1 then some (a0 * a1 / 18446744073709551616, a0 * a1 % 18446744073709551616) else none
theorem bits_Mul64.calls (a0 a1 r1 r2 : Int) (w : World) (h : bits_Mul64.f a0 a1 = some (r1, r2)) :
  Calls Tryd.prog 55 #[.int .u64 a0, .int .u64 a1] w fun e w' => e = .returned (.tuple #[.int .u64 r1, .int .u64 r2]) ∧ Below w.heap.size w w' := by
 unfold bits_Mul64.f at h
 split at h
 ·rename_i c
  obtain ⟨⟨c0, c1⟩, c2, c3⟩ := c
  injection h with h
  injection h with h1 h2
  subst h1 h2
  obtain ⟨x, rfl⟩ := Int.eq_ofNat_of_zero_le c0
  obtain ⟨y, rfl⟩ := Int.eq_ofNat_of_zero_le c2
  refine (mul64_nat x y (by omega) (by omega) w).mono ?_
  rintro e w' ⟨rfl, rfl⟩
  exact ⟨by rw [Int.natCast_ediv, Int.natCast_emod, Int.natCast_mul]; rfl, Below.refl _ _⟩
 ·cases h
def wide_size_timesP.f (a0_0 a0_1 a1 a2 : Int) : Option (Int × Int × Bool) := (bits_Mul64.f a0_1 a1).bind fun bt131 => ((bits_Mul64.f a0_0 a1).bind fun bt133 => (if bt133.1 = 0 then (some (addLo bt133.2 (IntKind.u64.wrap (bt131.1 + (addHi bt131.2 a2))), addLo bt131.2 a2, ((addHi bt133.2 (IntKind.u64.wrap (bt131.1 + (addHi bt131.2 a2)))) == 0))) else (some (addLo bt133.2 (IntKind.u64.wrap (bt131.1 + (addHi bt131.2 a2))), addLo bt131.2 a2, false))))
set_option maxHeartbeats 8000000 in
set_option maxRecDepth 100000 in
theorem wide_size_timesP.calls (a0_0 a0_1 a1 a2 r1 r2 : Int) (r3 : Bool) (w : World) (h : wide_size_timesP.f a0_0 a0_1 a1 a2 = some (r1, r2, r3)) :
  Calls Tryd.prog 67 #[.agg #[.int .u64 a0_0, .int .u64 a0_1], .int .u64 a1, .int .u64 a2] w fun e w' => e = .returned (.tuple #[.agg #[.int .u64 r1, .int .u64 r2], .bool r3]) ∧ Below w.heap.size w w' := by
 have hu83 := Tryd.underlying83
 have hadd64 := add64_run
 have HB := Aside0.mk (Below.refl w.heap.size w)
 have H : ((bits_Mul64.f a0_1 a1).bind fun bt131 => ((bits_Mul64.f a0_0 a1).bind fun bt133 => (if bt133.1 = 0 then (some (addLo bt133.2 (IntKind.u64.wrap (bt131.1 + (addHi bt131.2 a2))), addLo bt131.2 a2, ((addHi bt133.2 (IntKind.u64.wrap (bt131.1 + (addHi bt131.2 a2)))) == 0))) else (some (addLo bt133.2 (IntKind.u64.wrap (bt131.1 + (addHi bt131.2 a2))), addLo bt131.2 a2, false))))) = some (r1, r2, r3) := h
 clear h
 replace H := Option.bind_eq_some_iff.mp H
 obtain ⟨⟨t131, t132⟩, A40, H⟩ := H
 replace H : ((bits_Mul64.f a0_0 a1).bind fun bt133 => (if bt133.1 = 0 then (some (addLo bt133.2 (IntKind.u64.wrap (t131 + (addHi t132 a2))), addLo t132 a2, ((addHi bt133.2 (IntKind.u64.wrap (t131 + (addHi t132 a2)))) == 0))) else (some (addLo bt133.2 (IntKind.u64.wrap (t131 + (addHi t132 a2))), addLo t132 a2, false)))) = some (r1, r2, r3) := H
 have A4 := Aside0.mk A40
 clear A40
 replace H := Option.bind_eq_some_iff.mp H
 obtain ⟨⟨t133, t134⟩, A50, H⟩ := H
 replace H : (if t133 = 0 then (some (addLo t134 (IntKind.u64.wrap (t131 + (addHi t132 a2))), addLo t132 a2, ((addHi t134 (IntKind.u64.wrap (t131 + (addHi t132 a2)))) == 0))) else (some (addLo t134 (IntKind.u64.wrap (t131 + (addHi t132 a2))), addLo t132 a2, false))) = some (r1, r2, r3) := H
 have A5 := Aside0.mk A50
 clear A50
 by_cases c6 : t133 = 0
 ·rw [if_pos c6] at H
  have c6b0 : (t133 == 0) = true := beq_iff_eq.mpr c6
  have c6b1 : (t133 != 0) = false := bne_eq_false_iff_eq.mpr c6
  clear c6
  simp only [Option.some.injEq, Prod.mk.injEq] at H
  obtain ⟨rfl, rfl, rfl⟩ := H
  go_enter Tryd.func67, Tryd.ntmps67
  go_wp2_with (first | ((with_reducible refine gate_dst (N := 3) rfl ?_); refine be_ (N := 3) (cs := #[.int .u64 a0_0, .int .u64 a0_1]) (t := 83) ?_; intro gb129 hg w7 hbox hb; have n0_ := Aside0.mk (below_step (qb_ HB.out) hb); have n1_ := Aside0.mk (hbox); have n2_ := Aside0.mk (bz_ hg (qb_ HB.out) : w.heap.size ≤ gb129); have n3_ := n2_; clear HB; have HB := n0_; have BK129 := n1_; have GW129 := n2_; have GE129 := n3_; clear n0_ n1_ n2_ n3_; clear hb hbox hg) | ((with_reducible refine gate_dst (N := 6) rfl ?_); refine be_ (N := 6) (cs := #[.int .u64 0, .int .u64 0]) (t := 83) ?_; intro gb130 hg w8 hbox hb; have n0_ := Aside0.mk (blk_below (qk_ BK129.out) hb); have n1_ := Aside0.mk (below_step (qb1_ GE129.out HB.out) hb); have n2_ := Aside0.mk (hbox); have n3_ := Aside0.mk (bz_ hg (qb1_ GE129.out HB.out) : w.heap.size ≤ gb130); have n4_ := n3_; have n5_ := Aside0.mk (nl_ hg (qk_ BK129.out) : gb129 ≠ gb130); have n6_ := Aside0.mk (ng_ hg (qk_ BK129.out) : gb130 ≠ gb129); clear BK129; clear HB; have BK129 := n0_; have HB := n1_; have BK130 := n2_; have GW130 := n3_; have GE130 := n4_; have NB129_130 := n5_; have NB130_129 := n6_; clear n0_ n1_ n2_ n3_ n4_ n5_ n6_; clear hb hbox hg; have hnb9 := NB129_130.out; have hnc9 := NB130_129.out; obtain ⟨Z10_0, Z10_1, Y10_0, Y10_1⟩ := cz2_ BK129.out) | ((with_reducible refine gate_callee (f := 55) rfl ?_); refine goesL_ (some 17) rfl rfl Tryd.func55 (by kernel_rfl) rfl #[.int .u64 a0_1, .int .u64 a1] rfl ql_ ?_; (with_reducible refine (bits_Mul64.calls a0_1 a1 t131 t132 _ A4.out).mono ?_); rintro e w11 ⟨rfl, hb⟩; refine ⟨_, rfl, ?_⟩; have n0_ := Aside0.mk (blk_below (qk_ BK129.out) hb); have n1_ := Aside0.mk (blk_below (qk_ BK130.out) hb); have n2_ := Aside0.mk (below_step (qb2_ GE129.out GE130.out HB.out) hb); clear BK129; clear BK130; clear HB; have BK129 := n0_; have BK130 := n1_; have HB := n2_; clear n0_ n1_ n2_; (try clear hb); (try clear hb2); (try clear hk); (try clear hi); obtain ⟨Z12_0, Z12_1, Y12_0, Y12_1⟩ := cz2_ BK129.out) | ((with_reducible refine gate_callee (f := 55) rfl ?_); refine goesL_ (some 24) rfl rfl Tryd.func55 (by kernel_rfl) rfl #[.int .u64 a0_0, .int .u64 a1] rfl ql_ ?_; (with_reducible refine (bits_Mul64.calls a0_0 a1 t133 t134 _ A5.out).mono ?_); rintro e w13 ⟨rfl, hb⟩; refine ⟨_, rfl, ?_⟩; have n0_ := Aside0.mk (blk_below (qk_ BK129.out) hb); have n1_ := Aside0.mk (blk_below (qk_ BK130.out) hb); have n2_ := Aside0.mk (below_step (qb2_ GE129.out GE130.out HB.out) hb); clear BK129; clear BK130; clear HB; have BK129 := n0_; have BK130 := n1_; have HB := n2_; clear n0_ n1_ n2_; (try clear hb); (try clear hb2); (try clear hk); (try clear hi); obtain ⟨Z14_0, Z14_1, Y14_0, Y14_1⟩ := cz2_ BK130.out))
  refine bodyPost_ret (results_ct rfl _ _ gb130 83 #[.int .u64 (addLo t134 (IntKind.u64.wrap (t131 + (addHi t132 a2)))), .int .u64 (addLo t132 a2)] (0, 0) _ rfl (qpp_ #[.int .u64 (addLo t134 (IntKind.u64.wrap (t131 + (addHi t132 a2)))), .int .u64 0] 1 #[.int .u64 0, .int .u64 0] 0 BK130.out) Tryd.underlying83 rfl (by kernel_rfl)) rfl ?_
  exact ⟨qe_, qb2_ GE129.out GE130.out HB.out⟩
 ·rw [if_neg c6] at H
  have c6b0 : (t133 == 0) = false := beq_eq_false_iff_ne.mpr c6
  have c6b1 : (t133 != 0) = true := bne_iff_ne.mpr c6
  simp only [Option.some.injEq, Prod.mk.injEq] at H
  obtain ⟨rfl, rfl, rfl⟩ := H
  go_enter Tryd.func67, Tryd.ntmps67
  go_wp2_with (first | ((with_reducible refine gate_dst (N := 3) rfl ?_); refine be_ (N := 3) (cs := #[.int .u64 a0_0, .int .u64 a0_1]) (t := 83) ?_; intro gb129 hg w15 hbox hb; have n0_ := Aside0.mk (below_step (qb_ HB.out) hb); have n1_ := Aside0.mk (hbox); have n2_ := Aside0.mk (bz_ hg (qb_ HB.out) : w.heap.size ≤ gb129); have n3_ := n2_; clear HB; have HB := n0_; have BK129 := n1_; have GW129 := n2_; have GE129 := n3_; clear n0_ n1_ n2_ n3_; clear hb hbox hg) | ((with_reducible refine gate_dst (N := 6) rfl ?_); refine be_ (N := 6) (cs := #[.int .u64 0, .int .u64 0]) (t := 83) ?_; intro gb130 hg w16 hbox hb; have n0_ := Aside0.mk (blk_below (qk_ BK129.out) hb); have n1_ := Aside0.mk (below_step (qb1_ GE129.out HB.out) hb); have n2_ := Aside0.mk (hbox); have n3_ := Aside0.mk (bz_ hg (qb1_ GE129.out HB.out) : w.heap.size ≤ gb130); have n4_ := n3_; have n5_ := Aside0.mk (nl_ hg (qk_ BK129.out) : gb129 ≠ gb130); have n6_ := Aside0.mk (ng_ hg (qk_ BK129.out) : gb130 ≠ gb129); clear BK129; clear HB; have BK129 := n0_; have HB := n1_; have BK130 := n2_; have GW130 := n3_; have GE130 := n4_; have NB129_130 := n5_; have NB130_129 := n6_; clear n0_ n1_ n2_ n3_ n4_ n5_ n6_; clear hb hbox hg; have hnb17 := NB129_130.out; have hnc17 := NB130_129.out; obtain ⟨Z18_0, Z18_1, Y18_0, Y18_1⟩ := cz2_ BK129.out) | ((with_reducible refine gate_callee (f := 55) rfl ?_); refine goesL_ (some 17) rfl rfl Tryd.func55 (by kernel_rfl) rfl #[.int .u64 a0_1, .int .u64 a1] rfl ql_ ?_; (with_reducible refine (bits_Mul64.calls a0_1 a1 t131 t132 _ A4.out).mono ?_); rintro e w19 ⟨rfl, hb⟩; refine ⟨_, rfl, ?_⟩; have n0_ := Aside0.mk (blk_below (qk_ BK129.out) hb); have n1_ := Aside0.mk (blk_below (qk_ BK130.out) hb); have n2_ := Aside0.mk (below_step (qb2_ GE129.out GE130.out HB.out) hb); clear BK129; clear BK130; clear HB; have BK129 := n0_; have BK130 := n1_; have HB := n2_; clear n0_ n1_ n2_; (try clear hb); (try clear hb2); (try clear hk); (try clear hi); obtain ⟨Z20_0, Z20_1, Y20_0, Y20_1⟩ := cz2_ BK129.out) | ((with_reducible refine gate_callee (f := 55) rfl ?_); refine goesL_ (some 24) rfl rfl Tryd.func55 (by kernel_rfl) rfl #[.int .u64 a0_0, .int .u64 a1] rfl ql_ ?_; (with_reducible refine (bits_Mul64.calls a0_0 a1 t133 t134 _ A5.out).mono ?_); rintro e w21 ⟨rfl, hb⟩; refine ⟨_, rfl, ?_⟩; have n0_ := Aside0.mk (blk_below (qk_ BK129.out) hb); have n1_ := Aside0.mk (blk_below (qk_ BK130.out) hb); have n2_ := Aside0.mk (below_step (qb2_ GE129.out GE130.out HB.out) hb); clear BK129; clear BK130; clear HB; have BK129 := n0_; have BK130 := n1_; have HB := n2_; clear n0_ n1_ n2_; (try clear hb); (try clear hb2); (try clear hk); (try clear hi); obtain ⟨Z22_0, Z22_1, Y22_0, Y22_1⟩ := cz2_ BK130.out))
  refine bodyPost_ret (results_ct rfl _ _ gb130 83 #[.int .u64 (addLo t134 (IntKind.u64.wrap (t131 + (addHi t132 a2)))), .int .u64 (addLo t132 a2)] (0, 0) _ rfl (qpp_ #[.int .u64 (addLo t134 (IntKind.u64.wrap (t131 + (addHi t132 a2)))), .int .u64 0] 1 #[.int .u64 0, .int .u64 0] 0 BK130.out) Tryd.underlying83 rfl (by kernel_rfl)) rfl ?_
  exact ⟨qe_, qb2_ GE129.out GE130.out HB.out⟩
def wide_size_times.f (a0_0 a0_1 a1 a2 : Int) : Option (Int × Int × Bool) :=
 if (inU a0_0 ∧ inU a0_1) ∧ inU a1 ∧ inU a2 then
  some ((wv a0_0 a0_1 * a1 + a2) / 18446744073709551616 % 18446744073709551616, (wv a0_0 a0_1 * a1 + a2) % 18446744073709551616, decide (wv a0_0 a0_1 * a1 + a2 < 340282366920938463463374607431768211456)) else none
theorem wide_size_times.eq {a b c d : Int} {r : Int × Int × Bool} (h : wide_size_times.f a b c d = some r) : wide_size_timesP.f a b c d = some r := by
 unfold wide_size_times.f at h
 split at h
 ·rename_i q
  obtain ⟨⟨⟨a0, a1⟩, b0, b1⟩, ⟨c0, c1⟩, d0, d1⟩ := q
  injection h with h
  subst h
  unfold wide_size_timesP.f bits_Mul64.f
  rw [if_pos ⟨⟨b0, b1⟩, c0, c1⟩, if_pos ⟨⟨a0, a1⟩, c0, c1⟩]
  simp only [Option.bind_some]
  have hv : wv a b * c = a * c * 18446744073709551616 + b * c := by unfold wv; rw [Int.add_mul, Int.mul_right_comm]
  have p0 : 0 ≤ a * c := Int.mul_nonneg a0 c0
  have q0 : 0 ≤ b * c := Int.mul_nonneg b0 c0
  have p1 : a * c ≤ 18446744073709551615 * 18446744073709551615 := Int.mul_le_mul a1 c1 c0 (by decide)
  have q1 : b * c ≤ 18446744073709551615 * 18446744073709551615 := Int.mul_le_mul b1 c1 c0 (by decide)
  rw [hv]
  generalize a * c = x at *
  generalize b * c = y at *
  have l1 : addLo (y % 18446744073709551616) d = (y + d) % 18446744073709551616 := by unfold addLo; omega
  have l2 : addHi (y % 18446744073709551616) d = (y % 18446744073709551616 + d) / 18446744073709551616 := by unfold addHi; omega
  have l3 : IntKind.u64.wrap (y / 18446744073709551616 + addHi (y % 18446744073709551616) d) = (y + d) / 18446744073709551616 := by rw [l2, IntKind.wrap_u64]; omega
  rw [l3, l1]
  have l4 : addLo (x % 18446744073709551616) ((y + d) / 18446744073709551616) = (x * 18446744073709551616 + y + d) / 18446744073709551616 % 18446744073709551616 := by unfold addLo; omega
  have l5 : addHi (x % 18446744073709551616) ((y + d) / 18446744073709551616) = (x % 18446744073709551616 + (y + d) / 18446744073709551616) / 18446744073709551616 := by unfold addHi; omega
  rw [l4, l5]
  have l6 : (y + d) % 18446744073709551616 = (x * 18446744073709551616 + y + d) % 18446744073709551616 := by omega
  rw [l6]
  split
  ·congr 3
   rw [Bool.eq_iff_iff]
   simp only [beq_iff_eq, decide_eq_true_eq]
   omega
  ·congr 3
   symm
   apply decide_eq_false
   omega
 ·cases h
theorem wide_size_times.calls (a0_0 a0_1 a1 a2 r1 r2 : Int) (r3 : Bool) (w : World) (h : wide_size_times.f a0_0 a0_1 a1 a2 = some (r1, r2, r3)) :
  Calls Tryd.prog 67 #[.agg #[.int .u64 a0_0, .int .u64 a0_1], .int .u64 a1, .int .u64 a2] w fun e w' => e = .returned (.tuple #[.agg #[.int .u64 r1, .int .u64 r2], .bool r3]) ∧ Below w.heap.size w w' := by
 have h := wide_size_times.eq h
 exact wide_size_timesP.calls a0_0 a0_1 a1 a2 r1 r2 r3 w h
def wide_size_signedP.j0 : Nat → Bool → Bool → Int → Int → Option (Int × Int × Int)
 | 0, _, _, _, _ => none
 | k + 1, x1, x23, x136000, x136001 => if x23 = true then (some (0, 0, 6)) else (if x1 = true then ((wide_negate.f (wrap64 (x136000)) x136001).bind fun bt138 => (some (bt138.1, bt138.2, 0))) else (some (wrap64 (x136000), x136001, 0)))
def wide_size_signedP.f (k : Nat) (a0_0 a0_1 : Int) (a1 : Bool) : Option (Int × Int × Int) := if a0_0 > 9223372036854775808 then (wide_size_signedP.j0 k a1 true a0_0 a0_1) else (if a0_0 = 9223372036854775808 then (if a1 = true then (wide_size_signedP.j0 k a1 (decide (a0_1 > 0)) a0_0 a0_1) else (wide_size_signedP.j0 k a1 true a0_0 a0_1)) else (wide_size_signedP.j0 k a1 false a0_0 a0_1))
set_option maxHeartbeats 8000000 in
set_option maxRecDepth 100000 in
theorem wide_size_signedP.calls (k : Nat) (a0_0 a0_1 : Int) (a1 : Bool) (r1 r2 r3 : Int) (w : World) (h : wide_size_signedP.f k a0_0 a0_1 a1 = some (r1, r2, r3)) :
  Calls Tryd.prog 68 #[.agg #[.int .u64 a0_0, .int .u64 a0_1], .bool a1] w fun e w' => e = .returned (.tuple #[.agg #[.int .i64 r1, .int .u64 r2], .int .i64 r3]) ∧ Below w.heap.size w w' := by
 have hu83 := Tryd.underlying83
 have hu63 := Tryd.underlying63
 have HB := Aside0.mk (Below.refl w.heap.size w)
 have H : (if a0_0 > 9223372036854775808 then (wide_size_signedP.j0 k a1 true a0_0 a0_1) else (if a0_0 = 9223372036854775808 then (if a1 = true then (wide_size_signedP.j0 k a1 (decide (a0_1 > 0)) a0_0 a0_1) else (wide_size_signedP.j0 k a1 true a0_0 a0_1)) else (wide_size_signedP.j0 k a1 false a0_0 a0_1))) = some (r1, r2, r3) := h
 clear h
 have HC3 := Aside0.mk H
 clear H
 go_enter Tryd.func68, Tryd.ntmps68
 go_upto_region 1 with (first | ((with_reducible refine gate_dst (N := 2) rfl ?_); refine be_ (N := 2) (cs := #[.int .u64 a0_0, .int .u64 a0_1]) (t := 83) ?_; intro gb135 hg w4 hbox hb; have n0_ := Aside0.mk (below_step (qb_ HB.out) hb); have n1_ := Aside0.mk (hbox); have n2_ := Aside0.mk (bz_ hg (qb_ HB.out) : w.heap.size ≤ gb135); have n3_ := n2_; clear HB; have HB := n0_; have BK135 := n1_; have GW135 := n2_; have GE135 := n3_; clear n0_ n1_ n2_ n3_; clear hb hbox hg) | ((with_reducible refine gate_dst (N := 4) rfl ?_); refine be_ (N := 4) (cs := #[.int .i64 0, .int .u64 0]) (t := 63) ?_; intro gb136 hg w5 hbox hb; have n0_ := Aside0.mk (blk_below (qk_ BK135.out) hb); have n1_ := Aside0.mk (below_step (qb1_ GE135.out HB.out) hb); have n2_ := Aside0.mk (hbox); have n3_ := Aside0.mk (bz_ hg (qb1_ GE135.out HB.out) : w.heap.size ≤ gb136); have n4_ := n3_; have n5_ := Aside0.mk (nl_ hg (qk_ BK135.out) : gb135 ≠ gb136); have n6_ := Aside0.mk (ng_ hg (qk_ BK135.out) : gb136 ≠ gb135); clear BK135; clear HB; have BK135 := n0_; have HB := n1_; have BK136 := n2_; have GW136 := n3_; have GE136 := n4_; have NB135_136 := n5_; have NB136_135 := n6_; clear n0_ n1_ n2_ n3_ n4_ n5_ n6_; clear hb hbox hg))
 (try simp only [Act.put, List.setIfInBounds_toArray, List.set_cons_zero, List.set_cons_succ])
 go_cut [23] (fun v23 wc => ∃ (kq : Nat) (x23_2 : Bool), v23 = .bool x23_2 ∧ Aside0 (wide_size_signedP.j0 kq a1 x23_2 a0_0 a0_1 = some (r1, r2, r3)) ∧ Aside0 (kq ≤ k) ∧ Aside0 (wc.heap[gb135]? = some (.cells #[.int .u64 a0_0, .int .u64 a0_1] 83 (0, 0))) ∧ Aside0 (wc.heap[gb136]? = some (.cells #[.int .i64 0, .int .u64 0] 63 (0, 0))) ∧ Aside0 (Below w.heap.size w wc))
 case first =>
  have H := HC3.out
  clear HC3
  by_cases c6 : a0_0 > 9223372036854775808
  ·rw [if_pos c6] at H
   have c6b0 : decide (9223372036854775808 < a0_0) = true := decide_eq_true c6
   clear c6
   (first | rw [c6b0] | (simp only [i64_w, i32_w]; rw [c6b0]) | skip)
   have H' := Aside0.mk H
   clear H
   have hnb7 := NB135_136.out
   have hnc7 := NB136_135.out
   obtain ⟨Z8_0, Z8_1, Y8_0, Y8_1⟩ := cz2_ BK135.out
   go_wp2
   go_meet
   case rel => exact ⟨_, (true), qs_, H', ⟨qo_⟩, ⟨qk_ BK135.out⟩, ⟨qk_ BK136.out⟩, ⟨qb2_ GE135.out GE136.out HB.out⟩⟩
  ·rw [if_neg c6] at H
   have c6b0 : decide (9223372036854775808 < a0_0) = false := decide_eq_false c6
   clear c6
   (first | rw [c6b0] | (simp only [i64_w, i32_w]; rw [c6b0]) | skip)
   by_cases c9 : a0_0 = 9223372036854775808
   ·rw [if_pos c9] at H
    have c9b0 : (a0_0 == 9223372036854775808) = true := beq_iff_eq.mpr c9
    have c9b1 : (a0_0 != 9223372036854775808) = false := bne_eq_false_iff_eq.mpr c9
    clear c9
    by_cases c10 : a1 = true
    ·subst c10
     have H1 : (wide_size_signedP.j0 k true (decide (a0_1 > 0)) a0_0 a0_1) = some (r1, r2, r3) := by rw [if_pos rfl] at H; exact H
     clear H
     have H := H1
     clear H1
     have H' := Aside0.mk H
     clear H
     have hnb11 := NB135_136.out
     have hnc11 := NB136_135.out
     obtain ⟨Z12_0, Z12_1, Y12_0, Y12_1⟩ := cz2_ BK135.out
     go_wp2
     go_meet
     case rel => exact ⟨_, (decide (a0_1 > 0)), qs_, H', ⟨qo_⟩, ⟨qk_ BK135.out⟩, ⟨qk_ BK136.out⟩, ⟨qb2_ GE135.out GE136.out HB.out⟩⟩
    ·replace c10 := Bool.eq_false_iff.mpr c10
     subst c10
     have H1 : (wide_size_signedP.j0 k false true a0_0 a0_1) = some (r1, r2, r3) := by rw [if_neg (show ¬ (false = true) by decide)] at H; exact H
     clear H
     have H := H1
     clear H1
     have H' := Aside0.mk H
     clear H
     have hnb13 := NB135_136.out
     have hnc13 := NB136_135.out
     obtain ⟨Z14_0, Z14_1, Y14_0, Y14_1⟩ := cz2_ BK135.out
     go_wp2
     go_meet
     case rel => exact ⟨_, (true), qs_, H', ⟨qo_⟩, ⟨qk_ BK135.out⟩, ⟨qk_ BK136.out⟩, ⟨qb2_ GE135.out GE136.out HB.out⟩⟩
   ·rw [if_neg c9] at H
    have c9b0 : (a0_0 == 9223372036854775808) = false := beq_eq_false_iff_ne.mpr c9
    have c9b1 : (a0_0 != 9223372036854775808) = true := bne_iff_ne.mpr c9
    have H' := Aside0.mk H
    clear H
    have hnb15 := NB135_136.out
    have hnc15 := NB136_135.out
    obtain ⟨Z16_0, Z16_1, Y16_0, Y16_1⟩ := cz2_ BK135.out
    go_wp2
    go_meet
    case rel => exact ⟨_, (false), qs_, H', ⟨qo_⟩, ⟨qk_ BK135.out⟩, ⟨qk_ BK136.out⟩, ⟨qb2_ GE135.out GE136.out HB.out⟩⟩
 case rest =>
  clear HC3
  try clear c1
  try clear p2
  try clear c6
  try clear c6b0
  try clear c7
  try clear c9
  try clear c9b0
  try clear c9b1
  try clear c10
  try clear c11
  try clear c13
  try clear c15
  (try clear Z12_0 Z12_1 Y12_0 Y12_1)
  (try clear Z14_0 Z14_1 Y14_0 Y14_1)
  (try clear Z16_0 Z16_1 Y16_0 Y16_1)
  (try clear Z8_0 Z8_1 Y8_0 Y8_1)
  obtain ⟨kq, x23_2, rfl, HA, HJ2, BK135, BK136, HB⟩ := hcut
  cases kq with
  | zero => exact absurd HA.out (by simp [wide_size_signedP.j0])
  | succ kj2 =>
   have H := HA.out
   clear HA
   simp only [wide_size_signedP.j0] at H
   by_cases c17 : x23_2 = true
   ·subst c17
    have H1 : (some (0, 0, 6)) = some (r1, r2, r3) := by rw [if_pos rfl] at H; exact H
    clear H
    have H := H1
    clear H1
    simp only [Option.some.injEq, Prod.mk.injEq] at H
    obtain ⟨rfl, rfl, rfl⟩ := H
    have hnb18 := NB136_135.out
    have hnc18 := NB135_136.out
    obtain ⟨Z19_0, Z19_1, Y19_0, Y19_1⟩ := cz2_ BK136.out
    go_wp2
    refine bodyPost_ret (results_ct rfl _ _ gb136 63 #[.int .i64 0, .int .u64 0] (0, 0) _ rfl (qpp_ #[.int .i64 0, .int .u64 0] 1 #[.int .i64 0, .int .u64 0] 0 BK136.out) Tryd.underlying63 rfl (by kernel_rfl)) rfl ?_
    exact ⟨qe_, qb2_ GE135.out GE136.out HB.out⟩
   ·replace c17 := Bool.eq_false_iff.mpr c17
    subst c17
    have H1 : (if a1 = true then ((wide_negate.f (wrap64 (a0_0)) a0_1).bind fun bt138 => (some (bt138.1, bt138.2, 0))) else (some (wrap64 (a0_0), a0_1, 0))) = some (r1, r2, r3) := by rw [if_neg (show ¬ (false = true) by decide)] at H; exact H
    clear H
    have H := H1
    clear H1
    by_cases c20 : a1 = true
    ·subst c20
     have H1 : ((wide_negate.f (wrap64 (a0_0)) a0_1).bind fun bt138 => (some (bt138.1, bt138.2, 0))) = some (r1, r2, r3) := by rw [if_pos rfl] at H; exact H
     clear H
     have H := H1
     clear H1
     replace H := Option.bind_eq_some_iff.mp H
     obtain ⟨⟨t138, t139⟩, A210, H⟩ := H
     replace H : (some (t138, t139, 0)) = some (r1, r2, r3) := H
     have A21 := Aside0.mk A210
     clear A210
     simp only [Option.some.injEq, Prod.mk.injEq] at H
     obtain ⟨rfl, rfl, rfl⟩ := H
     have hnb22 := NB135_136.out
     have hnc22 := NB136_135.out
     obtain ⟨Z23_0, Z23_1, Y23_0, Y23_1⟩ := cz2_ BK135.out
     go_wp2_with (first | ((with_reducible refine gate_dst (N := 6) rfl ?_); refine be_ (N := 6) (cs := #[.int .i64 0, .int .u64 0]) (t := 63) ?_; intro gb137 hg w24 hbox hb; have n0_ := Aside0.mk (blk_below (qk_ BK135.out) hb); have n1_ := Aside0.mk (blk_below (qk_ BK136.out) hb); have n2_ := Aside0.mk (below_step (qb2_ GE135.out GE136.out HB.out) hb); have n3_ := Aside0.mk (hbox); have n4_ := Aside0.mk (bz_ hg (qb2_ GE135.out GE136.out HB.out) : w.heap.size ≤ gb137); have n5_ := n4_; have n6_ := Aside0.mk (nl_ hg (qk_ BK135.out) : gb135 ≠ gb137); have n7_ := Aside0.mk (ng_ hg (qk_ BK135.out) : gb137 ≠ gb135); have n8_ := Aside0.mk (nl_ hg (qk_ BK136.out) : gb136 ≠ gb137); have n9_ := Aside0.mk (ng_ hg (qk_ BK136.out) : gb137 ≠ gb136); clear BK135; clear BK136; clear HB; have BK135 := n0_; have BK136 := n1_; have HB := n2_; have BK137 := n3_; have GW137 := n4_; have GE137 := n5_; have NB135_137 := n6_; have NB137_135 := n7_; have NB136_137 := n8_; have NB137_136 := n9_; clear n0_ n1_ n2_ n3_ n4_ n5_ n6_ n7_ n8_ n9_; clear hb hbox hg; have hnb25 := NB137_135.out; have hnc25 := NB135_137.out; have hnb26 := NB137_136.out; have hnc26 := NB136_137.out; obtain ⟨Z27_0, Z27_1, Y27_0, Y27_1⟩ := cz2_ BK137.out) | ((with_reducible refine gate_callee (f := 57) rfl ?_); refine goesL_ (some 33) rfl rfl Tryd.func57 (by kernel_rfl) rfl #[.agg #[.int .i64 (wrap64 (a0_0)), .int .u64 a0_1]] rfl ql_ ?_; (with_reducible refine (wide_negate.calls (wrap64 (a0_0)) a0_1 t138 t139 _ A21.out).mono ?_); rintro e w28 ⟨rfl, hb⟩; refine ⟨_, rfl, ?_⟩; have n0_ := Aside0.mk (blk_below (g := gb135) (o := .cells #[.int .u64 a0_0, .int .u64 a0_1] 83 (0, 0)) (qff_ NB135_137.out NB135_137.out BK135.out) hb); have n1_ := Aside0.mk (blk_below (g := gb136) (o := .cells #[.int .i64 0, .int .u64 0] 63 (0, 0)) (qff_ NB136_137.out NB136_137.out BK136.out) hb); have n2_ := Aside0.mk (blk_below (g := gb137) (o := .cells #[.int .i64 (wrap64 (a0_0)), .int .u64 a0_1] 63 (0, 0)) (qpp_ #[.int .i64 (wrap64 (a0_0)), .int .u64 0] 1 #[.int .i64 0, .int .u64 0] 0 BK137.out) hb); have n3_ := Aside0.mk (below_step (qb3_ GE135.out GE136.out GE137.out HB.out) hb); clear BK135; clear BK136; clear BK137; clear HB; have BK135 := n0_; have BK136 := n1_; have BK137 := n2_; have HB := n3_; clear n0_ n1_ n2_ n3_; (try clear hb); (try clear hb2); (try clear hk); (try clear hi); obtain ⟨Z29_0, Z29_1, Y29_0, Y29_1⟩ := cz2_ BK137.out; obtain ⟨Z30_0, Z30_1, Y30_0, Y30_1⟩ := cz2_ BK136.out))
     refine bodyPost_ret (results_ct rfl _ _ gb136 63 #[.int .i64 t138, .int .u64 t139] (0, 0) _ rfl (qppff_ #[.int .i64 t138, .int .u64 0] 1 #[.int .i64 0, .int .u64 0] 0 NB136_137.out NB136_137.out BK136.out) Tryd.underlying63 rfl (by kernel_rfl)) rfl ?_
     exact ⟨qe_, qb3_ GE135.out GE136.out GE137.out HB.out⟩
    ·replace c20 := Bool.eq_false_iff.mpr c20
     subst c20
     have H1 : (some (wrap64 (a0_0), a0_1, 0)) = some (r1, r2, r3) := by rw [if_neg (show ¬ (false = true) by decide)] at H; exact H
     clear H
     have H := H1
     clear H1
     simp only [Option.some.injEq, Prod.mk.injEq] at H
     obtain ⟨rfl, rfl, rfl⟩ := H
     have hnb31 := NB135_136.out
     have hnc31 := NB136_135.out
     obtain ⟨Z32_0, Z32_1, Y32_0, Y32_1⟩ := cz2_ BK135.out
     go_wp2_with (first | ((with_reducible refine gate_dst (N := 6) rfl ?_); refine be_ (N := 6) (cs := #[.int .i64 0, .int .u64 0]) (t := 63) ?_; intro gb137 hg w33 hbox hb; have n0_ := Aside0.mk (blk_below (qk_ BK135.out) hb); have n1_ := Aside0.mk (blk_below (qk_ BK136.out) hb); have n2_ := Aside0.mk (below_step (qb2_ GE135.out GE136.out HB.out) hb); have n3_ := Aside0.mk (hbox); have n4_ := Aside0.mk (bz_ hg (qb2_ GE135.out GE136.out HB.out) : w.heap.size ≤ gb137); have n5_ := n4_; have n6_ := Aside0.mk (nl_ hg (qk_ BK135.out) : gb135 ≠ gb137); have n7_ := Aside0.mk (ng_ hg (qk_ BK135.out) : gb137 ≠ gb135); have n8_ := Aside0.mk (nl_ hg (qk_ BK136.out) : gb136 ≠ gb137); have n9_ := Aside0.mk (ng_ hg (qk_ BK136.out) : gb137 ≠ gb136); clear BK135; clear BK136; clear HB; have BK135 := n0_; have BK136 := n1_; have HB := n2_; have BK137 := n3_; have GW137 := n4_; have GE137 := n5_; have NB135_137 := n6_; have NB137_135 := n7_; have NB136_137 := n8_; have NB137_136 := n9_; clear n0_ n1_ n2_ n3_ n4_ n5_ n6_ n7_ n8_ n9_; clear hb hbox hg; have hnb34 := NB137_135.out; have hnc34 := NB135_137.out; have hnb35 := NB137_136.out; have hnc35 := NB136_137.out; obtain ⟨Z36_0, Z36_1, Y36_0, Y36_1⟩ := cz2_ BK137.out; obtain ⟨Z37_0, Z37_1, Y37_0, Y37_1⟩ := cz2_ BK136.out))
     refine bodyPost_ret (results_ct rfl _ _ gb136 63 #[.int .i64 (wrap64 (a0_0)), .int .u64 a0_1] (0, 0) _ rfl (qppff_ #[.int .i64 (wrap64 (a0_0)), .int .u64 0] 1 #[.int .i64 0, .int .u64 0] 0 NB136_137.out NB136_137.out BK136.out) Tryd.underlying63 rfl (by kernel_rfl)) rfl ?_
     exact ⟨qe_, qb3_ GE135.out GE136.out GE137.out HB.out⟩
end Go.Proofs.YtjkjiibhdpcpkaaDoor.PS
end
section
namespace Go.Proofs.YtjkjiibhdpcpkaaDoor.PS
open Go.RowKit Go.Proofs.YtjkjiibhdpcpkaaDoorW.PrintWords Go.Proofs.YtjkjiibhdpcpkaaDoorW.PrintLast
set_option linter.unusedVariables false
set_option linter.unusedSimpArgs false
def wide_size_signed.f (a0_0 a0_1 : Int) (a1 : Bool) : Option (Int × Int × Int) :=
 if inU a0_0 ∧ inU a0_1 then
  some (if wv a0_0 a0_1 > 170141183460469231731687303715884105728 ∨ wv a0_0 a0_1 = 170141183460469231731687303715884105728 ∧ a1 = false then (0, 0, 6)
   else ((if a1 = true then -(wv a0_0 a0_1) else wv a0_0 a0_1) / 18446744073709551616, (if a1 = true then -(wv a0_0 a0_1) else wv a0_0 a0_1) % 18446744073709551616, 0)) else none
theorem wide_size_signed.eq {a b : Int} {c : Bool} {r : Int × Int × Int} (h : wide_size_signed.f a b c = some r) : ∃ k, wide_size_signedP.f k a b c = some r := by
 unfold wide_size_signed.f at h
 split at h
 ·rename_i q
  obtain ⟨⟨a0, a1⟩, b0, b1⟩ := q
  injection h with h
  subst h
  refine ⟨1, ?_⟩
  unfold wide_size_signedP.f
  simp only [wide_size_signedP.j0, wide_negate.f]
  have hv : wv a b = a * 18446744073709551616 + b := rfl
  have hw : isW (wrap64 a) b := ⟨by unfold inI wrap64; omega, b0, b1⟩
  have hwv : wv (wrap64 a) b = if a < 9223372036854775808 then wv a b else wv a b - 340282366920938463463374607431768211456 := by unfold wv wrap64; split <;> omega
  rw [if_pos hw]
  by_cases h1 : a > 9223372036854775808
  ·rw [if_pos h1, if_pos trivial, if_pos (.inl (by omega))]
  ·rw [if_neg h1]
   by_cases h2 : a = 9223372036854775808
   ·rw [if_pos h2]
    cases c with
    | true =>
     rw [if_pos rfl]
     by_cases h3 : b > 0
     ·rw [if_pos (by simpa using h3), if_pos (.inl (by omega))]
     ·have hb : b = 0 := by omega
      subst h2 hb
      decide +kernel
    | false =>
     rw [if_neg (by decide), if_pos trivial]
     by_cases h3 : b > 0
     ·rw [if_pos (.inl (by omega))]
     ·rw [if_pos (.inr ⟨by omega, rfl⟩)]
   ·rw [if_neg h2, if_neg (by decide)]
    have hlt : a < 9223372036854775808 := by omega
    rw [if_pos hlt] at hwv
    have hwa : wrap64 a = a := by unfold wrap64; omega
    rw [if_neg (show ¬ (wv a b > 170141183460469231731687303715884105728 ∨ wv a b = 170141183460469231731687303715884105728 ∧ c = false) by omega)]
    cases c with
    | true =>
     rw [if_pos rfl, hwv, if_neg (by omega)]
     simp
    | false =>
     rw [if_neg (by decide), hwa]
     simp only [Bool.false_eq_true, if_false]
     congr 2
     ·omega
     ·congr 1; omega
 ·cases h
theorem wide_size_signed.calls (a0_0 a0_1 : Int) (a1 : Bool) (r1 r2 r3 : Int) (w : World) (h : wide_size_signed.f a0_0 a0_1 a1 = some (r1, r2, r3)) :
  Calls Tryd.prog 68 #[.agg #[.int .u64 a0_0, .int .u64 a0_1], .bool a1] w fun e w' => e = .returned (.tuple #[.agg #[.int .i64 r1, .int .u64 r2], .int .i64 r3]) ∧ Below w.heap.size w w' := by
 obtain ⟨k, h⟩ := wide_size_signed.eq h
 exact wide_size_signedP.calls k a0_0 a0_1 a1 r1 r2 r3 w h
theorem eqA83 (d : Nat) (w : World) (x0 y0 : Int) (x1 y1 : Int) :
    (Op.equalIn (d + 2) 83 (.agg #[.int .u64 x0, .int .u64 x1]) (.agg #[.int .u64 y0, .int .u64 y1])).run Tryd.prog w = .ok (x0 == y0 && (x1 == y1)) w := by
  refine eqA_of Tryd.underlying83 (by kernel_rfl) ?_
  refine eqf_cons (by rfl) (by go_simp; rfl) (by go_simp; rfl) (by go_simp) ?_
  exact eqf_last (by rfl) (by go_simp; rfl) (by go_simp; rfl) (by go_simp)
end Go.Proofs.YtjkjiibhdpcpkaaDoor.PS
end
section
namespace Go.Proofs.YtjkjiibhdpcpkaaDoor.PS
open Go.RowKit Go.Proofs.YtjkjiibhdpcpkaaDoorW.PrintWords Go.Proofs.YtjkjiibhdpcpkaaDoorW.PrintLast
set_option linter.unusedVariables false
set_option linter.unusedSimpArgs false
attribute [local go_sem high] eqA83
mutual
def wide_DivP.j0 : Nat → Int → Int → Bool → Int → Int → Int → Int → Option (Int × Int × Int × Int)
 | 0, _, _, _, _, _, _, _ => none
 | k + 1, x1, x8, x28, x141000, x141001, x148000, x148001 => if x28 = true then ((wide_size_times.f x148000 x148001 1 1).bind fun bt148 => (wide_DivP.j1 k (IntKind.u64.wrap ((IntKind.u64.wrap (x1)) - x8)) x141000 x141001 bt148.1 bt148.2.1)) else (wide_DivP.j1 k x8 x141000 x141001 x148000 x148001)
def wide_DivP.j1 : Nat → Int → Int → Int → Int → Int → Option (Int × Int × Int × Int)
 | 0, _, _, _, _, _ => none
 | k + 1, x8, x141000, x141001, x148000, x148001 => if x141000 < 0 then ((wide_size_signed.f x148000 x148001 (!(x148000 == 0) || (!(x148001 == 0)))).bind fun bt151 => (some (bt151.1, bt151.2.1, wrap64 (x8), 0))) else ((wide_size_signed.f x148000 x148001 false).bind fun bt155 => (some (bt155.1, bt155.2.1, wrap64 (x8), 0)))
end
def wide_DivP.f (k : Nat) (a0_0 a0_1 a1 : Int) : Option (Int × Int × Int × Int) := if a1 < 1 then (some (0, 0, 0, 1)) else ((wide_absolute.f a0_0 a0_1).bind fun bt142 => ((wide_size_divide.f bt142.1 bt142.2 (IntKind.u64.wrap (a1))).bind fun bt144 => (if a0_0 < 0 then (wide_DivP.j0 k a1 bt144.2.2 (decide (bt144.2.2 > 0)) a0_0 a0_1 bt144.1 bt144.2.1) else (wide_DivP.j0 k a1 bt144.2.2 false a0_0 a0_1 bt144.1 bt144.2.1))))
def wide_DivP.T7 : Bool × List (List Nat × List Nat) := (true, [([], []), ([], []), ([1], [1]), ([2], [2]), ([3], [3]), ([4], [4]), ([4], [4]), ([5, 6, 4], [4, 5, 6]), ([4, 7], [4, 7]), ([0, 8, 4], [0, 8]), ([9], [9]), ([10], [10]), ([10], [10]), ([], []), ([13, 11, 9, 0, 1, 2, 3, 4, 5, 6, 7, 8, 9, 10, 11, 13], [11, 13]), ([12, 14, 0, 1, 2, 3, 4, 5, 6, 7, 8, 9, 10, 11, 12, 13, 14], [12])])
def wide_DivP.B7 : List Nat := [0, 0, 2, 6, 14, 30, 30, 126, 254, 511, 1023, 2047, 2047, 0, 12287, 32767]
theorem wide_DivP.tab7 : rtab .any (opsOf Tryd.f50 7) = wide_DivP.T7 := by kernel_rfl
theorem wide_DivP.bits7 : waitsOk wide_DivP.T7.2 wide_DivP.B7 = true := by kernel_rfl
set_option maxHeartbeats 8000000 in
set_option maxRecDepth 100000 in
theorem wide_DivP.calls (k : Nat) (a0_0 a0_1 a1 r1 r2 r3 r4 : Int) (w : World) (h : wide_DivP.f k a0_0 a0_1 a1 = some (r1, r2, r3, r4)) :
  Calls Tryd.prog 50 #[.agg #[.int .i64 a0_0, .int .u64 a0_1], .int .i64 a1] w fun e w' => e = .returned (.tuple #[.agg #[.int .i64 r1, .int .u64 r2], .int .i64 r3, .int .i64 r4]) ∧ Below w.heap.size w w' := by
 have hu63 := Tryd.underlying63
 have hu83 := Tryd.underlying83
 have HB := Aside0.mk (Below.refl w.heap.size w)
 have H : (if a1 < 1 then (some (0, 0, 0, 1)) else ((wide_absolute.f a0_0 a0_1).bind fun bt142 => ((wide_size_divide.f bt142.1 bt142.2 (IntKind.u64.wrap (a1))).bind fun bt144 => (if a0_0 < 0 then (wide_DivP.j0 k a1 bt144.2.2 (decide (bt144.2.2 > 0)) a0_0 a0_1 bt144.1 bt144.2.1) else (wide_DivP.j0 k a1 bt144.2.2 false a0_0 a0_1 bt144.1 bt144.2.1))))) = some (r1, r2, r3, r4) := h
 clear h
 by_cases c3 : a1 < 1
 ·rw [if_pos c3] at H
  have c3b0 : decide (a1 < 1) = true := decide_eq_true c3
  clear c3
  simp only [Option.some.injEq, Prod.mk.injEq] at H
  obtain ⟨rfl, rfl, rfl, rfl⟩ := H
  go_enter Tryd.func50, Tryd.ntmps50
  go_wp2_with (first | ((with_reducible refine gate_dst (N := 2) rfl ?_); refine be_ (N := 2) (cs := #[.int .i64 a0_0, .int .u64 a0_1]) (t := 63) ?_; intro gb140 hg w4 hbox hb; have n0_ := Aside0.mk (below_step (qb_ HB.out) hb); have n1_ := Aside0.mk (hbox); have n2_ := Aside0.mk (bz_ hg (qb_ HB.out) : w.heap.size ≤ gb140); have n3_ := n2_; clear HB; have HB := n0_; have BK140 := n1_; have GW140 := n2_; have GE140 := n3_; clear n0_ n1_ n2_ n3_; clear hb hbox hg) | ((with_reducible refine gate_dst (N := 4) rfl ?_); refine be_ (N := 4) (cs := #[.int .i64 0, .int .u64 0]) (t := 63) ?_; intro gb141 hg w5 hbox hb; have n0_ := Aside0.mk (blk_below (qk_ BK140.out) hb); have n1_ := Aside0.mk (below_step (qb1_ GE140.out HB.out) hb); have n2_ := Aside0.mk (hbox); have n3_ := Aside0.mk (bz_ hg (qb1_ GE140.out HB.out) : w.heap.size ≤ gb141); have n4_ := n3_; have n5_ := Aside0.mk (nl_ hg (qk_ BK140.out) : gb140 ≠ gb141); have n6_ := Aside0.mk (ng_ hg (qk_ BK140.out) : gb141 ≠ gb140); clear BK140; clear HB; have BK140 := n0_; have HB := n1_; have BK141 := n2_; have GW141 := n3_; have GE141 := n4_; have NB140_141 := n5_; have NB141_140 := n6_; clear n0_ n1_ n2_ n3_ n4_ n5_ n6_; clear hb hbox hg; have hnb6 := NB141_140.out; have hnc6 := NB140_141.out; obtain ⟨Z7_0, Z7_1, Y7_0, Y7_1⟩ := cz2_ BK141.out))
  refine bodyPost_ret (results_ctt rfl _ _ gb141 63 #[.int .i64 0, .int .u64 0] (0, 0) _ rfl (qpp_ #[.int .i64 0, .int .u64 0] 1 #[.int .i64 0, .int .u64 0] 0 BK141.out) Tryd.underlying63 rfl (by kernel_rfl)) rfl ?_
  exact ⟨qe_, qb2_ GE140.out GE141.out HB.out⟩
 ·rw [if_neg c3] at H
  have c3b0 : decide (a1 < 1) = false := decide_eq_false c3
  clear c3
  replace H := Option.bind_eq_some_iff.mp H
  obtain ⟨⟨t142, t143⟩, A80, H⟩ := H
  replace H : ((wide_size_divide.f t142 t143 (IntKind.u64.wrap (a1))).bind fun bt144 => (if a0_0 < 0 then (wide_DivP.j0 k a1 bt144.2.2 (decide (bt144.2.2 > 0)) a0_0 a0_1 bt144.1 bt144.2.1) else (wide_DivP.j0 k a1 bt144.2.2 false a0_0 a0_1 bt144.1 bt144.2.1))) = some (r1, r2, r3, r4) := H
  have A8 := Aside0.mk A80
  clear A80
  replace H := Option.bind_eq_some_iff.mp H
  obtain ⟨⟨t144, t145, t146⟩, A90, H⟩ := H
  replace H : (if a0_0 < 0 then (wide_DivP.j0 k a1 t146 (decide (t146 > 0)) a0_0 a0_1 t144 t145) else (wide_DivP.j0 k a1 t146 false a0_0 a0_1 t144 t145)) = some (r1, r2, r3, r4) := H
  have A9 := Aside0.mk A90
  clear A90
  have HC10 := Aside0.mk H
  clear H
  go_enter Tryd.func50, Tryd.ntmps50
  go_upto_region 4 with (first | ((with_reducible refine gate_dst (N := 2) rfl ?_); refine be_ (N := 2) (cs := #[.int .i64 a0_0, .int .u64 a0_1]) (t := 63) ?_; intro gb140 hg w11 hbox hb; have n0_ := Aside0.mk (below_step (qb_ HB.out) hb); have n1_ := Aside0.mk (hbox); have n2_ := Aside0.mk (bz_ hg (qb_ HB.out) : w.heap.size ≤ gb140); have n3_ := n2_; clear HB; have HB := n0_; have BK140 := n1_; have GW140 := n2_; have GE140 := n3_; clear n0_ n1_ n2_ n3_; clear hb hbox hg) | ((with_reducible refine gate_dst (N := 4) rfl ?_); refine be_ (N := 4) (cs := #[.int .i64 0, .int .u64 0]) (t := 63) ?_; intro gb141 hg w12 hbox hb; have n0_ := Aside0.mk (blk_below (qk_ BK140.out) hb); have n1_ := Aside0.mk (below_step (qb1_ GE140.out HB.out) hb); have n2_ := Aside0.mk (hbox); have n3_ := Aside0.mk (bz_ hg (qb1_ GE140.out HB.out) : w.heap.size ≤ gb141); have n4_ := n3_; have n5_ := Aside0.mk (nl_ hg (qk_ BK140.out) : gb140 ≠ gb141); have n6_ := Aside0.mk (ng_ hg (qk_ BK140.out) : gb141 ≠ gb140); clear BK140; clear HB; have BK140 := n0_; have HB := n1_; have BK141 := n2_; have GW141 := n3_; have GE141 := n4_; have NB140_141 := n5_; have NB141_140 := n6_; clear n0_ n1_ n2_ n3_ n4_ n5_ n6_; clear hb hbox hg; have hnb13 := NB140_141.out; have hnc13 := NB141_140.out; obtain ⟨Z14_0, Z14_1, Y14_0, Y14_1⟩ := cz2_ BK140.out) | ((with_reducible refine gate_callee (f := 65) rfl ?_); refine goesL_ (some 16) rfl rfl Tryd.func65 (by kernel_rfl) rfl #[.agg #[.int .i64 a0_0, .int .u64 a0_1]] rfl ql_ ?_; (with_reducible refine (wide_absolute.calls a0_0 a0_1 t142 t143 _ A8.out).mono ?_); rintro e w15 ⟨rfl, hb⟩; refine ⟨_, rfl, ?_⟩; have n0_ := Aside0.mk (blk_below (qk_ BK140.out) hb); have n1_ := Aside0.mk (blk_below (qk_ BK141.out) hb); have n2_ := Aside0.mk (below_step (qb2_ GE140.out GE141.out HB.out) hb); clear BK140; clear BK141; clear HB; have BK140 := n0_; have BK141 := n1_; have HB := n2_; clear n0_ n1_ n2_; (try clear hb); (try clear hb2); (try clear hk); (try clear hi)) | ((with_reducible refine gate_callee (f := 66) rfl ?_); refine goesL_ (some 19) rfl rfl Tryd.func66 (by kernel_rfl) rfl #[.agg #[.int .u64 t142, .int .u64 t143], .int .u64 (IntKind.u64.wrap (a1))] rfl ql_ ?_; (with_reducible refine (wide_size_divide.calls t142 t143 (IntKind.u64.wrap (a1)) t144 t145 t146 _ A9.out).mono ?_); rintro e w16 ⟨rfl, hb⟩; refine ⟨_, rfl, ?_⟩; have n0_ := Aside0.mk (blk_below (qk_ BK140.out) hb); have n1_ := Aside0.mk (blk_below (qk_ BK141.out) hb); have n2_ := Aside0.mk (below_step (qb2_ GE140.out GE141.out HB.out) hb); clear BK140; clear BK141; clear HB; have BK140 := n0_; have BK141 := n1_; have HB := n2_; clear n0_ n1_ n2_; (try clear hb); (try clear hb2); (try clear hk); (try clear hi)) | ((with_reducible refine gate_dst (N := 7) rfl ?_); refine be_ (N := 7) (cs := #[.int .u64 0, .int .u64 0]) (t := 83) ?_; intro gb147 hg w17 hbox hb; have n0_ := Aside0.mk (blk_below (qk_ BK140.out) hb); have n1_ := Aside0.mk (blk_below (qk_ BK141.out) hb); have n2_ := Aside0.mk (below_step (qb2_ GE140.out GE141.out HB.out) hb); have n3_ := Aside0.mk (hbox); have n4_ := Aside0.mk (bz_ hg (qb2_ GE140.out GE141.out HB.out) : w.heap.size ≤ gb147); have n5_ := n4_; have n6_ := Aside0.mk (nl_ hg (qk_ BK140.out) : gb140 ≠ gb147); have n7_ := Aside0.mk (ng_ hg (qk_ BK140.out) : gb147 ≠ gb140); have n8_ := Aside0.mk (nl_ hg (qk_ BK141.out) : gb141 ≠ gb147); have n9_ := Aside0.mk (ng_ hg (qk_ BK141.out) : gb147 ≠ gb141); clear BK140; clear BK141; clear HB; have BK140 := n0_; have BK141 := n1_; have HB := n2_; have BK147 := n3_; have GW147 := n4_; have GE147 := n5_; have NB140_147 := n6_; have NB147_140 := n7_; have NB141_147 := n8_; have NB147_141 := n9_; clear n0_ n1_ n2_ n3_ n4_ n5_ n6_ n7_ n8_ n9_; clear hb hbox hg; have hnb18 := NB147_140.out; have hnc18 := NB140_147.out; have hnb19 := NB147_141.out; have hnc19 := NB141_147.out; obtain ⟨Z20_0, Z20_1, Y20_0, Y20_1⟩ := cz2_ BK147.out))
  (try simp only [Act.put, List.setIfInBounds_toArray, List.set_cons_zero, List.set_cons_succ])
  go_cut [28] (fun v28 wc => ∃ (kq : Nat) (x28_9 : Bool), v28 = .bool x28_9 ∧ Aside0 (wide_DivP.j0 kq a1 t146 x28_9 a0_0 a0_1 t144 t145 = some (r1, r2, r3, r4)) ∧ Aside0 (kq ≤ k) ∧ Aside0 (wc.heap[gb140]? = some (.cells #[.int .i64 a0_0, .int .u64 a0_1] 63 (0, 0))) ∧ Aside0 (wc.heap[gb141]? = some (.cells #[.int .i64 0, .int .u64 0] 63 (0, 0))) ∧ Aside0 (wc.heap[gb147]? = some (.cells #[.int .u64 t144, .int .u64 t145] 83 (0, 0))) ∧ Aside0 (Below w.heap.size w wc))
  case first =>
   have H := HC10.out
   clear HC10
   by_cases c21 : a0_0 < 0
   ·rw [if_pos c21] at H
    have c21b0 : decide (a0_0 < 0) = true := decide_eq_true c21
    clear c21
    (first | rw [c21b0] | (simp only [i64_w, i32_w]; rw [c21b0]) | skip)
    have H' := Aside0.mk H
    clear H
    have hnb22 := NB140_141.out
    have hnc22 := NB141_140.out
    have hnb23 := NB140_147.out
    have hnc23 := NB147_140.out
    obtain ⟨Z24_0, Z24_1, Y24_0, Y24_1⟩ := cz2_ BK140.out
    go_wp2
    go_meet
    case rel => exact ⟨_, (decide (t146 > 0)), qs_, H', ⟨qo_⟩, ⟨qff_ NB140_147.out NB140_147.out BK140.out⟩, ⟨qff_ NB141_147.out NB141_147.out BK141.out⟩, ⟨qpp_ #[.int .u64 t144, .int .u64 0] 1 #[.int .u64 0, .int .u64 0] 0 BK147.out⟩, ⟨qb3_ GE140.out GE141.out GE147.out HB.out⟩⟩
   ·rw [if_neg c21] at H
    have c21b0 : decide (a0_0 < 0) = false := decide_eq_false c21
    clear c21
    (first | rw [c21b0] | (simp only [i64_w, i32_w]; rw [c21b0]) | skip)
    have H' := Aside0.mk H
    clear H
    have hnb25 := NB140_141.out
    have hnc25 := NB141_140.out
    have hnb26 := NB140_147.out
    have hnc26 := NB147_140.out
    obtain ⟨Z27_0, Z27_1, Y27_0, Y27_1⟩ := cz2_ BK140.out
    go_wp2
    go_meet
    case rel => exact ⟨_, (false), qs_, H', ⟨qo_⟩, ⟨qff_ NB140_147.out NB140_147.out BK140.out⟩, ⟨qff_ NB141_147.out NB141_147.out BK141.out⟩, ⟨qpp_ #[.int .u64 t144, .int .u64 0] 1 #[.int .u64 0, .int .u64 0] 0 BK147.out⟩, ⟨qb3_ GE140.out GE141.out GE147.out HB.out⟩⟩
  case rest =>
   clear HC10
   try clear c1
   try clear c2
   try clear p2
   try clear c3
   try clear c3b0
   try clear c5
   try clear c6
   try clear c13
   try clear c18
   try clear c19
   try clear c21
   try clear c21b0
   try clear c22
   try clear c23
   try clear c25
   try clear c26
   (try clear Z14_0 Z14_1 Y14_0 Y14_1)
   (try clear Z20_0 Z20_1 Y20_0 Y20_1)
   (try clear Z24_0 Z24_1 Y24_0 Y24_1)
   (try clear Z27_0 Z27_1 Y27_0 Y27_1)
   (try clear Z7_0 Z7_1 Y7_0 Y7_1)
   obtain ⟨kq, x28_9, rfl, HA, HJ9, BK140, BK141, BK147, HB⟩ := hcut
   cases kq with
   | zero => exact absurd HA.out (by simp [wide_DivP.j0])
   | succ kj9 =>
    have H := HA.out
    clear HA
    simp only [wide_DivP.j0] at H
    have HC28 := Aside0.mk H
    clear H
    go_upto_if 28 with (fail)
    go_cut [8] (fun v8 wc => ∃ (kq : Nat) (x8_27 x148000_27 x148001_27 : Int), v8 = .int .u64 x8_27 ∧ Aside0 (wide_DivP.j1 kq x8_27 a0_0 a0_1 x148000_27 x148001_27 = some (r1, r2, r3, r4)) ∧ Aside0 (kq ≤ kj9) ∧ Aside0 (wc.heap[gb140]? = some (.cells #[.int .i64 a0_0, .int .u64 a0_1] 63 (0, 0))) ∧ Aside0 (wc.heap[gb141]? = some (.cells #[.int .i64 0, .int .u64 0] 63 (0, 0))) ∧ Aside0 (wc.heap[gb147]? = some (.cells #[.int .u64 x148000_27, .int .u64 x148001_27] 83 (0, 0))) ∧ Aside0 (Below w.heap.size w wc))
    case first =>
     have H := HC28.out
     clear HC28
     by_cases c29 : x28_9 = true
     ·subst c29
      have H1 : ((wide_size_times.f t144 t145 1 1).bind fun bt148 => (wide_DivP.j1 kj9 (IntKind.u64.wrap ((IntKind.u64.wrap (a1)) - t146)) a0_0 a0_1 bt148.1 bt148.2.1)) = some (r1, r2, r3, r4) := by rw [if_pos rfl] at H; exact H
      clear H
      have H := H1
      clear H1
      replace H := Option.bind_eq_some_iff.mp H
      obtain ⟨⟨t148, t149, t150⟩, A300, H⟩ := H
      replace H : (wide_DivP.j1 kj9 (IntKind.u64.wrap ((IntKind.u64.wrap (a1)) - t146)) a0_0 a0_1 t148 t149) = some (r1, r2, r3, r4) := H
      have A30 := Aside0.mk A300
      clear A300
      have H' := Aside0.mk H
      clear H
      have hnb31 := NB147_140.out
      have hnc31 := NB140_147.out
      have hnb32 := NB147_141.out
      have hnc32 := NB141_147.out
      obtain ⟨Z33_0, Z33_1, Y33_0, Y33_1⟩ := cz2_ BK147.out
      go_wp2_with (first | ((with_reducible refine gate_callee (f := 67) rfl ?_); refine goesL_ (some 31) rfl rfl Tryd.func67 (by kernel_rfl) rfl #[.agg #[.int .u64 t144, .int .u64 t145], .int .u64 1, .int .u64 1] rfl ql_ ?_; (with_reducible refine (wide_size_times.calls t144 t145 1 1 t148 t149 t150 _ A30.out).mono ?_); rintro e w34 ⟨rfl, hb⟩; refine ⟨_, rfl, ?_⟩; have n0_ := Aside0.mk (blk_below (qk_ BK140.out) hb); have n1_ := Aside0.mk (blk_below (qk_ BK141.out) hb); have n2_ := Aside0.mk (blk_below (qk_ BK147.out) hb); have n3_ := Aside0.mk (below_step (qb3_ GE140.out GE141.out GE147.out HB.out) hb); clear BK140; clear BK141; clear BK147; clear HB; have BK140 := n0_; have BK141 := n1_; have BK147 := n2_; have HB := n3_; clear n0_ n1_ n2_ n3_; (try clear hb); (try clear hb2); (try clear hk); (try clear hi); obtain ⟨Z35_0, Z35_1, Y35_0, Y35_1⟩ := cz2_ BK147.out))
      go_meet
      case rel => exact ⟨_, (IntKind.u64.wrap ((IntKind.u64.wrap (a1)) - t146)), (t148), (t149), qs_, H', ⟨by have := HJ9.out; first | omega | exact Nat.le_refl _⟩, ⟨qff_ NB140_147.out NB140_147.out BK140.out⟩, ⟨qff_ NB141_147.out NB141_147.out BK141.out⟩, ⟨qpp_ #[.int .u64 t148, .int .u64 t145] 1 #[.int .u64 t144, .int .u64 t145] 0 BK147.out⟩, ⟨qb3_ GE140.out GE141.out GE147.out HB.out⟩⟩
     ·replace c29 := Bool.eq_false_iff.mpr c29
      subst c29
      have H1 : (wide_DivP.j1 kj9 t146 a0_0 a0_1 t144 t145) = some (r1, r2, r3, r4) := by rw [if_neg (show ¬ (false = true) by decide)] at H; exact H
      clear H
      have H := H1
      clear H1
      have H' := Aside0.mk H
      clear H
      go_wp2
      go_meet
      case rel => exact ⟨_, (t146), (t144), (t145), qs_, H', ⟨by have := HJ9.out; first | omega | exact Nat.le_refl _⟩, ⟨qk_ BK140.out⟩, ⟨qk_ BK141.out⟩, ⟨qk_ BK147.out⟩, ⟨qb3_ GE140.out GE141.out GE147.out HB.out⟩⟩
    case rest =>
     clear HC28
     try clear c1
     try clear c2
     try clear p2
     try clear c3
     try clear c3b0
     try clear c5
     try clear c6
     try clear c13
     try clear c18
     try clear c19
     try clear c21
     try clear c21b0
     try clear c22
     try clear c23
     try clear c25
     try clear c26
     try clear c29
     try clear c31
     try clear c32
     (try clear Z14_0 Z14_1 Y14_0 Y14_1)
     (try clear Z20_0 Z20_1 Y20_0 Y20_1)
     (try clear Z24_0 Z24_1 Y24_0 Y24_1)
     (try clear Z27_0 Z27_1 Y27_0 Y27_1)
     (try clear Z33_0 Z33_1 Y33_0 Y33_1)
     (try clear Z35_0 Z35_1 Y35_0 Y35_1)
     (try clear Z7_0 Z7_1 Y7_0 Y7_1)
     try clear p2
     obtain ⟨kq, x8_27, x148000_27, x148001_27, rfl, HA, HJ27, BK140, BK141, BK147, HB⟩ := hcut
     cases kq with
     | zero => exact absurd HA.out (by simp [wide_DivP.j1])
     | succ kj27 =>
      have H := HA.out
      clear HA
      simp only [wide_DivP.j1] at H
      by_cases c36 : a0_0 < 0
      ·rw [if_pos c36] at H
       have c36b0 : decide (a0_0 < 0) = true := decide_eq_true c36
       clear c36
       replace H := Option.bind_eq_some_iff.mp H
       obtain ⟨⟨t151, t152, t153⟩, A370, H⟩ := H
       replace H : (some (t151, t152, wrap64 (x8_27), 0)) = some (r1, r2, r3, r4) := H
       have A37 := Aside0.mk A370
       clear A370
       simp only [Option.some.injEq, Prod.mk.injEq] at H
       obtain ⟨rfl, rfl, rfl, rfl⟩ := H
       try go_wp2
       have n0_ := Aside0.mk (blk_drew BK140.out)
       have n1_ := Aside0.mk (blk_drew BK141.out)
       have n2_ := Aside0.mk (blk_drew BK147.out)
       have n3_ := Aside0.mk (below_drew1 HB.out)
       clear BK140
       clear BK141
       clear BK147
       clear HB
       have BK140 := n0_
       have BK141 := n1_
       have BK147 := n2_
       have HB := n3_
       clear n0_ n1_ n2_ n3_
       refine start_ (n := 16) (S := fun w' => w'.cell? ⟨gb147, 0, none⟩ = some (.int .u64 x148000_27) ∧ w'.cell? ⟨gb147, 1, none⟩ = some (.int .u64 x148001_27) ∧ w'.cell? ⟨gb140, 0, none⟩ = some (.int .i64 a0_0) ∧ w'.cell? ⟨gb140, 1, none⟩ = some (.int .u64 a0_1)) (ds := []) (nb_ 16 0) (by kernel_rfl) rfl rfl ⟨(blk_cell BK147.out 0).trans rfl, (blk_cell BK147.out 1).trans rfl, (blk_cell BK140.out 0).trans rfl, (blk_cell BK140.out 1).trans rfl⟩ (fun hHeld => ?_); refine with_tabW wide_DivP.tab7 wide_DivP.bits7 (fun HT_ HW_ => ?_)
       generalize wc.drew = w38 at BK140 BK141 BK147 HB hHeld ⊢
       refine pz_ 1 40 (nb_ 16 2) HT_.out ?_
       refine tk4_ 0 39 (nb_ 16 3) HT_.out HW_.out hHeld ?_
       refine tk4_ 2 41 (nb_ 16 7) HT_.out HW_.out hHeld ?_
       refine pz_ 3 42 (nb_ 16 15) HT_.out ?_
       refine pz_ 4 43 (nb_ 16 31) HT_.out ?_
       refine pz_ 6 45 (nb_ 16 95) HT_.out ?_
       refine tk4_ 5 44 (nb_ 16 127) HT_.out HW_.out hHeld ?_
       refine pz_ 7 46 (nb_ 16 255) HT_.out ?_
       refine pz_ 8 47 (nb_ 16 511) HT_.out ?_
       refine join_ (σ := Nat) 2 (nb_ 16 16383) (fun s_ => [(48, .tuple #[.agg #[.int .i64 t151, .int .u64 t152], .int .i64 t153]), (9, .pointer (some ⟨s_, 0, none⟩)), (38, .tuple #[.agg #[.int .i64 t151, .int .u64 t152], .int .i64 t153]), (49, .agg #[.int .i64 t151, .int .u64 t152]), (50, .int .i64 t153)]) (fun s_ w' => (w'.cell? ⟨gb147, 0, none⟩ = some (.int .u64 x148000_27) ∧ w'.cell? ⟨gb147, 1, none⟩ = some (.int .u64 x148001_27) ∧ w'.cell? ⟨gb140, 0, none⟩ = some (.int .i64 a0_0) ∧ w'.cell? ⟨gb140, 1, none⟩ = some (.int .u64 a0_1)) ∧ (w'.heap[gb140]? = some (.cells #[.int .i64 a0_0, .int .u64 a0_1] 63 (0, 0))) ∧ (w'.heap[gb141]? = some (.cells #[.int .i64 0, .int .u64 0] 63 (0, 0))) ∧ (w'.heap[gb147]? = some (.cells #[.int .u64 x148000_27, .int .u64 x148001_27] 83 (0, 0))) ∧ (w'.heap[s_]? = some (.cells #[.int .i64 0, .int .u64 0] 63 (0, 0))) ∧ (w.heap.size ≤ s_) ∧ (w.heap.size ≤ s_) ∧ (gb140 ≠ s_) ∧ (s_ ≠ gb140) ∧ (gb141 ≠ s_) ∧ (s_ ≠ gb141) ∧ (gb147 ≠ s_) ∧ (s_ ≠ gb147) ∧ (Below w.heap.size w w')) ?_ ?_
       rotate_left
       ·intro hCont
        refine two_ (i := 9) (j := 13) (Ni := some 48) (Nj := some 9) (nb_ 16 1023) (nb_ 16 8703) rfl rfl rfl rfl (two_of HT_.out (by kernel_rfl)) (by decide) (by decide) (fun K hK => ?_) (fun K hK => ?_)
        ·skip
         refine goes_ Tryd.func68 (by kernel_rfl) rfl #[.agg #[.int .u64 x148000_27, .int .u64 x148001_27], .bool (!(x148000_27 == 0) || (!(x148001_27 == 0)))] (by rfl) rfl rfl ql_ ?_
         with_reducible refine (wide_size_signed.calls x148000_27 x148001_27 (!(x148000_27 == 0) || (!(x148001_27 == 0))) t151 t152 t153 _ A37.out).mono ?_
         rintro e w39 ⟨rfl, hb⟩
         refine ⟨_, rfl, ?_⟩
         have n0_ := Aside0.mk (blk_below (qk_ BK140.out) hb)
         have n1_ := Aside0.mk (blk_below (qk_ BK141.out) hb)
         have n2_ := Aside0.mk (blk_below (qk_ BK147.out) hb)
         have n3_ := Aside0.mk (below_step (qb3_ GE140.out GE141.out GE147.out HB.out) hb)
         clear BK140
         clear BK141
         clear BK147
         clear HB
         have BK140 := n0_
         have BK141 := n1_
         have BK147 := n2_
         have HB := n3_
         clear n0_ n1_ n2_ n3_
         (try clear hb)
         (try clear hb2)
         (try clear hk)
         (try clear hi)
         refine hK.out _ _ ⟨(blk_cell BK147.out 0).trans rfl, (blk_cell BK147.out 1).trans rfl, (blk_cell BK140.out 0).trans rfl, (blk_cell BK140.out 1).trans rfl⟩ (fun hHeld => ?_)
         clear hK K
         refine no_ ?_
         refine pz_ 10 38 (nb_ 16 2047) HT_.out ?_
         refine pz_ 11 49 (nb_ 16 4095) HT_.out ?_
         refine pz_ 12 50 (nb_ 16 8191) HT_.out ?_
         refine on_ 13 9 (nb_ 16 16383) HT_.out (fun K hK => ?_)
         refine box_step ?hg (N := 9) ?hd (cs := #[.int .i64 0, .int .u64 0]) (t := 63) ?hr ?_; (case hd => rfl); (case hg => rfl); (case hr => first | (go_simp; done) | (go_simp; rfl))
         intro gb154 hg w40 hbox hb
         have n0_ := Aside0.mk (blk_below (qk_ BK140.out) hb)
         have n1_ := Aside0.mk (blk_below (qk_ BK141.out) hb)
         have n2_ := Aside0.mk (blk_below (qk_ BK147.out) hb)
         have n3_ := Aside0.mk (below_step (qb3_ GE140.out GE141.out GE147.out HB.out) hb)
         have n4_ := Aside0.mk (hbox)
         have n5_ := Aside0.mk (bz_ hg (qb3_ GE140.out GE141.out GE147.out HB.out) : w.heap.size ≤ gb154)
         have n6_ := Aside0.mk (bz_ hg (qb3_ GE140.out GE141.out GE147.out HB.out) : w.heap.size ≤ gb154)
         have n7_ := Aside0.mk (nl_ hg (qk_ BK140.out) : gb140 ≠ gb154)
         have n8_ := Aside0.mk (ng_ hg (qk_ BK140.out) : gb154 ≠ gb140)
         have n9_ := Aside0.mk (nl_ hg (qk_ BK141.out) : gb141 ≠ gb154)
         have n10_ := Aside0.mk (ng_ hg (qk_ BK141.out) : gb154 ≠ gb141)
         have n11_ := Aside0.mk (nl_ hg (qk_ BK147.out) : gb147 ≠ gb154)
         have n12_ := Aside0.mk (ng_ hg (qk_ BK147.out) : gb154 ≠ gb147)
         clear BK140
         clear BK141
         clear BK147
         clear HB
         have BK140 := n0_
         have BK141 := n1_
         have BK147 := n2_
         have HB := n3_
         have BK154 := n4_
         have GW154 := n5_
         have GE154 := n6_
         have NB140_154 := n7_
         have NB154_140 := n8_
         have NB141_154 := n9_
         have NB154_141 := n10_
         have NB147_154 := n11_
         have NB154_147 := n12_
         clear n0_ n1_ n2_ n3_ n4_ n5_ n6_ n7_ n8_ n9_ n10_ n11_ n12_
         clear hb hbox hg
         refine hK.out _ _ ⟨(blk_cell BK147.out 0).trans rfl, (blk_cell BK147.out 1).trans rfl, (blk_cell BK140.out 0).trans rfl, (blk_cell BK140.out 1).trans rfl⟩ (fun hHeld => ?_)
         clear hK K
         refine no_ ?_
         exact norm_ (by simp only [putAll, Act.put, List.setIfInBounds_toArray, List.set_cons_zero, List.set_cons_succ]) (hCont (gb154) _ ⟨hHeld, (qk_ BK140.out), (qk_ BK141.out), (qk_ BK147.out), (qk_ BK154.out), GW154.out, GE154.out, NB140_154.out, NB154_140.out, NB141_154.out, NB154_141.out, NB147_154.out, NB154_147.out, (qb4_ GE140.out GE141.out GE147.out GE154.out HB.out)⟩)
        ·skip
         refine box_step ?hg (N := 9) ?hd (cs := #[.int .i64 0, .int .u64 0]) (t := 63) ?hr ?_; (case hd => rfl); (case hg => rfl); (case hr => first | (go_simp; done) | (go_simp; rfl))
         intro gb154 hg w39 hbox hb
         have n0_ := Aside0.mk (blk_below (qk_ BK140.out) hb)
         have n1_ := Aside0.mk (blk_below (qk_ BK141.out) hb)
         have n2_ := Aside0.mk (blk_below (qk_ BK147.out) hb)
         have n3_ := Aside0.mk (below_step (qb3_ GE140.out GE141.out GE147.out HB.out) hb)
         have n4_ := Aside0.mk (hbox)
         have n5_ := Aside0.mk (bz_ hg (qb3_ GE140.out GE141.out GE147.out HB.out) : w.heap.size ≤ gb154)
         have n6_ := Aside0.mk (bz_ hg (qb3_ GE140.out GE141.out GE147.out HB.out) : w.heap.size ≤ gb154)
         have n7_ := Aside0.mk (nl_ hg (qk_ BK140.out) : gb140 ≠ gb154)
         have n8_ := Aside0.mk (ng_ hg (qk_ BK140.out) : gb154 ≠ gb140)
         have n9_ := Aside0.mk (nl_ hg (qk_ BK141.out) : gb141 ≠ gb154)
         have n10_ := Aside0.mk (ng_ hg (qk_ BK141.out) : gb154 ≠ gb141)
         have n11_ := Aside0.mk (nl_ hg (qk_ BK147.out) : gb147 ≠ gb154)
         have n12_ := Aside0.mk (ng_ hg (qk_ BK147.out) : gb154 ≠ gb147)
         clear BK140
         clear BK141
         clear BK147
         clear HB
         have BK140 := n0_
         have BK141 := n1_
         have BK147 := n2_
         have HB := n3_
         have BK154 := n4_
         have GW154 := n5_
         have GE154 := n6_
         have NB140_154 := n7_
         have NB154_140 := n8_
         have NB141_154 := n9_
         have NB154_141 := n10_
         have NB147_154 := n11_
         have NB154_147 := n12_
         clear n0_ n1_ n2_ n3_ n4_ n5_ n6_ n7_ n8_ n9_ n10_ n11_ n12_
         clear hb hbox hg
         refine hK.out _ _ ⟨(blk_cell BK147.out 0).trans rfl, (blk_cell BK147.out 1).trans rfl, (blk_cell BK140.out 0).trans rfl, (blk_cell BK140.out 1).trans rfl⟩ (fun hHeld => ?_)
         clear hK K
         refine no_ ?_
         refine on_ 9 48 (nb_ 16 9215) HT_.out (fun K hK => ?_)
         refine goes_ Tryd.func68 (by kernel_rfl) rfl #[.agg #[.int .u64 x148000_27, .int .u64 x148001_27], .bool (!(x148000_27 == 0) || (!(x148001_27 == 0)))] (by rfl) rfl rfl ql_ ?_
         with_reducible refine (wide_size_signed.calls x148000_27 x148001_27 (!(x148000_27 == 0) || (!(x148001_27 == 0))) t151 t152 t153 _ A37.out).mono ?_
         rintro e w40 ⟨rfl, hb⟩
         refine ⟨_, rfl, ?_⟩
         have n0_ := Aside0.mk (blk_below (qk_ BK140.out) hb)
         have n1_ := Aside0.mk (blk_below (qk_ BK141.out) hb)
         have n2_ := Aside0.mk (blk_below (qk_ BK147.out) hb)
         have n3_ := Aside0.mk (blk_below (qk_ BK154.out) hb)
         have n4_ := Aside0.mk (below_step (qb4_ GE140.out GE141.out GE147.out GE154.out HB.out) hb)
         clear BK140
         clear BK141
         clear BK147
         clear BK154
         clear HB
         have BK140 := n0_
         have BK141 := n1_
         have BK147 := n2_
         have BK154 := n3_
         have HB := n4_
         clear n0_ n1_ n2_ n3_ n4_
         (try clear hb)
         (try clear hb2)
         (try clear hk)
         (try clear hi)
         refine hK.out _ _ ⟨(blk_cell BK147.out 0).trans rfl, (blk_cell BK147.out 1).trans rfl, (blk_cell BK140.out 0).trans rfl, (blk_cell BK140.out 1).trans rfl⟩ (fun hHeld => ?_)
         clear hK K
         refine no_ ?_
         refine pz_ 10 38 (nb_ 16 10239) HT_.out ?_
         refine pz_ 11 49 (nb_ 16 12287) HT_.out ?_
         refine pz_ 12 50 (nb_ 16 16383) HT_.out ?_
         exact norm_ (by simp only [putAll, Act.put, List.setIfInBounds_toArray, List.set_cons_zero, List.set_cons_succ]) (hCont (gb154) _ ⟨hHeld, (qk_ BK140.out), (qk_ BK141.out), (qk_ BK147.out), (qk_ BK154.out), GW154.out, GE154.out, NB140_154.out, NB154_140.out, NB141_154.out, NB154_141.out, NB147_154.out, NB154_147.out, (qb4_ GE140.out GE141.out GE147.out GE154.out HB.out)⟩)
       rintro gb154 w41 ⟨hS_, h0_, h1_, h2_, h3_, h4_, h5_, h6_, h7_, h8_, h9_, h10_, h11_, h12_⟩
       have n0_ : Aside0 (w41.heap[gb140]? = some (.cells #[.int .i64 a0_0, .int .u64 a0_1] 63 (0, 0))) := ⟨h0_⟩
       have n1_ : Aside0 (w41.heap[gb141]? = some (.cells #[.int .i64 0, .int .u64 0] 63 (0, 0))) := ⟨h1_⟩
       have n2_ : Aside0 (w41.heap[gb147]? = some (.cells #[.int .u64 x148000_27, .int .u64 x148001_27] 83 (0, 0))) := ⟨h2_⟩
       have n3_ : Aside0 (w41.heap[gb154]? = some (.cells #[.int .i64 0, .int .u64 0] 63 (0, 0))) := ⟨h3_⟩
       have n4_ : Aside0 (w.heap.size ≤ gb154) := ⟨h4_⟩
       have n5_ : Aside0 (w.heap.size ≤ gb154) := ⟨h5_⟩
       have n6_ : Aside0 (gb140 ≠ gb154) := ⟨h6_⟩
       have n7_ : Aside0 (gb154 ≠ gb140) := ⟨h7_⟩
       have n8_ : Aside0 (gb141 ≠ gb154) := ⟨h8_⟩
       have n9_ : Aside0 (gb154 ≠ gb141) := ⟨h9_⟩
       have n10_ : Aside0 (gb147 ≠ gb154) := ⟨h10_⟩
       have n11_ : Aside0 (gb154 ≠ gb147) := ⟨h11_⟩
       have n12_ : Aside0 (Below w.heap.size w w41) := ⟨h12_⟩
       clear BK140
       clear BK141
       clear BK147
       clear HB
       clear h0_ h1_ h2_ h3_ h4_ h5_ h6_ h7_ h8_ h9_ h10_ h11_ h12_
       have BK140 := n0_
       have BK141 := n1_
       have BK147 := n2_
       have BK154 := n3_
       have GW154 := n4_
       have GE154 := n5_
       have NB140_154 := n6_
       have NB154_140 := n7_
       have NB141_154 := n8_
       have NB154_141 := n9_
       have NB147_154 := n10_
       have NB154_147 := n11_
       have HB := n12_
       clear n0_ n1_ n2_ n3_ n4_ n5_ n6_ n7_ n8_ n9_ n10_ n11_ n12_
       have hHeld : w41.cell? ⟨gb147, 0, none⟩ = some (.int .u64 x148000_27) ∧ w41.cell? ⟨gb147, 1, none⟩ = some (.int .u64 x148001_27) ∧ w41.cell? ⟨gb140, 0, none⟩ = some (.int .i64 a0_0) ∧ w41.cell? ⟨gb140, 1, none⟩ = some (.int .u64 a0_1) := hS_
       refine norm_ (a' := ?_) ?_ ?_
       rotate_left
       ·simp only [putAll, Act.put, List.setIfInBounds_toArray, List.set_cons_zero, List.set_cons_succ]
        rfl
       refine one_ (i := 14) (N := none) (nb_ 16 32767) rfl rfl (one_of HT_.out (by kernel_rfl)) (by decide) (fun K hK => ?_)
       have hs42 : w41.cell? ⟨gb154, 0, none⟩ = some (.int .i64 0) := (blk_cell BK154.out 0).trans rfl
       have hfs42 := blk_frozen BK154.out 0
       have hns42_0 := NB140_154.out
       have hns42_1 := NB141_154.out
       have hns42_2 := NB147_154.out
       have hms42_0 := NB154_140.out
       have hms42_1 := NB154_141.out
       have hms42_2 := NB154_147.out
       have hs43 : w41.cell? ⟨gb154, 1, none⟩ = some (.int .u64 0) := (blk_cell BK154.out 1).trans rfl
       have hfs43 := blk_frozen BK154.out 1
       have hns43_0 := NB140_154.out
       have hns43_1 := NB141_154.out
       have hns43_2 := NB147_154.out
       have hms43_0 := NB154_140.out
       have hms43_1 := NB154_141.out
       have hms43_2 := NB154_147.out
       refine skip_ (w1 := ?_) (by rfl) rfl ?_ ?_
       rotate_left
       ·go_simp
        rfl
       refine hK.out _ _ ⟨((cell_far (p := ⟨gb154, _, none⟩) NB147_154.out _).trans (((cell_far (p := ⟨gb154, _, none⟩) NB147_154.out _).trans (hHeld.1)))), ((cell_far (p := ⟨gb154, _, none⟩) NB147_154.out _).trans (((cell_far (p := ⟨gb154, _, none⟩) NB147_154.out _).trans (hHeld.2.1)))), ((cell_far (p := ⟨gb154, _, none⟩) NB140_154.out _).trans (((cell_far (p := ⟨gb154, _, none⟩) NB140_154.out _).trans (hHeld.2.2.1)))), ((cell_far (p := ⟨gb154, _, none⟩) NB140_154.out _).trans (((cell_far (p := ⟨gb154, _, none⟩) NB140_154.out _).trans (hHeld.2.2.2))))⟩ (fun hHeld => ?_)
       clear hK K
       refine pz_ 15 10 (nb_ 16 65535) HT_.out ?_
       refine done_ (done_of HT_.out (by kernel_rfl)) ?_
       have hnb44 := NB154_140.out
       have hnc44 := NB140_154.out
       have hnb45 := NB154_141.out
       have hnc45 := NB141_154.out
       have hnb46 := NB154_147.out
       have hnc46 := NB147_154.out
       obtain ⟨Z47_0, Z47_1, Y47_0, Y47_1⟩ := cz2_ BK154.out
       have hnb48 := NB141_140.out
       have hnc48 := NB140_141.out
       have hnb49 := NB141_147.out
       have hnc49 := NB147_141.out
       obtain ⟨Z50_0, Z50_1, Y50_0, Y50_1⟩ := cz2_ BK141.out
       try go_wp2
       refine bodyPost_ret (results_ctt rfl _ _ gb141 63 #[.int .i64 t151, .int .u64 t152] (0, 0) _ rfl (qppff_ #[.int .i64 t151, .int .u64 0] 1 #[.int .i64 0, .int .u64 0] 0 NB141_154.out NB141_154.out BK141.out) Tryd.underlying63 rfl (by kernel_rfl)) rfl ?_
       exact ⟨qe_, qb4_ GE140.out GE141.out GE147.out GE154.out HB.out⟩
      ·rw [if_neg c36] at H
       have c36b0 : decide (a0_0 < 0) = false := decide_eq_false c36
       clear c36
       replace H := Option.bind_eq_some_iff.mp H
       obtain ⟨⟨t155, t156, t157⟩, A510, H⟩ := H
       replace H : (some (t155, t156, wrap64 (x8_27), 0)) = some (r1, r2, r3, r4) := H
       have A51 := Aside0.mk A510
       clear A510
       simp only [Option.some.injEq, Prod.mk.injEq] at H
       obtain ⟨rfl, rfl, rfl, rfl⟩ := H
       try go_wp2
       have n0_ := Aside0.mk (blk_drew BK140.out)
       have n1_ := Aside0.mk (blk_drew BK141.out)
       have n2_ := Aside0.mk (blk_drew BK147.out)
       have n3_ := Aside0.mk (below_drew1 HB.out)
       clear BK140
       clear BK141
       clear BK147
       clear HB
       have BK140 := n0_
       have BK141 := n1_
       have BK147 := n2_
       have HB := n3_
       clear n0_ n1_ n2_ n3_
       refine start_ (n := 16) (S := fun w' => w'.cell? ⟨gb147, 0, none⟩ = some (.int .u64 x148000_27) ∧ w'.cell? ⟨gb147, 1, none⟩ = some (.int .u64 x148001_27) ∧ w'.cell? ⟨gb140, 0, none⟩ = some (.int .i64 a0_0) ∧ w'.cell? ⟨gb140, 1, none⟩ = some (.int .u64 a0_1)) (ds := []) (nb_ 16 0) (by kernel_rfl) rfl rfl ⟨(blk_cell BK147.out 0).trans rfl, (blk_cell BK147.out 1).trans rfl, (blk_cell BK140.out 0).trans rfl, (blk_cell BK140.out 1).trans rfl⟩ (fun hHeld => ?_); refine with_tabW wide_DivP.tab7 wide_DivP.bits7 (fun HT_ HW_ => ?_)
       generalize wc.drew = w52 at BK140 BK141 BK147 HB hHeld ⊢
       refine pz_ 1 40 (nb_ 16 2) HT_.out ?_
       refine tk4_ 0 39 (nb_ 16 3) HT_.out HW_.out hHeld ?_
       refine tk4_ 2 41 (nb_ 16 7) HT_.out HW_.out hHeld ?_
       refine pz_ 3 42 (nb_ 16 15) HT_.out ?_
       refine pz_ 4 43 (nb_ 16 31) HT_.out ?_
       refine pu_ 5 44 (nb_ 16 63) HT_.out ?_
       refine pu_ 6 45 (nb_ 16 127) HT_.out ?_
       refine pu_ 7 46 (nb_ 16 255) HT_.out ?_
       refine pz_ 8 47 (nb_ 16 511) HT_.out ?_
       refine join_ (σ := Nat) 2 (nb_ 16 16383) (fun s_ => [(48, .tuple #[.agg #[.int .i64 t155, .int .u64 t156], .int .i64 t157]), (9, .pointer (some ⟨s_, 0, none⟩)), (38, .tuple #[.agg #[.int .i64 t155, .int .u64 t156], .int .i64 t157]), (49, .agg #[.int .i64 t155, .int .u64 t156]), (50, .int .i64 t157)]) (fun s_ w' => (w'.cell? ⟨gb147, 0, none⟩ = some (.int .u64 x148000_27) ∧ w'.cell? ⟨gb147, 1, none⟩ = some (.int .u64 x148001_27) ∧ w'.cell? ⟨gb140, 0, none⟩ = some (.int .i64 a0_0) ∧ w'.cell? ⟨gb140, 1, none⟩ = some (.int .u64 a0_1)) ∧ (w'.heap[gb140]? = some (.cells #[.int .i64 a0_0, .int .u64 a0_1] 63 (0, 0))) ∧ (w'.heap[gb141]? = some (.cells #[.int .i64 0, .int .u64 0] 63 (0, 0))) ∧ (w'.heap[gb147]? = some (.cells #[.int .u64 x148000_27, .int .u64 x148001_27] 83 (0, 0))) ∧ (w'.heap[s_]? = some (.cells #[.int .i64 0, .int .u64 0] 63 (0, 0))) ∧ (w.heap.size ≤ s_) ∧ (w.heap.size ≤ s_) ∧ (gb140 ≠ s_) ∧ (s_ ≠ gb140) ∧ (gb141 ≠ s_) ∧ (s_ ≠ gb141) ∧ (gb147 ≠ s_) ∧ (s_ ≠ gb147) ∧ (Below w.heap.size w w')) ?_ ?_
       rotate_left
       ·intro hCont
        refine two_ (i := 9) (j := 13) (Ni := some 48) (Nj := some 9) (nb_ 16 1023) (nb_ 16 8703) rfl rfl rfl rfl (two_of HT_.out (by kernel_rfl)) (by decide) (by decide) (fun K hK => ?_) (fun K hK => ?_)
        ·skip
         refine goes_ Tryd.func68 (by kernel_rfl) rfl #[.agg #[.int .u64 x148000_27, .int .u64 x148001_27], .bool false] (by rfl) rfl rfl ql_ ?_
         with_reducible refine (wide_size_signed.calls x148000_27 x148001_27 false t155 t156 t157 _ A51.out).mono ?_
         rintro e w53 ⟨rfl, hb⟩
         refine ⟨_, rfl, ?_⟩
         have n0_ := Aside0.mk (blk_below (qk_ BK140.out) hb)
         have n1_ := Aside0.mk (blk_below (qk_ BK141.out) hb)
         have n2_ := Aside0.mk (blk_below (qk_ BK147.out) hb)
         have n3_ := Aside0.mk (below_step (qb3_ GE140.out GE141.out GE147.out HB.out) hb)
         clear BK140
         clear BK141
         clear BK147
         clear HB
         have BK140 := n0_
         have BK141 := n1_
         have BK147 := n2_
         have HB := n3_
         clear n0_ n1_ n2_ n3_
         (try clear hb)
         (try clear hb2)
         (try clear hk)
         (try clear hi)
         refine hK.out _ _ ⟨(blk_cell BK147.out 0).trans rfl, (blk_cell BK147.out 1).trans rfl, (blk_cell BK140.out 0).trans rfl, (blk_cell BK140.out 1).trans rfl⟩ (fun hHeld => ?_)
         clear hK K
         refine no_ ?_
         refine pz_ 10 38 (nb_ 16 2047) HT_.out ?_
         refine pz_ 11 49 (nb_ 16 4095) HT_.out ?_
         refine pz_ 12 50 (nb_ 16 8191) HT_.out ?_
         refine on_ 13 9 (nb_ 16 16383) HT_.out (fun K hK => ?_)
         refine box_step ?hg (N := 9) ?hd (cs := #[.int .i64 0, .int .u64 0]) (t := 63) ?hr ?_; (case hd => rfl); (case hg => rfl); (case hr => first | (go_simp; done) | (go_simp; rfl))
         intro gb158 hg w54 hbox hb
         have n0_ := Aside0.mk (blk_below (qk_ BK140.out) hb)
         have n1_ := Aside0.mk (blk_below (qk_ BK141.out) hb)
         have n2_ := Aside0.mk (blk_below (qk_ BK147.out) hb)
         have n3_ := Aside0.mk (below_step (qb3_ GE140.out GE141.out GE147.out HB.out) hb)
         have n4_ := Aside0.mk (hbox)
         have n5_ := Aside0.mk (bz_ hg (qb3_ GE140.out GE141.out GE147.out HB.out) : w.heap.size ≤ gb158)
         have n6_ := Aside0.mk (bz_ hg (qb3_ GE140.out GE141.out GE147.out HB.out) : w.heap.size ≤ gb158)
         have n7_ := Aside0.mk (nl_ hg (qk_ BK140.out) : gb140 ≠ gb158)
         have n8_ := Aside0.mk (ng_ hg (qk_ BK140.out) : gb158 ≠ gb140)
         have n9_ := Aside0.mk (nl_ hg (qk_ BK141.out) : gb141 ≠ gb158)
         have n10_ := Aside0.mk (ng_ hg (qk_ BK141.out) : gb158 ≠ gb141)
         have n11_ := Aside0.mk (nl_ hg (qk_ BK147.out) : gb147 ≠ gb158)
         have n12_ := Aside0.mk (ng_ hg (qk_ BK147.out) : gb158 ≠ gb147)
         clear BK140
         clear BK141
         clear BK147
         clear HB
         have BK140 := n0_
         have BK141 := n1_
         have BK147 := n2_
         have HB := n3_
         have BK158 := n4_
         have GW158 := n5_
         have GE158 := n6_
         have NB140_158 := n7_
         have NB158_140 := n8_
         have NB141_158 := n9_
         have NB158_141 := n10_
         have NB147_158 := n11_
         have NB158_147 := n12_
         clear n0_ n1_ n2_ n3_ n4_ n5_ n6_ n7_ n8_ n9_ n10_ n11_ n12_
         clear hb hbox hg
         refine hK.out _ _ ⟨(blk_cell BK147.out 0).trans rfl, (blk_cell BK147.out 1).trans rfl, (blk_cell BK140.out 0).trans rfl, (blk_cell BK140.out 1).trans rfl⟩ (fun hHeld => ?_)
         clear hK K
         refine no_ ?_
         exact norm_ (by simp only [putAll, Act.put, List.setIfInBounds_toArray, List.set_cons_zero, List.set_cons_succ]) (hCont (gb158) _ ⟨hHeld, (qk_ BK140.out), (qk_ BK141.out), (qk_ BK147.out), (qk_ BK158.out), GW158.out, GE158.out, NB140_158.out, NB158_140.out, NB141_158.out, NB158_141.out, NB147_158.out, NB158_147.out, (qb4_ GE140.out GE141.out GE147.out GE158.out HB.out)⟩)
        ·skip
         refine box_step ?hg (N := 9) ?hd (cs := #[.int .i64 0, .int .u64 0]) (t := 63) ?hr ?_; (case hd => rfl); (case hg => rfl); (case hr => first | (go_simp; done) | (go_simp; rfl))
         intro gb158 hg w53 hbox hb
         have n0_ := Aside0.mk (blk_below (qk_ BK140.out) hb)
         have n1_ := Aside0.mk (blk_below (qk_ BK141.out) hb)
         have n2_ := Aside0.mk (blk_below (qk_ BK147.out) hb)
         have n3_ := Aside0.mk (below_step (qb3_ GE140.out GE141.out GE147.out HB.out) hb)
         have n4_ := Aside0.mk (hbox)
         have n5_ := Aside0.mk (bz_ hg (qb3_ GE140.out GE141.out GE147.out HB.out) : w.heap.size ≤ gb158)
         have n6_ := Aside0.mk (bz_ hg (qb3_ GE140.out GE141.out GE147.out HB.out) : w.heap.size ≤ gb158)
         have n7_ := Aside0.mk (nl_ hg (qk_ BK140.out) : gb140 ≠ gb158)
         have n8_ := Aside0.mk (ng_ hg (qk_ BK140.out) : gb158 ≠ gb140)
         have n9_ := Aside0.mk (nl_ hg (qk_ BK141.out) : gb141 ≠ gb158)
         have n10_ := Aside0.mk (ng_ hg (qk_ BK141.out) : gb158 ≠ gb141)
         have n11_ := Aside0.mk (nl_ hg (qk_ BK147.out) : gb147 ≠ gb158)
         have n12_ := Aside0.mk (ng_ hg (qk_ BK147.out) : gb158 ≠ gb147)
         clear BK140
         clear BK141
         clear BK147
         clear HB
         have BK140 := n0_
         have BK141 := n1_
         have BK147 := n2_
         have HB := n3_
         have BK158 := n4_
         have GW158 := n5_
         have GE158 := n6_
         have NB140_158 := n7_
         have NB158_140 := n8_
         have NB141_158 := n9_
         have NB158_141 := n10_
         have NB147_158 := n11_
         have NB158_147 := n12_
         clear n0_ n1_ n2_ n3_ n4_ n5_ n6_ n7_ n8_ n9_ n10_ n11_ n12_
         clear hb hbox hg
         refine hK.out _ _ ⟨(blk_cell BK147.out 0).trans rfl, (blk_cell BK147.out 1).trans rfl, (blk_cell BK140.out 0).trans rfl, (blk_cell BK140.out 1).trans rfl⟩ (fun hHeld => ?_)
         clear hK K
         refine no_ ?_
         refine on_ 9 48 (nb_ 16 9215) HT_.out (fun K hK => ?_)
         refine goes_ Tryd.func68 (by kernel_rfl) rfl #[.agg #[.int .u64 x148000_27, .int .u64 x148001_27], .bool false] (by rfl) rfl rfl ql_ ?_
         with_reducible refine (wide_size_signed.calls x148000_27 x148001_27 false t155 t156 t157 _ A51.out).mono ?_
         rintro e w54 ⟨rfl, hb⟩
         refine ⟨_, rfl, ?_⟩
         have n0_ := Aside0.mk (blk_below (qk_ BK140.out) hb)
         have n1_ := Aside0.mk (blk_below (qk_ BK141.out) hb)
         have n2_ := Aside0.mk (blk_below (qk_ BK147.out) hb)
         have n3_ := Aside0.mk (blk_below (qk_ BK158.out) hb)
         have n4_ := Aside0.mk (below_step (qb4_ GE140.out GE141.out GE147.out GE158.out HB.out) hb)
         clear BK140
         clear BK141
         clear BK147
         clear BK158
         clear HB
         have BK140 := n0_
         have BK141 := n1_
         have BK147 := n2_
         have BK158 := n3_
         have HB := n4_
         clear n0_ n1_ n2_ n3_ n4_
         (try clear hb)
         (try clear hb2)
         (try clear hk)
         (try clear hi)
         refine hK.out _ _ ⟨(blk_cell BK147.out 0).trans rfl, (blk_cell BK147.out 1).trans rfl, (blk_cell BK140.out 0).trans rfl, (blk_cell BK140.out 1).trans rfl⟩ (fun hHeld => ?_)
         clear hK K
         refine no_ ?_
         refine pz_ 10 38 (nb_ 16 10239) HT_.out ?_
         refine pz_ 11 49 (nb_ 16 12287) HT_.out ?_
         refine pz_ 12 50 (nb_ 16 16383) HT_.out ?_
         exact norm_ (by simp only [putAll, Act.put, List.setIfInBounds_toArray, List.set_cons_zero, List.set_cons_succ]) (hCont (gb158) _ ⟨hHeld, (qk_ BK140.out), (qk_ BK141.out), (qk_ BK147.out), (qk_ BK158.out), GW158.out, GE158.out, NB140_158.out, NB158_140.out, NB141_158.out, NB158_141.out, NB147_158.out, NB158_147.out, (qb4_ GE140.out GE141.out GE147.out GE158.out HB.out)⟩)
       rintro gb158 w55 ⟨hS_, h0_, h1_, h2_, h3_, h4_, h5_, h6_, h7_, h8_, h9_, h10_, h11_, h12_⟩
       have n0_ : Aside0 (w55.heap[gb140]? = some (.cells #[.int .i64 a0_0, .int .u64 a0_1] 63 (0, 0))) := ⟨h0_⟩
       have n1_ : Aside0 (w55.heap[gb141]? = some (.cells #[.int .i64 0, .int .u64 0] 63 (0, 0))) := ⟨h1_⟩
       have n2_ : Aside0 (w55.heap[gb147]? = some (.cells #[.int .u64 x148000_27, .int .u64 x148001_27] 83 (0, 0))) := ⟨h2_⟩
       have n3_ : Aside0 (w55.heap[gb158]? = some (.cells #[.int .i64 0, .int .u64 0] 63 (0, 0))) := ⟨h3_⟩
       have n4_ : Aside0 (w.heap.size ≤ gb158) := ⟨h4_⟩
       have n5_ : Aside0 (w.heap.size ≤ gb158) := ⟨h5_⟩
       have n6_ : Aside0 (gb140 ≠ gb158) := ⟨h6_⟩
       have n7_ : Aside0 (gb158 ≠ gb140) := ⟨h7_⟩
       have n8_ : Aside0 (gb141 ≠ gb158) := ⟨h8_⟩
       have n9_ : Aside0 (gb158 ≠ gb141) := ⟨h9_⟩
       have n10_ : Aside0 (gb147 ≠ gb158) := ⟨h10_⟩
       have n11_ : Aside0 (gb158 ≠ gb147) := ⟨h11_⟩
       have n12_ : Aside0 (Below w.heap.size w w55) := ⟨h12_⟩
       clear BK140
       clear BK141
       clear BK147
       clear HB
       clear h0_ h1_ h2_ h3_ h4_ h5_ h6_ h7_ h8_ h9_ h10_ h11_ h12_
       have BK140 := n0_
       have BK141 := n1_
       have BK147 := n2_
       have BK158 := n3_
       have GW158 := n4_
       have GE158 := n5_
       have NB140_158 := n6_
       have NB158_140 := n7_
       have NB141_158 := n8_
       have NB158_141 := n9_
       have NB147_158 := n10_
       have NB158_147 := n11_
       have HB := n12_
       clear n0_ n1_ n2_ n3_ n4_ n5_ n6_ n7_ n8_ n9_ n10_ n11_ n12_
       have hHeld : w55.cell? ⟨gb147, 0, none⟩ = some (.int .u64 x148000_27) ∧ w55.cell? ⟨gb147, 1, none⟩ = some (.int .u64 x148001_27) ∧ w55.cell? ⟨gb140, 0, none⟩ = some (.int .i64 a0_0) ∧ w55.cell? ⟨gb140, 1, none⟩ = some (.int .u64 a0_1) := hS_
       refine norm_ (a' := ?_) ?_ ?_
       rotate_left
       ·simp only [putAll, Act.put, List.setIfInBounds_toArray, List.set_cons_zero, List.set_cons_succ]
        rfl
       refine one_ (i := 14) (N := none) (nb_ 16 32767) rfl rfl (one_of HT_.out (by kernel_rfl)) (by decide) (fun K hK => ?_)
       have hs56 : w55.cell? ⟨gb158, 0, none⟩ = some (.int .i64 0) := (blk_cell BK158.out 0).trans rfl
       have hfs56 := blk_frozen BK158.out 0
       have hns56_0 := NB140_158.out
       have hns56_1 := NB141_158.out
       have hns56_2 := NB147_158.out
       have hms56_0 := NB158_140.out
       have hms56_1 := NB158_141.out
       have hms56_2 := NB158_147.out
       have hs57 : w55.cell? ⟨gb158, 1, none⟩ = some (.int .u64 0) := (blk_cell BK158.out 1).trans rfl
       have hfs57 := blk_frozen BK158.out 1
       have hns57_0 := NB140_158.out
       have hns57_1 := NB141_158.out
       have hns57_2 := NB147_158.out
       have hms57_0 := NB158_140.out
       have hms57_1 := NB158_141.out
       have hms57_2 := NB158_147.out
       refine skip_ (w1 := ?_) (by rfl) rfl ?_ ?_
       rotate_left
       ·go_simp
        rfl
       refine hK.out _ _ ⟨((cell_far (p := ⟨gb158, _, none⟩) NB147_158.out _).trans (((cell_far (p := ⟨gb158, _, none⟩) NB147_158.out _).trans (hHeld.1)))), ((cell_far (p := ⟨gb158, _, none⟩) NB147_158.out _).trans (((cell_far (p := ⟨gb158, _, none⟩) NB147_158.out _).trans (hHeld.2.1)))), ((cell_far (p := ⟨gb158, _, none⟩) NB140_158.out _).trans (((cell_far (p := ⟨gb158, _, none⟩) NB140_158.out _).trans (hHeld.2.2.1)))), ((cell_far (p := ⟨gb158, _, none⟩) NB140_158.out _).trans (((cell_far (p := ⟨gb158, _, none⟩) NB140_158.out _).trans (hHeld.2.2.2))))⟩ (fun hHeld => ?_)
       clear hK K
       refine pz_ 15 10 (nb_ 16 65535) HT_.out ?_
       refine done_ (done_of HT_.out (by kernel_rfl)) ?_
       have hnb58 := NB158_140.out
       have hnc58 := NB140_158.out
       have hnb59 := NB158_141.out
       have hnc59 := NB141_158.out
       have hnb60 := NB158_147.out
       have hnc60 := NB147_158.out
       obtain ⟨Z61_0, Z61_1, Y61_0, Y61_1⟩ := cz2_ BK158.out
       have hnb62 := NB141_140.out
       have hnc62 := NB140_141.out
       have hnb63 := NB141_147.out
       have hnc63 := NB147_141.out
       obtain ⟨Z64_0, Z64_1, Y64_0, Y64_1⟩ := cz2_ BK141.out
       try go_wp2
       refine bodyPost_ret (results_ctt rfl _ _ gb141 63 #[.int .i64 t155, .int .u64 t156] (0, 0) _ rfl (qppff_ #[.int .i64 t155, .int .u64 0] 1 #[.int .i64 0, .int .u64 0] 0 NB141_158.out NB141_158.out BK141.out) Tryd.underlying63 rfl (by kernel_rfl)) rfl ?_
       exact ⟨qe_, qb4_ GE140.out GE141.out GE147.out GE158.out HB.out⟩
def wide_Div.f (a0_0 a0_1 a1 : Int) : Option (Int × Int × Int × Int) :=
 if isW a0_0 a0_1 ∧ inI a1 then
  some (if a1 < 1 then (0, 0, 0, 1) else (wv a0_0 a0_1 / a1 / 18446744073709551616, wv a0_0 a0_1 / a1 % 18446744073709551616, wv a0_0 a0_1 % a1, 0)) else none
theorem wide_Div.eq {a b n : Int} {r : Int × Int × Int × Int} (h : wide_Div.f a b n = some r) : ∃ k, wide_DivP.f k a b n = some r := by
 unfold wide_Div.f at h
 split at h
 ·rename_i q
  obtain ⟨⟨⟨a0, a1⟩, b0, b1⟩, n0, n1⟩ := q
  injection h with h
  subst h
  refine ⟨2, ?_⟩
  unfold wide_DivP.f
  by_cases hn : n < 1
  ·rw [if_pos hn, if_pos hn]
  ·rw [if_neg hn, if_neg hn]
   unfold wide_absolute.f
   rw [if_pos ⟨⟨a0, a1⟩, b0, b1⟩]
   simp only [Option.bind_some]
   have hun : IntKind.u64.wrap n = n := u64_id _ (by omega) (by omega)
   have hv : wv a b = a * 18446744073709551616 + b := rfl
   have mrange : 0 ≤ (if a < 0 then -(wv a b) else wv a b) ∧ (if a < 0 then -(wv a b) else wv a b) ≤ 170141183460469231731687303715884105728 := by split <;> omega
   have hvm : wv a b = if a < 0 then -(if a < 0 then -(wv a b) else wv a b) else (if a < 0 then -(wv a b) else wv a b) := by split <;> omega
   generalize hm : (if a < 0 then -(wv a b) else wv a b) = m at *
   obtain ⟨m0, m1⟩ := mrange
   have hwm : wv (m / 18446744073709551616) (m % 18446744073709551616) = m := by unfold wv; omega
   unfold wide_size_divide.f
   rw [hun, if_pos ⟨⟨by unfold inU; omega, by unfold inU; omega⟩, by omega, by omega⟩, hwm]
   simp only [Option.bind_some]
   have q0 : 0 ≤ m / n := Int.ediv_nonneg m0 (by omega)
   have q1 : m / n ≤ m := Int.ediv_le_self n m0
   have r0 := Int.emod_nonneg m (show n ≠ 0 by omega)
   have r1 := Int.emod_lt_of_pos m (show 0 < n by omega)
   have hwq : wv (m / n / 18446744073709551616) (m / n % 18446744073709551616) = m / n := by unfold wv; omega
   by_cases ha : a < 0
   ·rw [if_pos ha]
    simp only [wide_DivP.j0, wide_DivP.j1]
    rw [if_pos ha] at hvm
    obtain ⟨d1, d2⟩ := neg_div (m := m) (n := n) (by omega)
    have mpos : 0 < m := by
     rw [if_pos ha] at hm
     omega
    rw [hvm, d1, d2]
    by_cases hr : 0 < m % n
    ·rw [if_pos (by simpa using hr), if_pos hr, if_pos hr]
     have hq2 : m / n ≤ 170141183460469231731687303715884105727 := by
      by_cases h1n : n = 1
      ·subst h1n; rw [Int.emod_one] at hr; omega
      ·have h3 := Int.emod_add_mul_ediv m n
       have h4 : 2 * (m / n) ≤ n * (m / n) := Int.mul_le_mul_of_nonneg_right (by omega) q0
       omega
     unfold wide_size_times.f
     rw [if_pos ⟨⟨by unfold inU; omega, by unfold inU; omega⟩, by decide, by decide⟩, hwq, Int.mul_one]
     simp only [Option.bind_some]
     rw [if_pos ha, hun, u64_id (n - m % n) (by omega) (by omega)]
     have hwq2 : wv ((m / n + 1) / 18446744073709551616 % 18446744073709551616) ((m / n + 1) % 18446744073709551616) = m / n + 1 := by unfold wv; omega
     unfold wide_size_signed.f
     rw [if_pos ⟨by unfold inU; omega, by unfold inU; omega⟩, hwq2]
     have hne : (!((m / n + 1) / 18446744073709551616 % 18446744073709551616 == 0) || !((m / n + 1) % 18446744073709551616 == 0)) = true := by
      rw [Bool.or_eq_true]
      simp only [Bool.not_eq_true', beq_eq_false_iff_ne]
      omega
     rw [hne, if_neg (by simp; omega)]
     simp only [Option.bind_some, if_true]
     rw [i64_id (n - m % n) (by omega) (by omega)]
    ·rw [if_neg (by simpa using hr), if_neg hr, if_neg hr, if_pos ha]
     unfold wide_size_signed.f
     rw [if_pos ⟨by unfold inU; omega, by unfold inU; omega⟩, hwq]
     have hr0 : m % n = 0 := by omega
     by_cases hz : m / n = 0
     ·have h3 := Int.emod_add_mul_ediv m n
      rw [hz, Int.mul_zero] at h3
      omega
     ·have hne : (!(m / n / 18446744073709551616 == 0) || !(m / n % 18446744073709551616 == 0)) = true := by
       rw [Bool.or_eq_true]
       simp only [Bool.not_eq_true', beq_eq_false_iff_ne]
       omega
      rw [hne, if_neg (by simp; omega)]
      simp only [Option.bind_some, if_true]
      rw [hr0, i64_id 0 (by omega) (by omega)]
   ·rw [if_neg ha]
    simp only [wide_DivP.j0, wide_DivP.j1]
    rw [if_neg ha] at hvm hm
    rw [if_neg (by decide), if_neg ha, hvm]
    unfold wide_size_signed.f
    rw [if_pos ⟨by unfold inU; omega, by unfold inU; omega⟩, hwq, if_neg (by simp; omega)]
    simp only [Option.bind_some, Bool.false_eq_true, if_false]
    rw [i64_id (m % n) (by omega) (by omega)]
 ·cases h
theorem wide_Div.calls (a0_0 a0_1 a1 r1 r2 r3 r4 : Int) (w : World) (h : wide_Div.f a0_0 a0_1 a1 = some (r1, r2, r3, r4)) :
  Calls Tryd.prog 50 #[.agg #[.int .i64 a0_0, .int .u64 a0_1], .int .i64 a1] w fun e w' => e = .returned (.tuple #[.agg #[.int .i64 r1, .int .u64 r2], .int .i64 r3, .int .i64 r4]) ∧ Below w.heap.size w w' := by
 obtain ⟨k, h⟩ := wide_Div.eq h
 exact wide_DivP.calls k a0_0 a0_1 a1 r1 r2 r3 r4 w h
def wide_AddP.j0 : Nat → Int → Int → Bool → Option (Int × Int × Int)
 | 0, _, _, _ => none
 | k + 1, x6, x8, x39 => if x39 = true then (some (0, 0, 6)) else (some (x8, x6, 0))
def wide_AddP.f (k : Nat) (a0_0 a0_1 a1_0 a1_1 : Int) : Option (Int × Int × Int) := if ((decide (a0_0 < 0)) == (decide (a1_0 < 0))) = true then (wide_AddP.j0 k (addLo a0_1 a1_1) (wrap64 ((wrap64 (a0_0 + a1_0)) + (wrap64 (addHi a0_1 a1_1)))) ((decide ((wrap64 ((wrap64 (a0_0 + a1_0)) + (wrap64 (addHi a0_1 a1_1)))) < 0)) != (decide (a0_0 < 0)))) else (wide_AddP.j0 k (addLo a0_1 a1_1) (wrap64 ((wrap64 (a0_0 + a1_0)) + (wrap64 (addHi a0_1 a1_1)))) false)
set_option maxHeartbeats 8000000 in
set_option maxRecDepth 100000 in
theorem wide_AddP.calls (k : Nat) (a0_0 a0_1 a1_0 a1_1 r1 r2 r3 : Int) (w : World) (h : wide_AddP.f k a0_0 a0_1 a1_0 a1_1 = some (r1, r2, r3)) :
  Calls Tryd.prog 51 #[.agg #[.int .i64 a0_0, .int .u64 a0_1], .agg #[.int .i64 a1_0, .int .u64 a1_1]] w fun e w' => e = .returned (.tuple #[.agg #[.int .i64 r1, .int .u64 r2], .int .i64 r3]) ∧ Below w.heap.size w w' := by
 have hu63 := Tryd.underlying63
 have hadd64 := add64_run
 have HB := Aside0.mk (Below.refl w.heap.size w)
 have H : (if ((decide (a0_0 < 0)) == (decide (a1_0 < 0))) = true then (wide_AddP.j0 k (addLo a0_1 a1_1) (wrap64 ((wrap64 (a0_0 + a1_0)) + (wrap64 (addHi a0_1 a1_1)))) ((decide ((wrap64 ((wrap64 (a0_0 + a1_0)) + (wrap64 (addHi a0_1 a1_1)))) < 0)) != (decide (a0_0 < 0)))) else (wide_AddP.j0 k (addLo a0_1 a1_1) (wrap64 ((wrap64 (a0_0 + a1_0)) + (wrap64 (addHi a0_1 a1_1)))) false)) = some (r1, r2, r3) := h
 clear h
 have HC3 := Aside0.mk H
 clear H
 go_enter Tryd.func51, Tryd.ntmps51
 go_upto_region 3 with (first | ((with_reducible refine gate_dst (N := 2) rfl ?_); refine be_ (N := 2) (cs := #[.int .i64 a0_0, .int .u64 a0_1]) (t := 63) ?_; intro gb159 hg w4 hbox hb; have n0_ := Aside0.mk (below_step (qb_ HB.out) hb); have n1_ := Aside0.mk (hbox); have n2_ := Aside0.mk (bz_ hg (qb_ HB.out) : w.heap.size ≤ gb159); have n3_ := n2_; clear HB; have HB := n0_; have BK159 := n1_; have GW159 := n2_; have GE159 := n3_; clear n0_ n1_ n2_ n3_; clear hb hbox hg) | ((with_reducible refine gate_dst (N := 3) rfl ?_); refine be_ (N := 3) (cs := #[.int .i64 a1_0, .int .u64 a1_1]) (t := 63) ?_; intro gb160 hg w5 hbox hb; have n0_ := Aside0.mk (blk_below (qk_ BK159.out) hb); have n1_ := Aside0.mk (below_step (qb1_ GE159.out HB.out) hb); have n2_ := Aside0.mk (hbox); have n3_ := Aside0.mk (bz_ hg (qb1_ GE159.out HB.out) : w.heap.size ≤ gb160); have n4_ := n3_; have n5_ := Aside0.mk (nl_ hg (qk_ BK159.out) : gb159 ≠ gb160); have n6_ := Aside0.mk (ng_ hg (qk_ BK159.out) : gb160 ≠ gb159); clear BK159; clear HB; have BK159 := n0_; have HB := n1_; have BK160 := n2_; have GW160 := n3_; have GE160 := n4_; have NB159_160 := n5_; have NB160_159 := n6_; clear n0_ n1_ n2_ n3_ n4_ n5_ n6_; clear hb hbox hg) | ((with_reducible refine gate_dst (N := 4) rfl ?_); refine be_ (N := 4) (cs := #[.int .i64 0, .int .u64 0]) (t := 63) ?_; intro gb161 hg w6 hbox hb; have n0_ := Aside0.mk (blk_below (qk_ BK159.out) hb); have n1_ := Aside0.mk (blk_below (qk_ BK160.out) hb); have n2_ := Aside0.mk (below_step (qb2_ GE159.out GE160.out HB.out) hb); have n3_ := Aside0.mk (hbox); have n4_ := Aside0.mk (bz_ hg (qb2_ GE159.out GE160.out HB.out) : w.heap.size ≤ gb161); have n5_ := n4_; have n6_ := Aside0.mk (nl_ hg (qk_ BK159.out) : gb159 ≠ gb161); have n7_ := Aside0.mk (ng_ hg (qk_ BK159.out) : gb161 ≠ gb159); have n8_ := Aside0.mk (nl_ hg (qk_ BK160.out) : gb160 ≠ gb161); have n9_ := Aside0.mk (ng_ hg (qk_ BK160.out) : gb161 ≠ gb160); clear BK159; clear BK160; clear HB; have BK159 := n0_; have BK160 := n1_; have HB := n2_; have BK161 := n3_; have GW161 := n4_; have GE161 := n5_; have NB159_161 := n6_; have NB161_159 := n7_; have NB160_161 := n8_; have NB161_160 := n9_; clear n0_ n1_ n2_ n3_ n4_ n5_ n6_ n7_ n8_ n9_; clear hb hbox hg; have hnb7 := NB159_160.out; have hnc7 := NB160_159.out; have hnb8 := NB159_161.out; have hnc8 := NB161_159.out; obtain ⟨Z9_0, Z9_1, Y9_0, Y9_1⟩ := cz2_ BK159.out; have hnb10 := NB160_161.out; have hnc10 := NB161_160.out; obtain ⟨Z11_0, Z11_1, Y11_0, Y11_1⟩ := cz2_ BK160.out))
 (try simp only [Act.put, List.setIfInBounds_toArray, List.set_cons_zero, List.set_cons_succ])
 go_cut [39] (fun v39 wc => ∃ (kq : Nat) (x39_2 : Bool), v39 = .bool x39_2 ∧ Aside0 (wide_AddP.j0 kq (addLo a0_1 a1_1) (wrap64 ((wrap64 (a0_0 + a1_0)) + (wrap64 (addHi a0_1 a1_1)))) x39_2 = some (r1, r2, r3)) ∧ Aside0 (kq ≤ k) ∧ Aside0 (wc.heap[gb159]? = some (.cells #[.int .i64 a0_0, .int .u64 a0_1] 63 (0, 0))) ∧ Aside0 (wc.heap[gb160]? = some (.cells #[.int .i64 a1_0, .int .u64 a1_1] 63 (0, 0))) ∧ Aside0 (wc.heap[gb161]? = some (.cells #[.int .i64 0, .int .u64 0] 63 (0, 0))) ∧ Aside0 (Below w.heap.size w wc))
 case first =>
  have H := HC3.out
  clear HC3
  by_cases c12 : ((decide (a0_0 < 0)) == (decide (a1_0 < 0))) = true
  ·rw [if_pos c12] at H
   have c12b0 : ((decide (a0_0 < 0)) == (decide (a1_0 < 0))) = true := c12
   (try (have c12b1 : decide ((decide (a0_0 < 0)) = (decide (a1_0 < 0))) = true := by simpa using c12))
   (try (have c12b2 : ((decide (a0_0 < 0)) == (decide (a1_0 < 0))) = true := by simpa using c12))
   clear c12
   (first | rw [c12b0] | (simp only [i64_w, i32_w]; rw [c12b0]) | skip)
   have H' := Aside0.mk H
   clear H
   have hnb13 := NB159_160.out
   have hnc13 := NB160_159.out
   have hnb14 := NB159_161.out
   have hnc14 := NB161_159.out
   obtain ⟨Z15_0, Z15_1, Y15_0, Y15_1⟩ := cz2_ BK159.out
   have hnb16 := NB160_161.out
   have hnc16 := NB161_160.out
   obtain ⟨Z17_0, Z17_1, Y17_0, Y17_1⟩ := cz2_ BK160.out
   go_wp2
   go_meet
   case rel => exact ⟨_, (((decide ((wrap64 ((wrap64 (a0_0 + a1_0)) + (wrap64 (addHi a0_1 a1_1)))) < 0)) != (decide (a0_0 < 0)))), qs_, H', ⟨qo_⟩, ⟨qk_ BK159.out⟩, ⟨qk_ BK160.out⟩, ⟨qk_ BK161.out⟩, ⟨qb3_ GE159.out GE160.out GE161.out HB.out⟩⟩
  ·rw [if_neg c12] at H
   have c12b0 : ((decide (a0_0 < 0)) == (decide (a1_0 < 0))) = false := by simpa using c12
   (try (have c12b1 : decide ((decide (a0_0 < 0)) = (decide (a1_0 < 0))) = false := by simpa using c12))
   (try (have c12b2 : ((decide (a0_0 < 0)) == (decide (a1_0 < 0))) = false := by simpa using c12))
   (try (have c12b3 : ¬ ((decide (a0_0 < 0)) = (decide (a1_0 < 0))) := by simpa using c12))
   clear c12
   (first | rw [c12b0] | (simp only [i64_w, i32_w]; rw [c12b0]) | skip)
   have H' := Aside0.mk H
   clear H
   have hnb18 := NB159_160.out
   have hnc18 := NB160_159.out
   have hnb19 := NB159_161.out
   have hnc19 := NB161_159.out
   obtain ⟨Z20_0, Z20_1, Y20_0, Y20_1⟩ := cz2_ BK159.out
   have hnb21 := NB160_161.out
   have hnc21 := NB161_160.out
   obtain ⟨Z22_0, Z22_1, Y22_0, Y22_1⟩ := cz2_ BK160.out
   go_wp2
   go_meet
   case rel => exact ⟨_, (false), qs_, H', ⟨qo_⟩, ⟨qk_ BK159.out⟩, ⟨qk_ BK160.out⟩, ⟨qk_ BK161.out⟩, ⟨qb3_ GE159.out GE160.out GE161.out HB.out⟩⟩
 case rest =>
  clear HC3
  try clear c1
  try clear c2
  try clear p2
  try clear c5
  try clear p6
  try clear c7
  try clear c8
  try clear c10
  try clear c12
  try clear c12b0
  try clear c12b1
  try clear c12b2
  try clear c13
  try clear c14
  try clear c16
  try clear c18
  try clear c19
  try clear c21
  (try clear Z11_0 Z11_1 Y11_0 Y11_1)
  (try clear Z15_0 Z15_1 Y15_0 Y15_1)
  (try clear Z17_0 Z17_1 Y17_0 Y17_1)
  (try clear Z20_0 Z20_1 Y20_0 Y20_1)
  (try clear Z22_0 Z22_1 Y22_0 Y22_1)
  (try clear Z9_0 Z9_1 Y9_0 Y9_1)
  obtain ⟨kq, x39_2, rfl, HA, HJ2, BK159, BK160, BK161, HB⟩ := hcut
  cases kq with
  | zero => exact absurd HA.out (by simp [wide_AddP.j0])
  | succ kj2 =>
   have H := HA.out
   clear HA
   simp only [wide_AddP.j0] at H
   by_cases c23 : x39_2 = true
   ·subst c23
    have H1 : (some (0, 0, 6)) = some (r1, r2, r3) := by rw [if_pos rfl] at H; exact H
    clear H
    have H := H1
    clear H1
    simp only [Option.some.injEq, Prod.mk.injEq] at H
    obtain ⟨rfl, rfl, rfl⟩ := H
    have hnb24 := NB161_159.out
    have hnc24 := NB159_161.out
    have hnb25 := NB161_160.out
    have hnc25 := NB160_161.out
    obtain ⟨Z26_0, Z26_1, Y26_0, Y26_1⟩ := cz2_ BK161.out
    go_wp2
    refine bodyPost_ret (results_ct rfl _ _ gb161 63 #[.int .i64 0, .int .u64 0] (0, 0) _ rfl (qpp_ #[.int .i64 0, .int .u64 0] 1 #[.int .i64 0, .int .u64 0] 0 BK161.out) Tryd.underlying63 rfl (by kernel_rfl)) rfl ?_
    exact ⟨qe_, qb3_ GE159.out GE160.out GE161.out HB.out⟩
   ·replace c23 := Bool.eq_false_iff.mpr c23
    subst c23
    have H1 : (some ((wrap64 ((wrap64 (a0_0 + a1_0)) + (wrap64 (addHi a0_1 a1_1)))), (addLo a0_1 a1_1), 0)) = some (r1, r2, r3) := by rw [if_neg (show ¬ (false = true) by decide)] at H; exact H
    clear H
    have H := H1
    clear H1
    simp only [Option.some.injEq, Prod.mk.injEq] at H
    obtain ⟨rfl, rfl, rfl⟩ := H
    have hnb27 := NB161_159.out
    have hnc27 := NB159_161.out
    have hnb28 := NB161_160.out
    have hnc28 := NB160_161.out
    obtain ⟨Z29_0, Z29_1, Y29_0, Y29_1⟩ := cz2_ BK161.out
    go_wp2
    refine bodyPost_ret (results_ct rfl _ _ gb161 63 #[.int .i64 (wrap64 ((wrap64 (a0_0 + a1_0)) + (wrap64 (addHi a0_1 a1_1)))), .int .u64 (addLo a0_1 a1_1)] (0, 0) _ rfl (qpp_ #[.int .i64 (wrap64 ((wrap64 (a0_0 + a1_0)) + (wrap64 (addHi a0_1 a1_1)))), .int .u64 0] 1 #[.int .i64 0, .int .u64 0] 0 BK161.out) Tryd.underlying63 rfl (by kernel_rfl)) rfl ?_
    exact ⟨qe_, qb3_ GE159.out GE160.out GE161.out HB.out⟩
def wide_Add.f (a0_0 a0_1 a1_0 a1_1 : Int) : Option (Int × Int × Int) :=
 if isW a0_0 a0_1 ∧ isW a1_0 a1_1 then
  some (if in128 (wv a0_0 a0_1 + wv a1_0 a1_1) then ((wv a0_0 a0_1 + wv a1_0 a1_1) / 18446744073709551616, (wv a0_0 a0_1 + wv a1_0 a1_1) % 18446744073709551616, 0) else (0, 0, 6)) else none
theorem wide_Add.eq {a b c d : Int} {r : Int × Int × Int} (h : wide_Add.f a b c d = some r) : ∃ k, wide_AddP.f k a b c d = some r := by
 unfold wide_Add.f at h
 split at h
 ·rename_i q
  obtain ⟨⟨⟨a0, a1⟩, b0, b1⟩, ⟨c0, c1⟩, d0, d1⟩ := q
  injection h with h
  subst h
  refine ⟨1, ?_⟩
  unfold wide_AddP.f
  simp only [wide_AddP.j0]
  have hl : addLo b d = (b + d) % 18446744073709551616 := by unfold addLo; omega
  have hh : addHi b d = (b + d) / 18446744073709551616 := by unfold addHi; omega
  rw [hl, hh]
  have hw : wrap64 (wrap64 (a + c) + wrap64 ((b + d) / 18446744073709551616)) = (a + c + (b + d) / 18446744073709551616 + 9223372036854775808) % 18446744073709551616 - 9223372036854775808 := by unfold wrap64; omega
  rw [hw]
  clear hl hh hw
  by_cases hin : in128 (wv a b + wv c d)
  ·rw [if_pos hin]
   unfold in128 wv at hin
   have e1 : (a + c + (b + d) / 18446744073709551616 + 9223372036854775808) % 18446744073709551616 - 9223372036854775808 = (wv a b + wv c d) / 18446744073709551616 := by unfold wv; omega
   have e2 : (b + d) % 18446744073709551616 = (wv a b + wv c d) % 18446744073709551616 := by unfold wv; omega
   have e3 : (wv a b + wv c d) / 18446744073709551616 = a + c + (b + d) / 18446744073709551616 := by unfold wv; omega
   rw [e1, e2]
   by_cases s1 : a < 0 <;> by_cases s2 : c < 0
   ·have s3 : (wv a b + wv c d) / 18446744073709551616 < 0 := by omega
    simp [s1, s2, s3]
   ·simp [s1, s2]
   ·simp [s1, s2]
   ·have s3 : ¬ (wv a b + wv c d) / 18446744073709551616 < 0 := by omega
    simp [s1, s2, s3]
  ·rw [if_neg hin]
   unfold in128 wv at hin
   by_cases s1 : a < 0 <;> by_cases s2 : c < 0
   ·have s3 : ¬ (a + c + (b + d) / 18446744073709551616 + 9223372036854775808) % 18446744073709551616 - 9223372036854775808 < 0 := by omega
    simp [s1, s2, s3]
   ·omega
   ·omega
   ·have s3 : (a + c + (b + d) / 18446744073709551616 + 9223372036854775808) % 18446744073709551616 - 9223372036854775808 < 0 := by omega
    simp [s1, s2, s3]
 ·cases h
theorem wide_Add.calls (a0_0 a0_1 a1_0 a1_1 r1 r2 r3 : Int) (w : World) (h : wide_Add.f a0_0 a0_1 a1_0 a1_1 = some (r1, r2, r3)) :
  Calls Tryd.prog 51 #[.agg #[.int .i64 a0_0, .int .u64 a0_1], .agg #[.int .i64 a1_0, .int .u64 a1_1]] w fun e w' => e = .returned (.tuple #[.agg #[.int .i64 r1, .int .u64 r2], .int .i64 r3]) ∧ Below w.heap.size w w' := by
 obtain ⟨k, h⟩ := wide_Add.eq h
 exact wide_AddP.calls k a0_0 a0_1 a1_0 a1_1 r1 r2 r3 w h
def wide_OfP.f (a0 : Int) : Option (Int × Int) := some (a0 / 9223372036854775808, IntKind.u64.wrap (a0))
set_option maxHeartbeats 8000000 in
set_option maxRecDepth 100000 in
theorem wide_OfP.calls (a0 r1 r2 : Int) (w : World) (h : wide_OfP.f a0 = some (r1, r2)) :
  Calls Tryd.prog 52 #[.int .i64 a0] w fun e w' => e = .returned (.agg #[.int .i64 r1, .int .u64 r2]) ∧ Below w.heap.size w w' := by
 have hu63 := Tryd.underlying63
 have HB := Aside0.mk (Below.refl w.heap.size w)
 have H : (some (a0 / 9223372036854775808, IntKind.u64.wrap (a0))) = some (r1, r2) := h
 clear h
 simp only [Option.some.injEq, Prod.mk.injEq] at H
 obtain ⟨rfl, rfl⟩ := H
 go_enter Tryd.func52, Tryd.ntmps52
 go_wp2_with (first | ((with_reducible refine gate_dst (N := 2) rfl ?_); refine be_ (N := 2) (cs := #[.int .i64 0, .int .u64 0]) (t := 63) ?_; intro gb162 hg w2 hbox hb; have n0_ := Aside0.mk (below_step (qb_ HB.out) hb); have n1_ := Aside0.mk (hbox); have n2_ := Aside0.mk (bz_ hg (qb_ HB.out) : w.heap.size ≤ gb162); have n3_ := n2_; clear HB; have HB := n0_; have BK162 := n1_; have GW162 := n2_; have GE162 := n3_; clear n0_ n1_ n2_ n3_; clear hb hbox hg; obtain ⟨Z3_0, Z3_1, Y3_0, Y3_1⟩ := cz2_ BK162.out))
 refine bodyPost_ret (results_cell_row rfl _ _ gb162 63 #[.int .i64 (a0 / 9223372036854775808), .int .u64 (IntKind.u64.wrap (a0))] (0, 0) _ rfl (qpp_ #[.int .i64 (a0 / 9223372036854775808), .int .u64 0] 1 #[.int .i64 0, .int .u64 0] 0 BK162.out) Tryd.underlying63 rfl (by kernel_rfl)) rfl ?_
 exact ⟨qe_, qb1_ GE162.out HB.out⟩
def wide_Of.f (a0 : Int) : Option (Int × Int) := if inI a0 then some (a0 / 18446744073709551616, a0 % 18446744073709551616) else none
theorem wide_Of.eq {a : Int} {r : Int × Int} (h : wide_Of.f a = some r) : wide_OfP.f a = some r := by
 unfold wide_Of.f at h
 split at h
 ·rename_i c
  obtain ⟨c0, c1⟩ := c
  injection h with h
  subst h
  unfold wide_OfP.f
  simp only [IntKind.wrap_u64]
  congr 2
  omega
 ·cases h
theorem wide_Of.calls (a0 r1 r2 : Int) (w : World) (h : wide_Of.f a0 = some (r1, r2)) :
  Calls Tryd.prog 52 #[.int .i64 a0] w fun e w' => e = .returned (.agg #[.int .i64 r1, .int .u64 r2]) ∧ Below w.heap.size w w' := by
 have h := wide_Of.eq h
 exact wide_OfP.calls a0 r1 r2 w h
end Go.Proofs.YtjkjiibhdpcpkaaDoor.PS
end
section
namespace Go.Proofs.YtjkjiibhdpcpkaaDoor.PS
open Go.RowKit Go.Proofs.YtjkjiibhdpcpkaaDoorW.PrintWords Go.Proofs.YtjkjiibhdpcpkaaDoorW.PrintLast
set_option linter.unusedVariables false
set_option linter.unusedSimpArgs false
theorem eqA63 (d : Nat) (w : World) (x0 y0 : Int) (x1 y1 : Int) :
    (Op.equalIn (d + 2) 63 (.agg #[.int .i64 x0, .int .u64 x1]) (.agg #[.int .i64 y0, .int .u64 y1])).run Tryd.prog w = .ok (x0 == y0 && (x1 == y1)) w := by
  refine eqA_of Tryd.underlying63 (by kernel_rfl) ?_
  refine eqf_cons (by rfl) (by go_simp; rfl) (by go_simp; rfl) (by go_simp) ?_
  exact eqf_last (by rfl) (by go_simp; rfl) (by go_simp; rfl) (by go_simp)
end Go.Proofs.YtjkjiibhdpcpkaaDoor.PS
end
