import Derived.Test.YtjkjiibhdpcpkaaDoorQRm2
import Derived.Test.YtjkjiibhdpcpkaaDoorQRm3
import Derived.Test.YtjkjiibhdpcpkaaDoorQRm4
import Derived.Test.YtjkjiibhdpcpkaaDoorQRm6
import Derived.Test.YtjkjiibhdpcpkaaDoorQRm8
import Derived.Test.YtjkjiibhdpcpkaaDoorQRm9
import Derived.Test.YtjkjiibhdpcpkaaDoorQRm10
import Derived.Test.YtjkjiibhdpcpkaaDoorQRm11
section
namespace Go.Proofs.YtjkjiibhdpcpkaaDoor.PS
open Go.RowKit Go.Proofs.YtjkjiibhdpcpkaaDoorW.PrintWords Go.Proofs.YtjkjiibhdpcpkaaDoorW.PrintLast
set_option linter.unusedVariables false
set_option linter.unusedSimpArgs false
def corebankref01_Scale.f (a0_0 a0_1 a1 : Int) : Option (Int × Int × Int) :=
 if isW a0_0 a0_1 ∧ inI a1 then some (if in128 (wv a0_0 a0_1 * a1) then (wv a0_0 a0_1 * a1 / 18446744073709551616, wv a0_0 a0_1 * a1 % 18446744073709551616, 0) else (0, 0, 6)) else none
theorem mul_abs' (v n : Int) : (if v < 0 then -v else v) * (if n < 0 then -n else n) = (if (decide (v < 0) != decide (n < 0)) = true then -(v * n) else v * n) ∧ 0 ≤ (if v < 0 then -v else v) * (if n < 0 then -n else n) := by
 have h0 : 0 ≤ (if v < 0 then -v else v) := by split <;> omega
 have h1 : 0 ≤ (if n < 0 then -n else n) := by split <;> omega
 refine ⟨?_, Int.mul_nonneg h0 h1⟩
 by_cases ha : v < 0 <;> by_cases hb : n < 0 <;> simp [ha, hb, Int.neg_mul, Int.mul_neg]
theorem corebankref01_Scale.eq {a b n : Int} {r : Int × Int × Int} (h : corebankref01_Scale.f a b n = some r) : ∃ k, corebankref01_ScaleP.f k a b n = some r := by
 unfold corebankref01_Scale.f at h
 split at h
 ·rename_i q
  obtain ⟨⟨⟨a0, a1⟩, b0, b1⟩, n0, n1⟩ := q
  injection h with h
  subst h
  refine ⟨1, ?_⟩
  unfold corebankref01_ScaleP.f corebankref01_Split.f corebankref01_size.f
  have hW : isW a b := ⟨⟨a0, a1⟩, b0, b1⟩
  have hI : inI n := ⟨n0, n1⟩
  rw [if_pos hW, if_pos hI]
  simp only [Option.bind_some]
  have hv : wv a b = a * 18446744073709551616 + b := rfl
  have hs : decide (a < 0) = decide (wv a b < 0) := by apply decide_eq_decide.mpr; omega
  have hm : (if a < 0 then -(wv a b) else wv a b) = (if wv a b < 0 then -(wv a b) else wv a b) := by split <;> split <;> omega
  rw [hm, hs]
  have mr : 0 ≤ (if wv a b < 0 then -(wv a b) else wv a b) ∧ (if wv a b < 0 then -(wv a b) else wv a b) ≤ 170141183460469231731687303715884105728 := by split <;> omega
  have nr : 0 ≤ (if n < 0 then -n else n) ∧ (if n < 0 then -n else n) ≤ 9223372036854775808 := by split <;> omega
  obtain ⟨z1, z2⟩ := mul_abs' (wv a b) n
  generalize wv a b = v at *
  generalize (if v < 0 then -v else v) = M at *
  generalize (if n < 0 then -n else n) = N at *
  have hU : (inU (M / 18446744073709551616) ∧ inU (M % 18446744073709551616)) ∧ inU N := ⟨⟨by unfold inU; omega, by unfold inU; omega⟩, by unfold inU; omega⟩
  have hwM : wv (M / 18446744073709551616) (M % 18446744073709551616) = M := by unfold wv; omega
  unfold corebankref01_times.f
  rw [if_pos hU, hwM]
  simp only [Option.bind_some]
  unfold corebankref01_Join.f
  have hU2 : inU (M * N / 18446744073709551616 % 18446744073709551616) ∧ inU (M * N % 18446744073709551616) := ⟨by unfold inU; omega, by unfold inU; omega⟩
  have hw2 : wv (M * N / 18446744073709551616 % 18446744073709551616) (M * N % 18446744073709551616) = M * N % 340282366920938463463374607431768211456 := by unfold wv; omega
  rw [if_pos hU2, hw2]
  simp only [Option.bind_some]
  generalize (decide (v < 0) != decide (n < 0)) = sg at *
  have hvn : v * n = if sg = true then -(M * N) else M * N := by split at z1 <;> split <;> simp_all
  rw [hvn]
  generalize M * N = V at *
  by_cases hV : V < 340282366920938463463374607431768211456
  ·rw [if_pos (decide_eq_true hV), Int.emod_eq_of_lt z2 hV]
   simp only [corebankref01_ScaleP.j0]
   by_cases hin : in128 (if sg = true then -V else V)
   ·rw [if_pos hin, decide_eq_true hin, if_neg (by decide)]
    have : wrap64 ((if sg = true then -V else V) / 18446744073709551616) = (if sg = true then -V else V) / 18446744073709551616 := i64_id _ (by unfold in128 at hin; omega) (by unfold in128 at hin; omega)
    rw [this]
   ·rw [if_neg hin, decide_eq_false hin, if_pos (by decide)]
  ·rw [if_neg (by simpa using hV)]
   simp only [corebankref01_ScaleP.j0]
   rw [if_pos trivial, if_neg (by unfold in128; split <;> omega)]
 ·cases h
theorem corebankref01_Scale.calls (a0_0 a0_1 a1 r1 r2 r3 : Int) (w : World) (h : corebankref01_Scale.f a0_0 a0_1 a1 = some (r1, r2, r3)) :
  Calls Tryd.prog 64 #[.agg #[.int .i64 a0_0, .int .u64 a0_1], .int .i64 a1] w fun e w' => e = .returned (.tuple #[.agg #[.int .i64 r1, .int .u64 r2], .int .i64 r3]) ∧ Below w.heap.size w w' := by
 obtain ⟨k, h⟩ := corebankref01_Scale.eq h
 exact corebankref01_ScaleP.calls k a0_0 a0_1 a1 r1 r2 r3 w h
def corebankref01_MulP.f (a0 a1 : Int) : Option (Int × Int) := (corebankref01_Of.f a0).bind fun bt400 => ((corebankref01_Scale.f bt400.1 bt400.2 a1).bind fun bt402 => (some (bt402.1, bt402.2.1)))
set_option maxHeartbeats 8000000 in
set_option maxRecDepth 100000 in
theorem corebankref01_MulP.calls (a0 a1 r1 r2 : Int) (w : World) (h : corebankref01_MulP.f a0 a1 = some (r1, r2)) :
  Calls Tryd.prog 47 #[.int .i64 a0, .int .i64 a1] w fun e w' => e = .returned (.agg #[.int .i64 r1, .int .u64 r2]) ∧ Below w.heap.size w w' := by
 have hu63 := Tryd.underlying63
 have HB := Aside0.mk (Below.refl w.heap.size w)
 have H : ((corebankref01_Of.f a0).bind fun bt400 => ((corebankref01_Scale.f bt400.1 bt400.2 a1).bind fun bt402 => (some (bt402.1, bt402.2.1)))) = some (r1, r2) := h
 clear h
 replace H := Option.bind_eq_some_iff.mp H
 obtain ⟨⟨t400, t401⟩, A30, H⟩ := H
 replace H : ((corebankref01_Scale.f t400 t401 a1).bind fun bt402 => (some (bt402.1, bt402.2.1))) = some (r1, r2) := H
 have A3 := Aside0.mk A30
 clear A30
 replace H := Option.bind_eq_some_iff.mp H
 obtain ⟨⟨t402, t403, t404⟩, A40, H⟩ := H
 replace H : (some (t402, t403)) = some (r1, r2) := H
 have A4 := Aside0.mk A40
 clear A40
 simp only [Option.some.injEq, Prod.mk.injEq] at H
 obtain ⟨rfl, rfl⟩ := H
 go_enter Tryd.func47, Tryd.ntmps47
 go_wp2_with (first | ((with_reducible refine gate_dst (N := 4) rfl ?_); refine be_ (N := 4) (cs := #[.int .i64 0, .int .u64 0]) (t := 63) ?_; intro gb399 hg w5 hbox hb; have n0_ := Aside0.mk (below_step (qb_ HB.out) hb); have n1_ := Aside0.mk (hbox); have n2_ := Aside0.mk (bz_ hg (qb_ HB.out) : w.heap.size ≤ gb399); have n3_ := n2_; clear HB; have HB := n0_; have BK399 := n1_; have GW399 := n2_; have GE399 := n3_; clear n0_ n1_ n2_ n3_; clear hb hbox hg) | ((with_reducible refine gate_callee (f := 62) rfl ?_); refine goesL_ (some 9) rfl rfl Tryd.func62 (by kernel_rfl) rfl #[.int .i64 a0] rfl ql_ ?_; (with_reducible refine (corebankref01_Of.calls a0 t400 t401 _ A3.out).mono ?_); rintro e w6 ⟨rfl, hb⟩; refine ⟨_, rfl, ?_⟩; have n0_ := Aside0.mk (blk_below (qk_ BK399.out) hb); have n1_ := Aside0.mk (below_step (qb1_ GE399.out HB.out) hb); clear BK399; clear HB; have BK399 := n0_; have HB := n1_; clear n0_ n1_; (try clear hb); (try clear hb2); (try clear hk); (try clear hi)) | ((with_reducible refine gate_callee (f := 64) rfl ?_); refine goesL_ (some 11) rfl rfl Tryd.func64 (by kernel_rfl) rfl #[.agg #[.int .i64 t400, .int .u64 t401], .int .i64 a1] rfl ql_ ?_; (with_reducible refine (corebankref01_Scale.calls t400 t401 a1 t402 t403 t404 _ A4.out).mono ?_); rintro e w7 ⟨rfl, hb⟩; refine ⟨_, rfl, ?_⟩; have n0_ := Aside0.mk (blk_below (qk_ BK399.out) hb); have n1_ := Aside0.mk (below_step (qb1_ GE399.out HB.out) hb); clear BK399; clear HB; have BK399 := n0_; have HB := n1_; clear n0_ n1_; (try clear hb); (try clear hb2); (try clear hk); (try clear hi)) | ((with_reducible refine gate_dst (N := 5) rfl ?_); refine be_ (N := 5) (cs := #[.int .i64 0, .int .u64 0]) (t := 63) ?_; intro gb405 hg w8 hbox hb; have n0_ := Aside0.mk (blk_below (qk_ BK399.out) hb); have n1_ := Aside0.mk (below_step (qb1_ GE399.out HB.out) hb); have n2_ := Aside0.mk (hbox); have n3_ := Aside0.mk (bz_ hg (qb1_ GE399.out HB.out) : w.heap.size ≤ gb405); have n4_ := n3_; have n5_ := Aside0.mk (nl_ hg (qk_ BK399.out) : gb399 ≠ gb405); have n6_ := Aside0.mk (ng_ hg (qk_ BK399.out) : gb405 ≠ gb399); clear BK399; clear HB; have BK399 := n0_; have HB := n1_; have BK405 := n2_; have GW405 := n3_; have GE405 := n4_; have NB399_405 := n5_; have NB405_399 := n6_; clear n0_ n1_ n2_ n3_ n4_ n5_ n6_; clear hb hbox hg; have hnb9 := NB405_399.out; have hnc9 := NB399_405.out; obtain ⟨Z10_0, Z10_1, Y10_0, Y10_1⟩ := cz2_ BK405.out; obtain ⟨Z11_0, Z11_1, Y11_0, Y11_1⟩ := cz2_ BK399.out))
 refine bodyPost_ret (results_cell_row rfl _ _ gb399 63 #[.int .i64 t402, .int .u64 t403] (0, 0) _ rfl (qppff_ #[.int .i64 t402, .int .u64 0] 1 #[.int .i64 0, .int .u64 0] 0 NB399_405.out NB399_405.out BK399.out) Tryd.underlying63 rfl (by kernel_rfl)) rfl ?_
 exact ⟨qe_, qb2_ GE399.out GE405.out HB.out⟩
def corebankref01_Mul.f (a0 a1 : Int) : Option (Int × Int) := if inI a0 ∧ inI a1 then some (a0 * a1 / 18446744073709551616, a0 * a1 % 18446744073709551616) else none
theorem corebankref01_Mul.eq {a b : Int} {r : Int × Int} (h : corebankref01_Mul.f a b = some r) : corebankref01_MulP.f a b = some r := by
 unfold corebankref01_Mul.f at h
 split at h
 ·rename_i q
  obtain ⟨⟨a0, a1⟩, b0, b1⟩ := q
  injection h with h
  subst h
  unfold corebankref01_MulP.f corebankref01_Of.f
  have hA : inI a := ⟨a0, a1⟩
  have hB : inI b := ⟨b0, b1⟩
  rw [if_pos hA]
  simp only [Option.bind_some]
  have hw : wv (a / 18446744073709551616) (a % 18446744073709551616) = a := by unfold wv; omega
  have hW : isW (a / 18446744073709551616) (a % 18446744073709551616) := ⟨by unfold inI; omega, by unfold inU; omega⟩
  obtain ⟨z1, z2, z3⟩ := mul_abs a b a0 a1 b0 b1
  generalize (if a < 0 then -a else a) * (if b < 0 then -b else b) = e at z1 z2 z3
  have hin : in128 (a * b) := by unfold in128; split at z1 <;> omega
  unfold corebankref01_Scale.f
  rw [if_pos ⟨hW, hB⟩, hw, if_pos hin]
  rfl
 ·cases h
theorem corebankref01_Mul.calls (a0 a1 r1 r2 : Int) (w : World) (h : corebankref01_Mul.f a0 a1 = some (r1, r2)) :
  Calls Tryd.prog 47 #[.int .i64 a0, .int .i64 a1] w fun e w' => e = .returned (.agg #[.int .i64 r1, .int .u64 r2]) ∧ Below w.heap.size w w' := by
 have h := corebankref01_Mul.eq h
 exact corebankref01_MulP.calls a0 a1 r1 r2 w h
def corebankref02_PercentP.j0 : Nat → Int → Int → Int → Bool → Option (Int × Int)
 | 0, _, _, _, _ => none
 | k + 1, x0, x1, x2, x18 => if x18 = true then (some (0, 1)) else ((corebankref01_Mul.f x0 x1).bind fun bt407 => ((corebankref02_Divide.f bt407.1 bt407.2 1000000 x2).bind fun bt409 => (some (bt409.1, bt409.2))))
def corebankref02_PercentP.f (k : Nat) (a0 a1 a2 : Int) : Option (Int × Int) := (corebankref02_Good.f a0).bind fun t406 => (if t406 = true then (if a1 < 0 then (corebankref02_PercentP.j0 k a0 a1 a2 true) else (corebankref02_PercentP.j0 k a0 a1 a2 (decide (a1 > 1000000)))) else (corebankref02_PercentP.j0 k a0 a1 a2 true))
set_option maxHeartbeats 8000000 in
set_option maxRecDepth 100000 in
theorem corebankref02_PercentP.calls (k : Nat) (a0 a1 a2 r1 r2 : Int) (w : World) (h : corebankref02_PercentP.f k a0 a1 a2 = some (r1, r2)) :
  Calls Tryd.prog 31 #[.int .i64 a0, .int .i64 a1, .int .i64 a2] w fun e w' => e = .returned (.tuple #[.int .i64 r1, .int .i64 r2]) ∧ Below w.heap.size w w' := by
 have HB := Aside0.mk (Below.refl w.heap.size w)
 have H : ((corebankref02_Good.f a0).bind fun t406 => (if t406 = true then (if a1 < 0 then (corebankref02_PercentP.j0 k a0 a1 a2 true) else (corebankref02_PercentP.j0 k a0 a1 a2 (decide (a1 > 1000000)))) else (corebankref02_PercentP.j0 k a0 a1 a2 true))) = some (r1, r2) := h
 clear h
 have HC4 := Aside0.mk H
 clear H
 go_enter Tryd.func31, Tryd.ntmps31
 go_upto_region 1 with (fail)
 go_cut [18] (fun v18 wc => ∃ (kq : Nat) (x18_3 : Bool), v18 = .bool x18_3 ∧ Aside0 (corebankref02_PercentP.j0 kq a0 a1 a2 x18_3 = some (r1, r2)) ∧ Aside0 (kq ≤ k) ∧ Aside0 (Below w.heap.size w wc))
 case first =>
  have H := HC4.out
  clear HC4
  replace H := Option.bind_eq_some_iff.mp H
  obtain ⟨t406, A50, H⟩ := H
  replace H : (if t406 = true then (if a1 < 0 then (corebankref02_PercentP.j0 k a0 a1 a2 true) else (corebankref02_PercentP.j0 k a0 a1 a2 (decide (a1 > 1000000)))) else (corebankref02_PercentP.j0 k a0 a1 a2 true)) = some (r1, r2) := H
  have A5 := Aside0.mk A50
  clear A50
  by_cases c6 : t406 = true
  ·subst c6
   have H1 : (if a1 < 0 then (corebankref02_PercentP.j0 k a0 a1 a2 true) else (corebankref02_PercentP.j0 k a0 a1 a2 (decide (a1 > 1000000)))) = some (r1, r2) := by rw [if_pos rfl] at H; exact H
   clear H
   have H := H1
   clear H1
   by_cases c7 : a1 < 0
   ·rw [if_pos c7] at H
    have c7b0 : decide (a1 < 0) = true := decide_eq_true c7
    clear c7
    (first | rw [c7b0] | (simp only [i64_w, i32_w]; rw [c7b0]) | skip)
    have H' := Aside0.mk H
    clear H
    go_wp2_with (first | ((with_reducible refine gate_callee (f := 23) rfl ?_); refine goesL_ (some 9) rfl rfl Tryd.func23 (by kernel_rfl) rfl #[.int .i64 a0] rfl ql_ ?_; (with_reducible refine (corebankref02_Good.calls a0 true _ A5.out).mono ?_); rintro e w' ⟨rfl, ⟨nd, rfl⟩⟩; refine ⟨_, rfl, ?_⟩))
    go_meet
    case rel => exact ⟨_, (true), qs_, H', ⟨qo_⟩, ⟨qb_ HB.out⟩⟩
   ·rw [if_neg c7] at H
    have c7b0 : decide (a1 < 0) = false := decide_eq_false c7
    clear c7
    (first | rw [c7b0] | (simp only [i64_w, i32_w]; rw [c7b0]) | skip)
    have H' := Aside0.mk H
    clear H
    go_wp2_with (first | ((with_reducible refine gate_callee (f := 23) rfl ?_); refine goesL_ (some 9) rfl rfl Tryd.func23 (by kernel_rfl) rfl #[.int .i64 a0] rfl ql_ ?_; (with_reducible refine (corebankref02_Good.calls a0 true _ A5.out).mono ?_); rintro e w' ⟨rfl, ⟨nd, rfl⟩⟩; refine ⟨_, rfl, ?_⟩))
    go_meet
    case rel => exact ⟨_, (decide (a1 > 1000000)), qs_, H', ⟨qo_⟩, ⟨qb_ HB.out⟩⟩
  ·replace c6 := Bool.eq_false_iff.mpr c6
   subst c6
   have H1 : (corebankref02_PercentP.j0 k a0 a1 a2 true) = some (r1, r2) := by rw [if_neg (show ¬ (false = true) by decide)] at H; exact H
   clear H
   have H := H1
   clear H1
   have H' := Aside0.mk H
   clear H
   go_wp2_with (first | ((with_reducible refine gate_callee (f := 23) rfl ?_); refine goesL_ (some 9) rfl rfl Tryd.func23 (by kernel_rfl) rfl #[.int .i64 a0] rfl ql_ ?_; (with_reducible refine (corebankref02_Good.calls a0 false _ A5.out).mono ?_); rintro e w' ⟨rfl, ⟨nd, rfl⟩⟩; refine ⟨_, rfl, ?_⟩))
   go_meet
   case rel => exact ⟨_, (true), qs_, H', ⟨qo_⟩, ⟨qb_ HB.out⟩⟩
 case rest =>
  clear HC4
  try clear c2
  try clear p2
  try clear c3
  try clear c6
  try clear c7
  try clear c7b0
  obtain ⟨kq, x18_3, rfl, HA, HJ3, HB⟩ := hcut
  cases kq with
  | zero => exact absurd HA.out (by simp [corebankref02_PercentP.j0])
  | succ kj3 =>
   have H := HA.out
   clear HA
   simp only [corebankref02_PercentP.j0] at H
   by_cases c8 : x18_3 = true
   ·subst c8
    have H1 : (some (0, 1)) = some (r1, r2) := by rw [if_pos rfl] at H; exact H
    clear H
    have H := H1
    clear H1
    simp only [Option.some.injEq, Prod.mk.injEq] at H
    obtain ⟨rfl, rfl⟩ := H
    go_wp2
    go_ret2
    exact ⟨qe_, qb_ HB.out⟩
   ·replace c8 := Bool.eq_false_iff.mpr c8
    subst c8
    have H1 : ((corebankref01_Mul.f a0 a1).bind fun bt407 => ((corebankref02_Divide.f bt407.1 bt407.2 1000000 a2).bind fun bt409 => (some (bt409.1, bt409.2)))) = some (r1, r2) := by rw [if_neg (show ¬ (false = true) by decide)] at H; exact H
    clear H
    have H := H1
    clear H1
    replace H := Option.bind_eq_some_iff.mp H
    obtain ⟨⟨t407, t408⟩, A90, H⟩ := H
    replace H : ((corebankref02_Divide.f t407 t408 1000000 a2).bind fun bt409 => (some (bt409.1, bt409.2))) = some (r1, r2) := H
    have A9 := Aside0.mk A90
    clear A90
    replace H := Option.bind_eq_some_iff.mp H
    obtain ⟨⟨t409, t410⟩, A100, H⟩ := H
    replace H : (some (t409, t410)) = some (r1, r2) := H
    have A10 := Aside0.mk A100
    clear A100
    simp only [Option.some.injEq, Prod.mk.injEq] at H
    obtain ⟨rfl, rfl⟩ := H
    go_wp2_with (first | ((with_reducible refine gate_callee (f := 47) rfl ?_); refine goesL_ (some 21) rfl rfl Tryd.func47 (by kernel_rfl) rfl #[.int .i64 a0, .int .i64 a1] rfl ql_ ?_; (with_reducible refine (corebankref01_Mul.calls a0 a1 t407 t408 _ A9.out).mono ?_); rintro e w11 ⟨rfl, hb⟩; refine ⟨_, rfl, ?_⟩; have n0_ := Aside0.mk (below_step (qb_ HB.out) hb); clear HB; have HB := n0_; clear n0_; (try clear hb); (try clear hb2); (try clear hk); (try clear hi)) | ((with_reducible refine gate_callee (f := 46) rfl ?_); refine goesL_ (some 23) rfl rfl Tryd.func46 (by kernel_rfl) rfl #[.agg #[.int .i64 t407, .int .u64 t408], .int .i64 1000000, .int .i64 a2] rfl ql_ ?_; (with_reducible refine (corebankref02_Divide.calls t407 t408 1000000 a2 t409 t410 _ A10.out).mono ?_); rintro e w12 ⟨rfl, hb⟩; refine ⟨_, rfl, ?_⟩; have n0_ := Aside0.mk (below_step (qb_ HB.out) hb); clear HB; have HB := n0_; clear n0_; (try clear hb); (try clear hb2); (try clear hk); (try clear hi)))
    go_ret2
    exact ⟨qe_, qb_ HB.out⟩
def corebankref02_Percent.f (a0 a1 a2 : Int) : Option (Int × Int) := some (pctR a0 a1 a2)
theorem corebankref02_Percent.eq {a p m : Int} {r : Int × Int} (h : corebankref02_Percent.f a p m = some r) : ∃ k, corebankref02_PercentP.f k a p m = some r := by
 unfold corebankref02_Percent.f at h
 rw [← h]
 refine ⟨1, ?_⟩
 unfold corebankref02_PercentP.f corebankref02_Good.f pctR
 simp only [corebankref02_PercentP.j0]
 by_cases h0 : a ≥ -1000000000000 <;> by_cases h1 : a ≤ 1000000000000
 ·rw [if_pos h0, decide_eq_true h1]
  simp only [Option.bind_some, if_true]
  by_cases h2 : p < 0
  ·rw [if_pos h2, if_neg (by omega)]
  ·rw [if_neg h2]
   by_cases h3 : p > 1000000
   ·rw [decide_eq_true h3, if_pos rfl, if_neg (by omega)]
   ·rw [decide_eq_false h3, if_neg (by decide)]
    have hr := pct_range (a := a) (p := p) ⟨h0, h1, by omega, by omega⟩
    rw [if_pos ⟨h0, h1, by omega, by omega⟩]
    unfold corebankref01_Mul.f
    rw [if_pos ⟨by unfold inI; omega, by unfold inI; omega⟩]
    simp only [Option.bind_some]
    unfold corebankref02_Divide.f
    rw [if_pos ⟨⟨by unfold inI; omega, by unfold inU; omega⟩, by decide⟩]
    simp only [Option.bind_some]
    have hw : wv (a * p / 18446744073709551616) (a * p % 18446744073709551616) = a * p := by unfold wv; omega
    rw [hw]
 ·have hn : ¬ (-1000000000000 ≤ a ∧ a ≤ 1000000000000 ∧ 0 ≤ p ∧ p ≤ 1000000) := by omega
  rw [if_pos h0, decide_eq_false h1, if_neg hn]
  rfl
 ·have hn : ¬ (-1000000000000 ≤ a ∧ a ≤ 1000000000000 ∧ 0 ≤ p ∧ p ≤ 1000000) := by omega
  rw [if_neg h0, if_neg hn]
  rfl
 ·have hn : ¬ (-1000000000000 ≤ a ∧ a ≤ 1000000000000 ∧ 0 ≤ p ∧ p ≤ 1000000) := by omega
  rw [if_neg h0, if_neg hn]
  rfl
theorem corebankref02_Percent.calls (a0 a1 a2 r1 r2 : Int) (w : World) (h : corebankref02_Percent.f a0 a1 a2 = some (r1, r2)) :
  Calls Tryd.prog 31 #[.int .i64 a0, .int .i64 a1, .int .i64 a2] w fun e w' => e = .returned (.tuple #[.int .i64 r1, .int .i64 r2]) ∧ Below w.heap.size w w' := by
 obtain ⟨k, h⟩ := corebankref02_Percent.eq h
 exact corebankref02_PercentP.calls k a0 a1 a2 r1 r2 w h
def corebankref38_Expected.f (k : Nat) (a0_0 a0_1 a0_2 a0_3 a0_4 a0_5 a0_6 a0_7 a0_8 a0_9 a0_10 a0_11 a0_12 a0_13 a0_14 a0_15 a0_16 a0_17 a0_18 a0_19 a0_20 : Int) (a0_21 a0_22 : ByteArray) (l0_23 : List (S54)) (l0_24 : List (S50)) (a1 : Int) : Option (Int × Int) := (corebankref34_Outstanding.f k a0_0 a0_1 a0_2 a0_3 a0_4 a0_5 a0_6 a0_7 a0_8 a0_9 a0_10 a0_11 a0_12 a0_13 a0_14 a0_15 a0_16 a0_17 a0_18 a0_19 a0_20 a0_21 a0_22 l0_23 l0_24).bind fun t412 => ((corebankref38_Stage.f k a0_0 a0_1 a0_2 a0_3 a0_4 a0_5 a0_6 a0_7 a0_8 a0_9 a0_10 a0_11 a0_12 a0_13 a0_14 a0_15 a0_16 a0_17 a0_18 a0_19 a0_20 a0_21 a0_22 l0_23 l0_24 a1).bind fun t413 => ((corebankref38_Rate.f t413).bind fun t414 => ((corebankref02_Percent.f t412 t414 2).bind fun bt415 => (some (bt415.1, bt415.2)))))
def corebankref38_Expected.T1 : Bool × List (List Nat × List Nat) := (true, [([], []), ([0], [0]), ([], []), ([], []), ([2, 3, 1], [2, 3]), ([4, 4], [4]), ([1, 5, 5], [1, 5]), ([6], [6]), ([6], [6]), ([7, 6, 0, 1, 2, 3, 4, 5, 6, 7, 8], [7]), ([8, 9, 0, 1, 2, 3, 4, 5, 6, 7, 8, 9], [8])])
def corebankref38_Expected.B1 : List Nat := [0, 1, 0, 0, 15, 31, 63, 127, 127, 511, 1023]
theorem corebankref38_Expected.tab1 : rtab .any (opsOf Tryd.f15 1) = corebankref38_Expected.T1 := by kernel_rfl
theorem corebankref38_Expected.bits1 : waitsOk corebankref38_Expected.T1.2 corebankref38_Expected.B1 = true := by kernel_rfl
set_option maxHeartbeats 8000000 in
set_option maxRecDepth 100000 in
theorem corebankref38_Expected.calls (k : Nat) (a0_0 a0_1 a0_2 a0_3 a0_4 a0_5 a0_6 a0_7 a0_8 a0_9 a0_10 a0_11 a0_12 a0_13 a0_14 a0_15 a0_16 a0_17 a0_18 a0_19 a0_20 : Int) (a0_21 a0_22 : ByteArray) (A0_23 : Option Addr) (c0_23 : Nat) (l0_23 : List (S54)) (A0_24 : Option Addr) (c0_24 : Nat) (l0_24 : List (S50)) (a1 r1 r2 : Int) (w : World) (hr0_23 : Kd.C k54 w A0_23 l0_23.length l0_23) (hc0_23 : l0_23.length ≤ c0_23) (hr0_24 : Kd.C k50 w A0_24 l0_24.length l0_24) (hc0_24 : l0_24.length ≤ c0_24) (h : corebankref38_Expected.f k a0_0 a0_1 a0_2 a0_3 a0_4 a0_5 a0_6 a0_7 a0_8 a0_9 a0_10 a0_11 a0_12 a0_13 a0_14 a0_15 a0_16 a0_17 a0_18 a0_19 a0_20 a0_21 a0_22 l0_23 l0_24 a1 = some (r1, r2)) :
  Calls Tryd.prog 15 #[.agg #[.int .i64 a0_0, .int .i64 a0_1, .int .i64 a0_2, .int .i64 a0_3, .int .i64 a0_4, .int .i64 a0_5, .int .i64 a0_6, .int .i64 a0_7, .int .i64 a0_8, .int .i64 a0_9, .int .i64 a0_10, .int .i64 a0_11, .int .i64 a0_12, .int .i64 a0_13, .int .i64 a0_14, .int .i64 a0_15, .int .i64 a0_16, .int .i64 a0_17, .int .i64 a0_18, .int .i64 a0_19, .int .i64 a0_20, .string a0_21, .string a0_22, .slice A0_23 l0_23.length c0_23, .slice A0_24 l0_24.length c0_24], .int .i64 a1] w fun e w' => e = .returned (.tuple #[.int .i64 r1, .int .i64 r2]) ∧ Below w.heap.size w w' := by
 have hu27 := Tryd.underlying27
 have HR0_23 := Aside0.mk hr0_23
 have HC0_23 := Aside0.mk hc0_23
 clear hr0_23 hc0_23
 have HR0_24 := Aside0.mk hr0_24
 have HC0_24 := Aside0.mk hc0_24
 clear hr0_24 hc0_24
 have HB := Aside0.mk (Below.refl w.heap.size w)
 have H : ((corebankref34_Outstanding.f k a0_0 a0_1 a0_2 a0_3 a0_4 a0_5 a0_6 a0_7 a0_8 a0_9 a0_10 a0_11 a0_12 a0_13 a0_14 a0_15 a0_16 a0_17 a0_18 a0_19 a0_20 a0_21 a0_22 l0_23 l0_24).bind fun t412 => ((corebankref38_Stage.f k a0_0 a0_1 a0_2 a0_3 a0_4 a0_5 a0_6 a0_7 a0_8 a0_9 a0_10 a0_11 a0_12 a0_13 a0_14 a0_15 a0_16 a0_17 a0_18 a0_19 a0_20 a0_21 a0_22 l0_23 l0_24 a1).bind fun t413 => ((corebankref38_Rate.f t413).bind fun t414 => ((corebankref02_Percent.f t412 t414 2).bind fun bt415 => (some (bt415.1, bt415.2)))))) = some (r1, r2) := h
 clear h
 replace H := Option.bind_eq_some_iff.mp H
 obtain ⟨t412, A30, H⟩ := H
 replace H : ((corebankref38_Stage.f k a0_0 a0_1 a0_2 a0_3 a0_4 a0_5 a0_6 a0_7 a0_8 a0_9 a0_10 a0_11 a0_12 a0_13 a0_14 a0_15 a0_16 a0_17 a0_18 a0_19 a0_20 a0_21 a0_22 l0_23 l0_24 a1).bind fun t413 => ((corebankref38_Rate.f t413).bind fun t414 => ((corebankref02_Percent.f t412 t414 2).bind fun bt415 => (some (bt415.1, bt415.2))))) = some (r1, r2) := H
 have A3 := Aside0.mk A30
 clear A30
 replace H := Option.bind_eq_some_iff.mp H
 obtain ⟨t413, A40, H⟩ := H
 replace H : ((corebankref38_Rate.f t413).bind fun t414 => ((corebankref02_Percent.f t412 t414 2).bind fun bt415 => (some (bt415.1, bt415.2)))) = some (r1, r2) := H
 have A4 := Aside0.mk A40
 clear A40
 replace H := Option.bind_eq_some_iff.mp H
 obtain ⟨t414, A50, H⟩ := H
 replace H : ((corebankref02_Percent.f t412 t414 2).bind fun bt415 => (some (bt415.1, bt415.2))) = some (r1, r2) := H
 have A5 := Aside0.mk A50
 clear A50
 replace H := Option.bind_eq_some_iff.mp H
 obtain ⟨⟨t415, t416⟩, A60, H⟩ := H
 replace H : (some (t415, t416)) = some (r1, r2) := H
 have A6 := Aside0.mk A60
 clear A60
 simp only [Option.some.injEq, Prod.mk.injEq] at H
 obtain ⟨rfl, rfl⟩ := H
 go_enter Tryd.func15, Tryd.ntmps15
 try go_wp2_with (first | ((with_reducible refine gate_load_ (t := 27) rfl ?_); refine ld_ (t := 27) (cs := ?cs_) Tryd.underlying27 rfl rfl rfl ?hb_ rfl ?hi_ ?_; (case hb_ => (repeat (first | (with_reducible first | refine blk_drewN ?_ _ | refine blk_drew ?_ | refine blk_alloc ?_ _) | refine blk_set ?_ _ _)); (with_reducible first | exact BK411.out)); (case hi_ => kernel_rfl)) | ((with_reducible refine gate_dst (N := 2) rfl ?_); refine be_ (N := 2) (cs := #[.int .i64 a0_0, .int .i64 a0_1, .int .i64 a0_2, .int .i64 a0_3, .int .i64 a0_4, .int .i64 a0_5, .int .i64 a0_6, .int .i64 a0_7, .int .i64 a0_8, .int .i64 a0_9, .int .i64 a0_10, .int .i64 a0_11, .int .i64 a0_12, .int .i64 a0_13, .int .i64 a0_14, .int .i64 a0_15, .int .i64 a0_16, .int .i64 a0_17, .int .i64 a0_18, .int .i64 a0_19, .int .i64 a0_20, .string a0_21, .string a0_22, .slice A0_23 l0_23.length c0_23, .slice A0_24 l0_24.length c0_24]) (t := 27) ?_; intro gb411 hg w7 hbox hb; have n0_ := Aside0.mk (below_step (qb_ HB.out) hb); have n1_ := Aside0.mk (hbox); have n2_ := Aside0.mk (bz_ hg (qb_ HB.out) : w.heap.size ≤ gb411); have n3_ := n2_; clear HB; have HB := n0_; have BK411 := n1_; have GW411 := n2_; have GE411 := n3_; clear n0_ n1_ n2_ n3_; clear hb hbox hg))
 have n0_ := Aside0.mk (blk_drew BK411.out)
 have n1_ := Aside0.mk (below_drew1 HB.out)
 clear BK411
 clear HB
 have BK411 := n0_
 have HB := n1_
 clear n0_ n1_
 refine start_ (n := 11) (S := cS25_ gb411 (.int .i64 a0_0) (.int .i64 a0_1) (.int .i64 a0_2) (.int .i64 a0_3) (.int .i64 a0_4) (.int .i64 a0_5) (.int .i64 a0_6) (.int .i64 a0_7) (.int .i64 a0_8) (.int .i64 a0_9) (.int .i64 a0_10) (.int .i64 a0_11) (.int .i64 a0_12) (.int .i64 a0_13) (.int .i64 a0_14) (.int .i64 a0_15) (.int .i64 a0_16) (.int .i64 a0_17) (.int .i64 a0_18) (.int .i64 a0_19) (.int .i64 a0_20) (.string a0_21) (.string a0_22) (.slice A0_23 l0_23.length c0_23) (.slice A0_24 l0_24.length c0_24)) (ds := []) (nb_ 11 0) (by kernel_rfl) rfl rfl (cc25_ BK411.out) (fun hHeld => ?_); refine with_tabW corebankref38_Expected.tab1 corebankref38_Expected.bits1 (fun HT_ HW_ => ?_)
 generalize w7.drew = w8 at BK411 HB hHeld ⊢
 refine pz_ 3 9 (nb_ 11 8) HT_.out ?_
 refine take_ (i := 0) (N := some 6) (v := ?_) (a' := ?_) (nb_ 11 9) rfl rfl (take_ofW HT_.out HW_.out (by kernel_rfl)) (fun _ _ _ h => h) (Or.inl ⟨by rfl, ?_⟩) hHeld ?_ ?_
 rotate_left
 ·rintro w' hs_
  first
  | (refine ldx_ (b := ?b_) ?ho_ ?hx_ (ldS_ hs_); (case ho_ => rfl); (case hx_ => rfl))
  | (obtain ⟨s0, s1, s2, s3, s4, s5, s6, s7, s8, s9, s10, s11, s12, s13, s14, s15, s16, s17, s18, s19, s20, s21, s22, s23, s24⟩ := hs_; go_simp; with_reducible rfl)
 rotate_left
 ·simp only [Act.put, List.setIfInBounds_toArray, List.set_cons_zero, List.set_cons_succ, i64_w, i32_w]
  rfl
 refine take_ (i := 2) (N := some 8) (v := ?_) (a' := ?_) (nb_ 11 13) rfl rfl (take_ofW HT_.out HW_.out (by kernel_rfl)) (fun _ _ _ h => h) (Or.inl ⟨by rfl, ?_⟩) hHeld ?_ ?_
 rotate_left
 ·rintro w' hs_
  first
  | (refine ldx_ (b := ?b_) ?ho_ ?hx_ (ldS_ hs_); (case ho_ => rfl); (case hx_ => rfl))
  | (obtain ⟨s0, s1, s2, s3, s4, s5, s6, s7, s8, s9, s10, s11, s12, s13, s14, s15, s16, s17, s18, s19, s20, s21, s22, s23, s24⟩ := hs_; go_simp; with_reducible rfl)
 rotate_left
 ·simp only [Act.put, List.setIfInBounds_toArray, List.set_cons_zero, List.set_cons_succ, i64_w, i32_w]
  rfl
 refine on_ 1 7 (nb_ 11 15) HT_.out (fun K hK => ?_)
 refine goes_ Tryd.func24 (by kernel_rfl) rfl #[.agg #[.int .i64 a0_0, .int .i64 a0_1, .int .i64 a0_2, .int .i64 a0_3, .int .i64 a0_4, .int .i64 a0_5, .int .i64 a0_6, .int .i64 a0_7, .int .i64 a0_8, .int .i64 a0_9, .int .i64 a0_10, .int .i64 a0_11, .int .i64 a0_12, .int .i64 a0_13, .int .i64 a0_14, .int .i64 a0_15, .int .i64 a0_16, .int .i64 a0_17, .int .i64 a0_18, .int .i64 a0_19, .int .i64 a0_20, .string a0_21, .string a0_22, .slice A0_23 l0_23.length c0_23, .slice A0_24 l0_24.length c0_24]] (by rfl) rfl rfl ql_ ?_
 with_reducible refine (corebankref34_Outstanding.calls k a0_0 a0_1 a0_2 a0_3 a0_4 a0_5 a0_6 a0_7 a0_8 a0_9 a0_10 a0_11 a0_12 a0_13 a0_14 a0_15 a0_16 a0_17 a0_18 a0_19 a0_20 a0_21 a0_22 _ _ l0_23 _ _ l0_24 t412 _ ?side1 ?side2 ?side3 ?side4 A3.out).mono ?_
 (case side1 => repeat (first | exact (Kd.C_below HR0_23.out HB.out) | (with_reducible refine Kd.C_alloc ?_ _) | (with_reducible refine Kd.C_drewN ?_ _) | (with_reducible refine Kd.C_drew ?_)))
 (case side2 => exact HC0_23.out)
 (case side3 => repeat (first | exact (Kd.C_below HR0_24.out HB.out) | (with_reducible refine Kd.C_alloc ?_ _) | (with_reducible refine Kd.C_drewN ?_ _) | (with_reducible refine Kd.C_drew ?_)))
 (case side4 => exact HC0_24.out)
 rintro e w9 ⟨rfl, hb⟩
 refine ⟨_, rfl, ?_⟩
 have n0_ := Aside0.mk (blk_below (qk_ BK411.out) hb)
 have n1_ := Aside0.mk (below_step (qb1_ GE411.out HB.out) hb)
 clear BK411
 clear HB
 have BK411 := n0_
 have HB := n1_
 clear n0_ n1_
 (try clear hb)
 (try clear hb2)
 (try clear hk)
 (try clear hi)
 refine hK.out _ _ (cc25_ BK411.out) (fun hHeld => ?_)
 clear hK K
 refine no_ ?_
 refine on_ 4 10 (nb_ 11 31) HT_.out (fun K hK => ?_)
 refine goes_ Tryd.func10 (by kernel_rfl) rfl #[.agg #[.int .i64 a0_0, .int .i64 a0_1, .int .i64 a0_2, .int .i64 a0_3, .int .i64 a0_4, .int .i64 a0_5, .int .i64 a0_6, .int .i64 a0_7, .int .i64 a0_8, .int .i64 a0_9, .int .i64 a0_10, .int .i64 a0_11, .int .i64 a0_12, .int .i64 a0_13, .int .i64 a0_14, .int .i64 a0_15, .int .i64 a0_16, .int .i64 a0_17, .int .i64 a0_18, .int .i64 a0_19, .int .i64 a0_20, .string a0_21, .string a0_22, .slice A0_23 l0_23.length c0_23, .slice A0_24 l0_24.length c0_24], .int .i64 a1] (by rfl) rfl rfl ql_ ?_
 with_reducible refine (corebankref38_Stage.calls k a0_0 a0_1 a0_2 a0_3 a0_4 a0_5 a0_6 a0_7 a0_8 a0_9 a0_10 a0_11 a0_12 a0_13 a0_14 a0_15 a0_16 a0_17 a0_18 a0_19 a0_20 a0_21 a0_22 _ _ l0_23 _ _ l0_24 a1 t413 _ ?side1 ?side2 ?side3 ?side4 A4.out).mono ?_
 (case side1 => repeat (first | exact (Kd.C_below HR0_23.out HB.out) | (with_reducible refine Kd.C_alloc ?_ _) | (with_reducible refine Kd.C_drewN ?_ _) | (with_reducible refine Kd.C_drew ?_)))
 (case side2 => exact HC0_23.out)
 (case side3 => repeat (first | exact (Kd.C_below HR0_24.out HB.out) | (with_reducible refine Kd.C_alloc ?_ _) | (with_reducible refine Kd.C_drewN ?_ _) | (with_reducible refine Kd.C_drew ?_)))
 (case side4 => exact HC0_24.out)
 rintro e w10 ⟨rfl, hb⟩
 refine ⟨_, rfl, ?_⟩
 have n0_ := Aside0.mk (blk_below (qk_ BK411.out) hb)
 have n1_ := Aside0.mk (below_step (qb1_ GE411.out HB.out) hb)
 clear BK411
 clear HB
 have BK411 := n0_
 have HB := n1_
 clear n0_ n1_
 (try clear hb)
 (try clear hb2)
 (try clear hk)
 (try clear hi)
 refine hK.out _ _ (cc25_ BK411.out) (fun hHeld => ?_)
 clear hK K
 refine no_ ?_
 refine on_ 5 11 (nb_ 11 63) HT_.out (fun K hK => ?_)
 refine goes_ Tryd.func12 (by kernel_rfl) rfl #[.int .i64 t413] (by rfl) rfl rfl ql_ ?_
 with_reducible refine (corebankref38_Rate.calls t413 t414 _ A5.out).mono ?_
 rintro e w' ⟨rfl, ⟨nd, rfl⟩⟩
 refine ⟨_, rfl, ?_⟩
 refine hK.out _ _ (cc25_ BK411.out) (fun hHeld => ?_)
 clear hK K
 refine no_ ?_
 refine on_ 6 12 (nb_ 11 127) HT_.out (fun K hK => ?_)
 refine goes_ Tryd.func31 (by kernel_rfl) rfl #[.int .i64 t412, .int .i64 t414, .int .i64 2] (by rfl) rfl rfl ql_ ?_
 with_reducible refine (corebankref02_Percent.calls t412 t414 2 t415 t416 _ A6.out).mono ?_
 rintro e w11 ⟨rfl, hb⟩
 refine ⟨_, rfl, ?_⟩
 have n0_ := Aside0.mk (blk_below (qk_ BK411.out) hb)
 have n1_ := Aside0.mk (below_step (qb1_ GE411.out HB.out) hb)
 clear BK411
 clear HB
 have BK411 := n0_
 have HB := n1_
 clear n0_ n1_
 (try clear hb)
 (try clear hb2)
 (try clear hk)
 (try clear hi)
 refine hK.out _ _ (cc25_ BK411.out) (fun hHeld => ?_)
 clear hK K
 refine no_ ?_
 refine pz_ 7 13 (nb_ 11 255) HT_.out ?_
 refine pz_ 8 14 (nb_ 11 511) HT_.out ?_
 refine pz_ 9 4 (nb_ 11 1023) HT_.out ?_
 refine pz_ 10 5 (nb_ 11 2047) HT_.out ?_
 refine done_ (done_of HT_.out (by kernel_rfl)) ?_
 try go_wp2
 go_ret2
 exact ⟨qe_, qb1_ GE411.out HB.out⟩
theorem k23_heap : Kd.Heap k23 := Kd.heap_iso _ (Kd.heap_pair (Kd.heap_int .i64) (Kd.heap_pair (Kd.heap_int .i64) (Kd.heap_pair (Kd.heap_int .i64) (Kd.heap_pair (Kd.heap_int .i64) (Kd.heap_pair (Kd.heap_int .i64) (Kd.heap_pair (Kd.heap_int .i64) (Kd.heap_pair (Kd.heap_int .i64) (Kd.heap_pair (Kd.heap_int .i64) (Kd.heap_pair (Kd.heap_int .i64) (Kd.heap_pair (Kd.heap_int .i64) (Kd.heap_pair Kd.heap_string Kd.heap_string)))))))))))
theorem k50_heap : Kd.Heap k50 := Kd.heap_iso _ (Kd.heap_pair (Kd.heap_int .i64) (Kd.heap_pair (Kd.heap_int .i64) k23_heap))
theorem k54_heap : Kd.Heap k54 := Kd.heap_iso _ (Kd.heap_pair (Kd.heap_int .i64) (Kd.heap_pair (Kd.heap_int .i64) (Kd.heap_pair (Kd.heap_int .i64) (Kd.heap_int .i64))))
theorem ldg43_ {P : Program} {ops : Array Oper} {rest : List Oper} {o : Oper} {a : Act} {Q : Exit → Act → World → Prop} {W : World} {t : TypeId} {b : Tmp} {g : Nat} {cs : Array Value} {d : TypeDesc} (hu : P.underlying t = some d) (ho : o.op = .load t (.tmp b)) (hw : Region.wanted o (yielded ops a.tmps) = true)
  (hx : a.eval (.tmp b) = .pointer (some ⟨g, 0, none⟩)) (hb : W.heap[g]? = some (.cells cs t (0, 0))) (hd : (match d with | .struct _ | .array _ _ => true | _ => false) = true) (hi : (P.info? t).map (·.size) = some cs.size)
  (h : wpList P ops Q rest (a.put o.dst (.agg cs)) W) : wpList P ops Q (o :: rest) a W := by
  refine BigFrame.wpList_want hw fun K hK => ?_
  have hl := ld_of_cells (P := P) (w := W) (g := g) (t := t) cs.toList (fun j v hv => by rw [cell_of_row W g j cs t (0, 0) hb]; simpa using hv) hu hd (by simpa using hi)
  have hr : (execOp a.eval o).run P W = .ok (.value (.agg cs)) W := ldx_ ho hx (by simpa using hl)
  unfold Oper.wp
  rw [hr]
  exact hK _ _ h
theorem st43b_ {B g : Nat} {w0 w : World} (hb : Below B w0 w) (hBg : B ≤ g) (cs : Array Value) : Below B w0 (w.setRow g cs) :=
  hb.trans ⟨rfl, rfl, rfl, by simp [World.setRow], fun k hk => setRow_other w g k cs (by omega)⟩
theorem st43_ {P : Program} {ops : Array Oper} {rest : List Oper} {o : Oper} {a : Act} {Q : Exit → Act → World → Prop} {W : World} {t : TypeId} {p : Tmp} {v : Operand} {g : Nat} {old : Array Value} (cs : Array Value)
  (ho : o.op = .store t (.tmp p) v) (hgd : o.guard = none) (hN : o.dst = none) (hx : a.eval (.tmp p) = .pointer (some ⟨g, 0, none⟩)) (hv : a.eval v = .agg cs) (hb : W.heap[g]? = some (.cells old t (0, 0)))
  (hi : (P.info? t).map (·.size) = some cs.size) (hs : old.size = cs.size) (h1 : cs.toList.all (·.oneCell') = true)
  (h : ∀ w', w'.heap[g]? = some (.cells cs t (0, 0)) → (∀ k, k ≠ g → w'.heap[k]? = W.heap[k]?) → (∀ (B : Nat) (w0 : World), Below B w0 W → B ≤ g → Below B w0 w') → wpList P ops Q rest a w') : wpList P ops Q (o :: rest) a W := by
  have hl := run_storeVar_row (P := P) W g t t old cs hb hi hs (by simpa using h1)
  refine store_event (t := t) (p := p) (v := v) (w1 := W.setRow g cs) hgd ho hN ?_ (fun w' e => by subst e; exact h _ (setRow_heap W g old cs t (0, 0) hb) (fun k hk => setRow_other W g k cs hk) (fun B w0 hB hg => st43b_ hB hg cs))
  unfold execOp
  simp only [ho, hx, hv]
  simp [Instr.storeAt, Instr.sureAddr, Sem.run_bind, hl, Result.andThen]
def corebankref38_Move.j0 : Nat → Int → Bool → Int → Int → Int → Int → Int → Int → Int → Int → Int → Int → Int → Int → Int → Int → Int → Int → Int → Int → Int → Int → Int → ByteArray → ByteArray → List (S54) → List (S50) → Option (Int × Int × Int × Int × Int × Int × Int × Int × Int × Int × Int × Int × Int × Int × Int × Int × Int × Int × Int × Int × Int × ByteArray × ByteArray × (List (S54)) × (List (S50)) × Int × Int)
 | 0, _, _, _, _, _, _, _, _, _, _, _, _, _, _, _, _, _, _, _, _, _, _, _, _, _, _, _ => none
 | k + 1, x1, x17, x418000, x418001, x418002, x418003, x418004, x418005, x418006, x418007, x418008, x418009, x418010, x418011, x418012, x418013, x418014, x418015, x418016, x418017, x418018, x418019, x418020, x418021, x418022, x418023, x418024 => if x17 = true then (some (0, 0, 0, 0, 0, 0, 0, 0, 0, 0, 0, 0, 0, 0, 0, 0, 0, 0, 0, 0, 0, (⟨#[]⟩ : ByteArray), (⟨#[]⟩ : ByteArray), ([] : List (S54)), ([] : List (S50)), 0, 1)) else ((corebankref38_Expected.f k x418000 x418001 x418002 x418003 x418004 x418005 x418006 x418007 x418008 x418009 x418010 x418011 x418012 x418013 x418014 x418015 x418016 x418017 x418018 x418019 x418020 x418021 x418022 x418023 x418024 x1).bind fun bt419 => (if bt419.2 = 0 then (some (x418000, x418001, x418002, x418003, x418004, x418005, x418006, x418007, bt419.1, x418009, x418010, x418011, x418012, x418013, x418014, x418015, x418016, x418017, x418018, x418019, x418020, x418021, x418022, x418023, x418024, wrap64 (bt419.1 - x418008), 0)) else (some (0, 0, 0, 0, 0, 0, 0, 0, 0, 0, 0, 0, 0, 0, 0, 0, 0, 0, 0, 0, 0, (⟨#[]⟩ : ByteArray), (⟨#[]⟩ : ByteArray), ([] : List (S54)), ([] : List (S50)), 0, bt419.2))))
def corebankref38_Move.f (k : Nat) (a0_0 a0_1 a0_2 a0_3 a0_4 a0_5 a0_6 a0_7 a0_8 a0_9 a0_10 a0_11 a0_12 a0_13 a0_14 a0_15 a0_16 a0_17 a0_18 a0_19 a0_20 : Int) (a0_21 a0_22 : ByteArray) (l0_23 : List (S54)) (l0_24 : List (S50)) (a1 : Int) : Option (Int × Int × Int × Int × Int × Int × Int × Int × Int × Int × Int × Int × Int × Int × Int × Int × Int × Int × Int × Int × Int × ByteArray × ByteArray × (List (S54)) × (List (S50)) × Int × Int) := if a0_8 < 0 then (corebankref38_Move.j0 k a1 true a0_0 a0_1 a0_2 a0_3 a0_4 a0_5 a0_6 a0_7 a0_8 a0_9 a0_10 a0_11 a0_12 a0_13 a0_14 a0_15 a0_16 a0_17 a0_18 a0_19 a0_20 a0_21 a0_22 l0_23 l0_24) else (corebankref38_Move.j0 k a1 (decide (a0_8 > 1000000000000)) a0_0 a0_1 a0_2 a0_3 a0_4 a0_5 a0_6 a0_7 a0_8 a0_9 a0_10 a0_11 a0_12 a0_13 a0_14 a0_15 a0_16 a0_17 a0_18 a0_19 a0_20 a0_21 a0_22 l0_23 l0_24)
set_option maxHeartbeats 8000000 in
set_option maxRecDepth 100000 in
theorem corebankref38_Move.calls (k : Nat) (a0_0 a0_1 a0_2 a0_3 a0_4 a0_5 a0_6 a0_7 a0_8 a0_9 a0_10 a0_11 a0_12 a0_13 a0_14 a0_15 a0_16 a0_17 a0_18 a0_19 a0_20 : Int) (a0_21 a0_22 : ByteArray) (P0_23_ : Nat → Prop) (A0_23 : Option Addr) (c0_23 : Nat) (l0_23 : List (S54)) (P0_24_ : Nat → Prop) (A0_24 : Option Addr) (c0_24 : Nat) (l0_24 : List (S50)) (a1 r1 r2 r3 r4 r5 r6 r7 r8 r9 r10 r11 r12 r13 r14 r15 r16 r17 r18 r19 r20 r21 : Int) (r22 r23 : ByteArray) (r24 : List (S54)) (r25 : List (S50)) (r26 r27 : Int) (w : World) (hs0_23 : Kd.V k54 54 w w.heap.size (fun k_ => P0_23_ k_) (.slice A0_23 l0_23.length c0_23) l0_23) (hs0_24 : Kd.V k50 50 w w.heap.size (fun k_ => P0_24_ k_) (.slice A0_24 l0_24.length c0_24) l0_24) (h : corebankref38_Move.f k a0_0 a0_1 a0_2 a0_3 a0_4 a0_5 a0_6 a0_7 a0_8 a0_9 a0_10 a0_11 a0_12 a0_13 a0_14 a0_15 a0_16 a0_17 a0_18 a0_19 a0_20 a0_21 a0_22 l0_23 l0_24 a1 = some (r1, r2, r3, r4, r5, r6, r7, r8, r9, r10, r11, r12, r13, r14, r15, r16, r17, r18, r19, r20, r21, r22, r23, r24, r25, r26, r27)) :
  Calls Tryd.prog 17 #[.agg #[.int .i64 a0_0, .int .i64 a0_1, .int .i64 a0_2, .int .i64 a0_3, .int .i64 a0_4, .int .i64 a0_5, .int .i64 a0_6, .int .i64 a0_7, .int .i64 a0_8, .int .i64 a0_9, .int .i64 a0_10, .int .i64 a0_11, .int .i64 a0_12, .int .i64 a0_13, .int .i64 a0_14, .int .i64 a0_15, .int .i64 a0_16, .int .i64 a0_17, .int .i64 a0_18, .int .i64 a0_19, .int .i64 a0_20, .string a0_21, .string a0_22, .slice A0_23 l0_23.length c0_23, .slice A0_24 l0_24.length c0_24], .int .i64 a1] w fun e w' => ∃ v23_ v24_ : Value, e = .returned (.tuple #[.agg #[.int .i64 r1, .int .i64 r2, .int .i64 r3, .int .i64 r4, .int .i64 r5, .int .i64 r6, .int .i64 r7, .int .i64 r8, .int .i64 r9, .int .i64 r10, .int .i64 r11, .int .i64 r12, .int .i64 r13, .int .i64 r14, .int .i64 r15, .int .i64 r16, .int .i64 r17, .int .i64 r18, .int .i64 r19, .int .i64 r20, .int .i64 r21, .string r22, .string r23, v23_, v24_], .int .i64 r26, .int .i64 r27]) ∧ Kd.V k54 54 w' w.heap.size (fun k_ => ((P0_23_ k_ ∨ P0_24_ k_) ∨ w.heap.size ≤ k_)) v23_ r24 ∧ Kd.V k50 50 w' w.heap.size (fun k_ => ((P0_23_ k_ ∨ P0_24_ k_) ∨ w.heap.size ≤ k_)) v24_ r25 ∧ Below w.heap.size w w' := by
 have hu27 := Tryd.underlying27
 have HO0_23 := Aside0.mk (show Kd.V k54 54 w w.heap.size (fun k_ => ((P0_23_ k_ ∨ P0_24_ k_) ∨ w.heap.size ≤ k_)) (.slice A0_23 l0_23.length c0_23) l0_23 from Kd.V_mono hs0_23 (fun k_ hk => .inl (.inl hk)))
 have HO0_24 := Aside0.mk (show Kd.V k50 50 w w.heap.size (fun k_ => ((P0_23_ k_ ∨ P0_24_ k_) ∨ w.heap.size ≤ k_)) (.slice A0_24 l0_24.length c0_24) l0_24 from Kd.V_mono hs0_24 (fun k_ hk => .inl (.inr hk)))
 have HB := Aside0.mk (Below.refl w.heap.size w)
 have H : (if a0_8 < 0 then (corebankref38_Move.j0 k a1 true a0_0 a0_1 a0_2 a0_3 a0_4 a0_5 a0_6 a0_7 a0_8 a0_9 a0_10 a0_11 a0_12 a0_13 a0_14 a0_15 a0_16 a0_17 a0_18 a0_19 a0_20 a0_21 a0_22 l0_23 l0_24) else (corebankref38_Move.j0 k a1 (decide (a0_8 > 1000000000000)) a0_0 a0_1 a0_2 a0_3 a0_4 a0_5 a0_6 a0_7 a0_8 a0_9 a0_10 a0_11 a0_12 a0_13 a0_14 a0_15 a0_16 a0_17 a0_18 a0_19 a0_20 a0_21 a0_22 l0_23 l0_24)) = some (r1, r2, r3, r4, r5, r6, r7, r8, r9, r10, r11, r12, r13, r14, r15, r16, r17, r18, r19, r20, r21, r22, r23, r24, r25, r26, r27) := h
 clear h
 have HC3 := Aside0.mk H
 clear H
 go_enter Tryd.func17, Tryd.ntmps17
 go_upto_region 1 with (first | ((with_reducible refine gate_load_ (t := 27) rfl ?_); refine ld_ (t := 27) Tryd.underlying27 rfl rfl rfl (by (repeat (first | (with_reducible first | refine blk_drewN ?_ _ | refine blk_drew ?_ | refine blk_alloc ?_ _) | refine blk_far ?_ NB417_418.out _ | refine blk_far ?_ NB418_417.out _ | refine blk_set ?_ _ _)); (with_reducible first | exact BK417.out | exact BK418.out)) rfl (by kernel_rfl) ?_) | ((with_reducible refine gate_load_ (t := 27) rfl ?_); refine ldg43_ (t := 27) Tryd.underlying27 rfl (by rfl) rfl (by (repeat (first | (with_reducible first | refine blk_drewN ?_ _ | refine blk_drew ?_ | refine blk_alloc ?_ _) | refine blk_far ?_ NB417_418.out _ | refine blk_far ?_ NB418_417.out _ | refine blk_set ?_ _ _)); (with_reducible first | exact BK417.out | exact BK418.out)) rfl (by kernel_rfl) ?_) | ((with_reducible refine gate_dst (N := 2) rfl ?_); refine be_ (N := 2) (cs := #[.int .i64 a0_0, .int .i64 a0_1, .int .i64 a0_2, .int .i64 a0_3, .int .i64 a0_4, .int .i64 a0_5, .int .i64 a0_6, .int .i64 a0_7, .int .i64 a0_8, .int .i64 a0_9, .int .i64 a0_10, .int .i64 a0_11, .int .i64 a0_12, .int .i64 a0_13, .int .i64 a0_14, .int .i64 a0_15, .int .i64 a0_16, .int .i64 a0_17, .int .i64 a0_18, .int .i64 a0_19, .int .i64 a0_20, .string a0_21, .string a0_22, .slice A0_23 l0_23.length c0_23, .slice A0_24 l0_24.length c0_24]) (t := 27) ?_; intro gb417 hg w4 hbox hb; have n0_ := Aside0.mk (Kd.V_below (Kd.V_elderB (by (with_reducible repeat (first | apply Kd.V_alloc | apply Kd.V_drewN | apply Kd.V_drew)); exact HO0_23.out) gb417 (Nat.le_of_eq hg.symm)) hb); have n1_ := Aside0.mk (Kd.V_below (Kd.V_elderB (by (with_reducible repeat (first | apply Kd.V_alloc | apply Kd.V_drewN | apply Kd.V_drew)); exact HO0_24.out) gb417 (Nat.le_of_eq hg.symm)) hb); have n2_ := Aside0.mk (below_step (qb_ HB.out) hb); have n3_ := Aside0.mk (hbox); have n4_ := Aside0.mk (bz_ hg (qb_ HB.out) : w.heap.size ≤ gb417); have n5_ := n4_; clear HO0_23; clear HO0_24; clear HB; have HO0_23 := n0_; have HO0_24 := n1_; have HB := n2_; have BK417 := n3_; have GW417 := n4_; have GE417 := n5_; clear n0_ n1_ n2_ n3_ n4_ n5_; clear hb hbox hg) | ((with_reducible refine gate_dst (N := 4) rfl ?_); refine be_ (N := 4) (cs := #[.int .i64 0, .int .i64 0, .int .i64 0, .int .i64 0, .int .i64 0, .int .i64 0, .int .i64 0, .int .i64 0, .int .i64 0, .int .i64 0, .int .i64 0, .int .i64 0, .int .i64 0, .int .i64 0, .int .i64 0, .int .i64 0, .int .i64 0, .int .i64 0, .int .i64 0, .int .i64 0, .int .i64 0, .string (⟨#[]⟩ : ByteArray), .string (⟨#[]⟩ : ByteArray), .slice none 0 0, .slice none 0 0]) (t := 27) ?_; intro gb418 hg w5 hbox hb; have n0_ := Aside0.mk (Kd.V_below (Kd.V_elderB (by (with_reducible repeat (first | apply Kd.V_alloc | apply Kd.V_drewN | apply Kd.V_drew)); exact HO0_23.out) gb418 (Nat.le_of_eq hg.symm)) hb); have n1_ := Aside0.mk (Kd.V_below (Kd.V_elderB (by (with_reducible repeat (first | apply Kd.V_alloc | apply Kd.V_drewN | apply Kd.V_drew)); exact HO0_24.out) gb418 (Nat.le_of_eq hg.symm)) hb); have n2_ := Aside0.mk (blk_below (qk_ BK417.out) hb); have n3_ := Aside0.mk (below_step (qb1_ GE417.out HB.out) hb); have n4_ := Aside0.mk (hbox); have n5_ := Aside0.mk (bz_ hg (qb1_ GE417.out HB.out) : w.heap.size ≤ gb418); have n6_ := n5_; have n7_ := Aside0.mk (nl_ hg (qk_ BK417.out) : gb417 ≠ gb418); have n8_ := Aside0.mk (ng_ hg (qk_ BK417.out) : gb418 ≠ gb417); clear HO0_23; clear HO0_24; clear BK417; clear HB; have HO0_23 := n0_; have HO0_24 := n1_; have BK417 := n2_; have HB := n3_; have BK418 := n4_; have GW418 := n5_; have GE418 := n6_; have NB417_418 := n7_; have NB418_417 := n8_; clear n0_ n1_ n2_ n3_ n4_ n5_ n6_ n7_ n8_; clear hb hbox hg))
 (try simp only [Act.put, List.setIfInBounds_toArray, List.set_cons_zero, List.set_cons_succ])
 go_cut [17] (fun v17 wc => ∃ (kq : Nat) (x17_2 : Bool), v17 = .bool x17_2 ∧ Aside0 (corebankref38_Move.j0 kq a1 x17_2 a0_0 a0_1 a0_2 a0_3 a0_4 a0_5 a0_6 a0_7 a0_8 a0_9 a0_10 a0_11 a0_12 a0_13 a0_14 a0_15 a0_16 a0_17 a0_18 a0_19 a0_20 a0_21 a0_22 l0_23 l0_24 = some (r1, r2, r3, r4, r5, r6, r7, r8, r9, r10, r11, r12, r13, r14, r15, r16, r17, r18, r19, r20, r21, r22, r23, r24, r25, r26, r27)) ∧ Aside0 (kq ≤ k) ∧ Aside0 (Kd.V k54 54 wc w.heap.size (fun k_ => ((P0_23_ k_ ∨ P0_24_ k_) ∨ w.heap.size ≤ k_) ∧ k_ ≠ gb417 ∧ k_ ≠ gb418) (.slice A0_23 l0_23.length c0_23) l0_23) ∧ Aside0 (Kd.V k50 50 wc w.heap.size (fun k_ => ((P0_23_ k_ ∨ P0_24_ k_) ∨ w.heap.size ≤ k_) ∧ k_ ≠ gb417 ∧ k_ ≠ gb418) (.slice A0_24 l0_24.length c0_24) l0_24) ∧ Aside0 (wc.heap[gb417]? = some (.cells #[.int .i64 a0_0, .int .i64 a0_1, .int .i64 a0_2, .int .i64 a0_3, .int .i64 a0_4, .int .i64 a0_5, .int .i64 a0_6, .int .i64 a0_7, .int .i64 a0_8, .int .i64 a0_9, .int .i64 a0_10, .int .i64 a0_11, .int .i64 a0_12, .int .i64 a0_13, .int .i64 a0_14, .int .i64 a0_15, .int .i64 a0_16, .int .i64 a0_17, .int .i64 a0_18, .int .i64 a0_19, .int .i64 a0_20, .string a0_21, .string a0_22, (.slice A0_23 l0_23.length c0_23), (.slice A0_24 l0_24.length c0_24)] 27 (0, 0))) ∧ Aside0 (wc.heap[gb418]? = some (.cells #[.int .i64 0, .int .i64 0, .int .i64 0, .int .i64 0, .int .i64 0, .int .i64 0, .int .i64 0, .int .i64 0, .int .i64 0, .int .i64 0, .int .i64 0, .int .i64 0, .int .i64 0, .int .i64 0, .int .i64 0, .int .i64 0, .int .i64 0, .int .i64 0, .int .i64 0, .int .i64 0, .int .i64 0, .string (⟨#[]⟩ : ByteArray), .string (⟨#[]⟩ : ByteArray), (.slice none 0 0), (.slice none 0 0)] 27 (0, 0))) ∧ Aside0 (Below w.heap.size w wc))
 case first =>
  have H := HC3.out
  clear HC3
  by_cases c6 : a0_8 < 0
  ·rw [if_pos c6] at H
   have c6b0 : decide (a0_8 < 0) = true := decide_eq_true c6
   clear c6
   (first | rw [c6b0] | (simp only [i64_w, i32_w]; rw [c6b0]) | skip)
   have H' := Aside0.mk H
   clear H
   have hnb7 := NB417_418.out
   have hnc7 := NB418_417.out
   obtain ⟨Z8_0, Z8_1, Z8_2, Z8_3, Z8_4, Z8_5, Z8_6, Z8_7, Z8_8, Z8_9, Z8_10, Z8_11, Z8_12, Z8_13, Z8_14, Z8_15, Z8_16, Z8_17, Z8_18, Z8_19, Z8_20, Z8_21, Z8_22, Z8_23, Z8_24, Y8_0, Y8_1, Y8_2, Y8_3, Y8_4, Y8_5, Y8_6, Y8_7, Y8_8, Y8_9, Y8_10, Y8_11, Y8_12, Y8_13, Y8_14, Y8_15, Y8_16, Y8_17, Y8_18, Y8_19, Y8_20, Y8_21, Y8_22, Y8_23, Y8_24⟩ := cz25_ BK417.out
   go_wp2
   go_meet
   case rel => exact ⟨_, (true), qs_, H', ⟨qo_⟩, ⟨by (with_reducible repeat (first | apply Kd.V_alloc | apply Kd.V_drewN | apply Kd.V_drew)); exact Kd.V_mono HO0_23.out (fun _ hk => ⟨hk.1.1, ⟨hk.1.2, hk.2⟩⟩)⟩, ⟨by (with_reducible repeat (first | apply Kd.V_alloc | apply Kd.V_drewN | apply Kd.V_drew)); exact Kd.V_mono HO0_24.out (fun _ hk => ⟨hk.1.1, ⟨hk.1.2, hk.2⟩⟩)⟩, ⟨qk_ BK417.out⟩, ⟨qk_ BK418.out⟩, ⟨qb2_ GE417.out GE418.out HB.out⟩⟩
  ·rw [if_neg c6] at H
   have c6b0 : decide (a0_8 < 0) = false := decide_eq_false c6
   clear c6
   (first | rw [c6b0] | (simp only [i64_w, i32_w]; rw [c6b0]) | skip)
   have H' := Aside0.mk H
   clear H
   have hnb9 := NB417_418.out
   have hnc9 := NB418_417.out
   obtain ⟨Z10_0, Z10_1, Z10_2, Z10_3, Z10_4, Z10_5, Z10_6, Z10_7, Z10_8, Z10_9, Z10_10, Z10_11, Z10_12, Z10_13, Z10_14, Z10_15, Z10_16, Z10_17, Z10_18, Z10_19, Z10_20, Z10_21, Z10_22, Z10_23, Z10_24, Y10_0, Y10_1, Y10_2, Y10_3, Y10_4, Y10_5, Y10_6, Y10_7, Y10_8, Y10_9, Y10_10, Y10_11, Y10_12, Y10_13, Y10_14, Y10_15, Y10_16, Y10_17, Y10_18, Y10_19, Y10_20, Y10_21, Y10_22, Y10_23, Y10_24⟩ := cz25_ BK417.out
   go_wp2
   go_meet
   case rel => exact ⟨_, (decide (a0_8 > 1000000000000)), qs_, H', ⟨qo_⟩, ⟨by (with_reducible repeat (first | apply Kd.V_alloc | apply Kd.V_drewN | apply Kd.V_drew)); exact Kd.V_mono HO0_23.out (fun _ hk => ⟨hk.1.1, ⟨hk.1.2, hk.2⟩⟩)⟩, ⟨by (with_reducible repeat (first | apply Kd.V_alloc | apply Kd.V_drewN | apply Kd.V_drew)); exact Kd.V_mono HO0_24.out (fun _ hk => ⟨hk.1.1, ⟨hk.1.2, hk.2⟩⟩)⟩, ⟨qk_ BK417.out⟩, ⟨qk_ BK418.out⟩, ⟨qb2_ GE417.out GE418.out HB.out⟩⟩
 case rest =>
  clear HC3
  try clear c1
  try clear p2
  try clear c6
  try clear c6b0
  try clear c7
  try clear c9
  (try clear Z10_0 Z10_1 Z10_10 Z10_11 Z10_12 Z10_13 Z10_14 Z10_15 Z10_16 Z10_17 Z10_18 Z10_19 Z10_2 Z10_20 Z10_21 Z10_22 Z10_23 Z10_24 Z10_3 Z10_4 Z10_5 Z10_6 Z10_7 Z10_8 Z10_9 Y10_0 Y10_1 Y10_10 Y10_11 Y10_12 Y10_13 Y10_14 Y10_15 Y10_16 Y10_17 Y10_18 Y10_19 Y10_2 Y10_20 Y10_21 Y10_22 Y10_23 Y10_24 Y10_3 Y10_4 Y10_5 Y10_6 Y10_7 Y10_8 Y10_9)
  (try clear Z8_0 Z8_1 Z8_10 Z8_11 Z8_12 Z8_13 Z8_14 Z8_15 Z8_16 Z8_17 Z8_18 Z8_19 Z8_2 Z8_20 Z8_21 Z8_22 Z8_23 Z8_24 Z8_3 Z8_4 Z8_5 Z8_6 Z8_7 Z8_8 Z8_9 Y8_0 Y8_1 Y8_10 Y8_11 Y8_12 Y8_13 Y8_14 Y8_15 Y8_16 Y8_17 Y8_18 Y8_19 Y8_2 Y8_20 Y8_21 Y8_22 Y8_23 Y8_24 Y8_3 Y8_4 Y8_5 Y8_6 Y8_7 Y8_8 Y8_9)
  obtain ⟨kq, x17_2, rfl, HA, HJ2, HO_418023, HO_418024, BK417, BK418, HB⟩ := hcut
  cases kq with
  | zero => exact absurd HA.out (by simp [corebankref38_Move.j0])
  | succ kj2 =>
   have H := HA.out
   clear HA
   simp only [corebankref38_Move.j0] at H
   by_cases c11 : x17_2 = true
   ·subst c11
    have H1 : (some (0, 0, 0, 0, 0, 0, 0, 0, 0, 0, 0, 0, 0, 0, 0, 0, 0, 0, 0, 0, 0, (⟨#[]⟩ : ByteArray), (⟨#[]⟩ : ByteArray), ([] : List (S54)), ([] : List (S50)), 0, 1)) = some (r1, r2, r3, r4, r5, r6, r7, r8, r9, r10, r11, r12, r13, r14, r15, r16, r17, r18, r19, r20, r21, r22, r23, r24, r25, r26, r27) := by rw [if_pos rfl] at H; exact H
    clear H
    have H := H1
    clear H1
    simp only [Option.some.injEq, Prod.mk.injEq] at H
    obtain ⟨rfl, rfl, rfl, rfl, rfl, rfl, rfl, rfl, rfl, rfl, rfl, rfl, rfl, rfl, rfl, rfl, rfl, rfl, rfl, rfl, rfl, rfl, rfl, rfl, rfl, rfl, rfl⟩ := H
    have hnb12 := NB418_417.out
    have hnc12 := NB417_418.out
    obtain ⟨Z13_0, Z13_1, Z13_2, Z13_3, Z13_4, Z13_5, Z13_6, Z13_7, Z13_8, Z13_9, Z13_10, Z13_11, Z13_12, Z13_13, Z13_14, Z13_15, Z13_16, Z13_17, Z13_18, Z13_19, Z13_20, Z13_21, Z13_22, Z13_23, Z13_24, Y13_0, Y13_1, Y13_2, Y13_3, Y13_4, Y13_5, Y13_6, Y13_7, Y13_8, Y13_9, Y13_10, Y13_11, Y13_12, Y13_13, Y13_14, Y13_15, Y13_16, Y13_17, Y13_18, Y13_19, Y13_20, Y13_21, Y13_22, Y13_23, Y13_24⟩ := cz25_ BK418.out
    go_wp2_with (first | ((with_reducible refine gate_store (t := 27) rfl ?_); refine st43_ (g := gb418) (t := 27) (old := ?ro43_0) #[.int .i64 0, .int .i64 0, .int .i64 0, .int .i64 0, .int .i64 0, .int .i64 0, .int .i64 0, .int .i64 0, .int .i64 0, .int .i64 0, .int .i64 0, .int .i64 0, .int .i64 0, .int .i64 0, .int .i64 0, .int .i64 0, .int .i64 0, .int .i64 0, .int .i64 0, .int .i64 0, .int .i64 0, .string (⟨#[]⟩ : ByteArray), .string (⟨#[]⟩ : ByteArray), .slice none 0 0, .slice none 0 0] rfl rfl rfl rfl ?rv43_0 ?rb43_0 ?ri43_0 ?rs43_0 ?rc43_0 ?_; (case rv43_0 => rfl); (case rb43_0 => (repeat (first | (with_reducible first | refine blk_drewN ?_ _ | refine blk_drew ?_ | refine blk_alloc ?_ _) | refine blk_far ?_ NB418_417.out _)); (with_reducible exact BK418.out)); (case ri43_0 => kernel_rfl); (case rs43_0 => rfl); (case rc43_0 => rfl); intro w_ hnew_ hoth_ hbel_))
    refine bodyPost_ret (results_ctt rfl _ _ gb418 27 #[.int .i64 0, .int .i64 0, .int .i64 0, .int .i64 0, .int .i64 0, .int .i64 0, .int .i64 0, .int .i64 0, .int .i64 0, .int .i64 0, .int .i64 0, .int .i64 0, .int .i64 0, .int .i64 0, .int .i64 0, .int .i64 0, .int .i64 0, .int .i64 0, .int .i64 0, .int .i64 0, .int .i64 0, .string (⟨#[]⟩ : ByteArray), .string (⟨#[]⟩ : ByteArray), .slice none 0 0, .slice none 0 0] (0, 0) _ rfl hnew_ Tryd.underlying27 rfl (by kernel_rfl)) rfl ?_
    exact ⟨_, _, qe_, (Kd.V_nil _ _ _ _ _), (Kd.V_nil _ _ _ _ _), hbel_ _ _ (qb2_ GE417.out GE418.out HB.out) GE418.out⟩
   ·replace c11 := Bool.eq_false_iff.mpr c11
    subst c11
    have H1 : ((corebankref38_Expected.f kj2 a0_0 a0_1 a0_2 a0_3 a0_4 a0_5 a0_6 a0_7 a0_8 a0_9 a0_10 a0_11 a0_12 a0_13 a0_14 a0_15 a0_16 a0_17 a0_18 a0_19 a0_20 a0_21 a0_22 l0_23 l0_24 a1).bind fun bt419 => (if bt419.2 = 0 then (some (a0_0, a0_1, a0_2, a0_3, a0_4, a0_5, a0_6, a0_7, bt419.1, a0_9, a0_10, a0_11, a0_12, a0_13, a0_14, a0_15, a0_16, a0_17, a0_18, a0_19, a0_20, a0_21, a0_22, l0_23, l0_24, wrap64 (bt419.1 - a0_8), 0)) else (some (0, 0, 0, 0, 0, 0, 0, 0, 0, 0, 0, 0, 0, 0, 0, 0, 0, 0, 0, 0, 0, (⟨#[]⟩ : ByteArray), (⟨#[]⟩ : ByteArray), ([] : List (S54)), ([] : List (S50)), 0, bt419.2)))) = some (r1, r2, r3, r4, r5, r6, r7, r8, r9, r10, r11, r12, r13, r14, r15, r16, r17, r18, r19, r20, r21, r22, r23, r24, r25, r26, r27) := by rw [if_neg (show ¬ (false = true) by decide)] at H; exact H
    clear H
    have H := H1
    clear H1
    replace H := Option.bind_eq_some_iff.mp H
    obtain ⟨⟨t419, t420⟩, A140, H⟩ := H
    replace H : (if t420 = 0 then (some (a0_0, a0_1, a0_2, a0_3, a0_4, a0_5, a0_6, a0_7, t419, a0_9, a0_10, a0_11, a0_12, a0_13, a0_14, a0_15, a0_16, a0_17, a0_18, a0_19, a0_20, a0_21, a0_22, l0_23, l0_24, wrap64 (t419 - a0_8), 0)) else (some (0, 0, 0, 0, 0, 0, 0, 0, 0, 0, 0, 0, 0, 0, 0, 0, 0, 0, 0, 0, 0, (⟨#[]⟩ : ByteArray), (⟨#[]⟩ : ByteArray), ([] : List (S54)), ([] : List (S50)), 0, t420))) = some (r1, r2, r3, r4, r5, r6, r7, r8, r9, r10, r11, r12, r13, r14, r15, r16, r17, r18, r19, r20, r21, r22, r23, r24, r25, r26, r27) := H
    have A14 := Aside0.mk A140
    clear A140
    by_cases c15 : t420 = 0
    ·rw [if_pos c15] at H
     have c15b0 : (t420 == 0) = true := beq_iff_eq.mpr c15
     have c15b1 : (t420 != 0) = false := bne_eq_false_iff_eq.mpr c15
     clear c15
     simp only [Option.some.injEq, Prod.mk.injEq] at H
     obtain ⟨rfl, rfl, rfl, rfl, rfl, rfl, rfl, rfl, rfl, rfl, rfl, rfl, rfl, rfl, rfl, rfl, rfl, rfl, rfl, rfl, rfl, rfl, rfl, rfl, rfl, rfl, rfl⟩ := H
     have hnb16 := NB417_418.out
     have hnc16 := NB418_417.out
     obtain ⟨Z17_0, Z17_1, Z17_2, Z17_3, Z17_4, Z17_5, Z17_6, Z17_7, Z17_8, Z17_9, Z17_10, Z17_11, Z17_12, Z17_13, Z17_14, Z17_15, Z17_16, Z17_17, Z17_18, Z17_19, Z17_20, Z17_21, Z17_22, Z17_23, Z17_24, Y17_0, Y17_1, Y17_2, Y17_3, Y17_4, Y17_5, Y17_6, Y17_7, Y17_8, Y17_9, Y17_10, Y17_11, Y17_12, Y17_13, Y17_14, Y17_15, Y17_16, Y17_17, Y17_18, Y17_19, Y17_20, Y17_21, Y17_22, Y17_23, Y17_24⟩ := cz25_ BK417.out
     go_wp2_with (first | ((with_reducible refine gate_load_ (t := 27) rfl ?_); refine ld_ (t := 27) Tryd.underlying27 rfl rfl rfl (blk_set BK417.out 8 _) rfl (by kernel_rfl) ?_) | ((with_reducible refine gate_store (t := 27) rfl ?_); refine st43_ (g := gb418) (t := 27) (old := ?ro43_1) #[.int .i64 a0_0, .int .i64 a0_1, .int .i64 a0_2, .int .i64 a0_3, .int .i64 a0_4, .int .i64 a0_5, .int .i64 a0_6, .int .i64 a0_7, .int .i64 t419, .int .i64 a0_9, .int .i64 a0_10, .int .i64 a0_11, .int .i64 a0_12, .int .i64 a0_13, .int .i64 a0_14, .int .i64 a0_15, .int .i64 a0_16, .int .i64 a0_17, .int .i64 a0_18, .int .i64 a0_19, .int .i64 a0_20, .string a0_21, .string a0_22, .slice A0_23 l0_23.length c0_23, .slice A0_24 l0_24.length c0_24] rfl rfl rfl rfl ?rv43_1 ?rb43_1 ?ri43_1 ?rs43_1 ?rc43_1 ?_; (case rv43_1 => rfl); (case rb43_1 => first | exact (blk_far BK418.out NB418_417.out _) | ((repeat (first | (with_reducible first | refine blk_drewN ?_ _ | refine blk_drew ?_ | refine blk_alloc ?_ _) | refine blk_far ?_ NB418_417.out _)); (with_reducible exact BK418.out))); (case ri43_1 => kernel_rfl); (case rs43_1 => rfl); (case rc43_1 => rfl); intro w_ hnew_ hoth_ hbel_) | ((with_reducible refine gate_load_ (t := 27) rfl ?_); refine ld_ (t := 27) Tryd.underlying27 rfl rfl rfl (by (repeat (first | (with_reducible first | refine blk_drewN ?_ _ | refine blk_drew ?_ | refine blk_alloc ?_ _) | refine blk_far ?_ NB417_418.out _ | refine blk_far ?_ NB418_417.out _ | refine blk_set ?_ _ _)); (with_reducible first | exact BK417.out | exact BK418.out)) rfl (by kernel_rfl) ?_) | ((with_reducible refine gate_load_ (t := 27) rfl ?_); refine ldg43_ (t := 27) Tryd.underlying27 rfl (by rfl) rfl (by (repeat (first | (with_reducible first | refine blk_drewN ?_ _ | refine blk_drew ?_ | refine blk_alloc ?_ _) | refine blk_far ?_ NB417_418.out _ | refine blk_far ?_ NB418_417.out _ | refine blk_set ?_ _ _)); (with_reducible first | exact BK417.out | exact BK418.out)) rfl (by kernel_rfl) ?_) | ((with_reducible refine gate_callee (f := 15) rfl ?_); refine goesL_ (some 22) rfl rfl Tryd.func15 (by kernel_rfl) rfl #[.agg #[.int .i64 a0_0, .int .i64 a0_1, .int .i64 a0_2, .int .i64 a0_3, .int .i64 a0_4, .int .i64 a0_5, .int .i64 a0_6, .int .i64 a0_7, .int .i64 a0_8, .int .i64 a0_9, .int .i64 a0_10, .int .i64 a0_11, .int .i64 a0_12, .int .i64 a0_13, .int .i64 a0_14, .int .i64 a0_15, .int .i64 a0_16, .int .i64 a0_17, .int .i64 a0_18, .int .i64 a0_19, .int .i64 a0_20, .string a0_21, .string a0_22, .slice A0_23 l0_23.length c0_23, .slice A0_24 l0_24.length c0_24], .int .i64 a1] rfl ql_ ?_; (with_reducible refine (corebankref38_Expected.calls kj2 a0_0 a0_1 a0_2 a0_3 a0_4 a0_5 a0_6 a0_7 a0_8 a0_9 a0_10 a0_11 a0_12 a0_13 a0_14 a0_15 a0_16 a0_17 a0_18 a0_19 a0_20 a0_21 a0_22 _ _ l0_23 _ _ l0_24 a1 t419 t420 _ ?side1 ?side2 ?side3 ?side4 A14.out).mono ?_); (case side1 => repeat (first | exact (Kd.V_reads' HO_418023.out).2.2 | (with_reducible refine Kd.C_alloc ?_ _) | (with_reducible refine Kd.C_drewN ?_ _) | (with_reducible refine Kd.C_drew ?_))); (case side2 => exact (Kd.V_reads' HO_418023.out).2.1); (case side3 => repeat (first | exact (Kd.V_reads' HO_418024.out).2.2 | (with_reducible refine Kd.C_alloc ?_ _) | (with_reducible refine Kd.C_drewN ?_ _) | (with_reducible refine Kd.C_drew ?_))); (case side4 => exact (Kd.V_reads' HO_418024.out).2.1); rintro e w18 ⟨rfl, hb⟩; refine ⟨_, rfl, ?_⟩; have n0_ := Aside0.mk (Kd.V_below (by (with_reducible repeat (first | apply Kd.V_alloc | apply Kd.V_drewN | apply Kd.V_drew)); exact HO_418023.out) hb); have n1_ := Aside0.mk (Kd.V_below (by (with_reducible repeat (first | apply Kd.V_alloc | apply Kd.V_drewN | apply Kd.V_drew)); exact HO_418024.out) hb); have n2_ := Aside0.mk (blk_below (qk_ BK417.out) hb); have n3_ := Aside0.mk (blk_below (qk_ BK418.out) hb); have n4_ := Aside0.mk (below_step (qb2_ GE417.out GE418.out HB.out) hb); clear HO_418023; clear HO_418024; clear BK417; clear BK418; clear HB; have HO_418023 := n0_; have HO_418024 := n1_; have BK417 := n2_; have BK418 := n3_; have HB := n4_; clear n0_ n1_ n2_ n3_ n4_; (try clear hb); (try clear hb2); (try clear hk); (try clear hi); obtain ⟨Z19_0, Z19_1, Z19_2, Z19_3, Z19_4, Z19_5, Z19_6, Z19_7, Z19_8, Z19_9, Z19_10, Z19_11, Z19_12, Z19_13, Z19_14, Z19_15, Z19_16, Z19_17, Z19_18, Z19_19, Z19_20, Z19_21, Z19_22, Z19_23, Z19_24, Y19_0, Y19_1, Y19_2, Y19_3, Y19_4, Y19_5, Y19_6, Y19_7, Y19_8, Y19_9, Y19_10, Y19_11, Y19_12, Y19_13, Y19_14, Y19_15, Y19_16, Y19_17, Y19_18, Y19_19, Y19_20, Y19_21, Y19_22, Y19_23, Y19_24⟩ := cz25_ BK417.out; obtain ⟨Z20_0, Z20_1, Z20_2, Z20_3, Z20_4, Z20_5, Z20_6, Z20_7, Z20_8, Z20_9, Z20_10, Z20_11, Z20_12, Z20_13, Z20_14, Z20_15, Z20_16, Z20_17, Z20_18, Z20_19, Z20_20, Z20_21, Z20_22, Z20_23, Z20_24, Y20_0, Y20_1, Y20_2, Y20_3, Y20_4, Y20_5, Y20_6, Y20_7, Y20_8, Y20_9, Y20_10, Y20_11, Y20_12, Y20_13, Y20_14, Y20_15, Y20_16, Y20_17, Y20_18, Y20_19, Y20_20, Y20_21, Y20_22, Y20_23, Y20_24⟩ := cz25_ BK418.out))
     refine bodyPost_ret (results_ctt rfl _ _ gb418 27 #[.int .i64 a0_0, .int .i64 a0_1, .int .i64 a0_2, .int .i64 a0_3, .int .i64 a0_4, .int .i64 a0_5, .int .i64 a0_6, .int .i64 a0_7, .int .i64 t419, .int .i64 a0_9, .int .i64 a0_10, .int .i64 a0_11, .int .i64 a0_12, .int .i64 a0_13, .int .i64 a0_14, .int .i64 a0_15, .int .i64 a0_16, .int .i64 a0_17, .int .i64 a0_18, .int .i64 a0_19, .int .i64 a0_20, .string a0_21, .string a0_22, .slice A0_23 l0_23.length c0_23, .slice A0_24 l0_24.length c0_24] (0, 0) _ rfl hnew_ Tryd.underlying27 rfl (by kernel_rfl)) rfl ?_
     exact ⟨_, _, qe_, by (with_reducible repeat (first | apply Kd.V_alloc | apply Kd.V_drewN | apply Kd.V_drew)); exact Kd.V_mono (Kd.V_step (Kd.V_far (p := ⟨gb417, 8, none⟩) (Kd.V_mono (Kd.V_mono HO_418023.out (fun k_ hk => (⟨hk, hk.2.1⟩ : _ ∧ k_ ≠ gb417))) (fun k_ hk => (⟨hk, hk.1.2.2⟩ : _ ∧ k_ ≠ gb418))) (fun _ hk => hk.1.2) (.int .i64 t419)) (fun k hk _ => hoth_ k (hk.2))) (fun _ hk => hk.1.1.1), by (with_reducible repeat (first | apply Kd.V_alloc | apply Kd.V_drewN | apply Kd.V_drew)); exact Kd.V_mono (Kd.V_step (Kd.V_far (p := ⟨gb417, 8, none⟩) (Kd.V_mono (Kd.V_mono HO_418024.out (fun k_ hk => (⟨hk, hk.2.1⟩ : _ ∧ k_ ≠ gb417))) (fun k_ hk => (⟨hk, hk.1.2.2⟩ : _ ∧ k_ ≠ gb418))) (fun _ hk => hk.1.2) (.int .i64 t419)) (fun k hk _ => hoth_ k (hk.2))) (fun _ hk => hk.1.1.1), hbel_ _ _ (qb2_ GE417.out GE418.out HB.out) GE418.out⟩
    ·rw [if_neg c15] at H
     have c15b0 : (t420 == 0) = false := beq_eq_false_iff_ne.mpr c15
     have c15b1 : (t420 != 0) = true := bne_iff_ne.mpr c15
     simp only [Option.some.injEq, Prod.mk.injEq] at H
     obtain ⟨rfl, rfl, rfl, rfl, rfl, rfl, rfl, rfl, rfl, rfl, rfl, rfl, rfl, rfl, rfl, rfl, rfl, rfl, rfl, rfl, rfl, rfl, rfl, rfl, rfl, rfl, rfl⟩ := H
     have hnb21 := NB417_418.out
     have hnc21 := NB418_417.out
     obtain ⟨Z22_0, Z22_1, Z22_2, Z22_3, Z22_4, Z22_5, Z22_6, Z22_7, Z22_8, Z22_9, Z22_10, Z22_11, Z22_12, Z22_13, Z22_14, Z22_15, Z22_16, Z22_17, Z22_18, Z22_19, Z22_20, Z22_21, Z22_22, Z22_23, Z22_24, Y22_0, Y22_1, Y22_2, Y22_3, Y22_4, Y22_5, Y22_6, Y22_7, Y22_8, Y22_9, Y22_10, Y22_11, Y22_12, Y22_13, Y22_14, Y22_15, Y22_16, Y22_17, Y22_18, Y22_19, Y22_20, Y22_21, Y22_22, Y22_23, Y22_24⟩ := cz25_ BK417.out
     go_wp2_with (first | ((with_reducible refine gate_store (t := 27) rfl ?_); refine st43_ (g := gb418) (t := 27) (old := ?ro43_2) #[.int .i64 0, .int .i64 0, .int .i64 0, .int .i64 0, .int .i64 0, .int .i64 0, .int .i64 0, .int .i64 0, .int .i64 0, .int .i64 0, .int .i64 0, .int .i64 0, .int .i64 0, .int .i64 0, .int .i64 0, .int .i64 0, .int .i64 0, .int .i64 0, .int .i64 0, .int .i64 0, .int .i64 0, .string (⟨#[]⟩ : ByteArray), .string (⟨#[]⟩ : ByteArray), .slice none 0 0, .slice none 0 0] rfl rfl rfl rfl ?rv43_2 ?rb43_2 ?ri43_2 ?rs43_2 ?rc43_2 ?_; (case rv43_2 => rfl); (case rb43_2 => (repeat (first | (with_reducible first | refine blk_drewN ?_ _ | refine blk_drew ?_ | refine blk_alloc ?_ _) | refine blk_far ?_ NB418_417.out _)); (with_reducible exact BK418.out)); (case ri43_2 => kernel_rfl); (case rs43_2 => rfl); (case rc43_2 => rfl); intro w_ hnew_ hoth_ hbel_) | ((with_reducible refine gate_load_ (t := 27) rfl ?_); refine ld_ (t := 27) Tryd.underlying27 rfl rfl rfl (by (repeat (first | (with_reducible first | refine blk_drewN ?_ _ | refine blk_drew ?_ | refine blk_alloc ?_ _) | refine blk_far ?_ NB417_418.out _ | refine blk_far ?_ NB418_417.out _ | refine blk_set ?_ _ _)); (with_reducible first | exact BK417.out | exact BK418.out)) rfl (by kernel_rfl) ?_) | ((with_reducible refine gate_load_ (t := 27) rfl ?_); refine ldg43_ (t := 27) Tryd.underlying27 rfl (by rfl) rfl (by (repeat (first | (with_reducible first | refine blk_drewN ?_ _ | refine blk_drew ?_ | refine blk_alloc ?_ _) | refine blk_far ?_ NB417_418.out _ | refine blk_far ?_ NB418_417.out _ | refine blk_set ?_ _ _)); (with_reducible first | exact BK417.out | exact BK418.out)) rfl (by kernel_rfl) ?_) | ((with_reducible refine gate_callee (f := 15) rfl ?_); refine goesL_ (some 22) rfl rfl Tryd.func15 (by kernel_rfl) rfl #[.agg #[.int .i64 a0_0, .int .i64 a0_1, .int .i64 a0_2, .int .i64 a0_3, .int .i64 a0_4, .int .i64 a0_5, .int .i64 a0_6, .int .i64 a0_7, .int .i64 a0_8, .int .i64 a0_9, .int .i64 a0_10, .int .i64 a0_11, .int .i64 a0_12, .int .i64 a0_13, .int .i64 a0_14, .int .i64 a0_15, .int .i64 a0_16, .int .i64 a0_17, .int .i64 a0_18, .int .i64 a0_19, .int .i64 a0_20, .string a0_21, .string a0_22, .slice A0_23 l0_23.length c0_23, .slice A0_24 l0_24.length c0_24], .int .i64 a1] rfl ql_ ?_; (with_reducible refine (corebankref38_Expected.calls kj2 a0_0 a0_1 a0_2 a0_3 a0_4 a0_5 a0_6 a0_7 a0_8 a0_9 a0_10 a0_11 a0_12 a0_13 a0_14 a0_15 a0_16 a0_17 a0_18 a0_19 a0_20 a0_21 a0_22 _ _ l0_23 _ _ l0_24 a1 t419 t420 _ ?side1 ?side2 ?side3 ?side4 A14.out).mono ?_); (case side1 => repeat (first | exact (Kd.V_reads' HO_418023.out).2.2 | (with_reducible refine Kd.C_alloc ?_ _) | (with_reducible refine Kd.C_drewN ?_ _) | (with_reducible refine Kd.C_drew ?_))); (case side2 => exact (Kd.V_reads' HO_418023.out).2.1); (case side3 => repeat (first | exact (Kd.V_reads' HO_418024.out).2.2 | (with_reducible refine Kd.C_alloc ?_ _) | (with_reducible refine Kd.C_drewN ?_ _) | (with_reducible refine Kd.C_drew ?_))); (case side4 => exact (Kd.V_reads' HO_418024.out).2.1); rintro e w23 ⟨rfl, hb⟩; refine ⟨_, rfl, ?_⟩; have n0_ := Aside0.mk (Kd.V_below (by (with_reducible repeat (first | apply Kd.V_alloc | apply Kd.V_drewN | apply Kd.V_drew)); exact HO_418023.out) hb); have n1_ := Aside0.mk (Kd.V_below (by (with_reducible repeat (first | apply Kd.V_alloc | apply Kd.V_drewN | apply Kd.V_drew)); exact HO_418024.out) hb); have n2_ := Aside0.mk (blk_below (qk_ BK417.out) hb); have n3_ := Aside0.mk (blk_below (qk_ BK418.out) hb); have n4_ := Aside0.mk (below_step (qb2_ GE417.out GE418.out HB.out) hb); clear HO_418023; clear HO_418024; clear BK417; clear BK418; clear HB; have HO_418023 := n0_; have HO_418024 := n1_; have BK417 := n2_; have BK418 := n3_; have HB := n4_; clear n0_ n1_ n2_ n3_ n4_; (try clear hb); (try clear hb2); (try clear hk); (try clear hi); obtain ⟨Z24_0, Z24_1, Z24_2, Z24_3, Z24_4, Z24_5, Z24_6, Z24_7, Z24_8, Z24_9, Z24_10, Z24_11, Z24_12, Z24_13, Z24_14, Z24_15, Z24_16, Z24_17, Z24_18, Z24_19, Z24_20, Z24_21, Z24_22, Z24_23, Z24_24, Y24_0, Y24_1, Y24_2, Y24_3, Y24_4, Y24_5, Y24_6, Y24_7, Y24_8, Y24_9, Y24_10, Y24_11, Y24_12, Y24_13, Y24_14, Y24_15, Y24_16, Y24_17, Y24_18, Y24_19, Y24_20, Y24_21, Y24_22, Y24_23, Y24_24⟩ := cz25_ BK418.out))
     refine bodyPost_ret (results_ctt rfl _ _ gb418 27 #[.int .i64 0, .int .i64 0, .int .i64 0, .int .i64 0, .int .i64 0, .int .i64 0, .int .i64 0, .int .i64 0, .int .i64 0, .int .i64 0, .int .i64 0, .int .i64 0, .int .i64 0, .int .i64 0, .int .i64 0, .int .i64 0, .int .i64 0, .int .i64 0, .int .i64 0, .int .i64 0, .int .i64 0, .string (⟨#[]⟩ : ByteArray), .string (⟨#[]⟩ : ByteArray), .slice none 0 0, .slice none 0 0] (0, 0) _ rfl hnew_ Tryd.underlying27 rfl (by kernel_rfl)) rfl ?_
     exact ⟨_, _, qe_, (Kd.V_nil _ _ _ _ _), (Kd.V_nil _ _ _ _ _), hbel_ _ _ (qb2_ GE417.out GE418.out HB.out) GE418.out⟩
end Go.Proofs.YtjkjiibhdpcpkaaDoor.PS
end
section
namespace Go.Proofs.YtjkjiibhdpcpkaaDoor.PS
open Go.RowKit Go.Proofs.YtjkjiibhdpcpkaaDoorW.PrintWords Go.Proofs.YtjkjiibhdpcpkaaDoorW.PrintLast
set_option linter.unusedVariables false
set_option linter.unusedSimpArgs false
attribute [local go_sem high] eqA50 eqA54
def corebankref34_SameDues.l0 : Nat → List (S54) → List (S54) → Int → Option (Bool)
 | 0, _, _, _ => none
 | k + 1, x0, x1, x5 => if x5 < (x0.length : Int) then (if 0 ≤ x5 then (if x5 < (x1.length : Int) then (if (!(((rd_T54 x0 x5).f0) == ((rd_T54 x1 x5).f0)) || (!(((rd_T54 x0 x5).f1) == ((rd_T54 x1 x5).f1)) || (!(((rd_T54 x0 x5).f2) == ((rd_T54 x1 x5).f2)) || (!(((rd_T54 x0 x5).f3) == ((rd_T54 x1 x5).f3)))))) = true then (some false) else (corebankref34_SameDues.l0 k x0 x1 (wrap64 (x5 + 1)))) else (none)) else (none)) else (some true)
def corebankref34_SameDues.f (k : Nat) (l0 l1 : List (S54)) : Option (Bool) := if (l0.length : Int) = (l1.length : Int) then (corebankref34_SameDues.l0 k l0 l1 0) else (some false)
set_option maxHeartbeats 8000000 in
set_option maxRecDepth 100000 in
theorem corebankref34_SameDues.calls (k : Nat) (A0 : Option Addr) (c0 : Nat) (l0 : List (S54)) (A1 : Option Addr) (c1 : Nat) (l1 : List (S54)) (r : Bool) (w : World) (hr0 : Kd.C k54 w A0 l0.length l0) (hc0 : l0.length ≤ c0) (hr1 : Kd.C k54 w A1 l1.length l1) (hc1 : l1.length ≤ c1) (h : corebankref34_SameDues.f k l0 l1 = some r) :
  Calls Tryd.prog 35 #[.slice A0 l0.length c0, .slice A1 l1.length c1] w fun e w' => e = .returned (.bool r) ∧ Drawn0 w w' := by
 have hu54 := Tryd.underlying54
 have HR0 := Aside0.mk hr0
 have HC0 := Aside0.mk hc0
 clear hr0 hc0
 have HR1 := Aside0.mk hr1
 have HC1 := Aside0.mk hc1
 clear hr1 hc1
 have H : (if (l0.length : Int) = (l1.length : Int) then (corebankref34_SameDues.l0 k l0 l1 0) else (some false)) = some r := h
 clear h
 by_cases c3 : (l0.length : Int) = (l1.length : Int)
 ·rw [if_pos c3] at H
  have c3b0 : ((l0.length : Int) == (l1.length : Int)) = true := beq_iff_eq.mpr c3
  have c3b1 : ((l0.length : Int) != (l1.length : Int)) = false := bne_eq_false_iff_eq.mpr c3
  have c3b2 : (l0.length == l1.length) = true := by first | simpa using c3 | (simp at c3 ⊢; omega)
  clear c3
  have H' := Aside0.mk H
  clear H
  go_enter Tryd.func35, Tryd.ntmps35
  go_wp2
  repeat (go_quiet (fail); try go_wp2)
  go_loopg [5] k (fun kq v5 w' => ∃ (x5_1 : Int), v5 = .int .i64 x5_1 ∧ Aside0 (corebankref34_SameDues.l0 kq l0 l1 x5_1 = some r) ∧ Aside0 (kq ≤ k) ∧ Drawn0 w w')
  case atStart => exact ⟨(0), qs_, H', ⟨Nat.le_refl _⟩, by repeat (first | exact Drawn0.refl _ | apply Drawn0.step)⟩
  case round =>
   clear H'
   try clear c1
   try clear p2
   try clear c3
   try clear c3b0
   try clear c3b1
   try clear c3b2
   obtain ⟨x5_1, rfl, HA, HK1, ⟨m1, rfl⟩⟩ := hrel
   cases gk with
   | zero => exact absurd HA.out (by simp [corebankref34_SameDues.l0])
   | succ k1 =>
    have H := HA.out
    clear HA
    simp only [corebankref34_SameDues.l0] at H
    by_cases c4 : x5_1 < (l0.length : Int)
    ·rw [if_pos c4] at H
     have c4b0 : decide (x5_1 < (l0.length : Int)) = true := decide_eq_true c4
     clear c4
     by_cases c5 : 0 ≤ x5_1
     ·rw [if_pos c5] at H
      have c5b0 : decide (0 ≤ x5_1) = true := decide_eq_true c5
      clear c5
      by_cases c6 : x5_1 < (l1.length : Int)
      ·rw [if_pos c6] at H
       have c6b0 : decide (x5_1 < (l1.length : Int)) = true := decide_eq_true c6
       clear c6
       by_cases c7 : (!(((rd_T54 l0 x5_1).f0) == ((rd_T54 l1 x5_1).f0)) || (!(((rd_T54 l0 x5_1).f1) == ((rd_T54 l1 x5_1).f1)) || (!(((rd_T54 l0 x5_1).f2) == ((rd_T54 l1 x5_1).f2)) || (!(((rd_T54 l0 x5_1).f3) == ((rd_T54 l1 x5_1).f3)))))) = true
       ·rw [if_pos c7] at H
        have c7b0 : (!(((rd_T54 l0 x5_1).f0) == ((rd_T54 l1 x5_1).f0)) || (!(((rd_T54 l0 x5_1).f1) == ((rd_T54 l1 x5_1).f1)) || (!(((rd_T54 l0 x5_1).f2) == ((rd_T54 l1 x5_1).f2)) || (!(((rd_T54 l0 x5_1).f3) == ((rd_T54 l1 x5_1).f3)))))) = true := c7
        clear c7
        obtain rfl := Option.some.inj H
        have p421 : 0 ≤ (x5_1 : Int) := of_decide_eq_true (by first | (with_reducible assumption) | assumption)
        have q421 : x5_1 < (l0.length : Int) := of_decide_eq_true (by first | (with_reducible assumption) | assumption)
        obtain ⟨ad421, e421, hx421_0, hx421_1, hx421_2, hx421_3⟩ := at_T54 HR0.out x5_1 p421 q421
        cases e421
        replace p421 := eq_true p421
        replace q421 := eq_true q421
        have p422 : 0 ≤ (x5_1 : Int) := of_decide_eq_true (by first | (with_reducible assumption) | assumption)
        have q422 : x5_1 < (l1.length : Int) := of_decide_eq_true (by first | (with_reducible assumption) | assumption)
        obtain ⟨ad422, e422, hx422_0, hx422_1, hx422_2, hx422_3⟩ := at_T54 HR1.out x5_1 p422 q422
        cases e422
        replace p422 := eq_true p422
        replace q422 := eq_true q422
        go_wp2
        repeat (go_quiet (fail); try go_wp2)
        go_ret
        exact ⟨by first | rfl | (simp; done) | (simp [*]; done), by repeat (first | exact Drawn0.refl _ | apply Drawn0.step)⟩
       ·rw [if_neg c7] at H
        have c7b0 : (!(((rd_T54 l0 x5_1).f0) == ((rd_T54 l1 x5_1).f0)) || (!(((rd_T54 l0 x5_1).f1) == ((rd_T54 l1 x5_1).f1)) || (!(((rd_T54 l0 x5_1).f2) == ((rd_T54 l1 x5_1).f2)) || (!(((rd_T54 l0 x5_1).f3) == ((rd_T54 l1 x5_1).f3)))))) = false := by simpa using c7
        clear c7
        have H' := Aside0.mk H
        clear H
        have p421 : 0 ≤ (x5_1 : Int) := of_decide_eq_true (by first | (with_reducible assumption) | assumption)
        have q421 : x5_1 < (l0.length : Int) := of_decide_eq_true (by first | (with_reducible assumption) | assumption)
        obtain ⟨ad421, e421, hx421_0, hx421_1, hx421_2, hx421_3⟩ := at_T54 HR0.out x5_1 p421 q421
        cases e421
        replace p421 := eq_true p421
        replace q421 := eq_true q421
        have p422 : 0 ≤ (x5_1 : Int) := of_decide_eq_true (by first | (with_reducible assumption) | assumption)
        have q422 : x5_1 < (l1.length : Int) := of_decide_eq_true (by first | (with_reducible assumption) | assumption)
        obtain ⟨ad422, e422, hx422_0, hx422_1, hx422_2, hx422_3⟩ := at_T54 HR1.out x5_1 p422 q422
        cases e422
        replace p422 := eq_true p422
        replace q422 := eq_true q422
        go_wp2
        repeat (go_quiet (fail); try go_wp2)
        go_roundg k1
        case measure => have := HK1.out; omega
        case rel => exact ⟨(wrap64 (x5_1 + 1)), qs_, H', ⟨by have := HK1.out; omega⟩, by repeat (first | exact Drawn0.refl _ | apply Drawn0.step)⟩
      ·rw [if_neg c6] at H
       exact absurd H (by simp)
     ·rw [if_neg c5] at H
      exact absurd H (by simp)
    ·rw [if_neg c4] at H
     have c4b0 : decide (x5_1 < (l0.length : Int)) = false := decide_eq_false c4
     clear c4
     obtain rfl := Option.some.inj H
     go_wp2
     repeat (go_quiet (fail); try go_wp2)
     go_ret
     exact ⟨by first | rfl | (simp; done) | (simp [*]; done), by repeat (first | exact Drawn0.refl _ | apply Drawn0.step)⟩
 ·rw [if_neg c3] at H
  have c3b0 : ((l0.length : Int) == (l1.length : Int)) = false := beq_eq_false_iff_ne.mpr c3
  have c3b1 : ((l0.length : Int) != (l1.length : Int)) = true := bne_iff_ne.mpr c3
  have c3b2 : (l0.length == l1.length) = false := by first | simpa using c3 | (simp at c3 ⊢; omega)
  obtain rfl := Option.some.inj H
  go_enter Tryd.func35, Tryd.ntmps35
  go_wp2
  repeat (go_quiet (fail); try go_wp2)
  go_ret
  exact ⟨by first | rfl | (simp; done) | (simp [*]; done), by repeat (first | exact Drawn0.refl _ | apply Drawn0.step)⟩
def corebankref34_sameChanges.l0 : Nat → List (S50) → List (S50) → Int → Option (Bool)
 | 0, _, _, _ => none
 | k + 1, x0, x1, x5 => if x5 < (x0.length : Int) then (if 0 ≤ x5 then (if x5 < (x1.length : Int) then (if (!(((rd_T50 x0 x5).f0) == ((rd_T50 x1 x5).f0)) || (!(((rd_T50 x0 x5).f1) == ((rd_T50 x1 x5).f1)) || ((!(((rd_T50 x0 x5).f2.f0) == ((rd_T50 x1 x5).f2.f0)) || (!(((rd_T50 x0 x5).f2.f1) == ((rd_T50 x1 x5).f2.f1)) || (!(((rd_T50 x0 x5).f2.f2) == ((rd_T50 x1 x5).f2.f2)) || (!(((rd_T50 x0 x5).f2.f3) == ((rd_T50 x1 x5).f2.f3)) || (!(((rd_T50 x0 x5).f2.f4) == ((rd_T50 x1 x5).f2.f4)) || (!(((rd_T50 x0 x5).f2.f5) == ((rd_T50 x1 x5).f2.f5)) || (!(((rd_T50 x0 x5).f2.f6) == ((rd_T50 x1 x5).f2.f6)) || (!(((rd_T50 x0 x5).f2.f7) == ((rd_T50 x1 x5).f2.f7)) || (!(((rd_T50 x0 x5).f2.f8) == ((rd_T50 x1 x5).f2.f8)) || (!(((rd_T50 x0 x5).f2.f9) == ((rd_T50 x1 x5).f2.f9)) || (!((((rd_T50 x0 x5).f2.f10).toList) == (((rd_T50 x1 x5).f2.f10).toList)) || (!((((rd_T50 x0 x5).f2.f11).toList) == (((rd_T50 x1 x5).f2.f11).toList))))))))))))))))) = true then (some false) else (corebankref34_sameChanges.l0 k x0 x1 (wrap64 (x5 + 1)))) else (none)) else (none)) else (some true)
def corebankref34_sameChanges.f (k : Nat) (l0 l1 : List (S50)) : Option (Bool) := if (l0.length : Int) = (l1.length : Int) then (corebankref34_sameChanges.l0 k l0 l1 0) else (some false)
set_option maxHeartbeats 8000000 in
set_option maxRecDepth 100000 in
theorem corebankref34_sameChanges.calls (k : Nat) (A0 : Option Addr) (c0 : Nat) (l0 : List (S50)) (A1 : Option Addr) (c1 : Nat) (l1 : List (S50)) (r : Bool) (w : World) (hr0 : Kd.C k50 w A0 l0.length l0) (hc0 : l0.length ≤ c0) (hr1 : Kd.C k50 w A1 l1.length l1) (hc1 : l1.length ≤ c1) (h : corebankref34_sameChanges.f k l0 l1 = some r) :
  Calls Tryd.prog 36 #[.slice A0 l0.length c0, .slice A1 l1.length c1] w fun e w' => e = .returned (.bool r) ∧ Drawn0 w w' := by
 have hu50 := Tryd.underlying50
 have HR0 := Aside0.mk hr0
 have HC0 := Aside0.mk hc0
 clear hr0 hc0
 have HR1 := Aside0.mk hr1
 have HC1 := Aside0.mk hc1
 clear hr1 hc1
 have H : (if (l0.length : Int) = (l1.length : Int) then (corebankref34_sameChanges.l0 k l0 l1 0) else (some false)) = some r := h
 clear h
 by_cases c3 : (l0.length : Int) = (l1.length : Int)
 ·rw [if_pos c3] at H
  have c3b0 : ((l0.length : Int) == (l1.length : Int)) = true := beq_iff_eq.mpr c3
  have c3b1 : ((l0.length : Int) != (l1.length : Int)) = false := bne_eq_false_iff_eq.mpr c3
  have c3b2 : (l0.length == l1.length) = true := by first | simpa using c3 | (simp at c3 ⊢; omega)
  clear c3
  have H' := Aside0.mk H
  clear H
  go_enter Tryd.func36, Tryd.ntmps36
  go_wp2
  repeat (go_quiet (fail); try go_wp2)
  go_loopg [5] k (fun kq v5 w' => ∃ (x5_1 : Int), v5 = .int .i64 x5_1 ∧ Aside0 (corebankref34_sameChanges.l0 kq l0 l1 x5_1 = some r) ∧ Aside0 (kq ≤ k) ∧ Drawn0 w w')
  case atStart => exact ⟨(0), qs_, H', ⟨Nat.le_refl _⟩, by repeat (first | exact Drawn0.refl _ | apply Drawn0.step)⟩
  case round =>
   clear H'
   try clear c1
   try clear p2
   try clear c3
   try clear c3b0
   try clear c3b1
   try clear c3b2
   obtain ⟨x5_1, rfl, HA, HK1, ⟨m1, rfl⟩⟩ := hrel
   cases gk with
   | zero => exact absurd HA.out (by simp [corebankref34_sameChanges.l0])
   | succ k1 =>
    have H := HA.out
    clear HA
    simp only [corebankref34_sameChanges.l0] at H
    by_cases c4 : x5_1 < (l0.length : Int)
    ·rw [if_pos c4] at H
     have c4b0 : decide (x5_1 < (l0.length : Int)) = true := decide_eq_true c4
     clear c4
     by_cases c5 : 0 ≤ x5_1
     ·rw [if_pos c5] at H
      have c5b0 : decide (0 ≤ x5_1) = true := decide_eq_true c5
      clear c5
      by_cases c6 : x5_1 < (l1.length : Int)
      ·rw [if_pos c6] at H
       have c6b0 : decide (x5_1 < (l1.length : Int)) = true := decide_eq_true c6
       clear c6
       by_cases c7 : (!(((rd_T50 l0 x5_1).f0) == ((rd_T50 l1 x5_1).f0)) || (!(((rd_T50 l0 x5_1).f1) == ((rd_T50 l1 x5_1).f1)) || ((!(((rd_T50 l0 x5_1).f2.f0) == ((rd_T50 l1 x5_1).f2.f0)) || (!(((rd_T50 l0 x5_1).f2.f1) == ((rd_T50 l1 x5_1).f2.f1)) || (!(((rd_T50 l0 x5_1).f2.f2) == ((rd_T50 l1 x5_1).f2.f2)) || (!(((rd_T50 l0 x5_1).f2.f3) == ((rd_T50 l1 x5_1).f2.f3)) || (!(((rd_T50 l0 x5_1).f2.f4) == ((rd_T50 l1 x5_1).f2.f4)) || (!(((rd_T50 l0 x5_1).f2.f5) == ((rd_T50 l1 x5_1).f2.f5)) || (!(((rd_T50 l0 x5_1).f2.f6) == ((rd_T50 l1 x5_1).f2.f6)) || (!(((rd_T50 l0 x5_1).f2.f7) == ((rd_T50 l1 x5_1).f2.f7)) || (!(((rd_T50 l0 x5_1).f2.f8) == ((rd_T50 l1 x5_1).f2.f8)) || (!(((rd_T50 l0 x5_1).f2.f9) == ((rd_T50 l1 x5_1).f2.f9)) || (!((((rd_T50 l0 x5_1).f2.f10).toList) == (((rd_T50 l1 x5_1).f2.f10).toList)) || (!((((rd_T50 l0 x5_1).f2.f11).toList) == (((rd_T50 l1 x5_1).f2.f11).toList))))))))))))))))) = true
       ·rw [if_pos c7] at H
        have c7b0 : (!(((rd_T50 l0 x5_1).f0) == ((rd_T50 l1 x5_1).f0)) || (!(((rd_T50 l0 x5_1).f1) == ((rd_T50 l1 x5_1).f1)) || ((!(((rd_T50 l0 x5_1).f2.f0) == ((rd_T50 l1 x5_1).f2.f0)) || (!(((rd_T50 l0 x5_1).f2.f1) == ((rd_T50 l1 x5_1).f2.f1)) || (!(((rd_T50 l0 x5_1).f2.f2) == ((rd_T50 l1 x5_1).f2.f2)) || (!(((rd_T50 l0 x5_1).f2.f3) == ((rd_T50 l1 x5_1).f2.f3)) || (!(((rd_T50 l0 x5_1).f2.f4) == ((rd_T50 l1 x5_1).f2.f4)) || (!(((rd_T50 l0 x5_1).f2.f5) == ((rd_T50 l1 x5_1).f2.f5)) || (!(((rd_T50 l0 x5_1).f2.f6) == ((rd_T50 l1 x5_1).f2.f6)) || (!(((rd_T50 l0 x5_1).f2.f7) == ((rd_T50 l1 x5_1).f2.f7)) || (!(((rd_T50 l0 x5_1).f2.f8) == ((rd_T50 l1 x5_1).f2.f8)) || (!(((rd_T50 l0 x5_1).f2.f9) == ((rd_T50 l1 x5_1).f2.f9)) || (!((((rd_T50 l0 x5_1).f2.f10).toList) == (((rd_T50 l1 x5_1).f2.f10).toList)) || (!((((rd_T50 l0 x5_1).f2.f11).toList) == (((rd_T50 l1 x5_1).f2.f11).toList))))))))))))))))) = true := c7
        clear c7
        obtain rfl := Option.some.inj H
        have p423 : 0 ≤ (x5_1 : Int) := of_decide_eq_true (by first | (with_reducible assumption) | assumption)
        have q423 : x5_1 < (l0.length : Int) := of_decide_eq_true (by first | (with_reducible assumption) | assumption)
        obtain ⟨ad423, e423, hx423_0, hx423_1, hx423_2, hx423_3, hx423_4, hx423_5, hx423_6, hx423_7, hx423_8, hx423_9, hx423_10, hx423_11, hx423_12, hx423_13⟩ := at_T50 HR0.out x5_1 p423 q423
        cases e423
        replace p423 := eq_true p423
        replace q423 := eq_true q423
        have p424 : 0 ≤ (x5_1 : Int) := of_decide_eq_true (by first | (with_reducible assumption) | assumption)
        have q424 : x5_1 < (l1.length : Int) := of_decide_eq_true (by first | (with_reducible assumption) | assumption)
        obtain ⟨ad424, e424, hx424_0, hx424_1, hx424_2, hx424_3, hx424_4, hx424_5, hx424_6, hx424_7, hx424_8, hx424_9, hx424_10, hx424_11, hx424_12, hx424_13⟩ := at_T50 HR1.out x5_1 p424 q424
        cases e424
        replace p424 := eq_true p424
        replace q424 := eq_true q424
        go_wp2
        repeat (go_quiet (fail); try go_wp2)
        go_ret
        exact ⟨by first | rfl | (simp; done) | (simp [*]; done), by repeat (first | exact Drawn0.refl _ | apply Drawn0.step)⟩
       ·rw [if_neg c7] at H
        have c7b0 : (!(((rd_T50 l0 x5_1).f0) == ((rd_T50 l1 x5_1).f0)) || (!(((rd_T50 l0 x5_1).f1) == ((rd_T50 l1 x5_1).f1)) || ((!(((rd_T50 l0 x5_1).f2.f0) == ((rd_T50 l1 x5_1).f2.f0)) || (!(((rd_T50 l0 x5_1).f2.f1) == ((rd_T50 l1 x5_1).f2.f1)) || (!(((rd_T50 l0 x5_1).f2.f2) == ((rd_T50 l1 x5_1).f2.f2)) || (!(((rd_T50 l0 x5_1).f2.f3) == ((rd_T50 l1 x5_1).f2.f3)) || (!(((rd_T50 l0 x5_1).f2.f4) == ((rd_T50 l1 x5_1).f2.f4)) || (!(((rd_T50 l0 x5_1).f2.f5) == ((rd_T50 l1 x5_1).f2.f5)) || (!(((rd_T50 l0 x5_1).f2.f6) == ((rd_T50 l1 x5_1).f2.f6)) || (!(((rd_T50 l0 x5_1).f2.f7) == ((rd_T50 l1 x5_1).f2.f7)) || (!(((rd_T50 l0 x5_1).f2.f8) == ((rd_T50 l1 x5_1).f2.f8)) || (!(((rd_T50 l0 x5_1).f2.f9) == ((rd_T50 l1 x5_1).f2.f9)) || (!((((rd_T50 l0 x5_1).f2.f10).toList) == (((rd_T50 l1 x5_1).f2.f10).toList)) || (!((((rd_T50 l0 x5_1).f2.f11).toList) == (((rd_T50 l1 x5_1).f2.f11).toList))))))))))))))))) = false := by simpa using c7
        clear c7
        have H' := Aside0.mk H
        clear H
        have p423 : 0 ≤ (x5_1 : Int) := of_decide_eq_true (by first | (with_reducible assumption) | assumption)
        have q423 : x5_1 < (l0.length : Int) := of_decide_eq_true (by first | (with_reducible assumption) | assumption)
        obtain ⟨ad423, e423, hx423_0, hx423_1, hx423_2, hx423_3, hx423_4, hx423_5, hx423_6, hx423_7, hx423_8, hx423_9, hx423_10, hx423_11, hx423_12, hx423_13⟩ := at_T50 HR0.out x5_1 p423 q423
        cases e423
        replace p423 := eq_true p423
        replace q423 := eq_true q423
        have p424 : 0 ≤ (x5_1 : Int) := of_decide_eq_true (by first | (with_reducible assumption) | assumption)
        have q424 : x5_1 < (l1.length : Int) := of_decide_eq_true (by first | (with_reducible assumption) | assumption)
        obtain ⟨ad424, e424, hx424_0, hx424_1, hx424_2, hx424_3, hx424_4, hx424_5, hx424_6, hx424_7, hx424_8, hx424_9, hx424_10, hx424_11, hx424_12, hx424_13⟩ := at_T50 HR1.out x5_1 p424 q424
        cases e424
        replace p424 := eq_true p424
        replace q424 := eq_true q424
        go_wp2
        repeat (go_quiet (fail); try go_wp2)
        go_roundg k1
        case measure => have := HK1.out; omega
        case rel => exact ⟨(wrap64 (x5_1 + 1)), qs_, H', ⟨by have := HK1.out; omega⟩, by repeat (first | exact Drawn0.refl _ | apply Drawn0.step)⟩
      ·rw [if_neg c6] at H
       exact absurd H (by simp)
     ·rw [if_neg c5] at H
      exact absurd H (by simp)
    ·rw [if_neg c4] at H
     have c4b0 : decide (x5_1 < (l0.length : Int)) = false := decide_eq_false c4
     clear c4
     obtain rfl := Option.some.inj H
     go_wp2
     repeat (go_quiet (fail); try go_wp2)
     go_ret
     exact ⟨by first | rfl | (simp; done) | (simp [*]; done), by repeat (first | exact Drawn0.refl _ | apply Drawn0.step)⟩
 ·rw [if_neg c3] at H
  have c3b0 : ((l0.length : Int) == (l1.length : Int)) = false := beq_eq_false_iff_ne.mpr c3
  have c3b1 : ((l0.length : Int) != (l1.length : Int)) = true := bne_iff_ne.mpr c3
  have c3b2 : (l0.length == l1.length) = false := by first | simpa using c3 | (simp at c3 ⊢; omega)
  obtain rfl := Option.some.inj H
  go_enter Tryd.func36, Tryd.ntmps36
  go_wp2
  repeat (go_quiet (fail); try go_wp2)
  go_ret
  exact ⟨by first | rfl | (simp; done) | (simp [*]; done), by repeat (first | exact Drawn0.refl _ | apply Drawn0.step)⟩
end Go.Proofs.YtjkjiibhdpcpkaaDoor.PS
end
section
namespace Go.Proofs.YtjkjiibhdpcpkaaDoor.PS
open Go.RowKit Go.Proofs.YtjkjiibhdpcpkaaDoorW.PrintWords Go.Proofs.YtjkjiibhdpcpkaaDoorW.PrintLast
set_option linter.unusedVariables false
set_option linter.unusedSimpArgs false
attribute [local go_sem high] eqA23
theorem ldg45_ {P : Program} {ops : Array Oper} {rest : List Oper} {o : Oper} {a : Act} {Q : Exit → Act → World → Prop} {W : World} {t : TypeId} {b : Tmp} {g : Nat} {cs : Array Value} {d : TypeDesc} (hu : P.underlying t = some d) (ho : o.op = .load t (.tmp b)) (hw : Region.wanted o (yielded ops a.tmps) = true)
  (hx : a.eval (.tmp b) = .pointer (some ⟨g, 0, none⟩)) (hb : W.heap[g]? = some (.cells cs t (0, 0))) (hd : (match d with | .struct _ | .array _ _ => true | _ => false) = true) (hi : (P.info? t).map (·.size) = some cs.size)
  (h : wpList P ops Q rest (a.put o.dst (.agg cs)) W) : wpList P ops Q (o :: rest) a W := by
  refine BigFrame.wpList_want hw fun K hK => ?_
  have hl := ld_of_cells (P := P) (w := W) (g := g) (t := t) cs.toList (fun j v hv => by rw [cell_of_row W g j cs t (0, 0) hb]; simpa using hv) hu hd (by simpa using hi)
  have hr : (execOp a.eval o).run P W = .ok (.value (.agg cs)) W := ldx_ ho hx (by simpa using hl)
  unfold Oper.wp
  rw [hr]
  exact hK _ _ h
def corebankref34_Same.f (k : Nat) (a0_0 a0_1 a0_2 a0_3 a0_4 a0_5 a0_6 a0_7 a0_8 a0_9 a0_10 a0_11 a0_12 a0_13 a0_14 a0_15 a0_16 a0_17 a0_18 a0_19 a0_20 : Int) (a0_21 a0_22 : ByteArray) (l0_23 : List (S54)) (l0_24 : List (S50)) (a1_0 a1_1 a1_2 a1_3 a1_4 a1_5 a1_6 a1_7 a1_8 a1_9 a1_10 a1_11 a1_12 a1_13 a1_14 a1_15 a1_16 a1_17 a1_18 a1_19 a1_20 : Int) (a1_21 a1_22 : ByteArray) (l1_23 : List (S54)) (l1_24 : List (S50)) : Option (Bool) := if a0_0 = a1_0 then (if a0_1 = a1_1 then (if a0_2 = a1_2 then (if a0_3 = a1_3 then (if a0_4 = a1_4 then (if a0_5 = a1_5 then (if a0_6 = a1_6 then (if a0_7 = a1_7 then (if a0_8 = a1_8 then (if a0_9 = a1_9 then (if a0_10 = a1_10 then (if (a0_11 == a1_11 && (a0_12 == a1_12 && (a0_13 == a1_13 && (a0_14 == a1_14 && (a0_15 == a1_15 && (a0_16 == a1_16 && (a0_17 == a1_17 && (a0_18 == a1_18 && (a0_19 == a1_19 && (a0_20 == a1_20 && (a0_21.toList == a1_21.toList && (a0_22.toList == a1_22.toList)))))))))))) = true then ((corebankref34_SameDues.f k l0_23 l1_23).bind fun t427 => (if t427 = true then ((corebankref34_sameChanges.f k l0_24 l1_24).bind fun t428 => (some t428)) else (some false))) else (some false)) else (some false)) else (some false)) else (some false)) else (some false)) else (some false)) else (some false)) else (some false)) else (some false)) else (some false)) else (some false)) else (some false)
set_option maxHeartbeats 8000000 in
set_option maxRecDepth 100000 in
theorem corebankref34_Same.calls1 (k : Nat) (a0_0 a0_1 a0_2 a0_3 a0_4 a0_5 a0_6 a0_7 a0_8 a0_9 a0_10 a0_11 a0_12 a0_13 a0_14 a0_15 a0_16 a0_17 a0_18 a0_19 a0_20 : Int) (a0_21 a0_22 : ByteArray) (A0_23 : Option Addr) (c0_23 : Nat) (l0_23 : List (S54)) (A0_24 : Option Addr) (c0_24 : Nat) (l0_24 : List (S50)) (a1_0 a1_1 a1_2 a1_3 a1_4 a1_5 a1_6 a1_7 a1_8 a1_9 a1_10 a1_11 a1_12 a1_13 a1_14 a1_15 a1_16 a1_17 a1_18 a1_19 a1_20 : Int) (a1_21 a1_22 : ByteArray) (A1_23 : Option Addr) (c1_23 : Nat) (l1_23 : List (S54)) (A1_24 : Option Addr) (c1_24 : Nat) (l1_24 : List (S50)) (w : World) (hr0_23 : Kd.C k54 w A0_23 l0_23.length l0_23) (hc0_23 : l0_23.length ≤ c0_23) (hr0_24 : Kd.C k50 w A0_24 l0_24.length l0_24) (hc0_24 : l0_24.length ≤ c0_24) (hr1_23 : Kd.C k54 w A1_23 l1_23.length l1_23) (hc1_23 : l1_23.length ≤ c1_23) (hr1_24 : Kd.C k50 w A1_24 l1_24.length l1_24) (hc1_24 : l1_24.length ≤ c1_24) (h : corebankref34_Same.f k a0_0 a0_1 a0_2 a0_3 a0_4 a0_5 a0_6 a0_7 a0_8 a0_9 a0_10 a0_11 a0_12 a0_13 a0_14 a0_15 a0_16 a0_17 a0_18 a0_19 a0_20 a0_21 a0_22 l0_23 l0_24 a1_0 a1_1 a1_2 a1_3 a1_4 a1_5 a1_6 a1_7 a1_8 a1_9 a1_10 a1_11 a1_12 a1_13 a1_14 a1_15 a1_16 a1_17 a1_18 a1_19 a1_20 a1_21 a1_22 l1_23 l1_24 = some true) :
  Calls Tryd.prog 18 #[.agg #[.int .i64 a0_0, .int .i64 a0_1, .int .i64 a0_2, .int .i64 a0_3, .int .i64 a0_4, .int .i64 a0_5, .int .i64 a0_6, .int .i64 a0_7, .int .i64 a0_8, .int .i64 a0_9, .int .i64 a0_10, .int .i64 a0_11, .int .i64 a0_12, .int .i64 a0_13, .int .i64 a0_14, .int .i64 a0_15, .int .i64 a0_16, .int .i64 a0_17, .int .i64 a0_18, .int .i64 a0_19, .int .i64 a0_20, .string a0_21, .string a0_22, .slice A0_23 l0_23.length c0_23, .slice A0_24 l0_24.length c0_24], .agg #[.int .i64 a1_0, .int .i64 a1_1, .int .i64 a1_2, .int .i64 a1_3, .int .i64 a1_4, .int .i64 a1_5, .int .i64 a1_6, .int .i64 a1_7, .int .i64 a1_8, .int .i64 a1_9, .int .i64 a1_10, .int .i64 a1_11, .int .i64 a1_12, .int .i64 a1_13, .int .i64 a1_14, .int .i64 a1_15, .int .i64 a1_16, .int .i64 a1_17, .int .i64 a1_18, .int .i64 a1_19, .int .i64 a1_20, .string a1_21, .string a1_22, .slice A1_23 l1_23.length c1_23, .slice A1_24 l1_24.length c1_24]] w fun e w' => e = .returned (.bool true) ∧ Below w.heap.size w w' := by
 have hu27 := Tryd.underlying27
 have hu23 := Tryd.underlying23
 have HR0_23 := Aside0.mk hr0_23
 have HC0_23 := Aside0.mk hc0_23
 clear hr0_23 hc0_23
 have HR0_24 := Aside0.mk hr0_24
 have HC0_24 := Aside0.mk hc0_24
 clear hr0_24 hc0_24
 have HR1_23 := Aside0.mk hr1_23
 have HC1_23 := Aside0.mk hc1_23
 clear hr1_23 hc1_23
 have HR1_24 := Aside0.mk hr1_24
 have HC1_24 := Aside0.mk hc1_24
 clear hr1_24 hc1_24
 have HB := Aside0.mk (Below.refl w.heap.size w)
 have H : (if a0_0 = a1_0 then (if a0_1 = a1_1 then (if a0_2 = a1_2 then (if a0_3 = a1_3 then (if a0_4 = a1_4 then (if a0_5 = a1_5 then (if a0_6 = a1_6 then (if a0_7 = a1_7 then (if a0_8 = a1_8 then (if a0_9 = a1_9 then (if a0_10 = a1_10 then (if (a0_11 == a1_11 && (a0_12 == a1_12 && (a0_13 == a1_13 && (a0_14 == a1_14 && (a0_15 == a1_15 && (a0_16 == a1_16 && (a0_17 == a1_17 && (a0_18 == a1_18 && (a0_19 == a1_19 && (a0_20 == a1_20 && (a0_21.toList == a1_21.toList && (a0_22.toList == a1_22.toList)))))))))))) = true then ((corebankref34_SameDues.f k l0_23 l1_23).bind fun t427 => (if t427 = true then ((corebankref34_sameChanges.f k l0_24 l1_24).bind fun t428 => (some t428)) else (some false))) else (some false)) else (some false)) else (some false)) else (some false)) else (some false)) else (some false)) else (some false)) else (some false)) else (some false)) else (some false)) else (some false)) else (some false)) = some true := h
 clear h
 by_cases c3 : a0_0 = a1_0
 ·rw [if_pos c3] at H
  have c3b0 : (a0_0 == a1_0) = true := beq_iff_eq.mpr c3
  have c3b1 : (a0_0 != a1_0) = false := bne_eq_false_iff_eq.mpr c3
  clear c3
  by_cases c4 : a0_1 = a1_1
  ·rw [if_pos c4] at H
   have c4b0 : (a0_1 == a1_1) = true := beq_iff_eq.mpr c4
   have c4b1 : (a0_1 != a1_1) = false := bne_eq_false_iff_eq.mpr c4
   clear c4
   by_cases c5 : a0_2 = a1_2
   ·rw [if_pos c5] at H
    have c5b0 : (a0_2 == a1_2) = true := beq_iff_eq.mpr c5
    have c5b1 : (a0_2 != a1_2) = false := bne_eq_false_iff_eq.mpr c5
    clear c5
    by_cases c6 : a0_3 = a1_3
    ·rw [if_pos c6] at H
     have c6b0 : (a0_3 == a1_3) = true := beq_iff_eq.mpr c6
     have c6b1 : (a0_3 != a1_3) = false := bne_eq_false_iff_eq.mpr c6
     clear c6
     by_cases c7 : a0_4 = a1_4
     ·rw [if_pos c7] at H
      have c7b0 : (a0_4 == a1_4) = true := beq_iff_eq.mpr c7
      have c7b1 : (a0_4 != a1_4) = false := bne_eq_false_iff_eq.mpr c7
      clear c7
      by_cases c8 : a0_5 = a1_5
      ·rw [if_pos c8] at H
       have c8b0 : (a0_5 == a1_5) = true := beq_iff_eq.mpr c8
       have c8b1 : (a0_5 != a1_5) = false := bne_eq_false_iff_eq.mpr c8
       clear c8
       by_cases c9 : a0_6 = a1_6
       ·rw [if_pos c9] at H
        have c9b0 : (a0_6 == a1_6) = true := beq_iff_eq.mpr c9
        have c9b1 : (a0_6 != a1_6) = false := bne_eq_false_iff_eq.mpr c9
        clear c9
        by_cases c10 : a0_7 = a1_7
        ·rw [if_pos c10] at H
         have c10b0 : (a0_7 == a1_7) = true := beq_iff_eq.mpr c10
         have c10b1 : (a0_7 != a1_7) = false := bne_eq_false_iff_eq.mpr c10
         clear c10
         by_cases c11 : a0_8 = a1_8
         ·rw [if_pos c11] at H
          have c11b0 : (a0_8 == a1_8) = true := beq_iff_eq.mpr c11
          have c11b1 : (a0_8 != a1_8) = false := bne_eq_false_iff_eq.mpr c11
          clear c11
          by_cases c12 : a0_9 = a1_9
          ·rw [if_pos c12] at H
           have c12b0 : (a0_9 == a1_9) = true := beq_iff_eq.mpr c12
           have c12b1 : (a0_9 != a1_9) = false := bne_eq_false_iff_eq.mpr c12
           clear c12
           by_cases c13 : a0_10 = a1_10
           ·rw [if_pos c13] at H
            have c13b0 : (a0_10 == a1_10) = true := beq_iff_eq.mpr c13
            have c13b1 : (a0_10 != a1_10) = false := bne_eq_false_iff_eq.mpr c13
            clear c13
            by_cases c14 : (a0_11 == a1_11 && (a0_12 == a1_12 && (a0_13 == a1_13 && (a0_14 == a1_14 && (a0_15 == a1_15 && (a0_16 == a1_16 && (a0_17 == a1_17 && (a0_18 == a1_18 && (a0_19 == a1_19 && (a0_20 == a1_20 && (a0_21.toList == a1_21.toList && (a0_22.toList == a1_22.toList)))))))))))) = true
            ·rw [if_pos c14] at H
             have c14b0 : (a0_11 == a1_11 && (a0_12 == a1_12 && (a0_13 == a1_13 && (a0_14 == a1_14 && (a0_15 == a1_15 && (a0_16 == a1_16 && (a0_17 == a1_17 && (a0_18 == a1_18 && (a0_19 == a1_19 && (a0_20 == a1_20 && (a0_21.toList == a1_21.toList && (a0_22.toList == a1_22.toList)))))))))))) = true := c14
             (try (have c14b1 : decide (a0_11 = a1_11 && (a0_12 == a1_12 && (a0_13 == a1_13 && (a0_14 == a1_14 && (a0_15 == a1_15 && (a0_16 == a1_16 && (a0_17 == a1_17 && (a0_18 == a1_18 && (a0_19 == a1_19 && (a0_20 == a1_20 && (a0_21.toList == a1_21.toList && (a0_22.toList == a1_22.toList)))))))))))) = true := by simpa using c14))
             (try (have c14b2 : (a0_11 == a1_11 && (a0_12 == a1_12 && (a0_13 == a1_13 && (a0_14 == a1_14 && (a0_15 == a1_15 && (a0_16 == a1_16 && (a0_17 == a1_17 && (a0_18 == a1_18 && (a0_19 == a1_19 && (a0_20 == a1_20 && (a0_21.toList == a1_21.toList && (a0_22.toList == a1_22.toList)))))))))))) = true := by simpa using c14))
             clear c14
             replace H := Option.bind_eq_some_iff.mp H
             obtain ⟨t427, A150, H⟩ := H
             replace H : (if t427 = true then ((corebankref34_sameChanges.f k l0_24 l1_24).bind fun t428 => (some t428)) else (some false)) = some true := H
             have A15 := Aside0.mk A150
             clear A150
             by_cases c16 : t427 = true
             ·subst c16
              have H1 : ((corebankref34_sameChanges.f k l0_24 l1_24).bind fun t428 => (some t428)) = some true := by rw [if_pos rfl] at H; exact H
              clear H
              have H := H1
              clear H1
              replace H := Option.bind_eq_some_iff.mp H
              obtain ⟨t428, A170, H⟩ := H
              replace H : (some t428) = some true := H
              have A17 := Aside0.mk A170
              clear A170
              have HL_ := Option.some.inj H
              go_enter Tryd.func18, Tryd.ntmps18
              go_wp2_with (first | ((with_reducible refine gate_load_ (t := 27) rfl ?_); refine ld_ (t := 27) Tryd.underlying27 rfl rfl rfl (by (repeat (first | (with_reducible first | refine blk_drewN ?_ _ | refine blk_drew ?_ | refine blk_alloc ?_ _) | refine blk_far ?_ NB425_426.out _ | refine blk_far ?_ NB426_425.out _ | refine blk_set ?_ _ _)); (with_reducible first | exact BK425.out | exact BK426.out)) rfl (by kernel_rfl) ?_) | ((with_reducible refine gate_load_ (t := 27) rfl ?_); refine ldg45_ (t := 27) Tryd.underlying27 rfl (by rfl) rfl (by (repeat (first | (with_reducible first | refine blk_drewN ?_ _ | refine blk_drew ?_ | refine blk_alloc ?_ _) | refine blk_far ?_ NB425_426.out _ | refine blk_far ?_ NB426_425.out _ | refine blk_set ?_ _ _)); (with_reducible first | exact BK425.out | exact BK426.out)) rfl (by kernel_rfl) ?_) | ((with_reducible refine gate_dst (N := 2) rfl ?_); refine be_ (N := 2) (cs := #[.int .i64 a0_0, .int .i64 a0_1, .int .i64 a0_2, .int .i64 a0_3, .int .i64 a0_4, .int .i64 a0_5, .int .i64 a0_6, .int .i64 a0_7, .int .i64 a0_8, .int .i64 a0_9, .int .i64 a0_10, .int .i64 a0_11, .int .i64 a0_12, .int .i64 a0_13, .int .i64 a0_14, .int .i64 a0_15, .int .i64 a0_16, .int .i64 a0_17, .int .i64 a0_18, .int .i64 a0_19, .int .i64 a0_20, .string a0_21, .string a0_22, .slice A0_23 l0_23.length c0_23, .slice A0_24 l0_24.length c0_24]) (t := 27) ?_; intro gb425 hg w18 hbox hb; have n0_ := Aside0.mk (below_step (qb_ HB.out) hb); have n1_ := Aside0.mk (hbox); have n2_ := Aside0.mk (bz_ hg (qb_ HB.out) : w.heap.size ≤ gb425); have n3_ := n2_; clear HB; have HB := n0_; have BK425 := n1_; have GW425 := n2_; have GE425 := n3_; clear n0_ n1_ n2_ n3_; clear hb hbox hg) | ((with_reducible refine gate_dst (N := 3) rfl ?_); refine be_ (N := 3) (cs := #[.int .i64 a1_0, .int .i64 a1_1, .int .i64 a1_2, .int .i64 a1_3, .int .i64 a1_4, .int .i64 a1_5, .int .i64 a1_6, .int .i64 a1_7, .int .i64 a1_8, .int .i64 a1_9, .int .i64 a1_10, .int .i64 a1_11, .int .i64 a1_12, .int .i64 a1_13, .int .i64 a1_14, .int .i64 a1_15, .int .i64 a1_16, .int .i64 a1_17, .int .i64 a1_18, .int .i64 a1_19, .int .i64 a1_20, .string a1_21, .string a1_22, .slice A1_23 l1_23.length c1_23, .slice A1_24 l1_24.length c1_24]) (t := 27) ?_; intro gb426 hg w19 hbox hb; have n0_ := Aside0.mk (blk_below (qk_ BK425.out) hb); have n1_ := Aside0.mk (below_step (qb1_ GE425.out HB.out) hb); have n2_ := Aside0.mk (hbox); have n3_ := Aside0.mk (bz_ hg (qb1_ GE425.out HB.out) : w.heap.size ≤ gb426); have n4_ := n3_; have n5_ := Aside0.mk (nl_ hg (qk_ BK425.out) : gb425 ≠ gb426); have n6_ := Aside0.mk (ng_ hg (qk_ BK425.out) : gb426 ≠ gb425); clear BK425; clear HB; have BK425 := n0_; have HB := n1_; have BK426 := n2_; have GW426 := n3_; have GE426 := n4_; have NB425_426 := n5_; have NB426_425 := n6_; clear n0_ n1_ n2_ n3_ n4_ n5_ n6_; clear hb hbox hg; have hnb20 := NB425_426.out; have hnc20 := NB426_425.out; obtain ⟨Z21_0, Z21_1, Z21_2, Z21_3, Z21_4, Z21_5, Z21_6, Z21_7, Z21_8, Z21_9, Z21_10, Z21_11, Z21_12, Z21_13, Z21_14, Z21_15, Z21_16, Z21_17, Z21_18, Z21_19, Z21_20, Z21_21, Z21_22, Z21_23, Z21_24, Y21_0, Y21_1, Y21_2, Y21_3, Y21_4, Y21_5, Y21_6, Y21_7, Y21_8, Y21_9, Y21_10, Y21_11, Y21_12, Y21_13, Y21_14, Y21_15, Y21_16, Y21_17, Y21_18, Y21_19, Y21_20, Y21_21, Y21_22, Y21_23, Y21_24⟩ := cz25_ BK425.out; obtain ⟨Z22_0, Z22_1, Z22_2, Z22_3, Z22_4, Z22_5, Z22_6, Z22_7, Z22_8, Z22_9, Z22_10, Z22_11, Z22_12, Z22_13, Z22_14, Z22_15, Z22_16, Z22_17, Z22_18, Z22_19, Z22_20, Z22_21, Z22_22, Z22_23, Z22_24, Y22_0, Y22_1, Y22_2, Y22_3, Y22_4, Y22_5, Y22_6, Y22_7, Y22_8, Y22_9, Y22_10, Y22_11, Y22_12, Y22_13, Y22_14, Y22_15, Y22_16, Y22_17, Y22_18, Y22_19, Y22_20, Y22_21, Y22_22, Y22_23, Y22_24⟩ := cz25_ BK426.out) | (go_at_call 35; (with_reducible refine (corebankref34_SameDues.calls k _ _ l0_23 _ _ l1_23 true _ ?side1 ?side2 ?side3 ?side4 A15.out).mono ?_); (case side1 => repeat (first | exact (Kd.C_below HR0_23.out HB.out) | (with_reducible refine Kd.C_alloc ?_ _) | (with_reducible refine Kd.C_drewN ?_ _) | (with_reducible refine Kd.C_drew ?_))); (case side2 => exact HC0_23.out); (case side3 => repeat (first | exact (Kd.C_below HR1_23.out HB.out) | (with_reducible refine Kd.C_alloc ?_ _) | (with_reducible refine Kd.C_drewN ?_ _) | (with_reducible refine Kd.C_drew ?_))); (case side4 => exact HC1_23.out); rintro e w' ⟨rfl, ⟨nd, rfl⟩⟩) | (go_at_call 36; (with_reducible refine (corebankref34_sameChanges.calls k _ _ l0_24 _ _ l1_24 t428 _ ?side1 ?side2 ?side3 ?side4 A17.out).mono ?_); (case side1 => repeat (first | exact (Kd.C_below HR0_24.out (qb2_ GE425.out GE426.out HB.out)) | (with_reducible refine Kd.C_alloc ?_ _) | (with_reducible refine Kd.C_drewN ?_ _) | (with_reducible refine Kd.C_drew ?_))); (case side2 => exact HC0_24.out); (case side3 => repeat (first | exact (Kd.C_below HR1_24.out (qb2_ GE425.out GE426.out HB.out)) | (with_reducible refine Kd.C_alloc ?_ _) | (with_reducible refine Kd.C_drewN ?_ _) | (with_reducible refine Kd.C_drew ?_))); (case side4 => exact HC1_24.out); rintro e w' ⟨rfl, ⟨nd, rfl⟩⟩))
              go_ret
              exact ⟨qe_, qb2_ GE425.out GE426.out HB.out⟩
             ·replace c16 := Bool.eq_false_iff.mpr c16
              subst c16
              have H1 : (some false) = some true := by rw [if_neg (show ¬ (false = true) by decide)] at H; exact H
              clear H
              have H := H1
              clear H1
              exact absurd H (by simp)
            ·rw [if_neg c14] at H
             have c14b0 : (a0_11 == a1_11 && (a0_12 == a1_12 && (a0_13 == a1_13 && (a0_14 == a1_14 && (a0_15 == a1_15 && (a0_16 == a1_16 && (a0_17 == a1_17 && (a0_18 == a1_18 && (a0_19 == a1_19 && (a0_20 == a1_20 && (a0_21.toList == a1_21.toList && (a0_22.toList == a1_22.toList)))))))))))) = false := by simpa using c14
             (try (have c14b1 : decide (a0_11 = a1_11 && (a0_12 == a1_12 && (a0_13 == a1_13 && (a0_14 == a1_14 && (a0_15 == a1_15 && (a0_16 == a1_16 && (a0_17 == a1_17 && (a0_18 == a1_18 && (a0_19 == a1_19 && (a0_20 == a1_20 && (a0_21.toList == a1_21.toList && (a0_22.toList == a1_22.toList)))))))))))) = false := by simpa using c14))
             (try (have c14b2 : (a0_11 == a1_11 && (a0_12 == a1_12 && (a0_13 == a1_13 && (a0_14 == a1_14 && (a0_15 == a1_15 && (a0_16 == a1_16 && (a0_17 == a1_17 && (a0_18 == a1_18 && (a0_19 == a1_19 && (a0_20 == a1_20 && (a0_21.toList == a1_21.toList && (a0_22.toList == a1_22.toList)))))))))))) = false := by simpa using c14))
             (try (have c14b3 : ¬ (a0_11 = a1_11 && (a0_12 == a1_12 && (a0_13 == a1_13 && (a0_14 == a1_14 && (a0_15 == a1_15 && (a0_16 == a1_16 && (a0_17 == a1_17 && (a0_18 == a1_18 && (a0_19 == a1_19 && (a0_20 == a1_20 && (a0_21.toList == a1_21.toList && (a0_22.toList == a1_22.toList)))))))))))) := by simpa using c14))
             clear c14
             exact absurd H (by simp)
           ·rw [if_neg c13] at H
            have c13b0 : (a0_10 == a1_10) = false := beq_eq_false_iff_ne.mpr c13
            have c13b1 : (a0_10 != a1_10) = true := bne_iff_ne.mpr c13
            exact absurd H (by simp)
          ·rw [if_neg c12] at H
           have c12b0 : (a0_9 == a1_9) = false := beq_eq_false_iff_ne.mpr c12
           have c12b1 : (a0_9 != a1_9) = true := bne_iff_ne.mpr c12
           exact absurd H (by simp)
         ·rw [if_neg c11] at H
          have c11b0 : (a0_8 == a1_8) = false := beq_eq_false_iff_ne.mpr c11
          have c11b1 : (a0_8 != a1_8) = true := bne_iff_ne.mpr c11
          exact absurd H (by simp)
        ·rw [if_neg c10] at H
         have c10b0 : (a0_7 == a1_7) = false := beq_eq_false_iff_ne.mpr c10
         have c10b1 : (a0_7 != a1_7) = true := bne_iff_ne.mpr c10
         exact absurd H (by simp)
       ·rw [if_neg c9] at H
        have c9b0 : (a0_6 == a1_6) = false := beq_eq_false_iff_ne.mpr c9
        have c9b1 : (a0_6 != a1_6) = true := bne_iff_ne.mpr c9
        exact absurd H (by simp)
      ·rw [if_neg c8] at H
       have c8b0 : (a0_5 == a1_5) = false := beq_eq_false_iff_ne.mpr c8
       have c8b1 : (a0_5 != a1_5) = true := bne_iff_ne.mpr c8
       exact absurd H (by simp)
     ·rw [if_neg c7] at H
      have c7b0 : (a0_4 == a1_4) = false := beq_eq_false_iff_ne.mpr c7
      have c7b1 : (a0_4 != a1_4) = true := bne_iff_ne.mpr c7
      exact absurd H (by simp)
    ·rw [if_neg c6] at H
     have c6b0 : (a0_3 == a1_3) = false := beq_eq_false_iff_ne.mpr c6
     have c6b1 : (a0_3 != a1_3) = true := bne_iff_ne.mpr c6
     exact absurd H (by simp)
   ·rw [if_neg c5] at H
    have c5b0 : (a0_2 == a1_2) = false := beq_eq_false_iff_ne.mpr c5
    have c5b1 : (a0_2 != a1_2) = true := bne_iff_ne.mpr c5
    exact absurd H (by simp)
  ·rw [if_neg c4] at H
   have c4b0 : (a0_1 == a1_1) = false := beq_eq_false_iff_ne.mpr c4
   have c4b1 : (a0_1 != a1_1) = true := bne_iff_ne.mpr c4
   exact absurd H (by simp)
 ·rw [if_neg c3] at H
  have c3b0 : (a0_0 == a1_0) = false := beq_eq_false_iff_ne.mpr c3
  have c3b1 : (a0_0 != a1_0) = true := bne_iff_ne.mpr c3
  exact absurd H (by simp)
end Go.Proofs.YtjkjiibhdpcpkaaDoor.PS
end
