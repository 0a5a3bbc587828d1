import Derived.Test.YtkdhippoibjfkaaDoorQRm2
import Derived.Test.YtkdhippoibjfkaaDoorQRm5
import Derived.Test.YtkdhippoibjfkaaDoorQRm6
import Derived.Test.YtkdhippoibjfkaaDoorQRx30
import Derived.Test.YtkdhippoibjfkaaDoorQRx31
namespace Go.Proofs.YtkdhippoibjfkaaDoor.PR
open Go.RowKit Go.Proofs.YtkdhippoibjfkaaDoorW.PrintWords Go.Proofs.YtkdhippoibjfkaaDoorW.PrintLast
set_option linter.unusedVariables false
set_option linter.unusedSimpArgs false
def corebankref01_Scale.f (a0_0 a0_1 a1 : Int) : Option (Int × Int × Int) :=
 if isW a0_0 a0_1 ∧ inI a1 then some (if in128 (wv a0_0 a0_1 * a1) then (wv a0_0 a0_1 * a1 / 18446744073709551616, wv a0_0 a0_1 * a1 % 18446744073709551616, 0) else (0, 0, 6)) else none
theorem mul_abs' (v n : Int) : (if v < 0 then -v else v) * (if n < 0 then -n else n) = (if (decide (v < 0) != decide (n < 0)) = true then -(v * n) else v * n) ∧ 0 ≤ (if v < 0 then -v else v) * (if n < 0 then -n else n) := by
 have h0 : 0 ≤ (if v < 0 then -v else v) := by split <;> omega
 have h1 : 0 ≤ (if n < 0 then -n else n) := by split <;> omega
 refine ⟨?_, Int.mul_nonneg h0 h1⟩
 by_cases ha : v < 0 <;> by_cases hb : n < 0 <;> simp [ha, hb, Int.neg_mul, Int.mul_neg]
theorem corebankref01_Scale.eq {a b n : Int} {r : Int × Int × Int} (h : corebankref01_Scale.f a b n = some r) : ∃ k, corebankref01_ScaleP.f k a b n = some r := by
 unfold corebankref01_Scale.f at h
 split at h
 ·rename_i q
  obtain ⟨⟨⟨a0, a1⟩, b0, b1⟩, n0, n1⟩ := q
  injection h with h
  subst h
  refine ⟨1, ?_⟩
  unfold corebankref01_ScaleP.f corebankref01_Split.f corebankref01_size.f
  have hW : isW a b := ⟨⟨a0, a1⟩, b0, b1⟩
  have hI : inI n := ⟨n0, n1⟩
  rw [if_pos hW, if_pos hI]
  simp only [Option.bind_some]
  have hv : wv a b = a * 18446744073709551616 + b := rfl
  have hs : decide (a < 0) = decide (wv a b < 0) := by apply decide_eq_decide.mpr; omega
  have hm : (if a < 0 then -(wv a b) else wv a b) = (if wv a b < 0 then -(wv a b) else wv a b) := by split <;> split <;> omega
  rw [hm, hs]
  have mr : 0 ≤ (if wv a b < 0 then -(wv a b) else wv a b) ∧ (if wv a b < 0 then -(wv a b) else wv a b) ≤ 170141183460469231731687303715884105728 := by split <;> omega
  have nr : 0 ≤ (if n < 0 then -n else n) ∧ (if n < 0 then -n else n) ≤ 9223372036854775808 := by split <;> omega
  obtain ⟨z1, z2⟩ := mul_abs' (wv a b) n
  generalize wv a b = v at *
  generalize (if v < 0 then -v else v) = M at *
  generalize (if n < 0 then -n else n) = N at *
  have hU : (inU (M / 18446744073709551616) ∧ inU (M % 18446744073709551616)) ∧ inU N := ⟨⟨by unfold inU; omega, by unfold inU; omega⟩, by unfold inU; omega⟩
  have hwM : wv (M / 18446744073709551616) (M % 18446744073709551616) = M := by unfold wv; omega
  unfold corebankref01_times.f
  rw [if_pos hU, hwM]
  simp only [Option.bind_some]
  unfold corebankref01_Join.f
  have hU2 : inU (M * N / 18446744073709551616 % 18446744073709551616) ∧ inU (M * N % 18446744073709551616) := ⟨by unfold inU; omega, by unfold inU; omega⟩
  have hw2 : wv (M * N / 18446744073709551616 % 18446744073709551616) (M * N % 18446744073709551616) = M * N % 340282366920938463463374607431768211456 := by unfold wv; omega
  rw [if_pos hU2, hw2]
  simp only [Option.bind_some]
  generalize (decide (v < 0) != decide (n < 0)) = sg at *
  have hvn : v * n = if sg = true then -(M * N) else M * N := by split at z1 <;> split <;> simp_all
  rw [hvn]
  generalize M * N = V at *
  by_cases hV : V < 340282366920938463463374607431768211456
  ·rw [if_pos (decide_eq_true hV), Int.emod_eq_of_lt z2 hV]
   simp only [corebankref01_ScaleP.j0]
   by_cases hin : in128 (if sg = true then -V else V)
   ·rw [if_pos hin, decide_eq_true hin, if_neg (by decide)]
    have : wrap64 ((if sg = true then -V else V) / 18446744073709551616) = (if sg = true then -V else V) / 18446744073709551616 := i64_id _ (by unfold in128 at hin; omega) (by unfold in128 at hin; omega)
    rw [this]
   ·rw [if_neg hin, decide_eq_false hin, if_pos (by decide)]
  ·rw [if_neg (by simpa using hV)]
   simp only [corebankref01_ScaleP.j0]
   rw [if_pos trivial, if_neg (by unfold in128; split <;> omega)]
 ·cases h
theorem corebankref01_Scale.calls (a0_0 : Int) (a0_1 : Int) (a1 : Int) (r1 : Int) (r2 : Int) (r3 : Int) (w : World) (h : corebankref01_Scale.f a0_0 a0_1 a1 = some (r1, r2, r3)) :
  Calls Tryd.prog 45 #[.agg #[.int .i64 a0_0, .int .u64 a0_1], .int .i64 a1] w fun e w' => e = .returned (.tuple #[.agg #[.int .i64 r1, .int .u64 r2], .int .i64 r3]) ∧ Below w.heap.size w w' := by
 obtain ⟨k, h⟩ := corebankref01_Scale.eq h
 exact corebankref01_ScaleP.calls k a0_0 a0_1 a1 r1 r2 r3 w h
def corebankref01_MulP.f (a0 : Int) (a1 : Int) : Option (Int × Int) := (corebankref01_Of.f a0).bind fun bt384 => ((corebankref01_Scale.f bt384.1 bt384.2 a1).bind fun bt386 => (some (bt386.1, bt386.2.1)))
set_option maxHeartbeats 8000000 in
set_option maxRecDepth 100000 in
theorem corebankref01_MulP.calls (a0 : Int) (a1 : Int) (r1 : Int) (r2 : Int) (w : World) (h : corebankref01_MulP.f a0 a1 = some (r1, r2)) :
  Calls Tryd.prog 19 #[.int .i64 a0, .int .i64 a1] w fun e w' => e = .returned (.agg #[.int .i64 r1, .int .u64 r2]) ∧ Below w.heap.size w w' := by
 have hu24 := Tryd.underlying24
 have HB := Aside0.mk (Below.refl w.heap.size w)
 have H : ((corebankref01_Of.f a0).bind fun bt384 => ((corebankref01_Scale.f bt384.1 bt384.2 a1).bind fun bt386 => (some (bt386.1, bt386.2.1)))) = some (r1, r2) := h
 clear h
 replace H := Option.bind_eq_some_iff.mp H
 obtain ⟨⟨t384, t385⟩, A30, H⟩ := H
 replace H : ((corebankref01_Scale.f t384 t385 a1).bind fun bt386 => (some (bt386.1, bt386.2.1))) = some (r1, r2) := H
 have A3 := Aside0.mk A30
 clear A30
 replace H := Option.bind_eq_some_iff.mp H
 obtain ⟨⟨t386, t387, t388⟩, A40, H⟩ := H
 replace H : (some (t386, t387)) = some (r1, r2) := H
 have A4 := Aside0.mk A40
 clear A40
 simp only [Option.some.injEq, Prod.mk.injEq] at H
 obtain ⟨rfl, rfl⟩ := H
 go_enter Tryd.func19, Tryd.ntmps19
 go_wp2_with (first | ((with_reducible refine gate_dst (N := 4) rfl ?_); refine be_ (N := 4) (cs := #[.int .i64 0, .int .u64 0]) (t := 24) ?_; intro gb383 hg w5 hbox hb; have n0_ := Aside0.mk (below_step (qb_ HB.out) hb); have n1_ := Aside0.mk (hbox); have n2_ := Aside0.mk (bz_ hg (qb_ HB.out) : w.heap.size ≤ gb383); have n3_ := n2_; clear HB; have HB := n0_; have BK383 := n1_; have GW383 := n2_; have GE383 := n3_; clear n0_ n1_ n2_ n3_; clear hb hbox hg) | ((with_reducible refine gate_callee (f := 21) rfl ?_); refine goesL_ (some 9) rfl rfl Tryd.func21 (by kernel_rfl) rfl #[.int .i64 a0] rfl ql_ ?_; (with_reducible refine (corebankref01_Of.calls a0 t384 t385 _ A3.out).mono ?_); rintro e w6 ⟨rfl, hb⟩; refine ⟨_, rfl, ?_⟩; have n0_ := Aside0.mk (blk_below (qk_ BK383.out) hb); have n1_ := Aside0.mk (below_step (qb1_ GE383.out HB.out) hb); clear BK383; clear HB; have BK383 := n0_; have HB := n1_; clear n0_ n1_; (try clear hb); (try clear hb2); (try clear hk); (try clear hi)) | ((with_reducible refine gate_callee (f := 45) rfl ?_); refine goesL_ (some 11) rfl rfl Tryd.func45 (by kernel_rfl) rfl #[.agg #[.int .i64 t384, .int .u64 t385], .int .i64 a1] rfl ql_ ?_; (with_reducible refine (corebankref01_Scale.calls t384 t385 a1 t386 t387 t388 _ A4.out).mono ?_); rintro e w7 ⟨rfl, hb⟩; refine ⟨_, rfl, ?_⟩; have n0_ := Aside0.mk (blk_below (qk_ BK383.out) hb); have n1_ := Aside0.mk (below_step (qb1_ GE383.out HB.out) hb); clear BK383; clear HB; have BK383 := n0_; have HB := n1_; clear n0_ n1_; (try clear hb); (try clear hb2); (try clear hk); (try clear hi)) | ((with_reducible refine gate_dst (N := 5) rfl ?_); refine be_ (N := 5) (cs := #[.int .i64 0, .int .u64 0]) (t := 24) ?_; intro gb389 hg w8 hbox hb; have n0_ := Aside0.mk (blk_below (qk_ BK383.out) hb); have n1_ := Aside0.mk (below_step (qb1_ GE383.out HB.out) hb); have n2_ := Aside0.mk (hbox); have n3_ := Aside0.mk (bz_ hg (qb1_ GE383.out HB.out) : w.heap.size ≤ gb389); have n4_ := n3_; have n5_ := Aside0.mk (nl_ hg (qk_ BK383.out) : gb383 ≠ gb389); have n6_ := Aside0.mk (ng_ hg (qk_ BK383.out) : gb389 ≠ gb383); clear BK383; clear HB; have BK383 := n0_; have HB := n1_; have BK389 := n2_; have GW389 := n3_; have GE389 := n4_; have NB383_389 := n5_; have NB389_383 := n6_; clear n0_ n1_ n2_ n3_ n4_ n5_ n6_; clear hb hbox hg; have hnb9 := NB389_383.out; have hnc9 := NB383_389.out; have hcz10_0 : w8.cell? ⟨gb389, 0, none⟩ = some (.int .i64 0) := (blk_cell BK389.out 0).trans rfl; have hcz10_1 : w8.cell? ⟨gb389, 1, none⟩ = some (.int .u64 0) := (blk_cell BK389.out 1).trans rfl; have hfz10_0 := blk_frozen BK389.out 0; have hfz10_1 := blk_frozen BK389.out 1; have hcz11_0 : w8.cell? ⟨gb383, 0, none⟩ = some (.int .i64 0) := (blk_cell BK383.out 0).trans rfl; have hcz11_1 : w8.cell? ⟨gb383, 1, none⟩ = some (.int .u64 0) := (blk_cell BK383.out 1).trans rfl; have hfz11_0 := blk_frozen BK383.out 0; have hfz11_1 := blk_frozen BK383.out 1))
 refine bodyPost_ret (results_cell_row rfl _ _ gb383 24 #[.int .i64 t386, .int .u64 t387] (0, 0) _ rfl (qppff_ #[.int .i64 t386, .int .u64 0] 1 #[.int .i64 0, .int .u64 0] 0 NB383_389.out NB383_389.out BK383.out) Tryd.underlying24 rfl (by kernel_rfl)) rfl ?_
 exact ⟨qe_, qb2_ GE383.out GE389.out HB.out⟩
def corebankref01_Mul.f (a0 a1 : Int) : Option (Int × Int) := if inI a0 ∧ inI a1 then some (a0 * a1 / 18446744073709551616, a0 * a1 % 18446744073709551616) else none
theorem corebankref01_Mul.eq {a b : Int} {r : Int × Int} (h : corebankref01_Mul.f a b = some r) : corebankref01_MulP.f a b = some r := by
 unfold corebankref01_Mul.f at h
 split at h
 ·rename_i q
  obtain ⟨⟨a0, a1⟩, b0, b1⟩ := q
  injection h with h
  subst h
  unfold corebankref01_MulP.f corebankref01_Of.f
  have hA : inI a := ⟨a0, a1⟩
  have hB : inI b := ⟨b0, b1⟩
  rw [if_pos hA]
  simp only [Option.bind_some]
  have hw : wv (a / 18446744073709551616) (a % 18446744073709551616) = a := by unfold wv; omega
  have hW : isW (a / 18446744073709551616) (a % 18446744073709551616) := ⟨by unfold inI; omega, by unfold inU; omega⟩
  obtain ⟨z1, z2, z3⟩ := mul_abs a b a0 a1 b0 b1
  generalize (if a < 0 then -a else a) * (if b < 0 then -b else b) = e at z1 z2 z3
  have hin : in128 (a * b) := by unfold in128; split at z1 <;> omega
  unfold corebankref01_Scale.f
  rw [if_pos ⟨hW, hB⟩, hw, if_pos hin]
  rfl
 ·cases h
theorem corebankref01_Mul.calls (a0 : Int) (a1 : Int) (r1 : Int) (r2 : Int) (w : World) (h : corebankref01_Mul.f a0 a1 = some (r1, r2)) :
  Calls Tryd.prog 19 #[.int .i64 a0, .int .i64 a1] w fun e w' => e = .returned (.agg #[.int .i64 r1, .int .u64 r2]) ∧ Below w.heap.size w w' := by
 have h := corebankref01_Mul.eq h
 exact corebankref01_MulP.calls a0 a1 r1 r2 w h
def corebankref02_Good.f (a0 : Int) : Option (Bool) := if a0 ≥ (-1000000000000) then (some (decide (a0 ≤ 1000000000000))) else (some false)
set_option maxHeartbeats 8000000 in
set_option maxRecDepth 100000 in
theorem corebankref02_Good.calls (a0 : Int) (r : Bool) (w : World) (h : corebankref02_Good.f a0 = some r) :
  Calls Tryd.prog 27 #[.int .i64 a0] w fun e w' => e = .returned (.bool r) ∧ Drawn0 w w' := by
 have H : (if a0 ≥ (-1000000000000) then (some (decide (a0 ≤ 1000000000000))) else (some false)) = some r := h
 clear h
 by_cases c2 : a0 ≥ (-1000000000000)
 ·rw [if_pos c2] at H
  have c2b0 : decide ((-1000000000000) ≤ a0) = true := decide_eq_true c2
  clear c2
  obtain rfl := Option.some.inj H
  go_enter Tryd.func27, Tryd.ntmps27
  go_wp2
  go_ret
  exact ⟨by first | rfl | (simp; done) | (simp [*]; done), by repeat (first | exact Drawn0.refl _ | apply Drawn0.step)⟩
 ·rw [if_neg c2] at H
  have c2b0 : decide ((-1000000000000) ≤ a0) = false := decide_eq_false c2
  clear c2
  obtain rfl := Option.some.inj H
  go_enter Tryd.func27, Tryd.ntmps27
  go_wp2
  go_ret
  exact ⟨by first | rfl | (simp; done) | (simp [*]; done), by repeat (first | exact Drawn0.refl _ | apply Drawn0.step)⟩
def corebankref01_SubP.f (a0_0 : Int) (a0_1 : Int) (a1_0 : Int) (a1_1 : Int) : Option (Int × Int × Int) := (corebankref01_Split.f a0_0 a0_1).bind fun bt393 => ((corebankref01_Split.f a1_0 a1_1).bind fun bt397 => ((corebankref01_sum.f bt393.1 bt393.2.1 bt393.2.2 (!bt397.1) bt397.2.1 bt397.2.2).bind fun bt401 => (some (bt401.1, bt401.2.1, bt401.2.2))))
set_option maxHeartbeats 8000000 in
set_option maxRecDepth 100000 in
theorem corebankref01_SubP.calls (a0_0 : Int) (a0_1 : Int) (a1_0 : Int) (a1_1 : Int) (r1 : Int) (r2 : Int) (r3 : Int) (w : World) (h : corebankref01_SubP.f a0_0 a0_1 a1_0 a1_1 = some (r1, r2, r3)) :
  Calls Tryd.prog 28 #[.agg #[.int .i64 a0_0, .int .u64 a0_1], .agg #[.int .i64 a1_0, .int .u64 a1_1]] w fun e w' => e = .returned (.tuple #[.agg #[.int .i64 r1, .int .u64 r2], .int .i64 r3]) ∧ Below w.heap.size w w' := by
 have hu24 := Tryd.underlying24
 have hu54 := Tryd.underlying54
 have HB := Aside0.mk (Below.refl w.heap.size w)
 have H : ((corebankref01_Split.f a0_0 a0_1).bind fun bt393 => ((corebankref01_Split.f a1_0 a1_1).bind fun bt397 => ((corebankref01_sum.f bt393.1 bt393.2.1 bt393.2.2 (!bt397.1) bt397.2.1 bt397.2.2).bind fun bt401 => (some (bt401.1, bt401.2.1, bt401.2.2))))) = some (r1, r2, r3) := h
 clear h
 replace H := Option.bind_eq_some_iff.mp H
 obtain ⟨⟨t393, t394, t395⟩, A30, H⟩ := H
 replace H : ((corebankref01_Split.f a1_0 a1_1).bind fun bt397 => ((corebankref01_sum.f t393 t394 t395 (!bt397.1) bt397.2.1 bt397.2.2).bind fun bt401 => (some (bt401.1, bt401.2.1, bt401.2.2)))) = some (r1, r2, r3) := H
 have A3 := Aside0.mk A30
 clear A30
 replace H := Option.bind_eq_some_iff.mp H
 obtain ⟨⟨t397, t398, t399⟩, A40, H⟩ := H
 replace H : ((corebankref01_sum.f t393 t394 t395 (!t397) t398 t399).bind fun bt401 => (some (bt401.1, bt401.2.1, bt401.2.2))) = some (r1, r2, r3) := H
 have A4 := Aside0.mk A40
 clear A40
 replace H := Option.bind_eq_some_iff.mp H
 obtain ⟨⟨t401, t402, t403⟩, A50, H⟩ := H
 replace H : (some (t401, t402, t403)) = some (r1, r2, r3) := H
 have A5 := Aside0.mk A50
 clear A50
 simp only [Option.some.injEq, Prod.mk.injEq] at H
 obtain ⟨rfl, rfl, rfl⟩ := H
 go_enter Tryd.func28, Tryd.ntmps28
 go_wp2_with (first | ((with_reducible refine gate_dst (N := 2) rfl ?_); refine be_ (N := 2) (cs := #[.int .i64 a0_0, .int .u64 a0_1]) (t := 24) ?_; intro gb390 hg w6 hbox hb; have n0_ := Aside0.mk (below_step (qb_ HB.out) hb); have n1_ := Aside0.mk (hbox); have n2_ := Aside0.mk (bz_ hg (qb_ HB.out) : w.heap.size ≤ gb390); have n3_ := n2_; clear HB; have HB := n0_; have BK390 := n1_; have GW390 := n2_; have GE390 := n3_; clear n0_ n1_ n2_ n3_; clear hb hbox hg) | ((with_reducible refine gate_dst (N := 3) rfl ?_); refine be_ (N := 3) (cs := #[.int .i64 a1_0, .int .u64 a1_1]) (t := 24) ?_; intro gb391 hg w7 hbox hb; have n0_ := Aside0.mk (blk_below (qk_ BK390.out) hb); have n1_ := Aside0.mk (below_step (qb1_ GE390.out HB.out) hb); have n2_ := Aside0.mk (hbox); have n3_ := Aside0.mk (bz_ hg (qb1_ GE390.out HB.out) : w.heap.size ≤ gb391); have n4_ := n3_; have n5_ := Aside0.mk (nl_ hg (qk_ BK390.out) : gb390 ≠ gb391); have n6_ := Aside0.mk (ng_ hg (qk_ BK390.out) : gb391 ≠ gb390); clear BK390; clear HB; have BK390 := n0_; have HB := n1_; have BK391 := n2_; have GW391 := n3_; have GE391 := n4_; have NB390_391 := n5_; have NB391_390 := n6_; clear n0_ n1_ n2_ n3_ n4_ n5_ n6_; clear hb hbox hg) | ((with_reducible refine gate_dst (N := 4) rfl ?_); refine be_ (N := 4) (cs := #[.int .i64 0, .int .u64 0]) (t := 24) ?_; intro gb392 hg w8 hbox hb; have n0_ := Aside0.mk (blk_below (qk_ BK390.out) hb); have n1_ := Aside0.mk (blk_below (qk_ BK391.out) hb); have n2_ := Aside0.mk (below_step (qb2_ GE390.out GE391.out HB.out) hb); have n3_ := Aside0.mk (hbox); have n4_ := Aside0.mk (bz_ hg (qb2_ GE390.out GE391.out HB.out) : w.heap.size ≤ gb392); have n5_ := n4_; have n6_ := Aside0.mk (nl_ hg (qk_ BK390.out) : gb390 ≠ gb392); have n7_ := Aside0.mk (ng_ hg (qk_ BK390.out) : gb392 ≠ gb390); have n8_ := Aside0.mk (nl_ hg (qk_ BK391.out) : gb391 ≠ gb392); have n9_ := Aside0.mk (ng_ hg (qk_ BK391.out) : gb392 ≠ gb391); clear BK390; clear BK391; clear HB; have BK390 := n0_; have BK391 := n1_; have HB := n2_; have BK392 := n3_; have GW392 := n4_; have GE392 := n5_; have NB390_392 := n6_; have NB392_390 := n7_; have NB391_392 := n8_; have NB392_391 := n9_; clear n0_ n1_ n2_ n3_ n4_ n5_ n6_ n7_ n8_ n9_; clear hb hbox hg; have hnb9 := NB390_391.out; have hnc9 := NB391_390.out; have hnb10 := NB390_392.out; have hnc10 := NB392_390.out; have hcz11_0 : w8.cell? ⟨gb390, 0, none⟩ = some (.int .i64 a0_0) := (blk_cell BK390.out 0).trans rfl; have hcz11_1 : w8.cell? ⟨gb390, 1, none⟩ = some (.int .u64 a0_1) := (blk_cell BK390.out 1).trans rfl; have hfz11_0 := blk_frozen BK390.out 0; have hfz11_1 := blk_frozen BK390.out 1) | ((with_reducible refine gate_callee (f := 43) rfl ?_); refine goesL_ (some 12) rfl rfl Tryd.func43 (by kernel_rfl) rfl #[.agg #[.int .i64 a0_0, .int .u64 a0_1]] rfl ql_ ?_; (with_reducible refine (corebankref01_Split.calls a0_0 a0_1 t393 t394 t395 _ A3.out).mono ?_); rintro e w12 ⟨rfl, hb⟩; refine ⟨_, rfl, ?_⟩; have n0_ := Aside0.mk (blk_below (qk_ BK390.out) hb); have n1_ := Aside0.mk (blk_below (qk_ BK391.out) hb); have n2_ := Aside0.mk (blk_below (qk_ BK392.out) hb); have n3_ := Aside0.mk (below_step (qb3_ GE390.out GE391.out GE392.out HB.out) hb); clear BK390; clear BK391; clear BK392; clear HB; have BK390 := n0_; have BK391 := n1_; have BK392 := n2_; have HB := n3_; clear n0_ n1_ n2_ n3_; (try clear hb); (try clear hb2); (try clear hk); (try clear hi)) | ((with_reducible refine gate_dst (N := 7) rfl ?_); refine be_ (N := 7) (cs := #[.int .u64 0, .int .u64 0]) (t := 54) ?_; intro gb396 hg w13 hbox hb; have n0_ := Aside0.mk (blk_below (qk_ BK390.out) hb); have n1_ := Aside0.mk (blk_below (qk_ BK391.out) hb); have n2_ := Aside0.mk (blk_below (qk_ BK392.out) hb); have n3_ := Aside0.mk (below_step (qb3_ GE390.out GE391.out GE392.out HB.out) hb); have n4_ := Aside0.mk (hbox); have n5_ := Aside0.mk (bz_ hg (qb3_ GE390.out GE391.out GE392.out HB.out) : w.heap.size ≤ gb396); have n6_ := n5_; have n7_ := Aside0.mk (nl_ hg (qk_ BK390.out) : gb390 ≠ gb396); have n8_ := Aside0.mk (ng_ hg (qk_ BK390.out) : gb396 ≠ gb390); have n9_ := Aside0.mk (nl_ hg (qk_ BK391.out) : gb391 ≠ gb396); have n10_ := Aside0.mk (ng_ hg (qk_ BK391.out) : gb396 ≠ gb391); have n11_ := Aside0.mk (nl_ hg (qk_ BK392.out) : gb392 ≠ gb396); have n12_ := Aside0.mk (ng_ hg (qk_ BK392.out) : gb396 ≠ gb392); clear BK390; clear BK391; clear BK392; clear HB; have BK390 := n0_; have BK391 := n1_; have BK392 := n2_; have HB := n3_; have BK396 := n4_; have GW396 := n5_; have GE396 := n6_; have NB390_396 := n7_; have NB396_390 := n8_; have NB391_396 := n9_; have NB396_391 := n10_; have NB392_396 := n11_; have NB396_392 := n12_; clear n0_ n1_ n2_ n3_ n4_ n5_ n6_ n7_ n8_ n9_ n10_ n11_ n12_; clear hb hbox hg; have hnb14 := NB396_390.out; have hnc14 := NB390_396.out; have hnb15 := NB396_391.out; have hnc15 := NB391_396.out; have hnb16 := NB396_392.out; have hnc16 := NB392_396.out; have hcz17_0 : w13.cell? ⟨gb396, 0, none⟩ = some (.int .u64 0) := (blk_cell BK396.out 0).trans rfl; have hcz17_1 : w13.cell? ⟨gb396, 1, none⟩ = some (.int .u64 0) := (blk_cell BK396.out 1).trans rfl; have hfz17_0 := blk_frozen BK396.out 0; have hfz17_1 := blk_frozen BK396.out 1; have hnb18 := NB391_392.out; have hnc18 := NB392_391.out; have hcz19_0 : w13.cell? ⟨gb391, 0, none⟩ = some (.int .i64 a1_0) := (blk_cell BK391.out 0).trans rfl; have hcz19_1 : w13.cell? ⟨gb391, 1, none⟩ = some (.int .u64 a1_1) := (blk_cell BK391.out 1).trans rfl; have hfz19_0 := blk_frozen BK391.out 0; have hfz19_1 := blk_frozen BK391.out 1) | ((with_reducible refine gate_callee (f := 43) rfl ?_); refine goesL_ (some 17) rfl rfl Tryd.func43 (by kernel_rfl) rfl #[.agg #[.int .i64 a1_0, .int .u64 a1_1]] rfl ql_ ?_; (with_reducible refine (corebankref01_Split.calls a1_0 a1_1 t397 t398 t399 _ A4.out).mono ?_); rintro e w20 ⟨rfl, hb⟩; refine ⟨_, rfl, ?_⟩; have n0_ := Aside0.mk (blk_below (g := gb390) (o := .cells #[.int .i64 a0_0, .int .u64 a0_1] 24 (0, 0)) (qff_ NB390_396.out NB390_396.out BK390.out) hb); have n1_ := Aside0.mk (blk_below (g := gb391) (o := .cells #[.int .i64 a1_0, .int .u64 a1_1] 24 (0, 0)) (qff_ NB391_396.out NB391_396.out BK391.out) hb); have n2_ := Aside0.mk (blk_below (g := gb392) (o := .cells #[.int .i64 0, .int .u64 0] 24 (0, 0)) (qff_ NB392_396.out NB392_396.out BK392.out) hb); have n3_ := Aside0.mk (blk_below (g := gb396) (o := .cells #[.int .u64 t394, .int .u64 t395] 54 (0, 0)) (qpp_ #[.int .u64 t394, .int .u64 0] 1 #[.int .u64 0, .int .u64 0] 0 BK396.out) hb); have n4_ := Aside0.mk (below_step (qb4_ GE390.out GE391.out GE392.out GE396.out HB.out) hb); clear BK390; clear BK391; clear BK392; clear BK396; clear HB; have BK390 := n0_; have BK391 := n1_; have BK392 := n2_; have BK396 := n3_; have HB := n4_; clear n0_ n1_ n2_ n3_ n4_; (try clear hb); (try clear hb2); (try clear hk); (try clear hi)) | ((with_reducible refine gate_dst (N := 9) rfl ?_); refine be_ (N := 9) (cs := #[.int .u64 0, .int .u64 0]) (t := 54) ?_; intro gb400 hg w21 hbox hb; have n0_ := Aside0.mk (blk_below (qk_ BK390.out) hb); have n1_ := Aside0.mk (blk_below (qk_ BK391.out) hb); have n2_ := Aside0.mk (blk_below (qk_ BK392.out) hb); have n3_ := Aside0.mk (blk_below (qk_ BK396.out) hb); have n4_ := Aside0.mk (below_step (qb4_ GE390.out GE391.out GE392.out GE396.out HB.out) hb); have n5_ := Aside0.mk (hbox); have n6_ := Aside0.mk (bz_ hg (qb4_ GE390.out GE391.out GE392.out GE396.out HB.out) : w.heap.size ≤ gb400); have n7_ := n6_; have n8_ := Aside0.mk (nl_ hg (qk_ BK390.out) : gb390 ≠ gb400); have n9_ := Aside0.mk (ng_ hg (qk_ BK390.out) : gb400 ≠ gb390); have n10_ := Aside0.mk (nl_ hg (qk_ BK391.out) : gb391 ≠ gb400); have n11_ := Aside0.mk (ng_ hg (qk_ BK391.out) : gb400 ≠ gb391); have n12_ := Aside0.mk (nl_ hg (qk_ BK392.out) : gb392 ≠ gb400); have n13_ := Aside0.mk (ng_ hg (qk_ BK392.out) : gb400 ≠ gb392); have n14_ := Aside0.mk (nl_ hg (qk_ BK396.out) : gb396 ≠ gb400); have n15_ := Aside0.mk (ng_ hg (qk_ BK396.out) : gb400 ≠ gb396); clear BK390; clear BK391; clear BK392; clear BK396; clear HB; have BK390 := n0_; have BK391 := n1_; have BK392 := n2_; have BK396 := n3_; have HB := n4_; have BK400 := n5_; have GW400 := n6_; have GE400 := n7_; have NB390_400 := n8_; have NB400_390 := n9_; have NB391_400 := n10_; have NB400_391 := n11_; have NB392_400 := n12_; have NB400_392 := n13_; have NB396_400 := n14_; have NB400_396 := n15_; clear n0_ n1_ n2_ n3_ n4_ n5_ n6_ n7_ n8_ n9_ n10_ n11_ n12_ n13_ n14_ n15_; clear hb hbox hg; have hnb22 := NB400_390.out; have hnc22 := NB390_400.out; have hnb23 := NB400_391.out; have hnc23 := NB391_400.out; have hnb24 := NB400_392.out; have hnc24 := NB392_400.out; have hnb25 := NB400_396.out; have hnc25 := NB396_400.out; have hcz26_0 : w21.cell? ⟨gb400, 0, none⟩ = some (.int .u64 0) := (blk_cell BK400.out 0).trans rfl; have hcz26_1 : w21.cell? ⟨gb400, 1, none⟩ = some (.int .u64 0) := (blk_cell BK400.out 1).trans rfl; have hfz26_0 := blk_frozen BK400.out 0; have hfz26_1 := blk_frozen BK400.out 1; have hcz27_0 : w21.cell? ⟨gb396, 0, none⟩ = some (.int .u64 t394) := (blk_cell BK396.out 0).trans rfl; have hcz27_1 : w21.cell? ⟨gb396, 1, none⟩ = some (.int .u64 t395) := (blk_cell BK396.out 1).trans rfl; have hfz27_0 := blk_frozen BK396.out 0; have hfz27_1 := blk_frozen BK396.out 1) | ((with_reducible refine gate_callee (f := 44) rfl ?_); refine goesL_ (some 25) rfl rfl Tryd.func44 (by kernel_rfl) rfl #[.bool t393, .agg #[.int .u64 t394, .int .u64 t395], .bool (!t397), .agg #[.int .u64 t398, .int .u64 t399]] rfl ql_ ?_; (with_reducible refine (corebankref01_sum.calls t393 t394 t395 (!t397) t398 t399 t401 t402 t403 _ A5.out).mono ?_); rintro e w28 ⟨rfl, hb⟩; refine ⟨_, rfl, ?_⟩; have n0_ := Aside0.mk (blk_below (g := gb390) (o := .cells #[.int .i64 a0_0, .int .u64 a0_1] 24 (0, 0)) (qff_ NB390_400.out NB390_400.out BK390.out) hb); have n1_ := Aside0.mk (blk_below (g := gb391) (o := .cells #[.int .i64 a1_0, .int .u64 a1_1] 24 (0, 0)) (qff_ NB391_400.out NB391_400.out BK391.out) hb); have n2_ := Aside0.mk (blk_below (g := gb392) (o := .cells #[.int .i64 0, .int .u64 0] 24 (0, 0)) (qff_ NB392_400.out NB392_400.out BK392.out) hb); have n3_ := Aside0.mk (blk_below (g := gb396) (o := .cells #[.int .u64 t394, .int .u64 t395] 54 (0, 0)) (qff_ NB396_400.out NB396_400.out BK396.out) hb); have n4_ := Aside0.mk (blk_below (g := gb400) (o := .cells #[.int .u64 t398, .int .u64 t399] 54 (0, 0)) (qpp_ #[.int .u64 t398, .int .u64 0] 1 #[.int .u64 0, .int .u64 0] 0 BK400.out) hb); have n5_ := Aside0.mk (below_step (qb5_ GE390.out GE391.out GE392.out GE396.out GE400.out HB.out) hb); clear BK390; clear BK391; clear BK392; clear BK396; clear BK400; clear HB; have BK390 := n0_; have BK391 := n1_; have BK392 := n2_; have BK396 := n3_; have BK400 := n4_; have HB := n5_; clear n0_ n1_ n2_ n3_ n4_ n5_; (try clear hb); (try clear hb2); (try clear hk); (try clear hi); have hcz29_0 : w28.cell? ⟨gb392, 0, none⟩ = some (.int .i64 0) := (blk_cell BK392.out 0).trans rfl; have hcz29_1 : w28.cell? ⟨gb392, 1, none⟩ = some (.int .u64 0) := (blk_cell BK392.out 1).trans rfl; have hfz29_0 := blk_frozen BK392.out 0; have hfz29_1 := blk_frozen BK392.out 1))
 refine bodyPost_ret (results_ct rfl _ _ gb392 24 #[.int .i64 t401, .int .u64 t402] (0, 0) _ rfl (qpp_ #[.int .i64 t401, .int .u64 0] 1 #[.int .i64 0, .int .u64 0] 0 BK392.out) Tryd.underlying24 rfl (by kernel_rfl)) rfl ?_
 exact ⟨qe_, qb5_ GE390.out GE391.out GE392.out GE396.out GE400.out HB.out⟩
def corebankref01_Sub.f (a0_0 a0_1 a1_0 a1_1 : Int) : Option (Int × Int × Int) :=
 if isW a0_0 a0_1 ∧ isW a1_0 a1_1 then
  some (if in128 (wv a0_0 a0_1 - wv a1_0 a1_1) then ((wv a0_0 a0_1 - wv a1_0 a1_1) / 18446744073709551616, (wv a0_0 a0_1 - wv a1_0 a1_1) % 18446744073709551616, 0) else (0, 0, 6)) else none
theorem corebankref01_Sub.eq {a b c d : Int} {r : Int × Int × Int} (h : corebankref01_Sub.f a b c d = some r) : corebankref01_SubP.f a b c d = some r := by
 unfold corebankref01_Sub.f at h
 split at h
 ·rename_i q
  injection h with h
  subst h
  unfold corebankref01_SubP.f corebankref01_Split.f
  rw [if_pos q.1, if_pos q.2]
  simp only [Option.bind_some]
  obtain ⟨⟨⟨a0, a1⟩, b0, b1⟩, ⟨c0, c1⟩, d0, d1⟩ := id q
  have hA : wv a b = a * 18446744073709551616 + b := rfl
  have hB : wv c d = c * 18446744073709551616 + d := rfl
  have mA : 0 ≤ (if a < 0 then -(wv a b) else wv a b) ∧ (if a < 0 then -(wv a b) else wv a b) ≤ 170141183460469231731687303715884105728 := by split <;> omega
  have mB : 0 ≤ (if c < 0 then -(wv c d) else wv c d) ∧ (if c < 0 then -(wv c d) else wv c d) ≤ 170141183460469231731687303715884105728 := by split <;> omega
  have sA : sgn (decide (a < 0)) (if a < 0 then -(wv a b) else wv a b) = wv a b := by unfold sgn; by_cases h : a < 0 <;> simp [h]
  have sB : sgn (!decide (c < 0)) (if c < 0 then -(wv c d) else wv c d) = -(wv c d) := by unfold sgn; by_cases h : c < 0 <;> simp [h]
  generalize (if a < 0 then -(wv a b) else wv a b) = A at *
  generalize (if c < 0 then -(wv c d) else wv c d) = B at *
  have wA : wv (A / 18446744073709551616) (A % 18446744073709551616) = A := by unfold wv; omega
  have wB : wv (B / 18446744073709551616) (B % 18446744073709551616) = B := by unfold wv; omega
  have hU : (inU (A / 18446744073709551616) ∧ inU (A % 18446744073709551616)) ∧ inU (B / 18446744073709551616) ∧ inU (B % 18446744073709551616) := ⟨⟨by unfold inU; omega, by unfold inU; omega⟩, by unfold inU; omega, by unfold inU; omega⟩
  unfold corebankref01_sum.f
  rw [if_pos hU, wA, wB, sA, sB]
  simp only [Option.bind_some, Int.sub_eq_add_neg]
 ·cases h
theorem corebankref01_Sub.calls (a0_0 : Int) (a0_1 : Int) (a1_0 : Int) (a1_1 : Int) (r1 : Int) (r2 : Int) (r3 : Int) (w : World) (h : corebankref01_Sub.f a0_0 a0_1 a1_0 a1_1 = some (r1, r2, r3)) :
  Calls Tryd.prog 28 #[.agg #[.int .i64 a0_0, .int .u64 a0_1], .agg #[.int .i64 a1_0, .int .u64 a1_1]] w fun e w' => e = .returned (.tuple #[.agg #[.int .i64 r1, .int .u64 r2], .int .i64 r3]) ∧ Below w.heap.size w w' := by
 have h := corebankref01_Sub.eq h
 exact corebankref01_SubP.calls a0_0 a0_1 a1_0 a1_1 r1 r2 r3 w h
end Go.Proofs.YtkdhippoibjfkaaDoor.PR
