import Derived.Test.YtjkjiibhdpcpkaaDoorQRm2
import Derived.Test.YtjkjiibhdpcpkaaDoorQRm5
import Derived.Test.YtjkjiibhdpcpkaaDoorQSx29
import Derived.Test.YtjkjiibhdpcpkaaDoorQSx32
import Derived.Test.YtjkjiibhdpcpkaaDoorQSx33
import Derived.Test.YtjkjiibhdpcpkaaDoorQSx34
namespace Go.Proofs.YtjkjiibhdpcpkaaDoor.PS
open Go.RowKit Go.Proofs.YtjkjiibhdpcpkaaDoorW.PrintWords Go.Proofs.YtjkjiibhdpcpkaaDoorW.PrintLast
set_option linter.unusedVariables false
set_option linter.unusedSimpArgs false
attribute [local go_sem high] eqA63
def sgn (n : Bool) (m : Int) : Int := if n = true then -m else m
def corebankref01_sum.f (a0 : Bool) (a1_0 a1_1 : Int) (a2 : Bool) (a3_0 a3_1 : Int) : Option (Int × Int × Int) :=
 if (inU a1_0 ∧ inU a1_1) ∧ inU a3_0 ∧ inU a3_1 then
  some (if in128 (sgn a0 (wv a1_0 a1_1) + sgn a2 (wv a3_0 a3_1)) then ((sgn a0 (wv a1_0 a1_1) + sgn a2 (wv a3_0 a3_1)) / 18446744073709551616, (sgn a0 (wv a1_0 a1_1) + sgn a2 (wv a3_0 a3_1)) % 18446744073709551616, 0) else (0, 0, 6)) else none
theorem sum_end (n ok : Bool) (m S : Int) (m0 : 0 ≤ m) (m1 : m < 340282366920938463463374607431768211456) (hS : ok = true → sgn n m = S) (hno : ok = false → ¬ in128 S) :
  corebankref01_sumP.j0 2 n ok (m / 18446744073709551616 % 18446744073709551616) (m % 18446744073709551616) = some (if in128 S then (S / 18446744073709551616, S % 18446744073709551616, 0) else (0, 0, 6)) := by
 simp only [corebankref01_sumP.j0]
 unfold corebankref01_Join.f
 have hU : inU (m / 18446744073709551616 % 18446744073709551616) ∧ inU (m % 18446744073709551616) := ⟨by unfold inU; omega, by unfold inU; omega⟩
 have hw : wv (m / 18446744073709551616 % 18446744073709551616) (m % 18446744073709551616) = m := by unfold wv; omega
 rw [if_pos hU, hw]
 simp only [Option.bind_some, corebankref01_sumP.j1]
 cases ok with
 | true =>
  have hs := hS rfl
  unfold sgn at hs
  rw [if_pos rfl, hs]
  by_cases hin : in128 S
  ·rw [if_pos hin, decide_eq_true hin, if_neg (by decide)]
   rw [i64_id _ (by unfold in128 at hin; omega) (by unfold in128 at hin; omega)]
  ·rw [if_neg hin, decide_eq_false hin, if_pos (by decide)]
 | false => rw [if_neg (by decide), if_pos trivial, if_neg (hno rfl)]
theorem corebankref01_sum.eq {x y : Bool} {a b c d : Int} {r : Int × Int × Int} (h : corebankref01_sum.f x a b y c d = some r) : ∃ k, corebankref01_sumP.f k x a b y c d = some r := by
 unfold corebankref01_sum.f at h
 split at h
 ·rename_i q
  injection h with h
  subst h
  refine ⟨2, ?_⟩
  obtain ⟨⟨⟨a0, a1⟩, b0, b1⟩, ⟨c0, c1⟩, d0, d1⟩ := id q
  have hA : 0 ≤ wv a b ∧ wv a b < 340282366920938463463374607431768211456 := by unfold wv; omega
  have hB : 0 ≤ wv c d ∧ wv c d < 340282366920938463463374607431768211456 := by unfold wv; omega
  unfold corebankref01_sumP.f
  by_cases hxy : x = y
  ·subst hxy
   rw [if_pos (by simp)]
   unfold corebankref01_plus.f
   rw [if_pos q]
   simp only [Option.bind_some]
   generalize wv a b = A at *
   generalize wv c d = B at *
   have e1 : (A + B) / 18446744073709551616 % 18446744073709551616 = (A + B) % 340282366920938463463374607431768211456 / 18446744073709551616 % 18446744073709551616 := by omega
   have e2 : (A + B) % 18446744073709551616 = (A + B) % 340282366920938463463374607431768211456 % 18446744073709551616 := by omega
   rw [e1, e2]
   refine sum_end x _ _ _ (by omega) (by omega) (fun ho => ?_) (fun ho => ?_)
   ·have := of_decide_eq_true ho
    rw [Int.emod_eq_of_lt (by omega) this]
    unfold sgn; split <;> omega
   ·have := of_decide_eq_false ho
    unfold in128 sgn; split <;> omega
  ·rw [if_neg (by simpa using hxy)]
   unfold corebankref01_Less.f
   rw [if_pos q]
   simp only [Option.bind_some]
   unfold corebankref01_minus.f
   by_cases hlt : wv a b < wv c d
   ·rw [decide_eq_true hlt, if_pos rfl, if_pos ⟨⟨q.2, q.1⟩, by omega⟩]
    simp only [Option.bind_some]
    generalize wv a b = A at *
    generalize wv c d = B at *
    rw [show (B - A) / 18446744073709551616 = (B - A) / 18446744073709551616 % 18446744073709551616 by omega]
    refine sum_end y true _ _ (by omega) (by omega) (fun _ => ?_) (fun ho => by cases ho)
    cases x <;> cases y <;> simp [sgn] at hxy ⊢ <;> omega
   ·rw [decide_eq_false hlt, if_neg (by decide), if_pos ⟨q, by omega⟩]
    simp only [Option.bind_some]
    generalize wv a b = A at *
    generalize wv c d = B at *
    rw [show (A - B) / 18446744073709551616 = (A - B) / 18446744073709551616 % 18446744073709551616 by omega]
    refine sum_end x true _ _ (by omega) (by omega) (fun _ => ?_) (fun ho => by cases ho)
    cases x <;> cases y <;> simp [sgn] at hxy ⊢ <;> omega
 ·cases h
theorem corebankref01_sum.calls (a0 : Bool) (a1_0 a1_1 : Int) (a2 : Bool) (a3_0 a3_1 r1 r2 r3 : Int) (w : World) (h : corebankref01_sum.f a0 a1_0 a1_1 a2 a3_0 a3_1 = some (r1, r2, r3)) :
  Calls Tryd.prog 74 #[.bool a0, .agg #[.int .u64 a1_0, .int .u64 a1_1], .bool a2, .agg #[.int .u64 a3_0, .int .u64 a3_1]] w fun e w' => e = .returned (.tuple #[.agg #[.int .i64 r1, .int .u64 r2], .int .i64 r3]) ∧ Below w.heap.size w w' := by
 obtain ⟨k, h⟩ := corebankref01_sum.eq h
 exact corebankref01_sumP.calls k a0 a1_0 a1_1 a2 a3_0 a3_1 r1 r2 r3 w h
def corebankref01_AddP.f (a0_0 a0_1 a1_0 a1_1 : Int) : Option (Int × Int × Int) := (corebankref01_Split.f a0_0 a0_1).bind fun bt343 => ((corebankref01_Split.f a1_0 a1_1).bind fun bt347 => ((corebankref01_sum.f bt343.1 bt343.2.1 bt343.2.2 bt347.1 bt347.2.1 bt347.2.2).bind fun bt351 => (some (bt351.1, bt351.2.1, bt351.2.2))))
set_option maxHeartbeats 8000000 in
set_option maxRecDepth 100000 in
theorem corebankref01_AddP.calls (a0_0 a0_1 a1_0 a1_1 r1 r2 r3 : Int) (w : World) (h : corebankref01_AddP.f a0_0 a0_1 a1_0 a1_1 = some (r1, r2, r3)) :
  Calls Tryd.prog 61 #[.agg #[.int .i64 a0_0, .int .u64 a0_1], .agg #[.int .i64 a1_0, .int .u64 a1_1]] w fun e w' => e = .returned (.tuple #[.agg #[.int .i64 r1, .int .u64 r2], .int .i64 r3]) ∧ Below w.heap.size w w' := by
 have hu63 := Tryd.underlying63
 have hu96 := Tryd.underlying96
 have HB := Aside0.mk (Below.refl w.heap.size w)
 have H : ((corebankref01_Split.f a0_0 a0_1).bind fun bt343 => ((corebankref01_Split.f a1_0 a1_1).bind fun bt347 => ((corebankref01_sum.f bt343.1 bt343.2.1 bt343.2.2 bt347.1 bt347.2.1 bt347.2.2).bind fun bt351 => (some (bt351.1, bt351.2.1, bt351.2.2))))) = some (r1, r2, r3) := h
 clear h
 replace H := Option.bind_eq_some_iff.mp H
 obtain ⟨⟨t343, t344, t345⟩, A30, H⟩ := H
 replace H : ((corebankref01_Split.f a1_0 a1_1).bind fun bt347 => ((corebankref01_sum.f t343 t344 t345 bt347.1 bt347.2.1 bt347.2.2).bind fun bt351 => (some (bt351.1, bt351.2.1, bt351.2.2)))) = some (r1, r2, r3) := H
 have A3 := Aside0.mk A30
 clear A30
 replace H := Option.bind_eq_some_iff.mp H
 obtain ⟨⟨t347, t348, t349⟩, A40, H⟩ := H
 replace H : ((corebankref01_sum.f t343 t344 t345 t347 t348 t349).bind fun bt351 => (some (bt351.1, bt351.2.1, bt351.2.2))) = some (r1, r2, r3) := H
 have A4 := Aside0.mk A40
 clear A40
 replace H := Option.bind_eq_some_iff.mp H
 obtain ⟨⟨t351, t352, t353⟩, A50, H⟩ := H
 replace H : (some (t351, t352, t353)) = some (r1, r2, r3) := H
 have A5 := Aside0.mk A50
 clear A50
 simp only [Option.some.injEq, Prod.mk.injEq] at H
 obtain ⟨rfl, rfl, rfl⟩ := H
 go_enter Tryd.func61, Tryd.ntmps61
 go_wp2_with (first | ((with_reducible refine gate_dst (N := 2) rfl ?_); refine be_ (N := 2) (cs := #[.int .i64 a0_0, .int .u64 a0_1]) (t := 63) ?_; intro gb340 hg w6 hbox hb; have n0_ := Aside0.mk (below_step (qb_ HB.out) hb); have n1_ := Aside0.mk (hbox); have n2_ := Aside0.mk (bz_ hg (qb_ HB.out) : w.heap.size ≤ gb340); have n3_ := n2_; clear HB; have HB := n0_; have BK340 := n1_; have GW340 := n2_; have GE340 := n3_; clear n0_ n1_ n2_ n3_; clear hb hbox hg) | ((with_reducible refine gate_dst (N := 3) rfl ?_); refine be_ (N := 3) (cs := #[.int .i64 a1_0, .int .u64 a1_1]) (t := 63) ?_; intro gb341 hg w7 hbox hb; have n0_ := Aside0.mk (blk_below (qk_ BK340.out) hb); have n1_ := Aside0.mk (below_step (qb1_ GE340.out HB.out) hb); have n2_ := Aside0.mk (hbox); have n3_ := Aside0.mk (bz_ hg (qb1_ GE340.out HB.out) : w.heap.size ≤ gb341); have n4_ := n3_; have n5_ := Aside0.mk (nl_ hg (qk_ BK340.out) : gb340 ≠ gb341); have n6_ := Aside0.mk (ng_ hg (qk_ BK340.out) : gb341 ≠ gb340); clear BK340; clear HB; have BK340 := n0_; have HB := n1_; have BK341 := n2_; have GW341 := n3_; have GE341 := n4_; have NB340_341 := n5_; have NB341_340 := n6_; clear n0_ n1_ n2_ n3_ n4_ n5_ n6_; clear hb hbox hg) | ((with_reducible refine gate_dst (N := 4) rfl ?_); refine be_ (N := 4) (cs := #[.int .i64 0, .int .u64 0]) (t := 63) ?_; intro gb342 hg w8 hbox hb; have n0_ := Aside0.mk (blk_below (qk_ BK340.out) hb); have n1_ := Aside0.mk (blk_below (qk_ BK341.out) hb); have n2_ := Aside0.mk (below_step (qb2_ GE340.out GE341.out HB.out) hb); have n3_ := Aside0.mk (hbox); have n4_ := Aside0.mk (bz_ hg (qb2_ GE340.out GE341.out HB.out) : w.heap.size ≤ gb342); have n5_ := n4_; have n6_ := Aside0.mk (nl_ hg (qk_ BK340.out) : gb340 ≠ gb342); have n7_ := Aside0.mk (ng_ hg (qk_ BK340.out) : gb342 ≠ gb340); have n8_ := Aside0.mk (nl_ hg (qk_ BK341.out) : gb341 ≠ gb342); have n9_ := Aside0.mk (ng_ hg (qk_ BK341.out) : gb342 ≠ gb341); clear BK340; clear BK341; clear HB; have BK340 := n0_; have BK341 := n1_; have HB := n2_; have BK342 := n3_; have GW342 := n4_; have GE342 := n5_; have NB340_342 := n6_; have NB342_340 := n7_; have NB341_342 := n8_; have NB342_341 := n9_; clear n0_ n1_ n2_ n3_ n4_ n5_ n6_ n7_ n8_ n9_; clear hb hbox hg; have hnb9 := NB340_341.out; have hnc9 := NB341_340.out; have hnb10 := NB340_342.out; have hnc10 := NB342_340.out; obtain ⟨hcz11_0, hcz11_1, hfz11_0, hfz11_1⟩ := cz2_ BK340.out) | ((with_reducible refine gate_callee (f := 70) rfl ?_); refine goesL_ (some 12) rfl rfl Tryd.func70 (by kernel_rfl) rfl #[.agg #[.int .i64 a0_0, .int .u64 a0_1]] rfl ql_ ?_; (with_reducible refine (corebankref01_Split.calls a0_0 a0_1 t343 t344 t345 _ A3.out).mono ?_); rintro e w12 ⟨rfl, hb⟩; refine ⟨_, rfl, ?_⟩; have n0_ := Aside0.mk (blk_below (qk_ BK340.out) hb); have n1_ := Aside0.mk (blk_below (qk_ BK341.out) hb); have n2_ := Aside0.mk (blk_below (qk_ BK342.out) hb); have n3_ := Aside0.mk (below_step (qb3_ GE340.out GE341.out GE342.out HB.out) hb); clear BK340; clear BK341; clear BK342; clear HB; have BK340 := n0_; have BK341 := n1_; have BK342 := n2_; have HB := n3_; clear n0_ n1_ n2_ n3_; (try clear hb); (try clear hb2); (try clear hk); (try clear hi)) | ((with_reducible refine gate_dst (N := 7) rfl ?_); refine be_ (N := 7) (cs := #[.int .u64 0, .int .u64 0]) (t := 96) ?_; intro gb346 hg w13 hbox hb; have n0_ := Aside0.mk (blk_below (qk_ BK340.out) hb); have n1_ := Aside0.mk (blk_below (qk_ BK341.out) hb); have n2_ := Aside0.mk (blk_below (qk_ BK342.out) hb); have n3_ := Aside0.mk (below_step (qb3_ GE340.out GE341.out GE342.out HB.out) hb); have n4_ := Aside0.mk (hbox); have n5_ := Aside0.mk (bz_ hg (qb3_ GE340.out GE341.out GE342.out HB.out) : w.heap.size ≤ gb346); have n6_ := n5_; have n7_ := Aside0.mk (nl_ hg (qk_ BK340.out) : gb340 ≠ gb346); have n8_ := Aside0.mk (ng_ hg (qk_ BK340.out) : gb346 ≠ gb340); have n9_ := Aside0.mk (nl_ hg (qk_ BK341.out) : gb341 ≠ gb346); have n10_ := Aside0.mk (ng_ hg (qk_ BK341.out) : gb346 ≠ gb341); have n11_ := Aside0.mk (nl_ hg (qk_ BK342.out) : gb342 ≠ gb346); have n12_ := Aside0.mk (ng_ hg (qk_ BK342.out) : gb346 ≠ gb342); clear BK340; clear BK341; clear BK342; clear HB; have BK340 := n0_; have BK341 := n1_; have BK342 := n2_; have HB := n3_; have BK346 := n4_; have GW346 := n5_; have GE346 := n6_; have NB340_346 := n7_; have NB346_340 := n8_; have NB341_346 := n9_; have NB346_341 := n10_; have NB342_346 := n11_; have NB346_342 := n12_; clear n0_ n1_ n2_ n3_ n4_ n5_ n6_ n7_ n8_ n9_ n10_ n11_ n12_; clear hb hbox hg; have hnb14 := NB346_340.out; have hnc14 := NB340_346.out; have hnb15 := NB346_341.out; have hnc15 := NB341_346.out; have hnb16 := NB346_342.out; have hnc16 := NB342_346.out; obtain ⟨hcz17_0, hcz17_1, hfz17_0, hfz17_1⟩ := cz2_ BK346.out; have hnb18 := NB341_342.out; have hnc18 := NB342_341.out; obtain ⟨hcz19_0, hcz19_1, hfz19_0, hfz19_1⟩ := cz2_ BK341.out) | ((with_reducible refine gate_callee (f := 70) rfl ?_); refine goesL_ (some 17) rfl rfl Tryd.func70 (by kernel_rfl) rfl #[.agg #[.int .i64 a1_0, .int .u64 a1_1]] rfl ql_ ?_; (with_reducible refine (corebankref01_Split.calls a1_0 a1_1 t347 t348 t349 _ A4.out).mono ?_); rintro e w20 ⟨rfl, hb⟩; refine ⟨_, rfl, ?_⟩; have n0_ := Aside0.mk (blk_below (g := gb340) (o := .cells #[.int .i64 a0_0, .int .u64 a0_1] 63 (0, 0)) (qff_ NB340_346.out NB340_346.out BK340.out) hb); have n1_ := Aside0.mk (blk_below (g := gb341) (o := .cells #[.int .i64 a1_0, .int .u64 a1_1] 63 (0, 0)) (qff_ NB341_346.out NB341_346.out BK341.out) hb); have n2_ := Aside0.mk (blk_below (g := gb342) (o := .cells #[.int .i64 0, .int .u64 0] 63 (0, 0)) (qff_ NB342_346.out NB342_346.out BK342.out) hb); have n3_ := Aside0.mk (blk_below (g := gb346) (o := .cells #[.int .u64 t344, .int .u64 t345] 96 (0, 0)) (qpp_ #[.int .u64 t344, .int .u64 0] 1 #[.int .u64 0, .int .u64 0] 0 BK346.out) hb); have n4_ := Aside0.mk (below_step (qb4_ GE340.out GE341.out GE342.out GE346.out HB.out) hb); clear BK340; clear BK341; clear BK342; clear BK346; clear HB; have BK340 := n0_; have BK341 := n1_; have BK342 := n2_; have BK346 := n3_; have HB := n4_; clear n0_ n1_ n2_ n3_ n4_; (try clear hb); (try clear hb2); (try clear hk); (try clear hi)) | ((with_reducible refine gate_dst (N := 9) rfl ?_); refine be_ (N := 9) (cs := #[.int .u64 0, .int .u64 0]) (t := 96) ?_; intro gb350 hg w21 hbox hb; have n0_ := Aside0.mk (blk_below (qk_ BK340.out) hb); have n1_ := Aside0.mk (blk_below (qk_ BK341.out) hb); have n2_ := Aside0.mk (blk_below (qk_ BK342.out) hb); have n3_ := Aside0.mk (blk_below (qk_ BK346.out) hb); have n4_ := Aside0.mk (below_step (qb4_ GE340.out GE341.out GE342.out GE346.out HB.out) hb); have n5_ := Aside0.mk (hbox); have n6_ := Aside0.mk (bz_ hg (qb4_ GE340.out GE341.out GE342.out GE346.out HB.out) : w.heap.size ≤ gb350); have n7_ := n6_; have n8_ := Aside0.mk (nl_ hg (qk_ BK340.out) : gb340 ≠ gb350); have n9_ := Aside0.mk (ng_ hg (qk_ BK340.out) : gb350 ≠ gb340); have n10_ := Aside0.mk (nl_ hg (qk_ BK341.out) : gb341 ≠ gb350); have n11_ := Aside0.mk (ng_ hg (qk_ BK341.out) : gb350 ≠ gb341); have n12_ := Aside0.mk (nl_ hg (qk_ BK342.out) : gb342 ≠ gb350); have n13_ := Aside0.mk (ng_ hg (qk_ BK342.out) : gb350 ≠ gb342); have n14_ := Aside0.mk (nl_ hg (qk_ BK346.out) : gb346 ≠ gb350); have n15_ := Aside0.mk (ng_ hg (qk_ BK346.out) : gb350 ≠ gb346); clear BK340; clear BK341; clear BK342; clear BK346; clear HB; have BK340 := n0_; have BK341 := n1_; have BK342 := n2_; have BK346 := n3_; have HB := n4_; have BK350 := n5_; have GW350 := n6_; have GE350 := n7_; have NB340_350 := n8_; have NB350_340 := n9_; have NB341_350 := n10_; have NB350_341 := n11_; have NB342_350 := n12_; have NB350_342 := n13_; have NB346_350 := n14_; have NB350_346 := n15_; clear n0_ n1_ n2_ n3_ n4_ n5_ n6_ n7_ n8_ n9_ n10_ n11_ n12_ n13_ n14_ n15_; clear hb hbox hg; have hnb22 := NB350_340.out; have hnc22 := NB340_350.out; have hnb23 := NB350_341.out; have hnc23 := NB341_350.out; have hnb24 := NB350_342.out; have hnc24 := NB342_350.out; have hnb25 := NB350_346.out; have hnc25 := NB346_350.out; obtain ⟨hcz26_0, hcz26_1, hfz26_0, hfz26_1⟩ := cz2_ BK350.out; obtain ⟨hcz27_0, hcz27_1, hfz27_0, hfz27_1⟩ := cz2_ BK346.out) | ((with_reducible refine gate_callee (f := 74) rfl ?_); refine goesL_ (some 24) rfl rfl Tryd.func74 (by kernel_rfl) rfl #[.bool t343, .agg #[.int .u64 t344, .int .u64 t345], .bool t347, .agg #[.int .u64 t348, .int .u64 t349]] rfl ql_ ?_; (with_reducible refine (corebankref01_sum.calls t343 t344 t345 t347 t348 t349 t351 t352 t353 _ A5.out).mono ?_); rintro e w28 ⟨rfl, hb⟩; refine ⟨_, rfl, ?_⟩; have n0_ := Aside0.mk (blk_below (g := gb340) (o := .cells #[.int .i64 a0_0, .int .u64 a0_1] 63 (0, 0)) (qff_ NB340_350.out NB340_350.out BK340.out) hb); have n1_ := Aside0.mk (blk_below (g := gb341) (o := .cells #[.int .i64 a1_0, .int .u64 a1_1] 63 (0, 0)) (qff_ NB341_350.out NB341_350.out BK341.out) hb); have n2_ := Aside0.mk (blk_below (g := gb342) (o := .cells #[.int .i64 0, .int .u64 0] 63 (0, 0)) (qff_ NB342_350.out NB342_350.out BK342.out) hb); have n3_ := Aside0.mk (blk_below (g := gb346) (o := .cells #[.int .u64 t344, .int .u64 t345] 96 (0, 0)) (qff_ NB346_350.out NB346_350.out BK346.out) hb); have n4_ := Aside0.mk (blk_below (g := gb350) (o := .cells #[.int .u64 t348, .int .u64 t349] 96 (0, 0)) (qpp_ #[.int .u64 t348, .int .u64 0] 1 #[.int .u64 0, .int .u64 0] 0 BK350.out) hb); have n5_ := Aside0.mk (below_step (qb5_ GE340.out GE341.out GE342.out GE346.out GE350.out HB.out) hb); clear BK340; clear BK341; clear BK342; clear BK346; clear BK350; clear HB; have BK340 := n0_; have BK341 := n1_; have BK342 := n2_; have BK346 := n3_; have BK350 := n4_; have HB := n5_; clear n0_ n1_ n2_ n3_ n4_ n5_; (try clear hb); (try clear hb2); (try clear hk); (try clear hi); obtain ⟨hcz29_0, hcz29_1, hfz29_0, hfz29_1⟩ := cz2_ BK342.out))
 refine bodyPost_ret (results_ct rfl _ _ gb342 63 #[.int .i64 t351, .int .u64 t352] (0, 0) _ rfl (qpp_ #[.int .i64 t351, .int .u64 0] 1 #[.int .i64 0, .int .u64 0] 0 BK342.out) Tryd.underlying63 rfl (by kernel_rfl)) rfl ?_
 exact ⟨qe_, qb5_ GE340.out GE341.out GE342.out GE346.out GE350.out HB.out⟩
def corebankref01_Add.f (a0_0 a0_1 a1_0 a1_1 : Int) : Option (Int × Int × Int) :=
 if isW a0_0 a0_1 ∧ isW a1_0 a1_1 then
  some (if in128 (wv a0_0 a0_1 + wv a1_0 a1_1) then ((wv a0_0 a0_1 + wv a1_0 a1_1) / 18446744073709551616, (wv a0_0 a0_1 + wv a1_0 a1_1) % 18446744073709551616, 0) else (0, 0, 6)) else none
theorem corebankref01_Add.eq {a b c d : Int} {r : Int × Int × Int} (h : corebankref01_Add.f a b c d = some r) : corebankref01_AddP.f a b c d = some r := by
 unfold corebankref01_Add.f at h
 split at h
 ·rename_i q
  injection h with h
  subst h
  unfold corebankref01_AddP.f corebankref01_Split.f
  rw [if_pos q.1, if_pos q.2]
  simp only [Option.bind_some]
  obtain ⟨⟨⟨a0, a1⟩, b0, b1⟩, ⟨c0, c1⟩, d0, d1⟩ := id q
  have hA : wv a b = a * 18446744073709551616 + b := rfl
  have hB : wv c d = c * 18446744073709551616 + d := rfl
  have mA : 0 ≤ (if a < 0 then -(wv a b) else wv a b) ∧ (if a < 0 then -(wv a b) else wv a b) ≤ 170141183460469231731687303715884105728 := by split <;> omega
  have mB : 0 ≤ (if c < 0 then -(wv c d) else wv c d) ∧ (if c < 0 then -(wv c d) else wv c d) ≤ 170141183460469231731687303715884105728 := by split <;> omega
  have sA : sgn (decide (a < 0)) (if a < 0 then -(wv a b) else wv a b) = wv a b := by unfold sgn; by_cases h : a < 0 <;> simp [h]
  have sB : sgn (decide (c < 0)) (if c < 0 then -(wv c d) else wv c d) = wv c d := by unfold sgn; by_cases h : c < 0 <;> simp [h]
  generalize (if a < 0 then -(wv a b) else wv a b) = A at *
  generalize (if c < 0 then -(wv c d) else wv c d) = B at *
  have wA : wv (A / 18446744073709551616) (A % 18446744073709551616) = A := by unfold wv; omega
  have wB : wv (B / 18446744073709551616) (B % 18446744073709551616) = B := by unfold wv; omega
  have hU : (inU (A / 18446744073709551616) ∧ inU (A % 18446744073709551616)) ∧ inU (B / 18446744073709551616) ∧ inU (B % 18446744073709551616) := ⟨⟨by unfold inU; omega, by unfold inU; omega⟩, by unfold inU; omega, by unfold inU; omega⟩
  unfold corebankref01_sum.f
  rw [if_pos hU, wA, wB, sA, sB]
  simp only [Option.bind_some]
 ·cases h
theorem corebankref01_Add.calls (a0_0 a0_1 a1_0 a1_1 r1 r2 r3 : Int) (w : World) (h : corebankref01_Add.f a0_0 a0_1 a1_0 a1_1 = some (r1, r2, r3)) :
  Calls Tryd.prog 61 #[.agg #[.int .i64 a0_0, .int .u64 a0_1], .agg #[.int .i64 a1_0, .int .u64 a1_1]] w fun e w' => e = .returned (.tuple #[.agg #[.int .i64 r1, .int .u64 r2], .int .i64 r3]) ∧ Below w.heap.size w w' := by
 have h := corebankref01_Add.eq h
 exact corebankref01_AddP.calls a0_0 a0_1 a1_0 a1_1 r1 r2 r3 w h
def corebankref01_OfP.f (a0 : Int) : Option (Int × Int) := if a0 < 0 then (some ((-1), IntKind.u64.wrap (a0))) else (some (0, IntKind.u64.wrap (a0)))
set_option maxHeartbeats 8000000 in
set_option maxRecDepth 100000 in
theorem corebankref01_OfP.calls (a0 r1 r2 : Int) (w : World) (h : corebankref01_OfP.f a0 = some (r1, r2)) :
  Calls Tryd.prog 62 #[.int .i64 a0] w fun e w' => e = .returned (.agg #[.int .i64 r1, .int .u64 r2]) ∧ Below w.heap.size w w' := by
 have hu63 := Tryd.underlying63
 have HB := Aside0.mk (Below.refl w.heap.size w)
 have H : (if a0 < 0 then (some ((-1), IntKind.u64.wrap (a0))) else (some (0, IntKind.u64.wrap (a0)))) = some (r1, r2) := h
 clear h
 by_cases c2 : a0 < 0
 ·rw [if_pos c2] at H
  have c2b0 : decide (a0 < 0) = true := decide_eq_true c2
  clear c2
  simp only [Option.some.injEq, Prod.mk.injEq] at H
  obtain ⟨rfl, rfl⟩ := H
  go_enter Tryd.func62, Tryd.ntmps62
  go_wp2_with (first | ((with_reducible refine gate_dst (N := 2) rfl ?_); refine be_ (N := 2) (cs := #[.int .i64 0, .int .u64 0]) (t := 63) ?_; intro gb354 hg w3 hbox hb; have n0_ := Aside0.mk (below_step (qb_ HB.out) hb); have n1_ := Aside0.mk (hbox); have n2_ := Aside0.mk (bz_ hg (qb_ HB.out) : w.heap.size ≤ gb354); have n3_ := n2_; clear HB; have HB := n0_; have BK354 := n1_; have GW354 := n2_; have GE354 := n3_; clear n0_ n1_ n2_ n3_; clear hb hbox hg; obtain ⟨hcz4_0, hcz4_1, hfz4_0, hfz4_1⟩ := cz2_ BK354.out))
  refine bodyPost_ret (results_cell_row rfl _ _ gb354 63 #[.int .i64 (-1), .int .u64 (IntKind.u64.wrap (a0))] (0, 0) _ rfl (qpp_ #[.int .i64 (-1), .int .u64 0] 1 #[.int .i64 0, .int .u64 0] 0 BK354.out) Tryd.underlying63 rfl (by kernel_rfl)) rfl ?_
  exact ⟨qe_, qb1_ GE354.out HB.out⟩
 ·rw [if_neg c2] at H
  have c2b0 : decide (a0 < 0) = false := decide_eq_false c2
  clear c2
  simp only [Option.some.injEq, Prod.mk.injEq] at H
  obtain ⟨rfl, rfl⟩ := H
  go_enter Tryd.func62, Tryd.ntmps62
  go_wp2_with (first | ((with_reducible refine gate_dst (N := 2) rfl ?_); refine be_ (N := 2) (cs := #[.int .i64 0, .int .u64 0]) (t := 63) ?_; intro gb354 hg w5 hbox hb; have n0_ := Aside0.mk (below_step (qb_ HB.out) hb); have n1_ := Aside0.mk (hbox); have n2_ := Aside0.mk (bz_ hg (qb_ HB.out) : w.heap.size ≤ gb354); have n3_ := n2_; clear HB; have HB := n0_; have BK354 := n1_; have GW354 := n2_; have GE354 := n3_; clear n0_ n1_ n2_ n3_; clear hb hbox hg; obtain ⟨hcz6_0, hcz6_1, hfz6_0, hfz6_1⟩ := cz2_ BK354.out))
  refine bodyPost_ret (results_cell_row rfl _ _ gb354 63 #[.int .i64 0, .int .u64 (IntKind.u64.wrap (a0))] (0, 0) _ rfl (qpp_ #[.int .i64 0, .int .u64 0] 1 #[.int .i64 0, .int .u64 0] 0 BK354.out) Tryd.underlying63 rfl (by kernel_rfl)) rfl ?_
  exact ⟨qe_, qb1_ GE354.out HB.out⟩
def corebankref01_Of.f (a0 : Int) : Option (Int × Int) := if inI a0 then some (a0 / 18446744073709551616, a0 % 18446744073709551616) else none
theorem corebankref01_Of.eq {a : Int} {r : Int × Int} (h : corebankref01_Of.f a = some r) : corebankref01_OfP.f a = some r := by
 unfold corebankref01_Of.f at h
 split at h
 ·rename_i c
  obtain ⟨c0, c1⟩ := c
  injection h with h
  subst h
  unfold corebankref01_OfP.f
  simp only [IntKind.wrap_u64]
  split <;> (congr 2; omega)
 ·cases h
theorem corebankref01_Of.calls (a0 r1 r2 : Int) (w : World) (h : corebankref01_Of.f a0 = some (r1, r2)) :
  Calls Tryd.prog 62 #[.int .i64 a0] w fun e w' => e = .returned (.agg #[.int .i64 r1, .int .u64 r2]) ∧ Below w.heap.size w w' := by
 have h := corebankref01_Of.eq h
 exact corebankref01_OfP.calls a0 r1 r2 w h
def corebankref01_IntP.f (a0_0 a0_1 : Int) : Option (Int × Bool) := (corebankref01_Of.f (wrap64 (a0_1))).bind fun bt356 => (if (bt356.1 == a0_0 && (bt356.2 == a0_1)) = true then (some (wrap64 (a0_1), true)) else (some (0, false)))
set_option maxHeartbeats 8000000 in
set_option maxRecDepth 100000 in
theorem corebankref01_IntP.calls (a0_0 a0_1 r1 : Int) (r2 : Bool) (w : World) (h : corebankref01_IntP.f a0_0 a0_1 = some (r1, r2)) :
  Calls Tryd.prog 63 #[.agg #[.int .i64 a0_0, .int .u64 a0_1]] w fun e w' => e = .returned (.tuple #[.int .i64 r1, .bool r2]) ∧ Below w.heap.size w w' := by
 have hu63 := Tryd.underlying63
 have HB := Aside0.mk (Below.refl w.heap.size w)
 have H : ((corebankref01_Of.f (wrap64 (a0_1))).bind fun bt356 => (if (bt356.1 == a0_0 && (bt356.2 == a0_1)) = true then (some (wrap64 (a0_1), true)) else (some (0, false)))) = some (r1, r2) := h
 clear h
 replace H := Option.bind_eq_some_iff.mp H
 obtain ⟨⟨t356, t357⟩, A20, H⟩ := H
 replace H : (if (t356 == a0_0 && (t357 == a0_1)) = true then (some (wrap64 (a0_1), true)) else (some (0, false))) = some (r1, r2) := H
 have A2 := Aside0.mk A20
 clear A20
 by_cases c3 : (t356 == a0_0 && (t357 == a0_1)) = true
 ·rw [if_pos c3] at H
  have c3b0 : (t356 == a0_0 && (t357 == a0_1)) = true := c3
  (try (have c3b1 : decide (t356 = a0_0 && (t357 == a0_1)) = true := by simpa using c3))
  (try (have c3b2 : (t356 == a0_0 && (t357 == a0_1)) = true := by simpa using c3))
  clear c3
  simp only [Option.some.injEq, Prod.mk.injEq] at H
  obtain ⟨rfl, rfl⟩ := H
  go_enter Tryd.func63, Tryd.ntmps63
  try go_wp2_with (first | ((with_reducible refine gate_dst (N := 1) rfl ?_); refine be_ (N := 1) (cs := #[.int .i64 a0_0, .int .u64 a0_1]) (t := 63) ?_; intro gb355 hg w4 hbox hb; have n0_ := Aside0.mk (below_step (qb_ HB.out) hb); have n1_ := Aside0.mk (hbox); have n2_ := Aside0.mk (bz_ hg (qb_ HB.out) : w.heap.size ≤ gb355); have n3_ := n2_; clear HB; have HB := n0_; have BK355 := n1_; have GW355 := n2_; have GE355 := n3_; clear n0_ n1_ n2_ n3_; clear hb hbox hg))
  have n0_ := Aside0.mk (blk_drew BK355.out)
  have n1_ := Aside0.mk (below_drew1 HB.out)
  clear BK355
  clear HB
  have BK355 := n0_
  have HB := n1_
  clear n0_ n1_
  refine start_ (n := 6) (S := fun w' => w'.cell? ⟨gb355, 0, none⟩ = some (.int .i64 a0_0) ∧ w'.cell? ⟨gb355, 1, none⟩ = some (.int .u64 a0_1)) (ds := []) (nb_ 6 0) (by kernel_rfl) rfl rfl (cc2_ BK355.out) (fun hHeld => ?_)
  generalize w4.drew = w5 at BK355 HB hHeld ⊢
  refine pure_ (i := 0) (N := some 4) (v := ?_) (a' := ?_) (nb_ 6 1) rfl rfl (by kernel_rfl) (fun _ _ _ h => h) (Or.inl ⟨by rfl, ?_⟩) ?_ ?_
  rotate_left
  ·intro w'
   go_simp
   with_reducible rfl
  rotate_left
  ·simp only [Act.put, List.setIfInBounds_toArray, List.set_cons_zero, List.set_cons_succ, i64_w, i32_w]
   rfl
  refine take_ (i := 1) (N := some 5) (v := ?_) (a' := ?_) (nb_ 6 3) rfl rfl (by kernel_rfl) (fun _ _ _ h => h) (Or.inl ⟨by rfl, ?_⟩) hHeld ?_ ?_
  rotate_left
  ·rintro w' ⟨s0, s1⟩
   go_simp
   with_reducible rfl
  rotate_left
  ·simp only [Act.put, List.setIfInBounds_toArray, List.set_cons_zero, List.set_cons_succ, i64_w, i32_w]
   rfl
  refine pure_ (i := 2) (N := some 6) (v := ?_) (a' := ?_) (nb_ 6 7) rfl rfl (by kernel_rfl) (fun _ _ _ h => h) (Or.inl ⟨by rfl, ?_⟩) ?_ ?_
  rotate_left
  ·intro w'
   go_simp
   with_reducible rfl
  rotate_left
  ·simp only [Act.put, List.setIfInBounds_toArray, List.set_cons_zero, List.set_cons_succ, i64_w, i32_w]
   rfl
  refine take_ (i := 4) (N := some 8) (v := ?_) (a' := ?_) (nb_ 6 23) rfl rfl (by kernel_rfl) (fun _ _ _ h => h) (Or.inl ⟨by rfl, ?_⟩) hHeld ?_ ?_
  rotate_left
  ·rintro w' ⟨s0, s1⟩
   go_simp
   with_reducible rfl
  rotate_left
  ·simp only [Act.put, List.setIfInBounds_toArray, List.set_cons_zero, List.set_cons_succ, i64_w, i32_w]
   rfl
  refine one_ (i := 3) (N := some 7) (nb_ 6 31) rfl rfl (by kernel_rfl) (by decide) (fun K hK => ?_)
  refine goes_ Tryd.func62 (by kernel_rfl) rfl #[.int .i64 (wrap64 (a0_1))] (by rfl) rfl rfl ql_ ?_
  with_reducible refine (corebankref01_Of.calls (wrap64 (a0_1)) t356 t357 _ A2.out).mono ?_
  rintro e w6 ⟨rfl, hb⟩
  refine ⟨_, rfl, ?_⟩
  have n0_ := Aside0.mk (blk_below (qk_ BK355.out) hb)
  have n1_ := Aside0.mk (below_step (qb1_ GE355.out HB.out) hb)
  clear BK355
  clear HB
  have BK355 := n0_
  have HB := n1_
  clear n0_ n1_
  (try clear hb)
  (try clear hb2)
  (try clear hk)
  (try clear hi)
  refine hK.out _ _ (cc2_ BK355.out) (fun hHeld => ?_)
  clear hK K
  refine no_ ?_
  refine pure_ (i := 5) (N := some 9) (v := ?_) (a' := ?_) (nb_ 6 63) rfl rfl (by kernel_rfl) (fun _ _ _ h => h) (Or.inl ⟨by rfl, ?_⟩) ?_ ?_
  rotate_left
  ·intro w'
   go_simp
   with_reducible rfl
  rotate_left
  ·simp only [Act.put, List.setIfInBounds_toArray, List.set_cons_zero, List.set_cons_succ, i64_w, i32_w]
   rfl
  refine done_ (by kernel_rfl) ?_
  obtain ⟨hcz7_0, hcz7_1, hfz7_0, hfz7_1⟩ := cz2_ BK355.out
  try go_wp2
  go_ret2
  exact ⟨qe_, qb1_ GE355.out HB.out⟩
 ·rw [if_neg c3] at H
  have c3b0 : (t356 == a0_0 && (t357 == a0_1)) = false := by simpa using c3
  (try (have c3b1 : decide (t356 = a0_0 && (t357 == a0_1)) = false := by simpa using c3))
  (try (have c3b2 : (t356 == a0_0 && (t357 == a0_1)) = false := by simpa using c3))
  (try (have c3b3 : ¬ (t356 = a0_0 && (t357 == a0_1)) := by simpa using c3))
  clear c3
  simp only [Option.some.injEq, Prod.mk.injEq] at H
  obtain ⟨rfl, rfl⟩ := H
  go_enter Tryd.func63, Tryd.ntmps63
  try go_wp2_with (first | ((with_reducible refine gate_dst (N := 1) rfl ?_); refine be_ (N := 1) (cs := #[.int .i64 a0_0, .int .u64 a0_1]) (t := 63) ?_; intro gb355 hg w8 hbox hb; have n0_ := Aside0.mk (below_step (qb_ HB.out) hb); have n1_ := Aside0.mk (hbox); have n2_ := Aside0.mk (bz_ hg (qb_ HB.out) : w.heap.size ≤ gb355); have n3_ := n2_; clear HB; have HB := n0_; have BK355 := n1_; have GW355 := n2_; have GE355 := n3_; clear n0_ n1_ n2_ n3_; clear hb hbox hg))
  have n0_ := Aside0.mk (blk_drew BK355.out)
  have n1_ := Aside0.mk (below_drew1 HB.out)
  clear BK355
  clear HB
  have BK355 := n0_
  have HB := n1_
  clear n0_ n1_
  refine start_ (n := 6) (S := fun w' => w'.cell? ⟨gb355, 0, none⟩ = some (.int .i64 a0_0) ∧ w'.cell? ⟨gb355, 1, none⟩ = some (.int .u64 a0_1)) (ds := []) (nb_ 6 0) (by kernel_rfl) rfl rfl (cc2_ BK355.out) (fun hHeld => ?_)
  generalize w8.drew = w9 at BK355 HB hHeld ⊢
  refine pure_ (i := 0) (N := some 4) (v := ?_) (a' := ?_) (nb_ 6 1) rfl rfl (by kernel_rfl) (fun _ _ _ h => h) (Or.inl ⟨by rfl, ?_⟩) ?_ ?_
  rotate_left
  ·intro w'
   go_simp
   with_reducible rfl
  rotate_left
  ·simp only [Act.put, List.setIfInBounds_toArray, List.set_cons_zero, List.set_cons_succ, i64_w, i32_w]
   rfl
  refine take_ (i := 1) (N := some 5) (v := ?_) (a' := ?_) (nb_ 6 3) rfl rfl (by kernel_rfl) (fun _ _ _ h => h) (Or.inl ⟨by rfl, ?_⟩) hHeld ?_ ?_
  rotate_left
  ·rintro w' ⟨s0, s1⟩
   go_simp
   with_reducible rfl
  rotate_left
  ·simp only [Act.put, List.setIfInBounds_toArray, List.set_cons_zero, List.set_cons_succ, i64_w, i32_w]
   rfl
  refine pure_ (i := 2) (N := some 6) (v := ?_) (a' := ?_) (nb_ 6 7) rfl rfl (by kernel_rfl) (fun _ _ _ h => h) (Or.inl ⟨by rfl, ?_⟩) ?_ ?_
  rotate_left
  ·intro w'
   go_simp
   with_reducible rfl
  rotate_left
  ·simp only [Act.put, List.setIfInBounds_toArray, List.set_cons_zero, List.set_cons_succ, i64_w, i32_w]
   rfl
  refine take_ (i := 4) (N := some 8) (v := ?_) (a' := ?_) (nb_ 6 23) rfl rfl (by kernel_rfl) (fun _ _ _ h => h) (Or.inl ⟨by rfl, ?_⟩) hHeld ?_ ?_
  rotate_left
  ·rintro w' ⟨s0, s1⟩
   go_simp
   with_reducible rfl
  rotate_left
  ·simp only [Act.put, List.setIfInBounds_toArray, List.set_cons_zero, List.set_cons_succ, i64_w, i32_w]
   rfl
  refine one_ (i := 3) (N := some 7) (nb_ 6 31) rfl rfl (by kernel_rfl) (by decide) (fun K hK => ?_)
  refine goes_ Tryd.func62 (by kernel_rfl) rfl #[.int .i64 (wrap64 (a0_1))] (by rfl) rfl rfl ql_ ?_
  with_reducible refine (corebankref01_Of.calls (wrap64 (a0_1)) t356 t357 _ A2.out).mono ?_
  rintro e w10 ⟨rfl, hb⟩
  refine ⟨_, rfl, ?_⟩
  have n0_ := Aside0.mk (blk_below (qk_ BK355.out) hb)
  have n1_ := Aside0.mk (below_step (qb1_ GE355.out HB.out) hb)
  clear BK355
  clear HB
  have BK355 := n0_
  have HB := n1_
  clear n0_ n1_
  (try clear hb)
  (try clear hb2)
  (try clear hk)
  (try clear hi)
  refine hK.out _ _ (cc2_ BK355.out) (fun hHeld => ?_)
  clear hK K
  refine no_ ?_
  refine pure_ (i := 5) (N := some 9) (v := ?_) (a' := ?_) (nb_ 6 63) rfl rfl (by kernel_rfl) (fun _ _ _ h => h) (Or.inl ⟨by rfl, ?_⟩) ?_ ?_
  rotate_left
  ·intro w'
   go_simp
   with_reducible rfl
  rotate_left
  ·simp only [Act.put, List.setIfInBounds_toArray, List.set_cons_zero, List.set_cons_succ, i64_w, i32_w]
   rfl
  refine done_ (by kernel_rfl) ?_
  try go_wp2
  go_ret2
  exact ⟨qe_, qb1_ GE355.out HB.out⟩
end Go.Proofs.YtjkjiibhdpcpkaaDoor.PS
