import Derived.Test.YtjkjiibhdpcpkaaDoorQRm2
import Derived.Test.YtjkjiibhdpcpkaaDoorQSx29
import Derived.Test.YtjkjiibhdpcpkaaDoorQSx30
import Derived.Test.YtjkjiibhdpcpkaaDoorQSx32
namespace Go.Proofs.YtjkjiibhdpcpkaaDoor.PS
open Go.RowKit Go.Proofs.YtjkjiibhdpcpkaaDoorW.PrintWords Go.Proofs.YtjkjiibhdpcpkaaDoorW.PrintLast
set_option linter.unusedVariables false
set_option linter.unusedSimpArgs false
def corebankref01_Div.f (a0_0 a0_1 a1 : Int) : Option (Int × Int × Int × Int) :=
 if isW a0_0 a0_1 ∧ inI a1 then
  some (if a1 < 1 then (0, 0, 0, 1) else (wv a0_0 a0_1 / a1 / 18446744073709551616, wv a0_0 a0_1 / a1 % 18446744073709551616, wv a0_0 a0_1 % a1, 0)) else none
theorem corebankref01_Div.eq {a b n : Int} {r : Int × Int × Int × Int} (h : corebankref01_Div.f a b n = some r) : ∃ k, corebankref01_DivP.f k a b n = some r := by
 unfold corebankref01_Div.f at h
 split at h
 ·rename_i q
  obtain ⟨⟨⟨a0, a1⟩, b0, b1⟩, n0, n1⟩ := q
  injection h with h
  subst h
  refine ⟨2, ?_⟩
  unfold corebankref01_DivP.f
  by_cases hn : n < 1
  ·rw [if_pos hn, if_pos hn]
  ·rw [if_neg hn, if_neg hn]
   have hW : isW a b := ⟨⟨a0, a1⟩, b0, b1⟩
   unfold corebankref01_Split.f
   rw [if_pos hW]
   simp only [Option.bind_some]
   have hun : IntKind.u64.wrap n = n := u64_id _ (by omega) (by omega)
   have hv : wv a b = a * 18446744073709551616 + b := rfl
   have mrange : 0 ≤ (if a < 0 then -(wv a b) else wv a b) ∧ (if a < 0 then -(wv a b) else wv a b) ≤ 170141183460469231731687303715884105728 := by split <;> omega
   have hvm : wv a b = if a < 0 then -(if a < 0 then -(wv a b) else wv a b) else (if a < 0 then -(wv a b) else wv a b) := by split <;> omega
   generalize hm : (if a < 0 then -(wv a b) else wv a b) = m at *
   obtain ⟨m0, m1⟩ := mrange
   have hwm : wv (m / 18446744073709551616) (m % 18446744073709551616) = m := by unfold wv; omega
   have hU : (inU (m / 18446744073709551616) ∧ inU (m % 18446744073709551616)) ∧ 1 ≤ n ∧ n ≤ 9223372036854775807 := ⟨⟨by unfold inU; omega, by unfold inU; omega⟩, by omega, by omega⟩
   unfold corebankref01_Quotient.f
   rw [hun, if_pos hU, hwm]
   simp only [Option.bind_some]
   have q0 : 0 ≤ m / n := Int.ediv_nonneg m0 (by omega)
   have q1 : m / n ≤ m := Int.ediv_le_self n m0
   have r0 := Int.emod_nonneg m (show n ≠ 0 by omega)
   have r1 := Int.emod_lt_of_pos m (show 0 < n by omega)
   have hwq : wv (m / n / 18446744073709551616) (m / n % 18446744073709551616) = m / n := by unfold wv; omega
   have hUq : inU (m / n / 18446744073709551616) ∧ inU (m / n % 18446744073709551616) := ⟨by unfold inU; omega, by unfold inU; omega⟩
   by_cases ha : a < 0
   ·rw [decide_eq_true ha, if_pos rfl]
    simp only [corebankref01_DivP.j0, corebankref01_DivP.j1]
    rw [if_pos ha] at hvm
    obtain ⟨d1, d2⟩ := neg_div (m := m) (n := n) (by omega)
    rw [hvm, d1, d2]
    by_cases hr : 0 < m % n
    ·rw [if_pos (by simpa using hr), if_pos hr, if_pos hr]
     have hq2 : m / n ≤ 170141183460469231731687303715884105727 := by
      by_cases h1n : n = 1
      ·subst h1n; rw [Int.emod_one] at hr; omega
      ·have h3 := Int.emod_add_mul_ediv m n
       have h4 : 2 * (m / n) ≤ n * (m / n) := Int.mul_le_mul_of_nonneg_right (by omega) q0
       omega
     have hw1 : wv 0 1 = 1 := by decide
     unfold corebankref01_plus.f
     rw [if_pos ⟨hUq, by decide, by decide⟩, hwq, hw1]
     simp only [Option.bind_some]
     rw [hun, u64_id (n - m % n) (by omega) (by omega)]
     have hwq2 : wv ((m / n + 1) / 18446744073709551616 % 18446744073709551616) ((m / n + 1) % 18446744073709551616) = m / n + 1 := by unfold wv; omega
     have hUq2 : inU ((m / n + 1) / 18446744073709551616 % 18446744073709551616) ∧ inU ((m / n + 1) % 18446744073709551616) := ⟨by unfold inU; omega, by unfold inU; omega⟩
     unfold corebankref01_Join.f
     rw [if_pos hUq2, hwq2]
     simp only [Option.bind_some, if_true]
     rw [i64_id (n - m % n) (by omega) (by omega), i64_id (-(m / n + 1) / 18446744073709551616) (by omega) (by omega)]
    ·rw [if_neg (by simpa using hr), if_neg hr, if_neg hr]
     unfold corebankref01_Join.f
     rw [if_pos hUq, hwq]
     simp only [Option.bind_some, if_true]
     rw [show m % n = 0 by omega, i64_id 0 (by omega) (by omega), i64_id (-(m / n) / 18446744073709551616) (by omega) (by omega)]
   ·rw [decide_eq_false ha, if_neg (by decide)]
    simp only [corebankref01_DivP.j0, corebankref01_DivP.j1]
    rw [if_neg ha] at hvm hm
    rw [if_neg (by decide), hvm]
    unfold corebankref01_Join.f
    rw [if_pos hUq, hwq]
    simp only [Option.bind_some, Bool.false_eq_true, if_false]
    rw [i64_id (m % n) (by omega) (by omega), i64_id (m / n / 18446744073709551616) (by omega) (by omega)]
 ·cases h
theorem corebankref01_Div.calls (a0_0 a0_1 a1 r1 r2 r3 r4 : Int) (w : World) (h : corebankref01_Div.f a0_0 a0_1 a1 = some (r1, r2, r3, r4)) :
  Calls Tryd.prog 59 #[.agg #[.int .i64 a0_0, .int .u64 a0_1], .int .i64 a1] w fun e w' => e = .returned (.tuple #[.agg #[.int .i64 r1, .int .u64 r2], .int .i64 r3, .int .i64 r4]) ∧ Below w.heap.size w w' := by
 obtain ⟨k, h⟩ := corebankref01_Div.eq h
 exact corebankref01_DivP.calls k a0_0 a0_1 a1 r1 r2 r3 r4 w h
def corebankref02_upP.f (a0 a1 : Bool) (a2 a3 a4 : Int) : Option (Bool) := if a4 = 1 then (some a0) else (if a4 = 2 then (some (!a0)) else (if a4 = 3 then (some false) else (if a4 = 4 then (some true) else (if a2 = (wrap64 (a3 - a2)) then (if a4 = 5 then (some (!a0)) else (some a1)) else (some (decide (a2 > (wrap64 (a3 - a2)))))))))
set_option maxHeartbeats 8000000 in
set_option maxRecDepth 100000 in
theorem corebankref02_upP.calls (a0 a1 : Bool) (a2 a3 a4 : Int) (r : Bool) (w : World) (h : corebankref02_upP.f a0 a1 a2 a3 a4 = some r) :
  Calls Tryd.prog 60 #[.bool a0, .bool a1, .int .i64 a2, .int .i64 a3, .int .i64 a4] w fun e w' => e = .returned (.bool r) ∧ Drawn0 w w' := by
 have H : (if a4 = 1 then (some a0) else (if a4 = 2 then (some (!a0)) else (if a4 = 3 then (some false) else (if a4 = 4 then (some true) else (if a2 = (wrap64 (a3 - a2)) then (if a4 = 5 then (some (!a0)) else (some a1)) else (some (decide (a2 > (wrap64 (a3 - a2)))))))))) = some r := h
 clear h
 by_cases c6 : a4 = 1
 ·rw [if_pos c6] at H
  have c6b0 : (a4 == 1) = true := beq_iff_eq.mpr c6
  have c6b1 : (a4 != 1) = false := bne_eq_false_iff_eq.mpr c6
  clear c6
  obtain rfl := Option.some.inj H
  go_enter Tryd.func60, Tryd.ntmps60
  go_wp2
  go_ret
  exact ⟨by first | rfl | (simp; done) | (simp [*]; done), by repeat (first | exact Drawn0.refl _ | apply Drawn0.step)⟩
 ·rw [if_neg c6] at H
  have c6b0 : (a4 == 1) = false := beq_eq_false_iff_ne.mpr c6
  have c6b1 : (a4 != 1) = true := bne_iff_ne.mpr c6
  by_cases c7 : a4 = 2
  ·rw [if_pos c7] at H
   have c7b0 : (a4 == 2) = true := beq_iff_eq.mpr c7
   have c7b1 : (a4 != 2) = false := bne_eq_false_iff_eq.mpr c7
   clear c7
   obtain rfl := Option.some.inj H
   go_enter Tryd.func60, Tryd.ntmps60
   go_wp2
   go_ret
   exact ⟨by first | rfl | (simp; done) | (simp [*]; done), by repeat (first | exact Drawn0.refl _ | apply Drawn0.step)⟩
  ·rw [if_neg c7] at H
   have c7b0 : (a4 == 2) = false := beq_eq_false_iff_ne.mpr c7
   have c7b1 : (a4 != 2) = true := bne_iff_ne.mpr c7
   by_cases c8 : a4 = 3
   ·rw [if_pos c8] at H
    have c8b0 : (a4 == 3) = true := beq_iff_eq.mpr c8
    have c8b1 : (a4 != 3) = false := bne_eq_false_iff_eq.mpr c8
    clear c8
    obtain rfl := Option.some.inj H
    go_enter Tryd.func60, Tryd.ntmps60
    go_wp2
    go_ret
    exact ⟨by first | rfl | (simp; done) | (simp [*]; done), by repeat (first | exact Drawn0.refl _ | apply Drawn0.step)⟩
   ·rw [if_neg c8] at H
    have c8b0 : (a4 == 3) = false := beq_eq_false_iff_ne.mpr c8
    have c8b1 : (a4 != 3) = true := bne_iff_ne.mpr c8
    by_cases c9 : a4 = 4
    ·rw [if_pos c9] at H
     have c9b0 : (a4 == 4) = true := beq_iff_eq.mpr c9
     have c9b1 : (a4 != 4) = false := bne_eq_false_iff_eq.mpr c9
     clear c9
     obtain rfl := Option.some.inj H
     go_enter Tryd.func60, Tryd.ntmps60
     go_wp2
     go_ret
     exact ⟨by first | rfl | (simp; done) | (simp [*]; done), by repeat (first | exact Drawn0.refl _ | apply Drawn0.step)⟩
    ·rw [if_neg c9] at H
     have c9b0 : (a4 == 4) = false := beq_eq_false_iff_ne.mpr c9
     have c9b1 : (a4 != 4) = true := bne_iff_ne.mpr c9
     by_cases c10 : a2 = (wrap64 (a3 - a2))
     ·rw [if_pos c10] at H
      have c10b0 : (a2 == (wrap64 (a3 - a2))) = true := beq_iff_eq.mpr c10
      have c10b1 : (a2 != (wrap64 (a3 - a2))) = false := bne_eq_false_iff_eq.mpr c10
      clear c10
      by_cases c11 : a4 = 5
      ·rw [if_pos c11] at H
       have c11b0 : (a4 == 5) = true := beq_iff_eq.mpr c11
       have c11b1 : (a4 != 5) = false := bne_eq_false_iff_eq.mpr c11
       clear c11
       obtain rfl := Option.some.inj H
       go_enter Tryd.func60, Tryd.ntmps60
       go_wp2
       go_ret
       exact ⟨by first | rfl | (simp; done) | (simp [*]; done), by repeat (first | exact Drawn0.refl _ | apply Drawn0.step)⟩
      ·rw [if_neg c11] at H
       have c11b0 : (a4 == 5) = false := beq_eq_false_iff_ne.mpr c11
       have c11b1 : (a4 != 5) = true := bne_iff_ne.mpr c11
       obtain rfl := Option.some.inj H
       go_enter Tryd.func60, Tryd.ntmps60
       go_wp2
       go_ret
       exact ⟨by first | rfl | (simp; done) | (simp [*]; done), by repeat (first | exact Drawn0.refl _ | apply Drawn0.step)⟩
     ·rw [if_neg c10] at H
      have c10b0 : (a2 == (wrap64 (a3 - a2))) = false := beq_eq_false_iff_ne.mpr c10
      have c10b1 : (a2 != (wrap64 (a3 - a2))) = true := bne_iff_ne.mpr c10
      obtain rfl := Option.some.inj H
      go_enter Tryd.func60, Tryd.ntmps60
      go_wp2
      go_ret
      exact ⟨by first | rfl | (simp; done) | (simp [*]; done), by repeat (first | exact Drawn0.refl _ | apply Drawn0.step)⟩
def corebankref02_up.f (a0 a1 : Bool) (a2 a3 a4 : Int) : Option Bool := if (1 ≤ a4 ∧ a4 ≤ 6) ∧ 0 < a2 ∧ a2 < a3 ∧ a3 ≤ 9223372036854775807 then some (upB a0 a1 a2 a3 a4) else none
theorem corebankref02_up.eq {a b : Bool} {c d m : Int} {r : Bool} (h : corebankref02_up.f a b c d m = some r) : corebankref02_upP.f a b c d m = some r := by
 unfold corebankref02_up.f at h
 split at h
 ·rename_i q
  obtain ⟨⟨m0, m1⟩, c0, c1, c2⟩ := q
  injection h with h
  subst h
  unfold corebankref02_upP.f upB
  rw [i64_id (d - c) (by omega) (by omega)]
  repeat' split
  all_goals first | rfl | omega | (congr 1; apply decide_eq_true; omega) | (congr 1; apply decide_eq_false; omega)
 ·cases h
theorem corebankref02_up.calls (a0 a1 : Bool) (a2 a3 a4 : Int) (r : Bool) (w : World) (h : corebankref02_up.f a0 a1 a2 a3 a4 = some r) :
  Calls Tryd.prog 60 #[.bool a0, .bool a1, .int .i64 a2, .int .i64 a3, .int .i64 a4] w fun e w' => e = .returned (.bool r) ∧ Drawn0 w w' := by
 have h := corebankref02_up.eq h
 exact corebankref02_upP.calls a0 a1 a2 a3 a4 r w h
def corebankref01_LessP.f (a0_0 a0_1 a1_0 a1_1 : Int) : Option (Bool) := if a0_0 < a1_0 then (some true) else (if a0_0 = a1_0 then (some (decide (a0_1 < a1_1))) else (some false))
set_option maxHeartbeats 8000000 in
set_option maxRecDepth 100000 in
theorem corebankref01_LessP.calls (a0_0 a0_1 a1_0 a1_1 : Int) (r : Bool) (w : World) (h : corebankref01_LessP.f a0_0 a0_1 a1_0 a1_1 = some r) :
  Calls Tryd.prog 79 #[.agg #[.int .u64 a0_0, .int .u64 a0_1], .agg #[.int .u64 a1_0, .int .u64 a1_1]] w fun e w' => e = .returned (.bool r) ∧ Below w.heap.size w w' := by
 have hu96 := Tryd.underlying96
 have HB := Aside0.mk (Below.refl w.heap.size w)
 have H : (if a0_0 < a1_0 then (some true) else (if a0_0 = a1_0 then (some (decide (a0_1 < a1_1))) else (some false))) = some r := h
 clear h
 by_cases c3 : a0_0 < a1_0
 ·rw [if_pos c3] at H
  have c3b0 : decide (a0_0 < a1_0) = true := decide_eq_true c3
  clear c3
  obtain rfl := Option.some.inj H
  go_enter Tryd.func79, Tryd.ntmps79
  go_wp2_with (first | ((with_reducible refine gate_dst (N := 2) rfl ?_); refine be_ (N := 2) (cs := #[.int .u64 a0_0, .int .u64 a0_1]) (t := 96) ?_; intro gb319 hg w4 hbox hb; have n0_ := Aside0.mk (below_step (qb_ HB.out) hb); have n1_ := Aside0.mk (hbox); have n2_ := Aside0.mk (bz_ hg (qb_ HB.out) : w.heap.size ≤ gb319); have n3_ := n2_; clear HB; have HB := n0_; have BK319 := n1_; have GW319 := n2_; have GE319 := n3_; clear n0_ n1_ n2_ n3_; clear hb hbox hg) | ((with_reducible refine gate_dst (N := 3) rfl ?_); refine be_ (N := 3) (cs := #[.int .u64 a1_0, .int .u64 a1_1]) (t := 96) ?_; intro gb320 hg w5 hbox hb; have n0_ := Aside0.mk (blk_below (qk_ BK319.out) hb); have n1_ := Aside0.mk (below_step (qb1_ GE319.out HB.out) hb); have n2_ := Aside0.mk (hbox); have n3_ := Aside0.mk (bz_ hg (qb1_ GE319.out HB.out) : w.heap.size ≤ gb320); have n4_ := n3_; have n5_ := Aside0.mk (nl_ hg (qk_ BK319.out) : gb319 ≠ gb320); have n6_ := Aside0.mk (ng_ hg (qk_ BK319.out) : gb320 ≠ gb319); clear BK319; clear HB; have BK319 := n0_; have HB := n1_; have BK320 := n2_; have GW320 := n3_; have GE320 := n4_; have NB319_320 := n5_; have NB320_319 := n6_; clear n0_ n1_ n2_ n3_ n4_ n5_ n6_; clear hb hbox hg; have hnb6 := NB319_320.out; have hnc6 := NB320_319.out; obtain ⟨hcz7_0, hcz7_1, hfz7_0, hfz7_1⟩ := cz2_ BK319.out; obtain ⟨hcz8_0, hcz8_1, hfz8_0, hfz8_1⟩ := cz2_ BK320.out))
  go_ret
  exact ⟨qe_, qb2_ GE319.out GE320.out HB.out⟩
 ·rw [if_neg c3] at H
  have c3b0 : decide (a0_0 < a1_0) = false := decide_eq_false c3
  clear c3
  by_cases c9 : a0_0 = a1_0
  ·rw [if_pos c9] at H
   have c9b0 : (a0_0 == a1_0) = true := beq_iff_eq.mpr c9
   have c9b1 : (a0_0 != a1_0) = false := bne_eq_false_iff_eq.mpr c9
   clear c9
   obtain rfl := Option.some.inj H
   go_enter Tryd.func79, Tryd.ntmps79
   go_wp2_with (first | ((with_reducible refine gate_dst (N := 2) rfl ?_); refine be_ (N := 2) (cs := #[.int .u64 a0_0, .int .u64 a0_1]) (t := 96) ?_; intro gb319 hg w10 hbox hb; have n0_ := Aside0.mk (below_step (qb_ HB.out) hb); have n1_ := Aside0.mk (hbox); have n2_ := Aside0.mk (bz_ hg (qb_ HB.out) : w.heap.size ≤ gb319); have n3_ := n2_; clear HB; have HB := n0_; have BK319 := n1_; have GW319 := n2_; have GE319 := n3_; clear n0_ n1_ n2_ n3_; clear hb hbox hg) | ((with_reducible refine gate_dst (N := 3) rfl ?_); refine be_ (N := 3) (cs := #[.int .u64 a1_0, .int .u64 a1_1]) (t := 96) ?_; intro gb320 hg w11 hbox hb; have n0_ := Aside0.mk (blk_below (qk_ BK319.out) hb); have n1_ := Aside0.mk (below_step (qb1_ GE319.out HB.out) hb); have n2_ := Aside0.mk (hbox); have n3_ := Aside0.mk (bz_ hg (qb1_ GE319.out HB.out) : w.heap.size ≤ gb320); have n4_ := n3_; have n5_ := Aside0.mk (nl_ hg (qk_ BK319.out) : gb319 ≠ gb320); have n6_ := Aside0.mk (ng_ hg (qk_ BK319.out) : gb320 ≠ gb319); clear BK319; clear HB; have BK319 := n0_; have HB := n1_; have BK320 := n2_; have GW320 := n3_; have GE320 := n4_; have NB319_320 := n5_; have NB320_319 := n6_; clear n0_ n1_ n2_ n3_ n4_ n5_ n6_; clear hb hbox hg; have hnb12 := NB319_320.out; have hnc12 := NB320_319.out; obtain ⟨hcz13_0, hcz13_1, hfz13_0, hfz13_1⟩ := cz2_ BK319.out; obtain ⟨hcz14_0, hcz14_1, hfz14_0, hfz14_1⟩ := cz2_ BK320.out))
   go_ret
   exact ⟨qe_, qb2_ GE319.out GE320.out HB.out⟩
  ·rw [if_neg c9] at H
   have c9b0 : (a0_0 == a1_0) = false := beq_eq_false_iff_ne.mpr c9
   have c9b1 : (a0_0 != a1_0) = true := bne_iff_ne.mpr c9
   obtain rfl := Option.some.inj H
   go_enter Tryd.func79, Tryd.ntmps79
   go_wp2_with (first | ((with_reducible refine gate_dst (N := 2) rfl ?_); refine be_ (N := 2) (cs := #[.int .u64 a0_0, .int .u64 a0_1]) (t := 96) ?_; intro gb319 hg w15 hbox hb; have n0_ := Aside0.mk (below_step (qb_ HB.out) hb); have n1_ := Aside0.mk (hbox); have n2_ := Aside0.mk (bz_ hg (qb_ HB.out) : w.heap.size ≤ gb319); have n3_ := n2_; clear HB; have HB := n0_; have BK319 := n1_; have GW319 := n2_; have GE319 := n3_; clear n0_ n1_ n2_ n3_; clear hb hbox hg) | ((with_reducible refine gate_dst (N := 3) rfl ?_); refine be_ (N := 3) (cs := #[.int .u64 a1_0, .int .u64 a1_1]) (t := 96) ?_; intro gb320 hg w16 hbox hb; have n0_ := Aside0.mk (blk_below (qk_ BK319.out) hb); have n1_ := Aside0.mk (below_step (qb1_ GE319.out HB.out) hb); have n2_ := Aside0.mk (hbox); have n3_ := Aside0.mk (bz_ hg (qb1_ GE319.out HB.out) : w.heap.size ≤ gb320); have n4_ := n3_; have n5_ := Aside0.mk (nl_ hg (qk_ BK319.out) : gb319 ≠ gb320); have n6_ := Aside0.mk (ng_ hg (qk_ BK319.out) : gb320 ≠ gb319); clear BK319; clear HB; have BK319 := n0_; have HB := n1_; have BK320 := n2_; have GW320 := n3_; have GE320 := n4_; have NB319_320 := n5_; have NB320_319 := n6_; clear n0_ n1_ n2_ n3_ n4_ n5_ n6_; clear hb hbox hg; have hnb17 := NB319_320.out; have hnc17 := NB320_319.out; obtain ⟨hcz18_0, hcz18_1, hfz18_0, hfz18_1⟩ := cz2_ BK319.out; obtain ⟨hcz19_0, hcz19_1, hfz19_0, hfz19_1⟩ := cz2_ BK320.out))
   go_ret
   exact ⟨qe_, qb2_ GE319.out GE320.out HB.out⟩
def corebankref01_Less.f (a0_0 a0_1 a1_0 a1_1 : Int) : Option Bool :=
 if (inU a0_0 ∧ inU a0_1) ∧ inU a1_0 ∧ inU a1_1 then some (decide (wv a0_0 a0_1 < wv a1_0 a1_1)) else none
theorem corebankref01_Less.eq {a b c d : Int} {r : Bool} (h : corebankref01_Less.f a b c d = some r) : corebankref01_LessP.f a b c d = some r := by
 unfold corebankref01_Less.f at h
 split at h
 ·rename_i q
  obtain ⟨⟨⟨a0, a1⟩, b0, b1⟩, ⟨c0, c1⟩, d0, d1⟩ := q
  injection h with h
  subst h
  unfold corebankref01_LessP.f wv
  repeat' split
  ·congr 1; symm; apply decide_eq_true; omega
  ·congr 1; apply decide_eq_decide.mpr; omega
  ·congr 1; symm; apply decide_eq_false; omega
 ·cases h
theorem corebankref01_Less.calls (a0_0 a0_1 a1_0 a1_1 : Int) (r : Bool) (w : World) (h : corebankref01_Less.f a0_0 a0_1 a1_0 a1_1 = some r) :
  Calls Tryd.prog 79 #[.agg #[.int .u64 a0_0, .int .u64 a0_1], .agg #[.int .u64 a1_0, .int .u64 a1_1]] w fun e w' => e = .returned (.bool r) ∧ Below w.heap.size w w' := by
 have h := corebankref01_Less.eq h
 exact corebankref01_LessP.calls a0_0 a0_1 a1_0 a1_1 r w h
def corebankref01_minusP.f (a0_0 a0_1 a1_0 a1_1 : Int) : Option (Int × Int) := if a0_1 < a1_1 then (some (IntKind.u64.wrap ((IntKind.u64.wrap (a0_0 - a1_0)) - 1), IntKind.u64.wrap (a0_1 - a1_1))) else (some (IntKind.u64.wrap (a0_0 - a1_0), IntKind.u64.wrap (a0_1 - a1_1)))
set_option maxHeartbeats 8000000 in
set_option maxRecDepth 100000 in
theorem corebankref01_minusP.calls (a0_0 a0_1 a1_0 a1_1 r1 r2 : Int) (w : World) (h : corebankref01_minusP.f a0_0 a0_1 a1_0 a1_1 = some (r1, r2)) :
  Calls Tryd.prog 80 #[.agg #[.int .u64 a0_0, .int .u64 a0_1], .agg #[.int .u64 a1_0, .int .u64 a1_1]] w fun e w' => e = .returned (.agg #[.int .u64 r1, .int .u64 r2]) ∧ Below w.heap.size w w' := by
 have hu96 := Tryd.underlying96
 have HB := Aside0.mk (Below.refl w.heap.size w)
 have H : (if a0_1 < a1_1 then (some (IntKind.u64.wrap ((IntKind.u64.wrap (a0_0 - a1_0)) - 1), IntKind.u64.wrap (a0_1 - a1_1))) else (some (IntKind.u64.wrap (a0_0 - a1_0), IntKind.u64.wrap (a0_1 - a1_1)))) = some (r1, r2) := h
 clear h
 by_cases c3 : a0_1 < a1_1
 ·rw [if_pos c3] at H
  have c3b0 : decide (a0_1 < a1_1) = true := decide_eq_true c3
  clear c3
  simp only [Option.some.injEq, Prod.mk.injEq] at H
  obtain ⟨rfl, rfl⟩ := H
  go_enter Tryd.func80, Tryd.ntmps80
  go_wp2_with (first | ((with_reducible refine gate_dst (N := 2) rfl ?_); refine be_ (N := 2) (cs := #[.int .u64 a0_0, .int .u64 a0_1]) (t := 96) ?_; intro gb321 hg w4 hbox hb; have n0_ := Aside0.mk (below_step (qb_ HB.out) hb); have n1_ := Aside0.mk (hbox); have n2_ := Aside0.mk (bz_ hg (qb_ HB.out) : w.heap.size ≤ gb321); have n3_ := n2_; clear HB; have HB := n0_; have BK321 := n1_; have GW321 := n2_; have GE321 := n3_; clear n0_ n1_ n2_ n3_; clear hb hbox hg) | ((with_reducible refine gate_dst (N := 3) rfl ?_); refine be_ (N := 3) (cs := #[.int .u64 a1_0, .int .u64 a1_1]) (t := 96) ?_; intro gb322 hg w5 hbox hb; have n0_ := Aside0.mk (blk_below (qk_ BK321.out) hb); have n1_ := Aside0.mk (below_step (qb1_ GE321.out HB.out) hb); have n2_ := Aside0.mk (hbox); have n3_ := Aside0.mk (bz_ hg (qb1_ GE321.out HB.out) : w.heap.size ≤ gb322); have n4_ := n3_; have n5_ := Aside0.mk (nl_ hg (qk_ BK321.out) : gb321 ≠ gb322); have n6_ := Aside0.mk (ng_ hg (qk_ BK321.out) : gb322 ≠ gb321); clear BK321; clear HB; have BK321 := n0_; have HB := n1_; have BK322 := n2_; have GW322 := n3_; have GE322 := n4_; have NB321_322 := n5_; have NB322_321 := n6_; clear n0_ n1_ n2_ n3_ n4_ n5_ n6_; clear hb hbox hg) | ((with_reducible refine gate_dst (N := 4) rfl ?_); refine be_ (N := 4) (cs := #[.int .u64 0, .int .u64 0]) (t := 96) ?_; intro gb323 hg w6 hbox hb; have n0_ := Aside0.mk (blk_below (qk_ BK321.out) hb); have n1_ := Aside0.mk (blk_below (qk_ BK322.out) hb); have n2_ := Aside0.mk (below_step (qb2_ GE321.out GE322.out HB.out) hb); have n3_ := Aside0.mk (hbox); have n4_ := Aside0.mk (bz_ hg (qb2_ GE321.out GE322.out HB.out) : w.heap.size ≤ gb323); have n5_ := n4_; have n6_ := Aside0.mk (nl_ hg (qk_ BK321.out) : gb321 ≠ gb323); have n7_ := Aside0.mk (ng_ hg (qk_ BK321.out) : gb323 ≠ gb321); have n8_ := Aside0.mk (nl_ hg (qk_ BK322.out) : gb322 ≠ gb323); have n9_ := Aside0.mk (ng_ hg (qk_ BK322.out) : gb323 ≠ gb322); clear BK321; clear BK322; clear HB; have BK321 := n0_; have BK322 := n1_; have HB := n2_; have BK323 := n3_; have GW323 := n4_; have GE323 := n5_; have NB321_323 := n6_; have NB323_321 := n7_; have NB322_323 := n8_; have NB323_322 := n9_; clear n0_ n1_ n2_ n3_ n4_ n5_ n6_ n7_ n8_ n9_; clear hb hbox hg; have hnb7 := NB321_322.out; have hnc7 := NB322_321.out; have hnb8 := NB321_323.out; have hnc8 := NB323_321.out; obtain ⟨hcz9_0, hcz9_1, hfz9_0, hfz9_1⟩ := cz2_ BK321.out; have hnb10 := NB322_323.out; have hnc10 := NB323_322.out; obtain ⟨hcz11_0, hcz11_1, hfz11_0, hfz11_1⟩ := cz2_ BK322.out; obtain ⟨hcz12_0, hcz12_1, hfz12_0, hfz12_1⟩ := cz2_ BK323.out))
  refine bodyPost_ret (results_cell_row rfl _ _ gb323 96 #[.int .u64 (IntKind.u64.wrap ((IntKind.u64.wrap (a0_0 - a1_0)) - 1)), .int .u64 (IntKind.u64.wrap (a0_1 - a1_1))] (0, 0) _ rfl (qpp_ #[.int .u64 (IntKind.u64.wrap ((IntKind.u64.wrap (a0_0 - a1_0)) - 1)), .int .u64 0] 1 #[.int .u64 0, .int .u64 0] 0 BK323.out) Tryd.underlying96 rfl (by kernel_rfl)) rfl ?_
  exact ⟨qe_, qb3_ GE321.out GE322.out GE323.out HB.out⟩
 ·rw [if_neg c3] at H
  have c3b0 : decide (a0_1 < a1_1) = false := decide_eq_false c3
  clear c3
  simp only [Option.some.injEq, Prod.mk.injEq] at H
  obtain ⟨rfl, rfl⟩ := H
  go_enter Tryd.func80, Tryd.ntmps80
  go_wp2_with (first | ((with_reducible refine gate_dst (N := 2) rfl ?_); refine be_ (N := 2) (cs := #[.int .u64 a0_0, .int .u64 a0_1]) (t := 96) ?_; intro gb321 hg w13 hbox hb; have n0_ := Aside0.mk (below_step (qb_ HB.out) hb); have n1_ := Aside0.mk (hbox); have n2_ := Aside0.mk (bz_ hg (qb_ HB.out) : w.heap.size ≤ gb321); have n3_ := n2_; clear HB; have HB := n0_; have BK321 := n1_; have GW321 := n2_; have GE321 := n3_; clear n0_ n1_ n2_ n3_; clear hb hbox hg) | ((with_reducible refine gate_dst (N := 3) rfl ?_); refine be_ (N := 3) (cs := #[.int .u64 a1_0, .int .u64 a1_1]) (t := 96) ?_; intro gb322 hg w14 hbox hb; have n0_ := Aside0.mk (blk_below (qk_ BK321.out) hb); have n1_ := Aside0.mk (below_step (qb1_ GE321.out HB.out) hb); have n2_ := Aside0.mk (hbox); have n3_ := Aside0.mk (bz_ hg (qb1_ GE321.out HB.out) : w.heap.size ≤ gb322); have n4_ := n3_; have n5_ := Aside0.mk (nl_ hg (qk_ BK321.out) : gb321 ≠ gb322); have n6_ := Aside0.mk (ng_ hg (qk_ BK321.out) : gb322 ≠ gb321); clear BK321; clear HB; have BK321 := n0_; have HB := n1_; have BK322 := n2_; have GW322 := n3_; have GE322 := n4_; have NB321_322 := n5_; have NB322_321 := n6_; clear n0_ n1_ n2_ n3_ n4_ n5_ n6_; clear hb hbox hg) | ((with_reducible refine gate_dst (N := 4) rfl ?_); refine be_ (N := 4) (cs := #[.int .u64 0, .int .u64 0]) (t := 96) ?_; intro gb323 hg w15 hbox hb; have n0_ := Aside0.mk (blk_below (qk_ BK321.out) hb); have n1_ := Aside0.mk (blk_below (qk_ BK322.out) hb); have n2_ := Aside0.mk (below_step (qb2_ GE321.out GE322.out HB.out) hb); have n3_ := Aside0.mk (hbox); have n4_ := Aside0.mk (bz_ hg (qb2_ GE321.out GE322.out HB.out) : w.heap.size ≤ gb323); have n5_ := n4_; have n6_ := Aside0.mk (nl_ hg (qk_ BK321.out) : gb321 ≠ gb323); have n7_ := Aside0.mk (ng_ hg (qk_ BK321.out) : gb323 ≠ gb321); have n8_ := Aside0.mk (nl_ hg (qk_ BK322.out) : gb322 ≠ gb323); have n9_ := Aside0.mk (ng_ hg (qk_ BK322.out) : gb323 ≠ gb322); clear BK321; clear BK322; clear HB; have BK321 := n0_; have BK322 := n1_; have HB := n2_; have BK323 := n3_; have GW323 := n4_; have GE323 := n5_; have NB321_323 := n6_; have NB323_321 := n7_; have NB322_323 := n8_; have NB323_322 := n9_; clear n0_ n1_ n2_ n3_ n4_ n5_ n6_ n7_ n8_ n9_; clear hb hbox hg; have hnb16 := NB321_322.out; have hnc16 := NB322_321.out; have hnb17 := NB321_323.out; have hnc17 := NB323_321.out; obtain ⟨hcz18_0, hcz18_1, hfz18_0, hfz18_1⟩ := cz2_ BK321.out; have hnb19 := NB322_323.out; have hnc19 := NB323_322.out; obtain ⟨hcz20_0, hcz20_1, hfz20_0, hfz20_1⟩ := cz2_ BK322.out; obtain ⟨hcz21_0, hcz21_1, hfz21_0, hfz21_1⟩ := cz2_ BK323.out))
  refine bodyPost_ret (results_cell_row rfl _ _ gb323 96 #[.int .u64 (IntKind.u64.wrap (a0_0 - a1_0)), .int .u64 (IntKind.u64.wrap (a0_1 - a1_1))] (0, 0) _ rfl (qpp_ #[.int .u64 (IntKind.u64.wrap (a0_0 - a1_0)), .int .u64 0] 1 #[.int .u64 0, .int .u64 0] 0 BK323.out) Tryd.underlying96 rfl (by kernel_rfl)) rfl ?_
  exact ⟨qe_, qb3_ GE321.out GE322.out GE323.out HB.out⟩
def corebankref01_minus.f (a0_0 a0_1 a1_0 a1_1 : Int) : Option (Int × Int) :=
 if ((inU a0_0 ∧ inU a0_1) ∧ inU a1_0 ∧ inU a1_1) ∧ wv a1_0 a1_1 ≤ wv a0_0 a0_1 then some ((wv a0_0 a0_1 - wv a1_0 a1_1) / 18446744073709551616, (wv a0_0 a0_1 - wv a1_0 a1_1) % 18446744073709551616) else none
theorem corebankref01_minus.eq {a b c d : Int} {r : Int × Int} (h : corebankref01_minus.f a b c d = some r) : corebankref01_minusP.f a b c d = some r := by
 unfold corebankref01_minus.f at h
 split at h
 ·rename_i q
  obtain ⟨⟨⟨⟨a0, a1⟩, b0, b1⟩, ⟨c0, c1⟩, d0, d1⟩, hle⟩ := q
  injection h with h
  subst h
  unfold corebankref01_minusP.f
  unfold wv at *
  simp only [IntKind.wrap_u64]
  split <;> (congr 2 <;> omega)
 ·cases h
theorem corebankref01_minus.calls (a0_0 a0_1 a1_0 a1_1 r1 r2 : Int) (w : World) (h : corebankref01_minus.f a0_0 a0_1 a1_0 a1_1 = some (r1, r2)) :
  Calls Tryd.prog 80 #[.agg #[.int .u64 a0_0, .int .u64 a0_1], .agg #[.int .u64 a1_0, .int .u64 a1_1]] w fun e w' => e = .returned (.agg #[.int .u64 r1, .int .u64 r2]) ∧ Below w.heap.size w w' := by
 have h := corebankref01_minus.eq h
 exact corebankref01_minusP.calls a0_0 a0_1 a1_0 a1_1 r1 r2 w h
end Go.Proofs.YtjkjiibhdpcpkaaDoor.PS
