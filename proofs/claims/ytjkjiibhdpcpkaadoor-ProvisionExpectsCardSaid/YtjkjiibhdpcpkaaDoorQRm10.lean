import Derived.Test.YtjkjiibhdpcpkaaDoorQRm2
import Derived.Test.YtjkjiibhdpcpkaaDoorQRm5
import Derived.Test.YtjkjiibhdpcpkaaDoorQRm8
import Derived.Test.YtjkjiibhdpcpkaaDoorQRm9
section
namespace Go.Proofs.YtjkjiibhdpcpkaaDoor.PS
open Go.RowKit Go.Proofs.YtjkjiibhdpcpkaaDoorW.PrintWords Go.Proofs.YtjkjiibhdpcpkaaDoorW.PrintLast
set_option linter.unusedVariables false
set_option linter.unusedSimpArgs false
def corebankref01_Div.f (a0_0 a0_1 a1 : Int) : Option (Int × Int × Int × Int) :=
 if isW a0_0 a0_1 ∧ inI a1 then
  some (if a1 < 1 then (0, 0, 0, 1) else (wv a0_0 a0_1 / a1 / 18446744073709551616, wv a0_0 a0_1 / a1 % 18446744073709551616, wv a0_0 a0_1 % a1, 0)) else none
theorem corebankref01_Div.eq {a b n : Int} {r : Int × Int × Int × Int} (h : corebankref01_Div.f a b n = some r) : ∃ k, corebankref01_DivP.f k a b n = some r := by
 unfold corebankref01_Div.f at h
 split at h
 ·rename_i q
  obtain ⟨⟨⟨a0, a1⟩, b0, b1⟩, n0, n1⟩ := q
  injection h with h
  subst h
  refine ⟨2, ?_⟩
  unfold corebankref01_DivP.f
  by_cases hn : n < 1
  ·rw [if_pos hn, if_pos hn]
  ·rw [if_neg hn, if_neg hn]
   have hW : isW a b := ⟨⟨a0, a1⟩, b0, b1⟩
   unfold corebankref01_Split.f
   rw [if_pos hW]
   simp only [Option.bind_some]
   have hun : IntKind.u64.wrap n = n := u64_id _ (by omega) (by omega)
   have hv : wv a b = a * 18446744073709551616 + b := rfl
   have mrange : 0 ≤ (if a < 0 then -(wv a b) else wv a b) ∧ (if a < 0 then -(wv a b) else wv a b) ≤ 170141183460469231731687303715884105728 := by split <;> omega
   have hvm : wv a b = if a < 0 then -(if a < 0 then -(wv a b) else wv a b) else (if a < 0 then -(wv a b) else wv a b) := by split <;> omega
   generalize hm : (if a < 0 then -(wv a b) else wv a b) = m at *
   obtain ⟨m0, m1⟩ := mrange
   have hwm : wv (m / 18446744073709551616) (m % 18446744073709551616) = m := by unfold wv; omega
   have hU : (inU (m / 18446744073709551616) ∧ inU (m % 18446744073709551616)) ∧ 1 ≤ n ∧ n ≤ 9223372036854775807 := ⟨⟨by unfold inU; omega, by unfold inU; omega⟩, by omega, by omega⟩
   unfold corebankref01_Quotient.f
   rw [hun, if_pos hU, hwm]
   simp only [Option.bind_some]
   have q0 : 0 ≤ m / n := Int.ediv_nonneg m0 (by omega)
   have q1 : m / n ≤ m := Int.ediv_le_self n m0
   have r0 := Int.emod_nonneg m (show n ≠ 0 by omega)
   have r1 := Int.emod_lt_of_pos m (show 0 < n by omega)
   have hwq : wv (m / n / 18446744073709551616) (m / n % 18446744073709551616) = m / n := by unfold wv; omega
   have hUq : inU (m / n / 18446744073709551616) ∧ inU (m / n % 18446744073709551616) := ⟨by unfold inU; omega, by unfold inU; omega⟩
   by_cases ha : a < 0
   ·rw [decide_eq_true ha, if_pos rfl]
    simp only [corebankref01_DivP.j0, corebankref01_DivP.j1]
    rw [if_pos ha] at hvm
    obtain ⟨d1, d2⟩ := neg_div (m := m) (n := n) (by omega)
    rw [hvm, d1, d2]
    by_cases hr : 0 < m % n
    ·rw [if_pos (by simpa using hr), if_pos hr, if_pos hr]
     have hq2 : m / n ≤ 170141183460469231731687303715884105727 := by
      by_cases h1n : n = 1
      ·subst h1n; rw [Int.emod_one] at hr; omega
      ·have h3 := Int.emod_add_mul_ediv m n
       have h4 : 2 * (m / n) ≤ n * (m / n) := Int.mul_le_mul_of_nonneg_right (by omega) q0
       omega
     have hw1 : wv 0 1 = 1 := by decide
     unfold corebankref01_plus.f
     rw [if_pos ⟨hUq, by decide, by decide⟩, hwq, hw1]
     simp only [Option.bind_some]
     rw [hun, u64_id (n - m % n) (by omega) (by omega)]
     have hwq2 : wv ((m / n + 1) / 18446744073709551616 % 18446744073709551616) ((m / n + 1) % 18446744073709551616) = m / n + 1 := by unfold wv; omega
     have hUq2 : inU ((m / n + 1) / 18446744073709551616 % 18446744073709551616) ∧ inU ((m / n + 1) % 18446744073709551616) := ⟨by unfold inU; omega, by unfold inU; omega⟩
     unfold corebankref01_Join.f
     rw [if_pos hUq2, hwq2]
     simp only [Option.bind_some, if_true]
     rw [i64_id (n - m % n) (by omega) (by omega), i64_id (-(m / n + 1) / 18446744073709551616) (by omega) (by omega)]
    ·rw [if_neg (by simpa using hr), if_neg hr, if_neg hr]
     unfold corebankref01_Join.f
     rw [if_pos hUq, hwq]
     simp only [Option.bind_some, if_true]
     rw [show m % n = 0 by omega, i64_id 0 (by omega) (by omega), i64_id (-(m / n) / 18446744073709551616) (by omega) (by omega)]
   ·rw [decide_eq_false ha, if_neg (by decide)]
    simp only [corebankref01_DivP.j0, corebankref01_DivP.j1]
    rw [if_neg ha] at hvm hm
    rw [if_neg (by decide), hvm]
    unfold corebankref01_Join.f
    rw [if_pos hUq, hwq]
    simp only [Option.bind_some, Bool.false_eq_true, if_false]
    rw [i64_id (m % n) (by omega) (by omega), i64_id (m / n / 18446744073709551616) (by omega) (by omega)]
 ·cases h
theorem corebankref01_Div.calls (a0_0 a0_1 a1 r1 r2 r3 r4 : Int) (w : World) (h : corebankref01_Div.f a0_0 a0_1 a1 = some (r1, r2, r3, r4)) :
  Calls Tryd.prog 59 #[.agg #[.int .i64 a0_0, .int .u64 a0_1], .int .i64 a1] w fun e w' => e = .returned (.tuple #[.agg #[.int .i64 r1, .int .u64 r2], .int .i64 r3, .int .i64 r4]) ∧ Below w.heap.size w w' := by
 obtain ⟨k, h⟩ := corebankref01_Div.eq h
 exact corebankref01_DivP.calls k a0_0 a0_1 a1 r1 r2 r3 r4 w h
def corebankref02_upP.f (a0 a1 : Bool) (a2 a3 a4 : Int) : Option (Bool) := if a4 = 1 then (some a0) else (if a4 = 2 then (some (!a0)) else (if a4 = 3 then (some false) else (if a4 = 4 then (some true) else (if a2 = (wrap64 (a3 - a2)) then (if a4 = 5 then (some (!a0)) else (some a1)) else (some (decide (a2 > (wrap64 (a3 - a2)))))))))
set_option maxHeartbeats 8000000 in
set_option maxRecDepth 100000 in
theorem corebankref02_upP.calls (a0 a1 : Bool) (a2 a3 a4 : Int) (r : Bool) (w : World) (h : corebankref02_upP.f a0 a1 a2 a3 a4 = some r) :
  Calls Tryd.prog 60 #[.bool a0, .bool a1, .int .i64 a2, .int .i64 a3, .int .i64 a4] w fun e w' => e = .returned (.bool r) ∧ Drawn0 w w' := by
 have H : (if a4 = 1 then (some a0) else (if a4 = 2 then (some (!a0)) else (if a4 = 3 then (some false) else (if a4 = 4 then (some true) else (if a2 = (wrap64 (a3 - a2)) then (if a4 = 5 then (some (!a0)) else (some a1)) else (some (decide (a2 > (wrap64 (a3 - a2)))))))))) = some r := h
 clear h
 by_cases c6 : a4 = 1
 ·rw [if_pos c6] at H
  have c6b0 : (a4 == 1) = true := beq_iff_eq.mpr c6
  have c6b1 : (a4 != 1) = false := bne_eq_false_iff_eq.mpr c6
  clear c6
  obtain rfl := Option.some.inj H
  go_enter Tryd.func60, Tryd.ntmps60
  go_wp2
  go_ret
  exact ⟨by first | rfl | (simp; done) | (simp [*]; done), by repeat (first | exact Drawn0.refl _ | apply Drawn0.step)⟩
 ·rw [if_neg c6] at H
  have c6b0 : (a4 == 1) = false := beq_eq_false_iff_ne.mpr c6
  have c6b1 : (a4 != 1) = true := bne_iff_ne.mpr c6
  by_cases c7 : a4 = 2
  ·rw [if_pos c7] at H
   have c7b0 : (a4 == 2) = true := beq_iff_eq.mpr c7
   have c7b1 : (a4 != 2) = false := bne_eq_false_iff_eq.mpr c7
   clear c7
   obtain rfl := Option.some.inj H
   go_enter Tryd.func60, Tryd.ntmps60
   go_wp2
   go_ret
   exact ⟨by first | rfl | (simp; done) | (simp [*]; done), by repeat (first | exact Drawn0.refl _ | apply Drawn0.step)⟩
  ·rw [if_neg c7] at H
   have c7b0 : (a4 == 2) = false := beq_eq_false_iff_ne.mpr c7
   have c7b1 : (a4 != 2) = true := bne_iff_ne.mpr c7
   by_cases c8 : a4 = 3
   ·rw [if_pos c8] at H
    have c8b0 : (a4 == 3) = true := beq_iff_eq.mpr c8
    have c8b1 : (a4 != 3) = false := bne_eq_false_iff_eq.mpr c8
    clear c8
    obtain rfl := Option.some.inj H
    go_enter Tryd.func60, Tryd.ntmps60
    go_wp2
    go_ret
    exact ⟨by first | rfl | (simp; done) | (simp [*]; done), by repeat (first | exact Drawn0.refl _ | apply Drawn0.step)⟩
   ·rw [if_neg c8] at H
    have c8b0 : (a4 == 3) = false := beq_eq_false_iff_ne.mpr c8
    have c8b1 : (a4 != 3) = true := bne_iff_ne.mpr c8
    by_cases c9 : a4 = 4
    ·rw [if_pos c9] at H
     have c9b0 : (a4 == 4) = true := beq_iff_eq.mpr c9
     have c9b1 : (a4 != 4) = false := bne_eq_false_iff_eq.mpr c9
     clear c9
     obtain rfl := Option.some.inj H
     go_enter Tryd.func60, Tryd.ntmps60
     go_wp2
     go_ret
     exact ⟨by first | rfl | (simp; done) | (simp [*]; done), by repeat (first | exact Drawn0.refl _ | apply Drawn0.step)⟩
    ·rw [if_neg c9] at H
     have c9b0 : (a4 == 4) = false := beq_eq_false_iff_ne.mpr c9
     have c9b1 : (a4 != 4) = true := bne_iff_ne.mpr c9
     by_cases c10 : a2 = (wrap64 (a3 - a2))
     ·rw [if_pos c10] at H
      have c10b0 : (a2 == (wrap64 (a3 - a2))) = true := beq_iff_eq.mpr c10
      have c10b1 : (a2 != (wrap64 (a3 - a2))) = false := bne_eq_false_iff_eq.mpr c10
      clear c10
      by_cases c11 : a4 = 5
      ·rw [if_pos c11] at H
       have c11b0 : (a4 == 5) = true := beq_iff_eq.mpr c11
       have c11b1 : (a4 != 5) = false := bne_eq_false_iff_eq.mpr c11
       clear c11
       obtain rfl := Option.some.inj H
       go_enter Tryd.func60, Tryd.ntmps60
       go_wp2
       go_ret
       exact ⟨by first | rfl | (simp; done) | (simp [*]; done), by repeat (first | exact Drawn0.refl _ | apply Drawn0.step)⟩
      ·rw [if_neg c11] at H
       have c11b0 : (a4 == 5) = false := beq_eq_false_iff_ne.mpr c11
       have c11b1 : (a4 != 5) = true := bne_iff_ne.mpr c11
       obtain rfl := Option.some.inj H
       go_enter Tryd.func60, Tryd.ntmps60
       go_wp2
       go_ret
       exact ⟨by first | rfl | (simp; done) | (simp [*]; done), by repeat (first | exact Drawn0.refl _ | apply Drawn0.step)⟩
     ·rw [if_neg c10] at H
      have c10b0 : (a2 == (wrap64 (a3 - a2))) = false := beq_eq_false_iff_ne.mpr c10
      have c10b1 : (a2 != (wrap64 (a3 - a2))) = true := bne_iff_ne.mpr c10
      obtain rfl := Option.some.inj H
      go_enter Tryd.func60, Tryd.ntmps60
      go_wp2
      go_ret
      exact ⟨by first | rfl | (simp; done) | (simp [*]; done), by repeat (first | exact Drawn0.refl _ | apply Drawn0.step)⟩
def corebankref02_up.f (a0 a1 : Bool) (a2 a3 a4 : Int) : Option Bool := if (1 ≤ a4 ∧ a4 ≤ 6) ∧ 0 < a2 ∧ a2 < a3 ∧ a3 ≤ 9223372036854775807 then some (upB a0 a1 a2 a3 a4) else none
theorem corebankref02_up.eq {a b : Bool} {c d m : Int} {r : Bool} (h : corebankref02_up.f a b c d m = some r) : corebankref02_upP.f a b c d m = some r := by
 unfold corebankref02_up.f at h
 split at h
 ·rename_i q
  obtain ⟨⟨m0, m1⟩, c0, c1, c2⟩ := q
  injection h with h
  subst h
  unfold corebankref02_upP.f upB
  rw [i64_id (d - c) (by omega) (by omega)]
  repeat' split
  all_goals first | rfl | omega | (congr 1; apply decide_eq_true; omega) | (congr 1; apply decide_eq_false; omega)
 ·cases h
theorem corebankref02_up.calls (a0 a1 : Bool) (a2 a3 a4 : Int) (r : Bool) (w : World) (h : corebankref02_up.f a0 a1 a2 a3 a4 = some r) :
  Calls Tryd.prog 60 #[.bool a0, .bool a1, .int .i64 a2, .int .i64 a3, .int .i64 a4] w fun e w' => e = .returned (.bool r) ∧ Drawn0 w w' := by
 have h := corebankref02_up.eq h
 exact corebankref02_upP.calls a0 a1 a2 a3 a4 r w h
def corebankref01_LessP.f (a0_0 a0_1 a1_0 a1_1 : Int) : Option (Bool) := if a0_0 < a1_0 then (some true) else (if a0_0 = a1_0 then (some (decide (a0_1 < a1_1))) else (some false))
set_option maxHeartbeats 8000000 in
set_option maxRecDepth 100000 in
theorem corebankref01_LessP.calls (a0_0 a0_1 a1_0 a1_1 : Int) (r : Bool) (w : World) (h : corebankref01_LessP.f a0_0 a0_1 a1_0 a1_1 = some r) :
  Calls Tryd.prog 79 #[.agg #[.int .u64 a0_0, .int .u64 a0_1], .agg #[.int .u64 a1_0, .int .u64 a1_1]] w fun e w' => e = .returned (.bool r) ∧ Below w.heap.size w w' := by
 have hu96 := Tryd.underlying96
 have HB := Aside0.mk (Below.refl w.heap.size w)
 have H : (if a0_0 < a1_0 then (some true) else (if a0_0 = a1_0 then (some (decide (a0_1 < a1_1))) else (some false))) = some r := h
 clear h
 by_cases c3 : a0_0 < a1_0
 ·rw [if_pos c3] at H
  have c3b0 : decide (a0_0 < a1_0) = true := decide_eq_true c3
  clear c3
  obtain rfl := Option.some.inj H
  go_enter Tryd.func79, Tryd.ntmps79
  go_wp2_with (first | ((with_reducible refine gate_dst (N := 2) rfl ?_); refine be_ (N := 2) (cs := #[.int .u64 a0_0, .int .u64 a0_1]) (t := 96) ?_; intro gb319 hg w4 hbox hb; have n0_ := Aside0.mk (below_step (qb_ HB.out) hb); have n1_ := Aside0.mk (hbox); have n2_ := Aside0.mk (bz_ hg (qb_ HB.out) : w.heap.size ≤ gb319); have n3_ := n2_; clear HB; have HB := n0_; have BK319 := n1_; have GW319 := n2_; have GE319 := n3_; clear n0_ n1_ n2_ n3_; clear hb hbox hg) | ((with_reducible refine gate_dst (N := 3) rfl ?_); refine be_ (N := 3) (cs := #[.int .u64 a1_0, .int .u64 a1_1]) (t := 96) ?_; intro gb320 hg w5 hbox hb; have n0_ := Aside0.mk (blk_below (qk_ BK319.out) hb); have n1_ := Aside0.mk (below_step (qb1_ GE319.out HB.out) hb); have n2_ := Aside0.mk (hbox); have n3_ := Aside0.mk (bz_ hg (qb1_ GE319.out HB.out) : w.heap.size ≤ gb320); have n4_ := n3_; have n5_ := Aside0.mk (nl_ hg (qk_ BK319.out) : gb319 ≠ gb320); have n6_ := Aside0.mk (ng_ hg (qk_ BK319.out) : gb320 ≠ gb319); clear BK319; clear HB; have BK319 := n0_; have HB := n1_; have BK320 := n2_; have GW320 := n3_; have GE320 := n4_; have NB319_320 := n5_; have NB320_319 := n6_; clear n0_ n1_ n2_ n3_ n4_ n5_ n6_; clear hb hbox hg; have hnb6 := NB319_320.out; have hnc6 := NB320_319.out; obtain ⟨Z7_0, Z7_1, Y7_0, Y7_1⟩ := cz2_ BK319.out; obtain ⟨Z8_0, Z8_1, Y8_0, Y8_1⟩ := cz2_ BK320.out))
  go_ret
  exact ⟨qe_, qb2_ GE319.out GE320.out HB.out⟩
 ·rw [if_neg c3] at H
  have c3b0 : decide (a0_0 < a1_0) = false := decide_eq_false c3
  clear c3
  by_cases c9 : a0_0 = a1_0
  ·rw [if_pos c9] at H
   have c9b0 : (a0_0 == a1_0) = true := beq_iff_eq.mpr c9
   have c9b1 : (a0_0 != a1_0) = false := bne_eq_false_iff_eq.mpr c9
   clear c9
   obtain rfl := Option.some.inj H
   go_enter Tryd.func79, Tryd.ntmps79
   go_wp2_with (first | ((with_reducible refine gate_dst (N := 2) rfl ?_); refine be_ (N := 2) (cs := #[.int .u64 a0_0, .int .u64 a0_1]) (t := 96) ?_; intro gb319 hg w10 hbox hb; have n0_ := Aside0.mk (below_step (qb_ HB.out) hb); have n1_ := Aside0.mk (hbox); have n2_ := Aside0.mk (bz_ hg (qb_ HB.out) : w.heap.size ≤ gb319); have n3_ := n2_; clear HB; have HB := n0_; have BK319 := n1_; have GW319 := n2_; have GE319 := n3_; clear n0_ n1_ n2_ n3_; clear hb hbox hg) | ((with_reducible refine gate_dst (N := 3) rfl ?_); refine be_ (N := 3) (cs := #[.int .u64 a1_0, .int .u64 a1_1]) (t := 96) ?_; intro gb320 hg w11 hbox hb; have n0_ := Aside0.mk (blk_below (qk_ BK319.out) hb); have n1_ := Aside0.mk (below_step (qb1_ GE319.out HB.out) hb); have n2_ := Aside0.mk (hbox); have n3_ := Aside0.mk (bz_ hg (qb1_ GE319.out HB.out) : w.heap.size ≤ gb320); have n4_ := n3_; have n5_ := Aside0.mk (nl_ hg (qk_ BK319.out) : gb319 ≠ gb320); have n6_ := Aside0.mk (ng_ hg (qk_ BK319.out) : gb320 ≠ gb319); clear BK319; clear HB; have BK319 := n0_; have HB := n1_; have BK320 := n2_; have GW320 := n3_; have GE320 := n4_; have NB319_320 := n5_; have NB320_319 := n6_; clear n0_ n1_ n2_ n3_ n4_ n5_ n6_; clear hb hbox hg; have hnb12 := NB319_320.out; have hnc12 := NB320_319.out; obtain ⟨Z13_0, Z13_1, Y13_0, Y13_1⟩ := cz2_ BK319.out; obtain ⟨Z14_0, Z14_1, Y14_0, Y14_1⟩ := cz2_ BK320.out))
   go_ret
   exact ⟨qe_, qb2_ GE319.out GE320.out HB.out⟩
  ·rw [if_neg c9] at H
   have c9b0 : (a0_0 == a1_0) = false := beq_eq_false_iff_ne.mpr c9
   have c9b1 : (a0_0 != a1_0) = true := bne_iff_ne.mpr c9
   obtain rfl := Option.some.inj H
   go_enter Tryd.func79, Tryd.ntmps79
   go_wp2_with (first | ((with_reducible refine gate_dst (N := 2) rfl ?_); refine be_ (N := 2) (cs := #[.int .u64 a0_0, .int .u64 a0_1]) (t := 96) ?_; intro gb319 hg w15 hbox hb; have n0_ := Aside0.mk (below_step (qb_ HB.out) hb); have n1_ := Aside0.mk (hbox); have n2_ := Aside0.mk (bz_ hg (qb_ HB.out) : w.heap.size ≤ gb319); have n3_ := n2_; clear HB; have HB := n0_; have BK319 := n1_; have GW319 := n2_; have GE319 := n3_; clear n0_ n1_ n2_ n3_; clear hb hbox hg) | ((with_reducible refine gate_dst (N := 3) rfl ?_); refine be_ (N := 3) (cs := #[.int .u64 a1_0, .int .u64 a1_1]) (t := 96) ?_; intro gb320 hg w16 hbox hb; have n0_ := Aside0.mk (blk_below (qk_ BK319.out) hb); have n1_ := Aside0.mk (below_step (qb1_ GE319.out HB.out) hb); have n2_ := Aside0.mk (hbox); have n3_ := Aside0.mk (bz_ hg (qb1_ GE319.out HB.out) : w.heap.size ≤ gb320); have n4_ := n3_; have n5_ := Aside0.mk (nl_ hg (qk_ BK319.out) : gb319 ≠ gb320); have n6_ := Aside0.mk (ng_ hg (qk_ BK319.out) : gb320 ≠ gb319); clear BK319; clear HB; have BK319 := n0_; have HB := n1_; have BK320 := n2_; have GW320 := n3_; have GE320 := n4_; have NB319_320 := n5_; have NB320_319 := n6_; clear n0_ n1_ n2_ n3_ n4_ n5_ n6_; clear hb hbox hg; have hnb17 := NB319_320.out; have hnc17 := NB320_319.out; obtain ⟨Z18_0, Z18_1, Y18_0, Y18_1⟩ := cz2_ BK319.out; obtain ⟨Z19_0, Z19_1, Y19_0, Y19_1⟩ := cz2_ BK320.out))
   go_ret
   exact ⟨qe_, qb2_ GE319.out GE320.out HB.out⟩
def corebankref01_Less.f (a0_0 a0_1 a1_0 a1_1 : Int) : Option Bool :=
 if (inU a0_0 ∧ inU a0_1) ∧ inU a1_0 ∧ inU a1_1 then some (decide (wv a0_0 a0_1 < wv a1_0 a1_1)) else none
theorem corebankref01_Less.eq {a b c d : Int} {r : Bool} (h : corebankref01_Less.f a b c d = some r) : corebankref01_LessP.f a b c d = some r := by
 unfold corebankref01_Less.f at h
 split at h
 ·rename_i q
  obtain ⟨⟨⟨a0, a1⟩, b0, b1⟩, ⟨c0, c1⟩, d0, d1⟩ := q
  injection h with h
  subst h
  unfold corebankref01_LessP.f wv
  repeat' split
  ·congr 1; symm; apply decide_eq_true; omega
  ·congr 1; apply decide_eq_decide.mpr; omega
  ·congr 1; symm; apply decide_eq_false; omega
 ·cases h
theorem corebankref01_Less.calls (a0_0 a0_1 a1_0 a1_1 : Int) (r : Bool) (w : World) (h : corebankref01_Less.f a0_0 a0_1 a1_0 a1_1 = some r) :
  Calls Tryd.prog 79 #[.agg #[.int .u64 a0_0, .int .u64 a0_1], .agg #[.int .u64 a1_0, .int .u64 a1_1]] w fun e w' => e = .returned (.bool r) ∧ Below w.heap.size w w' := by
 have h := corebankref01_Less.eq h
 exact corebankref01_LessP.calls a0_0 a0_1 a1_0 a1_1 r w h
def corebankref01_minusP.f (a0_0 a0_1 a1_0 a1_1 : Int) : Option (Int × Int) := if a0_1 < a1_1 then (some (IntKind.u64.wrap ((IntKind.u64.wrap (a0_0 - a1_0)) - 1), IntKind.u64.wrap (a0_1 - a1_1))) else (some (IntKind.u64.wrap (a0_0 - a1_0), IntKind.u64.wrap (a0_1 - a1_1)))
set_option maxHeartbeats 8000000 in
set_option maxRecDepth 100000 in
theorem corebankref01_minusP.calls (a0_0 a0_1 a1_0 a1_1 r1 r2 : Int) (w : World) (h : corebankref01_minusP.f a0_0 a0_1 a1_0 a1_1 = some (r1, r2)) :
  Calls Tryd.prog 80 #[.agg #[.int .u64 a0_0, .int .u64 a0_1], .agg #[.int .u64 a1_0, .int .u64 a1_1]] w fun e w' => e = .returned (.agg #[.int .u64 r1, .int .u64 r2]) ∧ Below w.heap.size w w' := by
 have hu96 := Tryd.underlying96
 have HB := Aside0.mk (Below.refl w.heap.size w)
 have H : (if a0_1 < a1_1 then (some (IntKind.u64.wrap ((IntKind.u64.wrap (a0_0 - a1_0)) - 1), IntKind.u64.wrap (a0_1 - a1_1))) else (some (IntKind.u64.wrap (a0_0 - a1_0), IntKind.u64.wrap (a0_1 - a1_1)))) = some (r1, r2) := h
 clear h
 by_cases c3 : a0_1 < a1_1
 ·rw [if_pos c3] at H
  have c3b0 : decide (a0_1 < a1_1) = true := decide_eq_true c3
  clear c3
  simp only [Option.some.injEq, Prod.mk.injEq] at H
  obtain ⟨rfl, rfl⟩ := H
  go_enter Tryd.func80, Tryd.ntmps80
  go_wp2_with (first | ((with_reducible refine gate_dst (N := 2) rfl ?_); refine be_ (N := 2) (cs := #[.int .u64 a0_0, .int .u64 a0_1]) (t := 96) ?_; intro gb321 hg w4 hbox hb; have n0_ := Aside0.mk (below_step (qb_ HB.out) hb); have n1_ := Aside0.mk (hbox); have n2_ := Aside0.mk (bz_ hg (qb_ HB.out) : w.heap.size ≤ gb321); have n3_ := n2_; clear HB; have HB := n0_; have BK321 := n1_; have GW321 := n2_; have GE321 := n3_; clear n0_ n1_ n2_ n3_; clear hb hbox hg) | ((with_reducible refine gate_dst (N := 3) rfl ?_); refine be_ (N := 3) (cs := #[.int .u64 a1_0, .int .u64 a1_1]) (t := 96) ?_; intro gb322 hg w5 hbox hb; have n0_ := Aside0.mk (blk_below (qk_ BK321.out) hb); have n1_ := Aside0.mk (below_step (qb1_ GE321.out HB.out) hb); have n2_ := Aside0.mk (hbox); have n3_ := Aside0.mk (bz_ hg (qb1_ GE321.out HB.out) : w.heap.size ≤ gb322); have n4_ := n3_; have n5_ := Aside0.mk (nl_ hg (qk_ BK321.out) : gb321 ≠ gb322); have n6_ := Aside0.mk (ng_ hg (qk_ BK321.out) : gb322 ≠ gb321); clear BK321; clear HB; have BK321 := n0_; have HB := n1_; have BK322 := n2_; have GW322 := n3_; have GE322 := n4_; have NB321_322 := n5_; have NB322_321 := n6_; clear n0_ n1_ n2_ n3_ n4_ n5_ n6_; clear hb hbox hg) | ((with_reducible refine gate_dst (N := 4) rfl ?_); refine be_ (N := 4) (cs := #[.int .u64 0, .int .u64 0]) (t := 96) ?_; intro gb323 hg w6 hbox hb; have n0_ := Aside0.mk (blk_below (qk_ BK321.out) hb); have n1_ := Aside0.mk (blk_below (qk_ BK322.out) hb); have n2_ := Aside0.mk (below_step (qb2_ GE321.out GE322.out HB.out) hb); have n3_ := Aside0.mk (hbox); have n4_ := Aside0.mk (bz_ hg (qb2_ GE321.out GE322.out HB.out) : w.heap.size ≤ gb323); have n5_ := n4_; have n6_ := Aside0.mk (nl_ hg (qk_ BK321.out) : gb321 ≠ gb323); have n7_ := Aside0.mk (ng_ hg (qk_ BK321.out) : gb323 ≠ gb321); have n8_ := Aside0.mk (nl_ hg (qk_ BK322.out) : gb322 ≠ gb323); have n9_ := Aside0.mk (ng_ hg (qk_ BK322.out) : gb323 ≠ gb322); clear BK321; clear BK322; clear HB; have BK321 := n0_; have BK322 := n1_; have HB := n2_; have BK323 := n3_; have GW323 := n4_; have GE323 := n5_; have NB321_323 := n6_; have NB323_321 := n7_; have NB322_323 := n8_; have NB323_322 := n9_; clear n0_ n1_ n2_ n3_ n4_ n5_ n6_ n7_ n8_ n9_; clear hb hbox hg; have hnb7 := NB321_322.out; have hnc7 := NB322_321.out; have hnb8 := NB321_323.out; have hnc8 := NB323_321.out; obtain ⟨Z9_0, Z9_1, Y9_0, Y9_1⟩ := cz2_ BK321.out; have hnb10 := NB322_323.out; have hnc10 := NB323_322.out; obtain ⟨Z11_0, Z11_1, Y11_0, Y11_1⟩ := cz2_ BK322.out; obtain ⟨Z12_0, Z12_1, Y12_0, Y12_1⟩ := cz2_ BK323.out))
  refine bodyPost_ret (results_cell_row rfl _ _ gb323 96 #[.int .u64 (IntKind.u64.wrap ((IntKind.u64.wrap (a0_0 - a1_0)) - 1)), .int .u64 (IntKind.u64.wrap (a0_1 - a1_1))] (0, 0) _ rfl (qpp_ #[.int .u64 (IntKind.u64.wrap ((IntKind.u64.wrap (a0_0 - a1_0)) - 1)), .int .u64 0] 1 #[.int .u64 0, .int .u64 0] 0 BK323.out) Tryd.underlying96 rfl (by kernel_rfl)) rfl ?_
  exact ⟨qe_, qb3_ GE321.out GE322.out GE323.out HB.out⟩
 ·rw [if_neg c3] at H
  have c3b0 : decide (a0_1 < a1_1) = false := decide_eq_false c3
  clear c3
  simp only [Option.some.injEq, Prod.mk.injEq] at H
  obtain ⟨rfl, rfl⟩ := H
  go_enter Tryd.func80, Tryd.ntmps80
  go_wp2_with (first | ((with_reducible refine gate_dst (N := 2) rfl ?_); refine be_ (N := 2) (cs := #[.int .u64 a0_0, .int .u64 a0_1]) (t := 96) ?_; intro gb321 hg w13 hbox hb; have n0_ := Aside0.mk (below_step (qb_ HB.out) hb); have n1_ := Aside0.mk (hbox); have n2_ := Aside0.mk (bz_ hg (qb_ HB.out) : w.heap.size ≤ gb321); have n3_ := n2_; clear HB; have HB := n0_; have BK321 := n1_; have GW321 := n2_; have GE321 := n3_; clear n0_ n1_ n2_ n3_; clear hb hbox hg) | ((with_reducible refine gate_dst (N := 3) rfl ?_); refine be_ (N := 3) (cs := #[.int .u64 a1_0, .int .u64 a1_1]) (t := 96) ?_; intro gb322 hg w14 hbox hb; have n0_ := Aside0.mk (blk_below (qk_ BK321.out) hb); have n1_ := Aside0.mk (below_step (qb1_ GE321.out HB.out) hb); have n2_ := Aside0.mk (hbox); have n3_ := Aside0.mk (bz_ hg (qb1_ GE321.out HB.out) : w.heap.size ≤ gb322); have n4_ := n3_; have n5_ := Aside0.mk (nl_ hg (qk_ BK321.out) : gb321 ≠ gb322); have n6_ := Aside0.mk (ng_ hg (qk_ BK321.out) : gb322 ≠ gb321); clear BK321; clear HB; have BK321 := n0_; have HB := n1_; have BK322 := n2_; have GW322 := n3_; have GE322 := n4_; have NB321_322 := n5_; have NB322_321 := n6_; clear n0_ n1_ n2_ n3_ n4_ n5_ n6_; clear hb hbox hg) | ((with_reducible refine gate_dst (N := 4) rfl ?_); refine be_ (N := 4) (cs := #[.int .u64 0, .int .u64 0]) (t := 96) ?_; intro gb323 hg w15 hbox hb; have n0_ := Aside0.mk (blk_below (qk_ BK321.out) hb); have n1_ := Aside0.mk (blk_below (qk_ BK322.out) hb); have n2_ := Aside0.mk (below_step (qb2_ GE321.out GE322.out HB.out) hb); have n3_ := Aside0.mk (hbox); have n4_ := Aside0.mk (bz_ hg (qb2_ GE321.out GE322.out HB.out) : w.heap.size ≤ gb323); have n5_ := n4_; have n6_ := Aside0.mk (nl_ hg (qk_ BK321.out) : gb321 ≠ gb323); have n7_ := Aside0.mk (ng_ hg (qk_ BK321.out) : gb323 ≠ gb321); have n8_ := Aside0.mk (nl_ hg (qk_ BK322.out) : gb322 ≠ gb323); have n9_ := Aside0.mk (ng_ hg (qk_ BK322.out) : gb323 ≠ gb322); clear BK321; clear BK322; clear HB; have BK321 := n0_; have BK322 := n1_; have HB := n2_; have BK323 := n3_; have GW323 := n4_; have GE323 := n5_; have NB321_323 := n6_; have NB323_321 := n7_; have NB322_323 := n8_; have NB323_322 := n9_; clear n0_ n1_ n2_ n3_ n4_ n5_ n6_ n7_ n8_ n9_; clear hb hbox hg; have hnb16 := NB321_322.out; have hnc16 := NB322_321.out; have hnb17 := NB321_323.out; have hnc17 := NB323_321.out; obtain ⟨Z18_0, Z18_1, Y18_0, Y18_1⟩ := cz2_ BK321.out; have hnb19 := NB322_323.out; have hnc19 := NB323_322.out; obtain ⟨Z20_0, Z20_1, Y20_0, Y20_1⟩ := cz2_ BK322.out; obtain ⟨Z21_0, Z21_1, Y21_0, Y21_1⟩ := cz2_ BK323.out))
  refine bodyPost_ret (results_cell_row rfl _ _ gb323 96 #[.int .u64 (IntKind.u64.wrap (a0_0 - a1_0)), .int .u64 (IntKind.u64.wrap (a0_1 - a1_1))] (0, 0) _ rfl (qpp_ #[.int .u64 (IntKind.u64.wrap (a0_0 - a1_0)), .int .u64 0] 1 #[.int .u64 0, .int .u64 0] 0 BK323.out) Tryd.underlying96 rfl (by kernel_rfl)) rfl ?_
  exact ⟨qe_, qb3_ GE321.out GE322.out GE323.out HB.out⟩
def corebankref01_minus.f (a0_0 a0_1 a1_0 a1_1 : Int) : Option (Int × Int) :=
 if ((inU a0_0 ∧ inU a0_1) ∧ inU a1_0 ∧ inU a1_1) ∧ wv a1_0 a1_1 ≤ wv a0_0 a0_1 then some ((wv a0_0 a0_1 - wv a1_0 a1_1) / 18446744073709551616, (wv a0_0 a0_1 - wv a1_0 a1_1) % 18446744073709551616) else none
theorem corebankref01_minus.eq {a b c d : Int} {r : Int × Int} (h : corebankref01_minus.f a b c d = some r) : corebankref01_minusP.f a b c d = some r := by
 unfold corebankref01_minus.f at h
 split at h
 ·rename_i q
  obtain ⟨⟨⟨⟨a0, a1⟩, b0, b1⟩, ⟨c0, c1⟩, d0, d1⟩, hle⟩ := q
  injection h with h
  subst h
  unfold corebankref01_minusP.f
  unfold wv at *
  simp only [IntKind.wrap_u64]
  split <;> (congr 2 <;> omega)
 ·cases h
theorem corebankref01_minus.calls (a0_0 a0_1 a1_0 a1_1 r1 r2 : Int) (w : World) (h : corebankref01_minus.f a0_0 a0_1 a1_0 a1_1 = some (r1, r2)) :
  Calls Tryd.prog 80 #[.agg #[.int .u64 a0_0, .int .u64 a0_1], .agg #[.int .u64 a1_0, .int .u64 a1_1]] w fun e w' => e = .returned (.agg #[.int .u64 r1, .int .u64 r2]) ∧ Below w.heap.size w w' := by
 have h := corebankref01_minus.eq h
 exact corebankref01_minusP.calls a0_0 a0_1 a1_0 a1_1 r1 r2 w h
mutual
def corebankref01_sumP.j0 : Nat → Bool → Bool → Int → Int → Option (Int × Int × Int)
 | 0, _, _, _, _ => none
 | k + 1, x10, x12, x328000, x328001 => (corebankref01_Join.f x10 x328000 x328001).bind fun bt336 => (if x12 = true then (corebankref01_sumP.j1 k (!bt336.2.2) bt336.1 bt336.2.1) else (corebankref01_sumP.j1 k true bt336.1 bt336.2.1))
def corebankref01_sumP.j1 : Nat → Bool → Int → Int → Option (Int × Int × Int)
 | 0, _, _, _ => none
 | k + 1, x49, x340000, x340001 => if x49 = true then (some (0, 0, 6)) else (some (x340000, x340001, 0))
end
def corebankref01_sumP.f (k : Nat) (a0 : Bool) (a1_0 a1_1 : Int) (a2 : Bool) (a3_0 a3_1 : Int) : Option (Int × Int × Int) := if (a0 == a2) = true then ((corebankref01_plus.f a1_0 a1_1 a3_0 a3_1).bind fun bt328 => (corebankref01_sumP.j0 k a0 bt328.2.2 bt328.1 bt328.2.1)) else ((corebankref01_Less.f a1_0 a1_1 a3_0 a3_1).bind fun t331 => (if t331 = true then ((corebankref01_minus.f a3_0 a3_1 a1_0 a1_1).bind fun bt332 => (corebankref01_sumP.j0 k a2 true bt332.1 bt332.2)) else ((corebankref01_minus.f a1_0 a1_1 a3_0 a3_1).bind fun bt334 => (corebankref01_sumP.j0 k a0 true bt334.1 bt334.2))))
set_option maxHeartbeats 8000000 in
set_option maxRecDepth 100000 in
theorem corebankref01_sumP.calls (k : Nat) (a0 : Bool) (a1_0 a1_1 : Int) (a2 : Bool) (a3_0 a3_1 r1 r2 r3 : Int) (w : World) (h : corebankref01_sumP.f k a0 a1_0 a1_1 a2 a3_0 a3_1 = some (r1, r2, r3)) :
  Calls Tryd.prog 74 #[.bool a0, .agg #[.int .u64 a1_0, .int .u64 a1_1], .bool a2, .agg #[.int .u64 a3_0, .int .u64 a3_1]] w fun e w' => e = .returned (.tuple #[.agg #[.int .i64 r1, .int .u64 r2], .int .i64 r3]) ∧ Below w.heap.size w w' := by
 have hu96 := Tryd.underlying96
 have hu63 := Tryd.underlying63
 have HB := Aside0.mk (Below.refl w.heap.size w)
 have H : (if (a0 == a2) = true then ((corebankref01_plus.f a1_0 a1_1 a3_0 a3_1).bind fun bt328 => (corebankref01_sumP.j0 k a0 bt328.2.2 bt328.1 bt328.2.1)) else ((corebankref01_Less.f a1_0 a1_1 a3_0 a3_1).bind fun t331 => (if t331 = true then ((corebankref01_minus.f a3_0 a3_1 a1_0 a1_1).bind fun bt332 => (corebankref01_sumP.j0 k a2 true bt332.1 bt332.2)) else ((corebankref01_minus.f a1_0 a1_1 a3_0 a3_1).bind fun bt334 => (corebankref01_sumP.j0 k a0 true bt334.1 bt334.2))))) = some (r1, r2, r3) := h
 clear h
 have HC5 := Aside0.mk H
 clear H
 go_enter Tryd.func74, Tryd.ntmps74
 try go_wp2_with (first | ((with_reducible refine gate_dst (N := 5) rfl ?_); refine be_ (N := 5) (cs := #[.int .u64 a1_0, .int .u64 a1_1]) (t := 96) ?_; intro gb324 hg w6 hbox hb; have n0_ := Aside0.mk (below_step (qb_ HB.out) hb); have n1_ := Aside0.mk (hbox); have n2_ := Aside0.mk (bz_ hg (qb_ HB.out) : w.heap.size ≤ gb324); have n3_ := n2_; clear HB; have HB := n0_; have BK324 := n1_; have GW324 := n2_; have GE324 := n3_; clear n0_ n1_ n2_ n3_; clear hb hbox hg) | ((with_reducible refine gate_dst (N := 7) rfl ?_); refine be_ (N := 7) (cs := #[.int .u64 a3_0, .int .u64 a3_1]) (t := 96) ?_; intro gb325 hg w7 hbox hb; have n0_ := Aside0.mk (blk_below (qk_ BK324.out) hb); have n1_ := Aside0.mk (below_step (qb1_ GE324.out HB.out) hb); have n2_ := Aside0.mk (hbox); have n3_ := Aside0.mk (bz_ hg (qb1_ GE324.out HB.out) : w.heap.size ≤ gb325); have n4_ := n3_; have n5_ := Aside0.mk (nl_ hg (qk_ BK324.out) : gb324 ≠ gb325); have n6_ := Aside0.mk (ng_ hg (qk_ BK324.out) : gb325 ≠ gb324); clear BK324; clear HB; have BK324 := n0_; have HB := n1_; have BK325 := n2_; have GW325 := n3_; have GE325 := n4_; have NB324_325 := n5_; have NB325_324 := n6_; clear n0_ n1_ n2_ n3_ n4_ n5_ n6_; clear hb hbox hg) | ((with_reducible refine gate_dst (N := 8) rfl ?_); refine be_ (N := 8) (cs := #[.int .i64 0, .int .u64 0]) (t := 63) ?_; intro gb326 hg w8 hbox hb; have n0_ := Aside0.mk (blk_below (qk_ BK324.out) hb); have n1_ := Aside0.mk (blk_below (qk_ BK325.out) hb); have n2_ := Aside0.mk (below_step (qb2_ GE324.out GE325.out HB.out) hb); have n3_ := Aside0.mk (hbox); have n4_ := Aside0.mk (bz_ hg (qb2_ GE324.out GE325.out HB.out) : w.heap.size ≤ gb326); have n5_ := n4_; have n6_ := Aside0.mk (nl_ hg (qk_ BK324.out) : gb324 ≠ gb326); have n7_ := Aside0.mk (ng_ hg (qk_ BK324.out) : gb326 ≠ gb324); have n8_ := Aside0.mk (nl_ hg (qk_ BK325.out) : gb325 ≠ gb326); have n9_ := Aside0.mk (ng_ hg (qk_ BK325.out) : gb326 ≠ gb325); clear BK324; clear BK325; clear HB; have BK324 := n0_; have BK325 := n1_; have HB := n2_; have BK326 := n3_; have GW326 := n4_; have GE326 := n5_; have NB324_326 := n6_; have NB326_324 := n7_; have NB325_326 := n8_; have NB326_325 := n9_; clear n0_ n1_ n2_ n3_ n4_ n5_ n6_ n7_ n8_ n9_; clear hb hbox hg))
 have n0_ := Aside0.mk (blk_drew BK324.out)
 have n1_ := Aside0.mk (blk_drew BK325.out)
 have n2_ := Aside0.mk (blk_drew BK326.out)
 have n3_ := Aside0.mk (below_drew1 HB.out)
 clear BK324
 clear BK325
 clear BK326
 clear HB
 have BK324 := n0_
 have BK325 := n1_
 have BK326 := n2_
 have HB := n3_
 clear n0_ n1_ n2_ n3_
 refine start_ (n := 6) (S := cS2_ gb324 (.int .u64 a1_0) (.int .u64 a1_1)) (ds := []) (nb_ 6 0) (by kernel_rfl) rfl rfl (cc2_ BK324.out) (fun hHeld => ?_)
 generalize w8.drew = w9 at BK324 BK325 BK326 HB hHeld ⊢
 refine pure_ (i := 0) (N := some 15) (v := ?_) (a' := ?_) (nb_ 6 1) rfl rfl (by kernel_rfl) (fun _ _ _ h => h) (Or.inl ⟨by rfl, ?_⟩) ?_ ?_
 rotate_left
 ·intro w'
  go_simp
  with_reducible rfl
 rotate_left
 ·simp only [Act.put, List.setIfInBounds_toArray, List.set_cons_zero, List.set_cons_succ, i64_w, i32_w]
  rfl
 refine take_ (i := 1) (N := some 16) (v := ?_) (a' := ?_) (nb_ 6 3) rfl rfl (by kernel_rfl) (fun _ _ _ h => h) (Or.inl ⟨by rfl, ?_⟩) hHeld ?_ ?_
 rotate_left
 ·rintro w' ⟨s0, s1⟩
  go_simp
  with_reducible rfl
 rotate_left
 ·simp only [Act.put, List.setIfInBounds_toArray, List.set_cons_zero, List.set_cons_succ, i64_w, i32_w]
  rfl
 refine one_ (i := 2) (N := some 11) (nb_ 6 7) rfl rfl (by kernel_rfl) (by decide) (fun K hK => ?_)
 refine box_step ?hg (N := 11) ?hd (cs := #[.int .u64 0, .int .u64 0]) (t := 96) ?hr ?_; (case hd => rfl); (case hg => rfl); (case hr => first | (go_simp; done) | (go_simp; rfl))
 intro gb327 hg w10 hbox hb
 have n0_ := Aside0.mk (blk_below (qk_ BK324.out) hb)
 have n1_ := Aside0.mk (blk_below (qk_ BK325.out) hb)
 have n2_ := Aside0.mk (blk_below (qk_ BK326.out) hb)
 have n3_ := Aside0.mk (below_step (qb3_ GE324.out GE325.out GE326.out HB.out) hb)
 have n4_ := Aside0.mk (hbox)
 have n5_ := Aside0.mk (bz_ hg (qb3_ GE324.out GE325.out GE326.out HB.out) : w.heap.size ≤ gb327)
 have n6_ := Aside0.mk (bz_ hg (qb3_ GE324.out GE325.out GE326.out HB.out) : w.heap.size ≤ gb327)
 have n7_ := Aside0.mk (nl_ hg (qk_ BK324.out) : gb324 ≠ gb327)
 have n8_ := Aside0.mk (ng_ hg (qk_ BK324.out) : gb327 ≠ gb324)
 have n9_ := Aside0.mk (nl_ hg (qk_ BK325.out) : gb325 ≠ gb327)
 have n10_ := Aside0.mk (ng_ hg (qk_ BK325.out) : gb327 ≠ gb325)
 have n11_ := Aside0.mk (nl_ hg (qk_ BK326.out) : gb326 ≠ gb327)
 have n12_ := Aside0.mk (ng_ hg (qk_ BK326.out) : gb327 ≠ gb326)
 clear BK324
 clear BK325
 clear BK326
 clear HB
 have BK324 := n0_
 have BK325 := n1_
 have BK326 := n2_
 have HB := n3_
 have BK327 := n4_
 have GW327 := n5_
 have GE327 := n6_
 have NB324_327 := n7_
 have NB327_324 := n8_
 have NB325_327 := n9_
 have NB327_325 := n10_
 have NB326_327 := n11_
 have NB327_326 := n12_
 clear n0_ n1_ n2_ n3_ n4_ n5_ n6_ n7_ n8_ n9_ n10_ n11_ n12_
 clear hb hbox hg
 refine hK.out _ _ (cc2_ BK324.out) (fun hHeld => ?_)
 clear hK K
 refine no_ ?_
 refine pure_ (i := 3) (N := some 10) (v := ?_) (a' := ?_) (nb_ 6 15) rfl rfl (by kernel_rfl) (fun _ _ _ h => h) (Or.inl ⟨by rfl, ?_⟩) ?_ ?_
 rotate_left
 ·intro w'
  go_simp
  with_reducible rfl
 rotate_left
 ·simp only [Act.put, List.setIfInBounds_toArray, List.set_cons_zero, List.set_cons_succ, i64_w, i32_w]
  rfl
 refine one_ (i := 4) (N := none) (nb_ 6 31) rfl rfl (by kernel_rfl) (by decide) (fun K hK => ?_)
 have hs11 : w10.cell? ⟨gb327, 0, none⟩ = some (.int .u64 0) := (blk_cell BK327.out 0).trans rfl
 have hfs11 := blk_frozen BK327.out 0
 have hns11_0 := NB324_327.out
 have hns11_1 := NB325_327.out
 have hns11_2 := NB326_327.out
 have hms11_0 := NB327_324.out
 have hms11_1 := NB327_325.out
 have hms11_2 := NB327_326.out
 have hs12 : w10.cell? ⟨gb327, 1, none⟩ = some (.int .u64 0) := (blk_cell BK327.out 1).trans rfl
 have hfs12 := blk_frozen BK327.out 1
 have hns12_0 := NB324_327.out
 have hns12_1 := NB325_327.out
 have hns12_2 := NB326_327.out
 have hms12_0 := NB327_324.out
 have hms12_1 := NB327_325.out
 have hms12_2 := NB327_326.out
 refine skip_ (w1 := ?_) (by rfl) rfl ?_ ?_
 rotate_left
 ·go_simp
  rfl
 refine hK.out _ _ ⟨((cell_far (p := ⟨gb327, _, none⟩) NB324_327.out _).trans (((cell_far (p := ⟨gb327, _, none⟩) NB324_327.out _).trans (hHeld.1)))), ((cell_far (p := ⟨gb327, _, none⟩) NB324_327.out _).trans (((cell_far (p := ⟨gb327, _, none⟩) NB324_327.out _).trans (hHeld.2))))⟩ (fun hHeld => ?_)
 clear hK K
 refine pure_ (i := 5) (N := some 12) (v := ?_) (a' := ?_) (nb_ 6 63) rfl rfl (by kernel_rfl) (fun _ _ _ h => h) (Or.inl ⟨by rfl, ?_⟩) ?_ ?_
 rotate_left
 ·intro w'
  go_simp
  with_reducible rfl
 rotate_left
 ·simp only [Act.put, List.setIfInBounds_toArray, List.set_cons_zero, List.set_cons_succ, i64_w, i32_w]
  rfl
 refine done_ (by kernel_rfl) ?_
 go_upto_block 0 with (fail)
 go_cut [10, 12] (fun v10 v12 wc => ∃ (kq : Nat) (x10_4 x12_4 : Bool) (x328000_4 x328001_4 : Int), v10 = .bool x10_4 ∧ v12 = .bool x12_4 ∧ Aside0 (corebankref01_sumP.j0 kq x10_4 x12_4 x328000_4 x328001_4 = some (r1, r2, r3)) ∧ Aside0 (kq ≤ k) ∧ Aside0 (wc.heap[gb324]? = some (.cells #[.int .u64 a1_0, .int .u64 a1_1] 96 (0, 0))) ∧ Aside0 (wc.heap[gb325]? = some (.cells #[.int .u64 a3_0, .int .u64 a3_1] 96 (0, 0))) ∧ Aside0 (wc.heap[gb326]? = some (.cells #[.int .i64 0, .int .u64 0] 63 (0, 0))) ∧ Aside0 (wc.heap[gb327]? = some (.cells #[.int .u64 x328000_4, .int .u64 x328001_4] 96 (0, 0))) ∧ Aside0 (Below w.heap.size w wc))
 case first =>
  have H := HC5.out
  clear HC5
  by_cases c13 : (a0 == a2) = true
  ·rw [if_pos c13] at H
   have c13b0 : (a0 == a2) = true := c13
   (try (have c13b1 : decide (a0 = a2) = true := by simpa using c13))
   (try (have c13b2 : (a0 == a2) = true := by simpa using c13))
   clear c13
   (first | rw [c13b0] | (simp only [i64_w, i32_w]; rw [c13b0]) | skip)
   replace H := Option.bind_eq_some_iff.mp H
   obtain ⟨⟨t328, t329, t330⟩, A140, H⟩ := H
   replace H : (corebankref01_sumP.j0 k a0 t330 t328 t329) = some (r1, r2, r3) := H
   have A14 := Aside0.mk A140
   clear A140
   have H' := Aside0.mk H
   clear H
   have hnb15 := NB324_325.out
   have hnc15 := NB325_324.out
   have hnb16 := NB324_326.out
   have hnc16 := NB326_324.out
   have hnb17 := NB324_327.out
   have hnc17 := NB327_324.out
   obtain ⟨Z18_0, Z18_1, Y18_0, Y18_1⟩ := cz2_ BK324.out
   have hnb19 := NB325_326.out
   have hnc19 := NB326_325.out
   have hnb20 := NB325_327.out
   have hnc20 := NB327_325.out
   obtain ⟨Z21_0, Z21_1, Y21_0, Y21_1⟩ := cz2_ BK325.out
   go_wp2_with (first | ((with_reducible refine gate_callee (f := 72) rfl ?_); refine goesL_ (some 27) rfl rfl Tryd.func72 (by kernel_rfl) rfl #[.agg #[.int .u64 a1_0, .int .u64 a1_1], .agg #[.int .u64 a3_0, .int .u64 a3_1]] rfl ql_ ?_; (with_reducible refine (corebankref01_plus.calls a1_0 a1_1 a3_0 a3_1 t328 t329 t330 _ A14.out).mono ?_); rintro e w22 ⟨rfl, hb⟩; refine ⟨_, rfl, ?_⟩; have n0_ := Aside0.mk (blk_below (g := gb324) (o := .cells #[.int .u64 a1_0, .int .u64 a1_1] 96 (0, 0)) (qff_ NB324_327.out NB324_327.out BK324.out) hb); have n1_ := Aside0.mk (blk_below (g := gb325) (o := .cells #[.int .u64 a3_0, .int .u64 a3_1] 96 (0, 0)) (qff_ NB325_327.out NB325_327.out BK325.out) hb); have n2_ := Aside0.mk (blk_below (g := gb326) (o := .cells #[.int .i64 0, .int .u64 0] 63 (0, 0)) (qff_ NB326_327.out NB326_327.out BK326.out) hb); have n3_ := Aside0.mk (blk_below (g := gb327) (o := .cells #[.int .u64 a1_0, .int .u64 a1_1] 96 (0, 0)) (qpp_ #[.int .u64 a1_0, .int .u64 0] 1 #[.int .u64 0, .int .u64 0] 0 BK327.out) hb); have n4_ := Aside0.mk (below_step (qb4_ GE324.out GE325.out GE326.out GE327.out HB.out) hb); clear BK324; clear BK325; clear BK326; clear BK327; clear HB; have BK324 := n0_; have BK325 := n1_; have BK326 := n2_; have BK327 := n3_; have HB := n4_; clear n0_ n1_ n2_ n3_ n4_; (try clear hb); (try clear hb2); (try clear hk); (try clear hi); have hnb23 := NB327_326.out; have hnc23 := NB326_327.out; obtain ⟨Z24_0, Z24_1, Y24_0, Y24_1⟩ := cz2_ BK327.out))
   go_meet
   case rel => exact ⟨_, (a0), (t330), (t328), (t329), qs_, qs_, H', ⟨qo_⟩, ⟨qff_ NB324_327.out NB324_327.out BK324.out⟩, ⟨qff_ NB325_327.out NB325_327.out BK325.out⟩, ⟨qff_ NB326_327.out NB326_327.out BK326.out⟩, ⟨qpp_ #[.int .u64 t328, .int .u64 a1_1] 1 #[.int .u64 a1_0, .int .u64 a1_1] 0 BK327.out⟩, ⟨qb4_ GE324.out GE325.out GE326.out GE327.out HB.out⟩⟩
  ·rw [if_neg c13] at H
   have c13b0 : (a0 == a2) = false := by simpa using c13
   (try (have c13b1 : decide (a0 = a2) = false := by simpa using c13))
   (try (have c13b2 : (a0 == a2) = false := by simpa using c13))
   (try (have c13b3 : ¬ (a0 = a2) := by simpa using c13))
   clear c13
   (first | rw [c13b0] | (simp only [i64_w, i32_w]; rw [c13b0]) | skip)
   replace H := Option.bind_eq_some_iff.mp H
   obtain ⟨t331, A250, H⟩ := H
   replace H : (if t331 = true then ((corebankref01_minus.f a3_0 a3_1 a1_0 a1_1).bind fun bt332 => (corebankref01_sumP.j0 k a2 true bt332.1 bt332.2)) else ((corebankref01_minus.f a1_0 a1_1 a3_0 a3_1).bind fun bt334 => (corebankref01_sumP.j0 k a0 true bt334.1 bt334.2))) = some (r1, r2, r3) := H
   have A25 := Aside0.mk A250
   clear A250
   by_cases c26 : t331 = true
   ·subst c26
    have H1 : ((corebankref01_minus.f a3_0 a3_1 a1_0 a1_1).bind fun bt332 => (corebankref01_sumP.j0 k a2 true bt332.1 bt332.2)) = some (r1, r2, r3) := by rw [if_pos rfl] at H; exact H
    clear H
    have H := H1
    clear H1
    replace H := Option.bind_eq_some_iff.mp H
    obtain ⟨⟨t332, t333⟩, A270, H⟩ := H
    replace H : (corebankref01_sumP.j0 k a2 true t332 t333) = some (r1, r2, r3) := H
    have A27 := Aside0.mk A270
    clear A270
    have H' := Aside0.mk H
    clear H
    have hnb28 := NB324_325.out
    have hnc28 := NB325_324.out
    have hnb29 := NB324_326.out
    have hnc29 := NB326_324.out
    have hnb30 := NB324_327.out
    have hnc30 := NB327_324.out
    obtain ⟨Z31_0, Z31_1, Y31_0, Y31_1⟩ := cz2_ BK324.out
    have hnb32 := NB325_326.out
    have hnc32 := NB326_325.out
    have hnb33 := NB325_327.out
    have hnc33 := NB327_325.out
    obtain ⟨Z34_0, Z34_1, Y34_0, Y34_1⟩ := cz2_ BK325.out
    go_wp2_with (first | ((with_reducible refine gate_callee (f := 79) rfl ?_); refine goesL_ (some 33) rfl rfl Tryd.func79 (by kernel_rfl) rfl #[.agg #[.int .u64 a1_0, .int .u64 a1_1], .agg #[.int .u64 a3_0, .int .u64 a3_1]] rfl ql_ ?_; (with_reducible refine (corebankref01_Less.calls a1_0 a1_1 a3_0 a3_1 true _ A25.out).mono ?_); rintro e w35 ⟨rfl, hb⟩; refine ⟨_, rfl, ?_⟩; have n0_ := Aside0.mk (blk_below (g := gb324) (o := .cells #[.int .u64 a1_0, .int .u64 a1_1] 96 (0, 0)) (qff_ NB324_327.out NB324_327.out BK324.out) hb); have n1_ := Aside0.mk (blk_below (g := gb325) (o := .cells #[.int .u64 a3_0, .int .u64 a3_1] 96 (0, 0)) (qff_ NB325_327.out NB325_327.out BK325.out) hb); have n2_ := Aside0.mk (blk_below (g := gb326) (o := .cells #[.int .i64 0, .int .u64 0] 63 (0, 0)) (qff_ NB326_327.out NB326_327.out BK326.out) hb); have n3_ := Aside0.mk (blk_below (g := gb327) (o := .cells #[.int .u64 a1_0, .int .u64 a1_1] 96 (0, 0)) (qpp_ #[.int .u64 a1_0, .int .u64 0] 1 #[.int .u64 0, .int .u64 0] 0 BK327.out) hb); have n4_ := Aside0.mk (below_step (qb4_ GE324.out GE325.out GE326.out GE327.out HB.out) hb); clear BK324; clear BK325; clear BK326; clear BK327; clear HB; have BK324 := n0_; have BK325 := n1_; have BK326 := n2_; have BK327 := n3_; have HB := n4_; clear n0_ n1_ n2_ n3_ n4_; (try clear hb); (try clear hb2); (try clear hk); (try clear hi); obtain ⟨Z36_0, Z36_1, Y36_0, Y36_1⟩ := cz2_ BK325.out; obtain ⟨Z37_0, Z37_1, Y37_0, Y37_1⟩ := cz2_ BK324.out) | ((with_reducible refine gate_callee (f := 80) rfl ?_); refine goesL_ (some 37) rfl rfl Tryd.func80 (by kernel_rfl) rfl #[.agg #[.int .u64 a3_0, .int .u64 a3_1], .agg #[.int .u64 a1_0, .int .u64 a1_1]] rfl ql_ ?_; (with_reducible refine (corebankref01_minus.calls a3_0 a3_1 a1_0 a1_1 t332 t333 _ A27.out).mono ?_); rintro e w38 ⟨rfl, hb⟩; refine ⟨_, rfl, ?_⟩; have n0_ := Aside0.mk (blk_below (qk_ BK324.out) hb); have n1_ := Aside0.mk (blk_below (qk_ BK325.out) hb); have n2_ := Aside0.mk (blk_below (qk_ BK326.out) hb); have n3_ := Aside0.mk (blk_below (qk_ BK327.out) hb); have n4_ := Aside0.mk (below_step (qb4_ GE324.out GE325.out GE326.out GE327.out HB.out) hb); clear BK324; clear BK325; clear BK326; clear BK327; clear HB; have BK324 := n0_; have BK325 := n1_; have BK326 := n2_; have BK327 := n3_; have HB := n4_; clear n0_ n1_ n2_ n3_ n4_; (try clear hb); (try clear hb2); (try clear hk); (try clear hi); have hnb39 := NB327_326.out; have hnc39 := NB326_327.out; obtain ⟨Z40_0, Z40_1, Y40_0, Y40_1⟩ := cz2_ BK327.out))
    go_meet
    case rel => exact ⟨_, (a2), (true), (t332), (t333), qs_, qs_, H', ⟨qo_⟩, ⟨qff_ NB324_327.out NB324_327.out BK324.out⟩, ⟨qff_ NB325_327.out NB325_327.out BK325.out⟩, ⟨qff_ NB326_327.out NB326_327.out BK326.out⟩, ⟨qpp_ #[.int .u64 t332, .int .u64 a1_1] 1 #[.int .u64 a1_0, .int .u64 a1_1] 0 BK327.out⟩, ⟨qb4_ GE324.out GE325.out GE326.out GE327.out HB.out⟩⟩
   ·replace c26 := Bool.eq_false_iff.mpr c26
    subst c26
    have H1 : ((corebankref01_minus.f a1_0 a1_1 a3_0 a3_1).bind fun bt334 => (corebankref01_sumP.j0 k a0 true bt334.1 bt334.2)) = some (r1, r2, r3) := by rw [if_neg (show ¬ (false = true) by decide)] at H; exact H
    clear H
    have H := H1
    clear H1
    replace H := Option.bind_eq_some_iff.mp H
    obtain ⟨⟨t334, t335⟩, A410, H⟩ := H
    replace H : (corebankref01_sumP.j0 k a0 true t334 t335) = some (r1, r2, r3) := H
    have A41 := Aside0.mk A410
    clear A410
    have H' := Aside0.mk H
    clear H
    have hnb42 := NB324_325.out
    have hnc42 := NB325_324.out
    have hnb43 := NB324_326.out
    have hnc43 := NB326_324.out
    have hnb44 := NB324_327.out
    have hnc44 := NB327_324.out
    obtain ⟨Z45_0, Z45_1, Y45_0, Y45_1⟩ := cz2_ BK324.out
    have hnb46 := NB325_326.out
    have hnc46 := NB326_325.out
    have hnb47 := NB325_327.out
    have hnc47 := NB327_325.out
    obtain ⟨Z48_0, Z48_1, Y48_0, Y48_1⟩ := cz2_ BK325.out
    go_wp2_with (first | ((with_reducible refine gate_callee (f := 79) rfl ?_); refine goesL_ (some 33) rfl rfl Tryd.func79 (by kernel_rfl) rfl #[.agg #[.int .u64 a1_0, .int .u64 a1_1], .agg #[.int .u64 a3_0, .int .u64 a3_1]] rfl ql_ ?_; (with_reducible refine (corebankref01_Less.calls a1_0 a1_1 a3_0 a3_1 false _ A25.out).mono ?_); rintro e w49 ⟨rfl, hb⟩; refine ⟨_, rfl, ?_⟩; have n0_ := Aside0.mk (blk_below (g := gb324) (o := .cells #[.int .u64 a1_0, .int .u64 a1_1] 96 (0, 0)) (qff_ NB324_327.out NB324_327.out BK324.out) hb); have n1_ := Aside0.mk (blk_below (g := gb325) (o := .cells #[.int .u64 a3_0, .int .u64 a3_1] 96 (0, 0)) (qff_ NB325_327.out NB325_327.out BK325.out) hb); have n2_ := Aside0.mk (blk_below (g := gb326) (o := .cells #[.int .i64 0, .int .u64 0] 63 (0, 0)) (qff_ NB326_327.out NB326_327.out BK326.out) hb); have n3_ := Aside0.mk (blk_below (g := gb327) (o := .cells #[.int .u64 a1_0, .int .u64 a1_1] 96 (0, 0)) (qpp_ #[.int .u64 a1_0, .int .u64 0] 1 #[.int .u64 0, .int .u64 0] 0 BK327.out) hb); have n4_ := Aside0.mk (below_step (qb4_ GE324.out GE325.out GE326.out GE327.out HB.out) hb); clear BK324; clear BK325; clear BK326; clear BK327; clear HB; have BK324 := n0_; have BK325 := n1_; have BK326 := n2_; have BK327 := n3_; have HB := n4_; clear n0_ n1_ n2_ n3_ n4_; (try clear hb); (try clear hb2); (try clear hk); (try clear hi); obtain ⟨Z50_0, Z50_1, Y50_0, Y50_1⟩ := cz2_ BK324.out; obtain ⟨Z51_0, Z51_1, Y51_0, Y51_1⟩ := cz2_ BK325.out) | ((with_reducible refine gate_callee (f := 80) rfl ?_); refine goesL_ (some 19) rfl rfl Tryd.func80 (by kernel_rfl) rfl #[.agg #[.int .u64 a1_0, .int .u64 a1_1], .agg #[.int .u64 a3_0, .int .u64 a3_1]] rfl ql_ ?_; (with_reducible refine (corebankref01_minus.calls a1_0 a1_1 a3_0 a3_1 t334 t335 _ A41.out).mono ?_); rintro e w52 ⟨rfl, hb⟩; refine ⟨_, rfl, ?_⟩; have n0_ := Aside0.mk (blk_below (qk_ BK324.out) hb); have n1_ := Aside0.mk (blk_below (qk_ BK325.out) hb); have n2_ := Aside0.mk (blk_below (qk_ BK326.out) hb); have n3_ := Aside0.mk (blk_below (qk_ BK327.out) hb); have n4_ := Aside0.mk (below_step (qb4_ GE324.out GE325.out GE326.out GE327.out HB.out) hb); clear BK324; clear BK325; clear BK326; clear BK327; clear HB; have BK324 := n0_; have BK325 := n1_; have BK326 := n2_; have BK327 := n3_; have HB := n4_; clear n0_ n1_ n2_ n3_ n4_; (try clear hb); (try clear hb2); (try clear hk); (try clear hi); have hnb53 := NB327_326.out; have hnc53 := NB326_327.out; obtain ⟨Z54_0, Z54_1, Y54_0, Y54_1⟩ := cz2_ BK327.out))
    go_meet
    case rel => exact ⟨_, (a0), (true), (t334), (t335), qs_, qs_, H', ⟨qo_⟩, ⟨qff_ NB324_327.out NB324_327.out BK324.out⟩, ⟨qff_ NB325_327.out NB325_327.out BK325.out⟩, ⟨qff_ NB326_327.out NB326_327.out BK326.out⟩, ⟨qpp_ #[.int .u64 t334, .int .u64 a1_1] 1 #[.int .u64 a1_0, .int .u64 a1_1] 0 BK327.out⟩, ⟨qb4_ GE324.out GE325.out GE326.out GE327.out HB.out⟩⟩
 case rest =>
  clear HC5
  try clear c1
  try clear c2
  try clear p2
  try clear c3
  try clear c4
  try clear c5
  try clear c7
  try clear c8
  try clear c13
  try clear c13b0
  try clear c13b1
  try clear c13b2
  try clear c15
  try clear c16
  try clear c17
  try clear c19
  try clear c20
  try clear c23
  try clear c26
  try clear c28
  try clear c29
  try clear c30
  try clear c32
  try clear c33
  try clear c39
  try clear c42
  try clear c43
  try clear c44
  try clear c46
  try clear c47
  try clear c53
  (try clear Z18_0 Z18_1 Y18_0 Y18_1)
  (try clear Z21_0 Z21_1 Y21_0 Y21_1)
  (try clear Z24_0 Z24_1 Y24_0 Y24_1)
  (try clear Z31_0 Z31_1 Y31_0 Y31_1)
  (try clear Z34_0 Z34_1 Y34_0 Y34_1)
  (try clear Z36_0 Z36_1 Y36_0 Y36_1)
  (try clear Z37_0 Z37_1 Y37_0 Y37_1)
  (try clear Z40_0 Z40_1 Y40_0 Y40_1)
  (try clear Z45_0 Z45_1 Y45_0 Y45_1)
  (try clear Z48_0 Z48_1 Y48_0 Y48_1)
  (try clear Z50_0 Z50_1 Y50_0 Y50_1)
  (try clear Z51_0 Z51_1 Y51_0 Y51_1)
  (try clear Z54_0 Z54_1 Y54_0 Y54_1)
  obtain ⟨kq, x10_4, x12_4, x328000_4, x328001_4, rfl, rfl, HA, HJ4, BK324, BK325, BK326, BK327, HB⟩ := hcut
  cases kq with
  | zero => exact absurd HA.out (by simp [corebankref01_sumP.j0])
  | succ kj4 =>
   have H := HA.out
   clear HA
   simp only [corebankref01_sumP.j0] at H
   replace H := Option.bind_eq_some_iff.mp H
   obtain ⟨⟨t336, t337, t338⟩, A550, H⟩ := H
   replace H : (if x12_4 = true then (corebankref01_sumP.j1 kj4 (!t338) t336 t337) else (corebankref01_sumP.j1 kj4 true t336 t337)) = some (r1, r2, r3) := H
   have A55 := Aside0.mk A550
   clear A550
   have HC56 := Aside0.mk H
   clear H
   have hnb57 := NB327_324.out
   have hnc57 := NB324_327.out
   have hnb58 := NB327_325.out
   have hnc58 := NB325_327.out
   have hnb59 := NB327_326.out
   have hnc59 := NB326_327.out
   obtain ⟨Z60_0, Z60_1, Y60_0, Y60_1⟩ := cz2_ BK327.out
   go_upto_region 9 with (first | ((with_reducible refine gate_callee (f := 73) rfl ?_); refine goesL_ (some 41) rfl rfl Tryd.func73 (by kernel_rfl) rfl #[.bool x10_4, .agg #[.int .u64 x328000_4, .int .u64 x328001_4]] rfl ql_ ?_; (with_reducible refine (corebankref01_Join.calls x10_4 x328000_4 x328001_4 t336 t337 t338 _ A55.out).mono ?_); rintro e w61 ⟨rfl, hb⟩; refine ⟨_, rfl, ?_⟩; have n0_ := Aside0.mk (blk_below (qk_ BK324.out) hb); have n1_ := Aside0.mk (blk_below (qk_ BK325.out) hb); have n2_ := Aside0.mk (blk_below (qk_ BK326.out) hb); have n3_ := Aside0.mk (blk_below (qk_ BK327.out) hb); have n4_ := Aside0.mk (below_step (qb4_ GE324.out GE325.out GE326.out GE327.out HB.out) hb); clear BK324; clear BK325; clear BK326; clear BK327; clear HB; have BK324 := n0_; have BK325 := n1_; have BK326 := n2_; have BK327 := n3_; have HB := n4_; clear n0_ n1_ n2_ n3_ n4_; (try clear hb); (try clear hb2); (try clear hk); (try clear hi)) | ((with_reducible refine gate_dst (N := 13) rfl ?_); refine be_ (N := 13) (cs := #[.int .i64 0, .int .u64 0]) (t := 63) ?_; intro gb339 hg w62 hbox hb; have n0_ := Aside0.mk (blk_below (qk_ BK324.out) hb); have n1_ := Aside0.mk (blk_below (qk_ BK325.out) hb); have n2_ := Aside0.mk (blk_below (qk_ BK326.out) hb); have n3_ := Aside0.mk (blk_below (qk_ BK327.out) hb); have n4_ := Aside0.mk (below_step (qb4_ GE324.out GE325.out GE326.out GE327.out HB.out) hb); have n5_ := Aside0.mk (hbox); have n6_ := Aside0.mk (bz_ hg (qb4_ GE324.out GE325.out GE326.out GE327.out HB.out) : w.heap.size ≤ gb339); have n7_ := n6_; have n8_ := Aside0.mk (nl_ hg (qk_ BK324.out) : gb324 ≠ gb339); have n9_ := Aside0.mk (ng_ hg (qk_ BK324.out) : gb339 ≠ gb324); have n10_ := Aside0.mk (nl_ hg (qk_ BK325.out) : gb325 ≠ gb339); have n11_ := Aside0.mk (ng_ hg (qk_ BK325.out) : gb339 ≠ gb325); have n12_ := Aside0.mk (nl_ hg (qk_ BK326.out) : gb326 ≠ gb339); have n13_ := Aside0.mk (ng_ hg (qk_ BK326.out) : gb339 ≠ gb326); have n14_ := Aside0.mk (nl_ hg (qk_ BK327.out) : gb327 ≠ gb339); have n15_ := Aside0.mk (ng_ hg (qk_ BK327.out) : gb339 ≠ gb327); clear BK324; clear BK325; clear BK326; clear BK327; clear HB; have BK324 := n0_; have BK325 := n1_; have BK326 := n2_; have BK327 := n3_; have HB := n4_; have BK339 := n5_; have GW339 := n6_; have GE339 := n7_; have NB324_339 := n8_; have NB339_324 := n9_; have NB325_339 := n10_; have NB339_325 := n11_; have NB326_339 := n12_; have NB339_326 := n13_; have NB327_339 := n14_; have NB339_327 := n15_; clear n0_ n1_ n2_ n3_ n4_ n5_ n6_ n7_ n8_ n9_ n10_ n11_ n12_ n13_ n14_ n15_; clear hb hbox hg; have hnb63 := NB339_324.out; have hnc63 := NB324_339.out; have hnb64 := NB339_325.out; have hnc64 := NB325_339.out; have hnb65 := NB339_326.out; have hnc65 := NB326_339.out; have hnb66 := NB339_327.out; have hnc66 := NB327_339.out; obtain ⟨Z67_0, Z67_1, Y67_0, Y67_1⟩ := cz2_ BK339.out))
   (try simp only [Act.put, List.setIfInBounds_toArray, List.set_cons_zero, List.set_cons_succ])
   go_cut [49] (fun v49 wc => ∃ (kq : Nat) (x49_55 : Bool), v49 = .bool x49_55 ∧ Aside0 (corebankref01_sumP.j1 kq x49_55 t336 t337 = some (r1, r2, r3)) ∧ Aside0 (kq ≤ kj4) ∧ Aside0 (wc.heap[gb324]? = some (.cells #[.int .u64 a1_0, .int .u64 a1_1] 96 (0, 0))) ∧ Aside0 (wc.heap[gb325]? = some (.cells #[.int .u64 a3_0, .int .u64 a3_1] 96 (0, 0))) ∧ Aside0 (wc.heap[gb326]? = some (.cells #[.int .i64 0, .int .u64 0] 63 (0, 0))) ∧ Aside0 (wc.heap[gb327]? = some (.cells #[.int .u64 x328000_4, .int .u64 x328001_4] 96 (0, 0))) ∧ Aside0 (wc.heap[gb339]? = some (.cells #[.int .i64 t336, .int .u64 t337] 63 (0, 0))) ∧ Aside0 (Below w.heap.size w wc))
   case first =>
    have H := HC56.out
    clear HC56
    by_cases c68 : x12_4 = true
    ·subst c68
     have H1 : (corebankref01_sumP.j1 kj4 (!t338) t336 t337) = some (r1, r2, r3) := by rw [if_pos rfl] at H; exact H
     clear H
     have H := H1
     clear H1
     have H' := Aside0.mk H
     clear H
     go_wp2
     go_meet
     case rel => exact ⟨_, (!t338), qs_, H', ⟨by have := HJ4.out; first | omega | exact Nat.le_refl _⟩, ⟨qff_ NB324_339.out NB324_339.out BK324.out⟩, ⟨qff_ NB325_339.out NB325_339.out BK325.out⟩, ⟨qff_ NB326_339.out NB326_339.out BK326.out⟩, ⟨qff_ NB327_339.out NB327_339.out BK327.out⟩, ⟨qpp_ #[.int .i64 t336, .int .u64 0] 1 #[.int .i64 0, .int .u64 0] 0 BK339.out⟩, ⟨qb5_ GE324.out GE325.out GE326.out GE327.out GE339.out HB.out⟩⟩
    ·replace c68 := Bool.eq_false_iff.mpr c68
     subst c68
     have H1 : (corebankref01_sumP.j1 kj4 true t336 t337) = some (r1, r2, r3) := by rw [if_neg (show ¬ (false = true) by decide)] at H; exact H
     clear H
     have H := H1
     clear H1
     have H' := Aside0.mk H
     clear H
     go_wp2
     go_meet
     case rel => exact ⟨_, (true), qs_, H', ⟨by have := HJ4.out; first | omega | exact Nat.le_refl _⟩, ⟨qff_ NB324_339.out NB324_339.out BK324.out⟩, ⟨qff_ NB325_339.out NB325_339.out BK325.out⟩, ⟨qff_ NB326_339.out NB326_339.out BK326.out⟩, ⟨qff_ NB327_339.out NB327_339.out BK327.out⟩, ⟨qpp_ #[.int .i64 t336, .int .u64 0] 1 #[.int .i64 0, .int .u64 0] 0 BK339.out⟩, ⟨qb5_ GE324.out GE325.out GE326.out GE327.out GE339.out HB.out⟩⟩
   case rest =>
    clear HC56
    try clear c1
    try clear c2
    try clear p2
    try clear c3
    try clear c4
    try clear c5
    try clear c6
    try clear c7
    try clear c8
    try clear c13
    try clear c13b0
    try clear c13b1
    try clear c13b2
    try clear c15
    try clear c16
    try clear c17
    try clear c19
    try clear c20
    try clear c23
    try clear c26
    try clear c28
    try clear c29
    try clear c30
    try clear c32
    try clear c33
    try clear c39
    try clear c42
    try clear c43
    try clear c44
    try clear c46
    try clear c47
    try clear c53
    try clear c57
    try clear c58
    try clear c59
    try clear c63
    try clear c64
    try clear c65
    try clear c66
    try clear c68
    (try clear Z18_0 Z18_1 Y18_0 Y18_1)
    (try clear Z21_0 Z21_1 Y21_0 Y21_1)
    (try clear Z24_0 Z24_1 Y24_0 Y24_1)
    (try clear Z31_0 Z31_1 Y31_0 Y31_1)
    (try clear Z34_0 Z34_1 Y34_0 Y34_1)
    (try clear Z36_0 Z36_1 Y36_0 Y36_1)
    (try clear Z37_0 Z37_1 Y37_0 Y37_1)
    (try clear Z40_0 Z40_1 Y40_0 Y40_1)
    (try clear Z45_0 Z45_1 Y45_0 Y45_1)
    (try clear Z48_0 Z48_1 Y48_0 Y48_1)
    (try clear Z50_0 Z50_1 Y50_0 Y50_1)
    (try clear Z51_0 Z51_1 Y51_0 Y51_1)
    (try clear Z54_0 Z54_1 Y54_0 Y54_1)
    (try clear Z60_0 Z60_1 Y60_0 Y60_1)
    (try clear Z67_0 Z67_1 Y67_0 Y67_1)
    try clear p2
    obtain ⟨kq, x49_55, rfl, HA, HJ55, BK324, BK325, BK326, BK327, BK339, HB⟩ := hcut
    cases kq with
    | zero => exact absurd HA.out (by simp [corebankref01_sumP.j1])
    | succ kj55 =>
     have H := HA.out
     clear HA
     simp only [corebankref01_sumP.j1] at H
     by_cases c69 : x49_55 = true
     ·subst c69
      have H1 : (some (0, 0, 6)) = some (r1, r2, r3) := by rw [if_pos rfl] at H; exact H
      clear H
      have H := H1
      clear H1
      simp only [Option.some.injEq, Prod.mk.injEq] at H
      obtain ⟨rfl, rfl, rfl⟩ := H
      have hnb70 := NB326_324.out
      have hnc70 := NB324_326.out
      have hnb71 := NB326_325.out
      have hnc71 := NB325_326.out
      have hnb72 := NB326_327.out
      have hnc72 := NB327_326.out
      have hnb73 := NB326_339.out
      have hnc73 := NB339_326.out
      obtain ⟨Z74_0, Z74_1, Y74_0, Y74_1⟩ := cz2_ BK326.out
      go_wp2
      refine bodyPost_ret (results_ct rfl _ _ gb326 63 #[.int .i64 0, .int .u64 0] (0, 0) _ rfl (qpp_ #[.int .i64 0, .int .u64 0] 1 #[.int .i64 0, .int .u64 0] 0 BK326.out) Tryd.underlying63 rfl (by kernel_rfl)) rfl ?_
      exact ⟨qe_, qb5_ GE324.out GE325.out GE326.out GE327.out GE339.out HB.out⟩
     ·replace c69 := Bool.eq_false_iff.mpr c69
      subst c69
      have H1 : (some (t336, t337, 0)) = some (r1, r2, r3) := by rw [if_neg (show ¬ (false = true) by decide)] at H; exact H
      clear H
      have H := H1
      clear H1
      simp only [Option.some.injEq, Prod.mk.injEq] at H
      obtain ⟨rfl, rfl, rfl⟩ := H
      have hnb75 := NB339_324.out
      have hnc75 := NB324_339.out
      have hnb76 := NB339_325.out
      have hnc76 := NB325_339.out
      have hnb77 := NB339_326.out
      have hnc77 := NB326_339.out
      have hnb78 := NB339_327.out
      have hnc78 := NB327_339.out
      obtain ⟨Z79_0, Z79_1, Y79_0, Y79_1⟩ := cz2_ BK339.out
      have hnb80 := NB326_324.out
      have hnc80 := NB324_326.out
      have hnb81 := NB326_325.out
      have hnc81 := NB325_326.out
      have hnb82 := NB326_327.out
      have hnc82 := NB327_326.out
      obtain ⟨Z83_0, Z83_1, Y83_0, Y83_1⟩ := cz2_ BK326.out
      go_wp2
      refine bodyPost_ret (results_ct rfl _ _ gb326 63 #[.int .i64 t336, .int .u64 t337] (0, 0) _ rfl (qpp_ #[.int .i64 t336, .int .u64 0] 1 #[.int .i64 0, .int .u64 0] 0 BK326.out) Tryd.underlying63 rfl (by kernel_rfl)) rfl ?_
      exact ⟨qe_, qb5_ GE324.out GE325.out GE326.out GE327.out GE339.out HB.out⟩
end Go.Proofs.YtjkjiibhdpcpkaaDoor.PS
end
section
namespace Go.Proofs.YtjkjiibhdpcpkaaDoor.PS
open Go.RowKit Go.Proofs.YtjkjiibhdpcpkaaDoorW.PrintWords Go.Proofs.YtjkjiibhdpcpkaaDoorW.PrintLast
set_option linter.unusedVariables false
set_option linter.unusedSimpArgs false
attribute [local go_sem high] eqA63
def sgn (n : Bool) (m : Int) : Int := if n = true then -m else m
def corebankref01_sum.f (a0 : Bool) (a1_0 a1_1 : Int) (a2 : Bool) (a3_0 a3_1 : Int) : Option (Int × Int × Int) :=
 if (inU a1_0 ∧ inU a1_1) ∧ inU a3_0 ∧ inU a3_1 then
  some (if in128 (sgn a0 (wv a1_0 a1_1) + sgn a2 (wv a3_0 a3_1)) then ((sgn a0 (wv a1_0 a1_1) + sgn a2 (wv a3_0 a3_1)) / 18446744073709551616, (sgn a0 (wv a1_0 a1_1) + sgn a2 (wv a3_0 a3_1)) % 18446744073709551616, 0) else (0, 0, 6)) else none
theorem sum_end (n ok : Bool) (m S : Int) (m0 : 0 ≤ m) (m1 : m < 340282366920938463463374607431768211456) (hS : ok = true → sgn n m = S) (hno : ok = false → ¬ in128 S) :
  corebankref01_sumP.j0 2 n ok (m / 18446744073709551616 % 18446744073709551616) (m % 18446744073709551616) = some (if in128 S then (S / 18446744073709551616, S % 18446744073709551616, 0) else (0, 0, 6)) := by
 simp only [corebankref01_sumP.j0]
 unfold corebankref01_Join.f
 have hU : inU (m / 18446744073709551616 % 18446744073709551616) ∧ inU (m % 18446744073709551616) := ⟨by unfold inU; omega, by unfold inU; omega⟩
 have hw : wv (m / 18446744073709551616 % 18446744073709551616) (m % 18446744073709551616) = m := by unfold wv; omega
 rw [if_pos hU, hw]
 simp only [Option.bind_some, corebankref01_sumP.j1]
 cases ok with
 | true =>
  have hs := hS rfl
  unfold sgn at hs
  rw [if_pos rfl, hs]
  by_cases hin : in128 S
  ·rw [if_pos hin, decide_eq_true hin, if_neg (by decide)]
   rw [i64_id _ (by unfold in128 at hin; omega) (by unfold in128 at hin; omega)]
  ·rw [if_neg hin, decide_eq_false hin, if_pos (by decide)]
 | false => rw [if_neg (by decide), if_pos trivial, if_neg (hno rfl)]
theorem corebankref01_sum.eq {x y : Bool} {a b c d : Int} {r : Int × Int × Int} (h : corebankref01_sum.f x a b y c d = some r) : ∃ k, corebankref01_sumP.f k x a b y c d = some r := by
 unfold corebankref01_sum.f at h
 split at h
 ·rename_i q
  injection h with h
  subst h
  refine ⟨2, ?_⟩
  obtain ⟨⟨⟨a0, a1⟩, b0, b1⟩, ⟨c0, c1⟩, d0, d1⟩ := id q
  have hA : 0 ≤ wv a b ∧ wv a b < 340282366920938463463374607431768211456 := by unfold wv; omega
  have hB : 0 ≤ wv c d ∧ wv c d < 340282366920938463463374607431768211456 := by unfold wv; omega
  unfold corebankref01_sumP.f
  by_cases hxy : x = y
  ·subst hxy
   rw [if_pos (by simp)]
   unfold corebankref01_plus.f
   rw [if_pos q]
   simp only [Option.bind_some]
   generalize wv a b = A at *
   generalize wv c d = B at *
   have e1 : (A + B) / 18446744073709551616 % 18446744073709551616 = (A + B) % 340282366920938463463374607431768211456 / 18446744073709551616 % 18446744073709551616 := by omega
   have e2 : (A + B) % 18446744073709551616 = (A + B) % 340282366920938463463374607431768211456 % 18446744073709551616 := by omega
   rw [e1, e2]
   refine sum_end x _ _ _ (by omega) (by omega) (fun ho => ?_) (fun ho => ?_)
   ·have := of_decide_eq_true ho
    rw [Int.emod_eq_of_lt (by omega) this]
    unfold sgn; split <;> omega
   ·have := of_decide_eq_false ho
    unfold in128 sgn; split <;> omega
  ·rw [if_neg (by simpa using hxy)]
   unfold corebankref01_Less.f
   rw [if_pos q]
   simp only [Option.bind_some]
   unfold corebankref01_minus.f
   by_cases hlt : wv a b < wv c d
   ·rw [decide_eq_true hlt, if_pos rfl, if_pos ⟨⟨q.2, q.1⟩, by omega⟩]
    simp only [Option.bind_some]
    generalize wv a b = A at *
    generalize wv c d = B at *
    rw [show (B - A) / 18446744073709551616 = (B - A) / 18446744073709551616 % 18446744073709551616 by omega]
    refine sum_end y true _ _ (by omega) (by omega) (fun _ => ?_) (fun ho => by cases ho)
    cases x <;> cases y <;> simp [sgn] at hxy ⊢ <;> omega
   ·rw [decide_eq_false hlt, if_neg (by decide), if_pos ⟨q, by omega⟩]
    simp only [Option.bind_some]
    generalize wv a b = A at *
    generalize wv c d = B at *
    rw [show (A - B) / 18446744073709551616 = (A - B) / 18446744073709551616 % 18446744073709551616 by omega]
    refine sum_end x true _ _ (by omega) (by omega) (fun _ => ?_) (fun ho => by cases ho)
    cases x <;> cases y <;> simp [sgn] at hxy ⊢ <;> omega
 ·cases h
theorem corebankref01_sum.calls (a0 : Bool) (a1_0 a1_1 : Int) (a2 : Bool) (a3_0 a3_1 r1 r2 r3 : Int) (w : World) (h : corebankref01_sum.f a0 a1_0 a1_1 a2 a3_0 a3_1 = some (r1, r2, r3)) :
  Calls Tryd.prog 74 #[.bool a0, .agg #[.int .u64 a1_0, .int .u64 a1_1], .bool a2, .agg #[.int .u64 a3_0, .int .u64 a3_1]] w fun e w' => e = .returned (.tuple #[.agg #[.int .i64 r1, .int .u64 r2], .int .i64 r3]) ∧ Below w.heap.size w w' := by
 obtain ⟨k, h⟩ := corebankref01_sum.eq h
 exact corebankref01_sumP.calls k a0 a1_0 a1_1 a2 a3_0 a3_1 r1 r2 r3 w h
def corebankref01_AddP.f (a0_0 a0_1 a1_0 a1_1 : Int) : Option (Int × Int × Int) := (corebankref01_Split.f a0_0 a0_1).bind fun bt343 => ((corebankref01_Split.f a1_0 a1_1).bind fun bt347 => ((corebankref01_sum.f bt343.1 bt343.2.1 bt343.2.2 bt347.1 bt347.2.1 bt347.2.2).bind fun bt351 => (some (bt351.1, bt351.2.1, bt351.2.2))))
set_option maxHeartbeats 8000000 in
set_option maxRecDepth 100000 in
theorem corebankref01_AddP.calls (a0_0 a0_1 a1_0 a1_1 r1 r2 r3 : Int) (w : World) (h : corebankref01_AddP.f a0_0 a0_1 a1_0 a1_1 = some (r1, r2, r3)) :
  Calls Tryd.prog 61 #[.agg #[.int .i64 a0_0, .int .u64 a0_1], .agg #[.int .i64 a1_0, .int .u64 a1_1]] w fun e w' => e = .returned (.tuple #[.agg #[.int .i64 r1, .int .u64 r2], .int .i64 r3]) ∧ Below w.heap.size w w' := by
 have hu63 := Tryd.underlying63
 have hu96 := Tryd.underlying96
 have HB := Aside0.mk (Below.refl w.heap.size w)
 have H : ((corebankref01_Split.f a0_0 a0_1).bind fun bt343 => ((corebankref01_Split.f a1_0 a1_1).bind fun bt347 => ((corebankref01_sum.f bt343.1 bt343.2.1 bt343.2.2 bt347.1 bt347.2.1 bt347.2.2).bind fun bt351 => (some (bt351.1, bt351.2.1, bt351.2.2))))) = some (r1, r2, r3) := h
 clear h
 replace H := Option.bind_eq_some_iff.mp H
 obtain ⟨⟨t343, t344, t345⟩, A30, H⟩ := H
 replace H : ((corebankref01_Split.f a1_0 a1_1).bind fun bt347 => ((corebankref01_sum.f t343 t344 t345 bt347.1 bt347.2.1 bt347.2.2).bind fun bt351 => (some (bt351.1, bt351.2.1, bt351.2.2)))) = some (r1, r2, r3) := H
 have A3 := Aside0.mk A30
 clear A30
 replace H := Option.bind_eq_some_iff.mp H
 obtain ⟨⟨t347, t348, t349⟩, A40, H⟩ := H
 replace H : ((corebankref01_sum.f t343 t344 t345 t347 t348 t349).bind fun bt351 => (some (bt351.1, bt351.2.1, bt351.2.2))) = some (r1, r2, r3) := H
 have A4 := Aside0.mk A40
 clear A40
 replace H := Option.bind_eq_some_iff.mp H
 obtain ⟨⟨t351, t352, t353⟩, A50, H⟩ := H
 replace H : (some (t351, t352, t353)) = some (r1, r2, r3) := H
 have A5 := Aside0.mk A50
 clear A50
 simp only [Option.some.injEq, Prod.mk.injEq] at H
 obtain ⟨rfl, rfl, rfl⟩ := H
 go_enter Tryd.func61, Tryd.ntmps61
 go_wp2_with (first | ((with_reducible refine gate_dst (N := 2) rfl ?_); refine be_ (N := 2) (cs := #[.int .i64 a0_0, .int .u64 a0_1]) (t := 63) ?_; intro gb340 hg w6 hbox hb; have n0_ := Aside0.mk (below_step (qb_ HB.out) hb); have n1_ := Aside0.mk (hbox); have n2_ := Aside0.mk (bz_ hg (qb_ HB.out) : w.heap.size ≤ gb340); have n3_ := n2_; clear HB; have HB := n0_; have BK340 := n1_; have GW340 := n2_; have GE340 := n3_; clear n0_ n1_ n2_ n3_; clear hb hbox hg) | ((with_reducible refine gate_dst (N := 3) rfl ?_); refine be_ (N := 3) (cs := #[.int .i64 a1_0, .int .u64 a1_1]) (t := 63) ?_; intro gb341 hg w7 hbox hb; have n0_ := Aside0.mk (blk_below (qk_ BK340.out) hb); have n1_ := Aside0.mk (below_step (qb1_ GE340.out HB.out) hb); have n2_ := Aside0.mk (hbox); have n3_ := Aside0.mk (bz_ hg (qb1_ GE340.out HB.out) : w.heap.size ≤ gb341); have n4_ := n3_; have n5_ := Aside0.mk (nl_ hg (qk_ BK340.out) : gb340 ≠ gb341); have n6_ := Aside0.mk (ng_ hg (qk_ BK340.out) : gb341 ≠ gb340); clear BK340; clear HB; have BK340 := n0_; have HB := n1_; have BK341 := n2_; have GW341 := n3_; have GE341 := n4_; have NB340_341 := n5_; have NB341_340 := n6_; clear n0_ n1_ n2_ n3_ n4_ n5_ n6_; clear hb hbox hg) | ((with_reducible refine gate_dst (N := 4) rfl ?_); refine be_ (N := 4) (cs := #[.int .i64 0, .int .u64 0]) (t := 63) ?_; intro gb342 hg w8 hbox hb; have n0_ := Aside0.mk (blk_below (qk_ BK340.out) hb); have n1_ := Aside0.mk (blk_below (qk_ BK341.out) hb); have n2_ := Aside0.mk (below_step (qb2_ GE340.out GE341.out HB.out) hb); have n3_ := Aside0.mk (hbox); have n4_ := Aside0.mk (bz_ hg (qb2_ GE340.out GE341.out HB.out) : w.heap.size ≤ gb342); have n5_ := n4_; have n6_ := Aside0.mk (nl_ hg (qk_ BK340.out) : gb340 ≠ gb342); have n7_ := Aside0.mk (ng_ hg (qk_ BK340.out) : gb342 ≠ gb340); have n8_ := Aside0.mk (nl_ hg (qk_ BK341.out) : gb341 ≠ gb342); have n9_ := Aside0.mk (ng_ hg (qk_ BK341.out) : gb342 ≠ gb341); clear BK340; clear BK341; clear HB; have BK340 := n0_; have BK341 := n1_; have HB := n2_; have BK342 := n3_; have GW342 := n4_; have GE342 := n5_; have NB340_342 := n6_; have NB342_340 := n7_; have NB341_342 := n8_; have NB342_341 := n9_; clear n0_ n1_ n2_ n3_ n4_ n5_ n6_ n7_ n8_ n9_; clear hb hbox hg; have hnb9 := NB340_341.out; have hnc9 := NB341_340.out; have hnb10 := NB340_342.out; have hnc10 := NB342_340.out; obtain ⟨Z11_0, Z11_1, Y11_0, Y11_1⟩ := cz2_ BK340.out) | ((with_reducible refine gate_callee (f := 70) rfl ?_); refine goesL_ (some 12) rfl rfl Tryd.func70 (by kernel_rfl) rfl #[.agg #[.int .i64 a0_0, .int .u64 a0_1]] rfl ql_ ?_; (with_reducible refine (corebankref01_Split.calls a0_0 a0_1 t343 t344 t345 _ A3.out).mono ?_); rintro e w12 ⟨rfl, hb⟩; refine ⟨_, rfl, ?_⟩; have n0_ := Aside0.mk (blk_below (qk_ BK340.out) hb); have n1_ := Aside0.mk (blk_below (qk_ BK341.out) hb); have n2_ := Aside0.mk (blk_below (qk_ BK342.out) hb); have n3_ := Aside0.mk (below_step (qb3_ GE340.out GE341.out GE342.out HB.out) hb); clear BK340; clear BK341; clear BK342; clear HB; have BK340 := n0_; have BK341 := n1_; have BK342 := n2_; have HB := n3_; clear n0_ n1_ n2_ n3_; (try clear hb); (try clear hb2); (try clear hk); (try clear hi)) | ((with_reducible refine gate_dst (N := 7) rfl ?_); refine be_ (N := 7) (cs := #[.int .u64 0, .int .u64 0]) (t := 96) ?_; intro gb346 hg w13 hbox hb; have n0_ := Aside0.mk (blk_below (qk_ BK340.out) hb); have n1_ := Aside0.mk (blk_below (qk_ BK341.out) hb); have n2_ := Aside0.mk (blk_below (qk_ BK342.out) hb); have n3_ := Aside0.mk (below_step (qb3_ GE340.out GE341.out GE342.out HB.out) hb); have n4_ := Aside0.mk (hbox); have n5_ := Aside0.mk (bz_ hg (qb3_ GE340.out GE341.out GE342.out HB.out) : w.heap.size ≤ gb346); have n6_ := n5_; have n7_ := Aside0.mk (nl_ hg (qk_ BK340.out) : gb340 ≠ gb346); have n8_ := Aside0.mk (ng_ hg (qk_ BK340.out) : gb346 ≠ gb340); have n9_ := Aside0.mk (nl_ hg (qk_ BK341.out) : gb341 ≠ gb346); have n10_ := Aside0.mk (ng_ hg (qk_ BK341.out) : gb346 ≠ gb341); have n11_ := Aside0.mk (nl_ hg (qk_ BK342.out) : gb342 ≠ gb346); have n12_ := Aside0.mk (ng_ hg (qk_ BK342.out) : gb346 ≠ gb342); clear BK340; clear BK341; clear BK342; clear HB; have BK340 := n0_; have BK341 := n1_; have BK342 := n2_; have HB := n3_; have BK346 := n4_; have GW346 := n5_; have GE346 := n6_; have NB340_346 := n7_; have NB346_340 := n8_; have NB341_346 := n9_; have NB346_341 := n10_; have NB342_346 := n11_; have NB346_342 := n12_; clear n0_ n1_ n2_ n3_ n4_ n5_ n6_ n7_ n8_ n9_ n10_ n11_ n12_; clear hb hbox hg; have hnb14 := NB346_340.out; have hnc14 := NB340_346.out; have hnb15 := NB346_341.out; have hnc15 := NB341_346.out; have hnb16 := NB346_342.out; have hnc16 := NB342_346.out; obtain ⟨Z17_0, Z17_1, Y17_0, Y17_1⟩ := cz2_ BK346.out; have hnb18 := NB341_342.out; have hnc18 := NB342_341.out; obtain ⟨Z19_0, Z19_1, Y19_0, Y19_1⟩ := cz2_ BK341.out) | ((with_reducible refine gate_callee (f := 70) rfl ?_); refine goesL_ (some 17) rfl rfl Tryd.func70 (by kernel_rfl) rfl #[.agg #[.int .i64 a1_0, .int .u64 a1_1]] rfl ql_ ?_; (with_reducible refine (corebankref01_Split.calls a1_0 a1_1 t347 t348 t349 _ A4.out).mono ?_); rintro e w20 ⟨rfl, hb⟩; refine ⟨_, rfl, ?_⟩; have n0_ := Aside0.mk (blk_below (g := gb340) (o := .cells #[.int .i64 a0_0, .int .u64 a0_1] 63 (0, 0)) (qff_ NB340_346.out NB340_346.out BK340.out) hb); have n1_ := Aside0.mk (blk_below (g := gb341) (o := .cells #[.int .i64 a1_0, .int .u64 a1_1] 63 (0, 0)) (qff_ NB341_346.out NB341_346.out BK341.out) hb); have n2_ := Aside0.mk (blk_below (g := gb342) (o := .cells #[.int .i64 0, .int .u64 0] 63 (0, 0)) (qff_ NB342_346.out NB342_346.out BK342.out) hb); have n3_ := Aside0.mk (blk_below (g := gb346) (o := .cells #[.int .u64 t344, .int .u64 t345] 96 (0, 0)) (qpp_ #[.int .u64 t344, .int .u64 0] 1 #[.int .u64 0, .int .u64 0] 0 BK346.out) hb); have n4_ := Aside0.mk (below_step (qb4_ GE340.out GE341.out GE342.out GE346.out HB.out) hb); clear BK340; clear BK341; clear BK342; clear BK346; clear HB; have BK340 := n0_; have BK341 := n1_; have BK342 := n2_; have BK346 := n3_; have HB := n4_; clear n0_ n1_ n2_ n3_ n4_; (try clear hb); (try clear hb2); (try clear hk); (try clear hi)) | ((with_reducible refine gate_dst (N := 9) rfl ?_); refine be_ (N := 9) (cs := #[.int .u64 0, .int .u64 0]) (t := 96) ?_; intro gb350 hg w21 hbox hb; have n0_ := Aside0.mk (blk_below (qk_ BK340.out) hb); have n1_ := Aside0.mk (blk_below (qk_ BK341.out) hb); have n2_ := Aside0.mk (blk_below (qk_ BK342.out) hb); have n3_ := Aside0.mk (blk_below (qk_ BK346.out) hb); have n4_ := Aside0.mk (below_step (qb4_ GE340.out GE341.out GE342.out GE346.out HB.out) hb); have n5_ := Aside0.mk (hbox); have n6_ := Aside0.mk (bz_ hg (qb4_ GE340.out GE341.out GE342.out GE346.out HB.out) : w.heap.size ≤ gb350); have n7_ := n6_; have n8_ := Aside0.mk (nl_ hg (qk_ BK340.out) : gb340 ≠ gb350); have n9_ := Aside0.mk (ng_ hg (qk_ BK340.out) : gb350 ≠ gb340); have n10_ := Aside0.mk (nl_ hg (qk_ BK341.out) : gb341 ≠ gb350); have n11_ := Aside0.mk (ng_ hg (qk_ BK341.out) : gb350 ≠ gb341); have n12_ := Aside0.mk (nl_ hg (qk_ BK342.out) : gb342 ≠ gb350); have n13_ := Aside0.mk (ng_ hg (qk_ BK342.out) : gb350 ≠ gb342); have n14_ := Aside0.mk (nl_ hg (qk_ BK346.out) : gb346 ≠ gb350); have n15_ := Aside0.mk (ng_ hg (qk_ BK346.out) : gb350 ≠ gb346); clear BK340; clear BK341; clear BK342; clear BK346; clear HB; have BK340 := n0_; have BK341 := n1_; have BK342 := n2_; have BK346 := n3_; have HB := n4_; have BK350 := n5_; have GW350 := n6_; have GE350 := n7_; have NB340_350 := n8_; have NB350_340 := n9_; have NB341_350 := n10_; have NB350_341 := n11_; have NB342_350 := n12_; have NB350_342 := n13_; have NB346_350 := n14_; have NB350_346 := n15_; clear n0_ n1_ n2_ n3_ n4_ n5_ n6_ n7_ n8_ n9_ n10_ n11_ n12_ n13_ n14_ n15_; clear hb hbox hg; have hnb22 := NB350_340.out; have hnc22 := NB340_350.out; have hnb23 := NB350_341.out; have hnc23 := NB341_350.out; have hnb24 := NB350_342.out; have hnc24 := NB342_350.out; have hnb25 := NB350_346.out; have hnc25 := NB346_350.out; obtain ⟨Z26_0, Z26_1, Y26_0, Y26_1⟩ := cz2_ BK350.out; obtain ⟨Z27_0, Z27_1, Y27_0, Y27_1⟩ := cz2_ BK346.out) | ((with_reducible refine gate_callee (f := 74) rfl ?_); refine goesL_ (some 24) rfl rfl Tryd.func74 (by kernel_rfl) rfl #[.bool t343, .agg #[.int .u64 t344, .int .u64 t345], .bool t347, .agg #[.int .u64 t348, .int .u64 t349]] rfl ql_ ?_; (with_reducible refine (corebankref01_sum.calls t343 t344 t345 t347 t348 t349 t351 t352 t353 _ A5.out).mono ?_); rintro e w28 ⟨rfl, hb⟩; refine ⟨_, rfl, ?_⟩; have n0_ := Aside0.mk (blk_below (g := gb340) (o := .cells #[.int .i64 a0_0, .int .u64 a0_1] 63 (0, 0)) (qff_ NB340_350.out NB340_350.out BK340.out) hb); have n1_ := Aside0.mk (blk_below (g := gb341) (o := .cells #[.int .i64 a1_0, .int .u64 a1_1] 63 (0, 0)) (qff_ NB341_350.out NB341_350.out BK341.out) hb); have n2_ := Aside0.mk (blk_below (g := gb342) (o := .cells #[.int .i64 0, .int .u64 0] 63 (0, 0)) (qff_ NB342_350.out NB342_350.out BK342.out) hb); have n3_ := Aside0.mk (blk_below (g := gb346) (o := .cells #[.int .u64 t344, .int .u64 t345] 96 (0, 0)) (qff_ NB346_350.out NB346_350.out BK346.out) hb); have n4_ := Aside0.mk (blk_below (g := gb350) (o := .cells #[.int .u64 t348, .int .u64 t349] 96 (0, 0)) (qpp_ #[.int .u64 t348, .int .u64 0] 1 #[.int .u64 0, .int .u64 0] 0 BK350.out) hb); have n5_ := Aside0.mk (below_step (qb5_ GE340.out GE341.out GE342.out GE346.out GE350.out HB.out) hb); clear BK340; clear BK341; clear BK342; clear BK346; clear BK350; clear HB; have BK340 := n0_; have BK341 := n1_; have BK342 := n2_; have BK346 := n3_; have BK350 := n4_; have HB := n5_; clear n0_ n1_ n2_ n3_ n4_ n5_; (try clear hb); (try clear hb2); (try clear hk); (try clear hi); obtain ⟨Z29_0, Z29_1, Y29_0, Y29_1⟩ := cz2_ BK342.out))
 refine bodyPost_ret (results_ct rfl _ _ gb342 63 #[.int .i64 t351, .int .u64 t352] (0, 0) _ rfl (qpp_ #[.int .i64 t351, .int .u64 0] 1 #[.int .i64 0, .int .u64 0] 0 BK342.out) Tryd.underlying63 rfl (by kernel_rfl)) rfl ?_
 exact ⟨qe_, qb5_ GE340.out GE341.out GE342.out GE346.out GE350.out HB.out⟩
def corebankref01_Add.f (a0_0 a0_1 a1_0 a1_1 : Int) : Option (Int × Int × Int) :=
 if isW a0_0 a0_1 ∧ isW a1_0 a1_1 then
  some (if in128 (wv a0_0 a0_1 + wv a1_0 a1_1) then ((wv a0_0 a0_1 + wv a1_0 a1_1) / 18446744073709551616, (wv a0_0 a0_1 + wv a1_0 a1_1) % 18446744073709551616, 0) else (0, 0, 6)) else none
theorem corebankref01_Add.eq {a b c d : Int} {r : Int × Int × Int} (h : corebankref01_Add.f a b c d = some r) : corebankref01_AddP.f a b c d = some r := by
 unfold corebankref01_Add.f at h
 split at h
 ·rename_i q
  injection h with h
  subst h
  unfold corebankref01_AddP.f corebankref01_Split.f
  rw [if_pos q.1, if_pos q.2]
  simp only [Option.bind_some]
  obtain ⟨⟨⟨a0, a1⟩, b0, b1⟩, ⟨c0, c1⟩, d0, d1⟩ := id q
  have hA : wv a b = a * 18446744073709551616 + b := rfl
  have hB : wv c d = c * 18446744073709551616 + d := rfl
  have mA : 0 ≤ (if a < 0 then -(wv a b) else wv a b) ∧ (if a < 0 then -(wv a b) else wv a b) ≤ 170141183460469231731687303715884105728 := by split <;> omega
  have mB : 0 ≤ (if c < 0 then -(wv c d) else wv c d) ∧ (if c < 0 then -(wv c d) else wv c d) ≤ 170141183460469231731687303715884105728 := by split <;> omega
  have sA : sgn (decide (a < 0)) (if a < 0 then -(wv a b) else wv a b) = wv a b := by unfold sgn; by_cases h : a < 0 <;> simp [h]
  have sB : sgn (decide (c < 0)) (if c < 0 then -(wv c d) else wv c d) = wv c d := by unfold sgn; by_cases h : c < 0 <;> simp [h]
  generalize (if a < 0 then -(wv a b) else wv a b) = A at *
  generalize (if c < 0 then -(wv c d) else wv c d) = B at *
  have wA : wv (A / 18446744073709551616) (A % 18446744073709551616) = A := by unfold wv; omega
  have wB : wv (B / 18446744073709551616) (B % 18446744073709551616) = B := by unfold wv; omega
  have hU : (inU (A / 18446744073709551616) ∧ inU (A % 18446744073709551616)) ∧ inU (B / 18446744073709551616) ∧ inU (B % 18446744073709551616) := ⟨⟨by unfold inU; omega, by unfold inU; omega⟩, by unfold inU; omega, by unfold inU; omega⟩
  unfold corebankref01_sum.f
  rw [if_pos hU, wA, wB, sA, sB]
  simp only [Option.bind_some]
 ·cases h
theorem corebankref01_Add.calls (a0_0 a0_1 a1_0 a1_1 r1 r2 r3 : Int) (w : World) (h : corebankref01_Add.f a0_0 a0_1 a1_0 a1_1 = some (r1, r2, r3)) :
  Calls Tryd.prog 61 #[.agg #[.int .i64 a0_0, .int .u64 a0_1], .agg #[.int .i64 a1_0, .int .u64 a1_1]] w fun e w' => e = .returned (.tuple #[.agg #[.int .i64 r1, .int .u64 r2], .int .i64 r3]) ∧ Below w.heap.size w w' := by
 have h := corebankref01_Add.eq h
 exact corebankref01_AddP.calls a0_0 a0_1 a1_0 a1_1 r1 r2 r3 w h
def corebankref01_OfP.f (a0 : Int) : Option (Int × Int) := if a0 < 0 then (some ((-1), IntKind.u64.wrap (a0))) else (some (0, IntKind.u64.wrap (a0)))
set_option maxHeartbeats 8000000 in
set_option maxRecDepth 100000 in
theorem corebankref01_OfP.calls (a0 r1 r2 : Int) (w : World) (h : corebankref01_OfP.f a0 = some (r1, r2)) :
  Calls Tryd.prog 62 #[.int .i64 a0] w fun e w' => e = .returned (.agg #[.int .i64 r1, .int .u64 r2]) ∧ Below w.heap.size w w' := by
 have hu63 := Tryd.underlying63
 have HB := Aside0.mk (Below.refl w.heap.size w)
 have H : (if a0 < 0 then (some ((-1), IntKind.u64.wrap (a0))) else (some (0, IntKind.u64.wrap (a0)))) = some (r1, r2) := h
 clear h
 by_cases c2 : a0 < 0
 ·rw [if_pos c2] at H
  have c2b0 : decide (a0 < 0) = true := decide_eq_true c2
  clear c2
  simp only [Option.some.injEq, Prod.mk.injEq] at H
  obtain ⟨rfl, rfl⟩ := H
  go_enter Tryd.func62, Tryd.ntmps62
  go_wp2_with (first | ((with_reducible refine gate_dst (N := 2) rfl ?_); refine be_ (N := 2) (cs := #[.int .i64 0, .int .u64 0]) (t := 63) ?_; intro gb354 hg w3 hbox hb; have n0_ := Aside0.mk (below_step (qb_ HB.out) hb); have n1_ := Aside0.mk (hbox); have n2_ := Aside0.mk (bz_ hg (qb_ HB.out) : w.heap.size ≤ gb354); have n3_ := n2_; clear HB; have HB := n0_; have BK354 := n1_; have GW354 := n2_; have GE354 := n3_; clear n0_ n1_ n2_ n3_; clear hb hbox hg; obtain ⟨Z4_0, Z4_1, Y4_0, Y4_1⟩ := cz2_ BK354.out))
  refine bodyPost_ret (results_cell_row rfl _ _ gb354 63 #[.int .i64 (-1), .int .u64 (IntKind.u64.wrap (a0))] (0, 0) _ rfl (qpp_ #[.int .i64 (-1), .int .u64 0] 1 #[.int .i64 0, .int .u64 0] 0 BK354.out) Tryd.underlying63 rfl (by kernel_rfl)) rfl ?_
  exact ⟨qe_, qb1_ GE354.out HB.out⟩
 ·rw [if_neg c2] at H
  have c2b0 : decide (a0 < 0) = false := decide_eq_false c2
  clear c2
  simp only [Option.some.injEq, Prod.mk.injEq] at H
  obtain ⟨rfl, rfl⟩ := H
  go_enter Tryd.func62, Tryd.ntmps62
  go_wp2_with (first | ((with_reducible refine gate_dst (N := 2) rfl ?_); refine be_ (N := 2) (cs := #[.int .i64 0, .int .u64 0]) (t := 63) ?_; intro gb354 hg w5 hbox hb; have n0_ := Aside0.mk (below_step (qb_ HB.out) hb); have n1_ := Aside0.mk (hbox); have n2_ := Aside0.mk (bz_ hg (qb_ HB.out) : w.heap.size ≤ gb354); have n3_ := n2_; clear HB; have HB := n0_; have BK354 := n1_; have GW354 := n2_; have GE354 := n3_; clear n0_ n1_ n2_ n3_; clear hb hbox hg; obtain ⟨Z6_0, Z6_1, Y6_0, Y6_1⟩ := cz2_ BK354.out))
  refine bodyPost_ret (results_cell_row rfl _ _ gb354 63 #[.int .i64 0, .int .u64 (IntKind.u64.wrap (a0))] (0, 0) _ rfl (qpp_ #[.int .i64 0, .int .u64 0] 1 #[.int .i64 0, .int .u64 0] 0 BK354.out) Tryd.underlying63 rfl (by kernel_rfl)) rfl ?_
  exact ⟨qe_, qb1_ GE354.out HB.out⟩
def corebankref01_Of.f (a0 : Int) : Option (Int × Int) := if inI a0 then some (a0 / 18446744073709551616, a0 % 18446744073709551616) else none
theorem corebankref01_Of.eq {a : Int} {r : Int × Int} (h : corebankref01_Of.f a = some r) : corebankref01_OfP.f a = some r := by
 unfold corebankref01_Of.f at h
 split at h
 ·rename_i c
  obtain ⟨c0, c1⟩ := c
  injection h with h
  subst h
  unfold corebankref01_OfP.f
  simp only [IntKind.wrap_u64]
  split <;> (congr 2; omega)
 ·cases h
theorem corebankref01_Of.calls (a0 r1 r2 : Int) (w : World) (h : corebankref01_Of.f a0 = some (r1, r2)) :
  Calls Tryd.prog 62 #[.int .i64 a0] w fun e w' => e = .returned (.agg #[.int .i64 r1, .int .u64 r2]) ∧ Below w.heap.size w w' := by
 have h := corebankref01_Of.eq h
 exact corebankref01_OfP.calls a0 r1 r2 w h
def corebankref01_IntP.f (a0_0 a0_1 : Int) : Option (Int × Bool) := (corebankref01_Of.f (wrap64 (a0_1))).bind fun bt356 => (if (bt356.1 == a0_0 && (bt356.2 == a0_1)) = true then (some (wrap64 (a0_1), true)) else (some (0, false)))
set_option maxHeartbeats 8000000 in
set_option maxRecDepth 100000 in
theorem corebankref01_IntP.calls (a0_0 a0_1 r1 : Int) (r2 : Bool) (w : World) (h : corebankref01_IntP.f a0_0 a0_1 = some (r1, r2)) :
  Calls Tryd.prog 63 #[.agg #[.int .i64 a0_0, .int .u64 a0_1]] w fun e w' => e = .returned (.tuple #[.int .i64 r1, .bool r2]) ∧ Below w.heap.size w w' := by
 have hu63 := Tryd.underlying63
 have HB := Aside0.mk (Below.refl w.heap.size w)
 have H : ((corebankref01_Of.f (wrap64 (a0_1))).bind fun bt356 => (if (bt356.1 == a0_0 && (bt356.2 == a0_1)) = true then (some (wrap64 (a0_1), true)) else (some (0, false)))) = some (r1, r2) := h
 clear h
 replace H := Option.bind_eq_some_iff.mp H
 obtain ⟨⟨t356, t357⟩, A20, H⟩ := H
 replace H : (if (t356 == a0_0 && (t357 == a0_1)) = true then (some (wrap64 (a0_1), true)) else (some (0, false))) = some (r1, r2) := H
 have A2 := Aside0.mk A20
 clear A20
 by_cases c3 : (t356 == a0_0 && (t357 == a0_1)) = true
 ·rw [if_pos c3] at H
  have c3b0 : (t356 == a0_0 && (t357 == a0_1)) = true := c3
  (try (have c3b1 : decide (t356 = a0_0 && (t357 == a0_1)) = true := by simpa using c3))
  (try (have c3b2 : (t356 == a0_0 && (t357 == a0_1)) = true := by simpa using c3))
  clear c3
  simp only [Option.some.injEq, Prod.mk.injEq] at H
  obtain ⟨rfl, rfl⟩ := H
  go_enter Tryd.func63, Tryd.ntmps63
  try go_wp2_with (first | ((with_reducible refine gate_dst (N := 1) rfl ?_); refine be_ (N := 1) (cs := #[.int .i64 a0_0, .int .u64 a0_1]) (t := 63) ?_; intro gb355 hg w4 hbox hb; have n0_ := Aside0.mk (below_step (qb_ HB.out) hb); have n1_ := Aside0.mk (hbox); have n2_ := Aside0.mk (bz_ hg (qb_ HB.out) : w.heap.size ≤ gb355); have n3_ := n2_; clear HB; have HB := n0_; have BK355 := n1_; have GW355 := n2_; have GE355 := n3_; clear n0_ n1_ n2_ n3_; clear hb hbox hg))
  have n0_ := Aside0.mk (blk_drew BK355.out)
  have n1_ := Aside0.mk (below_drew1 HB.out)
  clear BK355
  clear HB
  have BK355 := n0_
  have HB := n1_
  clear n0_ n1_
  refine start_ (n := 6) (S := cS2_ gb355 (.int .i64 a0_0) (.int .u64 a0_1)) (ds := []) (nb_ 6 0) (by kernel_rfl) rfl rfl (cc2_ BK355.out) (fun hHeld => ?_)
  generalize w4.drew = w5 at BK355 HB hHeld ⊢
  refine pure_ (i := 0) (N := some 4) (v := ?_) (a' := ?_) (nb_ 6 1) rfl rfl (by kernel_rfl) (fun _ _ _ h => h) (Or.inl ⟨by rfl, ?_⟩) ?_ ?_
  rotate_left
  ·intro w'
   go_simp
   with_reducible rfl
  rotate_left
  ·simp only [Act.put, List.setIfInBounds_toArray, List.set_cons_zero, List.set_cons_succ, i64_w, i32_w]
   rfl
  refine take_ (i := 1) (N := some 5) (v := ?_) (a' := ?_) (nb_ 6 3) rfl rfl (by kernel_rfl) (fun _ _ _ h => h) (Or.inl ⟨by rfl, ?_⟩) hHeld ?_ ?_
  rotate_left
  ·rintro w' ⟨s0, s1⟩
   go_simp
   with_reducible rfl
  rotate_left
  ·simp only [Act.put, List.setIfInBounds_toArray, List.set_cons_zero, List.set_cons_succ, i64_w, i32_w]
   rfl
  refine pure_ (i := 2) (N := some 6) (v := ?_) (a' := ?_) (nb_ 6 7) rfl rfl (by kernel_rfl) (fun _ _ _ h => h) (Or.inl ⟨by rfl, ?_⟩) ?_ ?_
  rotate_left
  ·intro w'
   go_simp
   with_reducible rfl
  rotate_left
  ·simp only [Act.put, List.setIfInBounds_toArray, List.set_cons_zero, List.set_cons_succ, i64_w, i32_w]
   rfl
  refine take_ (i := 4) (N := some 8) (v := ?_) (a' := ?_) (nb_ 6 23) rfl rfl (by kernel_rfl) (fun _ _ _ h => h) (Or.inl ⟨by rfl, ?_⟩) hHeld ?_ ?_
  rotate_left
  ·rintro w' ⟨s0, s1⟩
   go_simp
   with_reducible rfl
  rotate_left
  ·simp only [Act.put, List.setIfInBounds_toArray, List.set_cons_zero, List.set_cons_succ, i64_w, i32_w]
   rfl
  refine one_ (i := 3) (N := some 7) (nb_ 6 31) rfl rfl (by kernel_rfl) (by decide) (fun K hK => ?_)
  refine goes_ Tryd.func62 (by kernel_rfl) rfl #[.int .i64 (wrap64 (a0_1))] (by rfl) rfl rfl ql_ ?_
  with_reducible refine (corebankref01_Of.calls (wrap64 (a0_1)) t356 t357 _ A2.out).mono ?_
  rintro e w6 ⟨rfl, hb⟩
  refine ⟨_, rfl, ?_⟩
  have n0_ := Aside0.mk (blk_below (qk_ BK355.out) hb)
  have n1_ := Aside0.mk (below_step (qb1_ GE355.out HB.out) hb)
  clear BK355
  clear HB
  have BK355 := n0_
  have HB := n1_
  clear n0_ n1_
  (try clear hb)
  (try clear hb2)
  (try clear hk)
  (try clear hi)
  refine hK.out _ _ (cc2_ BK355.out) (fun hHeld => ?_)
  clear hK K
  refine no_ ?_
  refine pure_ (i := 5) (N := some 9) (v := ?_) (a' := ?_) (nb_ 6 63) rfl rfl (by kernel_rfl) (fun _ _ _ h => h) (Or.inl ⟨by rfl, ?_⟩) ?_ ?_
  rotate_left
  ·intro w'
   go_simp
   with_reducible rfl
  rotate_left
  ·simp only [Act.put, List.setIfInBounds_toArray, List.set_cons_zero, List.set_cons_succ, i64_w, i32_w]
   rfl
  refine done_ (by kernel_rfl) ?_
  obtain ⟨Z7_0, Z7_1, Y7_0, Y7_1⟩ := cz2_ BK355.out
  try go_wp2
  go_ret2
  exact ⟨qe_, qb1_ GE355.out HB.out⟩
 ·rw [if_neg c3] at H
  have c3b0 : (t356 == a0_0 && (t357 == a0_1)) = false := by simpa using c3
  (try (have c3b1 : decide (t356 = a0_0 && (t357 == a0_1)) = false := by simpa using c3))
  (try (have c3b2 : (t356 == a0_0 && (t357 == a0_1)) = false := by simpa using c3))
  (try (have c3b3 : ¬ (t356 = a0_0 && (t357 == a0_1)) := by simpa using c3))
  clear c3
  simp only [Option.some.injEq, Prod.mk.injEq] at H
  obtain ⟨rfl, rfl⟩ := H
  go_enter Tryd.func63, Tryd.ntmps63
  try go_wp2_with (first | ((with_reducible refine gate_dst (N := 1) rfl ?_); refine be_ (N := 1) (cs := #[.int .i64 a0_0, .int .u64 a0_1]) (t := 63) ?_; intro gb355 hg w8 hbox hb; have n0_ := Aside0.mk (below_step (qb_ HB.out) hb); have n1_ := Aside0.mk (hbox); have n2_ := Aside0.mk (bz_ hg (qb_ HB.out) : w.heap.size ≤ gb355); have n3_ := n2_; clear HB; have HB := n0_; have BK355 := n1_; have GW355 := n2_; have GE355 := n3_; clear n0_ n1_ n2_ n3_; clear hb hbox hg))
  have n0_ := Aside0.mk (blk_drew BK355.out)
  have n1_ := Aside0.mk (below_drew1 HB.out)
  clear BK355
  clear HB
  have BK355 := n0_
  have HB := n1_
  clear n0_ n1_
  refine start_ (n := 6) (S := cS2_ gb355 (.int .i64 a0_0) (.int .u64 a0_1)) (ds := []) (nb_ 6 0) (by kernel_rfl) rfl rfl (cc2_ BK355.out) (fun hHeld => ?_)
  generalize w8.drew = w9 at BK355 HB hHeld ⊢
  refine pure_ (i := 0) (N := some 4) (v := ?_) (a' := ?_) (nb_ 6 1) rfl rfl (by kernel_rfl) (fun _ _ _ h => h) (Or.inl ⟨by rfl, ?_⟩) ?_ ?_
  rotate_left
  ·intro w'
   go_simp
   with_reducible rfl
  rotate_left
  ·simp only [Act.put, List.setIfInBounds_toArray, List.set_cons_zero, List.set_cons_succ, i64_w, i32_w]
   rfl
  refine take_ (i := 1) (N := some 5) (v := ?_) (a' := ?_) (nb_ 6 3) rfl rfl (by kernel_rfl) (fun _ _ _ h => h) (Or.inl ⟨by rfl, ?_⟩) hHeld ?_ ?_
  rotate_left
  ·rintro w' ⟨s0, s1⟩
   go_simp
   with_reducible rfl
  rotate_left
  ·simp only [Act.put, List.setIfInBounds_toArray, List.set_cons_zero, List.set_cons_succ, i64_w, i32_w]
   rfl
  refine pure_ (i := 2) (N := some 6) (v := ?_) (a' := ?_) (nb_ 6 7) rfl rfl (by kernel_rfl) (fun _ _ _ h => h) (Or.inl ⟨by rfl, ?_⟩) ?_ ?_
  rotate_left
  ·intro w'
   go_simp
   with_reducible rfl
  rotate_left
  ·simp only [Act.put, List.setIfInBounds_toArray, List.set_cons_zero, List.set_cons_succ, i64_w, i32_w]
   rfl
  refine take_ (i := 4) (N := some 8) (v := ?_) (a' := ?_) (nb_ 6 23) rfl rfl (by kernel_rfl) (fun _ _ _ h => h) (Or.inl ⟨by rfl, ?_⟩) hHeld ?_ ?_
  rotate_left
  ·rintro w' ⟨s0, s1⟩
   go_simp
   with_reducible rfl
  rotate_left
  ·simp only [Act.put, List.setIfInBounds_toArray, List.set_cons_zero, List.set_cons_succ, i64_w, i32_w]
   rfl
  refine one_ (i := 3) (N := some 7) (nb_ 6 31) rfl rfl (by kernel_rfl) (by decide) (fun K hK => ?_)
  refine goes_ Tryd.func62 (by kernel_rfl) rfl #[.int .i64 (wrap64 (a0_1))] (by rfl) rfl rfl ql_ ?_
  with_reducible refine (corebankref01_Of.calls (wrap64 (a0_1)) t356 t357 _ A2.out).mono ?_
  rintro e w10 ⟨rfl, hb⟩
  refine ⟨_, rfl, ?_⟩
  have n0_ := Aside0.mk (blk_below (qk_ BK355.out) hb)
  have n1_ := Aside0.mk (below_step (qb1_ GE355.out HB.out) hb)
  clear BK355
  clear HB
  have BK355 := n0_
  have HB := n1_
  clear n0_ n1_
  (try clear hb)
  (try clear hb2)
  (try clear hk)
  (try clear hi)
  refine hK.out _ _ (cc2_ BK355.out) (fun hHeld => ?_)
  clear hK K
  refine no_ ?_
  refine pure_ (i := 5) (N := some 9) (v := ?_) (a' := ?_) (nb_ 6 63) rfl rfl (by kernel_rfl) (fun _ _ _ h => h) (Or.inl ⟨by rfl, ?_⟩) ?_ ?_
  rotate_left
  ·intro w'
   go_simp
   with_reducible rfl
  rotate_left
  ·simp only [Act.put, List.setIfInBounds_toArray, List.set_cons_zero, List.set_cons_succ, i64_w, i32_w]
   rfl
  refine done_ (by kernel_rfl) ?_
  try go_wp2
  go_ret2
  exact ⟨qe_, qb1_ GE355.out HB.out⟩
def corebankref01_Int.f (a0_0 a0_1 : Int) : Option (Int × Bool) :=
 if isW a0_0 a0_1 then some (if inI (wv a0_0 a0_1) then (wv a0_0 a0_1, true) else (0, false)) else none
theorem corebankref01_Int.eq {a b : Int} {r : Int × Bool} (h : corebankref01_Int.f a b = some r) : corebankref01_IntP.f a b = some r := by
 unfold corebankref01_Int.f at h
 split at h
 ·rename_i c
  obtain ⟨⟨c0, c1⟩, c2, c3⟩ := c
  injection h with h
  subst h
  unfold corebankref01_IntP.f corebankref01_Of.f
  have hI : inI (wrap64 b) := by unfold inI wrap64; omega
  rw [if_pos hI]
  simp only [Option.bind_some]
  by_cases e : inI (wv a b)
  ·rw [if_pos e]
   unfold inI wv at e
   have e1 : wrap64 b / 18446744073709551616 = a := by unfold wrap64; omega
   have e2 : wrap64 b % 18446744073709551616 = b := by unfold wrap64; omega
   rw [e1, e2, if_pos (by simp)]
   congr 2
   unfold wrap64 wv
   omega
  ·rw [if_neg e]
   unfold inI wv at e
   have e1 : wrap64 b / 18446744073709551616 ≠ a := by unfold wrap64; omega
   rw [if_neg (by simp [e1])]
 ·cases h
theorem corebankref01_Int.calls (a0_0 a0_1 r1 : Int) (r2 : Bool) (w : World) (h : corebankref01_Int.f a0_0 a0_1 = some (r1, r2)) :
  Calls Tryd.prog 63 #[.agg #[.int .i64 a0_0, .int .u64 a0_1]] w fun e w' => e = .returned (.tuple #[.int .i64 r1, .bool r2]) ∧ Below w.heap.size w w' := by
 have h := corebankref01_Int.eq h
 exact corebankref01_IntP.calls a0_0 a0_1 r1 r2 w h
end Go.Proofs.YtjkjiibhdpcpkaaDoor.PS
end
