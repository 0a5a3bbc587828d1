import Derived.Test.YtbifbnjkpmmedaaDoorQAx0
import Derived.Test.YtbifbnjkpmmedaaDoorQAx2
import Derived.Test.YtbifbnjkpmmedaaDoorQAx3
import Derived.Test.YtbifbnjkpmmedaaDoorQAx5
import Derived.Test.YtbifbnjkpmmedaaDoorQAx6
import Derived.Test.YtbifbnjkpmmedaaDoorQAx7
namespace Go.Proofs.YtbifbnjkpmmedaaDoor.PA
open Go.RowKit Go.Proofs.YtbifbnjkpmmedaaDoorW.PrintWords Go.Proofs.YtbifbnjkpmmedaaDoorW.PrintLast Go.Proofs.YtbifbnjkpmmedaaDoorW.PrintMore
attribute [local go_sem] max2_int max_two
set_option linter.unusedVariables false
set_option linter.unusedSimpArgs false
attribute [local go_sem high] eqA81
def wide_Div.f (a0_0 a0_1 a1 : Int) : Option (Int × Int × Int × Int) :=
  if isW a0_0 a0_1 ∧ inI a1 then
    some (if a1 < 1 then (0, 0, 0, 1) else (wv a0_0 a0_1 / a1 / 18446744073709551616, wv a0_0 a0_1 / a1 % 18446744073709551616, wv a0_0 a0_1 % a1, 0)) else none
theorem wide_Div.eq {a b n : Int} {r : Int × Int × Int × Int} (h : wide_Div.f a b n = some r) : ∃ k, wide_DivP.f k a b n = some r := by
  unfold wide_Div.f at h
  split at h
  · rename_i q
    obtain ⟨⟨⟨a0, a1⟩, b0, b1⟩, n0, n1⟩ := q
    injection h with h
    subst h
    refine ⟨2, ?_⟩
    unfold wide_DivP.f
    by_cases hn : n < 1
    · rw [if_pos hn, if_pos hn]
    · rw [if_neg hn, if_neg hn]
      unfold wide_absolute.f
      rw [if_pos ⟨⟨a0, a1⟩, b0, b1⟩]
      simp only [Option.bind_some]
      have hun : IntKind.u64.wrap n = n := u64_id _ (by omega) (by omega)
      have hv : wv a b = a * 18446744073709551616 + b := rfl
      have mrange : 0 ≤ (if a < 0 then -(wv a b) else wv a b) ∧ (if a < 0 then -(wv a b) else wv a b) ≤ 170141183460469231731687303715884105728 := by split <;> omega
      have hvm : wv a b = if a < 0 then -(if a < 0 then -(wv a b) else wv a b) else (if a < 0 then -(wv a b) else wv a b) := by split <;> omega
      generalize hm : (if a < 0 then -(wv a b) else wv a b) = m at *
      obtain ⟨m0, m1⟩ := mrange
      have hwm : wv (m / 18446744073709551616) (m % 18446744073709551616) = m := by unfold wv; omega
      unfold wide_size_divide.f
      rw [hun, if_pos ⟨⟨by unfold inU; omega, by unfold inU; omega⟩, by omega, by omega⟩, hwm]
      simp only [Option.bind_some]
      have q0 : 0 ≤ m / n := Int.ediv_nonneg m0 (by omega)
      have q1 : m / n ≤ m := Int.ediv_le_self n m0
      have r0 := Int.emod_nonneg m (show n ≠ 0 by omega)
      have r1 := Int.emod_lt_of_pos m (show 0 < n by omega)
      have hwq : wv (m / n / 18446744073709551616) (m / n % 18446744073709551616) = m / n := by unfold wv; omega
      by_cases ha : a < 0
      · rw [if_pos ha]
        simp only [wide_DivP.j0, wide_DivP.j1]
        rw [if_pos ha] at hvm
        obtain ⟨d1, d2⟩ := neg_div (m := m) (n := n) (by omega)
        have mpos : 0 < m := by
          rw [if_pos ha] at hm
          omega
        rw [hvm, d1, d2]
        by_cases hr : 0 < m % n
        · rw [if_pos (by simpa using hr), if_pos hr, if_pos hr]
          have hq2 : m / n ≤ 170141183460469231731687303715884105727 := by
            by_cases h1n : n = 1
            · subst h1n; rw [Int.emod_one] at hr; omega
            · have h3 := Int.emod_add_mul_ediv m n
              have h4 : 2 * (m / n) ≤ n * (m / n) := Int.mul_le_mul_of_nonneg_right (by omega) q0
              omega
          unfold wide_size_times.f
          rw [if_pos ⟨⟨by unfold inU; omega, by unfold inU; omega⟩, by decide, by decide⟩, hwq, Int.mul_one]
          simp only [Option.bind_some]
          rw [if_pos ha, hun, u64_id (n - m % n) (by omega) (by omega)]
          have hwq2 : wv ((m / n + 1) / 18446744073709551616 % 18446744073709551616) ((m / n + 1) % 18446744073709551616) = m / n + 1 := by unfold wv; omega
          unfold wide_size_signed.f
          rw [if_pos ⟨by unfold inU; omega, by unfold inU; omega⟩, hwq2]
          have hne : (!((m / n + 1) / 18446744073709551616 % 18446744073709551616 == 0) || !((m / n + 1) % 18446744073709551616 == 0)) = true := by
            rw [Bool.or_eq_true]
            simp only [Bool.not_eq_true', beq_eq_false_iff_ne]
            omega
          rw [hne, if_neg (by simp; omega)]
          simp only [Option.bind_some, if_true]
          rw [i64_id (n - m % n) (by omega) (by omega)]
        · rw [if_neg (by simpa using hr), if_neg hr, if_neg hr, if_pos ha]
          unfold wide_size_signed.f
          rw [if_pos ⟨by unfold inU; omega, by unfold inU; omega⟩, hwq]
          have hr0 : m % n = 0 := by omega
          by_cases hz : m / n = 0
          · have h3 := Int.emod_add_mul_ediv m n
            rw [hz, Int.mul_zero] at h3
            omega
          · have hne : (!(m / n / 18446744073709551616 == 0) || !(m / n % 18446744073709551616 == 0)) = true := by
              rw [Bool.or_eq_true]
              simp only [Bool.not_eq_true', beq_eq_false_iff_ne]
              omega
            rw [hne, if_neg (by simp; omega)]
            simp only [Option.bind_some, if_true]
            rw [hr0, i64_id 0 (by omega) (by omega)]
      · rw [if_neg ha]
        simp only [wide_DivP.j0, wide_DivP.j1]
        rw [if_neg ha] at hvm hm
        rw [if_neg (by decide), if_neg ha, hvm]
        unfold wide_size_signed.f
        rw [if_pos ⟨by unfold inU; omega, by unfold inU; omega⟩, hwq, if_neg (by simp; omega)]
        simp only [Option.bind_some, Bool.false_eq_true, if_false]
        rw [i64_id (m % n) (by omega) (by omega)]
  · cases h
theorem wide_Div.calls (a0_0 : Int) (a0_1 : Int) (a1 : Int) (r1 : Int) (r2 : Int) (r3 : Int) (r4 : Int) (w : World) (h : wide_Div.f a0_0 a0_1 a1 = some (r1, r2, r3, r4)) :
    Calls Tryd.prog 40 #[.agg #[.int .i64 a0_0, .int .u64 a0_1], .int .i64 a1] w fun e w' => e = .returned (.tuple #[.agg #[.int .i64 r1, .int .u64 r2], .int .i64 r3, .int .i64 r4]) ∧ Below w.heap.size w w' := by
  obtain ⟨k, h⟩ := wide_Div.eq h
  exact wide_DivP.calls k a0_0 a0_1 a1 r1 r2 r3 r4 w h
def wide_AddP.j0 : Nat → Int → Int → Bool → Option (Int × Int × Int)
  | 0, _, _, _ => none
  | k + 1, x6, x8, x39 => if x39 = true then (some (0, 0, 6)) else (some (x8, x6, 0))
def wide_AddP.f (k : Nat) (a0_0 : Int) (a0_1 : Int) (a1_0 : Int) (a1_1 : Int) : Option (Int × Int × Int) := if ((decide (a0_0 < 0)) == (decide (a1_0 < 0))) = true then (wide_AddP.j0 k (addLo a0_1 a1_1) (wrap64 ((wrap64 (a0_0 + a1_0)) + (wrap64 (addHi a0_1 a1_1)))) ((decide ((wrap64 ((wrap64 (a0_0 + a1_0)) + (wrap64 (addHi a0_1 a1_1)))) < 0)) != (decide (a0_0 < 0)))) else (wide_AddP.j0 k (addLo a0_1 a1_1) (wrap64 ((wrap64 (a0_0 + a1_0)) + (wrap64 (addHi a0_1 a1_1)))) false)
theorem wide_AddP.mono_l : ∀ k, (∀ y0 y1 y2, LeO (wide_AddP.j0 k y0 y1 y2) (wide_AddP.j0 (k + 1) y0 y1 y2))
  | 0 => fun _ _ _ r h => by simp [wide_AddP.j0] at h
  | k + 1 => by
    have ih0 := wide_AddP.mono_l k
    · intro y0 y1 y2
      unfold wide_AddP.j0
      repeat' first
      | (with_reducible exact ih0 _ _ _)
      | (with_reducible exact LeO.refl _)
      | (with_reducible exact LeO.none _)
      | (with_reducible refine LeO.ite ?_ ?_)
      | (with_reducible refine LeO.bind ?_ (fun _ => ?_))
      | exact ih0 _ _ _
      | exact LeO.none _
      | refine LeO.ite ?_ ?_
      | refine LeO.bind ?_ (fun _ => ?_)
theorem wide_AddP.mono : ∀ a0 a1 a2 a3 k, LeO (wide_AddP.f k a0 a1 a2 a3) (wide_AddP.f (k + 1) a0 a1 a2 a3) := by
  intro a0 a1 a2 a3 k
  have ih0 := wide_AddP.mono_l k
  unfold wide_AddP.f
  repeat' first
      | (with_reducible exact ih0 _ _ _)
      | (with_reducible exact LeO.refl _)
      | (with_reducible exact LeO.none _)
      | (with_reducible refine LeO.ite ?_ ?_)
      | (with_reducible refine LeO.bind ?_ (fun _ => ?_))
      | exact ih0 _ _ _
      | exact LeO.none _
      | refine LeO.ite ?_ ?_
      | refine LeO.bind ?_ (fun _ => ?_)
set_option maxHeartbeats 8000000 in
set_option maxRecDepth 100000 in
theorem wide_AddP.calls (k : Nat) (a0_0 : Int) (a0_1 : Int) (a1_0 : Int) (a1_1 : Int) (r1 : Int) (r2 : Int) (r3 : Int) (w : World) (h : wide_AddP.f k a0_0 a0_1 a1_0 a1_1 = some (r1, r2, r3)) :
    Calls Tryd.prog 41 #[.agg #[.int .i64 a0_0, .int .u64 a0_1], .agg #[.int .i64 a1_0, .int .u64 a1_1]] w fun e w' => e = .returned (.tuple #[.agg #[.int .i64 r1, .int .u64 r2], .int .i64 r3]) ∧ Below w.heap.size w w' := by
  have hu31 := Tryd.underlying31
  have hadd64 := add64_run
  have HB := Aside0.mk (Below.refl w.heap.size w)
  have H : (if ((decide (a0_0 < 0)) == (decide (a1_0 < 0))) = true then (wide_AddP.j0 k (addLo a0_1 a1_1) (wrap64 ((wrap64 (a0_0 + a1_0)) + (wrap64 (addHi a0_1 a1_1)))) ((decide ((wrap64 ((wrap64 (a0_0 + a1_0)) + (wrap64 (addHi a0_1 a1_1)))) < 0)) != (decide (a0_0 < 0)))) else (wide_AddP.j0 k (addLo a0_1 a1_1) (wrap64 ((wrap64 (a0_0 + a1_0)) + (wrap64 (addHi a0_1 a1_1)))) false)) = some (r1, r2, r3) := h
  clear h
  have HC3 := Aside0.mk H
  clear H
  go_enter Tryd.func41, Tryd.ntmps41
  go_upto_region 3 with (first | ((with_reducible refine gate_dst (N := 2) rfl ?_); refine box_event ?hg (N := 2) ?hd (cs := #[.int .i64 a0_0, .int .u64 a0_1]) (t := 31) ?hr ?_; (case hd => rfl); (case hg => rfl); (case hr => first | (go_simp; done) | (go_simp; rfl)); intro gb145 hg w4 hbox hb; have n0_ := Aside0.mk (below_step (qb_ HB.out) hb); have n1_ := Aside0.mk (hbox); have n2_ := Aside0.mk ((by rw [hg]; exact (below_size (qb_ HB.out)) : w.heap.size ≤ gb145)); have n3_ := Aside0.mk ((by rw [hg]; exact (below_size (qb_ HB.out)) : w.heap.size ≤ gb145)); clear HB; have HB := n0_; have BK145 := n1_; have GW145 := n2_; have GE145 := n3_; clear n0_ n1_ n2_ n3_; clear hb hbox hg) | ((with_reducible refine gate_dst (N := 3) rfl ?_); refine box_event ?hg (N := 3) ?hd (cs := #[.int .i64 a1_0, .int .u64 a1_1]) (t := 31) ?hr ?_; (case hd => rfl); (case hg => rfl); (case hr => first | (go_simp; done) | (go_simp; rfl)); intro gb146 hg w5 hbox hb; have n0_ := Aside0.mk (blk_below (g := gb145) (o := .cells #[.int .i64 a0_0, .int .u64 a0_1] 31 (0, 0)) (qk_ BK145.out) hb); have n1_ := Aside0.mk (below_step (by repeat (first | (with_reducible first | exact HB.out | apply below_alloc | apply pw_below_drewN | apply below_drew1 | refine below_set ?_ GE145.out) | exact HB.out)) hb); have n2_ := Aside0.mk (hbox); have n3_ := Aside0.mk ((by rw [hg]; exact (below_size (by repeat (first | (with_reducible first | exact HB.out | apply below_alloc | apply pw_below_drewN | apply below_drew1 | refine below_set ?_ GE145.out) | exact HB.out))) : w.heap.size ≤ gb146)); have n4_ := Aside0.mk ((by rw [hg]; exact (below_size (by repeat (first | (with_reducible first | exact HB.out | apply below_alloc | apply pw_below_drewN | apply below_drew1 | refine below_set ?_ GE145.out) | exact HB.out))) : w.heap.size ≤ gb146)); have n5_ := Aside0.mk ((by rw [hg]; exact Nat.ne_of_lt (blk_lt (g := gb145) (o := .cells #[.int .i64 a0_0, .int .u64 a0_1] 31 (0, 0)) (qk_ BK145.out)) : gb145 ≠ gb146)); have n6_ := Aside0.mk ((by rw [hg]; exact Nat.ne_of_gt (blk_lt (g := gb145) (o := .cells #[.int .i64 a0_0, .int .u64 a0_1] 31 (0, 0)) (qk_ BK145.out)) : gb146 ≠ gb145)); clear BK145; clear HB; have BK145 := n0_; have HB := n1_; have BK146 := n2_; have GW146 := n3_; have GE146 := n4_; have NB145_146 := n5_; have NB146_145 := n6_; clear n0_ n1_ n2_ n3_ n4_ n5_ n6_; clear hb hbox hg) | ((with_reducible refine gate_dst (N := 4) rfl ?_); refine box_event ?hg (N := 4) ?hd (cs := #[.int .i64 0, .int .u64 0]) (t := 31) ?hr ?_; (case hd => rfl); (case hg => rfl); (case hr => first | (go_simp; done) | (go_simp; rfl)); intro gb147 hg w6 hbox hb; have n0_ := Aside0.mk (blk_below (g := gb145) (o := .cells #[.int .i64 a0_0, .int .u64 a0_1] 31 (0, 0)) (qk_ BK145.out) hb); have n1_ := Aside0.mk (blk_below (g := gb146) (o := .cells #[.int .i64 a1_0, .int .u64 a1_1] 31 (0, 0)) (qk_ BK146.out) hb); have n2_ := Aside0.mk (below_step (by repeat (first | (with_reducible first | exact HB.out | apply below_alloc | apply pw_below_drewN | apply below_drew1 | refine below_set ?_ GE145.out | refine below_set ?_ GE146.out) | exact HB.out)) hb); have n3_ := Aside0.mk (hbox); have n4_ := Aside0.mk ((by rw [hg]; exact (below_size (by repeat (first | (with_reducible first | exact HB.out | apply below_alloc | apply pw_below_drewN | apply below_drew1 | refine below_set ?_ GE145.out | refine below_set ?_ GE146.out) | exact HB.out))) : w.heap.size ≤ gb147)); have n5_ := Aside0.mk ((by rw [hg]; exact (below_size (by repeat (first | (with_reducible first | exact HB.out | apply below_alloc | apply pw_below_drewN | apply below_drew1 | refine below_set ?_ GE145.out | refine below_set ?_ GE146.out) | exact HB.out))) : w.heap.size ≤ gb147)); have n6_ := Aside0.mk ((by rw [hg]; exact Nat.ne_of_lt (blk_lt (g := gb145) (o := .cells #[.int .i64 a0_0, .int .u64 a0_1] 31 (0, 0)) (qk_ BK145.out)) : gb145 ≠ gb147)); have n7_ := Aside0.mk ((by rw [hg]; exact Nat.ne_of_gt (blk_lt (g := gb145) (o := .cells #[.int .i64 a0_0, .int .u64 a0_1] 31 (0, 0)) (qk_ BK145.out)) : gb147 ≠ gb145)); have n8_ := Aside0.mk ((by rw [hg]; exact Nat.ne_of_lt (blk_lt (g := gb146) (o := .cells #[.int .i64 a1_0, .int .u64 a1_1] 31 (0, 0)) (qk_ BK146.out)) : gb146 ≠ gb147)); have n9_ := Aside0.mk ((by rw [hg]; exact Nat.ne_of_gt (blk_lt (g := gb146) (o := .cells #[.int .i64 a1_0, .int .u64 a1_1] 31 (0, 0)) (qk_ BK146.out)) : gb147 ≠ gb146)); clear BK145; clear BK146; clear HB; have BK145 := n0_; have BK146 := n1_; have HB := n2_; have BK147 := n3_; have GW147 := n4_; have GE147 := n5_; have NB145_147 := n6_; have NB147_145 := n7_; have NB146_147 := n8_; have NB147_146 := n9_; clear n0_ n1_ n2_ n3_ n4_ n5_ n6_ n7_ n8_ n9_; clear hb hbox hg; have hnb7 := NB145_146.out; have hnc7 := NB146_145.out; have hnb8 := NB145_147.out; have hnc8 := NB147_145.out; have hcz9_0 : w6.cell? ⟨gb145, 0, none⟩ = some (.int .i64 a0_0) := (blk_cell BK145.out 0).trans rfl; have hcz9_1 : w6.cell? ⟨gb145, 1, none⟩ = some (.int .u64 a0_1) := (blk_cell BK145.out 1).trans rfl; have hfz9_0 := blk_frozen BK145.out 0; have hfz9_1 := blk_frozen BK145.out 1; have hnb10 := NB146_147.out; have hnc10 := NB147_146.out; have hcz11_0 : w6.cell? ⟨gb146, 0, none⟩ = some (.int .i64 a1_0) := (blk_cell BK146.out 0).trans rfl; have hcz11_1 : w6.cell? ⟨gb146, 1, none⟩ = some (.int .u64 a1_1) := (blk_cell BK146.out 1).trans rfl; have hfz11_0 := blk_frozen BK146.out 0; have hfz11_1 := blk_frozen BK146.out 1))
  (try simp only [Act.put, List.setIfInBounds_toArray, List.set_cons_zero, List.set_cons_succ])
  go_cut [39] (fun v39 wc => ∃ (kq : Nat) (x39_2 : Bool), v39 = .bool x39_2 ∧ Aside0 (wide_AddP.j0 kq (addLo a0_1 a1_1) (wrap64 ((wrap64 (a0_0 + a1_0)) + (wrap64 (addHi a0_1 a1_1)))) x39_2 = some (r1, r2, r3)) ∧ Aside0 (kq ≤ k) ∧ Aside0 (wc.heap[gb145]? = some (.cells #[.int .i64 a0_0, .int .u64 a0_1] 31 (0, 0))) ∧ Aside0 (wc.heap[gb146]? = some (.cells #[.int .i64 a1_0, .int .u64 a1_1] 31 (0, 0))) ∧ Aside0 (wc.heap[gb147]? = some (.cells #[.int .i64 0, .int .u64 0] 31 (0, 0))) ∧ Aside0 (Below w.heap.size w wc))
  case first =>
    have H := HC3.out
    clear HC3
    by_cases c12 : ((decide (a0_0 < 0)) == (decide (a1_0 < 0))) = true
    · rw [if_pos c12] at H
      have c12b0 : ((decide (a0_0 < 0)) == (decide (a1_0 < 0))) = true := c12
      (try (have c12b1 : decide ((decide (a0_0 < 0)) = (decide (a1_0 < 0))) = true := by simpa using c12))
      (try (have c12b2 : ((decide (a0_0 < 0)) == (decide (a1_0 < 0))) = true := by simpa using c12))
      clear c12
      (first | rw [c12b0] | (simp only [i64_w, i32_w]; rw [c12b0]) | skip)
      have H' := Aside0.mk H
      clear H
      have hnb13 := NB145_146.out
      have hnc13 := NB146_145.out
      have hnb14 := NB145_147.out
      have hnc14 := NB147_145.out
      have hcz15_0 : w6.cell? ⟨gb145, 0, none⟩ = some (.int .i64 a0_0) := (blk_cell BK145.out 0).trans rfl
      have hcz15_1 : w6.cell? ⟨gb145, 1, none⟩ = some (.int .u64 a0_1) := (blk_cell BK145.out 1).trans rfl
      have hfz15_0 := blk_frozen BK145.out 0
      have hfz15_1 := blk_frozen BK145.out 1
      have hnb16 := NB146_147.out
      have hnc16 := NB147_146.out
      have hcz17_0 : w6.cell? ⟨gb146, 0, none⟩ = some (.int .i64 a1_0) := (blk_cell BK146.out 0).trans rfl
      have hcz17_1 : w6.cell? ⟨gb146, 1, none⟩ = some (.int .u64 a1_1) := (blk_cell BK146.out 1).trans rfl
      have hfz17_0 := blk_frozen BK146.out 0
      have hfz17_1 := blk_frozen BK146.out 1
      go_wp2
      go_meet
      case rel => exact ⟨_, (((decide ((wrap64 ((wrap64 (a0_0 + a1_0)) + (wrap64 (addHi a0_1 a1_1)))) < 0)) != (decide (a0_0 < 0)))), (by first | rfl | (simp; done) | (simp [*]; done)), H', ⟨by first | omega | exact Nat.le_refl _⟩, ⟨by (with_reducible repeat (first | refine blk_drewN ?_ _ | refine blk_drew ?_ | refine blk_alloc ?_ _)); exact BK145.out⟩, ⟨by (with_reducible repeat (first | refine blk_drewN ?_ _ | refine blk_drew ?_ | refine blk_alloc ?_ _)); exact BK146.out⟩, ⟨by (with_reducible repeat (first | refine blk_drewN ?_ _ | refine blk_drew ?_ | refine blk_alloc ?_ _)); exact BK147.out⟩, ⟨by repeat (first | (with_reducible first | exact HB.out | apply below_alloc | apply pw_below_drewN | apply below_drew1 | refine below_set ?_ GE145.out | refine below_set ?_ GE146.out | refine below_set ?_ GE147.out) | exact HB.out)⟩⟩
    · rw [if_neg c12] at H
      have c12b0 : ((decide (a0_0 < 0)) == (decide (a1_0 < 0))) = false := by simpa using c12
      (try (have c12b1 : decide ((decide (a0_0 < 0)) = (decide (a1_0 < 0))) = false := by simpa using c12))
      (try (have c12b2 : ((decide (a0_0 < 0)) == (decide (a1_0 < 0))) = false := by simpa using c12))
      (try (have c12b3 : ¬ ((decide (a0_0 < 0)) = (decide (a1_0 < 0))) := by simpa using c12))
      clear c12
      (first | rw [c12b0] | (simp only [i64_w, i32_w]; rw [c12b0]) | skip)
      have H' := Aside0.mk H
      clear H
      have hnb18 := NB145_146.out
      have hnc18 := NB146_145.out
      have hnb19 := NB145_147.out
      have hnc19 := NB147_145.out
      have hcz20_0 : w6.cell? ⟨gb145, 0, none⟩ = some (.int .i64 a0_0) := (blk_cell BK145.out 0).trans rfl
      have hcz20_1 : w6.cell? ⟨gb145, 1, none⟩ = some (.int .u64 a0_1) := (blk_cell BK145.out 1).trans rfl
      have hfz20_0 := blk_frozen BK145.out 0
      have hfz20_1 := blk_frozen BK145.out 1
      have hnb21 := NB146_147.out
      have hnc21 := NB147_146.out
      have hcz22_0 : w6.cell? ⟨gb146, 0, none⟩ = some (.int .i64 a1_0) := (blk_cell BK146.out 0).trans rfl
      have hcz22_1 : w6.cell? ⟨gb146, 1, none⟩ = some (.int .u64 a1_1) := (blk_cell BK146.out 1).trans rfl
      have hfz22_0 := blk_frozen BK146.out 0
      have hfz22_1 := blk_frozen BK146.out 1
      go_wp2
      go_meet
      case rel => exact ⟨_, (false), (by first | rfl | (simp; done) | (simp [*]; done)), H', ⟨by first | omega | exact Nat.le_refl _⟩, ⟨by (with_reducible repeat (first | refine blk_drewN ?_ _ | refine blk_drew ?_ | refine blk_alloc ?_ _)); exact BK145.out⟩, ⟨by (with_reducible repeat (first | refine blk_drewN ?_ _ | refine blk_drew ?_ | refine blk_alloc ?_ _)); exact BK146.out⟩, ⟨by (with_reducible repeat (first | refine blk_drewN ?_ _ | refine blk_drew ?_ | refine blk_alloc ?_ _)); exact BK147.out⟩, ⟨by repeat (first | (with_reducible first | exact HB.out | apply below_alloc | apply pw_below_drewN | apply below_drew1 | refine below_set ?_ GE145.out | refine below_set ?_ GE146.out | refine below_set ?_ GE147.out) | exact HB.out)⟩⟩
  case rest =>
    clear HC3
    try clear c1
    try clear c2
    try clear p2
    try clear c4
    try clear p6
    try clear c7
    try clear c8
    try clear c10
    try clear c12
    try clear c12b0
    try clear c12b1
    try clear c12b2
    try clear c13
    try clear c14
    try clear c16
    try clear c18
    try clear c19
    try clear c21
    try clear hcz11_0
    try clear hcz11_1
    try clear hcz15_0
    try clear hcz15_1
    try clear hcz17_0
    try clear hcz17_1
    try clear hcz20_0
    try clear hcz20_1
    try clear hcz22_0
    try clear hcz22_1
    try clear hcz9_0
    try clear hcz9_1
    try clear hfz11_0
    try clear hfz11_1
    try clear hfz15_0
    try clear hfz15_1
    try clear hfz17_0
    try clear hfz17_1
    try clear hfz20_0
    try clear hfz20_1
    try clear hfz22_0
    try clear hfz22_1
    try clear hfz9_0
    try clear hfz9_1
    obtain ⟨kq, x39_2, rfl, HA, HJ2, BK145, BK146, BK147, HB⟩ := hcut
    cases kq with
    | zero => exact absurd HA.out (by simp [wide_AddP.j0])
    | succ kj2 =>
      have H := HA.out
      clear HA
      simp only [wide_AddP.j0] at H
      by_cases c23 : x39_2 = true
      · subst c23
        have H1 : (some (0, 0, 6)) = some (r1, r2, r3) := by rw [if_pos rfl] at H; exact H
        clear H
        have H := H1
        clear H1
        simp only [Option.some.injEq, Prod.mk.injEq] at H
        obtain ⟨rfl, rfl, rfl⟩ := H
        have hnb24 := NB147_145.out
        have hnc24 := NB145_147.out
        have hnb25 := NB147_146.out
        have hnc25 := NB146_147.out
        have hcz26_0 : wc.cell? ⟨gb147, 0, none⟩ = some (.int .i64 0) := (blk_cell BK147.out 0).trans rfl
        have hcz26_1 : wc.cell? ⟨gb147, 1, none⟩ = some (.int .u64 0) := (blk_cell BK147.out 1).trans rfl
        have hfz26_0 := blk_frozen BK147.out 0
        have hfz26_1 := blk_frozen BK147.out 1
        go_wp2
        refine bodyPost_ret (results_ct rfl _ _ gb147 31 #[.int .i64 0, .int .u64 0] (0, 0) _ rfl (by (with_reducible repeat (first | refine blk_drewN ?_ _ | refine blk_drew ?_ | refine blk_alloc ?_ _)); refine blk_put (cs := #[.int .i64 0, .int .u64 0]) ?_ 1 _ rfl; (with_reducible repeat (first | refine blk_drewN ?_ _ | refine blk_drew ?_ | refine blk_alloc ?_ _)); refine blk_put (cs := #[.int .i64 0, .int .u64 0]) ?_ 0 _ rfl; (with_reducible repeat (first | refine blk_drewN ?_ _ | refine blk_drew ?_ | refine blk_alloc ?_ _)); exact BK147.out) Tryd.underlying31 rfl (by kernel_rfl)) rfl ?_
        exact ⟨by first | rfl | (simp [errW_none, errW_some] <;> rfl) | (simp [*, errW_none, errW_some] <;> rfl), by repeat (first | (with_reducible first | exact HB.out | apply below_alloc | apply pw_below_drewN | apply below_drew1 | refine below_set ?_ GE145.out | refine below_set ?_ GE146.out | refine below_set ?_ GE147.out) | exact HB.out)⟩
      · replace c23 := Bool.eq_false_iff.mpr c23
        subst c23
        have H1 : (some ((wrap64 ((wrap64 (a0_0 + a1_0)) + (wrap64 (addHi a0_1 a1_1)))), (addLo a0_1 a1_1), 0)) = some (r1, r2, r3) := by rw [if_neg (show ¬ (false = true) by decide)] at H; exact H
        clear H
        have H := H1
        clear H1
        simp only [Option.some.injEq, Prod.mk.injEq] at H
        obtain ⟨rfl, rfl, rfl⟩ := H
        have hnb27 := NB147_145.out
        have hnc27 := NB145_147.out
        have hnb28 := NB147_146.out
        have hnc28 := NB146_147.out
        have hcz29_0 : wc.cell? ⟨gb147, 0, none⟩ = some (.int .i64 0) := (blk_cell BK147.out 0).trans rfl
        have hcz29_1 : wc.cell? ⟨gb147, 1, none⟩ = some (.int .u64 0) := (blk_cell BK147.out 1).trans rfl
        have hfz29_0 := blk_frozen BK147.out 0
        have hfz29_1 := blk_frozen BK147.out 1
        go_wp2
        refine bodyPost_ret (results_ct rfl _ _ gb147 31 #[.int .i64 (wrap64 ((wrap64 (a0_0 + a1_0)) + (wrap64 (addHi a0_1 a1_1)))), .int .u64 (addLo a0_1 a1_1)] (0, 0) _ rfl (by (with_reducible repeat (first | refine blk_drewN ?_ _ | refine blk_drew ?_ | refine blk_alloc ?_ _)); refine blk_put (cs := #[.int .i64 (wrap64 ((wrap64 (a0_0 + a1_0)) + (wrap64 (addHi a0_1 a1_1)))), .int .u64 0]) ?_ 1 _ rfl; (with_reducible repeat (first | refine blk_drewN ?_ _ | refine blk_drew ?_ | refine blk_alloc ?_ _)); refine blk_put (cs := #[.int .i64 0, .int .u64 0]) ?_ 0 _ rfl; (with_reducible repeat (first | refine blk_drewN ?_ _ | refine blk_drew ?_ | refine blk_alloc ?_ _)); exact BK147.out) Tryd.underlying31 rfl (by kernel_rfl)) rfl ?_
        exact ⟨by first | rfl | (simp [errW_none, errW_some] <;> rfl) | (simp [*, errW_none, errW_some] <;> rfl), by repeat (first | (with_reducible first | exact HB.out | apply below_alloc | apply pw_below_drewN | apply below_drew1 | refine below_set ?_ GE145.out | refine below_set ?_ GE146.out | refine below_set ?_ GE147.out) | exact HB.out)⟩
def wide_Add.f (a0_0 a0_1 a1_0 a1_1 : Int) : Option (Int × Int × Int) :=
  if isW a0_0 a0_1 ∧ isW a1_0 a1_1 then
    some (if in128 (wv a0_0 a0_1 + wv a1_0 a1_1) then ((wv a0_0 a0_1 + wv a1_0 a1_1) / 18446744073709551616, (wv a0_0 a0_1 + wv a1_0 a1_1) % 18446744073709551616, 0) else (0, 0, 6)) else none
theorem wide_Add.eq {a b c d : Int} {r : Int × Int × Int} (h : wide_Add.f a b c d = some r) : ∃ k, wide_AddP.f k a b c d = some r := by
  unfold wide_Add.f at h
  split at h
  · rename_i q
    obtain ⟨⟨⟨a0, a1⟩, b0, b1⟩, ⟨c0, c1⟩, d0, d1⟩ := q
    injection h with h
    subst h
    refine ⟨1, ?_⟩
    unfold wide_AddP.f
    simp only [wide_AddP.j0]
    have hl : addLo b d = (b + d) % 18446744073709551616 := by unfold addLo; omega
    have hh : addHi b d = (b + d) / 18446744073709551616 := by unfold addHi; omega
    rw [hl, hh]
    have hw : wrap64 (wrap64 (a + c) + wrap64 ((b + d) / 18446744073709551616)) = (a + c + (b + d) / 18446744073709551616 + 9223372036854775808) % 18446744073709551616 - 9223372036854775808 := by unfold wrap64; omega
    rw [hw]
    clear hl hh hw
    by_cases hin : in128 (wv a b + wv c d)
    · rw [if_pos hin]
      unfold in128 wv at hin
      have e1 : (a + c + (b + d) / 18446744073709551616 + 9223372036854775808) % 18446744073709551616 - 9223372036854775808 = (wv a b + wv c d) / 18446744073709551616 := by unfold wv; omega
      have e2 : (b + d) % 18446744073709551616 = (wv a b + wv c d) % 18446744073709551616 := by unfold wv; omega
      have e3 : (wv a b + wv c d) / 18446744073709551616 = a + c + (b + d) / 18446744073709551616 := by unfold wv; omega
      rw [e1, e2]
      by_cases s1 : a < 0 <;> by_cases s2 : c < 0
      · have s3 : (wv a b + wv c d) / 18446744073709551616 < 0 := by omega
        simp [s1, s2, s3]
      · simp [s1, s2]
      · simp [s1, s2]
      · have s3 : ¬ (wv a b + wv c d) / 18446744073709551616 < 0 := by omega
        simp [s1, s2, s3]
    · rw [if_neg hin]
      unfold in128 wv at hin
      by_cases s1 : a < 0 <;> by_cases s2 : c < 0
      · have s3 : ¬ (a + c + (b + d) / 18446744073709551616 + 9223372036854775808) % 18446744073709551616 - 9223372036854775808 < 0 := by omega
        simp [s1, s2, s3]
      · omega
      · omega
      · have s3 : (a + c + (b + d) / 18446744073709551616 + 9223372036854775808) % 18446744073709551616 - 9223372036854775808 < 0 := by omega
        simp [s1, s2, s3]
  · cases h
theorem wide_Add.calls (a0_0 : Int) (a0_1 : Int) (a1_0 : Int) (a1_1 : Int) (r1 : Int) (r2 : Int) (r3 : Int) (w : World) (h : wide_Add.f a0_0 a0_1 a1_0 a1_1 = some (r1, r2, r3)) :
    Calls Tryd.prog 41 #[.agg #[.int .i64 a0_0, .int .u64 a0_1], .agg #[.int .i64 a1_0, .int .u64 a1_1]] w fun e w' => e = .returned (.tuple #[.agg #[.int .i64 r1, .int .u64 r2], .int .i64 r3]) ∧ Below w.heap.size w w' := by
  obtain ⟨k, h⟩ := wide_Add.eq h
  exact wide_AddP.calls k a0_0 a0_1 a1_0 a1_1 r1 r2 r3 w h
def wide_OfP.f (a0 : Int) : Option (Int × Int) := some (a0 / 9223372036854775808, IntKind.u64.wrap (a0))
set_option maxHeartbeats 8000000 in
set_option maxRecDepth 100000 in
theorem wide_OfP.calls (a0 : Int) (r1 : Int) (r2 : Int) (w : World) (h : wide_OfP.f a0 = some (r1, r2)) :
    Calls Tryd.prog 42 #[.int .i64 a0] w fun e w' => e = .returned (.agg #[.int .i64 r1, .int .u64 r2]) ∧ Below w.heap.size w w' := by
  have hu31 := Tryd.underlying31
  have HB := Aside0.mk (Below.refl w.heap.size w)
  have H : (some (a0 / 9223372036854775808, IntKind.u64.wrap (a0))) = some (r1, r2) := h
  clear h
  simp only [Option.some.injEq, Prod.mk.injEq] at H
  obtain ⟨rfl, rfl⟩ := H
  go_enter Tryd.func42, Tryd.ntmps42
  go_wp2_with (first | ((with_reducible refine gate_dst (N := 2) rfl ?_); refine box_event ?hg (N := 2) ?hd (cs := #[.int .i64 0, .int .u64 0]) (t := 31) ?hr ?_; (case hd => rfl); (case hg => rfl); (case hr => first | (go_simp; done) | (go_simp; rfl)); intro gb148 hg w2 hbox hb; have n0_ := Aside0.mk (below_step (qb_ HB.out) hb); have n1_ := Aside0.mk (hbox); have n2_ := Aside0.mk ((by rw [hg]; exact (below_size (qb_ HB.out)) : w.heap.size ≤ gb148)); have n3_ := Aside0.mk ((by rw [hg]; exact (below_size (qb_ HB.out)) : w.heap.size ≤ gb148)); clear HB; have HB := n0_; have BK148 := n1_; have GW148 := n2_; have GE148 := n3_; clear n0_ n1_ n2_ n3_; clear hb hbox hg; have hcz3_0 : w2.cell? ⟨gb148, 0, none⟩ = some (.int .i64 0) := (blk_cell BK148.out 0).trans rfl; have hcz3_1 : w2.cell? ⟨gb148, 1, none⟩ = some (.int .u64 0) := (blk_cell BK148.out 1).trans rfl; have hfz3_0 := blk_frozen BK148.out 0; have hfz3_1 := blk_frozen BK148.out 1))
  refine bodyPost_ret (results_cell_row rfl _ _ gb148 31 #[.int .i64 (a0 / 9223372036854775808), .int .u64 (IntKind.u64.wrap (a0))] (0, 0) _ rfl (by (with_reducible repeat (first | refine blk_drewN ?_ _ | refine blk_drew ?_ | refine blk_alloc ?_ _)); refine blk_put (cs := #[.int .i64 (a0 / 9223372036854775808), .int .u64 0]) ?_ 1 _ rfl; (with_reducible repeat (first | refine blk_drewN ?_ _ | refine blk_drew ?_ | refine blk_alloc ?_ _)); refine blk_put (cs := #[.int .i64 0, .int .u64 0]) ?_ 0 _ rfl; (with_reducible repeat (first | refine blk_drewN ?_ _ | refine blk_drew ?_ | refine blk_alloc ?_ _)); exact BK148.out) Tryd.underlying31 rfl (by kernel_rfl)) rfl ?_
  exact ⟨by first | rfl | (simp [errW_none, errW_some] <;> rfl) | (simp [*, errW_none, errW_some] <;> rfl), by repeat (first | (with_reducible first | exact HB.out | apply below_alloc | apply pw_below_drewN | apply below_drew1 | refine below_set ?_ GE148.out) | exact HB.out)⟩
def wide_Of.f (a0 : Int) : Option (Int × Int) := if inI a0 then some (a0 / 18446744073709551616, a0 % 18446744073709551616) else none
theorem wide_Of.eq {a : Int} {r : Int × Int} (h : wide_Of.f a = some r) : wide_OfP.f a = some r := by
  unfold wide_Of.f at h
  split at h
  · rename_i c
    obtain ⟨c0, c1⟩ := c
    injection h with h
    subst h
    unfold wide_OfP.f
    simp only [IntKind.wrap_u64]
    congr 2
    omega
  · cases h
theorem wide_Of.calls (a0 : Int) (r1 : Int) (r2 : Int) (w : World) (h : wide_Of.f a0 = some (r1, r2)) :
    Calls Tryd.prog 42 #[.int .i64 a0] w fun e w' => e = .returned (.agg #[.int .i64 r1, .int .u64 r2]) ∧ Below w.heap.size w w' := by
  have h := wide_Of.eq h
  exact wide_OfP.calls a0 r1 r2 w h
def rounding_more.f (a0_0 a0_1 a1 a2 a3 : Int) : Option Int :=
  if (1 ≤ a3 ∧ a3 ≤ 6) ∧ inI a0_0 ∧ inU a0_1 ∧ 0 < a1 ∧ a1 < a2 ∧ a2 ≤ 9223372036854775807 then
    some (if upB (decide (a0_0 < 0)) (decide (a0_1 % 2 = 1)) a1 a2 a3 = true then 1 else 0) else none
theorem and1 (x : Int) (h0 : 0 ≤ x) (h1 : x ≤ 18446744073709551615) : bits .and .u64 x 1 = x % 2 := by
  obtain ⟨n, rfl⟩ := Int.eq_ofNat_of_zero_le h0
  have h := u64_and_nat n 1 (by omega) (by omega)
  rw [show ((1 : Nat) : Int) = 1 from rfl] at h
  rw [h, Nat.and_one_is_mod]
  omega
set_option maxHeartbeats 4000000 in
set_option maxRecDepth 100000 in
theorem rounding_more.calls (a0_0 a0_1 a1 a2 a3 r : Int) (w : World) (hG : GW w) (h : rounding_more.f a0_0 a0_1 a1 a2 a3 = some r) :
    Calls Tryd.prog 43 #[.agg #[.int .i64 a0_0, .int .u64 a0_1], .int .i64 a1, .int .i64 a2, .int .i64 a3] w fun e w' => e = .returned (.int .i64 r) ∧ Below w.heap.size w w' := by
  unfold rounding_more.f at h
  split at h
  · rename_i c
    obtain ⟨⟨m1, m6⟩, ⟨i0, i1⟩, ⟨u0, u1⟩, p1, p2, p3⟩ := c
    injection h with h
    have hG' := hG.below (Below.alloc (Below.refl w.heap.size w) (Nat.le_refl _) (.cells #[.int .i64 a0_0, .int .u64 a0_1] 31))
    have s2 := hG'.st 2 (by decide)
    have s3 := hG'.st 3 (by decide)
    have s4 := hG'.st 4 (by decide)
    have s5 := hG'.st 5 (by decide)
    have s6 := hG'.st 6 (by decide)
    have s7 := hG'.st 7 (by decide)
    have s8 := hG'.st 8 (by decide)
    have s9 := hG'.st 9 (by decide)
    simp only [stepsL, List.getD_cons_succ, List.getD_cons_zero] at s2 s3 s4 s5 s6 s7 s8 s9
    clear hG hG'
    have fin : ∀ {x : Int}, x = r → (Ending.returned (.int .i64 x) = Ending.returned (.int .i64 r)) := by rintro x rfl; rfl
    by_cases hn : a0_0 < 0
    all_goals rcases (by omega : a3 = 1 ∨ a3 = 2 ∨ a3 = 3 ∨ a3 = 4 ∨ a3 = 5 ∨ a3 = 6) with rfl | rfl | rfl | rfl | rfl | rfl
    all_goals
      simp [upB, hn] at h
      have HH := Aside0.mk h
      clear h
      go_enter Tryd.func43, Tryd.ntmps43
      go_wp2
      all_goals
        go_ret
        refine ⟨fin ?_, (Below.refl _ _).alloc (Nat.le_refl _) _⟩
        have h := HH.out
        clear HH s2 s3 s4 s5 s6 s7 s8 s9 fin
        go_light
        first
          | exact h
          | (rw [and1 _ u0 u1]; unfold wrap64; omega)
          | (rw [and1 _ u0 u1]; unfold wrap64; split at h <;> omega)
          | (split at h <;> omega)
  · cases h
end Go.Proofs.YtbifbnjkpmmedaaDoor.PA
