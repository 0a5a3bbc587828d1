import Derived.Test.YtbifbnjkpmmedaaDoorQAx0
import Derived.Test.YtbifbnjkpmmedaaDoorQAx14
import Derived.Test.YtbifbnjkpmmedaaDoorQAx17
import Derived.Test.YtbifbnjkpmmedaaDoorQAx19
namespace Go.Proofs.YtbifbnjkpmmedaaDoor.PA
open Go.RowKit Go.Proofs.YtbifbnjkpmmedaaDoorW.PrintWords Go.Proofs.YtbifbnjkpmmedaaDoorW.PrintLast Go.Proofs.YtbifbnjkpmmedaaDoorW.PrintMore
attribute [local go_sem] max2_int max_two
set_option linter.unusedVariables false
set_option linter.unusedSimpArgs false
def corebankref01_Quotient.f (a0_0 a0_1 a1 : Int) : Option (Int × Int × Int) :=
  if (inU a0_0 ∧ inU a0_1) ∧ 1 ≤ a1 ∧ a1 ≤ 9223372036854775807 then
    some (wv a0_0 a0_1 / a1 / 18446744073709551616, wv a0_0 a0_1 / a1 % 18446744073709551616, wv a0_0 a0_1 % a1) else none
theorem quot_loop (y : Int) (y0 : 1 ≤ y) (y1 : y ≤ 9223372036854775807) (n : Nat) :
    ∀ (x T q rest i : Int), 0 ≤ x → x < 340282366920938463463374607431768211456 → 0 ≤ q → 0 ≤ rest → rest < y → T = q * y + rest → T * 2 ^ n + x * 2 ^ n / 340282366920938463463374607431768211456 < 340282366920938463463374607431768211456 → 0 ≤ i → 128 - i = n →
      corebankref01_QuotientP.l0 (2 * n + 1) y rest i (x / 18446744073709551616) (x % 18446744073709551616) (q / 18446744073709551616) (q % 18446744073709551616) =
        some ((T * 2 ^ n + x * 2 ^ n / 340282366920938463463374607431768211456) / y / 18446744073709551616, (T * 2 ^ n + x * 2 ^ n / 340282366920938463463374607431768211456) / y % 18446744073709551616, (T * 2 ^ n + x * 2 ^ n / 340282366920938463463374607431768211456) % y) := by
  induction n with
  | zero =>
    intro x T q rest i x0 x1 q0 r0 r1 hT hF j0 j1
    simp only [Nat.mul_zero, Nat.zero_add, corebankref01_QuotientP.l0]
    rw [if_neg (by omega)]
    have : T * 2 ^ 0 + x * 2 ^ 0 / 340282366920938463463374607431768211456 = T := by rw [Int.pow_zero, Int.mul_one, Int.mul_one, Int.ediv_eq_zero_of_lt x0 x1]; omega
    rw [this]
    obtain ⟨f1, f2⟩ := div_of (by omega) hT r0 r1
    rw [f1, f2]
  | succ n ih =>
    intro x T q rest i x0 x1 q0 r0 r1 hT hF j0 j1
    have p0 : 0 < (2 : Int) ^ n := Int.pow_pos (by decide)
    have hqy : 0 ≤ q * y := Int.mul_nonneg q0 (by omega)
    have T0 : 0 ≤ T := by omega
    have hf : T * 2 ^ (n + 1) = 2 * T * 2 ^ n := by rw [Int.pow_succ]; grind
    have hx : x * 2 ^ (n + 1) = 2 * x * 2 ^ n := by rw [Int.pow_succ]; grind
    rw [hf, hx] at hF
    have hxp : 0 ≤ 2 * x * 2 ^ n := Int.mul_nonneg (by omega) (by omega)
    have hT2 : 2 * T < 340282366920938463463374607431768211456 := by
      have h1 : 2 * T * 1 ≤ 2 * T * 2 ^ n := Int.mul_le_mul_of_nonneg_left (by omega) (by omega)
      omega
    have hq2 : 2 * q ≤ 2 * T := by
      have : q * 1 ≤ q * y := Int.mul_le_mul_of_nonneg_left y0 q0
      omega
    have hwx : wv (x / 18446744073709551616) (x % 18446744073709551616) = x := by unfold wv; omega
    have hwq : wv (q / 18446744073709551616) (q % 18446744073709551616) = q := by unfold wv; omega
    have hbit : (Go.bits .and .u64 (x / 18446744073709551616) 9223372036854775808 = 0) ↔ x < 170141183460469231731687303715884105728 := by
      rw [andTop _ (by omega) (by omega)]; omega
    have hr2 : IntKind.u64.wrap (rest * 2) = rest * 2 := u64_id _ (by omega) (by omega)
    have hr3 : IntKind.u64.wrap (rest * 2 + 1) = rest * 2 + 1 := u64_id _ (by omega) (by omega)
    have hi : wrap64 (i + 1) = i + 1 := i64_id _ (by omega) (by omega)
    -- one round, for each value of the bit
    have round : ∀ bit : Int, (bit = 0 ∧ x < 170141183460469231731687303715884105728 ∨ bit = 1 ∧ ¬ x < 170141183460469231731687303715884105728) →
        corebankref01_QuotientP.j1 (2 * n + 1 + 1) y (rest * 2 + bit) i (x / 18446744073709551616) (x % 18446744073709551616) (q / 18446744073709551616) (q % 18446744073709551616) =
          some ((2 * T * 2 ^ n + 2 * x * 2 ^ n / 340282366920938463463374607431768211456) / y / 18446744073709551616, (2 * T * 2 ^ n + 2 * x * 2 ^ n / 340282366920938463463374607431768211456) / y % 18446744073709551616, (2 * T * 2 ^ n + 2 * x * 2 ^ n / 340282366920938463463374607431768211456) % y) := by
      intro bit hb
      have b01 : 0 ≤ bit ∧ bit ≤ 1 := by omega
      simp only [corebankref01_QuotientP.j1]
      unfold corebankref01_shifted.f
      rw [if_pos ⟨by unfold inU; omega, by unfold inU; omega⟩, if_pos ⟨by unfold inU; omega, by unfold inU; omega⟩, hwx, hwq]
      simp only [Option.bind_some]
      have g : (2 * T + bit) * 2 ^ n + (2 * x - bit * 340282366920938463463374607431768211456) * 2 ^ n / 340282366920938463463374607431768211456 = 2 * T * 2 ^ n + 2 * x * 2 ^ n / 340282366920938463463374607431768211456 := by
        rw [Int.add_mul, Int.sub_mul]
        have : bit * 340282366920938463463374607431768211456 * 2 ^ n = bit * 2 ^ n * 340282366920938463463374607431768211456 := by rw [Int.mul_right_comm]
        rw [this]
        generalize bit * 2 ^ n = p at *
        generalize 2 * x * 2 ^ n = z at *
        omega
      have hxm : 2 * x / 18446744073709551616 % 18446744073709551616 = (2 * x - bit * 340282366920938463463374607431768211456) / 18446744073709551616 := by omega
      have hxl : 2 * x % 18446744073709551616 = (2 * x - bit * 340282366920938463463374607431768211456) % 18446744073709551616 := by omega
      have hqm : 2 * q / 18446744073709551616 % 18446744073709551616 = 2 * q / 18446744073709551616 := by omega
      rw [hxm, hxl, hqm, hi]
      by_cases hc : rest * 2 + bit ≥ y
      · rw [if_pos hc, u64_id (rest * 2 + bit - y) (by omega) (by omega), u64_id (2 * q % 18446744073709551616 + 1) (by omega) (by omega),
          show 2 * q / 18446744073709551616 = (2 * q + 1) / 18446744073709551616 by omega, show 2 * q % 18446744073709551616 + 1 = (2 * q + 1) % 18446744073709551616 by omega,
          ih (2 * x - bit * 340282366920938463463374607431768211456) (2 * T + bit) (2 * q + 1) (rest * 2 + bit - y) (i + 1) (by omega) (by omega) (by omega) (by omega) (by omega)
            (by rw [hT, Int.add_mul, Int.one_mul, Int.mul_assoc]; omega) (by rw [g]; exact hF) (by omega) (by omega), g]
      · rw [if_neg hc, ih (2 * x - bit * 340282366920938463463374607431768211456) (2 * T + bit) (2 * q) (rest * 2 + bit) (i + 1) (by omega) (by omega) (by omega) (by omega) (by omega)
            (by rw [hT, Int.mul_assoc]; omega) (by rw [g]; exact hF) (by omega) (by omega), g]
    rw [show 2 * (n + 1) + 1 = (2 * n + 1 + 1) + 1 by omega, corebankref01_QuotientP.l0, if_pos (by omega), hf, hx, hr2, hr3]
    by_cases hb : x < 170141183460469231731687303715884105728
    · rw [if_pos (hbit.2 hb)]
      have := round 0 (.inl ⟨rfl, hb⟩)
      rwa [Int.add_zero] at this
    · rw [if_neg (fun hc => hb (hbit.1 hc))]
      exact round 1 (.inr ⟨rfl, hb⟩)
theorem corebankref01_Quotient.eq {a b c : Int} {r : Int × Int × Int} (h : corebankref01_Quotient.f a b c = some r) : ∃ k, corebankref01_QuotientP.f k a b c = some r := by
  unfold corebankref01_Quotient.f at h
  split at h
  · rename_i q
    obtain ⟨⟨⟨a0, a1⟩, b0, b1⟩, c0, c1⟩ := q
    injection h with h
    subst h
    refine ⟨2 * 128 + 1, ?_⟩
    unfold corebankref01_QuotientP.f
    have hv : wv a b = a * 18446744073709551616 + b := rfl
    have hF : 0 * 2 ^ 128 + wv a b * 2 ^ 128 / 340282366920938463463374607431768211456 = wv a b := by
      rw [show (340282366920938463463374607431768211456 : Int) = 2 ^ 128 by decide, Int.mul_ediv_cancel _ (by decide)]; omega
    have := quot_loop c c0 c1 128 (wv a b) 0 0 0 0 (by omega) (by omega) (by omega) (by omega) (by omega) (by omega) (by rw [hF]; omega) (by omega) (by omega)
    rw [hF, show wv a b / 18446744073709551616 = a by omega, show wv a b % 18446744073709551616 = b by omega] at this
    exact this
  · cases h
theorem corebankref01_Quotient.calls (a0_0 : Int) (a0_1 : Int) (a1 : Int) (r1 : Int) (r2 : Int) (r3 : Int) (w : World) (h : corebankref01_Quotient.f a0_0 a0_1 a1 = some (r1, r2, r3)) :
    Calls Tryd.prog 38 #[.agg #[.int .u64 a0_0, .int .u64 a0_1], .int .u64 a1] w fun e w' => e = .returned (.tuple #[.agg #[.int .u64 r1, .int .u64 r2], .int .u64 r3]) ∧ Below w.heap.size w w' := by
  obtain ⟨k, h⟩ := corebankref01_Quotient.eq h
  exact corebankref01_QuotientP.calls k a0_0 a0_1 a1 r1 r2 r3 w h
mutual
def corebankref01_DivP.j0 : Nat → Int → Bool → Int → Bool → Int → Int → Option (Int × Int × Int × Int)
  | 0, _, _, _, _, _, _ => none
  | k + 1, x1, x7, x10, x32, x259000, x259001 => if x32 = true then ((corebankref01_plus.f x259000 x259001 0 1).bind fun bt259 => (corebankref01_DivP.j1 k x7 (IntKind.u64.wrap ((IntKind.u64.wrap (x1)) - x10)) bt259.1 bt259.2.1)) else (corebankref01_DivP.j1 k x7 x10 x259000 x259001)
def corebankref01_DivP.j1 : Nat → Bool → Int → Int → Int → Option (Int × Int × Int × Int)
  | 0, _, _, _, _ => none
  | k + 1, x7, x10, x259000, x259001 => (corebankref01_Join.f x7 x259000 x259001).bind fun bt262 => (some (bt262.1, bt262.2.1, wrap64 (x10), 0))
end
def corebankref01_DivP.f (k : Nat) (a0_0 : Int) (a0_1 : Int) (a1 : Int) : Option (Int × Int × Int × Int) := if a1 < 1 then (some (0, 0, 0, 1)) else ((corebankref01_Split.f a0_0 a0_1).bind fun bt251 => ((corebankref01_Quotient.f bt251.2.1 bt251.2.2 (IntKind.u64.wrap (a1))).bind fun bt255 => (if bt251.1 = true then (corebankref01_DivP.j0 k a1 bt251.1 bt255.2.2 (decide (bt255.2.2 > 0)) bt255.1 bt255.2.1) else (corebankref01_DivP.j0 k a1 bt251.1 bt255.2.2 false bt255.1 bt255.2.1))))
theorem corebankref01_DivP.mono_l : ∀ k, (∀ y0 y1 y2 y3 y4 y5, LeO (corebankref01_DivP.j0 k y0 y1 y2 y3 y4 y5) (corebankref01_DivP.j0 (k + 1) y0 y1 y2 y3 y4 y5)) ∧ (∀ y0 y1 y2 y3, LeO (corebankref01_DivP.j1 k y0 y1 y2 y3) (corebankref01_DivP.j1 (k + 1) y0 y1 y2 y3))
  | 0 => ⟨fun _ _ _ _ _ _ r h => by simp [corebankref01_DivP.j0] at h, fun _ _ _ _ r h => by simp [corebankref01_DivP.j1] at h⟩
  | k + 1 => by
    obtain ⟨ih0, ih1⟩ := corebankref01_DivP.mono_l k
    refine ⟨?_, ?_⟩
    · intro y0 y1 y2 y3 y4 y5
      unfold corebankref01_DivP.j0
      repeat' first
      | (with_reducible exact ih0 _ _ _ _ _ _)
      | (with_reducible exact ih1 _ _ _ _)
      | (with_reducible exact LeO.refl _)
      | (with_reducible exact LeO.none _)
      | (with_reducible refine LeO.ite ?_ ?_)
      | (with_reducible refine LeO.bind ?_ (fun _ => ?_))
      | exact ih0 _ _ _ _ _ _
      | exact ih1 _ _ _ _
      | exact LeO.none _
      | refine LeO.ite ?_ ?_
      | refine LeO.bind ?_ (fun _ => ?_)
    · intro y0 y1 y2 y3
      unfold corebankref01_DivP.j1
      repeat' first
      | (with_reducible exact ih0 _ _ _ _ _ _)
      | (with_reducible exact ih1 _ _ _ _)
      | (with_reducible exact LeO.refl _)
      | (with_reducible exact LeO.none _)
      | (with_reducible refine LeO.ite ?_ ?_)
      | (with_reducible refine LeO.bind ?_ (fun _ => ?_))
      | exact ih0 _ _ _ _ _ _
      | exact ih1 _ _ _ _
      | exact LeO.none _
      | refine LeO.ite ?_ ?_
      | refine LeO.bind ?_ (fun _ => ?_)
theorem corebankref01_DivP.mono : ∀ a0 a1 a2 k, LeO (corebankref01_DivP.f k a0 a1 a2) (corebankref01_DivP.f (k + 1) a0 a1 a2) := by
  intro a0 a1 a2 k
  obtain ⟨ih0, ih1⟩ := corebankref01_DivP.mono_l k
  unfold corebankref01_DivP.f
  repeat' first
      | (with_reducible exact ih0 _ _ _ _ _ _)
      | (with_reducible exact ih1 _ _ _ _)
      | (with_reducible exact LeO.refl _)
      | (with_reducible exact LeO.none _)
      | (with_reducible refine LeO.ite ?_ ?_)
      | (with_reducible refine LeO.bind ?_ (fun _ => ?_))
      | exact ih0 _ _ _ _ _ _
      | exact ih1 _ _ _ _
      | exact LeO.none _
      | refine LeO.ite ?_ ?_
      | refine LeO.bind ?_ (fun _ => ?_)
set_option maxHeartbeats 8000000 in
set_option maxRecDepth 100000 in
theorem corebankref01_DivP.calls (k : Nat) (a0_0 : Int) (a0_1 : Int) (a1 : Int) (r1 : Int) (r2 : Int) (r3 : Int) (r4 : Int) (w : World) (h : corebankref01_DivP.f k a0_0 a0_1 a1 = some (r1, r2, r3, r4)) :
    Calls Tryd.prog 27 #[.agg #[.int .i64 a0_0, .int .u64 a0_1], .int .i64 a1] w fun e w' => e = .returned (.tuple #[.agg #[.int .i64 r1, .int .u64 r2], .int .i64 r3, .int .i64 r4]) ∧ Below w.heap.size w w' := by
  have hu31 := Tryd.underlying31
  have hu51 := Tryd.underlying51
  have HB := Aside0.mk (Below.refl w.heap.size w)
  have H : (if a1 < 1 then (some (0, 0, 0, 1)) else ((corebankref01_Split.f a0_0 a0_1).bind fun bt251 => ((corebankref01_Quotient.f bt251.2.1 bt251.2.2 (IntKind.u64.wrap (a1))).bind fun bt255 => (if bt251.1 = true then (corebankref01_DivP.j0 k a1 bt251.1 bt255.2.2 (decide (bt255.2.2 > 0)) bt255.1 bt255.2.1) else (corebankref01_DivP.j0 k a1 bt251.1 bt255.2.2 false bt255.1 bt255.2.1))))) = some (r1, r2, r3, r4) := h
  clear h
  by_cases c3 : a1 < 1
  · rw [if_pos c3] at H
    have c3b0 : decide (a1 < 1) = true := decide_eq_true c3
    clear c3
    simp only [Option.some.injEq, Prod.mk.injEq] at H
    obtain ⟨rfl, rfl, rfl, rfl⟩ := H
    go_enter Tryd.func27, Tryd.ntmps27
    go_wp2_with (first | ((with_reducible refine gate_dst (N := 2) rfl ?_); refine box_event ?hg (N := 2) ?hd (cs := #[.int .i64 a0_0, .int .u64 a0_1]) (t := 31) ?hr ?_; (case hd => rfl); (case hg => rfl); (case hr => first | (go_simp; done) | (go_simp; rfl)); intro gb249 hg w4 hbox hb; have n0_ := Aside0.mk (below_step (qb_ HB.out) hb); have n1_ := Aside0.mk (hbox); have n2_ := Aside0.mk ((by rw [hg]; exact (below_size (qb_ HB.out)) : w.heap.size ≤ gb249)); have n3_ := Aside0.mk ((by rw [hg]; exact (below_size (qb_ HB.out)) : w.heap.size ≤ gb249)); clear HB; have HB := n0_; have BK249 := n1_; have GW249 := n2_; have GE249 := n3_; clear n0_ n1_ n2_ n3_; clear hb hbox hg) | ((with_reducible refine gate_dst (N := 4) rfl ?_); refine box_event ?hg (N := 4) ?hd (cs := #[.int .i64 0, .int .u64 0]) (t := 31) ?hr ?_; (case hd => rfl); (case hg => rfl); (case hr => first | (go_simp; done) | (go_simp; rfl)); intro gb250 hg w5 hbox hb; have n0_ := Aside0.mk (blk_below (g := gb249) (o := .cells #[.int .i64 a0_0, .int .u64 a0_1] 31 (0, 0)) (qk_ BK249.out) hb); have n1_ := Aside0.mk (below_step (by repeat (first | (with_reducible first | exact HB.out | apply below_alloc | apply pw_below_drewN | apply below_drew1 | refine below_set ?_ GE249.out) | exact HB.out)) hb); have n2_ := Aside0.mk (hbox); have n3_ := Aside0.mk ((by rw [hg]; exact (below_size (by repeat (first | (with_reducible first | exact HB.out | apply below_alloc | apply pw_below_drewN | apply below_drew1 | refine below_set ?_ GE249.out) | exact HB.out))) : w.heap.size ≤ gb250)); have n4_ := Aside0.mk ((by rw [hg]; exact (below_size (by repeat (first | (with_reducible first | exact HB.out | apply below_alloc | apply pw_below_drewN | apply below_drew1 | refine below_set ?_ GE249.out) | exact HB.out))) : w.heap.size ≤ gb250)); have n5_ := Aside0.mk ((by rw [hg]; exact Nat.ne_of_lt (blk_lt (g := gb249) (o := .cells #[.int .i64 a0_0, .int .u64 a0_1] 31 (0, 0)) (qk_ BK249.out)) : gb249 ≠ gb250)); have n6_ := Aside0.mk ((by rw [hg]; exact Nat.ne_of_gt (blk_lt (g := gb249) (o := .cells #[.int .i64 a0_0, .int .u64 a0_1] 31 (0, 0)) (qk_ BK249.out)) : gb250 ≠ gb249)); clear BK249; clear HB; have BK249 := n0_; have HB := n1_; have BK250 := n2_; have GW250 := n3_; have GE250 := n4_; have NB249_250 := n5_; have NB250_249 := n6_; clear n0_ n1_ n2_ n3_ n4_ n5_ n6_; clear hb hbox hg; have hnb6 := NB250_249.out; have hnc6 := NB249_250.out; have hcz7_0 : w5.cell? ⟨gb250, 0, none⟩ = some (.int .i64 0) := (blk_cell BK250.out 0).trans rfl; have hcz7_1 : w5.cell? ⟨gb250, 1, none⟩ = some (.int .u64 0) := (blk_cell BK250.out 1).trans rfl; have hfz7_0 := blk_frozen BK250.out 0; have hfz7_1 := blk_frozen BK250.out 1))
    refine bodyPost_ret (results_ctt rfl _ _ gb250 31 #[.int .i64 0, .int .u64 0] (0, 0) _ rfl (by (with_reducible repeat (first | refine blk_drewN ?_ _ | refine blk_drew ?_ | refine blk_alloc ?_ _)); refine blk_put (cs := #[.int .i64 0, .int .u64 0]) ?_ 1 _ rfl; (with_reducible repeat (first | refine blk_drewN ?_ _ | refine blk_drew ?_ | refine blk_alloc ?_ _)); refine blk_put (cs := #[.int .i64 0, .int .u64 0]) ?_ 0 _ rfl; (with_reducible repeat (first | refine blk_drewN ?_ _ | refine blk_drew ?_ | refine blk_alloc ?_ _)); exact BK250.out) Tryd.underlying31 rfl (by kernel_rfl)) rfl ?_
    exact ⟨by first | rfl | (simp [errW_none, errW_some] <;> rfl) | (simp [*, errW_none, errW_some] <;> rfl), by repeat (first | (with_reducible first | exact HB.out | apply below_alloc | apply pw_below_drewN | apply below_drew1 | refine below_set ?_ GE249.out | refine below_set ?_ GE250.out) | exact HB.out)⟩
  · rw [if_neg c3] at H
    have c3b0 : decide (a1 < 1) = false := decide_eq_false c3
    clear c3
    replace H := Option.bind_eq_some_iff.mp H
    obtain ⟨⟨t251, t252, t253⟩, A80, H⟩ := H
    replace H : ((corebankref01_Quotient.f t252 t253 (IntKind.u64.wrap (a1))).bind fun bt255 => (if t251 = true then (corebankref01_DivP.j0 k a1 t251 bt255.2.2 (decide (bt255.2.2 > 0)) bt255.1 bt255.2.1) else (corebankref01_DivP.j0 k a1 t251 bt255.2.2 false bt255.1 bt255.2.1))) = some (r1, r2, r3, r4) := H
    have A8 := Aside0.mk A80
    clear A80
    replace H := Option.bind_eq_some_iff.mp H
    obtain ⟨⟨t255, t256, t257⟩, A90, H⟩ := H
    replace H : (if t251 = true then (corebankref01_DivP.j0 k a1 t251 t257 (decide (t257 > 0)) t255 t256) else (corebankref01_DivP.j0 k a1 t251 t257 false t255 t256)) = some (r1, r2, r3, r4) := H
    have A9 := Aside0.mk A90
    clear A90
    have HC10 := Aside0.mk H
    clear H
    go_enter Tryd.func27, Tryd.ntmps27
    go_upto_region 5 with (first | ((with_reducible refine gate_dst (N := 2) rfl ?_); refine box_event ?hg (N := 2) ?hd (cs := #[.int .i64 a0_0, .int .u64 a0_1]) (t := 31) ?hr ?_; (case hd => rfl); (case hg => rfl); (case hr => first | (go_simp; done) | (go_simp; rfl)); intro gb249 hg w11 hbox hb; have n0_ := Aside0.mk (below_step (qb_ HB.out) hb); have n1_ := Aside0.mk (hbox); have n2_ := Aside0.mk ((by rw [hg]; exact (below_size (qb_ HB.out)) : w.heap.size ≤ gb249)); have n3_ := Aside0.mk ((by rw [hg]; exact (below_size (qb_ HB.out)) : w.heap.size ≤ gb249)); clear HB; have HB := n0_; have BK249 := n1_; have GW249 := n2_; have GE249 := n3_; clear n0_ n1_ n2_ n3_; clear hb hbox hg) | ((with_reducible refine gate_dst (N := 4) rfl ?_); refine box_event ?hg (N := 4) ?hd (cs := #[.int .i64 0, .int .u64 0]) (t := 31) ?hr ?_; (case hd => rfl); (case hg => rfl); (case hr => first | (go_simp; done) | (go_simp; rfl)); intro gb250 hg w12 hbox hb; have n0_ := Aside0.mk (blk_below (g := gb249) (o := .cells #[.int .i64 a0_0, .int .u64 a0_1] 31 (0, 0)) (qk_ BK249.out) hb); have n1_ := Aside0.mk (below_step (by repeat (first | (with_reducible first | exact HB.out | apply below_alloc | apply pw_below_drewN | apply below_drew1 | refine below_set ?_ GE249.out) | exact HB.out)) hb); have n2_ := Aside0.mk (hbox); have n3_ := Aside0.mk ((by rw [hg]; exact (below_size (by repeat (first | (with_reducible first | exact HB.out | apply below_alloc | apply pw_below_drewN | apply below_drew1 | refine below_set ?_ GE249.out) | exact HB.out))) : w.heap.size ≤ gb250)); have n4_ := Aside0.mk ((by rw [hg]; exact (below_size (by repeat (first | (with_reducible first | exact HB.out | apply below_alloc | apply pw_below_drewN | apply below_drew1 | refine below_set ?_ GE249.out) | exact HB.out))) : w.heap.size ≤ gb250)); have n5_ := Aside0.mk ((by rw [hg]; exact Nat.ne_of_lt (blk_lt (g := gb249) (o := .cells #[.int .i64 a0_0, .int .u64 a0_1] 31 (0, 0)) (qk_ BK249.out)) : gb249 ≠ gb250)); have n6_ := Aside0.mk ((by rw [hg]; exact Nat.ne_of_gt (blk_lt (g := gb249) (o := .cells #[.int .i64 a0_0, .int .u64 a0_1] 31 (0, 0)) (qk_ BK249.out)) : gb250 ≠ gb249)); clear BK249; clear HB; have BK249 := n0_; have HB := n1_; have BK250 := n2_; have GW250 := n3_; have GE250 := n4_; have NB249_250 := n5_; have NB250_249 := n6_; clear n0_ n1_ n2_ n3_ n4_ n5_ n6_; clear hb hbox hg; have hnb13 := NB249_250.out; have hnc13 := NB250_249.out; have hcz14_0 : w12.cell? ⟨gb249, 0, none⟩ = some (.int .i64 a0_0) := (blk_cell BK249.out 0).trans rfl; have hcz14_1 : w12.cell? ⟨gb249, 1, none⟩ = some (.int .u64 a0_1) := (blk_cell BK249.out 1).trans rfl; have hfz14_0 := blk_frozen BK249.out 0; have hfz14_1 := blk_frozen BK249.out 1) | ((with_reducible refine gate_callee (f := 22) rfl ?_); refine goesL_ (some 18) rfl rfl Tryd.func22 (by kernel_rfl) rfl #[.agg #[.int .i64 a0_0, .int .u64 a0_1]] rfl ql_ ?_; (with_reducible refine (corebankref01_Split.calls a0_0 a0_1 t251 t252 t253 _ A8.out).mono ?_); rintro e w15 ⟨rfl, hb⟩; refine ⟨_, rfl, ?_⟩; have n0_ := Aside0.mk (blk_below (g := gb249) (o := .cells #[.int .i64 a0_0, .int .u64 a0_1] 31 (0, 0)) (qk_ BK249.out) hb); have n1_ := Aside0.mk (blk_below (g := gb250) (o := .cells #[.int .i64 0, .int .u64 0] 31 (0, 0)) (qk_ BK250.out) hb); have n2_ := Aside0.mk (below_step (by repeat (first | (with_reducible first | exact HB.out | apply below_alloc | apply pw_below_drewN | apply below_drew1 | refine below_set ?_ GE249.out | refine below_set ?_ GE250.out) | exact HB.out)) hb); clear BK249; clear BK250; clear HB; have BK249 := n0_; have BK250 := n1_; have HB := n2_; clear n0_ n1_ n2_; (try clear hb); (try clear hb2); (try clear hk); (try clear hi)) | ((with_reducible refine gate_dst (N := 8) rfl ?_); refine box_event ?hg (N := 8) ?hd (cs := #[.int .u64 0, .int .u64 0]) (t := 51) ?hr ?_; (case hd => rfl); (case hg => rfl); (case hr => first | (go_simp; done) | (go_simp; rfl)); intro gb254 hg w16 hbox hb; have n0_ := Aside0.mk (blk_below (g := gb249) (o := .cells #[.int .i64 a0_0, .int .u64 a0_1] 31 (0, 0)) (qk_ BK249.out) hb); have n1_ := Aside0.mk (blk_below (g := gb250) (o := .cells #[.int .i64 0, .int .u64 0] 31 (0, 0)) (qk_ BK250.out) hb); have n2_ := Aside0.mk (below_step (by repeat (first | (with_reducible first | exact HB.out | apply below_alloc | apply pw_below_drewN | apply below_drew1 | refine below_set ?_ GE249.out | refine below_set ?_ GE250.out) | exact HB.out)) hb); have n3_ := Aside0.mk (hbox); have n4_ := Aside0.mk ((by rw [hg]; exact (below_size (by repeat (first | (with_reducible first | exact HB.out | apply below_alloc | apply pw_below_drewN | apply below_drew1 | refine below_set ?_ GE249.out | refine below_set ?_ GE250.out) | exact HB.out))) : w.heap.size ≤ gb254)); have n5_ := Aside0.mk ((by rw [hg]; exact (below_size (by repeat (first | (with_reducible first | exact HB.out | apply below_alloc | apply pw_below_drewN | apply below_drew1 | refine below_set ?_ GE249.out | refine below_set ?_ GE250.out) | exact HB.out))) : w.heap.size ≤ gb254)); have n6_ := Aside0.mk ((by rw [hg]; exact Nat.ne_of_lt (blk_lt (g := gb249) (o := .cells #[.int .i64 a0_0, .int .u64 a0_1] 31 (0, 0)) (qk_ BK249.out)) : gb249 ≠ gb254)); have n7_ := Aside0.mk ((by rw [hg]; exact Nat.ne_of_gt (blk_lt (g := gb249) (o := .cells #[.int .i64 a0_0, .int .u64 a0_1] 31 (0, 0)) (qk_ BK249.out)) : gb254 ≠ gb249)); have n8_ := Aside0.mk ((by rw [hg]; exact Nat.ne_of_lt (blk_lt (g := gb250) (o := .cells #[.int .i64 0, .int .u64 0] 31 (0, 0)) (qk_ BK250.out)) : gb250 ≠ gb254)); have n9_ := Aside0.mk ((by rw [hg]; exact Nat.ne_of_gt (blk_lt (g := gb250) (o := .cells #[.int .i64 0, .int .u64 0] 31 (0, 0)) (qk_ BK250.out)) : gb254 ≠ gb250)); clear BK249; clear BK250; clear HB; have BK249 := n0_; have BK250 := n1_; have HB := n2_; have BK254 := n3_; have GW254 := n4_; have GE254 := n5_; have NB249_254 := n6_; have NB254_249 := n7_; have NB250_254 := n8_; have NB254_250 := n9_; clear n0_ n1_ n2_ n3_ n4_ n5_ n6_ n7_ n8_ n9_; clear hb hbox hg; have hnb17 := NB254_249.out; have hnc17 := NB249_254.out; have hnb18 := NB254_250.out; have hnc18 := NB250_254.out; have hcz19_0 : w16.cell? ⟨gb254, 0, none⟩ = some (.int .u64 0) := (blk_cell BK254.out 0).trans rfl; have hcz19_1 : w16.cell? ⟨gb254, 1, none⟩ = some (.int .u64 0) := (blk_cell BK254.out 1).trans rfl; have hfz19_0 := blk_frozen BK254.out 0; have hfz19_1 := blk_frozen BK254.out 1) | ((with_reducible refine gate_callee (f := 38) rfl ?_); refine goesL_ (some 25) rfl rfl Tryd.func38 (by kernel_rfl) rfl #[.agg #[.int .u64 t252, .int .u64 t253], .int .u64 (IntKind.u64.wrap (a1))] rfl ql_ ?_; (with_reducible refine (corebankref01_Quotient.calls t252 t253 (IntKind.u64.wrap (a1)) t255 t256 t257 _ A9.out).mono ?_); rintro e w20 ⟨rfl, hb⟩; refine ⟨_, rfl, ?_⟩; have n0_ := Aside0.mk (blk_below (g := gb249) (o := .cells #[.int .i64 a0_0, .int .u64 a0_1] 31 (0, 0)) (by (with_reducible repeat (first | refine blk_drewN ?_ _ | refine blk_drew ?_ | refine blk_alloc ?_ _)); refine blk_far ?_ NB249_254.out _; (with_reducible repeat (first | refine blk_drewN ?_ _ | refine blk_drew ?_ | refine blk_alloc ?_ _)); refine blk_far ?_ NB249_254.out _; (with_reducible repeat (first | refine blk_drewN ?_ _ | refine blk_drew ?_ | refine blk_alloc ?_ _)); exact BK249.out) hb); have n1_ := Aside0.mk (blk_below (g := gb250) (o := .cells #[.int .i64 0, .int .u64 0] 31 (0, 0)) (by (with_reducible repeat (first | refine blk_drewN ?_ _ | refine blk_drew ?_ | refine blk_alloc ?_ _)); refine blk_far ?_ NB250_254.out _; (with_reducible repeat (first | refine blk_drewN ?_ _ | refine blk_drew ?_ | refine blk_alloc ?_ _)); refine blk_far ?_ NB250_254.out _; (with_reducible repeat (first | refine blk_drewN ?_ _ | refine blk_drew ?_ | refine blk_alloc ?_ _)); exact BK250.out) hb); have n2_ := Aside0.mk (blk_below (g := gb254) (o := .cells #[.int .u64 t252, .int .u64 t253] 51 (0, 0)) (by (with_reducible repeat (first | refine blk_drewN ?_ _ | refine blk_drew ?_ | refine blk_alloc ?_ _)); refine blk_put (cs := #[.int .u64 t252, .int .u64 0]) ?_ 1 _ rfl; (with_reducible repeat (first | refine blk_drewN ?_ _ | refine blk_drew ?_ | refine blk_alloc ?_ _)); refine blk_put (cs := #[.int .u64 0, .int .u64 0]) ?_ 0 _ rfl; (with_reducible repeat (first | refine blk_drewN ?_ _ | refine blk_drew ?_ | refine blk_alloc ?_ _)); exact BK254.out) hb); have n3_ := Aside0.mk (below_step (by repeat (first | (with_reducible first | exact HB.out | apply below_alloc | apply pw_below_drewN | apply below_drew1 | refine below_set ?_ GE249.out | refine below_set ?_ GE250.out | refine below_set ?_ GE254.out) | exact HB.out)) hb); clear BK249; clear BK250; clear BK254; clear HB; have BK249 := n0_; have BK250 := n1_; have BK254 := n2_; have HB := n3_; clear n0_ n1_ n2_ n3_; (try clear hb); (try clear hb2); (try clear hk); (try clear hi)) | ((with_reducible refine gate_dst (N := 9) rfl ?_); refine box_event ?hg (N := 9) ?hd (cs := #[.int .u64 0, .int .u64 0]) (t := 51) ?hr ?_; (case hd => rfl); (case hg => rfl); (case hr => first | (go_simp; done) | (go_simp; rfl)); intro gb258 hg w21 hbox hb; have n0_ := Aside0.mk (blk_below (g := gb249) (o := .cells #[.int .i64 a0_0, .int .u64 a0_1] 31 (0, 0)) (qk_ BK249.out) hb); have n1_ := Aside0.mk (blk_below (g := gb250) (o := .cells #[.int .i64 0, .int .u64 0] 31 (0, 0)) (qk_ BK250.out) hb); have n2_ := Aside0.mk (blk_below (g := gb254) (o := .cells #[.int .u64 t252, .int .u64 t253] 51 (0, 0)) (qk_ BK254.out) hb); have n3_ := Aside0.mk (below_step (by repeat (first | (with_reducible first | exact HB.out | apply below_alloc | apply pw_below_drewN | apply below_drew1 | refine below_set ?_ GE249.out | refine below_set ?_ GE250.out | refine below_set ?_ GE254.out) | exact HB.out)) hb); have n4_ := Aside0.mk (hbox); have n5_ := Aside0.mk ((by rw [hg]; exact (below_size (by repeat (first | (with_reducible first | exact HB.out | apply below_alloc | apply pw_below_drewN | apply below_drew1 | refine below_set ?_ GE249.out | refine below_set ?_ GE250.out | refine below_set ?_ GE254.out) | exact HB.out))) : w.heap.size ≤ gb258)); have n6_ := Aside0.mk ((by rw [hg]; exact (below_size (by repeat (first | (with_reducible first | exact HB.out | apply below_alloc | apply pw_below_drewN | apply below_drew1 | refine below_set ?_ GE249.out | refine below_set ?_ GE250.out | refine below_set ?_ GE254.out) | exact HB.out))) : w.heap.size ≤ gb258)); have n7_ := Aside0.mk ((by rw [hg]; exact Nat.ne_of_lt (blk_lt (g := gb249) (o := .cells #[.int .i64 a0_0, .int .u64 a0_1] 31 (0, 0)) (qk_ BK249.out)) : gb249 ≠ gb258)); have n8_ := Aside0.mk ((by rw [hg]; exact Nat.ne_of_gt (blk_lt (g := gb249) (o := .cells #[.int .i64 a0_0, .int .u64 a0_1] 31 (0, 0)) (qk_ BK249.out)) : gb258 ≠ gb249)); have n9_ := Aside0.mk ((by rw [hg]; exact Nat.ne_of_lt (blk_lt (g := gb250) (o := .cells #[.int .i64 0, .int .u64 0] 31 (0, 0)) (qk_ BK250.out)) : gb250 ≠ gb258)); have n10_ := Aside0.mk ((by rw [hg]; exact Nat.ne_of_gt (blk_lt (g := gb250) (o := .cells #[.int .i64 0, .int .u64 0] 31 (0, 0)) (qk_ BK250.out)) : gb258 ≠ gb250)); have n11_ := Aside0.mk ((by rw [hg]; exact Nat.ne_of_lt (blk_lt (g := gb254) (o := .cells #[.int .u64 t252, .int .u64 t253] 51 (0, 0)) (qk_ BK254.out)) : gb254 ≠ gb258)); have n12_ := Aside0.mk ((by rw [hg]; exact Nat.ne_of_gt (blk_lt (g := gb254) (o := .cells #[.int .u64 t252, .int .u64 t253] 51 (0, 0)) (qk_ BK254.out)) : gb258 ≠ gb254)); clear BK249; clear BK250; clear BK254; clear HB; have BK249 := n0_; have BK250 := n1_; have BK254 := n2_; have HB := n3_; have BK258 := n4_; have GW258 := n5_; have GE258 := n6_; have NB249_258 := n7_; have NB258_249 := n8_; have NB250_258 := n9_; have NB258_250 := n10_; have NB254_258 := n11_; have NB258_254 := n12_; clear n0_ n1_ n2_ n3_ n4_ n5_ n6_ n7_ n8_ n9_ n10_ n11_ n12_; clear hb hbox hg; have hnb22 := NB258_249.out; have hnc22 := NB249_258.out; have hnb23 := NB258_250.out; have hnc23 := NB250_258.out; have hnb24 := NB258_254.out; have hnc24 := NB254_258.out; have hcz25_0 : w21.cell? ⟨gb258, 0, none⟩ = some (.int .u64 0) := (blk_cell BK258.out 0).trans rfl; have hcz25_1 : w21.cell? ⟨gb258, 1, none⟩ = some (.int .u64 0) := (blk_cell BK258.out 1).trans rfl; have hfz25_0 := blk_frozen BK258.out 0; have hfz25_1 := blk_frozen BK258.out 1))
    (try simp only [Act.put, List.setIfInBounds_toArray, List.set_cons_zero, List.set_cons_succ])
    go_cut [32] (fun v32 wc => ∃ (kq : Nat) (x32_9 : Bool), v32 = .bool x32_9 ∧ Aside0 (corebankref01_DivP.j0 kq a1 t251 t257 x32_9 t255 t256 = some (r1, r2, r3, r4)) ∧ Aside0 (kq ≤ k) ∧ Aside0 (wc.heap[gb249]? = some (.cells #[.int .i64 a0_0, .int .u64 a0_1] 31 (0, 0))) ∧ Aside0 (wc.heap[gb250]? = some (.cells #[.int .i64 0, .int .u64 0] 31 (0, 0))) ∧ Aside0 (wc.heap[gb254]? = some (.cells #[.int .u64 t252, .int .u64 t253] 51 (0, 0))) ∧ Aside0 (wc.heap[gb258]? = some (.cells #[.int .u64 t255, .int .u64 t256] 51 (0, 0))) ∧ Aside0 (Below w.heap.size w wc))
    case first =>
      have H := HC10.out
      clear HC10
      by_cases c26 : t251 = true
      · subst c26
        have H1 : (corebankref01_DivP.j0 k a1 true t257 (decide (t257 > 0)) t255 t256) = some (r1, r2, r3, r4) := by rw [if_pos rfl] at H; exact H
        clear H
        have H := H1
        clear H1
        have H' := Aside0.mk H
        clear H
        go_wp2
        go_meet
        case rel => exact ⟨_, (decide (t257 > 0)), (by first | rfl | (simp; done) | (simp [*]; done)), H', ⟨by first | omega | exact Nat.le_refl _⟩, ⟨by (with_reducible repeat (first | refine blk_drewN ?_ _ | refine blk_drew ?_ | refine blk_alloc ?_ _)); refine blk_far ?_ NB249_258.out _; (with_reducible repeat (first | refine blk_drewN ?_ _ | refine blk_drew ?_ | refine blk_alloc ?_ _)); refine blk_far ?_ NB249_258.out _; (with_reducible repeat (first | refine blk_drewN ?_ _ | refine blk_drew ?_ | refine blk_alloc ?_ _)); exact BK249.out⟩, ⟨by (with_reducible repeat (first | refine blk_drewN ?_ _ | refine blk_drew ?_ | refine blk_alloc ?_ _)); refine blk_far ?_ NB250_258.out _; (with_reducible repeat (first | refine blk_drewN ?_ _ | refine blk_drew ?_ | refine blk_alloc ?_ _)); refine blk_far ?_ NB250_258.out _; (with_reducible repeat (first | refine blk_drewN ?_ _ | refine blk_drew ?_ | refine blk_alloc ?_ _)); exact BK250.out⟩, ⟨by (with_reducible repeat (first | refine blk_drewN ?_ _ | refine blk_drew ?_ | refine blk_alloc ?_ _)); refine blk_far ?_ NB254_258.out _; (with_reducible repeat (first | refine blk_drewN ?_ _ | refine blk_drew ?_ | refine blk_alloc ?_ _)); refine blk_far ?_ NB254_258.out _; (with_reducible repeat (first | refine blk_drewN ?_ _ | refine blk_drew ?_ | refine blk_alloc ?_ _)); exact BK254.out⟩, ⟨by (with_reducible repeat (first | refine blk_drewN ?_ _ | refine blk_drew ?_ | refine blk_alloc ?_ _)); refine blk_put (cs := #[.int .u64 t255, .int .u64 0]) ?_ 1 _ rfl; (with_reducible repeat (first | refine blk_drewN ?_ _ | refine blk_drew ?_ | refine blk_alloc ?_ _)); refine blk_put (cs := #[.int .u64 0, .int .u64 0]) ?_ 0 _ rfl; (with_reducible repeat (first | refine blk_drewN ?_ _ | refine blk_drew ?_ | refine blk_alloc ?_ _)); exact BK258.out⟩, ⟨by repeat (first | (with_reducible first | exact HB.out | apply below_alloc | apply pw_below_drewN | apply below_drew1 | refine below_set ?_ GE249.out | refine below_set ?_ GE250.out | refine below_set ?_ GE254.out | refine below_set ?_ GE258.out) | exact HB.out)⟩⟩
      · replace c26 := Bool.eq_false_iff.mpr c26
        subst c26
        have H1 : (corebankref01_DivP.j0 k a1 false t257 false t255 t256) = some (r1, r2, r3, r4) := by rw [if_neg (show ¬ (false = true) by decide)] at H; exact H
        clear H
        have H := H1
        clear H1
        have H' := Aside0.mk H
        clear H
        go_wp2
        go_meet
        case rel => exact ⟨_, (false), (by first | rfl | (simp; done) | (simp [*]; done)), H', ⟨by first | omega | exact Nat.le_refl _⟩, ⟨by (with_reducible repeat (first | refine blk_drewN ?_ _ | refine blk_drew ?_ | refine blk_alloc ?_ _)); refine blk_far ?_ NB249_258.out _; (with_reducible repeat (first | refine blk_drewN ?_ _ | refine blk_drew ?_ | refine blk_alloc ?_ _)); refine blk_far ?_ NB249_258.out _; (with_reducible repeat (first | refine blk_drewN ?_ _ | refine blk_drew ?_ | refine blk_alloc ?_ _)); exact BK249.out⟩, ⟨by (with_reducible repeat (first | refine blk_drewN ?_ _ | refine blk_drew ?_ | refine blk_alloc ?_ _)); refine blk_far ?_ NB250_258.out _; (with_reducible repeat (first | refine blk_drewN ?_ _ | refine blk_drew ?_ | refine blk_alloc ?_ _)); refine blk_far ?_ NB250_258.out _; (with_reducible repeat (first | refine blk_drewN ?_ _ | refine blk_drew ?_ | refine blk_alloc ?_ _)); exact BK250.out⟩, ⟨by (with_reducible repeat (first | refine blk_drewN ?_ _ | refine blk_drew ?_ | refine blk_alloc ?_ _)); refine blk_far ?_ NB254_258.out _; (with_reducible repeat (first | refine blk_drewN ?_ _ | refine blk_drew ?_ | refine blk_alloc ?_ _)); refine blk_far ?_ NB254_258.out _; (with_reducible repeat (first | refine blk_drewN ?_ _ | refine blk_drew ?_ | refine blk_alloc ?_ _)); exact BK254.out⟩, ⟨by (with_reducible repeat (first | refine blk_drewN ?_ _ | refine blk_drew ?_ | refine blk_alloc ?_ _)); refine blk_put (cs := #[.int .u64 t255, .int .u64 0]) ?_ 1 _ rfl; (with_reducible repeat (first | refine blk_drewN ?_ _ | refine blk_drew ?_ | refine blk_alloc ?_ _)); refine blk_put (cs := #[.int .u64 0, .int .u64 0]) ?_ 0 _ rfl; (with_reducible repeat (first | refine blk_drewN ?_ _ | refine blk_drew ?_ | refine blk_alloc ?_ _)); exact BK258.out⟩, ⟨by repeat (first | (with_reducible first | exact HB.out | apply below_alloc | apply pw_below_drewN | apply below_drew1 | refine below_set ?_ GE249.out | refine below_set ?_ GE250.out | refine below_set ?_ GE254.out | refine below_set ?_ GE258.out) | exact HB.out)⟩⟩
    case rest =>
      clear HC10
      try clear c1
      try clear c2
      try clear p2
      try clear c3
      try clear c3b0
      try clear c6
      try clear c13
      try clear c17
      try clear c18
      try clear c22
      try clear c23
      try clear c24
      try clear c26
      try clear hcz14_0
      try clear hcz14_1
      try clear hcz19_0
      try clear hcz19_1
      try clear hcz25_0
      try clear hcz25_1
      try clear hcz7_0
      try clear hcz7_1
      try clear hfz14_0
      try clear hfz14_1
      try clear hfz19_0
      try clear hfz19_1
      try clear hfz25_0
      try clear hfz25_1
      try clear hfz7_0
      try clear hfz7_1
      obtain ⟨kq, x32_9, rfl, HA, HJ9, BK249, BK250, BK254, BK258, HB⟩ := hcut
      cases kq with
      | zero => exact absurd HA.out (by simp [corebankref01_DivP.j0])
      | succ kj9 =>
        have H := HA.out
        clear HA
        simp only [corebankref01_DivP.j0] at H
        have HC27 := Aside0.mk H
        clear H
        go_upto_if 32 with (fail)
        go_cut [10] (fun v10 wc => ∃ (kq : Nat) (x10_26 : Int) (x259000_26 : Int) (x259001_26 : Int), v10 = .int .u64 x10_26 ∧ Aside0 (corebankref01_DivP.j1 kq t251 x10_26 x259000_26 x259001_26 = some (r1, r2, r3, r4)) ∧ Aside0 (kq ≤ kj9) ∧ Aside0 (wc.heap[gb249]? = some (.cells #[.int .i64 a0_0, .int .u64 a0_1] 31 (0, 0))) ∧ Aside0 (wc.heap[gb250]? = some (.cells #[.int .i64 0, .int .u64 0] 31 (0, 0))) ∧ Aside0 (wc.heap[gb254]? = some (.cells #[.int .u64 t252, .int .u64 t253] 51 (0, 0))) ∧ Aside0 (wc.heap[gb258]? = some (.cells #[.int .u64 x259000_26, .int .u64 x259001_26] 51 (0, 0))) ∧ Aside0 (Below w.heap.size w wc))
        case first =>
          have H := HC27.out
          clear HC27
          by_cases c28 : x32_9 = true
          · subst c28
            have H1 : ((corebankref01_plus.f t255 t256 0 1).bind fun bt259 => (corebankref01_DivP.j1 kj9 t251 (IntKind.u64.wrap ((IntKind.u64.wrap (a1)) - t257)) bt259.1 bt259.2.1)) = some (r1, r2, r3, r4) := by rw [if_pos rfl] at H; exact H
            clear H
            have H := H1
            clear H1
            replace H := Option.bind_eq_some_iff.mp H
            obtain ⟨⟨t259, t260, t261⟩, A290, H⟩ := H
            replace H : (corebankref01_DivP.j1 kj9 t251 (IntKind.u64.wrap ((IntKind.u64.wrap (a1)) - t257)) t259 t260) = some (r1, r2, r3, r4) := H
            have A29 := Aside0.mk A290
            clear A290
            have H' := Aside0.mk H
            clear H
            have hnb30 := NB258_249.out
            have hnc30 := NB249_258.out
            have hnb31 := NB258_250.out
            have hnc31 := NB250_258.out
            have hnb32 := NB258_254.out
            have hnc32 := NB254_258.out
            have hcz33_0 : wc.cell? ⟨gb258, 0, none⟩ = some (.int .u64 t255) := (blk_cell BK258.out 0).trans rfl
            have hcz33_1 : wc.cell? ⟨gb258, 1, none⟩ = some (.int .u64 t256) := (blk_cell BK258.out 1).trans rfl
            have hfz33_0 := blk_frozen BK258.out 0
            have hfz33_1 := blk_frozen BK258.out 1
            go_wp2_with (first | ((with_reducible refine gate_callee (f := 37) rfl ?_); refine goesL_ (some 36) rfl rfl Tryd.func37 (by kernel_rfl) rfl #[.agg #[.int .u64 t255, .int .u64 t256], .agg #[.int .u64 0, .int .u64 1]] rfl ql_ ?_; (with_reducible refine (corebankref01_plus.calls t255 t256 0 1 t259 t260 t261 _ A29.out).mono ?_); rintro e w34 ⟨rfl, hb⟩; refine ⟨_, rfl, ?_⟩; have n0_ := Aside0.mk (blk_below (g := gb249) (o := .cells #[.int .i64 a0_0, .int .u64 a0_1] 31 (0, 0)) (qk_ BK249.out) hb); have n1_ := Aside0.mk (blk_below (g := gb250) (o := .cells #[.int .i64 0, .int .u64 0] 31 (0, 0)) (qk_ BK250.out) hb); have n2_ := Aside0.mk (blk_below (g := gb254) (o := .cells #[.int .u64 t252, .int .u64 t253] 51 (0, 0)) (qk_ BK254.out) hb); have n3_ := Aside0.mk (blk_below (g := gb258) (o := .cells #[.int .u64 t255, .int .u64 t256] 51 (0, 0)) (qk_ BK258.out) hb); have n4_ := Aside0.mk (below_step (by repeat (first | (with_reducible first | exact HB.out | apply below_alloc | apply pw_below_drewN | apply below_drew1 | refine below_set ?_ GE249.out | refine below_set ?_ GE250.out | refine below_set ?_ GE254.out | refine below_set ?_ GE258.out) | exact HB.out)) hb); clear BK249; clear BK250; clear BK254; clear BK258; clear HB; have BK249 := n0_; have BK250 := n1_; have BK254 := n2_; have BK258 := n3_; have HB := n4_; clear n0_ n1_ n2_ n3_ n4_; (try clear hb); (try clear hb2); (try clear hk); (try clear hi); have hcz35_0 : w34.cell? ⟨gb258, 0, none⟩ = some (.int .u64 t255) := (blk_cell BK258.out 0).trans rfl; have hcz35_1 : w34.cell? ⟨gb258, 1, none⟩ = some (.int .u64 t256) := (blk_cell BK258.out 1).trans rfl; have hfz35_0 := blk_frozen BK258.out 0; have hfz35_1 := blk_frozen BK258.out 1))
            go_meet
            case rel => exact ⟨_, (IntKind.u64.wrap ((IntKind.u64.wrap (a1)) - t257)), (t259), (t260), (by first | rfl | (simp; done) | (simp [*]; done)), H', ⟨by have := HJ9.out; first | omega | exact Nat.le_refl _⟩, ⟨by (with_reducible repeat (first | refine blk_drewN ?_ _ | refine blk_drew ?_ | refine blk_alloc ?_ _)); refine blk_far ?_ NB249_258.out _; (with_reducible repeat (first | refine blk_drewN ?_ _ | refine blk_drew ?_ | refine blk_alloc ?_ _)); refine blk_far ?_ NB249_258.out _; (with_reducible repeat (first | refine blk_drewN ?_ _ | refine blk_drew ?_ | refine blk_alloc ?_ _)); exact BK249.out⟩, ⟨by (with_reducible repeat (first | refine blk_drewN ?_ _ | refine blk_drew ?_ | refine blk_alloc ?_ _)); refine blk_far ?_ NB250_258.out _; (with_reducible repeat (first | refine blk_drewN ?_ _ | refine blk_drew ?_ | refine blk_alloc ?_ _)); refine blk_far ?_ NB250_258.out _; (with_reducible repeat (first | refine blk_drewN ?_ _ | refine blk_drew ?_ | refine blk_alloc ?_ _)); exact BK250.out⟩, ⟨by (with_reducible repeat (first | refine blk_drewN ?_ _ | refine blk_drew ?_ | refine blk_alloc ?_ _)); refine blk_far ?_ NB254_258.out _; (with_reducible repeat (first | refine blk_drewN ?_ _ | refine blk_drew ?_ | refine blk_alloc ?_ _)); refine blk_far ?_ NB254_258.out _; (with_reducible repeat (first | refine blk_drewN ?_ _ | refine blk_drew ?_ | refine blk_alloc ?_ _)); exact BK254.out⟩, ⟨by (with_reducible repeat (first | refine blk_drewN ?_ _ | refine blk_drew ?_ | refine blk_alloc ?_ _)); refine blk_put (cs := #[.int .u64 t259, .int .u64 t256]) ?_ 1 _ rfl; (with_reducible repeat (first | refine blk_drewN ?_ _ | refine blk_drew ?_ | refine blk_alloc ?_ _)); refine blk_put (cs := #[.int .u64 t255, .int .u64 t256]) ?_ 0 _ rfl; (with_reducible repeat (first | refine blk_drewN ?_ _ | refine blk_drew ?_ | refine blk_alloc ?_ _)); exact BK258.out⟩, ⟨by repeat (first | (with_reducible first | exact HB.out | apply below_alloc | apply pw_below_drewN | apply below_drew1 | refine below_set ?_ GE249.out | refine below_set ?_ GE250.out | refine below_set ?_ GE254.out | refine below_set ?_ GE258.out) | exact HB.out)⟩⟩
          · replace c28 := Bool.eq_false_iff.mpr c28
            subst c28
            have H1 : (corebankref01_DivP.j1 kj9 t251 t257 t255 t256) = some (r1, r2, r3, r4) := by rw [if_neg (show ¬ (false = true) by decide)] at H; exact H
            clear H
            have H := H1
            clear H1
            have H' := Aside0.mk H
            clear H
            go_wp2
            go_meet
            case rel => exact ⟨_, (t257), (t255), (t256), (by first | rfl | (simp; done) | (simp [*]; done)), H', ⟨by have := HJ9.out; first | omega | exact Nat.le_refl _⟩, ⟨by (with_reducible repeat (first | refine blk_drewN ?_ _ | refine blk_drew ?_ | refine blk_alloc ?_ _)); exact BK249.out⟩, ⟨by (with_reducible repeat (first | refine blk_drewN ?_ _ | refine blk_drew ?_ | refine blk_alloc ?_ _)); exact BK250.out⟩, ⟨by (with_reducible repeat (first | refine blk_drewN ?_ _ | refine blk_drew ?_ | refine blk_alloc ?_ _)); exact BK254.out⟩, ⟨by (with_reducible repeat (first | refine blk_drewN ?_ _ | refine blk_drew ?_ | refine blk_alloc ?_ _)); exact BK258.out⟩, ⟨by repeat (first | (with_reducible first | exact HB.out | apply below_alloc | apply pw_below_drewN | apply below_drew1 | refine below_set ?_ GE249.out | refine below_set ?_ GE250.out | refine below_set ?_ GE254.out | refine below_set ?_ GE258.out) | exact HB.out)⟩⟩
        case rest =>
          clear HC27
          try clear c1
          try clear c2
          try clear p2
          try clear c3
          try clear c3b0
          try clear c6
          try clear c13
          try clear c17
          try clear c18
          try clear c22
          try clear c23
          try clear c24
          try clear c26
          try clear c27
          try clear c28
          try clear c30
          try clear c31
          try clear c32
          try clear hcz14_0
          try clear hcz14_1
          try clear hcz19_0
          try clear hcz19_1
          try clear hcz25_0
          try clear hcz25_1
          try clear hcz33_0
          try clear hcz33_1
          try clear hcz35_0
          try clear hcz35_1
          try clear hcz7_0
          try clear hcz7_1
          try clear hfz14_0
          try clear hfz14_1
          try clear hfz19_0
          try clear hfz19_1
          try clear hfz25_0
          try clear hfz25_1
          try clear hfz33_0
          try clear hfz33_1
          try clear hfz35_0
          try clear hfz35_1
          try clear hfz7_0
          try clear hfz7_1
          try clear p2
          obtain ⟨kq, x10_26, x259000_26, x259001_26, rfl, HA, HJ26, BK249, BK250, BK254, BK258, HB⟩ := hcut
          cases kq with
          | zero => exact absurd HA.out (by simp [corebankref01_DivP.j1])
          | succ kj26 =>
            have H := HA.out
            clear HA
            simp only [corebankref01_DivP.j1] at H
            replace H := Option.bind_eq_some_iff.mp H
            obtain ⟨⟨t262, t263, t264⟩, A360, H⟩ := H
            replace H : (some (t262, t263, wrap64 (x10_26), 0)) = some (r1, r2, r3, r4) := H
            have A36 := Aside0.mk A360
            clear A360
            simp only [Option.some.injEq, Prod.mk.injEq] at H
            obtain ⟨rfl, rfl, rfl, rfl⟩ := H
            have hnb37 := NB258_249.out
            have hnc37 := NB249_258.out
            have hnb38 := NB258_250.out
            have hnc38 := NB250_258.out
            have hnb39 := NB258_254.out
            have hnc39 := NB254_258.out
            have hcz40_0 : wc.cell? ⟨gb258, 0, none⟩ = some (.int .u64 x259000_26) := (blk_cell BK258.out 0).trans rfl
            have hcz40_1 : wc.cell? ⟨gb258, 1, none⟩ = some (.int .u64 x259001_26) := (blk_cell BK258.out 1).trans rfl
            have hfz40_0 := blk_frozen BK258.out 0
            have hfz40_1 := blk_frozen BK258.out 1
            go_wp2_with (first | ((with_reducible refine gate_callee (f := 25) rfl ?_); refine goesL_ (some 46) rfl rfl Tryd.func25 (by kernel_rfl) rfl #[.bool t251, .agg #[.int .u64 x259000_26, .int .u64 x259001_26]] rfl ql_ ?_; (with_reducible refine (corebankref01_Join.calls t251 x259000_26 x259001_26 t262 t263 t264 _ A36.out).mono ?_); rintro e w41 ⟨rfl, hb⟩; refine ⟨_, rfl, ?_⟩; have n0_ := Aside0.mk (blk_below (g := gb249) (o := .cells #[.int .i64 a0_0, .int .u64 a0_1] 31 (0, 0)) (qk_ BK249.out) hb); have n1_ := Aside0.mk (blk_below (g := gb250) (o := .cells #[.int .i64 0, .int .u64 0] 31 (0, 0)) (qk_ BK250.out) hb); have n2_ := Aside0.mk (blk_below (g := gb254) (o := .cells #[.int .u64 t252, .int .u64 t253] 51 (0, 0)) (qk_ BK254.out) hb); have n3_ := Aside0.mk (blk_below (g := gb258) (o := .cells #[.int .u64 x259000_26, .int .u64 x259001_26] 51 (0, 0)) (qk_ BK258.out) hb); have n4_ := Aside0.mk (below_step (by repeat (first | (with_reducible first | exact HB.out | apply below_alloc | apply pw_below_drewN | apply below_drew1 | refine below_set ?_ GE249.out | refine below_set ?_ GE250.out | refine below_set ?_ GE254.out | refine below_set ?_ GE258.out) | exact HB.out)) hb); clear BK249; clear BK250; clear BK254; clear BK258; clear HB; have BK249 := n0_; have BK250 := n1_; have BK254 := n2_; have BK258 := n3_; have HB := n4_; clear n0_ n1_ n2_ n3_ n4_; (try clear hb); (try clear hb2); (try clear hk); (try clear hi)) | ((with_reducible refine gate_dst (N := 11) rfl ?_); refine box_event ?hg (N := 11) ?hd (cs := #[.int .i64 0, .int .u64 0]) (t := 31) ?hr ?_; (case hd => rfl); (case hg => rfl); (case hr => first | (go_simp; done) | (go_simp; rfl)); intro gb265 hg w42 hbox hb; have n0_ := Aside0.mk (blk_below (g := gb249) (o := .cells #[.int .i64 a0_0, .int .u64 a0_1] 31 (0, 0)) (qk_ BK249.out) hb); have n1_ := Aside0.mk (blk_below (g := gb250) (o := .cells #[.int .i64 0, .int .u64 0] 31 (0, 0)) (qk_ BK250.out) hb); have n2_ := Aside0.mk (blk_below (g := gb254) (o := .cells #[.int .u64 t252, .int .u64 t253] 51 (0, 0)) (qk_ BK254.out) hb); have n3_ := Aside0.mk (blk_below (g := gb258) (o := .cells #[.int .u64 x259000_26, .int .u64 x259001_26] 51 (0, 0)) (qk_ BK258.out) hb); have n4_ := Aside0.mk (below_step (by repeat (first | (with_reducible first | exact HB.out | apply below_alloc | apply pw_below_drewN | apply below_drew1 | refine below_set ?_ GE249.out | refine below_set ?_ GE250.out | refine below_set ?_ GE254.out | refine below_set ?_ GE258.out) | exact HB.out)) hb); have n5_ := Aside0.mk (hbox); have n6_ := Aside0.mk ((by rw [hg]; exact (below_size (by repeat (first | (with_reducible first | exact HB.out | apply below_alloc | apply pw_below_drewN | apply below_drew1 | refine below_set ?_ GE249.out | refine below_set ?_ GE250.out | refine below_set ?_ GE254.out | refine below_set ?_ GE258.out) | exact HB.out))) : w.heap.size ≤ gb265)); have n7_ := Aside0.mk ((by rw [hg]; exact (below_size (by repeat (first | (with_reducible first | exact HB.out | apply below_alloc | apply pw_below_drewN | apply below_drew1 | refine below_set ?_ GE249.out | refine below_set ?_ GE250.out | refine below_set ?_ GE254.out | refine below_set ?_ GE258.out) | exact HB.out))) : w.heap.size ≤ gb265)); have n8_ := Aside0.mk ((by rw [hg]; exact Nat.ne_of_lt (blk_lt (g := gb249) (o := .cells #[.int .i64 a0_0, .int .u64 a0_1] 31 (0, 0)) (qk_ BK249.out)) : gb249 ≠ gb265)); have n9_ := Aside0.mk ((by rw [hg]; exact Nat.ne_of_gt (blk_lt (g := gb249) (o := .cells #[.int .i64 a0_0, .int .u64 a0_1] 31 (0, 0)) (qk_ BK249.out)) : gb265 ≠ gb249)); have n10_ := Aside0.mk ((by rw [hg]; exact Nat.ne_of_lt (blk_lt (g := gb250) (o := .cells #[.int .i64 0, .int .u64 0] 31 (0, 0)) (qk_ BK250.out)) : gb250 ≠ gb265)); have n11_ := Aside0.mk ((by rw [hg]; exact Nat.ne_of_gt (blk_lt (g := gb250) (o := .cells #[.int .i64 0, .int .u64 0] 31 (0, 0)) (qk_ BK250.out)) : gb265 ≠ gb250)); have n12_ := Aside0.mk ((by rw [hg]; exact Nat.ne_of_lt (blk_lt (g := gb254) (o := .cells #[.int .u64 t252, .int .u64 t253] 51 (0, 0)) (qk_ BK254.out)) : gb254 ≠ gb265)); have n13_ := Aside0.mk ((by rw [hg]; exact Nat.ne_of_gt (blk_lt (g := gb254) (o := .cells #[.int .u64 t252, .int .u64 t253] 51 (0, 0)) (qk_ BK254.out)) : gb265 ≠ gb254)); have n14_ := Aside0.mk ((by rw [hg]; exact Nat.ne_of_lt (blk_lt (g := gb258) (o := .cells #[.int .u64 x259000_26, .int .u64 x259001_26] 51 (0, 0)) (qk_ BK258.out)) : gb258 ≠ gb265)); have n15_ := Aside0.mk ((by rw [hg]; exact Nat.ne_of_gt (blk_lt (g := gb258) (o := .cells #[.int .u64 x259000_26, .int .u64 x259001_26] 51 (0, 0)) (qk_ BK258.out)) : gb265 ≠ gb258)); clear BK249; clear BK250; clear BK254; clear BK258; clear HB; have BK249 := n0_; have BK250 := n1_; have BK254 := n2_; have BK258 := n3_; have HB := n4_; have BK265 := n5_; have GW265 := n6_; have GE265 := n7_; have NB249_265 := n8_; have NB265_249 := n9_; have NB250_265 := n10_; have NB265_250 := n11_; have NB254_265 := n12_; have NB265_254 := n13_; have NB258_265 := n14_; have NB265_258 := n15_; clear n0_ n1_ n2_ n3_ n4_ n5_ n6_ n7_ n8_ n9_ n10_ n11_ n12_ n13_ n14_ n15_; clear hb hbox hg; have hnb43 := NB265_249.out; have hnc43 := NB249_265.out; have hnb44 := NB265_250.out; have hnc44 := NB250_265.out; have hnb45 := NB265_254.out; have hnc45 := NB254_265.out; have hnb46 := NB265_258.out; have hnc46 := NB258_265.out; have hcz47_0 : w42.cell? ⟨gb265, 0, none⟩ = some (.int .i64 0) := (blk_cell BK265.out 0).trans rfl; have hcz47_1 : w42.cell? ⟨gb265, 1, none⟩ = some (.int .u64 0) := (blk_cell BK265.out 1).trans rfl; have hfz47_0 := blk_frozen BK265.out 0; have hfz47_1 := blk_frozen BK265.out 1; have hnb48 := NB250_249.out; have hnc48 := NB249_250.out; have hnb49 := NB250_254.out; have hnc49 := NB254_250.out; have hcz50_0 : w42.cell? ⟨gb250, 0, none⟩ = some (.int .i64 0) := (blk_cell BK250.out 0).trans rfl; have hcz50_1 : w42.cell? ⟨gb250, 1, none⟩ = some (.int .u64 0) := (blk_cell BK250.out 1).trans rfl; have hfz50_0 := blk_frozen BK250.out 0; have hfz50_1 := blk_frozen BK250.out 1))
            refine bodyPost_ret (results_ctt rfl _ _ gb250 31 #[.int .i64 t262, .int .u64 t263] (0, 0) _ rfl (by (with_reducible repeat (first | refine blk_drewN ?_ _ | refine blk_drew ?_ | refine blk_alloc ?_ _)); refine blk_put (cs := #[.int .i64 t262, .int .u64 0]) ?_ 1 _ rfl; (with_reducible repeat (first | refine blk_drewN ?_ _ | refine blk_drew ?_ | refine blk_alloc ?_ _)); refine blk_put (cs := #[.int .i64 0, .int .u64 0]) ?_ 0 _ rfl; (with_reducible repeat (first | refine blk_drewN ?_ _ | refine blk_drew ?_ | refine blk_alloc ?_ _)); refine blk_far ?_ NB250_265.out _; (with_reducible repeat (first | refine blk_drewN ?_ _ | refine blk_drew ?_ | refine blk_alloc ?_ _)); refine blk_far ?_ NB250_265.out _; (with_reducible repeat (first | refine blk_drewN ?_ _ | refine blk_drew ?_ | refine blk_alloc ?_ _)); exact BK250.out) Tryd.underlying31 rfl (by kernel_rfl)) rfl ?_
            exact ⟨by first | rfl | (simp [errW_none, errW_some] <;> rfl) | (simp [*, errW_none, errW_some] <;> rfl), by repeat (first | (with_reducible first | exact HB.out | apply below_alloc | apply pw_below_drewN | apply below_drew1 | refine below_set ?_ GE249.out | refine below_set ?_ GE250.out | refine below_set ?_ GE254.out | refine below_set ?_ GE258.out | refine below_set ?_ GE265.out) | exact HB.out)⟩
def corebankref01_Div.f (a0_0 a0_1 a1 : Int) : Option (Int × Int × Int × Int) :=
  if isW a0_0 a0_1 ∧ inI a1 then
    some (if a1 < 1 then (0, 0, 0, 1) else (wv a0_0 a0_1 / a1 / 18446744073709551616, wv a0_0 a0_1 / a1 % 18446744073709551616, wv a0_0 a0_1 % a1, 0)) else none
theorem corebankref01_Div.eq {a b n : Int} {r : Int × Int × Int × Int} (h : corebankref01_Div.f a b n = some r) : ∃ k, corebankref01_DivP.f k a b n = some r := by
  unfold corebankref01_Div.f at h
  split at h
  · rename_i q
    obtain ⟨⟨⟨a0, a1⟩, b0, b1⟩, n0, n1⟩ := q
    injection h with h
    subst h
    refine ⟨2, ?_⟩
    unfold corebankref01_DivP.f
    by_cases hn : n < 1
    · rw [if_pos hn, if_pos hn]
    · rw [if_neg hn, if_neg hn]
      have hW : isW a b := ⟨⟨a0, a1⟩, b0, b1⟩
      unfold corebankref01_Split.f
      rw [if_pos hW]
      simp only [Option.bind_some]
      have hun : IntKind.u64.wrap n = n := u64_id _ (by omega) (by omega)
      have hv : wv a b = a * 18446744073709551616 + b := rfl
      have mrange : 0 ≤ (if a < 0 then -(wv a b) else wv a b) ∧ (if a < 0 then -(wv a b) else wv a b) ≤ 170141183460469231731687303715884105728 := by split <;> omega
      have hvm : wv a b = if a < 0 then -(if a < 0 then -(wv a b) else wv a b) else (if a < 0 then -(wv a b) else wv a b) := by split <;> omega
      generalize hm : (if a < 0 then -(wv a b) else wv a b) = m at *
      obtain ⟨m0, m1⟩ := mrange
      have hwm : wv (m / 18446744073709551616) (m % 18446744073709551616) = m := by unfold wv; omega
      have hU : (inU (m / 18446744073709551616) ∧ inU (m % 18446744073709551616)) ∧ 1 ≤ n ∧ n ≤ 9223372036854775807 := ⟨⟨by unfold inU; omega, by unfold inU; omega⟩, by omega, by omega⟩
      unfold corebankref01_Quotient.f
      rw [hun, if_pos hU, hwm]
      simp only [Option.bind_some]
      have q0 : 0 ≤ m / n := Int.ediv_nonneg m0 (by omega)
      have q1 : m / n ≤ m := Int.ediv_le_self n m0
      have r0 := Int.emod_nonneg m (show n ≠ 0 by omega)
      have r1 := Int.emod_lt_of_pos m (show 0 < n by omega)
      have hwq : wv (m / n / 18446744073709551616) (m / n % 18446744073709551616) = m / n := by unfold wv; omega
      have hUq : inU (m / n / 18446744073709551616) ∧ inU (m / n % 18446744073709551616) := ⟨by unfold inU; omega, by unfold inU; omega⟩
      by_cases ha : a < 0
      · rw [decide_eq_true ha, if_pos rfl]
        simp only [corebankref01_DivP.j0, corebankref01_DivP.j1]
        rw [if_pos ha] at hvm
        obtain ⟨d1, d2⟩ := neg_div (m := m) (n := n) (by omega)
        rw [hvm, d1, d2]
        by_cases hr : 0 < m % n
        · rw [if_pos (by simpa using hr), if_pos hr, if_pos hr]
          have hq2 : m / n ≤ 170141183460469231731687303715884105727 := by
            by_cases h1n : n = 1
            · subst h1n; rw [Int.emod_one] at hr; omega
            · have h3 := Int.emod_add_mul_ediv m n
              have h4 : 2 * (m / n) ≤ n * (m / n) := Int.mul_le_mul_of_nonneg_right (by omega) q0
              omega
          have hw1 : wv 0 1 = 1 := by decide
          unfold corebankref01_plus.f
          rw [if_pos ⟨hUq, by decide, by decide⟩, hwq, hw1]
          simp only [Option.bind_some]
          rw [hun, u64_id (n - m % n) (by omega) (by omega)]
          have hwq2 : wv ((m / n + 1) / 18446744073709551616 % 18446744073709551616) ((m / n + 1) % 18446744073709551616) = m / n + 1 := by unfold wv; omega
          have hUq2 : inU ((m / n + 1) / 18446744073709551616 % 18446744073709551616) ∧ inU ((m / n + 1) % 18446744073709551616) := ⟨by unfold inU; omega, by unfold inU; omega⟩
          unfold corebankref01_Join.f
          rw [if_pos hUq2, hwq2]
          simp only [Option.bind_some, if_true]
          rw [i64_id (n - m % n) (by omega) (by omega), i64_id (-(m / n + 1) / 18446744073709551616) (by omega) (by omega)]
        · rw [if_neg (by simpa using hr), if_neg hr, if_neg hr]
          unfold corebankref01_Join.f
          rw [if_pos hUq, hwq]
          simp only [Option.bind_some, if_true]
          rw [show m % n = 0 by omega, i64_id 0 (by omega) (by omega), i64_id (-(m / n) / 18446744073709551616) (by omega) (by omega)]
      · rw [decide_eq_false ha, if_neg (by decide)]
        simp only [corebankref01_DivP.j0, corebankref01_DivP.j1]
        rw [if_neg ha] at hvm hm
        rw [if_neg (by decide), hvm]
        unfold corebankref01_Join.f
        rw [if_pos hUq, hwq]
        simp only [Option.bind_some, Bool.false_eq_true, if_false]
        rw [i64_id (m % n) (by omega) (by omega), i64_id (m / n / 18446744073709551616) (by omega) (by omega)]
  · cases h
theorem corebankref01_Div.calls (a0_0 : Int) (a0_1 : Int) (a1 : Int) (r1 : Int) (r2 : Int) (r3 : Int) (r4 : Int) (w : World) (h : corebankref01_Div.f a0_0 a0_1 a1 = some (r1, r2, r3, r4)) :
    Calls Tryd.prog 27 #[.agg #[.int .i64 a0_0, .int .u64 a0_1], .int .i64 a1] w fun e w' => e = .returned (.tuple #[.agg #[.int .i64 r1, .int .u64 r2], .int .i64 r3, .int .i64 r4]) ∧ Below w.heap.size w w' := by
  obtain ⟨k, h⟩ := corebankref01_Div.eq h
  exact corebankref01_DivP.calls k a0_0 a0_1 a1 r1 r2 r3 r4 w h
end Go.Proofs.YtbifbnjkpmmedaaDoor.PA
