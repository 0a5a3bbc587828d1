import Derived.Test.YtjkjiibhdpcpkaaDoorQRm2
import Derived.Test.YtjkjiibhdpcpkaaDoorQSx29
import Derived.Test.YtjkjiibhdpcpkaaDoorQSx38
namespace Go.Proofs.YtjkjiibhdpcpkaaDoor.PS
open Go.RowKit Go.Proofs.YtjkjiibhdpcpkaaDoorW.PrintWords Go.Proofs.YtjkjiibhdpcpkaaDoorW.PrintLast
set_option linter.unusedVariables false
set_option linter.unusedSimpArgs false
def corebankref01_times.f (a0_0 a0_1 a1 : Int) : Option (Int × Int × Bool) :=
 if (inU a0_0 ∧ inU a0_1) ∧ inU a1 then
  some (wv a0_0 a0_1 * a1 / 18446744073709551616 % 18446744073709551616, wv a0_0 a0_1 * a1 % 18446744073709551616, decide (wv a0_0 a0_1 * a1 < 340282366920938463463374607431768211456)) else none
theorem plus_add (h0 l0 h1 l1 A B : Int) (i0 : inU h0) (i1 : inU l0) (j0 : inU h1) (j1 : inU l1) (hA : wv h0 l0 = A) (hB : wv h1 l1 = B) :
  corebankref01_plus.f h0 l0 h1 l1 = some ((A + B) / 18446744073709551616 % 18446744073709551616, (A + B) % 18446744073709551616, decide (A + B < 340282366920938463463374607431768211456)) := by
 unfold corebankref01_plus.f
 rw [if_pos ⟨⟨i0, i1⟩, j0, j1⟩, hA, hB]
theorem inU_mod (x : Int) : inU (x % 18446744073709551616) := by unfold inU; omega
theorem wv_mod (V : Int) : wv (V / 18446744073709551616 % 18446744073709551616) (V % 18446744073709551616) = V % 340282366920938463463374607431768211456 := by unfold wv; omega
theorem times_loop (mh ml m : Int) (i0 : inU mh) (i1 : inU ml) (hm : wv mh ml = m) (n : Nat) :
  ∀ (x T i : Int), 0 ≤ x → x < 18446744073709551616 → 0 ≤ T → 0 ≤ i → 64 - i = n →
   corebankref01_timesP.l0 (2 * n + 1) x (decide (m * T < 340282366920938463463374607431768211456)) i mh ml (m * T / 18446744073709551616 % 18446744073709551616) (m * T % 18446744073709551616) =
    some (m * (T * 2 ^ n + x * 2 ^ n / 18446744073709551616) / 18446744073709551616 % 18446744073709551616, m * (T * 2 ^ n + x * 2 ^ n / 18446744073709551616) % 18446744073709551616, decide (m * (T * 2 ^ n + x * 2 ^ n / 18446744073709551616) < 340282366920938463463374607431768211456)) := by
 have m0 : 0 ≤ m := by rw [← hm]; unfold wv; unfold inU at i0 i1; omega
 have m1 : m < 340282366920938463463374607431768211456 := by rw [← hm]; unfold wv; unfold inU at i0 i1; omega
 induction n with
 | zero =>
  intro x T i x0 x1 T0 j0 j1
  simp only [Nat.mul_zero, Nat.zero_add, corebankref01_timesP.l0]
  rw [if_neg (by omega)]
  have : T * 2 ^ 0 + x * 2 ^ 0 / 18446744073709551616 = T := by rw [Int.pow_zero, Int.mul_one, Int.mul_one, Int.ediv_eq_zero_of_lt x0 x1]; omega
  rw [this]
 | succ n ih =>
  intro x T i x0 x1 T0 j0 j1
  have q0 : 0 ≤ m * T := Int.mul_nonneg m0 T0
  rw [show 2 * (n + 1) + 1 = (2 * n + 1 + 1) + 1 by omega, corebankref01_timesP.l0, if_pos (by omega),
   plus_add _ _ _ _ _ _ (inU_mod _) (inU_mod _) (inU_mod _) (inU_mod _) (wv_mod (m * T)) (wv_mod (m * T))]
  simp only [Option.bind_some]
  have d1 : (m * T % 340282366920938463463374607431768211456 + m * T % 340282366920938463463374607431768211456) / 18446744073709551616 % 18446744073709551616 = m * (2 * T) / 18446744073709551616 % 18446744073709551616 := by
   rw [Int.mul_left_comm]; omega
  have d2 : (m * T % 340282366920938463463374607431768211456 + m * T % 340282366920938463463374607431768211456) % 18446744073709551616 = m * (2 * T) % 18446744073709551616 := by
   rw [Int.mul_left_comm]; omega
  have d3 : (if decide (m * T < 340282366920938463463374607431768211456) = true then decide (m * T % 340282366920938463463374607431768211456 + m * T % 340282366920938463463374607431768211456 < 340282366920938463463374607431768211456) else false) = decide (m * (2 * T) < 340282366920938463463374607431768211456) := by
   rw [Int.mul_left_comm]
   split
   ·rename_i hc
    have := of_decide_eq_true hc
    apply decide_eq_decide.mpr; omega
   ·rename_i hc
    have : ¬ m * T < 340282366920938463463374607431768211456 := fun h => hc (decide_eq_true h)
    symm; apply decide_eq_false; omega
  -- both ways through the flag come to one state
  have both : ∀ (F : Bool → Option (Int × Int × Bool)), (if decide (m * T < 340282366920938463463374607431768211456) = true then F (decide (m * T % 340282366920938463463374607431768211456 + m * T % 340282366920938463463374607431768211456 < 340282366920938463463374607431768211456)) else F false) = F (decide (m * (2 * T) < 340282366920938463463374607431768211456)) := by
   intro F
   rw [← d3]; split <;> rfl
  rw [d1, d2]
  rw [both (fun b => corebankref01_timesP.j1 (2 * n + 1 + 1) x b i mh ml (m * (2 * T) / 18446744073709551616 % 18446744073709551616) (m * (2 * T) % 18446744073709551616))]
  simp only [corebankref01_timesP.j1]
  have p0 : 0 < (2 : Int) ^ n := Int.pow_pos (by decide)
  have hi : wrap64 (i + 1) = i + 1 := i64_id _ (by omega) (by omega)
  have hf : T * 2 ^ (n + 1) = 2 * T * 2 ^ n := by rw [Int.pow_succ]; grind
  have hx : x * 2 ^ (n + 1) = 2 * x * 2 ^ n := by rw [Int.pow_succ]; grind
  rw [hf, hx]
  by_cases ht : x < 9223372036854775808
  ·rw [if_pos ((andTop x x0 x1).2 ht), hi, u64_id (x * 2) (by omega) (by omega), ih (x * 2) (2 * T) (i + 1) (by omega) (by omega) (by omega) (by omega) (by omega), Int.mul_comm x 2]
  ·rw [if_neg (fun hc => ht ((andTop x x0 x1).1 hc)), plus_add _ _ _ _ _ _ (inU_mod _) (inU_mod _) i0 i1 (wv_mod (m * (2 * T))) hm]
   simp only [Option.bind_some]
   have hx2 : IntKind.u64.wrap (x * 2) = 2 * x - 18446744073709551616 := by rw [IntKind.wrap_u64]; omega
   have e1 : m * (2 * T + 1) = m * (2 * T) + m := by rw [Int.mul_add, Int.mul_one]
   have q1 : 0 ≤ m * (2 * T) := Int.mul_nonneg m0 (by omega)
   have f1 : (m * (2 * T) % 340282366920938463463374607431768211456 + m) / 18446744073709551616 % 18446744073709551616 = m * (2 * T + 1) / 18446744073709551616 % 18446744073709551616 := by rw [e1]; omega
   have f2 : (m * (2 * T) % 340282366920938463463374607431768211456 + m) % 18446744073709551616 = m * (2 * T + 1) % 18446744073709551616 := by rw [e1]; omega
   have f3 : (if decide (m * (2 * T) < 340282366920938463463374607431768211456) = true then decide (m * (2 * T) % 340282366920938463463374607431768211456 + m < 340282366920938463463374607431768211456) else false) = decide (m * (2 * T + 1) < 340282366920938463463374607431768211456) := by
    rw [e1]
    split
    ·rename_i hc
     have := of_decide_eq_true hc
     apply decide_eq_decide.mpr; omega
    ·rename_i hc
     have : ¬ m * (2 * T) < 340282366920938463463374607431768211456 := fun h => hc (decide_eq_true h)
     symm; apply decide_eq_false; omega
   have both2 : ∀ (F : Bool → Option (Int × Int × Bool)), (if decide (m * (2 * T) < 340282366920938463463374607431768211456) = true then F (decide (m * (2 * T) % 340282366920938463463374607431768211456 + m < 340282366920938463463374607431768211456)) else F false) = F (decide (m * (2 * T + 1) < 340282366920938463463374607431768211456)) := by
    intro F
    rw [← f3]; split <;> rfl
   rw [f1, f2, hi, hx2, both2 (fun b => corebankref01_timesP.l0 (2 * n + 1) (2 * x - 18446744073709551616) b (i + 1) mh ml (m * (2 * T + 1) / 18446744073709551616 % 18446744073709551616) (m * (2 * T + 1) % 18446744073709551616)),
    ih (2 * x - 18446744073709551616) (2 * T + 1) (i + 1) (by omega) (by omega) (by omega) (by omega) (by omega)]
   have g : (2 * T + 1) * 2 ^ n + (2 * x - 18446744073709551616) * 2 ^ n / 18446744073709551616 = 2 * T * 2 ^ n + 2 * x * 2 ^ n / 18446744073709551616 := by
    rw [Int.add_mul, Int.one_mul, Int.sub_mul]
    generalize (2 : Int) ^ n = p at *
    generalize 2 * x * p = y
    omega
   rw [g]
theorem corebankref01_times.eq {a b c : Int} {r : Int × Int × Bool} (h : corebankref01_times.f a b c = some r) : ∃ k, corebankref01_timesP.f k a b c = some r := by
 unfold corebankref01_times.f at h
 split at h
 ·rename_i q
  obtain ⟨⟨a0, b0⟩, c0, c1⟩ := q
  injection h with h
  subst h
  refine ⟨2 * 64 + 1, ?_⟩
  unfold corebankref01_timesP.f
  have := times_loop a b (wv a b) a0 b0 rfl 64 c 0 0 c0 (by omega) (by omega) (by omega) (by omega)
  rw [show c * 2 ^ 64 / 18446744073709551616 = c from Int.mul_ediv_cancel c (by decide), Int.zero_mul, Int.zero_add] at this
  simpa using this
 ·cases h
theorem corebankref01_times.calls (a0_0 a0_1 a1 r1 r2 : Int) (r3 : Bool) (w : World) (h : corebankref01_times.f a0_0 a0_1 a1 = some (r1, r2, r3)) :
  Calls Tryd.prog 75 #[.agg #[.int .u64 a0_0, .int .u64 a0_1], .int .u64 a1] w fun e w' => e = .returned (.tuple #[.agg #[.int .u64 r1, .int .u64 r2], .bool r3]) ∧ Below w.heap.size w w' := by
 obtain ⟨k, h⟩ := corebankref01_times.eq h
 exact corebankref01_timesP.calls k a0_0 a0_1 a1 r1 r2 r3 w h
def corebankref01_sizeP.f (a0 : Int) : Option (Int) := if a0 < 0 then (some (IntKind.u64.wrap ((Go.bits .xor .u64 IntKind.u64.max (IntKind.u64.wrap (a0))) + 1))) else (some (IntKind.u64.wrap (a0)))
set_option maxHeartbeats 8000000 in
set_option maxRecDepth 100000 in
theorem corebankref01_sizeP.calls (a0 r : Int) (w : World) (h : corebankref01_sizeP.f a0 = some r) :
  Calls Tryd.prog 76 #[.int .i64 a0] w fun e w' => e = .returned (.int .u64 r) ∧ Drawn0 w w' := by
 have hsgn : IntKind.u64.signed = false := rfl
 have H : (if a0 < 0 then (some (IntKind.u64.wrap ((Go.bits .xor .u64 IntKind.u64.max (IntKind.u64.wrap (a0))) + 1))) else (some (IntKind.u64.wrap (a0)))) = some r := h
 clear h
 by_cases c2 : a0 < 0
 ·rw [if_pos c2] at H
  have c2b0 : decide (a0 < 0) = true := decide_eq_true c2
  clear c2
  obtain rfl := Option.some.inj H
  go_enter Tryd.func76, Tryd.ntmps76
  go_wp2
  go_ret
  exact ⟨by first | rfl | (simp; done) | (simp [*]; done), by repeat (first | exact Drawn0.refl _ | apply Drawn0.step)⟩
 ·rw [if_neg c2] at H
  have c2b0 : decide (a0 < 0) = false := decide_eq_false c2
  clear c2
  obtain rfl := Option.some.inj H
  go_enter Tryd.func76, Tryd.ntmps76
  go_wp2
  go_ret
  exact ⟨by first | rfl | (simp; done) | (simp [*]; done), by repeat (first | exact Drawn0.refl _ | apply Drawn0.step)⟩
def corebankref01_size.f (a0 : Int) : Option Int := if inI a0 then some (if a0 < 0 then -a0 else a0) else none
theorem corebankref01_size.eq {a : Int} {r : Int} (h : corebankref01_size.f a = some r) : corebankref01_sizeP.f a = some r := by
 unfold corebankref01_size.f at h
 split at h
 ·rename_i c
  obtain ⟨c0, c1⟩ := c
  injection h with h
  subst h
  unfold corebankref01_sizeP.f
  have hw : IntKind.u64.wrap a = if a < 0 then a + 18446744073709551616 else a := by rw [IntKind.wrap_u64]; split <;> omega
  rw [hw]
  by_cases hn : a < 0
  ·rw [if_pos hn, if_pos hn, if_pos hn, xorMax _ (by omega) (by omega), IntKind.wrap_u64]
   congr 1; omega
  ·rw [if_neg hn, if_neg hn, if_neg hn]
 ·cases h
theorem corebankref01_size.calls (a0 r : Int) (w : World) (h : corebankref01_size.f a0 = some r) :
  Calls Tryd.prog 76 #[.int .i64 a0] w fun e w' => e = .returned (.int .u64 r) ∧ Drawn0 w w' := by
 have h := corebankref01_size.eq h
 exact corebankref01_sizeP.calls a0 r w h
end Go.Proofs.YtjkjiibhdpcpkaaDoor.PS
