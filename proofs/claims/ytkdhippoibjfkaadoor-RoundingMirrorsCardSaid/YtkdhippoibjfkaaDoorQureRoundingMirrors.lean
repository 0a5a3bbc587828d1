import Derived.Test.YtkdhippoibjfkaaDoorQRx45
namespace Go.Proofs.YtkdhippoibjfkaaDoor.PureRoundingMirrors
open Go.RowKit Go.Proofs.YtkdhippoibjfkaaDoor.PR Go.Proofs.YtkdhippoibjfkaaDoorW.PrintWords Go.Proofs.YtkdhippoibjfkaaDoorW.PrintLast
set_option linter.unusedVariables false
set_option linter.unusedSimpArgs false
theorem live_true : corebanklaw02_live.f = some true := rfl
def swapM (m : Int) : Int := if m = 4 then 3 else if m = 3 then 4 else m
theorem upB_swap (neg odd : Bool) (r n m : Int) (hm : 1 ≤ m ∧ m ≤ 6) : upB (!neg) (!odd) (n - r) n (swapM m) = !upB neg odd r n m := by
  obtain rfl | rfl | rfl | rfl | rfl | rfl : m = 1 ∨ m = 2 ∨ m = 3 ∨ m = 4 ∨ m = 5 ∨ m = 6 := by omega
  · simp [upB, swapM]
  · simp [upB, swapM]
  · simp [upB, swapM]
  · simp [upB, swapM]
  · simp only [upB, swapM, Int.reduceEq, if_false, if_true]
    by_cases h1 : r > n - r
    · rw [if_pos h1, if_neg (show ¬ n - r > n - (n - r) by omega), if_pos (show n - r < n - (n - r) by omega)]; rfl
    · rw [if_neg h1]
      by_cases h2 : r < n - r
      · rw [if_pos h2, if_pos (show n - r > n - (n - r) by omega)]; rfl
      · rw [if_neg h2, if_neg (show ¬ n - r > n - (n - r) by omega), if_neg (show ¬ n - r < n - (n - r) by omega)]
  · simp only [upB, swapM, Int.reduceEq, if_false, if_true]
    by_cases h1 : r > n - r
    · rw [if_pos h1, if_neg (show ¬ n - r > n - (n - r) by omega), if_pos (show n - r < n - (n - r) by omega)]; rfl
    · rw [if_neg h1]
      by_cases h2 : r < n - r
      · rw [if_pos h2, if_pos (show n - r > n - (n - r) by omega)]; rfl
      · rw [if_neg h2, if_neg (show ¬ n - r > n - (n - r) by omega), if_neg (show ¬ n - r < n - (n - r) by omega)]
theorem rq_neg {v n m : Int} (hn : 1 ≤ n) (hm : 1 ≤ m ∧ m ≤ 6) : rq (-v) n (swapM m) = -rq v n m := by
  obtain ⟨e1, e2⟩ := neg_div (m := v) (n := n) (by omega)
  have r0 := Int.emod_nonneg v (show n ≠ 0 by omega)
  have r1 := Int.emod_lt_of_pos v (show 0 < n by omega)
  unfold rq
  by_cases hr : 0 < v % n
  · rw [e1, e2, if_pos hr, if_pos hr]
    have h1 : decide (-(v / n + 1) < 0) = !decide (v / n < 0) := by
      rw [Bool.eq_iff_iff]; simp; omega
    have h2 : decide (-(v / n + 1) % 2 = 1) = !decide (v / n % 2 = 1) := by
      rw [Bool.eq_iff_iff]; simp; omega
    rw [h1, h2, upB_swap _ _ _ _ _ hm]
    cases upB (decide (v / n < 0)) (decide (v / n % 2 = 1)) (v % n) n m
    · rw [if_pos ⟨by omega, rfl⟩, if_neg (fun c => by cases c.2)]; omega
    · rw [if_neg (fun c => by cases c.2), if_pos ⟨hr, rfl⟩]; omega
  · rw [e1, e2, if_neg hr, if_neg hr, if_neg (fun c => absurd c.1 (by decide)), if_neg (fun c => hr c.1)]; omega
theorem mirrors_end {n m v : Int} (hn : 1 ≤ n) (hm : 1 ≤ m ∧ m ≤ 6) : corebanklaw02_RoundingMirrors.j3 1 (divR v n m).1 (divR v n m).2 (divR (-v) n (swapM m)).1 (divR (-v) n (swapM m)).2 (if (divR v n m).2 = 0 then (divR (-v) n (swapM m)).2 == 0 else false) = some true := by
  have hs : 1 ≤ swapM m ∧ swapM m ≤ 6 := by unfold swapM; split <;> (try split) <;> omega
  simp only [corebanklaw02_RoundingMirrors.j3, live_true, Option.bind_some]
  unfold divR
  rw [if_neg (show ¬ (n < 1 ∨ m < 1 ∨ 6 < m) by omega), if_neg (show ¬ (n < 1 ∨ swapM m < 1 ∨ 6 < swapM m) by omega), rq_neg hn hm]
  generalize rq v n m = x
  by_cases h1 : inI x <;> by_cases h2 : inI (-x)
  · rw [if_pos h1, if_pos h2]
    unfold inI at h1 h2
    have : wrap64 x = x := i64_id _ h1.1 (by omega)
    simp [this]
  · rw [if_pos h1, if_neg h2]
    unfold inI at h1 h2
    have : x = -9223372036854775808 := by omega
    subst this
    rfl
  · rw [if_neg h1, if_pos h2]
    unfold inI at h1 h2
    have : -x = -9223372036854775808 := by omega
    rw [this]
    rfl
  · rw [if_neg h1, if_neg h2]
    rfl
theorem RoundingMirrors_pure (a0_0 a0_1 a1 a2 : Int) (h0 : inI a0_0) (h1 : inU a0_1) (h2 : inI a1) : ∃ k, corebanklaw02_RoundingMirrors.f k a0_0 a0_1 a1 a2 = some true := by
  refine ⟨4, ?_⟩
  unfold corebanklaw02_RoundingMirrors.f
  have hO : corebankref01_Of.f 0 = some (0, 0) := by decide +kernel
  have hW : isW a0_0 a0_1 := ⟨h0, h1⟩
  rw [hO]
  simp only [Option.bind_some]
  unfold corebankref01_Sub.f
  rw [if_pos ⟨by decide, hW⟩, show wv 0 0 = 0 by decide, Int.zero_sub]
  simp only [Option.bind_some]
  by_cases hin : in128 (-wv a0_0 a0_1)
  · rw [if_pos hin]
    simp only [if_true]
    by_cases hn : a1 < 1
    · rw [if_pos hn]
      simp only [corebanklaw02_RoundingMirrors.j0, if_true, live_true, Option.bind_some]
    · rw [if_neg hn]
      unfold corebankref02_Valid.f
      by_cases hm : 1 ≤ a2 ∧ a2 ≤ 6
      · rw [if_pos hm.1, decide_eq_true hm.2]
        simp only [Option.bind_some, corebanklaw02_RoundingMirrors.j0, Bool.not_true, Bool.false_eq_true, if_false]
        have hW2 : isW (-wv a0_0 a0_1 / 18446744073709551616) (-wv a0_0 a0_1 % 18446744073709551616) := ⟨by unfold in128 at hin; unfold inI; omega, by unfold inU; omega⟩
        have hw2 : wv (-wv a0_0 a0_1 / 18446744073709551616) (-wv a0_0 a0_1 % 18446744073709551616) = -wv a0_0 a0_1 := by generalize wv a0_0 a0_1 = v; unfold wv; omega
        have key : corebanklaw02_RoundingMirrors.j2 2 a1 a2 (swapM a2) a0_0 a0_1 (-wv a0_0 a0_1 / 18446744073709551616) (-wv a0_0 a0_1 % 18446744073709551616) = some true := by
          simp only [corebanklaw02_RoundingMirrors.j2]
          unfold rounding_Divide.f
          rw [if_pos ⟨hW, h2⟩, if_pos ⟨hW2, h2⟩, hw2]
          simp only [Option.bind_some]
          have := mirrors_end (v := wv a0_0 a0_1) (show 1 ≤ a1 by omega) hm
          by_cases e : (divR (wv a0_0 a0_1) a1 a2).2 = 0
          · rw [if_pos e] at this ⊢; exact this
          · rw [if_neg e] at this ⊢; exact this
        by_cases m3 : a2 = 3
        · subst m3
          rw [if_pos rfl]
          simp only [corebanklaw02_RoundingMirrors.j1]
          rw [if_neg (by decide)]
          exact key
        · rw [if_neg m3]
          simp only [corebanklaw02_RoundingMirrors.j1]
          by_cases m4 : a2 = 4
          · subst m4
            rw [if_pos rfl]
            exact key
          · rw [if_neg m4]
            have : swapM a2 = a2 := by unfold swapM; rw [if_neg m4, if_neg m3]
            rw [this] at key
            exact key
      · have hf : (if a2 ≥ 1 then some (decide (a2 ≤ 6)) else some false) = some false := by
          split
          · rw [decide_eq_false (by omega)]
          · rfl
        rw [hf]
        simp only [Option.bind_some, corebanklaw02_RoundingMirrors.j0, Bool.not_false, if_true, live_true]
  · rw [if_neg hin]
    simp only [Int.reduceEq, if_false, corebanklaw02_RoundingMirrors.j0, if_true, live_true, Option.bind_some]
end Go.Proofs.YtkdhippoibjfkaaDoor.PureRoundingMirrors
