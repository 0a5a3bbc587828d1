import Derived.Test.YtkdhippoibjfkaaDoorQRx35
namespace Go.Proofs.YtkdhippoibjfkaaDoor.PureRoundingAmounts
open Go.RowKit Go.Proofs.YtkdhippoibjfkaaDoor.PR Go.Proofs.YtkdhippoibjfkaaDoorW.PrintWords Go.Proofs.YtkdhippoibjfkaaDoorW.PrintLast
set_option linter.unusedVariables false
set_option linter.unusedSimpArgs false
theorem live_true : corebanklaw02_live.f = some true := rfl
theorem cmp_lt {x y : Int} (h : x < y) : cmpR x y = -1 := by unfold cmpR; rw [if_pos h]
theorem cmp_gt {x y : Int} (h : y < x) : cmpR x y = 1 := by unfold cmpR; rw [if_neg (by omega), if_neg (by omega)]
theorem RoundingAmounts_pure (a0_0 a0_1 a1 : Int) (h0 : inI a0_0) (h1 : inU a0_1) : ∃ k, corebanklaw02_RoundingAmounts.f k a0_0 a0_1 a1 = some true := by
  refine ⟨1, ?_⟩
  unfold corebanklaw02_RoundingAmounts.f rounding_Amount.f corebankref02_Amount.f
  have hW : isW a0_0 a0_1 := ⟨h0, h1⟩
  rw [if_pos hW]
  simp only [Option.bind_some, if_true, corebanklaw02_RoundingAmounts.j0, live_true]
  rw [if_neg (by simp), if_neg (by simp)]
  by_cases e : (amtR (wv a0_0 a0_1) a1).2.2.2 = 0
  · rw [if_pos e]
    have hw0 : wv a0_0 a0_1 = a0_0 * 18446744073709551616 + a0_1 := rfl
    have hd : wv a0_0 a0_1 / 18446744073709551616 = a0_0 ∧ wv a0_0 a0_1 % 18446744073709551616 = a0_1 := by unfold inU at h1; omega
    have hr : in128 (wv a0_0 a0_1) := by unfold inI at h0; unfold inU at h1; unfold in128; omega
    generalize wv a0_0 a0_1 = v at *
    unfold amtR at e ⊢
    by_cases c : (divR v 1603080000000 a1).2 = 0
    · rw [if_pos c] at e ⊢
      obtain ⟨q, r0, r1⟩ := amt_rest c
      rw [q] at e ⊢
      by_cases d : -1000000000000 ≤ rq v 1603080000000 a1 ∧ rq v 1603080000000 a1 ≤ 1000000000000
      · rw [if_pos d] at e ⊢
        simp only
        generalize rq v 1603080000000 a1 = x at *
        have hp : -1603080000000000000000000 ≤ x * 1603080000000 ∧ x * 1603080000000 ≤ 1603080000000000000000000 := by omega
        unfold corebankref01_Mul.f
        rw [if_pos ⟨by unfold inI; omega, by decide⟩]
        simp only [Option.bind_some]
        have w1 : wv (x * 1603080000000 / 18446744073709551616) (x * 1603080000000 % 18446744073709551616) = x * 1603080000000 := by unfold wv; omega
        have w2 : wv ((v - x * 1603080000000) / 18446744073709551616) ((v - x * 1603080000000) % 18446744073709551616) = v - x * 1603080000000 := by unfold wv; omega
        have W1 : isW (x * 1603080000000 / 18446744073709551616) (x * 1603080000000 % 18446744073709551616) := ⟨by unfold inI; omega, by unfold inU; omega⟩
        have W2 : isW ((v - x * 1603080000000) / 18446744073709551616) ((v - x * 1603080000000) % 18446744073709551616) := ⟨by unfold inI; omega, by unfold inU; omega⟩
        unfold corebankref01_Add.f
        rw [if_pos ⟨W1, W2⟩, w1, w2, show x * 1603080000000 + (v - x * 1603080000000) = v by omega, if_pos hr, hd.1, hd.2]
        simp only [Option.bind_some, if_true, beq_self_eq_true, Bool.and_true]
        have hO : corebankref01_Of.f 1603080000000 = some (0, 1603080000000) := by decide +kernel
        have hN : corebankref01_Of.f (-1603080000000) = some (-1, 18446742470629551616) := by decide +kernel
        rw [hO, hN]
        simp only [Option.bind_some]
        unfold corebankref01_Cmp.f
        rw [if_pos ⟨W2, by decide⟩, if_pos ⟨W2, by decide⟩, w2, show wv 0 1603080000000 = 1603080000000 by decide, show wv (-1) 18446742470629551616 = -1603080000000 by decide, cmp_lt (by omega), cmp_gt (by omega)]
        rfl
      · rw [if_neg d] at e; cases e
    · rw [if_neg c] at e; exact absurd e c
  · rw [if_neg e]
end Go.Proofs.YtkdhippoibjfkaaDoor.PureRoundingAmounts
