import Derived.Test.YtkdhippoibjfkaaDoorQRx42
namespace Go.Proofs.YtkdhippoibjfkaaDoor.PureRoundingSteps
open Go.RowKit Go.Proofs.YtkdhippoibjfkaaDoor.PR Go.Proofs.YtkdhippoibjfkaaDoorW.PrintWords Go.Proofs.YtkdhippoibjfkaaDoorW.PrintLast
set_option linter.unusedVariables false
set_option linter.unusedSimpArgs false
theorem live_true : corebanklaw02_live.f = some true := rfl
theorem RoundingSteps_pure (a0 a1 a2 : Int) : corebanklaw02_RoundingSteps.f a0 a1 a2 = some true := by
  unfold corebanklaw02_RoundingSteps.f rounding_Step.f corebankref02_Step.f
  simp only [Option.bind_some, if_true, live_true]
  by_cases e : (stepR a0 a1 a2).2 = 0
  · rw [if_pos e]
    unfold stepR at e ⊢
    by_cases c : (-1000000000000 ≤ a0 ∧ a0 ≤ 1000000000000 ∧ 1 ≤ a1 ∧ a1 ≤ 1000000000000) ∧ 1 ≤ a2 ∧ a2 ≤ 6
    · rw [if_pos c] at e ⊢
      by_cases d : -1000000000000 ≤ rq a0 a1 a2 * a1 ∧ rq a0 a1 a2 * a1 ≤ 1000000000000
      · rw [if_pos d, if_neg (show ¬ a1 = 0 by omega), if_pos (Int.mul_tmod_left _ _)]
      · rw [if_neg d] at e; cases e
    · rw [if_neg c] at e; cases e
  · rw [if_neg e]
end Go.Proofs.YtkdhippoibjfkaaDoor.PureRoundingSteps
