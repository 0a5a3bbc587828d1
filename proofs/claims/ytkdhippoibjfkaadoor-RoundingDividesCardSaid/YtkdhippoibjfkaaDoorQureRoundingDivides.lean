import Derived.Test.YtkdhippoibjfkaaDoorQRm11
namespace Go.Proofs.YtkdhippoibjfkaaDoor.PureRoundingDivides
open Go.RowKit Go.Proofs.YtkdhippoibjfkaaDoor.PR Go.Proofs.YtkdhippoibjfkaaDoorW.PrintWords Go.Proofs.YtkdhippoibjfkaaDoorW.PrintLast
set_option linter.unusedVariables false
set_option linter.unusedSimpArgs false
theorem live_true : corebanklaw02_live.f = some true := rfl
theorem RoundingDivides_pure (a0_0 a0_1 a1 a2 : Int) (h0 : inI a0_0) (h1 : inU a0_1) (h2 : inI a1) : corebanklaw02_RoundingDivides.f a0_0 a0_1 a1 a2 = some true := by
  unfold corebanklaw02_RoundingDivides.f rounding_Divide.f corebankref02_Divide.f
  rw [if_pos ⟨⟨h0, h1⟩, h2⟩]
  simp only [Option.bind_some, if_true, live_true]
  unfold rounding_Valid.f corebankref02_Valid.f
  by_cases c : a2 ≥ 1
  · simp [c]
  · simp [c]
end Go.Proofs.YtkdhippoibjfkaaDoor.PureRoundingDivides
