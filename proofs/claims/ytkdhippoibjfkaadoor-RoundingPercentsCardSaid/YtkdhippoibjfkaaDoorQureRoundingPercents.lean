import Derived.Test.YtkdhippoibjfkaaDoorQRx36
namespace Go.Proofs.YtkdhippoibjfkaaDoor.PureRoundingPercents
open Go.RowKit Go.Proofs.YtkdhippoibjfkaaDoor.PR Go.Proofs.YtkdhippoibjfkaaDoorW.PrintWords Go.Proofs.YtkdhippoibjfkaaDoorW.PrintLast
set_option linter.unusedVariables false
set_option linter.unusedSimpArgs false
theorem live_true : corebanklaw02_live.f = some true := rfl
theorem RoundingPercents_pure (a0 a1 a2 : Int) : corebanklaw02_RoundingPercents.f a0 a1 a2 = some true := by
  unfold corebanklaw02_RoundingPercents.f rounding_Percent.f corebankref02_Percent.f
  simp only [Option.bind_some, if_true, live_true]
end Go.Proofs.YtkdhippoibjfkaaDoor.PureRoundingPercents
