import Derived.Test.YtbifbnjkpmmedaaDoorPAx28
namespace Go.Proofs.YtbifbnjkpmmedaaDoor.PureAnnuityRests
open Go.RowKit Go.Proofs.YtbifbnjkpmmedaaDoor.PA Go.Proofs.YtbifbnjkpmmedaaDoorW.PrintWords Go.Proofs.YtbifbnjkpmmedaaDoorW.PrintLast Go.Proofs.YtbifbnjkpmmedaaDoorW.PrintMore
set_option linter.unusedVariables false
set_option linter.unusedSimpArgs false
theorem live_true : corebanklaw32_live.f = some true := by decide +kernel
theorem AnnuityRests_pure (a0_0 a0_1 a0_2 a0_3 a1 a2 : Int) : corebanklaw32_AnnuityRests.f a0_0 a0_1 a0_2 a0_3 a1 a2 = some true := by
  unfold corebanklaw32_AnnuityRests.f annuity_Rest.f corebankref32_Rest.f
  simp only [Option.bind_some, live_true, if_true]
end Go.Proofs.YtbifbnjkpmmedaaDoor.PureAnnuityRests
