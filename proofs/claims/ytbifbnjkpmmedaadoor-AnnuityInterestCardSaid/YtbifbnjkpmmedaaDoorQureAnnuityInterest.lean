import Derived.Test.YtbifbnjkpmmedaaDoorQAx26
namespace Go.Proofs.YtbifbnjkpmmedaaDoor.PureAnnuityInterest
open Go.RowKit Go.Proofs.YtbifbnjkpmmedaaDoor.PA Go.Proofs.YtbifbnjkpmmedaaDoorW.PrintWords Go.Proofs.YtbifbnjkpmmedaaDoorW.PrintLast Go.Proofs.YtbifbnjkpmmedaaDoorW.PrintMore
set_option linter.unusedVariables false
set_option linter.unusedSimpArgs false
theorem live_true : corebanklaw32_live.f = some true := by decide +kernel
theorem AnnuityInterest_pure (a0_0 a0_1 a0_2 a0_3 : Int) : corebanklaw32_AnnuityInterest.f a0_0 a0_1 a0_2 a0_3 = some true := by
  unfold corebanklaw32_AnnuityInterest.f annuity_Interest.f annuity_terms_accepted.f corebankref32_Good.f
  simp only [Option.bind_some, live_true]
  by_cases g : goodB a0_0 a0_1 a0_2 a0_3 = true
  · obtain ⟨p0, p1, i0, i1, e0, e1, m0, m1⟩ := of_decide_eq_true g
    obtain ⟨x0, x1, x2, x3, x4, x5⟩ := interest_range (mode := a0_3) p0 p1 i0 i1 e0 e1
    unfold annuity_terms_interest.f
    rw [if_pos g, if_pos g]
    simp only [Option.bind_some]
    unfold corebankref01_Mul.f
    have hA : inI a0_0 ∧ inI a0_1 := ⟨by unfold inI; omega, by unfold inI; omega⟩
    rw [if_pos g, if_pos hA]
    simp only [Option.bind_some]
    have y0 : 0 ≤ a0_0 * a0_1 := Int.mul_nonneg p0 i0
    have y1 : a0_0 * a0_1 ≤ 1000000000000 * 1000000 := Int.mul_le_mul p1 i1 i0 (by decide)
    have hw : wv (a0_0 * a0_1 / 18446744073709551616) (a0_0 * a0_1 % 18446744073709551616) = a0_0 * a0_1 := by unfold wv; omega
    have hW : isW (a0_0 * a0_1 / 18446744073709551616) (a0_0 * a0_1 % 18446744073709551616) ∧ inI a0_2 := ⟨⟨by unfold inI; omega, by unfold inU; omega⟩, by unfold inI; omega⟩
    unfold corebankref01_Scale.f
    rw [if_pos hW, hw, Int.mul_assoc]
    have hin : in128 (a0_0 * (a0_1 * a0_2)) := by unfold in128; omega
    rw [if_pos hin]
    simp only [Option.bind_some]
    have hw2 : wv (a0_0 * (a0_1 * a0_2) / 18446744073709551616) (a0_0 * (a0_1 * a0_2) % 18446744073709551616) = a0_0 * (a0_1 * a0_2) := by unfold wv; omega
    have hW2 : isW (a0_0 * (a0_1 * a0_2) / 18446744073709551616) (a0_0 * (a0_1 * a0_2) % 18446744073709551616) ∧ inI 12000000 := ⟨⟨by unfold inI; omega, by unfold inU; omega⟩, by decide⟩
    unfold corebankref02_Divide.f
    rw [if_pos hW2, hw2]
    simp only [Option.bind_some]
    unfold divR
    have hI : inI (rq (a0_0 * (a0_1 * a0_2)) 12000000 a0_3) := by unfold inI; omega
    rw [if_neg (show ¬ ((12000000 : Int) < 1 ∨ a0_3 < 1 ∨ 6 < a0_3) by omega), if_pos hI, if_pos rfl, if_pos rfl]
  · rw [if_neg g]
    simp only [Option.bind_some]
    rw [if_neg g]
    rfl
end Go.Proofs.YtbifbnjkpmmedaaDoor.PureAnnuityInterest
