import Derived.Test.YtbifbnjkpmmedaaDoorQAx0
import Derived.Test.YtbifbnjkpmmedaaDoorQAx16
namespace Go.Proofs.YtbifbnjkpmmedaaDoor.PA
open Go.RowKit Go.Proofs.YtbifbnjkpmmedaaDoorW.PrintWords Go.Proofs.YtbifbnjkpmmedaaDoorW.PrintLast Go.Proofs.YtbifbnjkpmmedaaDoorW.PrintMore
attribute [local go_sem] max2_int max_two
set_option linter.unusedVariables false
set_option linter.unusedSimpArgs false
def corebankref01_Join.f (a0 : Bool) (a1_0 a1_1 : Int) : Option (Int × Int × Bool) :=
  if inU a1_0 ∧ inU a1_1 then
    some (wrap64 ((if a0 = true then -(wv a1_0 a1_1) else wv a1_0 a1_1) / 18446744073709551616), (if a0 = true then -(wv a1_0 a1_1) else wv a1_0 a1_1) % 18446744073709551616, decide (in128 (if a0 = true then -(wv a1_0 a1_1) else wv a1_0 a1_1))) else none
theorem corebankref01_Join.eq {n : Bool} {a b : Int} {r : Int × Int × Bool} (h : corebankref01_Join.f n a b = some r) : corebankref01_JoinP.f n a b = some r := by
  unfold corebankref01_Join.f at h
  split at h
  · rename_i c
    obtain ⟨⟨c0, c1⟩, c2, c3⟩ := c
    injection h with h
    subst h
    unfold corebankref01_JoinP.f
    rw [xorMax b c2 c3, xorMax a c0 c1]
    simp only [IntKind.wrap_u64]
    cases n with
    | true =>
      simp only [if_true]
      unfold wv
      split <;> split
      · rw [decide_eq_true (by unfold in128; omega)]; congr 2
        · unfold wrap64; omega
        · congr 1; omega
      · split
        · congr 2
          · unfold wrap64; omega
          · congr 1
            · omega
            · rw [Bool.eq_iff_iff, beq_iff_eq, decide_eq_true_eq]; unfold in128; omega
        · rw [decide_eq_false (by unfold in128; omega)]; congr 2
          · unfold wrap64; omega
          · congr 1; omega
      · rw [decide_eq_true (by unfold in128; omega)]; congr 2
        · unfold wrap64; omega
        · congr 1; omega
      · split
        · congr 2
          · unfold wrap64; omega
          · congr 1
            · omega
            · rw [Bool.eq_iff_iff, beq_iff_eq, decide_eq_true_eq]; unfold in128; omega
        · rw [decide_eq_false (by unfold in128; omega)]; congr 2
          · unfold wrap64; omega
          · congr 1; omega
    | false =>
      simp only [Bool.false_eq_true, if_false]
      unfold wv
      congr 2
      · unfold wrap64; omega
      · congr 1
        · omega
        · apply decide_eq_decide.mpr; unfold in128; omega
  · cases h
theorem corebankref01_Join.calls (a0 : Bool) (a1_0 : Int) (a1_1 : Int) (r1 : Int) (r2 : Int) (r3 : Bool) (w : World) (h : corebankref01_Join.f a0 a1_0 a1_1 = some (r1, r2, r3)) :
    Calls Tryd.prog 25 #[.bool a0, .agg #[.int .u64 a1_0, .int .u64 a1_1]] w fun e w' => e = .returned (.tuple #[.agg #[.int .i64 r1, .int .u64 r2], .bool r3]) ∧ Below w.heap.size w w' := by
  have h := corebankref01_Join.eq h
  exact corebankref01_JoinP.calls a0 a1_0 a1_1 r1 r2 r3 w h
end Go.Proofs.YtbifbnjkpmmedaaDoor.PA
