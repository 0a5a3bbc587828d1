import Derived.Test.YtjkjiibhdpcpkaaDoorQRm2
import Derived.Test.YtjkjiibhdpcpkaaDoorQRm5
import Derived.Test.YtjkjiibhdpcpkaaDoorQSx35
namespace Go.Proofs.YtjkjiibhdpcpkaaDoor.PS
open Go.RowKit Go.Proofs.YtjkjiibhdpcpkaaDoorW.PrintWords Go.Proofs.YtjkjiibhdpcpkaaDoorW.PrintLast
set_option linter.unusedVariables false
set_option linter.unusedSimpArgs false
attribute [local go_sem high] eqA63
def corebankref01_Int.f (a0_0 a0_1 : Int) : Option (Int × Bool) :=
 if isW a0_0 a0_1 then some (if inI (wv a0_0 a0_1) then (wv a0_0 a0_1, true) else (0, false)) else none
theorem corebankref01_Int.eq {a b : Int} {r : Int × Bool} (h : corebankref01_Int.f a b = some r) : corebankref01_IntP.f a b = some r := by
 unfold corebankref01_Int.f at h
 split at h
 ·rename_i c
  obtain ⟨⟨c0, c1⟩, c2, c3⟩ := c
  injection h with h
  subst h
  unfold corebankref01_IntP.f corebankref01_Of.f
  have hI : inI (wrap64 b) := by unfold inI wrap64; omega
  rw [if_pos hI]
  simp only [Option.bind_some]
  by_cases e : inI (wv a b)
  ·rw [if_pos e]
   unfold inI wv at e
   have e1 : wrap64 b / 18446744073709551616 = a := by unfold wrap64; omega
   have e2 : wrap64 b % 18446744073709551616 = b := by unfold wrap64; omega
   rw [e1, e2, if_pos (by simp)]
   congr 2
   unfold wrap64 wv
   omega
  ·rw [if_neg e]
   unfold inI wv at e
   have e1 : wrap64 b / 18446744073709551616 ≠ a := by unfold wrap64; omega
   rw [if_neg (by simp [e1])]
 ·cases h
theorem corebankref01_Int.calls (a0_0 a0_1 r1 : Int) (r2 : Bool) (w : World) (h : corebankref01_Int.f a0_0 a0_1 = some (r1, r2)) :
  Calls Tryd.prog 63 #[.agg #[.int .i64 a0_0, .int .u64 a0_1]] w fun e w' => e = .returned (.tuple #[.int .i64 r1, .bool r2]) ∧ Below w.heap.size w w' := by
 have h := corebankref01_Int.eq h
 exact corebankref01_IntP.calls a0_0 a0_1 r1 r2 w h
end Go.Proofs.YtjkjiibhdpcpkaaDoor.PS
