import Derived.Test.YtbifbnjkpmmedaaDoorQAx0
import Derived.Test.YtbifbnjkpmmedaaDoorQAx12
import Derived.Test.YtbifbnjkpmmedaaDoorQAx19
import Derived.Test.YtbifbnjkpmmedaaDoorQAx20
import Derived.Test.YtbifbnjkpmmedaaDoorQAx21
import Derived.Test.YtbifbnjkpmmedaaDoorQAx23
import Derived.Test.YtbifbnjkpmmedaaDoorQAx24
namespace Go.Proofs.YtbifbnjkpmmedaaDoor.PA
open Go.RowKit Go.Proofs.YtbifbnjkpmmedaaDoorW.PrintWords Go.Proofs.YtbifbnjkpmmedaaDoorW.PrintLast Go.Proofs.YtbifbnjkpmmedaaDoorW.PrintMore
attribute [local go_sem] max2_int max_two
set_option linter.unusedVariables false
set_option linter.unusedSimpArgs false
def corebankref02_Divide.f (a0_0 a0_1 a1 a2 : Int) : Option (Int × Int) := if isW a0_0 a0_1 ∧ inI a1 then some (divR (wv a0_0 a0_1) a1 a2) else none
theorem corebankref02_Divide.eq {a b n m : Int} {r : Int × Int} (h : corebankref02_Divide.f a b n m = some r) : ∃ k, corebankref02_DivideP.f k a b n m = some r := by
  unfold corebankref02_Divide.f at h
  split at h
  · rename_i q
    obtain ⟨⟨⟨a0, a1⟩, b0, b1⟩, n0, n1⟩ := id q
    injection h with h
    subst h
    refine ⟨3, ?_⟩
    unfold corebankref02_DivideP.f divR
    by_cases hn : n < 1
    · rw [if_pos hn, if_pos (.inl hn)]
      simp only [corebankref02_DivideP.j0]
      rw [if_pos trivial]
    · rw [if_neg hn]
      by_cases hm : m < 1 ∨ 6 < m
      · rw [if_pos (.inr hm)]
        have hval : corebankref02_Valid.f m = some false := by
          unfold corebankref02_Valid.f
          split
          · congr 1; apply decide_eq_false; omega
          · rfl
        rw [hval]
        simp only [Option.bind_some, corebankref02_DivideP.j0]
        rfl
      · rw [if_neg (by omega)]
        have hval : corebankref02_Valid.f m = some true := by
          unfold corebankref02_Valid.f
          rw [if_pos (by omega)]
          congr 1; apply decide_eq_true; omega
        rw [hval]
        simp only [Option.bind_some, corebankref02_DivideP.j0]
        rw [if_neg (by decide)]
        unfold corebankref01_Div.f
        rw [if_pos q, if_neg hn]
        simp only [Option.bind_some]
        have hv : wv a b = a * 18446744073709551616 + b := rfl
        have hsv : decide (a < 0) = decide (wv a b / n < 0) := by
          apply decide_eq_decide.mpr
          constructor
          · intro ha; exact Int.ediv_neg_of_neg_of_pos (by omega) (by omega)
          · intro hq
            have : ¬ 0 ≤ wv a b := fun h0 => by have := Int.ediv_nonneg h0 (show 0 ≤ n by omega); omega
            omega
        obtain ⟨qr, qs⟩ := quo_range (v := wv a b) (n := n) (by omega) (by omega)
        have r1 := Int.emod_lt_of_pos (wv a b) (show 0 < n by omega)
        rw [hsv]
        generalize wv a b = v at *
        have hwq : wv (v / n / 18446744073709551616) (v / n % 18446744073709551616) = v / n := by unfold wv; omega
        have hWq : isW (v / n / 18446744073709551616) (v / n % 18446744073709551616) := ⟨by unfold inI; omega, by unfold inU; omega⟩
        have hodd : (Int.tmod (v / n % 18446744073709551616) 2 == 1) = decide (v / n % 2 = 1) := by
          rw [Int.tmod_eq_emod_of_nonneg (by omega), Bool.eq_iff_iff, beq_iff_eq, decide_eq_true_eq]; omega
        rw [hodd]
        unfold rq
        by_cases hr : v % n > 0
        · rw [if_pos hr]
          have qs' := qs hr
          unfold corebankref02_up.f
          rw [if_pos ⟨by omega, hr, r1, by omega⟩]
          simp only [Option.bind_some, corebankref02_DivideP.j1]
          by_cases hu : upB (decide (v / n < 0)) (decide (v / n % 2 = 1)) (v % n) n m = true
          · have hup : (if 0 < v % n ∧ upB (decide (v / n < 0)) (decide (v / n % 2 = 1)) (v % n) n m = true then (1 : Int) else 0) = 1 := if_pos ⟨hr, hu⟩
            rw [if_pos hu, hup]
            have hO : corebankref01_Of.f 1 = some (0, 1) := by decide +kernel
            rw [hO]
            simp only [Option.bind_some]
            have hw1 : wv 0 1 = 1 := by decide
            unfold corebankref01_Add.f
            rw [if_pos ⟨hWq, by decide⟩, hwq, hw1, if_pos (by unfold in128; omega)]
            simp only [Option.bind_some, corebankref02_DivideP.j2]
            have hws : wv ((v / n + 1) / 18446744073709551616) ((v / n + 1) % 18446744073709551616) = v / n + 1 := by unfold wv; omega
            have hWs : isW ((v / n + 1) / 18446744073709551616) ((v / n + 1) % 18446744073709551616) := ⟨by unfold inI; omega, by unfold inU; omega⟩
            unfold corebankref01_Int.f
            rw [if_pos hWs, hws]
            simp only [Option.bind_some]
            split <;> rfl
          · have hup : (if 0 < v % n ∧ upB (decide (v / n < 0)) (decide (v / n % 2 = 1)) (v % n) n m = true then (1 : Int) else 0) = 0 := if_neg (fun hc => hu hc.2)
            rw [if_neg hu, hup, Int.add_zero]
            simp only [corebankref02_DivideP.j2]
            unfold corebankref01_Int.f
            rw [if_pos hWq, hwq]
            simp only [Option.bind_some]
            split <;> rfl
        · have hup : (if 0 < v % n ∧ upB (decide (v / n < 0)) (decide (v / n % 2 = 1)) (v % n) n m = true then (1 : Int) else 0) = 0 := if_neg (fun hc => hr hc.1)
          rw [if_neg hr, hup, Int.add_zero]
          simp only [corebankref02_DivideP.j1, corebankref02_DivideP.j2]
          rw [if_neg (by decide)]
          unfold corebankref01_Int.f
          rw [if_pos hWq, hwq]
          simp only [Option.bind_some]
          split <;> rfl
  · cases h
theorem corebankref02_Divide.calls (a0_0 : Int) (a0_1 : Int) (a1 : Int) (a2 : Int) (r1 : Int) (r2 : Int) (w : World) (h : corebankref02_Divide.f a0_0 a0_1 a1 a2 = some (r1, r2)) :
    Calls Tryd.prog 14 #[.agg #[.int .i64 a0_0, .int .u64 a0_1], .int .i64 a1, .int .i64 a2] w fun e w' => e = .returned (.tuple #[.int .i64 r1, .int .i64 r2]) ∧ Below w.heap.size w w' := by
  obtain ⟨k, h⟩ := corebankref02_Divide.eq h
  exact corebankref02_DivideP.calls k a0_0 a0_1 a1 a2 r1 r2 w h
end Go.Proofs.YtbifbnjkpmmedaaDoor.PA
