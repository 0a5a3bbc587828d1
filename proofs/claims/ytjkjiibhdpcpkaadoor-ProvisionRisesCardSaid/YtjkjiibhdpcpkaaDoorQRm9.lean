import Derived.Deep.Slices
import Derived.Test.YtjkjiibhdpcpkaaDoorQRm2
import Derived.Test.YtjkjiibhdpcpkaaDoorQRm3
import Derived.Test.YtjkjiibhdpcpkaaDoorQRm5
import Derived.Test.YtjkjiibhdpcpkaaDoorQRm6
import Derived.Test.YtjkjiibhdpcpkaaDoorQRm7
import Derived.Test.YtjkjiibhdpcpkaaDoorQRm8
section
namespace Go.Proofs.YtjkjiibhdpcpkaaDoor.PS
open Go.RowKit Go.Proofs.YtjkjiibhdpcpkaaDoorW.PrintWords Go.Proofs.YtjkjiibhdpcpkaaDoorW.PrintLast
set_option linter.unusedVariables false
set_option linter.unusedSimpArgs false
attribute [local go_sem high] eqA63
def sgn (n : Bool) (m : Int) : Int := if n = true then -m else m
def corebankref01_sum.f (a0 : Bool) (a1_0 a1_1 : Int) (a2 : Bool) (a3_0 a3_1 : Int) : Option (Int × Int × Int) :=
 if (inU a1_0 ∧ inU a1_1) ∧ inU a3_0 ∧ inU a3_1 then
  some (if in128 (sgn a0 (wv a1_0 a1_1) + sgn a2 (wv a3_0 a3_1)) then ((sgn a0 (wv a1_0 a1_1) + sgn a2 (wv a3_0 a3_1)) / 18446744073709551616, (sgn a0 (wv a1_0 a1_1) + sgn a2 (wv a3_0 a3_1)) % 18446744073709551616, 0) else (0, 0, 6)) else none
theorem sum_end (n ok : Bool) (m S : Int) (m0 : 0 ≤ m) (m1 : m < 340282366920938463463374607431768211456) (hS : ok = true → sgn n m = S) (hno : ok = false → ¬ in128 S) :
  corebankref01_sumP.j0 2 n ok (m / 18446744073709551616 % 18446744073709551616) (m % 18446744073709551616) = some (if in128 S then (S / 18446744073709551616, S % 18446744073709551616, 0) else (0, 0, 6)) := by
 simp only [corebankref01_sumP.j0]
 unfold corebankref01_Join.f
 have hU : inU (m / 18446744073709551616 % 18446744073709551616) ∧ inU (m % 18446744073709551616) := ⟨by unfold inU; omega, by unfold inU; omega⟩
 have hw : wv (m / 18446744073709551616 % 18446744073709551616) (m % 18446744073709551616) = m := by unfold wv; omega
 rw [if_pos hU, hw]
 simp only [Option.bind_some, corebankref01_sumP.j1]
 cases ok with
 | true =>
  have hs := hS rfl
  unfold sgn at hs
  rw [if_pos rfl, hs]
  by_cases hin : in128 S
  ·rw [if_pos hin, decide_eq_true hin, if_neg (by decide)]
   rw [i64_id _ (by unfold in128 at hin; omega) (by unfold in128 at hin; omega)]
  ·rw [if_neg hin, decide_eq_false hin, if_pos (by decide)]
 | false => rw [if_neg (by decide), if_pos trivial, if_neg (hno rfl)]
theorem corebankref01_sum.eq {x y : Bool} {a b c d : Int} {r : Int × Int × Int} (h : corebankref01_sum.f x a b y c d = some r) : ∃ k, corebankref01_sumP.f k x a b y c d = some r := by
 unfold corebankref01_sum.f at h
 split at h
 ·rename_i q
  injection h with h
  subst h
  refine ⟨2, ?_⟩
  obtain ⟨⟨⟨a0, a1⟩, b0, b1⟩, ⟨c0, c1⟩, d0, d1⟩ := id q
  have hA : 0 ≤ wv a b ∧ wv a b < 340282366920938463463374607431768211456 := by unfold wv; omega
  have hB : 0 ≤ wv c d ∧ wv c d < 340282366920938463463374607431768211456 := by unfold wv; omega
  unfold corebankref01_sumP.f
  by_cases hxy : x = y
  ·subst hxy
   rw [if_pos (by simp)]
   unfold corebankref01_plus.f
   rw [if_pos q]
   simp only [Option.bind_some]
   generalize wv a b = A at *
   generalize wv c d = B at *
   have e1 : (A + B) / 18446744073709551616 % 18446744073709551616 = (A + B) % 340282366920938463463374607431768211456 / 18446744073709551616 % 18446744073709551616 := by omega
   have e2 : (A + B) % 18446744073709551616 = (A + B) % 340282366920938463463374607431768211456 % 18446744073709551616 := by omega
   rw [e1, e2]
   refine sum_end x _ _ _ (by omega) (by omega) (fun ho => ?_) (fun ho => ?_)
   ·have := of_decide_eq_true ho
    rw [Int.emod_eq_of_lt (by omega) this]
    unfold sgn; split <;> omega
   ·have := of_decide_eq_false ho
    unfold in128 sgn; split <;> omega
  ·rw [if_neg (by simpa using hxy)]
   unfold corebankref01_Less.f
   rw [if_pos q]
   simp only [Option.bind_some]
   unfold corebankref01_minus.f
   by_cases hlt : wv a b < wv c d
   ·rw [decide_eq_true hlt, if_pos rfl, if_pos ⟨⟨q.2, q.1⟩, by omega⟩]
    simp only [Option.bind_some]
    generalize wv a b = A at *
    generalize wv c d = B at *
    rw [show (B - A) / 18446744073709551616 = (B - A) / 18446744073709551616 % 18446744073709551616 by omega]
    refine sum_end y true _ _ (by omega) (by omega) (fun _ => ?_) (fun ho => by cases ho)
    cases x <;> cases y <;> simp [sgn] at hxy ⊢ <;> omega
   ·rw [decide_eq_false hlt, if_neg (by decide), if_pos ⟨q, by omega⟩]
    simp only [Option.bind_some]
    generalize wv a b = A at *
    generalize wv c d = B at *
    rw [show (A - B) / 18446744073709551616 = (A - B) / 18446744073709551616 % 18446744073709551616 by omega]
    refine sum_end x true _ _ (by omega) (by omega) (fun _ => ?_) (fun ho => by cases ho)
    cases x <;> cases y <;> simp [sgn] at hxy ⊢ <;> omega
 ·cases h
def corebankref01_AddP.f (a0_0 a0_1 a1_0 a1_1 : Int) : Option (Int × Int × Int) := (corebankref01_Split.f a0_0 a0_1).bind fun bt343 => ((corebankref01_Split.f a1_0 a1_1).bind fun bt347 => ((corebankref01_sum.f bt343.1 bt343.2.1 bt343.2.2 bt347.1 bt347.2.1 bt347.2.2).bind fun bt351 => (some (bt351.1, bt351.2.1, bt351.2.2))))
def corebankref01_Add.f (a0_0 a0_1 a1_0 a1_1 : Int) : Option (Int × Int × Int) :=
 if isW a0_0 a0_1 ∧ isW a1_0 a1_1 then
  some (if in128 (wv a0_0 a0_1 + wv a1_0 a1_1) then ((wv a0_0 a0_1 + wv a1_0 a1_1) / 18446744073709551616, (wv a0_0 a0_1 + wv a1_0 a1_1) % 18446744073709551616, 0) else (0, 0, 6)) else none
theorem corebankref01_Add.eq {a b c d : Int} {r : Int × Int × Int} (h : corebankref01_Add.f a b c d = some r) : corebankref01_AddP.f a b c d = some r := by
 unfold corebankref01_Add.f at h
 split at h
 ·rename_i q
  injection h with h
  subst h
  unfold corebankref01_AddP.f corebankref01_Split.f
  rw [if_pos q.1, if_pos q.2]
  simp only [Option.bind_some]
  obtain ⟨⟨⟨a0, a1⟩, b0, b1⟩, ⟨c0, c1⟩, d0, d1⟩ := id q
  have hA : wv a b = a * 18446744073709551616 + b := rfl
  have hB : wv c d = c * 18446744073709551616 + d := rfl
  have mA : 0 ≤ (if a < 0 then -(wv a b) else wv a b) ∧ (if a < 0 then -(wv a b) else wv a b) ≤ 170141183460469231731687303715884105728 := by split <;> omega
  have mB : 0 ≤ (if c < 0 then -(wv c d) else wv c d) ∧ (if c < 0 then -(wv c d) else wv c d) ≤ 170141183460469231731687303715884105728 := by split <;> omega
  have sA : sgn (decide (a < 0)) (if a < 0 then -(wv a b) else wv a b) = wv a b := by unfold sgn; by_cases h : a < 0 <;> simp [h]
  have sB : sgn (decide (c < 0)) (if c < 0 then -(wv c d) else wv c d) = wv c d := by unfold sgn; by_cases h : c < 0 <;> simp [h]
  generalize (if a < 0 then -(wv a b) else wv a b) = A at *
  generalize (if c < 0 then -(wv c d) else wv c d) = B at *
  have wA : wv (A / 18446744073709551616) (A % 18446744073709551616) = A := by unfold wv; omega
  have wB : wv (B / 18446744073709551616) (B % 18446744073709551616) = B := by unfold wv; omega
  have hU : (inU (A / 18446744073709551616) ∧ inU (A % 18446744073709551616)) ∧ inU (B / 18446744073709551616) ∧ inU (B % 18446744073709551616) := ⟨⟨by unfold inU; omega, by unfold inU; omega⟩, by unfold inU; omega, by unfold inU; omega⟩
  unfold corebankref01_sum.f
  rw [if_pos hU, wA, wB, sA, sB]
  simp only [Option.bind_some]
 ·cases h
def corebankref01_OfP.f (a0 : Int) : Option (Int × Int) := if a0 < 0 then (some ((-1), IntKind.u64.wrap (a0))) else (some (0, IntKind.u64.wrap (a0)))
def corebankref01_Of.f (a0 : Int) : Option (Int × Int) := if inI a0 then some (a0 / 18446744073709551616, a0 % 18446744073709551616) else none
theorem corebankref01_Of.eq {a : Int} {r : Int × Int} (h : corebankref01_Of.f a = some r) : corebankref01_OfP.f a = some r := by
 unfold corebankref01_Of.f at h
 split at h
 ·rename_i c
  obtain ⟨c0, c1⟩ := c
  injection h with h
  subst h
  unfold corebankref01_OfP.f
  simp only [IntKind.wrap_u64]
  split <;> (congr 2; omega)
 ·cases h
def corebankref01_IntP.f (a0_0 a0_1 : Int) : Option (Int × Bool) := (corebankref01_Of.f (wrap64 (a0_1))).bind fun bt356 => (if (bt356.1 == a0_0 && (bt356.2 == a0_1)) = true then (some (wrap64 (a0_1), true)) else (some (0, false)))
end Go.Proofs.YtjkjiibhdpcpkaaDoor.PS
end
section
namespace Go.Proofs.YtjkjiibhdpcpkaaDoor.PS
open Go.RowKit Go.Proofs.YtjkjiibhdpcpkaaDoorW.PrintWords Go.Proofs.YtjkjiibhdpcpkaaDoorW.PrintLast
set_option linter.unusedVariables false
set_option linter.unusedSimpArgs false
attribute [local go_sem high] eqA63
def corebankref01_Int.f (a0_0 a0_1 : Int) : Option (Int × Bool) :=
 if isW a0_0 a0_1 then some (if inI (wv a0_0 a0_1) then (wv a0_0 a0_1, true) else (0, false)) else none
theorem corebankref01_Int.eq {a b : Int} {r : Int × Bool} (h : corebankref01_Int.f a b = some r) : corebankref01_IntP.f a b = some r := by
 unfold corebankref01_Int.f at h
 split at h
 ·rename_i c
  obtain ⟨⟨c0, c1⟩, c2, c3⟩ := c
  injection h with h
  subst h
  unfold corebankref01_IntP.f corebankref01_Of.f
  have hI : inI (wrap64 b) := by unfold inI wrap64; omega
  rw [if_pos hI]
  simp only [Option.bind_some]
  by_cases e : inI (wv a b)
  ·rw [if_pos e]
   unfold inI wv at e
   have e1 : wrap64 b / 18446744073709551616 = a := by unfold wrap64; omega
   have e2 : wrap64 b % 18446744073709551616 = b := by unfold wrap64; omega
   rw [e1, e2, if_pos (by simp)]
   congr 2
   unfold wrap64 wv
   omega
  ·rw [if_neg e]
   unfold inI wv at e
   have e1 : wrap64 b / 18446744073709551616 ≠ a := by unfold wrap64; omega
   rw [if_neg (by simp [e1])]
 ·cases h
end Go.Proofs.YtjkjiibhdpcpkaaDoor.PS
end
section
namespace Go.Proofs.YtjkjiibhdpcpkaaDoor.PS
open Go.RowKit Go.Proofs.YtjkjiibhdpcpkaaDoorW.PrintWords Go.Proofs.YtjkjiibhdpcpkaaDoorW.PrintLast
set_option linter.unusedVariables false
set_option linter.unusedSimpArgs false
mutual
def corebankref02_DivideP.j0 : Nat → Int → Int → Bool → Int → Int → Option (Int × Int)
 | 0, _, _, _, _, _ => none
 | k + 1, x1, x2, x21, x359000, x359001 => if x21 = true then (some (0, 1)) else ((corebankref01_Div.f x359000 x359001 x1).bind fun bt360 => (if bt360.2.2.1 > 0 then ((corebankref02_up.f (decide (x359000 < 0)) ((Int.tmod bt360.2.1 2) == 1) bt360.2.2.1 x1 x2).bind fun t365 => (corebankref02_DivideP.j1 k t365 bt360.1 bt360.2.1)) else (corebankref02_DivideP.j1 k false bt360.1 bt360.2.1)))
def corebankref02_DivideP.j1 : Nat → Bool → Int → Int → Option (Int × Int)
 | 0, _, _, _ => none
 | k + 1, x43, x365000, x365001 => if x43 = true then ((corebankref01_Of.f 1).bind fun bt366 => ((corebankref01_Add.f x365000 x365001 bt366.1 bt366.2).bind fun bt368 => (corebankref02_DivideP.j2 k bt368.1 bt368.2.1))) else (corebankref02_DivideP.j2 k x365000 x365001)
def corebankref02_DivideP.j2 : Nat → Int → Int → Option (Int × Int)
 | 0, _, _ => none
 | k + 1, x365000, x365001 => (corebankref01_Int.f x365000 x365001).bind fun bt372 => (if bt372.2 = true then (some (bt372.1, 0)) else (some (0, 6)))
end
def corebankref02_DivideP.f (k : Nat) (a0_0 a0_1 a1 a2 : Int) : Option (Int × Int) := if a1 < 1 then (corebankref02_DivideP.j0 k a1 a2 true a0_0 a0_1) else ((corebankref02_Valid.f a2).bind fun t359 => (corebankref02_DivideP.j0 k a1 a2 (!t359) a0_0 a0_1))
end Go.Proofs.YtjkjiibhdpcpkaaDoor.PS
end
section
namespace Go.Proofs.YtjkjiibhdpcpkaaDoor.PS
open Go.RowKit Go.Proofs.YtjkjiibhdpcpkaaDoorW.PrintWords Go.Proofs.YtjkjiibhdpcpkaaDoorW.PrintLast
set_option linter.unusedVariables false
set_option linter.unusedSimpArgs false
def corebankref02_Divide.f (a0_0 a0_1 a1 a2 : Int) : Option (Int × Int) := if isW a0_0 a0_1 ∧ inI a1 then some (divR (wv a0_0 a0_1) a1 a2) else none
theorem corebankref02_Divide.eq {a b n m : Int} {r : Int × Int} (h : corebankref02_Divide.f a b n m = some r) : ∃ k, corebankref02_DivideP.f k a b n m = some r := by
 unfold corebankref02_Divide.f at h
 split at h
 ·rename_i q
  obtain ⟨⟨⟨a0, a1⟩, b0, b1⟩, n0, n1⟩ := id q
  injection h with h
  subst h
  refine ⟨3, ?_⟩
  unfold corebankref02_DivideP.f divR
  by_cases hn : n < 1
  ·rw [if_pos hn, if_pos (.inl hn)]
   simp only [corebankref02_DivideP.j0]
   rw [if_pos trivial]
  ·rw [if_neg hn]
   by_cases hm : m < 1 ∨ 6 < m
   ·rw [if_pos (.inr hm)]
    have hval : corebankref02_Valid.f m = some false := by
     unfold corebankref02_Valid.f
     split
     ·congr 1; apply decide_eq_false; omega
     ·rfl
    rw [hval]
    simp only [Option.bind_some, corebankref02_DivideP.j0]
    rfl
   ·rw [if_neg (by omega)]
    have hval : corebankref02_Valid.f m = some true := by
     unfold corebankref02_Valid.f
     rw [if_pos (by omega)]
     congr 1; apply decide_eq_true; omega
    rw [hval]
    simp only [Option.bind_some, corebankref02_DivideP.j0]
    rw [if_neg (by decide)]
    unfold corebankref01_Div.f
    rw [if_pos q, if_neg hn]
    simp only [Option.bind_some]
    have hv : wv a b = a * 18446744073709551616 + b := rfl
    have hsv : decide (a < 0) = decide (wv a b / n < 0) := by
     apply decide_eq_decide.mpr
     constructor
     ·intro ha; exact Int.ediv_neg_of_neg_of_pos (by omega) (by omega)
     ·intro hq
      have : ¬ 0 ≤ wv a b := fun h0 => by have := Int.ediv_nonneg h0 (show 0 ≤ n by omega); omega
      omega
    obtain ⟨qr, qs⟩ := quo_range (v := wv a b) (n := n) (by omega) (by omega)
    have r1 := Int.emod_lt_of_pos (wv a b) (show 0 < n by omega)
    rw [hsv]
    generalize wv a b = v at *
    have hwq : wv (v / n / 18446744073709551616) (v / n % 18446744073709551616) = v / n := by unfold wv; omega
    have hWq : isW (v / n / 18446744073709551616) (v / n % 18446744073709551616) := ⟨by unfold inI; omega, by unfold inU; omega⟩
    have hodd : (Int.tmod (v / n % 18446744073709551616) 2 == 1) = decide (v / n % 2 = 1) := by
     rw [Int.tmod_eq_emod_of_nonneg (by omega), Bool.eq_iff_iff, beq_iff_eq, decide_eq_true_eq]; omega
    rw [hodd]
    unfold rq
    by_cases hr : v % n > 0
    ·rw [if_pos hr]
     have qs' := qs hr
     unfold corebankref02_up.f
     rw [if_pos ⟨by omega, hr, r1, by omega⟩]
     simp only [Option.bind_some, corebankref02_DivideP.j1]
     by_cases hu : upB (decide (v / n < 0)) (decide (v / n % 2 = 1)) (v % n) n m = true
     ·have hup : (if 0 < v % n ∧ upB (decide (v / n < 0)) (decide (v / n % 2 = 1)) (v % n) n m = true then (1 : Int) else 0) = 1 := if_pos ⟨hr, hu⟩
      rw [if_pos hu, hup]
      have hO : corebankref01_Of.f 1 = some (0, 1) := by decide +kernel
      rw [hO]
      simp only [Option.bind_some]
      have hw1 : wv 0 1 = 1 := by decide
      unfold corebankref01_Add.f
      rw [if_pos ⟨hWq, by decide⟩, hwq, hw1, if_pos (by unfold in128; omega)]
      simp only [Option.bind_some, corebankref02_DivideP.j2]
      have hws : wv ((v / n + 1) / 18446744073709551616) ((v / n + 1) % 18446744073709551616) = v / n + 1 := by unfold wv; omega
      have hWs : isW ((v / n + 1) / 18446744073709551616) ((v / n + 1) % 18446744073709551616) := ⟨by unfold inI; omega, by unfold inU; omega⟩
      unfold corebankref01_Int.f
      rw [if_pos hWs, hws]
      simp only [Option.bind_some]
      split <;> rfl
     ·have hup : (if 0 < v % n ∧ upB (decide (v / n < 0)) (decide (v / n % 2 = 1)) (v % n) n m = true then (1 : Int) else 0) = 0 := if_neg (fun hc => hu hc.2)
      rw [if_neg hu, hup, Int.add_zero]
      simp only [corebankref02_DivideP.j2]
      unfold corebankref01_Int.f
      rw [if_pos hWq, hwq]
      simp only [Option.bind_some]
      split <;> rfl
    ·have hup : (if 0 < v % n ∧ upB (decide (v / n < 0)) (decide (v / n % 2 = 1)) (v % n) n m = true then (1 : Int) else 0) = 0 := if_neg (fun hc => hr hc.1)
     rw [if_neg hr, hup, Int.add_zero]
     simp only [corebankref02_DivideP.j1, corebankref02_DivideP.j2]
     rw [if_neg (by decide)]
     unfold corebankref01_Int.f
     rw [if_pos hWq, hwq]
     simp only [Option.bind_some]
     split <;> rfl
 ·cases h
mutual
def corebankref01_timesP.l0 : Nat → Int → Bool → Int → Int → Int → Int → Int → Option (Int × Int × Bool)
 | 0, _, _, _, _, _, _, _ => none
 | k + 1, x1, x7, x8, x375000, x375001, x377000, x377001 => if x8 < 64 then ((corebankref01_plus.f x377000 x377001 x377000 x377001).bind fun bt377 => (if x7 = true then (corebankref01_timesP.j1 k x1 bt377.2.2 x8 x375000 x375001 bt377.1 bt377.2.1) else (corebankref01_timesP.j1 k x1 false x8 x375000 x375001 bt377.1 bt377.2.1))) else (some (x377000, x377001, x7))
def corebankref01_timesP.j1 : Nat → Int → Bool → Int → Int → Int → Int → Int → Option (Int × Int × Bool)
 | 0, _, _, _, _, _, _, _ => none
 | k + 1, x1, x7, x8, x375000, x375001, x377000, x377001 => if (Go.bits .and .u64 x1 9223372036854775808) = 0 then (corebankref01_timesP.l0 k (IntKind.u64.wrap (x1 * 2)) x7 (wrap64 (x8 + 1)) x375000 x375001 x377000 x377001) else ((corebankref01_plus.f x377000 x377001 x375000 x375001).bind fun bt381 => (if x7 = true then (corebankref01_timesP.l0 k (IntKind.u64.wrap (x1 * 2)) bt381.2.2 (wrap64 (x8 + 1)) x375000 x375001 bt381.1 bt381.2.1) else (corebankref01_timesP.l0 k (IntKind.u64.wrap (x1 * 2)) false (wrap64 (x8 + 1)) x375000 x375001 bt381.1 bt381.2.1)))
end
def corebankref01_timesP.f (k : Nat) (a0_0 a0_1 a1 : Int) : Option (Int × Int × Bool) := corebankref01_timesP.l0 k a1 true 0 a0_0 a0_1 0 0
end Go.Proofs.YtjkjiibhdpcpkaaDoor.PS
end
section
namespace Go.Proofs.YtjkjiibhdpcpkaaDoor.PS
open Go.RowKit Go.Proofs.YtjkjiibhdpcpkaaDoorW.PrintWords Go.Proofs.YtjkjiibhdpcpkaaDoorW.PrintLast
set_option linter.unusedVariables false
set_option linter.unusedSimpArgs false
def corebankref01_times.f (a0_0 a0_1 a1 : Int) : Option (Int × Int × Bool) :=
 if (inU a0_0 ∧ inU a0_1) ∧ inU a1 then
  some (wv a0_0 a0_1 * a1 / 18446744073709551616 % 18446744073709551616, wv a0_0 a0_1 * a1 % 18446744073709551616, decide (wv a0_0 a0_1 * a1 < 340282366920938463463374607431768211456)) else none
theorem plus_add (h0 l0 h1 l1 A B : Int) (i0 : inU h0) (i1 : inU l0) (j0 : inU h1) (j1 : inU l1) (hA : wv h0 l0 = A) (hB : wv h1 l1 = B) :
  corebankref01_plus.f h0 l0 h1 l1 = some ((A + B) / 18446744073709551616 % 18446744073709551616, (A + B) % 18446744073709551616, decide (A + B < 340282366920938463463374607431768211456)) := by
 unfold corebankref01_plus.f
 rw [if_pos ⟨⟨i0, i1⟩, j0, j1⟩, hA, hB]
theorem inU_mod (x : Int) : inU (x % 18446744073709551616) := by unfold inU; omega
theorem wv_mod (V : Int) : wv (V / 18446744073709551616 % 18446744073709551616) (V % 18446744073709551616) = V % 340282366920938463463374607431768211456 := by unfold wv; omega
theorem times_loop (mh ml m : Int) (i0 : inU mh) (i1 : inU ml) (hm : wv mh ml = m) (n : Nat) :
  ∀ (x T i : Int), 0 ≤ x → x < 18446744073709551616 → 0 ≤ T → 0 ≤ i → 64 - i = n →
   corebankref01_timesP.l0 (2 * n + 1) x (decide (m * T < 340282366920938463463374607431768211456)) i mh ml (m * T / 18446744073709551616 % 18446744073709551616) (m * T % 18446744073709551616) =
    some (m * (T * 2 ^ n + x * 2 ^ n / 18446744073709551616) / 18446744073709551616 % 18446744073709551616, m * (T * 2 ^ n + x * 2 ^ n / 18446744073709551616) % 18446744073709551616, decide (m * (T * 2 ^ n + x * 2 ^ n / 18446744073709551616) < 340282366920938463463374607431768211456)) := by
 have m0 : 0 ≤ m := by rw [← hm]; unfold wv; unfold inU at i0 i1; omega
 have m1 : m < 340282366920938463463374607431768211456 := by rw [← hm]; unfold wv; unfold inU at i0 i1; omega
 induction n with
 | zero =>
  intro x T i x0 x1 T0 j0 j1
  simp only [Nat.mul_zero, Nat.zero_add, corebankref01_timesP.l0]
  rw [if_neg (by omega)]
  have : T * 2 ^ 0 + x * 2 ^ 0 / 18446744073709551616 = T := by rw [Int.pow_zero, Int.mul_one, Int.mul_one, Int.ediv_eq_zero_of_lt x0 x1]; omega
  rw [this]
 | succ n ih =>
  intro x T i x0 x1 T0 j0 j1
  have q0 : 0 ≤ m * T := Int.mul_nonneg m0 T0
  rw [show 2 * (n + 1) + 1 = (2 * n + 1 + 1) + 1 by omega, corebankref01_timesP.l0, if_pos (by omega),
   plus_add _ _ _ _ _ _ (inU_mod _) (inU_mod _) (inU_mod _) (inU_mod _) (wv_mod (m * T)) (wv_mod (m * T))]
  simp only [Option.bind_some]
  have d1 : (m * T % 340282366920938463463374607431768211456 + m * T % 340282366920938463463374607431768211456) / 18446744073709551616 % 18446744073709551616 = m * (2 * T) / 18446744073709551616 % 18446744073709551616 := by
   rw [Int.mul_left_comm]; omega
  have d2 : (m * T % 340282366920938463463374607431768211456 + m * T % 340282366920938463463374607431768211456) % 18446744073709551616 = m * (2 * T) % 18446744073709551616 := by
   rw [Int.mul_left_comm]; omega
  have d3 : (if decide (m * T < 340282366920938463463374607431768211456) = true then decide (m * T % 340282366920938463463374607431768211456 + m * T % 340282366920938463463374607431768211456 < 340282366920938463463374607431768211456) else false) = decide (m * (2 * T) < 340282366920938463463374607431768211456) := by
   rw [Int.mul_left_comm]
   split
   ·rename_i hc
    have := of_decide_eq_true hc
    apply decide_eq_decide.mpr; omega
   ·rename_i hc
    have : ¬ m * T < 340282366920938463463374607431768211456 := fun h => hc (decide_eq_true h)
    symm; apply decide_eq_false; omega
  -- both ways through the flag come to one state
  have both : ∀ (F : Bool → Option (Int × Int × Bool)), (if decide (m * T < 340282366920938463463374607431768211456) = true then F (decide (m * T % 340282366920938463463374607431768211456 + m * T % 340282366920938463463374607431768211456 < 340282366920938463463374607431768211456)) else F false) = F (decide (m * (2 * T) < 340282366920938463463374607431768211456)) := by
   intro F
   rw [← d3]; split <;> rfl
  rw [d1, d2]
  rw [both (fun b => corebankref01_timesP.j1 (2 * n + 1 + 1) x b i mh ml (m * (2 * T) / 18446744073709551616 % 18446744073709551616) (m * (2 * T) % 18446744073709551616))]
  simp only [corebankref01_timesP.j1]
  have p0 : 0 < (2 : Int) ^ n := Int.pow_pos (by decide)
  have hi : wrap64 (i + 1) = i + 1 := i64_id _ (by omega) (by omega)
  have hf : T * 2 ^ (n + 1) = 2 * T * 2 ^ n := by rw [Int.pow_succ]; grind
  have hx : x * 2 ^ (n + 1) = 2 * x * 2 ^ n := by rw [Int.pow_succ]; grind
  rw [hf, hx]
  by_cases ht : x < 9223372036854775808
  ·rw [if_pos ((andTop x x0 x1).2 ht), hi, u64_id (x * 2) (by omega) (by omega), ih (x * 2) (2 * T) (i + 1) (by omega) (by omega) (by omega) (by omega) (by omega), Int.mul_comm x 2]
  ·rw [if_neg (fun hc => ht ((andTop x x0 x1).1 hc)), plus_add _ _ _ _ _ _ (inU_mod _) (inU_mod _) i0 i1 (wv_mod (m * (2 * T))) hm]
   simp only [Option.bind_some]
   have hx2 : IntKind.u64.wrap (x * 2) = 2 * x - 18446744073709551616 := by rw [IntKind.wrap_u64]; omega
   have e1 : m * (2 * T + 1) = m * (2 * T) + m := by rw [Int.mul_add, Int.mul_one]
   have q1 : 0 ≤ m * (2 * T) := Int.mul_nonneg m0 (by omega)
   have f1 : (m * (2 * T) % 340282366920938463463374607431768211456 + m) / 18446744073709551616 % 18446744073709551616 = m * (2 * T + 1) / 18446744073709551616 % 18446744073709551616 := by rw [e1]; omega
   have f2 : (m * (2 * T) % 340282366920938463463374607431768211456 + m) % 18446744073709551616 = m * (2 * T + 1) % 18446744073709551616 := by rw [e1]; omega
   have f3 : (if decide (m * (2 * T) < 340282366920938463463374607431768211456) = true then decide (m * (2 * T) % 340282366920938463463374607431768211456 + m < 340282366920938463463374607431768211456) else false) = decide (m * (2 * T + 1) < 340282366920938463463374607431768211456) := by
    rw [e1]
    split
    ·rename_i hc
     have := of_decide_eq_true hc
     apply decide_eq_decide.mpr; omega
    ·rename_i hc
     have : ¬ m * (2 * T) < 340282366920938463463374607431768211456 := fun h => hc (decide_eq_true h)
     symm; apply decide_eq_false; omega
   have both2 : ∀ (F : Bool → Option (Int × Int × Bool)), (if decide (m * (2 * T) < 340282366920938463463374607431768211456) = true then F (decide (m * (2 * T) % 340282366920938463463374607431768211456 + m < 340282366920938463463374607431768211456)) else F false) = F (decide (m * (2 * T + 1) < 340282366920938463463374607431768211456)) := by
    intro F
    rw [← f3]; split <;> rfl
   rw [f1, f2, hi, hx2, both2 (fun b => corebankref01_timesP.l0 (2 * n + 1) (2 * x - 18446744073709551616) b (i + 1) mh ml (m * (2 * T + 1) / 18446744073709551616 % 18446744073709551616) (m * (2 * T + 1) % 18446744073709551616)),
    ih (2 * x - 18446744073709551616) (2 * T + 1) (i + 1) (by omega) (by omega) (by omega) (by omega) (by omega)]
   have g : (2 * T + 1) * 2 ^ n + (2 * x - 18446744073709551616) * 2 ^ n / 18446744073709551616 = 2 * T * 2 ^ n + 2 * x * 2 ^ n / 18446744073709551616 := by
    rw [Int.add_mul, Int.one_mul, Int.sub_mul]
    generalize (2 : Int) ^ n = p at *
    generalize 2 * x * p = y
    omega
   rw [g]
theorem corebankref01_times.eq {a b c : Int} {r : Int × Int × Bool} (h : corebankref01_times.f a b c = some r) : ∃ k, corebankref01_timesP.f k a b c = some r := by
 unfold corebankref01_times.f at h
 split at h
 ·rename_i q
  obtain ⟨⟨a0, b0⟩, c0, c1⟩ := q
  injection h with h
  subst h
  refine ⟨2 * 64 + 1, ?_⟩
  unfold corebankref01_timesP.f
  have := times_loop a b (wv a b) a0 b0 rfl 64 c 0 0 c0 (by omega) (by omega) (by omega) (by omega)
  rw [show c * 2 ^ 64 / 18446744073709551616 = c from Int.mul_ediv_cancel c (by decide), Int.zero_mul, Int.zero_add] at this
  simpa using this
 ·cases h
def corebankref01_sizeP.f (a0 : Int) : Option (Int) := if a0 < 0 then (some (IntKind.u64.wrap ((Go.bits .xor .u64 IntKind.u64.max (IntKind.u64.wrap (a0))) + 1))) else (some (IntKind.u64.wrap (a0)))
def corebankref01_size.f (a0 : Int) : Option Int := if inI a0 then some (if a0 < 0 then -a0 else a0) else none
theorem corebankref01_size.eq {a : Int} {r : Int} (h : corebankref01_size.f a = some r) : corebankref01_sizeP.f a = some r := by
 unfold corebankref01_size.f at h
 split at h
 ·rename_i c
  obtain ⟨c0, c1⟩ := c
  injection h with h
  subst h
  unfold corebankref01_sizeP.f
  have hw : IntKind.u64.wrap a = if a < 0 then a + 18446744073709551616 else a := by rw [IntKind.wrap_u64]; split <;> omega
  rw [hw]
  by_cases hn : a < 0
  ·rw [if_pos hn, if_pos hn, if_pos hn, xorMax _ (by omega) (by omega), IntKind.wrap_u64]
   congr 1; omega
  ·rw [if_neg hn, if_neg hn, if_neg hn]
 ·cases h
end Go.Proofs.YtjkjiibhdpcpkaaDoor.PS
end
section
namespace Go.Proofs.YtjkjiibhdpcpkaaDoor.PS
open Go.RowKit Go.Proofs.YtjkjiibhdpcpkaaDoorW.PrintWords Go.Proofs.YtjkjiibhdpcpkaaDoorW.PrintLast
set_option linter.unusedVariables false
set_option linter.unusedSimpArgs false
def corebankref01_ScaleP.j0 : Nat → Bool → Int → Int → Option (Int × Int × Int)
 | 0, _, _, _ => none
 | k + 1, x38, x399000, x399001 => if x38 = true then (some (0, 0, 6)) else (some (x399000, x399001, 0))
def corebankref01_ScaleP.f (k : Nat) (a0_0 a0_1 a1 : Int) : Option (Int × Int × Int) := (corebankref01_Split.f a0_0 a0_1).bind fun bt386 => ((corebankref01_size.f a1).bind fun t390 => ((corebankref01_times.f bt386.2.1 bt386.2.2 t390).bind fun bt391 => ((corebankref01_Join.f (bt386.1 != (decide (a1 < 0))) bt391.1 bt391.2.1).bind fun bt395 => (if bt391.2.2 = true then (corebankref01_ScaleP.j0 k (!bt395.2.2) bt395.1 bt395.2.1) else (corebankref01_ScaleP.j0 k true bt395.1 bt395.2.1)))))
end Go.Proofs.YtjkjiibhdpcpkaaDoor.PS
end
section
namespace Go.Proofs.YtjkjiibhdpcpkaaDoor.PS
open Go.RowKit Go.Proofs.YtjkjiibhdpcpkaaDoorW.PrintWords Go.Proofs.YtjkjiibhdpcpkaaDoorW.PrintLast
set_option linter.unusedVariables false
set_option linter.unusedSimpArgs false
def corebankref01_Scale.f (a0_0 a0_1 a1 : Int) : Option (Int × Int × Int) :=
 if isW a0_0 a0_1 ∧ inI a1 then some (if in128 (wv a0_0 a0_1 * a1) then (wv a0_0 a0_1 * a1 / 18446744073709551616, wv a0_0 a0_1 * a1 % 18446744073709551616, 0) else (0, 0, 6)) else none
theorem mul_abs' (v n : Int) : (if v < 0 then -v else v) * (if n < 0 then -n else n) = (if (decide (v < 0) != decide (n < 0)) = true then -(v * n) else v * n) ∧ 0 ≤ (if v < 0 then -v else v) * (if n < 0 then -n else n) := by
 have h0 : 0 ≤ (if v < 0 then -v else v) := by split <;> omega
 have h1 : 0 ≤ (if n < 0 then -n else n) := by split <;> omega
 refine ⟨?_, Int.mul_nonneg h0 h1⟩
 by_cases ha : v < 0 <;> by_cases hb : n < 0 <;> simp [ha, hb, Int.neg_mul, Int.mul_neg]
theorem corebankref01_Scale.eq {a b n : Int} {r : Int × Int × Int} (h : corebankref01_Scale.f a b n = some r) : ∃ k, corebankref01_ScaleP.f k a b n = some r := by
 unfold corebankref01_Scale.f at h
 split at h
 ·rename_i q
  obtain ⟨⟨⟨a0, a1⟩, b0, b1⟩, n0, n1⟩ := q
  injection h with h
  subst h
  refine ⟨1, ?_⟩
  unfold corebankref01_ScaleP.f corebankref01_Split.f corebankref01_size.f
  have hW : isW a b := ⟨⟨a0, a1⟩, b0, b1⟩
  have hI : inI n := ⟨n0, n1⟩
  rw [if_pos hW, if_pos hI]
  simp only [Option.bind_some]
  have hv : wv a b = a * 18446744073709551616 + b := rfl
  have hs : decide (a < 0) = decide (wv a b < 0) := by apply decide_eq_decide.mpr; omega
  have hm : (if a < 0 then -(wv a b) else wv a b) = (if wv a b < 0 then -(wv a b) else wv a b) := by split <;> split <;> omega
  rw [hm, hs]
  have mr : 0 ≤ (if wv a b < 0 then -(wv a b) else wv a b) ∧ (if wv a b < 0 then -(wv a b) else wv a b) ≤ 170141183460469231731687303715884105728 := by split <;> omega
  have nr : 0 ≤ (if n < 0 then -n else n) ∧ (if n < 0 then -n else n) ≤ 9223372036854775808 := by split <;> omega
  obtain ⟨z1, z2⟩ := mul_abs' (wv a b) n
  generalize wv a b = v at *
  generalize (if v < 0 then -v else v) = M at *
  generalize (if n < 0 then -n else n) = N at *
  have hU : (inU (M / 18446744073709551616) ∧ inU (M % 18446744073709551616)) ∧ inU N := ⟨⟨by unfold inU; omega, by unfold inU; omega⟩, by unfold inU; omega⟩
  have hwM : wv (M / 18446744073709551616) (M % 18446744073709551616) = M := by unfold wv; omega
  unfold corebankref01_times.f
  rw [if_pos hU, hwM]
  simp only [Option.bind_some]
  unfold corebankref01_Join.f
  have hU2 : inU (M * N / 18446744073709551616 % 18446744073709551616) ∧ inU (M * N % 18446744073709551616) := ⟨by unfold inU; omega, by unfold inU; omega⟩
  have hw2 : wv (M * N / 18446744073709551616 % 18446744073709551616) (M * N % 18446744073709551616) = M * N % 340282366920938463463374607431768211456 := by unfold wv; omega
  rw [if_pos hU2, hw2]
  simp only [Option.bind_some]
  generalize (decide (v < 0) != decide (n < 0)) = sg at *
  have hvn : v * n = if sg = true then -(M * N) else M * N := by split at z1 <;> split <;> simp_all
  rw [hvn]
  generalize M * N = V at *
  by_cases hV : V < 340282366920938463463374607431768211456
  ·rw [if_pos (decide_eq_true hV), Int.emod_eq_of_lt z2 hV]
   simp only [corebankref01_ScaleP.j0]
   by_cases hin : in128 (if sg = true then -V else V)
   ·rw [if_pos hin, decide_eq_true hin, if_neg (by decide)]
    have : wrap64 ((if sg = true then -V else V) / 18446744073709551616) = (if sg = true then -V else V) / 18446744073709551616 := i64_id _ (by unfold in128 at hin; omega) (by unfold in128 at hin; omega)
    rw [this]
   ·rw [if_neg hin, decide_eq_false hin, if_pos (by decide)]
  ·rw [if_neg (by simpa using hV)]
   simp only [corebankref01_ScaleP.j0]
   rw [if_pos trivial, if_neg (by unfold in128; split <;> omega)]
 ·cases h
def corebankref01_MulP.f (a0 a1 : Int) : Option (Int × Int) := (corebankref01_Of.f a0).bind fun bt400 => ((corebankref01_Scale.f bt400.1 bt400.2 a1).bind fun bt402 => (some (bt402.1, bt402.2.1)))
def corebankref01_Mul.f (a0 a1 : Int) : Option (Int × Int) := if inI a0 ∧ inI a1 then some (a0 * a1 / 18446744073709551616, a0 * a1 % 18446744073709551616) else none
theorem corebankref01_Mul.eq {a b : Int} {r : Int × Int} (h : corebankref01_Mul.f a b = some r) : corebankref01_MulP.f a b = some r := by
 unfold corebankref01_Mul.f at h
 split at h
 ·rename_i q
  obtain ⟨⟨a0, a1⟩, b0, b1⟩ := q
  injection h with h
  subst h
  unfold corebankref01_MulP.f corebankref01_Of.f
  have hA : inI a := ⟨a0, a1⟩
  have hB : inI b := ⟨b0, b1⟩
  rw [if_pos hA]
  simp only [Option.bind_some]
  have hw : wv (a / 18446744073709551616) (a % 18446744073709551616) = a := by unfold wv; omega
  have hW : isW (a / 18446744073709551616) (a % 18446744073709551616) := ⟨by unfold inI; omega, by unfold inU; omega⟩
  obtain ⟨z1, z2, z3⟩ := mul_abs a b a0 a1 b0 b1
  generalize (if a < 0 then -a else a) * (if b < 0 then -b else b) = e at z1 z2 z3
  have hin : in128 (a * b) := by unfold in128; split at z1 <;> omega
  unfold corebankref01_Scale.f
  rw [if_pos ⟨hW, hB⟩, hw, if_pos hin]
  rfl
 ·cases h
def corebankref02_PercentP.j0 : Nat → Int → Int → Int → Bool → Option (Int × Int)
 | 0, _, _, _, _ => none
 | k + 1, x0, x1, x2, x18 => if x18 = true then (some (0, 1)) else ((corebankref01_Mul.f x0 x1).bind fun bt407 => ((corebankref02_Divide.f bt407.1 bt407.2 1000000 x2).bind fun bt409 => (some (bt409.1, bt409.2))))
def corebankref02_PercentP.f (k : Nat) (a0 a1 a2 : Int) : Option (Int × Int) := (corebankref02_Good.f a0).bind fun t406 => (if t406 = true then (if a1 < 0 then (corebankref02_PercentP.j0 k a0 a1 a2 true) else (corebankref02_PercentP.j0 k a0 a1 a2 (decide (a1 > 1000000)))) else (corebankref02_PercentP.j0 k a0 a1 a2 true))
def corebankref02_Percent.f (a0 a1 a2 : Int) : Option (Int × Int) := some (pctR a0 a1 a2)
theorem corebankref02_Percent.eq {a p m : Int} {r : Int × Int} (h : corebankref02_Percent.f a p m = some r) : ∃ k, corebankref02_PercentP.f k a p m = some r := by
 unfold corebankref02_Percent.f at h
 rw [← h]
 refine ⟨1, ?_⟩
 unfold corebankref02_PercentP.f corebankref02_Good.f pctR
 simp only [corebankref02_PercentP.j0]
 by_cases h0 : a ≥ -1000000000000 <;> by_cases h1 : a ≤ 1000000000000
 ·rw [if_pos h0, decide_eq_true h1]
  simp only [Option.bind_some, if_true]
  by_cases h2 : p < 0
  ·rw [if_pos h2, if_neg (by omega)]
  ·rw [if_neg h2]
   by_cases h3 : p > 1000000
   ·rw [decide_eq_true h3, if_pos rfl, if_neg (by omega)]
   ·rw [decide_eq_false h3, if_neg (by decide)]
    have hr := pct_range (a := a) (p := p) ⟨h0, h1, by omega, by omega⟩
    rw [if_pos ⟨h0, h1, by omega, by omega⟩]
    unfold corebankref01_Mul.f
    rw [if_pos ⟨by unfold inI; omega, by unfold inI; omega⟩]
    simp only [Option.bind_some]
    unfold corebankref02_Divide.f
    rw [if_pos ⟨⟨by unfold inI; omega, by unfold inU; omega⟩, by decide⟩]
    simp only [Option.bind_some]
    have hw : wv (a * p / 18446744073709551616) (a * p % 18446744073709551616) = a * p := by unfold wv; omega
    rw [hw]
 ·have hn : ¬ (-1000000000000 ≤ a ∧ a ≤ 1000000000000 ∧ 0 ≤ p ∧ p ≤ 1000000) := by omega
  rw [if_pos h0, decide_eq_false h1, if_neg hn]
  rfl
 ·have hn : ¬ (-1000000000000 ≤ a ∧ a ≤ 1000000000000 ∧ 0 ≤ p ∧ p ≤ 1000000) := by omega
  rw [if_neg h0, if_neg hn]
  rfl
 ·have hn : ¬ (-1000000000000 ≤ a ∧ a ≤ 1000000000000 ∧ 0 ≤ p ∧ p ≤ 1000000) := by omega
  rw [if_neg h0, if_neg hn]
  rfl
end Go.Proofs.YtjkjiibhdpcpkaaDoor.PS
end
section
namespace Go.Proofs.YtjkjiibhdpcpkaaDoor.PS
open Go.RowKit Go.Proofs.YtjkjiibhdpcpkaaDoorW.PrintWords Go.Proofs.YtjkjiibhdpcpkaaDoorW.PrintLast
set_option linter.unusedVariables false
set_option linter.unusedSimpArgs false
mutual
def corebankref38_Great.j0 : Nat → Bool → Int → Int → Int → Int → Int → Int → Int → Int → Int → Int → Int → Int → Int → Int → Int → Int → Int → Int → Int → Int → Int → ByteArray → ByteArray → List (S54) → List (S50) → Option (Bool)
 | 0, _, _, _, _, _, _, _, _, _, _, _, _, _, _, _, _, _, _, _, _, _, _, _, _, _, _ => none
 | k + 1, x27, x102000, x102001, x102002, x102003, x102004, x102005, x102006, x102007, x102008, x102009, x102010, x102011, x102012, x102013, x102014, x102015, x102016, x102017, x102018, x102019, x102020, x102021, x102022, x102023, x102024 => if x27 = true then (some true) else (corebankref38_Great.l0 k 0 x102000 x102001 x102002 x102003 x102004 x102005 x102006 x102007 x102008 x102009 x102010 x102011 x102012 x102013 x102014 x102015 x102016 x102017 x102018 x102019 x102020 x102021 x102022 x102023 x102024)
def corebankref38_Great.l0 : Nat → Int → Int → Int → Int → Int → Int → Int → Int → Int → Int → Int → Int → Int → Int → Int → Int → Int → Int → Int → Int → Int → Int → ByteArray → ByteArray → List (S54) → List (S50) → Option (Bool)
 | 0, _, _, _, _, _, _, _, _, _, _, _, _, _, _, _, _, _, _, _, _, _, _, _, _, _, _ => none
 | k + 1, x3, x102000, x102001, x102002, x102003, x102004, x102005, x102006, x102007, x102008, x102009, x102010, x102011, x102012, x102013, x102014, x102015, x102016, x102017, x102018, x102019, x102020, x102021, x102022, x102023, x102024 => if x3 < (x102024.length : Int) then (if 0 ≤ x3 then (if (((rd_T50 x102024 x3).f2.f10).size : Int) > 100 then (corebankref38_Great.j2 k x3 true x102000 x102001 x102002 x102003 x102004 x102005 x102006 x102007 x102008 x102009 x102010 x102011 x102012 x102013 x102014 x102015 x102016 x102017 x102018 x102019 x102020 x102021 x102022 x102023 x102024) else (corebankref38_Great.j2 k x3 (decide ((((rd_T50 x102024 x3).f2.f11).size : Int) > 100)) x102000 x102001 x102002 x102003 x102004 x102005 x102006 x102007 x102008 x102009 x102010 x102011 x102012 x102013 x102014 x102015 x102016 x102017 x102018 x102019 x102020 x102021 x102022 x102023 x102024)) else (none)) else (some false)
def corebankref38_Great.j2 : Nat → Int → Bool → Int → Int → Int → Int → Int → Int → Int → Int → Int → Int → Int → Int → Int → Int → Int → Int → Int → Int → Int → Int → Int → ByteArray → ByteArray → List (S54) → List (S50) → Option (Bool)
 | 0, _, _, _, _, _, _, _, _, _, _, _, _, _, _, _, _, _, _, _, _, _, _, _, _, _, _, _ => none
 | k + 1, x3, x54, x102000, x102001, x102002, x102003, x102004, x102005, x102006, x102007, x102008, x102009, x102010, x102011, x102012, x102013, x102014, x102015, x102016, x102017, x102018, x102019, x102020, x102021, x102022, x102023, x102024 => if x54 = true then (some true) else (corebankref38_Great.l0 k (wrap64 (x3 + 1)) x102000 x102001 x102002 x102003 x102004 x102005 x102006 x102007 x102008 x102009 x102010 x102011 x102012 x102013 x102014 x102015 x102016 x102017 x102018 x102019 x102020 x102021 x102022 x102023 x102024)
end
def corebankref38_Great.f (k : Nat) (a0_0 a0_1 a0_2 a0_3 a0_4 a0_5 a0_6 a0_7 a0_8 a0_9 a0_10 a0_11 a0_12 a0_13 a0_14 a0_15 a0_16 a0_17 a0_18 a0_19 a0_20 : Int) (a0_21 a0_22 : ByteArray) (l0_23 : List (S54)) (l0_24 : List (S50)) : Option (Bool) := if (l0_23.length : Int) > 260 then (corebankref38_Great.j0 k true a0_0 a0_1 a0_2 a0_3 a0_4 a0_5 a0_6 a0_7 a0_8 a0_9 a0_10 a0_11 a0_12 a0_13 a0_14 a0_15 a0_16 a0_17 a0_18 a0_19 a0_20 a0_21 a0_22 l0_23 l0_24) else (if (l0_24.length : Int) > 70 then (corebankref38_Great.j0 k true a0_0 a0_1 a0_2 a0_3 a0_4 a0_5 a0_6 a0_7 a0_8 a0_9 a0_10 a0_11 a0_12 a0_13 a0_14 a0_15 a0_16 a0_17 a0_18 a0_19 a0_20 a0_21 a0_22 l0_23 l0_24) else (if (a0_21.size : Int) > 100 then (corebankref38_Great.j0 k true a0_0 a0_1 a0_2 a0_3 a0_4 a0_5 a0_6 a0_7 a0_8 a0_9 a0_10 a0_11 a0_12 a0_13 a0_14 a0_15 a0_16 a0_17 a0_18 a0_19 a0_20 a0_21 a0_22 l0_23 l0_24) else (corebankref38_Great.j0 k (decide ((a0_22.size : Int) > 100)) a0_0 a0_1 a0_2 a0_3 a0_4 a0_5 a0_6 a0_7 a0_8 a0_9 a0_10 a0_11 a0_12 a0_13 a0_14 a0_15 a0_16 a0_17 a0_18 a0_19 a0_20 a0_21 a0_22 l0_23 l0_24)))
set_option maxHeartbeats 8000000 in
set_option maxRecDepth 100000 in
theorem corebankref38_Great.calls (k : Nat) (a0_0 a0_1 a0_2 a0_3 a0_4 a0_5 a0_6 a0_7 a0_8 a0_9 a0_10 a0_11 a0_12 a0_13 a0_14 a0_15 a0_16 a0_17 a0_18 a0_19 a0_20 : Int) (a0_21 a0_22 : ByteArray) (A0_23 : Option Addr) (c0_23 : Nat) (l0_23 : List (S54)) (A0_24 : Option Addr) (c0_24 : Nat) (l0_24 : List (S50)) (r : Bool) (w : World) (hr0_23 : Kd.C k54 w A0_23 l0_23.length l0_23) (hc0_23 : l0_23.length ≤ c0_23) (hr0_24 : Kd.C k50 w A0_24 l0_24.length l0_24) (hc0_24 : l0_24.length ≤ c0_24) (h : corebankref38_Great.f k a0_0 a0_1 a0_2 a0_3 a0_4 a0_5 a0_6 a0_7 a0_8 a0_9 a0_10 a0_11 a0_12 a0_13 a0_14 a0_15 a0_16 a0_17 a0_18 a0_19 a0_20 a0_21 a0_22 l0_23 l0_24 = some r) :
  Calls Tryd.prog 8 #[.agg #[.int .i64 a0_0, .int .i64 a0_1, .int .i64 a0_2, .int .i64 a0_3, .int .i64 a0_4, .int .i64 a0_5, .int .i64 a0_6, .int .i64 a0_7, .int .i64 a0_8, .int .i64 a0_9, .int .i64 a0_10, .int .i64 a0_11, .int .i64 a0_12, .int .i64 a0_13, .int .i64 a0_14, .int .i64 a0_15, .int .i64 a0_16, .int .i64 a0_17, .int .i64 a0_18, .int .i64 a0_19, .int .i64 a0_20, .string a0_21, .string a0_22, .slice A0_23 l0_23.length c0_23, .slice A0_24 l0_24.length c0_24]] w fun e w' => e = .returned (.bool r) ∧ Below w.heap.size w w' := by
 have hu27 := Tryd.underlying27
 have HR0_23 := Aside0.mk hr0_23
 have HC0_23 := Aside0.mk hc0_23
 clear hr0_23 hc0_23
 have HR0_24 := Aside0.mk hr0_24
 have HC0_24 := Aside0.mk hc0_24
 clear hr0_24 hc0_24
 have HB := Aside0.mk (Below.refl w.heap.size w)
 have H : (if (l0_23.length : Int) > 260 then (corebankref38_Great.j0 k true a0_0 a0_1 a0_2 a0_3 a0_4 a0_5 a0_6 a0_7 a0_8 a0_9 a0_10 a0_11 a0_12 a0_13 a0_14 a0_15 a0_16 a0_17 a0_18 a0_19 a0_20 a0_21 a0_22 l0_23 l0_24) else (if (l0_24.length : Int) > 70 then (corebankref38_Great.j0 k true a0_0 a0_1 a0_2 a0_3 a0_4 a0_5 a0_6 a0_7 a0_8 a0_9 a0_10 a0_11 a0_12 a0_13 a0_14 a0_15 a0_16 a0_17 a0_18 a0_19 a0_20 a0_21 a0_22 l0_23 l0_24) else (if (a0_21.size : Int) > 100 then (corebankref38_Great.j0 k true a0_0 a0_1 a0_2 a0_3 a0_4 a0_5 a0_6 a0_7 a0_8 a0_9 a0_10 a0_11 a0_12 a0_13 a0_14 a0_15 a0_16 a0_17 a0_18 a0_19 a0_20 a0_21 a0_22 l0_23 l0_24) else (corebankref38_Great.j0 k (decide ((a0_22.size : Int) > 100)) a0_0 a0_1 a0_2 a0_3 a0_4 a0_5 a0_6 a0_7 a0_8 a0_9 a0_10 a0_11 a0_12 a0_13 a0_14 a0_15 a0_16 a0_17 a0_18 a0_19 a0_20 a0_21 a0_22 l0_23 l0_24)))) = some r := h
 clear h
 have HC2 := Aside0.mk H
 clear H
 go_enter Tryd.func8, Tryd.ntmps8
 go_upto_region 1 with (first | ((with_reducible refine gate_load_ (t := 27) rfl ?_); refine ld_ (t := 27) (cs := ?cs_) Tryd.underlying27 rfl rfl rfl ?hb_ rfl ?hi_ ?_; (case hb_ => (repeat (first | (with_reducible first | refine blk_drewN ?_ _ | refine blk_drew ?_ | refine blk_alloc ?_ _) | refine blk_set ?_ _ _)); (with_reducible first | exact BK101.out)); (case hi_ => kernel_rfl)) | ((with_reducible refine gate_dst (N := 1) rfl ?_); (try (refine gate_guard (by rfl) ?_; dsimp only)); refine be_ (N := 1) (cs := #[.int .i64 a0_0, .int .i64 a0_1, .int .i64 a0_2, .int .i64 a0_3, .int .i64 a0_4, .int .i64 a0_5, .int .i64 a0_6, .int .i64 a0_7, .int .i64 a0_8, .int .i64 a0_9, .int .i64 a0_10, .int .i64 a0_11, .int .i64 a0_12, .int .i64 a0_13, .int .i64 a0_14, .int .i64 a0_15, .int .i64 a0_16, .int .i64 a0_17, .int .i64 a0_18, .int .i64 a0_19, .int .i64 a0_20, .string a0_21, .string a0_22, .slice A0_23 l0_23.length c0_23, .slice A0_24 l0_24.length c0_24]) (t := 27) ?_; intro gb101 hg w3 hbox hb; have n0_ := Aside0.mk (below_step (qb_ HB.out) hb); have n1_ := Aside0.mk (hbox); have n2_ := Aside0.mk (bz_ hg (qb_ HB.out) : w.heap.size ≤ gb101); have n3_ := n2_; clear HB; have HB := n0_; have BK101 := n1_; have GW101 := n2_; have GE101 := n3_; clear n0_ n1_ n2_ n3_; clear hb hbox hg))
 (try simp only [Act.put, List.setIfInBounds_toArray, List.set_cons_zero, List.set_cons_succ])
 go_cut [27] (fun v27 wc => ∃ (kq : Nat) (x27_1 : Bool), v27 = .bool x27_1 ∧ Aside0 (corebankref38_Great.j0 kq x27_1 a0_0 a0_1 a0_2 a0_3 a0_4 a0_5 a0_6 a0_7 a0_8 a0_9 a0_10 a0_11 a0_12 a0_13 a0_14 a0_15 a0_16 a0_17 a0_18 a0_19 a0_20 a0_21 a0_22 l0_23 l0_24 = some r) ∧ Aside0 (kq ≤ k) ∧ Aside0 (wc.heap[gb101]? = some (.cells #[.int .i64 a0_0, .int .i64 a0_1, .int .i64 a0_2, .int .i64 a0_3, .int .i64 a0_4, .int .i64 a0_5, .int .i64 a0_6, .int .i64 a0_7, .int .i64 a0_8, .int .i64 a0_9, .int .i64 a0_10, .int .i64 a0_11, .int .i64 a0_12, .int .i64 a0_13, .int .i64 a0_14, .int .i64 a0_15, .int .i64 a0_16, .int .i64 a0_17, .int .i64 a0_18, .int .i64 a0_19, .int .i64 a0_20, .string a0_21, .string a0_22, (.slice A0_23 l0_23.length c0_23), (.slice A0_24 l0_24.length c0_24)] 27 (0, 0))) ∧ Aside0 (Below w.heap.size w wc))
 case first =>
  have H := HC2.out
  clear HC2
  by_cases c4 : (l0_23.length : Int) > 260
  ·rw [if_pos c4] at H
   have c4b0 : decide (260 < (l0_23.length : Int)) = true := decide_eq_true c4
   have c4b1 : decide (260 < l0_23.length) = true := decide_eq_true (by omega)
   clear c4
   (first | rw [c4b0] | (simp only [i64_w, i32_w]; rw [c4b0]) | skip)
   have H' := Aside0.mk H
   clear H
   obtain ⟨Z5_0, Z5_1, Z5_2, Z5_3, Z5_4, Z5_5, Z5_6, Z5_7, Z5_8, Z5_9, Z5_10, Z5_11, Z5_12, Z5_13, Z5_14, Z5_15, Z5_16, Z5_17, Z5_18, Z5_19, Z5_20, Z5_21, Z5_22, Z5_23, Z5_24, Y5_0, Y5_1, Y5_2, Y5_3, Y5_4, Y5_5, Y5_6, Y5_7, Y5_8, Y5_9, Y5_10, Y5_11, Y5_12, Y5_13, Y5_14, Y5_15, Y5_16, Y5_17, Y5_18, Y5_19, Y5_20, Y5_21, Y5_22, Y5_23, Y5_24⟩ := cz25_ BK101.out
   go_wp2
   go_meet
   case rel => exact ⟨_, (true), qs_, H', ⟨qo_⟩, ⟨qk_ BK101.out⟩, ⟨qb1_ GE101.out HB.out⟩⟩
  ·rw [if_neg c4] at H
   have c4b0 : decide (260 < (l0_23.length : Int)) = false := decide_eq_false c4
   have c4b1 : decide (260 < l0_23.length) = false := decide_eq_false (by omega)
   clear c4
   (first | rw [c4b0] | (simp only [i64_w, i32_w]; rw [c4b0]) | skip)
   by_cases c6 : (l0_24.length : Int) > 70
   ·rw [if_pos c6] at H
    have c6b0 : decide (70 < (l0_24.length : Int)) = true := decide_eq_true c6
    have c6b1 : decide (70 < l0_24.length) = true := decide_eq_true (by omega)
    clear c6
    have H' := Aside0.mk H
    clear H
    obtain ⟨Z7_0, Z7_1, Z7_2, Z7_3, Z7_4, Z7_5, Z7_6, Z7_7, Z7_8, Z7_9, Z7_10, Z7_11, Z7_12, Z7_13, Z7_14, Z7_15, Z7_16, Z7_17, Z7_18, Z7_19, Z7_20, Z7_21, Z7_22, Z7_23, Z7_24, Y7_0, Y7_1, Y7_2, Y7_3, Y7_4, Y7_5, Y7_6, Y7_7, Y7_8, Y7_9, Y7_10, Y7_11, Y7_12, Y7_13, Y7_14, Y7_15, Y7_16, Y7_17, Y7_18, Y7_19, Y7_20, Y7_21, Y7_22, Y7_23, Y7_24⟩ := cz25_ BK101.out
    go_wp2
    go_meet
    case rel => exact ⟨_, (true), qs_, H', ⟨qo_⟩, ⟨qk_ BK101.out⟩, ⟨qb1_ GE101.out HB.out⟩⟩
   ·rw [if_neg c6] at H
    have c6b0 : decide (70 < (l0_24.length : Int)) = false := decide_eq_false c6
    have c6b1 : decide (70 < l0_24.length) = false := decide_eq_false (by omega)
    clear c6
    by_cases c8 : (a0_21.size : Int) > 100
    ·rw [if_pos c8] at H
     have c8b0 : decide (100 < (a0_21.size : Int)) = true := decide_eq_true c8
     have c8b1 : decide (100 < a0_21.size) = true := decide_eq_true (by omega)
     clear c8
     have H' := Aside0.mk H
     clear H
     obtain ⟨Z9_0, Z9_1, Z9_2, Z9_3, Z9_4, Z9_5, Z9_6, Z9_7, Z9_8, Z9_9, Z9_10, Z9_11, Z9_12, Z9_13, Z9_14, Z9_15, Z9_16, Z9_17, Z9_18, Z9_19, Z9_20, Z9_21, Z9_22, Z9_23, Z9_24, Y9_0, Y9_1, Y9_2, Y9_3, Y9_4, Y9_5, Y9_6, Y9_7, Y9_8, Y9_9, Y9_10, Y9_11, Y9_12, Y9_13, Y9_14, Y9_15, Y9_16, Y9_17, Y9_18, Y9_19, Y9_20, Y9_21, Y9_22, Y9_23, Y9_24⟩ := cz25_ BK101.out
     go_wp2
     go_meet
     case rel => exact ⟨_, (true), qs_, H', ⟨qo_⟩, ⟨qk_ BK101.out⟩, ⟨qb1_ GE101.out HB.out⟩⟩
    ·rw [if_neg c8] at H
     have c8b0 : decide (100 < (a0_21.size : Int)) = false := decide_eq_false c8
     have c8b1 : decide (100 < a0_21.size) = false := decide_eq_false (by omega)
     clear c8
     have H' := Aside0.mk H
     clear H
     obtain ⟨Z10_0, Z10_1, Z10_2, Z10_3, Z10_4, Z10_5, Z10_6, Z10_7, Z10_8, Z10_9, Z10_10, Z10_11, Z10_12, Z10_13, Z10_14, Z10_15, Z10_16, Z10_17, Z10_18, Z10_19, Z10_20, Z10_21, Z10_22, Z10_23, Z10_24, Y10_0, Y10_1, Y10_2, Y10_3, Y10_4, Y10_5, Y10_6, Y10_7, Y10_8, Y10_9, Y10_10, Y10_11, Y10_12, Y10_13, Y10_14, Y10_15, Y10_16, Y10_17, Y10_18, Y10_19, Y10_20, Y10_21, Y10_22, Y10_23, Y10_24⟩ := cz25_ BK101.out
     go_wp2
     go_meet
     case rel => exact ⟨_, (decide ((a0_22.size : Int) > 100)), qs_, H', ⟨qo_⟩, ⟨qk_ BK101.out⟩, ⟨qb1_ GE101.out HB.out⟩⟩
 case rest =>
  clear HC2
  try clear p2
  try clear c4
  try clear c4b0
  try clear c4b1
  try clear c6
  try clear c6b0
  try clear c6b1
  try clear c8
  try clear c8b0
  try clear c8b1
  (try clear Z10_0 Z10_1 Z10_10 Z10_11 Z10_12 Z10_13 Z10_14 Z10_15 Z10_16 Z10_17 Z10_18 Z10_19 Z10_2 Z10_20 Z10_21 Z10_22 Z10_23 Z10_24 Z10_3 Z10_4 Z10_5 Z10_6 Z10_7 Z10_8 Z10_9 Y10_0 Y10_1 Y10_10 Y10_11 Y10_12 Y10_13 Y10_14 Y10_15 Y10_16 Y10_17 Y10_18 Y10_19 Y10_2 Y10_20 Y10_21 Y10_22 Y10_23 Y10_24 Y10_3 Y10_4 Y10_5 Y10_6 Y10_7 Y10_8 Y10_9)
  (try clear Z5_0 Z5_1 Z5_10 Z5_11 Z5_12 Z5_13 Z5_14 Z5_15 Z5_16 Z5_17 Z5_18 Z5_19 Z5_2 Z5_20 Z5_21 Z5_22 Z5_23 Z5_24 Z5_3 Z5_4 Z5_5 Z5_6 Z5_7 Z5_8 Z5_9 Y5_0 Y5_1 Y5_10 Y5_11 Y5_12 Y5_13 Y5_14 Y5_15 Y5_16 Y5_17 Y5_18 Y5_19 Y5_2 Y5_20 Y5_21 Y5_22 Y5_23 Y5_24 Y5_3 Y5_4 Y5_5 Y5_6 Y5_7 Y5_8 Y5_9)
  (try clear Z7_0 Z7_1 Z7_10 Z7_11 Z7_12 Z7_13 Z7_14 Z7_15 Z7_16 Z7_17 Z7_18 Z7_19 Z7_2 Z7_20 Z7_21 Z7_22 Z7_23 Z7_24 Z7_3 Z7_4 Z7_5 Z7_6 Z7_7 Z7_8 Z7_9 Y7_0 Y7_1 Y7_10 Y7_11 Y7_12 Y7_13 Y7_14 Y7_15 Y7_16 Y7_17 Y7_18 Y7_19 Y7_2 Y7_20 Y7_21 Y7_22 Y7_23 Y7_24 Y7_3 Y7_4 Y7_5 Y7_6 Y7_7 Y7_8 Y7_9)
  (try clear Z9_0 Z9_1 Z9_10 Z9_11 Z9_12 Z9_13 Z9_14 Z9_15 Z9_16 Z9_17 Z9_18 Z9_19 Z9_2 Z9_20 Z9_21 Z9_22 Z9_23 Z9_24 Z9_3 Z9_4 Z9_5 Z9_6 Z9_7 Z9_8 Z9_9 Y9_0 Y9_1 Y9_10 Y9_11 Y9_12 Y9_13 Y9_14 Y9_15 Y9_16 Y9_17 Y9_18 Y9_19 Y9_2 Y9_20 Y9_21 Y9_22 Y9_23 Y9_24 Y9_3 Y9_4 Y9_5 Y9_6 Y9_7 Y9_8 Y9_9)
  obtain ⟨kq, x27_1, rfl, HA, HJ1, BK101, HB⟩ := hcut
  cases kq with
  | zero => exact absurd HA.out (by simp [corebankref38_Great.j0])
  | succ kj1 =>
   have H := HA.out
   clear HA
   simp only [corebankref38_Great.j0] at H
   by_cases c11 : x27_1 = true
   ·subst c11
    have H1 : (some true) = some r := by rw [if_pos rfl] at H; exact H
    clear H
    have H := H1
    clear H1
    obtain rfl := Option.some.inj H
    go_wp2
    go_ret
    exact ⟨qe_, qb1_ GE101.out HB.out⟩
   ·replace c11 := Bool.eq_false_iff.mpr c11
    subst c11
    have H1 : (corebankref38_Great.l0 kj1 0 a0_0 a0_1 a0_2 a0_3 a0_4 a0_5 a0_6 a0_7 a0_8 a0_9 a0_10 a0_11 a0_12 a0_13 a0_14 a0_15 a0_16 a0_17 a0_18 a0_19 a0_20 a0_21 a0_22 l0_23 l0_24) = some r := by rw [if_neg (show ¬ (false = true) by decide)] at H; exact H
    clear H
    have H := H1
    clear H1
    have H' := Aside0.mk H
    clear H
    go_wp2
    go_loopg [3] kj1 (fun kq v3 w' => ∃ (x3_2 : Int), v3 = .int .i64 x3_2 ∧ Aside0 (corebankref38_Great.l0 kq x3_2 a0_0 a0_1 a0_2 a0_3 a0_4 a0_5 a0_6 a0_7 a0_8 a0_9 a0_10 a0_11 a0_12 a0_13 a0_14 a0_15 a0_16 a0_17 a0_18 a0_19 a0_20 a0_21 a0_22 l0_23 l0_24 = some r) ∧ Aside0 (kq ≤ kj1) ∧ Aside0 (w'.heap[gb101]? = some (.cells #[.int .i64 a0_0, .int .i64 a0_1, .int .i64 a0_2, .int .i64 a0_3, .int .i64 a0_4, .int .i64 a0_5, .int .i64 a0_6, .int .i64 a0_7, .int .i64 a0_8, .int .i64 a0_9, .int .i64 a0_10, .int .i64 a0_11, .int .i64 a0_12, .int .i64 a0_13, .int .i64 a0_14, .int .i64 a0_15, .int .i64 a0_16, .int .i64 a0_17, .int .i64 a0_18, .int .i64 a0_19, .int .i64 a0_20, .string a0_21, .string a0_22, (.slice A0_23 l0_23.length c0_23), (.slice A0_24 l0_24.length c0_24)] 27 (0, 0))) ∧ Aside0 (Below w.heap.size w w'))
    case atStart => exact ⟨(0), qs_, H', ⟨Nat.le_refl _⟩, ⟨qk_ BK101.out⟩, ⟨qb1_ GE101.out HB.out⟩⟩
    case round =>
     clear H'
     try clear c1
     try clear p2
     try clear c4
     try clear c4b0
     try clear c4b1
     try clear c6
     try clear c6b0
     try clear c6b1
     try clear c8
     try clear c8b0
     try clear c8b1
     try clear c11
     (try clear Z10_0 Z10_1 Z10_10 Z10_11 Z10_12 Z10_13 Z10_14 Z10_15 Z10_16 Z10_17 Z10_18 Z10_19 Z10_2 Z10_20 Z10_21 Z10_22 Z10_23 Z10_24 Z10_3 Z10_4 Z10_5 Z10_6 Z10_7 Z10_8 Z10_9 Y10_0 Y10_1 Y10_10 Y10_11 Y10_12 Y10_13 Y10_14 Y10_15 Y10_16 Y10_17 Y10_18 Y10_19 Y10_2 Y10_20 Y10_21 Y10_22 Y10_23 Y10_24 Y10_3 Y10_4 Y10_5 Y10_6 Y10_7 Y10_8 Y10_9)
     (try clear Z5_0 Z5_1 Z5_10 Z5_11 Z5_12 Z5_13 Z5_14 Z5_15 Z5_16 Z5_17 Z5_18 Z5_19 Z5_2 Z5_20 Z5_21 Z5_22 Z5_23 Z5_24 Z5_3 Z5_4 Z5_5 Z5_6 Z5_7 Z5_8 Z5_9 Y5_0 Y5_1 Y5_10 Y5_11 Y5_12 Y5_13 Y5_14 Y5_15 Y5_16 Y5_17 Y5_18 Y5_19 Y5_2 Y5_20 Y5_21 Y5_22 Y5_23 Y5_24 Y5_3 Y5_4 Y5_5 Y5_6 Y5_7 Y5_8 Y5_9)
     (try clear Z7_0 Z7_1 Z7_10 Z7_11 Z7_12 Z7_13 Z7_14 Z7_15 Z7_16 Z7_17 Z7_18 Z7_19 Z7_2 Z7_20 Z7_21 Z7_22 Z7_23 Z7_24 Z7_3 Z7_4 Z7_5 Z7_6 Z7_7 Z7_8 Z7_9 Y7_0 Y7_1 Y7_10 Y7_11 Y7_12 Y7_13 Y7_14 Y7_15 Y7_16 Y7_17 Y7_18 Y7_19 Y7_2 Y7_20 Y7_21 Y7_22 Y7_23 Y7_24 Y7_3 Y7_4 Y7_5 Y7_6 Y7_7 Y7_8 Y7_9)
     (try clear Z9_0 Z9_1 Z9_10 Z9_11 Z9_12 Z9_13 Z9_14 Z9_15 Z9_16 Z9_17 Z9_18 Z9_19 Z9_2 Z9_20 Z9_21 Z9_22 Z9_23 Z9_24 Z9_3 Z9_4 Z9_5 Z9_6 Z9_7 Z9_8 Z9_9 Y9_0 Y9_1 Y9_10 Y9_11 Y9_12 Y9_13 Y9_14 Y9_15 Y9_16 Y9_17 Y9_18 Y9_19 Y9_2 Y9_20 Y9_21 Y9_22 Y9_23 Y9_24 Y9_3 Y9_4 Y9_5 Y9_6 Y9_7 Y9_8 Y9_9)
     try clear p2
     obtain ⟨x3_2, rfl, HA, HK2, BK101, HB⟩ := hrel
     cases gk with
     | zero => exact absurd HA.out (by simp [corebankref38_Great.l0])
     | succ k2 =>
      have H := HA.out
      clear HA
      simp only [corebankref38_Great.l0] at H
      by_cases c12 : x3_2 < (l0_24.length : Int)
      ·rw [if_pos c12] at H
       have c12b0 : decide (x3_2 < (l0_24.length : Int)) = true := decide_eq_true c12
       clear c12
       have HC13 := Aside0.mk H
       clear H
       obtain ⟨Z14_0, Z14_1, Z14_2, Z14_3, Z14_4, Z14_5, Z14_6, Z14_7, Z14_8, Z14_9, Z14_10, Z14_11, Z14_12, Z14_13, Z14_14, Z14_15, Z14_16, Z14_17, Z14_18, Z14_19, Z14_20, Z14_21, Z14_22, Z14_23, Z14_24, Y14_0, Y14_1, Y14_2, Y14_3, Y14_4, Y14_5, Y14_6, Y14_7, Y14_8, Y14_9, Y14_10, Y14_11, Y14_12, Y14_13, Y14_14, Y14_15, Y14_16, Y14_17, Y14_18, Y14_19, Y14_20, Y14_21, Y14_22, Y14_23, Y14_24⟩ := cz25_ BK101.out
       go_upto_region 6 with (fail)
       go_cut [54] (fun v54 wc => ∃ (kq : Nat) (x54_12 : Bool), v54 = .bool x54_12 ∧ Aside0 (corebankref38_Great.j2 kq x3_2 x54_12 a0_0 a0_1 a0_2 a0_3 a0_4 a0_5 a0_6 a0_7 a0_8 a0_9 a0_10 a0_11 a0_12 a0_13 a0_14 a0_15 a0_16 a0_17 a0_18 a0_19 a0_20 a0_21 a0_22 l0_23 l0_24 = some r) ∧ Aside0 (kq ≤ k2) ∧ Aside0 (wc.heap[gb101]? = some (.cells #[.int .i64 a0_0, .int .i64 a0_1, .int .i64 a0_2, .int .i64 a0_3, .int .i64 a0_4, .int .i64 a0_5, .int .i64 a0_6, .int .i64 a0_7, .int .i64 a0_8, .int .i64 a0_9, .int .i64 a0_10, .int .i64 a0_11, .int .i64 a0_12, .int .i64 a0_13, .int .i64 a0_14, .int .i64 a0_15, .int .i64 a0_16, .int .i64 a0_17, .int .i64 a0_18, .int .i64 a0_19, .int .i64 a0_20, .string a0_21, .string a0_22, (.slice A0_23 l0_23.length c0_23), (.slice A0_24 l0_24.length c0_24)] 27 (0, 0))) ∧ Aside0 (Below w.heap.size w wc))
       case first =>
        have H := HC13.out
        clear HC13
        by_cases c15 : 0 ≤ x3_2
        ·rw [if_pos c15] at H
         have c15b0 : decide (0 ≤ x3_2) = true := decide_eq_true c15
         clear c15
         (first | rw [c15b0] | (simp only [i64_w, i32_w]; rw [c15b0]) | skip)
         by_cases c16 : (((rd_T50 l0_24 x3_2).f2.f10).size : Int) > 100
         ·rw [if_pos c16] at H
          have c16b0 : decide (100 < (((rd_T50 l0_24 x3_2).f2.f10).size : Int)) = true := decide_eq_true c16
          have c16b1 : decide (100 < ((rd_T50 l0_24 x3_2).f2.f10).size) = true := decide_eq_true (by omega)
          clear c16
          have H' := Aside0.mk H
          clear H
          obtain ⟨Z17_0, Z17_1, Z17_2, Z17_3, Z17_4, Z17_5, Z17_6, Z17_7, Z17_8, Z17_9, Z17_10, Z17_11, Z17_12, Z17_13, Z17_14, Z17_15, Z17_16, Z17_17, Z17_18, Z17_19, Z17_20, Z17_21, Z17_22, Z17_23, Z17_24, Y17_0, Y17_1, Y17_2, Y17_3, Y17_4, Y17_5, Y17_6, Y17_7, Y17_8, Y17_9, Y17_10, Y17_11, Y17_12, Y17_13, Y17_14, Y17_15, Y17_16, Y17_17, Y17_18, Y17_19, Y17_20, Y17_21, Y17_22, Y17_23, Y17_24⟩ := cz25_ BK101.out
          have p102 : 0 ≤ (x3_2 : Int) := of_decide_eq_true (by first | (with_reducible assumption) | assumption)
          have q102 : x3_2 < (l0_24.length : Int) := of_decide_eq_true (by first | (with_reducible assumption) | assumption)
          obtain ⟨ad102, e102, hx102_0, hx102_1, hx102_2, hx102_3, hx102_4, hx102_5, hx102_6, hx102_7, hx102_8, hx102_9, hx102_10, hx102_11, hx102_12, hx102_13⟩ := at_T50 HR0_24.out x3_2 p102 q102
          cases e102
          replace hx102_0 := bx_ HB.out hx102_0
          replace hx102_1 := bx_ HB.out hx102_1
          replace hx102_2 := bx_ HB.out hx102_2
          replace hx102_3 := bx_ HB.out hx102_3
          replace hx102_4 := bx_ HB.out hx102_4
          replace hx102_5 := bx_ HB.out hx102_5
          replace hx102_6 := bx_ HB.out hx102_6
          replace hx102_7 := bx_ HB.out hx102_7
          replace hx102_8 := bx_ HB.out hx102_8
          replace hx102_9 := bx_ HB.out hx102_9
          replace hx102_10 := bx_ HB.out hx102_10
          replace hx102_11 := bx_ HB.out hx102_11
          replace hx102_12 := bx_ HB.out hx102_12
          replace hx102_13 := bx_ HB.out hx102_13
          replace p102 := eq_true p102
          replace q102 := eq_true q102
          go_wp2
          go_meet
          case rel => exact ⟨_, (true), qs_, H', ⟨by have := HJ1.out; have := HK2.out; first | omega | exact Nat.le_refl _⟩, ⟨qk_ BK101.out⟩, ⟨qb1_ GE101.out HB.out⟩⟩
         ·rw [if_neg c16] at H
          have c16b0 : decide (100 < (((rd_T50 l0_24 x3_2).f2.f10).size : Int)) = false := decide_eq_false c16
          have c16b1 : decide (100 < ((rd_T50 l0_24 x3_2).f2.f10).size) = false := decide_eq_false (by omega)
          clear c16
          have H' := Aside0.mk H
          clear H
          obtain ⟨Z18_0, Z18_1, Z18_2, Z18_3, Z18_4, Z18_5, Z18_6, Z18_7, Z18_8, Z18_9, Z18_10, Z18_11, Z18_12, Z18_13, Z18_14, Z18_15, Z18_16, Z18_17, Z18_18, Z18_19, Z18_20, Z18_21, Z18_22, Z18_23, Z18_24, Y18_0, Y18_1, Y18_2, Y18_3, Y18_4, Y18_5, Y18_6, Y18_7, Y18_8, Y18_9, Y18_10, Y18_11, Y18_12, Y18_13, Y18_14, Y18_15, Y18_16, Y18_17, Y18_18, Y18_19, Y18_20, Y18_21, Y18_22, Y18_23, Y18_24⟩ := cz25_ BK101.out
          have p102 : 0 ≤ (x3_2 : Int) := of_decide_eq_true (by first | (with_reducible assumption) | assumption)
          have q102 : x3_2 < (l0_24.length : Int) := of_decide_eq_true (by first | (with_reducible assumption) | assumption)
          obtain ⟨ad102, e102, hx102_0, hx102_1, hx102_2, hx102_3, hx102_4, hx102_5, hx102_6, hx102_7, hx102_8, hx102_9, hx102_10, hx102_11, hx102_12, hx102_13⟩ := at_T50 HR0_24.out x3_2 p102 q102
          cases e102
          replace hx102_0 := bx_ HB.out hx102_0
          replace hx102_1 := bx_ HB.out hx102_1
          replace hx102_2 := bx_ HB.out hx102_2
          replace hx102_3 := bx_ HB.out hx102_3
          replace hx102_4 := bx_ HB.out hx102_4
          replace hx102_5 := bx_ HB.out hx102_5
          replace hx102_6 := bx_ HB.out hx102_6
          replace hx102_7 := bx_ HB.out hx102_7
          replace hx102_8 := bx_ HB.out hx102_8
          replace hx102_9 := bx_ HB.out hx102_9
          replace hx102_10 := bx_ HB.out hx102_10
          replace hx102_11 := bx_ HB.out hx102_11
          replace hx102_12 := bx_ HB.out hx102_12
          replace hx102_13 := bx_ HB.out hx102_13
          replace p102 := eq_true p102
          replace q102 := eq_true q102
          have p103 : 0 ≤ (x3_2 : Int) := of_decide_eq_true (by first | (with_reducible assumption) | assumption)
          have q103 : x3_2 < (l0_24.length : Int) := of_decide_eq_true (by first | (with_reducible assumption) | assumption)
          obtain ⟨ad103, e103, hx103_0, hx103_1, hx103_2, hx103_3, hx103_4, hx103_5, hx103_6, hx103_7, hx103_8, hx103_9, hx103_10, hx103_11, hx103_12, hx103_13⟩ := at_T50 HR0_24.out x3_2 p103 q103
          obtain rfl : ad102 = ad103 := (by injection e103)
          replace hx103_0 := bx_ HB.out hx103_0
          replace hx103_1 := bx_ HB.out hx103_1
          replace hx103_2 := bx_ HB.out hx103_2
          replace hx103_3 := bx_ HB.out hx103_3
          replace hx103_4 := bx_ HB.out hx103_4
          replace hx103_5 := bx_ HB.out hx103_5
          replace hx103_6 := bx_ HB.out hx103_6
          replace hx103_7 := bx_ HB.out hx103_7
          replace hx103_8 := bx_ HB.out hx103_8
          replace hx103_9 := bx_ HB.out hx103_9
          replace hx103_10 := bx_ HB.out hx103_10
          replace hx103_11 := bx_ HB.out hx103_11
          replace hx103_12 := bx_ HB.out hx103_12
          replace hx103_13 := bx_ HB.out hx103_13
          replace p103 := eq_true p103
          replace q103 := eq_true q103
          go_wp2
          go_meet
          case rel => exact ⟨_, (decide ((((rd_T50 l0_24 x3_2).f2.f11).size : Int) > 100)), qs_, H', ⟨by have := HJ1.out; have := HK2.out; first | omega | exact Nat.le_refl _⟩, ⟨qk_ BK101.out⟩, ⟨qb1_ GE101.out HB.out⟩⟩
        ·rw [if_neg c15] at H
         exact absurd H (by simp)
       case rest =>
        clear HC13
        try clear c1
        try clear p1
        try clear q1
        try clear hx1
        try clear p2
        try clear c4
        try clear c4b0
        try clear c4b1
        try clear c6
        try clear c6b0
        try clear c6b1
        try clear c8
        try clear c8b0
        try clear c8b1
        try clear p10
        try clear q10
        try clear hx10
        try clear c11
        try clear c12
        try clear c12b0
        try clear c15
        try clear c15b0
        try clear c16
        try clear c16b0
        try clear c16b1
        (try clear Z10_0 Z10_1 Z10_10 Z10_11 Z10_12 Z10_13 Z10_14 Z10_15 Z10_16 Z10_17 Z10_18 Z10_19 Z10_2 Z10_20 Z10_21 Z10_22 Z10_23 Z10_24 Z10_3 Z10_4 Z10_5 Z10_6 Z10_7 Z10_8 Z10_9 Y10_0 Y10_1 Y10_10 Y10_11 Y10_12 Y10_13 Y10_14 Y10_15 Y10_16 Y10_17 Y10_18 Y10_19 Y10_2 Y10_20 Y10_21 Y10_22 Y10_23 Y10_24 Y10_3 Y10_4 Y10_5 Y10_6 Y10_7 Y10_8 Y10_9)
        (try clear Z14_0 Z14_1 Z14_10 Z14_11 Z14_12 Z14_13 Z14_14 Z14_15 Z14_16 Z14_17 Z14_18 Z14_19 Z14_2 Z14_20 Z14_21 Z14_22 Z14_23 Z14_24 Z14_3 Z14_4 Z14_5 Z14_6 Z14_7 Z14_8 Z14_9 Y14_0 Y14_1 Y14_10 Y14_11 Y14_12 Y14_13 Y14_14 Y14_15 Y14_16 Y14_17 Y14_18 Y14_19 Y14_2 Y14_20 Y14_21 Y14_22 Y14_23 Y14_24 Y14_3 Y14_4 Y14_5 Y14_6 Y14_7 Y14_8 Y14_9)
        (try clear Z17_0 Z17_1 Z17_10 Z17_11 Z17_12 Z17_13 Z17_14 Z17_15 Z17_16 Z17_17 Z17_18 Z17_19 Z17_2 Z17_20 Z17_21 Z17_22 Z17_23 Z17_24 Z17_3 Z17_4 Z17_5 Z17_6 Z17_7 Z17_8 Z17_9 Y17_0 Y17_1 Y17_10 Y17_11 Y17_12 Y17_13 Y17_14 Y17_15 Y17_16 Y17_17 Y17_18 Y17_19 Y17_2 Y17_20 Y17_21 Y17_22 Y17_23 Y17_24 Y17_3 Y17_4 Y17_5 Y17_6 Y17_7 Y17_8 Y17_9)
        (try clear Z18_0 Z18_1 Z18_10 Z18_11 Z18_12 Z18_13 Z18_14 Z18_15 Z18_16 Z18_17 Z18_18 Z18_19 Z18_2 Z18_20 Z18_21 Z18_22 Z18_23 Z18_24 Z18_3 Z18_4 Z18_5 Z18_6 Z18_7 Z18_8 Z18_9 Y18_0 Y18_1 Y18_10 Y18_11 Y18_12 Y18_13 Y18_14 Y18_15 Y18_16 Y18_17 Y18_18 Y18_19 Y18_2 Y18_20 Y18_21 Y18_22 Y18_23 Y18_24 Y18_3 Y18_4 Y18_5 Y18_6 Y18_7 Y18_8 Y18_9)
        (try clear Z5_0 Z5_1 Z5_10 Z5_11 Z5_12 Z5_13 Z5_14 Z5_15 Z5_16 Z5_17 Z5_18 Z5_19 Z5_2 Z5_20 Z5_21 Z5_22 Z5_23 Z5_24 Z5_3 Z5_4 Z5_5 Z5_6 Z5_7 Z5_8 Z5_9 Y5_0 Y5_1 Y5_10 Y5_11 Y5_12 Y5_13 Y5_14 Y5_15 Y5_16 Y5_17 Y5_18 Y5_19 Y5_2 Y5_20 Y5_21 Y5_22 Y5_23 Y5_24 Y5_3 Y5_4 Y5_5 Y5_6 Y5_7 Y5_8 Y5_9)
        (try clear Z7_0 Z7_1 Z7_10 Z7_11 Z7_12 Z7_13 Z7_14 Z7_15 Z7_16 Z7_17 Z7_18 Z7_19 Z7_2 Z7_20 Z7_21 Z7_22 Z7_23 Z7_24 Z7_3 Z7_4 Z7_5 Z7_6 Z7_7 Z7_8 Z7_9 Y7_0 Y7_1 Y7_10 Y7_11 Y7_12 Y7_13 Y7_14 Y7_15 Y7_16 Y7_17 Y7_18 Y7_19 Y7_2 Y7_20 Y7_21 Y7_22 Y7_23 Y7_24 Y7_3 Y7_4 Y7_5 Y7_6 Y7_7 Y7_8 Y7_9)
        (try clear Z9_0 Z9_1 Z9_10 Z9_11 Z9_12 Z9_13 Z9_14 Z9_15 Z9_16 Z9_17 Z9_18 Z9_19 Z9_2 Z9_20 Z9_21 Z9_22 Z9_23 Z9_24 Z9_3 Z9_4 Z9_5 Z9_6 Z9_7 Z9_8 Z9_9 Y9_0 Y9_1 Y9_10 Y9_11 Y9_12 Y9_13 Y9_14 Y9_15 Y9_16 Y9_17 Y9_18 Y9_19 Y9_2 Y9_20 Y9_21 Y9_22 Y9_23 Y9_24 Y9_3 Y9_4 Y9_5 Y9_6 Y9_7 Y9_8 Y9_9)
        try clear hx102_0
        try clear hx102_1
        try clear hx102_10
        try clear hx102_11
        try clear hx102_12
        try clear hx102_13
        try clear hx102_2
        try clear hx102_3
        try clear hx102_4
        try clear hx102_5
        try clear hx102_6
        try clear hx102_7
        try clear hx102_8
        try clear hx102_9
        try clear hx103_0
        try clear hx103_1
        try clear hx103_10
        try clear hx103_11
        try clear hx103_12
        try clear hx103_13
        try clear hx103_2
        try clear hx103_3
        try clear hx103_4
        try clear hx103_5
        try clear hx103_6
        try clear hx103_7
        try clear hx103_8
        try clear hx103_9
        try clear p102
        try clear p103
        try clear p2
        try clear q102
        try clear q103
        obtain ⟨kq, x54_12, rfl, HA, HJ12, BK101, HB⟩ := hcut
        cases kq with
        | zero => exact absurd HA.out (by simp [corebankref38_Great.j2])
        | succ kj12 =>
         have H := HA.out
         clear HA
         simp only [corebankref38_Great.j2] at H
         by_cases c19 : x54_12 = true
         ·subst c19
          have H1 : (some true) = some r := by rw [if_pos rfl] at H; exact H
          clear H
          have H := H1
          clear H1
          obtain rfl := Option.some.inj H
          go_wp2
          go_ret
          exact ⟨qe_, qb1_ GE101.out HB.out⟩
         ·replace c19 := Bool.eq_false_iff.mpr c19
          subst c19
          have H1 : (corebankref38_Great.l0 kj12 (wrap64 (x3_2 + 1)) a0_0 a0_1 a0_2 a0_3 a0_4 a0_5 a0_6 a0_7 a0_8 a0_9 a0_10 a0_11 a0_12 a0_13 a0_14 a0_15 a0_16 a0_17 a0_18 a0_19 a0_20 a0_21 a0_22 l0_23 l0_24) = some r := by rw [if_neg (show ¬ (false = true) by decide)] at H; exact H
          clear H
          have H := H1
          clear H1
          have H' := Aside0.mk H
          clear H
          go_wp2
          go_roundg kj12
          case measure => have := HJ1.out; have := HK2.out; have := HJ12.out; omega
          case rel => exact ⟨(wrap64 (x3_2 + 1)), qs_, H', ⟨by have := HJ1.out; have := HK2.out; have := HJ12.out; omega⟩, ⟨qk_ BK101.out⟩, ⟨qb1_ GE101.out HB.out⟩⟩
      ·rw [if_neg c12] at H
       have c12b0 : decide (x3_2 < (l0_24.length : Int)) = false := decide_eq_false c12
       clear c12
       obtain rfl := Option.some.inj H
       obtain ⟨Z20_0, Z20_1, Z20_2, Z20_3, Z20_4, Z20_5, Z20_6, Z20_7, Z20_8, Z20_9, Z20_10, Z20_11, Z20_12, Z20_13, Z20_14, Z20_15, Z20_16, Z20_17, Z20_18, Z20_19, Z20_20, Z20_21, Z20_22, Z20_23, Z20_24, Y20_0, Y20_1, Y20_2, Y20_3, Y20_4, Y20_5, Y20_6, Y20_7, Y20_8, Y20_9, Y20_10, Y20_11, Y20_12, Y20_13, Y20_14, Y20_15, Y20_16, Y20_17, Y20_18, Y20_19, Y20_20, Y20_21, Y20_22, Y20_23, Y20_24⟩ := cz25_ BK101.out
       go_wp2
       go_ret
       exact ⟨qe_, qb1_ GE101.out HB.out⟩
end Go.Proofs.YtjkjiibhdpcpkaaDoor.PS
end
section
namespace Go.Proofs.YtjkjiibhdpcpkaaDoor.PS
open Go.RowKit Go.Proofs.YtjkjiibhdpcpkaaDoorW.PrintWords Go.Proofs.YtjkjiibhdpcpkaaDoorW.PrintLast
set_option linter.unusedVariables false
set_option linter.unusedSimpArgs false
def corebankref34_within.f (a0 a1 : Int) : Option (Bool) := if a0 ≥ 0 then (some (decide (a0 ≤ a1))) else (some false)
set_option maxHeartbeats 8000000 in
set_option maxRecDepth 100000 in
theorem corebankref34_within.calls (a0 a1 : Int) (r : Bool) (w : World) (h : corebankref34_within.f a0 a1 = some r) :
  Calls Tryd.prog 48 #[.int .i64 a0, .int .i64 a1] w fun e w' => e = .returned (.bool r) ∧ Drawn0 w w' := by
 have H : (if a0 ≥ 0 then (some (decide (a0 ≤ a1))) else (some false)) = some r := h
 clear h
 by_cases c3 : a0 ≥ 0
 ·rw [if_pos c3] at H
  have c3b0 : decide (0 ≤ a0) = true := decide_eq_true c3
  clear c3
  obtain rfl := Option.some.inj H
  go_enter Tryd.func48, Tryd.ntmps48
  go_wp2
  go_ret
  exact ⟨by first | rfl | (simp; done) | (simp [*]; done), by repeat (first | exact Drawn0.refl _ | apply Drawn0.step)⟩
 ·rw [if_neg c3] at H
  have c3b0 : decide (0 ≤ a0) = false := decide_eq_false c3
  clear c3
  obtain rfl := Option.some.inj H
  go_enter Tryd.func48, Tryd.ntmps48
  go_wp2
  go_ret
  exact ⟨by first | rfl | (simp; done) | (simp [*]; done), by repeat (first | exact Drawn0.refl _ | apply Drawn0.step)⟩
def corebankref04_Valid.f (a0 : Int) : Option (Bool) := if a0 ≥ 0 then (some (decide (a0 ≤ 73048))) else (some false)
set_option maxHeartbeats 8000000 in
set_option maxRecDepth 100000 in
theorem corebankref04_Valid.calls (a0 : Int) (r : Bool) (w : World) (h : corebankref04_Valid.f a0 = some r) :
  Calls Tryd.prog 49 #[.int .i64 a0] w fun e w' => e = .returned (.bool r) ∧ Drawn0 w w' := by
 have H : (if a0 ≥ 0 then (some (decide (a0 ≤ 73048))) else (some false)) = some r := h
 clear h
 by_cases c2 : a0 ≥ 0
 ·rw [if_pos c2] at H
  have c2b0 : decide (0 ≤ a0) = true := decide_eq_true c2
  clear c2
  obtain rfl := Option.some.inj H
  go_enter Tryd.func49, Tryd.ntmps49
  go_wp2
  go_ret
  exact ⟨by first | rfl | (simp; done) | (simp [*]; done), by repeat (first | exact Drawn0.refl _ | apply Drawn0.step)⟩
 ·rw [if_neg c2] at H
  have c2b0 : decide (0 ≤ a0) = false := decide_eq_false c2
  clear c2
  obtain rfl := Option.some.inj H
  go_enter Tryd.func49, Tryd.ntmps49
  go_wp2
  go_ret
  exact ⟨by first | rfl | (simp; done) | (simp [*]; done), by repeat (first | exact Drawn0.refl _ | apply Drawn0.step)⟩
end Go.Proofs.YtjkjiibhdpcpkaaDoor.PS
end
