import Derived.Test.YtkdhippoibjfkaaDoorQRx44
namespace Go.Proofs.YtkdhippoibjfkaaDoor.PureRoundingNear
open Go.RowKit Go.Proofs.YtkdhippoibjfkaaDoor.PR Go.Proofs.YtkdhippoibjfkaaDoorW.PrintWords Go.Proofs.YtkdhippoibjfkaaDoorW.PrintLast
set_option linter.unusedVariables false
set_option linter.unusedSimpArgs false
theorem live_true : corebanklaw02_live.f = some true := rfl
theorem cmp_ge0 (x y : Int) : cmpR x y ≥ 0 ↔ y ≤ x := by unfold cmpR; split <;> (try split) <;> omega
theorem cmp_le0 (x y : Int) : cmpR x y ≤ 0 ↔ x ≤ y := by unfold cmpR; split <;> (try split) <;> omega
theorem cmp_lt0 (x y : Int) : cmpR x y < 0 ↔ x < y := by unfold cmpR; split <;> (try split) <;> omega
theorem cmp_gt0 (x y : Int) : cmpR x y > 0 ↔ y < x := by unfold cmpR; split <;> (try split) <;> omega
theorem pair_eq (x y : Int) : (x / 18446744073709551616 == y / 18446744073709551616 && (x % 18446744073709551616 == y % 18446744073709551616)) = decide (x = y) := by
  rw [Bool.eq_iff_iff, Bool.and_eq_true, beq_iff_eq, beq_iff_eq, decide_eq_true_eq]; omega
theorem near_facts {v n m : Int} (hn : 1 ≤ n) (hm : 1 ≤ m ∧ m ≤ 6) (q d : Int) (hq : q = rq v n m) (hd : d = q * n - v) :
    (-n < d ∧ d < n) ∧ (m = 1 → (0 ≤ v → d ≤ 0) ∧ (v < 0 → 0 ≤ d)) ∧ (m = 2 → (0 ≤ v → 0 ≤ d) ∧ (v < 0 → d ≤ 0)) ∧ (m = 3 → d ≤ 0) ∧ (m = 4 → 0 ≤ d) ∧
    (m = 5 ∨ m = 6 → (-n ≤ 2 * d ∧ 2 * d ≤ n)) ∧ (m = 6 → (2 * d = n ∨ 2 * d = -n) → q % 2 = 0) ∧ (m = 5 → (2 * d = n → 0 ≤ v) ∧ (2 * d = -n → v < 0)) := by
  have r0 := Int.emod_nonneg v (show n ≠ 0 by omega)
  have r1 := Int.emod_lt_of_pos v (show 0 < n by omega)
  have h3 := Int.emod_add_mul_ediv v n
  have hs : v < 0 ↔ v / n < 0 := by
    constructor
    · intro ha; exact Int.ediv_neg_of_neg_of_pos ha (by omega)
    · intro hq
      have : ¬ 0 ≤ v := fun h0 => by have := Int.ediv_nonneg h0 (show 0 ≤ n by omega); omega
      omega
  by_cases hu : 0 < v % n ∧ upB (decide (v / n < 0)) (decide (v / n % 2 = 1)) (v % n) n m = true
  · have e : rq v n m = v / n + 1 := by unfold rq; rw [if_pos hu]
    rw [e] at hq
    have hd' : d = n - v % n := by rw [hd, hq, Int.add_mul, Int.one_mul, Int.mul_comm]; omega
    obtain ⟨hr, hu⟩ := hu
    unfold upB at hu
    refine ⟨by omega, ?_, ?_, ?_, ?_, ?_, ?_, ?_⟩
    · intro h; subst h; simp at hu; omega
    · intro h; subst h; simp at hu; omega
    · intro h; subst h; simp at hu
    · intro h; omega
    · intro h
      obtain rfl | rfl := h
      · simp only [Int.reduceEq, if_false] at hu
        split at hu
        · omega
        · split at hu
          · cases hu
          · omega
      · simp only [Int.reduceEq, if_false] at hu
        split at hu
        · omega
        · split at hu
          · cases hu
          · omega
    · intro h ht; subst h
      simp only [Int.reduceEq, if_false, if_true] at hu
      rw [if_neg (by omega), if_neg (by omega)] at hu
      have := of_decide_eq_true hu
      omega
    · intro h; subst h
      refine ⟨fun ht => ?_, fun ht => by omega⟩
      simp only [Int.reduceEq, if_false] at hu
      rw [if_neg (by omega), if_neg (by omega)] at hu
      simp at hu
      omega
  · have e : rq v n m = v / n := by unfold rq; rw [if_neg hu]; omega
    rw [e] at hq
    have hd' : d = -(v % n) := by rw [hd, hq, Int.mul_comm]; omega
    refine ⟨by omega, ?_, ?_, ?_, ?_, ?_, ?_, ?_⟩
    · intro h; subst h
      refine ⟨fun _ => by omega, fun hv => ?_⟩
      by_cases hr : 0 < v % n
      · exact absurd ⟨hr, by unfold upB; simp; omega⟩ hu
      · omega
    · intro h; subst h
      refine ⟨fun hv => ?_, fun hv => by omega⟩
      by_cases hr : 0 < v % n
      · exact absurd ⟨hr, by unfold upB; simp; omega⟩ hu
      · omega
    · intro h; omega
    · intro h; subst h
      by_cases hr : 0 < v % n
      · exact absurd ⟨hr, by unfold upB; simp⟩ hu
      · omega
    · intro h
      by_cases hr : 0 < v % n
      · by_cases h2 : v % n > n - v % n
        · refine absurd ⟨hr, ?_⟩ hu
          unfold upB
          obtain rfl | rfl := h <;> simp only [Int.reduceEq, if_false] <;> rw [if_pos h2]
        · omega
      · omega
    · intro h ht; subst h
      by_cases hr : 0 < v % n
      · by_cases h2 : v / n % 2 = 1
        · refine absurd ⟨hr, ?_⟩ hu
          unfold upB
          simp only [Int.reduceEq, if_false, if_true]
          rw [if_neg (by omega), if_neg (by omega), decide_eq_true h2]
        · omega
      · omega
    · intro h; subst h
      refine ⟨fun ht => by omega, fun ht => ?_⟩
      by_cases h2 : v / n < 0
      · omega
      · refine absurd ⟨by omega, ?_⟩ hu
        unfold upB
        simp only [Int.reduceEq, if_false, if_true]
        rw [if_neg (by omega), if_neg (by omega), decide_eq_false h2]
        rfl
theorem of_f {x : Int} (h : inI x) : corebankref01_Of.f x = some (x / 18446744073709551616, x % 18446744073709551616) := if_pos h
theorem cmp_f {x y : Int} (hx : in128 x) (hy : in128 y) : corebankref01_Cmp.f (x / 18446744073709551616) (x % 18446744073709551616) (y / 18446744073709551616) (y % 18446744073709551616) = some (cmpR x y) := by
  unfold in128 at hx hy
  have h1 : wv (x / 18446744073709551616) (x % 18446744073709551616) = x := by unfold wv; omega
  have h2 : wv (y / 18446744073709551616) (y % 18446744073709551616) = y := by unfold wv; omega
  unfold corebankref01_Cmp.f
  rw [if_pos ⟨⟨by unfold inI; omega, by unfold inU; omega⟩, by unfold inI; omega, by unfold inU; omega⟩, h1, h2]
set_option maxHeartbeats 8000000 in
theorem near_true {v n m q d : Int} (a0 a1 : Int) (ha : a0 < 0 ↔ v < 0) (hn : 1 ≤ n) (hn2 : inI n) (hm : 1 ≤ m ∧ m ≤ 6) (hq : q = rq v n m) (hd : d = q * n - v) :
    corebanklaw02_near.f 3 a0 a1 q n (d / 18446744073709551616) (d % 18446744073709551616) m = some true := by
  obtain ⟨f0, f1, f2, f3, f4, f5, f6, f7⟩ := near_facts hn hm q d hq hd
  unfold inI at hn2
  have ln : wrap64 (-n) = -n := i64_id _ (by omega) (by omega)
  have in_n : in128 n := by unfold in128; omega
  have in_m : in128 (-n) := by unfold in128; omega
  have in_d : in128 d := by unfold in128; omega
  have in_2 : in128 (d * 2) := by unfold in128; omega
  have in_0 : in128 0 := by decide
  have wd : wv (d / 18446744073709551616) (d % 18446744073709551616) = d := by unfold wv; omega
  have hS : corebankref01_Scale.f (d / 18446744073709551616) (d % 18446744073709551616) 2 = some (d * 2 / 18446744073709551616, d * 2 % 18446744073709551616, 0) := by
    unfold corebankref01_Scale.f
    rw [if_pos ⟨⟨by unfold inI; omega, by unfold inU; omega⟩, by decide⟩, wd, if_pos in_2]
  unfold corebanklaw02_near.f
  rw [of_f (x := n) (by unfold inI; omega), ln, of_f (x := -n) (by unfold inI; omega)]
  simp only [Option.bind_some, cmp_f in_d in_n, cmp_f in_d in_m]
  rw [if_neg (by rw [cmp_ge0]; omega), decide_eq_false (by rw [cmp_le0]; omega)]
  simp only [corebanklaw02_near.j0, Bool.false_eq_true, if_false]
  rw [of_f (x := 0) (by decide), of_f (x := n) (by unfold inI; omega), ln, of_f (x := -n) (by unfold inI; omega), hS]
  simp only [Option.bind_some, cmp_f in_d in_0, cmp_f in_2 in_n, cmp_f in_2 in_m, cmp_le0, cmp_ge0, cmp_lt0, cmp_gt0]
  obtain rfl | rfl | rfl | rfl | h56 : m = 1 ∨ m = 2 ∨ m = 3 ∨ m = 4 ∨ m = 5 ∨ m = 6 := by omega
  · have := f1 rfl
    simp only [if_true]
    by_cases hv : v < 0
    · by_cases hd0 : d ≤ 0
      · rw [if_pos hd0, if_neg (by omega), if_pos (by omega), decide_eq_true (by omega)]
      · rw [if_neg hd0, if_pos (by omega), decide_eq_true (by omega)]
    · rw [if_pos (by omega), if_pos (by omega)]
  · have := f2 rfl
    simp only [Int.reduceEq, if_false, if_true]
    by_cases hv : v < 0
    · by_cases hd0 : 0 ≤ d
      · rw [if_pos hd0, if_neg (by omega), if_pos (by omega), decide_eq_true (by omega)]
      · rw [if_neg hd0, if_pos (by omega), decide_eq_true (by omega)]
    · rw [if_pos (by omega), if_pos (by omega)]
  · have := f3 rfl
    simp only [Int.reduceEq, if_false, if_true]
    rw [decide_eq_true this]
  · have := f4 rfl
    simp only [Int.reduceEq, if_false, if_true]
    rw [decide_eq_true this]
  · obtain ⟨g0, g1⟩ := f5 h56
    rw [if_neg (by omega), if_neg (by omega), if_neg (by omega), if_neg (by omega)]
    by_cases hlo : -n < d * 2 ∧ d * 2 < n
    · rw [if_pos hlo.2]
      simp only [corebanklaw02_near.j1]
      rw [decide_eq_true hlo.1, if_pos rfl]
    · have tie : d * 2 = n ∨ d * 2 = -n := by omega
      have hj : ∀ b : Bool, b = true → corebanklaw02_near.j2 1 q m (decide (d ≤ 0)) (decide (0 ≤ d)) b a0 a1 = some true := by
        intro b hb
        subst hb
        simp only [corebanklaw02_near.j2, if_true]
        obtain h5 | h6 := h56
        · subst h5
          have := f7 rfl
          simp only [Int.reduceEq, if_false, if_true]
          by_cases hv : v < 0
          · have hdl : d ≤ 0 := by omega
            rw [decide_eq_true hdl]
            by_cases hd0 : 0 ≤ d
            · rw [decide_eq_true hd0, if_pos rfl, if_neg (by omega), if_pos rfl, decide_eq_true (by omega)]
            · rw [decide_eq_false hd0, if_neg (by decide), if_pos rfl, decide_eq_true (by omega)]
          · rw [decide_eq_true (show 0 ≤ d by omega), if_pos rfl, if_pos (by omega)]
        · subst h6
          have hev := f6 rfl (by omega)
          rw [if_pos rfl, if_pos]
          obtain ⟨z, hz⟩ := Int.dvd_of_emod_eq_zero hev
          rw [hz, Int.mul_tmod_right]
      have hj1 : corebanklaw02_near.j1 2 q n m (decide (d ≤ 0)) (decide (0 ≤ d)) false a0 a1 (d * 2 / 18446744073709551616) (d * 2 % 18446744073709551616) = some true := by
        simp only [corebanklaw02_near.j1, Bool.false_eq_true, if_false]
        rw [of_f (x := n) (by unfold inI; omega), ln, of_f (x := -n) (by unfold inI; omega)]
        simp only [Option.bind_some, pair_eq]
        by_cases ht : d * 2 = n
        · rw [decide_eq_true ht, if_pos rfl]
          exact hj _ rfl
        · rw [decide_eq_false ht, if_neg (by decide)]
          exact hj _ (decide_eq_true (by omega))
      by_cases ht : d * 2 < n
      · have hh : ¬ (-n < d * 2) := by omega
        rw [if_pos ht, decide_eq_false hh]
        exact hj1
      · rw [if_neg ht]
        exact hj1
theorem RoundingNear_pure (a0_0 a0_1 a1 a2 : Int) (h0 : inI a0_0) (h1 : inU a0_1) (h2 : inI a1) : ∃ k, corebanklaw02_RoundingNear.f k a0_0 a0_1 a1 a2 = some true := by
  refine ⟨4, ?_⟩
  unfold corebanklaw02_RoundingNear.f rounding_Divide.f
  have hW : isW a0_0 a0_1 := ⟨h0, h1⟩
  rw [if_pos ⟨hW, h2⟩]
  simp only [Option.bind_some]
  have bad : a1 < 1 ∨ a2 < 1 ∨ 6 < a2 → corebanklaw02_RoundingNear.j0 4 a1 a2 (divR (wv a0_0 a0_1) a1 a2).1 (divR (wv a0_0 a0_1) a1 a2).2 true a0_0 a0_1 = some true := by
    intro h
    simp only [corebanklaw02_RoundingNear.j0]
    unfold divR
    rw [if_pos h]
    rfl
  by_cases hn : a1 < 1
  · rw [if_pos hn]; exact bad (.inl hn)
  · rw [if_neg hn]
    unfold corebankref02_Valid.f
    by_cases hm : 1 ≤ a2 ∧ a2 ≤ 6
    · rw [if_pos hm.1, decide_eq_true hm.2]
      simp only [Option.bind_some, corebanklaw02_RoundingNear.j0, Bool.not_true, Bool.false_eq_true, if_false]
      have hw0 : wv a0_0 a0_1 = a0_0 * 18446744073709551616 + a0_1 := rfl
      have hs : a0_0 < 0 ↔ wv a0_0 a0_1 < 0 := by unfold inU at h1; omega
      have vr : -170141183460469231731687303715884105728 ≤ wv a0_0 a0_1 ∧ wv a0_0 a0_1 ≤ 170141183460469231731687303715884105727 := by unfold inI at h0; unfold inU at h1; omega
      obtain ⟨qr, -⟩ := quo_range vr (show 1 ≤ a1 by omega)
      have hc : ¬ (a1 < 1 ∨ a2 < 1 ∨ 6 < a2) := by omega
      unfold divR
      rw [if_neg hc]
      by_cases hI : inI (rq (wv a0_0 a0_1) a1 a2)
      · rw [if_pos hI, if_pos rfl]
        have nf := near_facts (v := wv a0_0 a0_1) (n := a1) (show 1 ≤ a1 by omega) hm _ _ rfl rfl
        have hb := nf.1
        have hnear := near_true a0_0 a0_1 hs (show 1 ≤ a1 by omega) h2 hm rfl rfl
        generalize rq (wv a0_0 a0_1) a1 a2 = q at *
        unfold inI at h2
        unfold corebankref01_Mul.f
        rw [if_pos ⟨hI, by unfold inI; omega⟩]
        simp only [Option.bind_some]
        have hd : in128 (q * a1 - wv a0_0 a0_1) := by unfold in128; omega
        have hp : -340282366920938463463374607431768211456 < q * a1 ∧ q * a1 < 340282366920938463463374607431768211456 := by omega
        have hmul : -85070591730234615865843651857942052864 ≤ q * a1 ∧ q * a1 ≤ 85070591730234615865843651857942052864 := by
          unfold inI at hI
          have x1 := Int.mul_le_mul_of_nonneg_right hI.1 (show 0 ≤ a1 by omega)
          have x2 := Int.mul_le_mul_of_nonneg_right hI.2 (show 0 ≤ a1 by omega)
          omega
        have wp : wv (q * a1 / 18446744073709551616) (q * a1 % 18446744073709551616) = q * a1 := by generalize q * a1 = p; unfold wv; omega
        unfold corebankref01_Sub.f
        rw [if_pos ⟨⟨by unfold inI; omega, by unfold inU; omega⟩, hW⟩, wp, if_pos hd]
        simp only [Option.bind_some, if_true]
        have hnear' : corebanklaw02_near.f 3 a0_0 a0_1 q a1 ((q * a1 - wv a0_0 a0_1) / 18446744073709551616) ((q * a1 - wv a0_0 a0_1) % 18446744073709551616) a2 = some true := hnear
        rw [hnear']
        simp only [Option.bind_some, if_true, live_true]
      · rw [if_neg hI]
        simp only [Int.reduceEq, if_false, if_true]
        unfold corebankref01_Div.f
        rw [if_pos ⟨hW, h2⟩, if_neg (show ¬ a1 < 1 by omega)]
        simp only [Option.bind_some]
        have wq : wv (wv a0_0 a0_1 / a1 / 18446744073709551616) (wv a0_0 a0_1 / a1 % 18446744073709551616) = wv a0_0 a0_1 / a1 := by
          generalize wv a0_0 a0_1 / a1 = z; unfold wv; omega
        unfold corebankref01_Int.f
        rw [if_pos ⟨by unfold inI; omega, by unfold inU; omega⟩, wq]
        simp only [Option.bind_some, live_true]
        have g0 := rq_ge (wv a0_0 a0_1) a1 a2
        have g1 := rq_le (wv a0_0 a0_1) a1 a2
        by_cases hz : inI (wv a0_0 a0_1 / a1)
        · rw [if_pos hz]
          simp only [if_true]
          rw [if_pos (by unfold inI at hI hz; omega)]
        · rw [if_neg hz]
          simp only [Bool.false_eq_true, if_false]
    · have hf : (if a2 ≥ 1 then some (decide (a2 ≤ 6)) else some false) = some false := by
        split
        · rw [decide_eq_false (by omega)]
        · rfl
      rw [hf]
      simp only [Option.bind_some, Bool.not_false]
      exact bad (by omega)
end Go.Proofs.YtkdhippoibjfkaaDoor.PureRoundingNear
