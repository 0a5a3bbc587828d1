import Derived.Test.YtkdhippoibjfkaaDoorQRx40
namespace Go.Proofs.YtkdhippoibjfkaaDoor.PureRoundingSplits
open Go.RowKit Go.Proofs.YtkdhippoibjfkaaDoor.PR Go.Proofs.YtkdhippoibjfkaaDoorW.PrintWords Go.Proofs.YtkdhippoibjfkaaDoorW.PrintLast
set_option linter.unusedVariables false
set_option linter.unusedSimpArgs false
theorem live_true : corebanklaw02_live.f = some true := rfl
/-- The index of the first largest one, from a place on. -/
def pickG (r : List Int) : List Int → Nat → Nat → Nat
  | [], _, k => k
  | x :: t, i, k => pickG r t (i + 1) (if r.getD k 0 < x then i else k)
def pick (r : List Int) : Nat := pickG r r 0 0
def spread : Nat → List Int → List Int → List Int
  | 0, p, _ => p
  | n + 1, p, r => spread n (p.set (pick r) (p.getD (pick r) 0 + 1)) (r.set (pick r) (-1))
def sumL : List Int → Int
  | [] => 0
  | x :: t => x + sumL t
def posL : List Int → Int
  | [] => 0
  | x :: t => (if 0 < x then x else 0) + posL t
theorem pickG_lt (r : List Int) : ∀ (t : List Int) (i k : Nat), i + t.length = r.length → k < r.length → pickG r t i k < r.length
  | [], i, k, _, hk => hk
  | x :: t, i, k, hi, hk => by
    simp only [List.length_cons] at hi
    unfold pickG
    apply pickG_lt r t (i + 1) _ (by omega)
    split <;> omega
theorem pick_lt {r : List Int} (h : 0 < r.length) : pick r < r.length := pickG_lt r r 0 0 (by omega) h
theorem pickG_max (r : List Int) : ∀ (t : List Int) (i k : Nat), t = r.drop i → (∀ j, j < i → j < r.length → r.getD j 0 ≤ r.getD k 0) → ∀ j, j < r.length → r.getD j 0 ≤ r.getD (pickG r t i k) 0
  | [], i, k, ht, h, j, hj => by
    have : r.length ≤ i := by
      have := congrArg List.length ht
      simp only [List.length_nil, List.length_drop] at this
      omega
    exact h j (by omega) hj
  | x :: t, i, k, ht, h, j, hj => by
    unfold pickG
    have hi : i < r.length := by
      have := congrArg List.length ht
      simp only [List.length_cons, List.length_drop] at this
      omega
    have hx : r.getD i 0 = x := by
      have := congrArg (fun l => l.getD 0 0) ht
      simp [List.getD_eq_getElem?_getD] at this ⊢
      exact this.symm
    have ht' : t = r.drop (i + 1) := by
      have := congrArg List.tail ht
      simpa using this
    refine pickG_max r t (i + 1) _ ht' ?_ j hj
    intro j' hj' hl
    by_cases e : j' = i
    · subst e
      rw [hx]
      split <;> omega
    · have := h j' (by omega) hl
      split
      · rw [hx]; omega
      · exact this
theorem pick_max {r : List Int} (j : Nat) (hj : j < r.length) : r.getD j 0 ≤ r.getD (pick r) 0 :=
  pickG_max r r 0 0 (by simp) (by intro j h; omega) j hj
theorem posL_pos : ∀ (r : List Int), 0 < posL r → ∃ j, j < r.length ∧ 0 < r.getD j 0
  | [], h => by simp [posL] at h
  | x :: t, h => by
    by_cases hx : 0 < x
    · exact ⟨0, by simp, by simpa using hx⟩
    · have h' : 0 < posL t := by simp only [posL, if_neg hx] at h; omega
      obtain ⟨j, a, b⟩ := posL_pos t h'
      exact ⟨j + 1, by simp; omega, by simpa using b⟩
theorem pick_pos {r : List Int} (h : 0 < posL r) : pick r < r.length ∧ 0 < r.getD (pick r) 0 := by
  obtain ⟨j, a, b⟩ := posL_pos r h
  exact ⟨pick_lt (by omega), by have := pick_max j a; omega⟩
theorem posL_set : ∀ (r : List Int) (k : Nat), k < r.length → 0 < r.getD k 0 → posL (r.set k (-1)) = posL r - r.getD k 0
  | x :: t, 0, _, h => by
    have hx : 0 < x := by simpa using h
    simp [posL, hx]; omega
  | x :: t, k + 1, hk, h => by
    have := posL_set t k (by simpa using hk) (by simpa using h)
    simp only [List.set_cons_succ, posL, this, List.getD_cons_succ]; omega
theorem sumL_set : ∀ (p : List Int) (k : Nat), k < p.length → sumL (p.set k (p.getD k 0 + 1)) = sumL p + 1
  | x :: t, 0, _ => by simp [sumL]; omega
  | x :: t, k + 1, hk => by
    have := sumL_set t k (by simpa using hk)
    simp only [List.set_cons_succ, sumL, List.getD_cons_succ, this]; omega
/-- What the steps keep. -/
structure Kept (q r0 p r : List Int) (n : Nat) (T : Int) : Prop where
  lp : p.length = q.length
  lr : r.length = q.length
  l0 : r0.length = q.length
  at' : ∀ i, i < q.length → p.getD i 0 = q.getD i 0 ∧ r.getD i 0 = r0.getD i 0 ∨ p.getD i 0 = q.getD i 0 + 1 ∧ r.getD i 0 = -1 ∧ 0 < r0.getD i 0
  pos : n * T ≤ posL r
  top : ∀ i, i < q.length → r0.getD i 0 ≤ T
theorem getD_set (l : List Int) (k i : Nat) (x : Int) (hk : k < l.length) : (l.set k x).getD i 0 = if i = k then x else l.getD i 0 := by
  simp only [List.getD_eq_getElem?_getD, List.getElem?_set]
  by_cases h : k = i
  · subst h; simp [hk]
  · rw [if_neg h, if_neg (fun e => h e.symm)]
theorem Kept.step {q r0 p r : List Int} {n : Nat} {T : Int} (hT : 0 < T) (h : Kept q r0 p r (n + 1) T) :
    Kept q r0 (p.set (pick r) (p.getD (pick r) 0 + 1)) (r.set (pick r) (-1)) n T ∧ pick r < q.length := by
  have hp : 0 < posL r := by
    have := h.pos
    have : 0 < ((n + 1 : Nat) : Int) * T := Int.mul_pos (by omega) hT
    omega
  obtain ⟨a, b⟩ := pick_pos hp
  have ak : pick r < q.length := by rw [← h.lr]; exact a
  have e := h.at' _ ak
  have e1 : p.getD (pick r) 0 = q.getD (pick r) 0 ∧ r.getD (pick r) 0 = r0.getD (pick r) 0 := by
    rcases e with e | e
    · exact e
    · omega
  refine ⟨⟨by simp [h.lp], by simp [h.lr], h.l0, ?_, ?_, h.top⟩, ak⟩
  · intro i hi
    rw [getD_set _ _ _ _ (by rw [h.lp]; exact ak), getD_set _ _ _ _ a]
    by_cases hi' : i = pick r
    · subst hi'
      rw [if_pos rfl, if_pos rfl]
      exact Or.inr ⟨by omega, rfl, by omega⟩
    · rw [if_neg hi', if_neg hi']; exact h.at' i hi
  · rw [posL_set _ _ a b]
    have h1 := h.pos
    have h2 := h.top _ ak
    have : ((n + 1 : Nat) : Int) * T = n * T + T := by rw [Int.natCast_add, Int.add_mul]; simp
    omega
theorem spread_kept {q r0 : List Int} {T : Int} (hT : 0 < T) : ∀ (n : Nat) (p r : List Int), Kept q r0 p r n T →
    (spread n p r).length = q.length ∧ sumL (spread n p r) = sumL p + n ∧ ∀ i, i < q.length → (spread n p r).getD i 0 = q.getD i 0 ∨ (spread n p r).getD i 0 = q.getD i 0 + 1 ∧ 0 < r0.getD i 0
  | 0, p, r, h => ⟨h.lp, by simp [spread], fun i hi => by
      rcases h.at' i hi with e | e
      · exact Or.inl e.1
      · exact Or.inr ⟨e.1, e.2.2⟩⟩
  | n + 1, p, r, h => by
    obtain ⟨k, hl⟩ := h.step hT
    obtain ⟨a, b, c⟩ := spread_kept hT n _ _ k
    unfold spread
    refine ⟨a, ?_, c⟩
    rw [b, sumL_set _ _ (by rw [h.lp]; exact hl)]
    omega
/-- Quotients and rests of the shares. -/
def qsL (A T : Int) (ws : List Int) : List Int := ws.map fun w => A * w / T
def rsL (A T : Int) (ws : List Int) : List Int := ws.map fun w => A * w % T
def leftL (A T : Int) (ws : List Int) : Int := A - sumL (qsL A T ws)
theorem sumL_mul (A : Int) : ∀ ws : List Int, sumL (ws.map fun w => A * w) = A * sumL ws
  | [] => by simp [sumL]
  | w :: t => by simp only [List.map_cons, sumL, sumL_mul A t, Int.mul_add]
theorem sums_eq (A T : Int) : ∀ ws : List Int, T * sumL (qsL A T ws) + sumL (rsL A T ws) = A * sumL ws
  | [] => by simp [qsL, rsL, sumL]
  | w :: t => by
    have h := sums_eq A T t
    have e := Int.mul_ediv_add_emod (A * w) T
    simp only [qsL, rsL, List.map_cons, sumL, Int.mul_add] at *
    omega
theorem posL_nonneg : ∀ r : List Int, (∀ i, i < r.length → 0 ≤ r.getD i 0) → posL r = sumL r
  | [], _ => rfl
  | x :: t, h => by
    have h0 : 0 ≤ x := by simpa using h 0 (by simp)
    have ht := posL_nonneg t (fun i hi => by simpa using h (i + 1) (by simp; omega))
    simp only [posL, sumL, ht]
    split <;> omega
theorem rsL_getD (A T : Int) (ws : List Int) (i : Nat) (hi : i < ws.length) : (rsL A T ws).getD i 0 = A * ws.getD i 0 % T := by
  simp [rsL, List.getD_eq_getElem?_getD, hi]
theorem qsL_getD (A T : Int) (ws : List Int) (i : Nat) (hi : i < ws.length) : (qsL A T ws).getD i 0 = A * ws.getD i 0 / T := by
  simp [qsL, List.getD_eq_getElem?_getD, hi]
theorem sumL_nonneg : ∀ l : List Int, (∀ x ∈ l, 0 ≤ x) → 0 ≤ sumL l
  | [], _ => by simp [sumL]
  | x :: t, h => by
    have := sumL_nonneg t (fun y hy => h y (List.mem_cons_of_mem _ hy))
    have := h x List.mem_cons_self
    simp only [sumL]; omega
theorem left_eq {A T : Int} {ws : List Int} (hT : T = sumL ws) : T * leftL A T ws = sumL (rsL A T ws) := by
  have h := sums_eq A T ws
  rw [← hT] at h
  unfold leftL
  rw [Int.mul_sub, Int.mul_comm T A]
  omega
theorem left_nonneg {A T : Int} {ws : List Int} (hT : T = sumL ws) (h0 : 0 < T) : 0 ≤ leftL A T ws := by
  have h := left_eq (A := A) hT
  have : 0 ≤ sumL (rsL A T ws) := sumL_nonneg _ (by
    intro x hx
    unfold rsL at hx
    rw [List.mem_map] at hx
    obtain ⟨w, _, rfl⟩ := hx
    exact Int.emod_nonneg _ (by omega))
  by_cases c : leftL A T ws < 0
  · have := Int.mul_neg_of_pos_of_neg h0 c
    omega
  · omega
def partsL (A T : Int) (ws : List Int) : List Int := spread (leftL A T ws).toNat (qsL A T ws) (rsL A T ws)
theorem kept0 {A T : Int} {ws : List Int} (hT : T = sumL ws) (h0 : 0 < T) : Kept (qsL A T ws) (rsL A T ws) (qsL A T ws) (rsL A T ws) (leftL A T ws).toNat T := by
  have hl : ∀ i, i < (qsL A T ws).length → i < ws.length := by intro i hi; simpa [qsL] using hi
  refine ⟨rfl, by simp [qsL, rsL], by simp [qsL, rsL], fun i hi => Or.inl ⟨rfl, rfl⟩, ?_, ?_⟩
  · rw [posL_nonneg, ← left_eq hT, Int.toNat_of_nonneg (left_nonneg hT h0), Int.mul_comm]; exact Int.le_refl _
    intro i hi
    rw [rsL_getD _ _ _ _ (by simpa [rsL] using hi)]
    exact Int.emod_nonneg _ (by omega)
  · intro i hi
    rw [rsL_getD _ _ _ _ (hl i hi)]
    exact Int.le_of_lt (Int.emod_lt_of_pos _ h0)
theorem parts_law {A T : Int} {ws : List Int} (hT : T = sumL ws) (h0 : 0 < T) :
    (partsL A T ws).length = ws.length ∧ sumL (partsL A T ws) = A ∧ ∀ i, i < ws.length → (partsL A T ws).getD i 0 = A * ws.getD i 0 / T ∨ (partsL A T ws).getD i 0 = A * ws.getD i 0 / T + 1 ∧ 0 < A * ws.getD i 0 % T := by
  obtain ⟨a, b, c⟩ := spread_kept h0 _ _ _ (kept0 (A := A) hT h0)
  have hn := left_nonneg (A := A) hT h0
  refine ⟨by unfold partsL; rw [a]; simp [qsL], ?_, ?_⟩
  · unfold partsL; rw [b, Int.toNat_of_nonneg hn]; unfold leftL; omega
  · intro i hi
    have := c i (by simpa [qsL] using hi)
    rw [qsL_getD _ _ _ _ hi, rsL_getD _ _ _ _ hi] at this
    exact this
def okW (w : Int) : Bool := decide (0 ≤ w ∧ w ≤ 1000000000000)
def totS (s : Int) (t : List Int) : Int × Bool := if t.all okW = true then (s + sumL t, decide (s + sumL t > 0)) else (0, false)
theorem totS_nil (s : Int) : totS s [] = (s, decide (s > 0)) := by simp [totS, sumL]
theorem totS_ok (s x : Int) (t : List Int) (h : 0 ≤ x ∧ x ≤ 1000000000000) : totS s (x :: t) = totS (s + x) t := by
  simp [totS, sumL, okW, h, Int.add_assoc]
theorem totS_bad (s x : Int) (t : List Int) (h : ¬ (0 ≤ x ∧ x ≤ 1000000000000)) : totS s (x :: t) = (0, false) := by
  have : okW x = false := decide_eq_false h
  simp [totS, this]
def totR (ws : List Int) : Int × Bool := if 1 ≤ ws.length ∧ ws.length ≤ 64 ∧ ws.all okW = true then (sumL ws, decide (sumL ws > 0)) else (0, false)
theorem drop_rd (ws : List Int) (i : Nat) (h : i < ws.length) : ws.drop i = rd ws (i : Int) :: ws.drop (i + 1) := by
  rw [List.drop_eq_getElem_cons h]
  congr 1
  unfold rd
  simp [List.getD_eq_getElem?_getD, h]
theorem sum_bound : ∀ t : List Int, t.all okW = true → 0 ≤ sumL t ∧ sumL t ≤ 1000000000000 * t.length
  | [], _ => by simp [sumL]
  | x :: t, h => by
    simp only [List.all_cons, Bool.and_eq_true, okW, decide_eq_true_eq] at h
    have := sum_bound t h.2
    simp only [sumL, List.length_cons]
    omega
theorem total_l0 (ws : List Int) (hl : ws.length ≤ 64) : ∀ (d i k : Nat) (s : Int), d + i = ws.length → 0 ≤ s → s ≤ 1000000000000 * i →
    rounding_total.l0 (k + 2 * d + 1) s ws ws.length i = some (totS s (ws.drop i))
  | 0, i, k, s, hd, h0, h1 => by
    simp only [rounding_total.l0]
    rw [if_neg (by omega), List.drop_eq_nil_of_le (by omega), totS_nil]
  | d + 1, i, k, s, hd, h0, h1 => by
    rw [show k + 2 * (d + 1) + 1 = (k + 2 * d + 1) + 1 + 1 by omega]
    simp only [rounding_total.l0]
    rw [if_pos (by omega), if_pos (by omega), if_pos (by omega), drop_rd ws i (by omega)]
    simp only [rounding_total.j2]
    generalize rd ws (i : Int) = x
    by_cases c0 : x < 0
    · rw [if_pos c0, totS_bad _ _ _ (by omega)]; rfl
    · rw [if_neg c0]
      by_cases c1 : x > 1000000000000
      · rw [decide_eq_true c1, totS_bad _ _ _ (by omega)]; rfl
      · rw [decide_eq_false c1, if_neg (by decide), totS_ok _ _ _ (by omega)]
        have e1 : wrap64 (s + x) = s + x := by unfold wrap64; omega
        have e2 : wrap64 ((i : Int) + 1) = ((i + 1 : Nat) : Int) := by unfold wrap64; omega
        rw [e1, e2, total_l0 ws hl d (i + 1) k (s + x) (by omega) (by omega) (by omega)]
theorem total_eq (ws : List Int) (k : Nat) : rounding_total.f (k + 200) ws = some (totR ws) := by
  unfold rounding_total.f totR
  by_cases c0 : (ws.length : Int) < 1
  · rw [if_pos c0, if_neg (by omega)]; rfl
  · rw [if_neg c0]
    by_cases c1 : (ws.length : Int) > 64
    · rw [decide_eq_true c1, if_neg (by omega)]; rfl
    · rw [decide_eq_false c1]
      simp only [rounding_total.j0]
      rw [if_neg (by decide)]
      have h := total_l0 ws (by omega) ws.length 0 (k + (198 - 2 * ws.length)) 0 (by omega) (by omega) (by omega)
      rw [show k + (198 - 2 * ws.length) + 2 * ws.length + 1 = k + 199 by omega] at h
      rw [show ((0 : Nat) : Int) = 0 from rfl] at h
      rw [h]
      unfold totS
      simp only [List.drop_zero, Int.zero_add]
      congr 1
      by_cases c : ws.all okW = true
      · rw [if_pos c, if_pos ⟨by omega, by omega, c⟩]
      · rw [if_neg c, if_neg (fun h => c h.2.2)]
theorem rtotal_l0 (ws : List Int) (hl : ws.length ≤ 64) : ∀ (d i k : Nat) (s : Int), d + i = ws.length → 0 ≤ s → s ≤ 1000000000000 * i →
    corebankref02_Total.l0 (k + 2 * d + 1) ws s i = some (totS s (ws.drop i))
  | 0, i, k, s, hd, h0, h1 => by
    simp only [corebankref02_Total.l0]
    rw [if_neg (by omega), List.drop_eq_nil_of_le (by omega), totS_nil]
  | d + 1, i, k, s, hd, h0, h1 => by
    rw [show k + 2 * (d + 1) + 1 = (k + 2 * d + 1) + 1 + 1 by omega]
    simp only [corebankref02_Total.l0]
    rw [if_pos (by omega), if_pos (by omega), drop_rd ws i (by omega)]
    simp only [corebankref02_Total.j2]
    rw [if_pos (show (0 : Int) ≤ i by omega), if_pos (show (i : Int) < ws.length by omega)]
    generalize rd ws (i : Int) = x
    by_cases c0 : x < 0
    · rw [if_pos c0, totS_bad _ _ _ (by omega)]; rfl
    · rw [if_neg c0]
      by_cases c1 : x > 1000000000000
      · rw [decide_eq_true c1, totS_bad _ _ _ (by omega)]; rfl
      · rw [decide_eq_false c1, if_neg (by decide), totS_ok _ _ _ (by omega)]
        have e1 : wrap64 (s + x) = s + x := by unfold wrap64; omega
        have e2 : wrap64 ((i : Int) + 1) = ((i + 1 : Nat) : Int) := by unfold wrap64; omega
        rw [e1, e2, rtotal_l0 ws hl d (i + 1) k (s + x) (by omega) (by omega) (by omega)]
theorem rtotal_eq (ws : List Int) (k : Nat) : corebankref02_Total.f (k + 200) ws = some (totR ws) := by
  unfold corebankref02_Total.f totR
  by_cases c0 : (ws.length : Int) < 1
  · rw [if_pos c0, if_neg (by omega)]; rfl
  · rw [if_neg c0]
    by_cases c1 : (ws.length : Int) > 64
    · rw [decide_eq_true c1, if_neg (by omega)]; rfl
    · rw [decide_eq_false c1]
      simp only [corebankref02_Total.j0]
      rw [if_neg (by decide)]
      have h := rtotal_l0 ws (by omega) ws.length 0 (k + (198 - 2 * ws.length)) 0 (by omega) (by omega) (by omega)
      rw [show k + (198 - 2 * ws.length) + 2 * ws.length + 1 = k + 199 by omega] at h
      rw [show ((0 : Nat) : Int) = 0 from rfl] at h
      rw [h]
      unfold totS
      simp only [List.drop_zero, Int.zero_add]
      congr 1
      by_cases c : ws.all okW = true
      · rw [if_pos c, if_pos ⟨by omega, by omega, c⟩]
      · rw [if_neg c, if_neg (fun h => c h.2.2)]
/-- One share. -/
theorem share_div {A w T : Int} (hA : 0 ≤ A) (hA1 : A ≤ 1000000000000) (hw : 0 ≤ w) (hw1 : w ≤ 1000000000000) (hT : 1 ≤ T) (hT1 : T ≤ 64000000000000) :
    0 ≤ A * w ∧ A * w ≤ 1000000000000000000000000 ∧ 0 ≤ A * w / T ∧ 0 ≤ A * w % T ∧ A * w % T < T := by
  have h0 : 0 ≤ A * w := Int.mul_nonneg hA hw
  have h1 : A * w ≤ 1000000000000 * w := Int.mul_le_mul_of_nonneg_right hA1 hw
  exact ⟨h0, by omega, Int.ediv_nonneg h0 (by omega), Int.emod_nonneg _ (by omega), Int.emod_lt_of_pos _ (by omega)⟩
theorem share_le {A w T : Int} (hA : 0 ≤ A) (hT : 1 ≤ T) (hw : w ≤ T) : A * w / T ≤ A := by
  have : A * w ≤ A * T := Int.mul_le_mul_of_nonneg_left hw hA
  have h := Int.ediv_le_ediv (c := T) (by omega) this
  rwa [Int.mul_ediv_cancel _ (show T ≠ 0 by omega)] at h
theorem mem_le_sum : ∀ (ws : List Int) (i : Nat), ws.all okW = true → i < ws.length → ws.getD i 0 ≤ sumL ws ∧ 0 ≤ ws.getD i 0 ∧ ws.getD i 0 ≤ 1000000000000
  | x :: t, 0, h, _ => by
    simp only [List.all_cons, Bool.and_eq_true, okW, decide_eq_true_eq] at h
    have := sum_bound t h.2
    simp [sumL]; omega
  | x :: t, i + 1, h, hi => by
    simp only [List.all_cons, Bool.and_eq_true, okW, decide_eq_true_eq] at h
    have := mem_le_sum t i h.2 (by simpa using hi)
    have hx := h.1
    simp only [sumL, List.getD_cons_succ]; omega
theorem qsL_length (A T : Int) (ws : List Int) : (qsL A T ws).length = ws.length := by simp [qsL]
theorem rsL_length (A T : Int) (ws : List Int) : (rsL A T ws).length = ws.length := by simp [rsL]
theorem ext_getD {l m : List Int} (h : l.length = m.length) (e : ∀ j, j < l.length → l.getD j 0 = m.getD j 0) : l = m := by
  apply List.ext_getElem h
  intro i h1 h2
  have := e i h1
  simpa [List.getD_eq_getElem?_getD, h1, h2] using this
theorem sumL_take_succ : ∀ (l : List Int) (i : Nat), i < l.length → sumL (l.take (i + 1)) = sumL (l.take i) + l.getD i 0
  | x :: t, 0, _ => by simp [sumL]
  | x :: t, i + 1, h => by
    have := sumL_take_succ t i (by simpa using h)
    simp only [List.take_succ_cons, sumL, List.getD_cons_succ, this]; omega
theorem sumL_take_le : ∀ (l : List Int) (i : Nat), (∀ x ∈ l, 0 ≤ x) → 0 ≤ sumL (l.take i) ∧ sumL (l.take i) ≤ sumL l
  | [], i, _ => by simp [sumL]
  | x :: t, 0, h => by
    have := sumL_nonneg (x :: t) h
    simp [sumL] at *; exact this
  | x :: t, i + 1, h => by
    have h1 := sumL_take_le t i (fun y hy => h y (List.mem_cons_of_mem _ hy))
    have h2 := h x List.mem_cons_self
    simp only [List.take_succ_cons, sumL]; omega
/-- What the shares keep to. -/
structure Good (A T : Int) (ws : List Int) : Prop where
  a0 : 0 ≤ A
  a1 : A ≤ 1000000000000
  ok : ws.all okW = true
  len : ws.length ≤ 64
  sum : T = sumL ws
  pos : 1 ≤ T
theorem Good.top {A T : Int} {ws : List Int} (g : Good A T ws) : T ≤ 64000000000000 := by
  have := sum_bound ws g.ok
  have := g.len
  have := g.sum
  omega
theorem Good.q {A T : Int} {ws : List Int} (g : Good A T ws) : ∀ j, 0 ≤ (qsL A T ws).getD j 0 ∧ (qsL A T ws).getD j 0 ≤ 1000000000000 := by
  intro j
  by_cases hj : j < ws.length
  · rw [qsL_getD _ _ _ _ hj]
    obtain ⟨m0, m1, m2⟩ := mem_le_sum ws j g.ok hj
    have h := share_div g.a0 g.a1 m1 m2 g.pos g.top
    have h2 := share_le g.a0 g.pos (w := ws.getD j 0) (by rw [g.sum]; exact m0)
    have := g.a1
    omega
  · rw [List.getD_eq_getElem?_getD, List.getElem?_eq_none (by rw [qsL_length]; omega)]
    simp
theorem Good.left {A T : Int} {ws : List Int} (g : Good A T ws) : 0 ≤ leftL A T ws ∧ leftL A T ws ≤ 1000000000000 := by
  have h := left_nonneg (A := A) g.sum (by have := g.pos; omega)
  have h2 : 0 ≤ sumL (qsL A T ws) := sumL_nonneg _ (by
    intro x hx
    obtain ⟨j, hj, rfl⟩ := List.getElem_of_mem hx
    have := g.q j
    simpa [List.getD_eq_getElem?_getD, hj] using this.1)
  have := g.a1
  unfold leftL at *
  omega
theorem Good.taken {A T : Int} {ws : List Int} (g : Good A T ws) (i : Nat) : 0 ≤ sumL ((qsL A T ws).take i) ∧ sumL ((qsL A T ws).take i) ≤ 1000000000000 := by
  have h := sumL_take_le (qsL A T ws) i (by
    intro x hx
    obtain ⟨j, hj, rfl⟩ := List.getElem_of_mem hx
    have := g.q j
    simpa [List.getD_eq_getElem?_getD, hj] using this.1)
  have h2 := g.left
  have := g.a1
  unfold leftL at h2
  omega
theorem lt_of_ne_succ {j i : Nat} (h : j < i + 1) (e : ¬ j = i) : j < i := by omega
theorem w_mul {A w : Int} (h : inI A) (h' : inI w) : wide_Mul.f A w = some (A * w / 18446744073709551616, A * w % 18446744073709551616) := by
  unfold wide_Mul.f; rw [if_pos ⟨h, h'⟩]
theorem r_mul {A w : Int} (h : inI A) (h' : inI w) : corebankref01_Mul.f A w = some (A * w / 18446744073709551616, A * w % 18446744073709551616) := by
  unfold corebankref01_Mul.f; rw [if_pos ⟨h, h'⟩]
theorem wv_dm (x : Int) : wv (x / 18446744073709551616) (x % 18446744073709551616) = x := by unfold wv; omega
theorem w_div {x T : Int} (h : 0 ≤ x ∧ x ≤ 1000000000000000000000000) (hT : 1 ≤ T ∧ T ≤ 64000000000000) :
    wide_Div.f (x / 18446744073709551616) (x % 18446744073709551616) T = some (x / T / 18446744073709551616, x / T % 18446744073709551616, x % T, 0) := by
  unfold wide_Div.f
  rw [if_pos ⟨⟨by unfold inI; omega, by unfold inU; omega⟩, by unfold inI; omega⟩, wv_dm, if_neg (by omega)]
theorem r_div {x T : Int} (h : 0 ≤ x ∧ x ≤ 1000000000000000000000000) (hT : 1 ≤ T ∧ T ≤ 64000000000000) :
    corebankref01_Div.f (x / 18446744073709551616) (x % 18446744073709551616) T = some (x / T / 18446744073709551616, x / T % 18446744073709551616, x % T, 0) := by
  unfold corebankref01_Div.f
  rw [if_pos ⟨⟨by unfold inI; omega, by unfold inU; omega⟩, by unfold inI; omega⟩, wv_dm, if_neg (by omega)]
theorem w_int {x : Int} (h : 0 ≤ x ∧ x ≤ 1000000000000) : wide_Int.f (x / 18446744073709551616) (x % 18446744073709551616) = some (x, true) := by
  unfold wide_Int.f
  rw [if_pos ⟨by unfold inI; omega, by unfold inU; omega⟩, wv_dm, if_pos (by unfold inI; omega)]
theorem r_int {x : Int} (h : 0 ≤ x ∧ x ≤ 1000000000000) : corebankref01_Int.f (x / 18446744073709551616) (x % 18446744073709551616) = some (x, true) := by
  unfold corebankref01_Int.f
  rw [if_pos ⟨by unfold inI; omega, by unfold inU; omega⟩, wv_dm, if_pos (by unfold inI; omega)]
theorem rd_getD (l : List Int) (i : Nat) : rd l (i : Int) = l.getD i 0 := by unfold rd; simp
/-- The shares are laid one by one. -/
theorem split_l0 {A T a s : Int} {ws : List Int} (g : Good A T ws) (ha : s * a = A) : ∀ (d i k : Nat) (p r : List Int), d + i = ws.length → p.length = ws.length → r.length = ws.length →
    (∀ j, j < i → p.getD j 0 = (qsL A T ws).getD j 0) → (∀ j, j < i → r.getD j 0 = (rsL A T ws).getD j 0) →
    rounding_Split.l0 (k + d + 1) a T s (A - sumL ((qsL A T ws).take i)) p r ws ws.length i = rounding_Split.l1 k s (leftL A T ws) (qsL A T ws) (rsL A T ws)
  | 0, i, k, p, r, hd, hp, hr, ep, er => by
    simp only [rounding_Split.l0]
    rw [if_neg (by omega)]
    rw [show p = qsL A T ws from ext_getD (by rw [hp, qsL_length]) (fun j hj => ep j (by omega)), show r = rsL A T ws from ext_getD (by rw [hr, rsL_length]) (fun j hj => er j (by omega))]
    rw [List.take_of_length_le (by rw [qsL_length]; omega)]
    rfl
  | d + 1, i, k, p, r, hd, hp, hr, ep, er => by
    rw [show k + (d + 1) + 1 = (k + d + 1) + 1 by omega]
    obtain ⟨m, hm⟩ : ∃ m, m = k + d + 1 := ⟨_, rfl⟩
    rw [← hm]
    simp only [rounding_Split.l0]
    rw [if_pos (by omega), if_pos (by omega), if_pos (by omega)]
    have hi : i < ws.length := by omega
    have hip : i < p.length := by omega
    have hir : i < r.length := by omega
    obtain ⟨m0, m1, m2⟩ := mem_le_sum ws i g.ok hi
    have hsh := share_div g.a0 g.a1 m1 m2 g.pos g.top
    have hq := g.q i
    rw [qsL_getD _ _ _ _ hi] at hq
    have hw : wrap64 (s * a) = A := by rw [ha]; have := g.a0; have := g.a1; unfold wrap64; omega
    rw [hw, rd_getD, w_mul (by have := g.a0; have := g.a1; unfold inI; omega) (by unfold inI; omega)]
    simp only [Option.bind_some]
    rw [w_div ⟨hsh.1, hsh.2.1⟩ ⟨g.pos, g.top⟩]
    simp only [Option.bind_some]
    rw [w_int hq]
    simp only [Option.bind_some]
    rw [if_pos (by omega), if_pos (by omega), rd_getD, show ((i : Int)).toNat = i from by omega, getD_set _ _ _ _ (by omega), if_pos rfl]
    have h0 := g.taken i
    have e1 : wrap64 (A - sumL ((qsL A T ws).take i) - A * ws.getD i 0 / T) = A - sumL ((qsL A T ws).take (i + 1)) := by
      rw [sumL_take_succ _ _ (by rw [qsL_length]; exact hi), qsL_getD _ _ _ _ hi]
      have := g.a0; have := g.a1
      unfold wrap64; omega
    have e2 : wrap64 ((i : Int) + 1) = ((i + 1 : Nat) : Int) := by have := g.len; unfold wrap64; omega
    rw [e1, e2, hm]
    refine split_l0 g ha d (i + 1) k _ _ (by omega) (by rw [List.length_set, hp]) (by rw [List.length_set, hr]) ?_ ?_
    · intro j hj
      rw [getD_set _ _ _ _ hip]
      split
      · rename_i e; have e' := qsL_getD A T ws i hi; rw [e]; exact e'.symm
      · rename_i e; exact ep j (lt_of_ne_succ hj e)
    · intro j hj
      rw [getD_set _ _ _ _ hir]
      split
      · rename_i e; have e' := rsL_getD A T ws i hi; rw [e]; exact e'.symm
      · rename_i e; exact er j (lt_of_ne_succ hj e)
/-- The largest rest is found, and gets one more. -/
theorem split_l2 {s left : Int} {p r : List Int} (hn : p.length = r.length) (hl : r.length ≤ 64) (h0 : 0 < left) (h1 : left ≤ 1000000000000) (hb : ∀ j, 0 ≤ p.getD j 0 ∧ p.getD j 0 ≤ 2000000000000) :
    ∀ (d i k n : Nat), d + i = r.length → n < r.length →
    rounding_Split.l2 (k + d + 1) s left p r n r r.length i = rounding_Split.l1 k s (left - 1) (p.set (pickG r (r.drop i) i n) (p.getD (pickG r (r.drop i) i n) 0 + 1)) (r.set (pickG r (r.drop i) i n) (-1))
  | 0, i, k, n, hd, hk => by
    simp only [rounding_Split.l2]
    rw [if_neg (by omega), if_pos (by omega), if_pos (by omega), if_pos (by omega), List.drop_eq_nil_of_le (by omega), rd_getD]
    simp only [pickG]
    have := hb n
    rw [show wrap64 (left - 1) = left - 1 from by unfold wrap64; omega, show wrap64 (p.getD n 0 + 1) = p.getD n 0 + 1 from by unfold wrap64; omega, show ((n : Int)).toNat = n from by omega]
  | d + 1, i, k, n, hd, hk => by
    rw [show k + (d + 1) + 1 = (k + d + 1) + 1 by omega]
    obtain ⟨m, hm⟩ : ∃ m, m = k + d + 1 := ⟨_, rfl⟩
    rw [← hm]
    simp only [rounding_Split.l2]
    rw [if_pos (by omega), if_pos (by omega), if_pos (by omega), if_pos (by omega), if_pos (by omega), drop_rd r i (by omega), rd_getD, rd_getD]
    have e2 : wrap64 ((i : Int) + 1) = ((i + 1 : Nat) : Int) := by unfold wrap64; omega
    rw [e2, hm]
    simp only [pickG]
    by_cases c : r.getD i 0 > r.getD n 0
    · rw [if_pos c, if_pos c, split_l2 hn hl h0 h1 hb d (i + 1) k i (by omega) (by omega)]
    · rw [if_neg c, if_neg c, split_l2 hn hl h0 h1 hb d (i + 1) k n (by omega) hk]
/-- All that is left is spread. -/
theorem split_l1 {s : Int} : ∀ (n k : Nat) (p r : List Int), p.length = r.length → 0 < r.length → r.length ≤ 64 → n ≤ 1000000000000 → (∀ j, 0 ≤ p.getD j 0 ∧ p.getD j 0 + n ≤ 2000000000000) →
    rounding_Split.l1 (k + n * (r.length + 2) + 1) s n p r = rounding_Split.l3 k s (spread n p r) p.length 0
  | 0, k, p, r, hn, hz, hl, h1, hb => by
    rw [Nat.zero_mul]
    simp only [rounding_Split.l1, spread]
    rw [if_neg (by omega)]
  | n + 1, k, p, r, hn, hz, hl, h1, hb => by
    rw [show k + (n + 1) * (r.length + 2) + 1 = ((k + n * (r.length + 2) + 1) + r.length + 1) + 1 by rw [Nat.add_mul]; omega]
    obtain ⟨m, hm⟩ : ∃ m, m = (k + n * (r.length + 2) + 1) + r.length + 1 := ⟨_, rfl⟩
    rw [← hm]
    simp only [rounding_Split.l1]
    rw [if_pos (by omega), hm]
    have h := split_l2 (s := s) (left := ((n + 1 : Nat) : Int)) hn hl (by omega) (by omega) (fun j => by have := hb j; omega) r.length 0 (k + n * (r.length + 2) + 1) 0 (by omega) hz
    rw [show ((0 : Nat) : Int) = 0 from rfl, List.drop_zero] at h
    rw [h]
    rw [show ((n + 1 : Nat) : Int) - 1 = (n : Int) by omega]
    have hp : pickG r r 0 0 < r.length := pickG_lt r r 0 0 (by omega) hz
    have hk := split_l1 (s := s) n k (p.set (pickG r r 0 0) (p.getD (pickG r r 0 0) 0 + 1)) (r.set (pickG r r 0 0) (-1)) (by simp [hn]) (by simpa using hz) (by simpa using hl) (by omega) (fun j => by
      rw [getD_set _ _ _ _ (by omega)]
      have h1 := hb j
      have h2 := hb (pickG r r 0 0)
      split <;> omega)
    rw [List.length_set, List.length_set] at hk
    rw [hk]
    rfl
theorem split_l3 {s : Int} (hs : s = 1 ∨ s = -1) : ∀ (d i k : Nat) (p q : List Int), d + i = p.length → q.length = p.length → p.length ≤ 64 → (∀ j, 0 ≤ p.getD j 0 ∧ p.getD j 0 ≤ 2000000000000) →
    (∀ j, j < i → q.getD j 0 = p.getD j 0 * s) → (∀ j, i ≤ j → q.getD j 0 = p.getD j 0) → rounding_Split.l3 (k + d + 1) s q p.length i = some (p.map (· * s), 0)
  | 0, i, k, p, q, hd, hq, hl, hb, e0, e1 => by
    simp only [rounding_Split.l3]
    rw [if_neg (by omega)]
    rw [show q = p.map (· * s) from ext_getD (by simp [hq]) (fun j hj => by
      rw [e0 j (by omega)]
      have : j < p.length := by omega
      simp [List.getD_eq_getElem?_getD, this])]
  | d + 1, i, k, p, q, hd, hq, hl, hb, e0, e1 => by
    rw [show k + (d + 1) + 1 = (k + d + 1) + 1 by omega]
    obtain ⟨m, hm⟩ : ∃ m, m = k + d + 1 := ⟨_, rfl⟩
    rw [← hm]
    simp only [rounding_Split.l3]
    rw [if_pos (by omega), if_pos (by omega), if_pos (by omega), rd_getD, e1 i (by omega)]
    have := hb i
    have ew : wrap64 (p.getD i 0 * s) = p.getD i 0 * s := by rcases hs with rfl | rfl <;> (unfold wrap64; omega)
    have e2 : wrap64 ((i : Int) + 1) = ((i + 1 : Nat) : Int) := by unfold wrap64; omega
    rw [ew, e2, show ((i : Int)).toNat = i from by omega, hm]
    refine split_l3 hs d (i + 1) k p _ (by omega) (by simp [hq]) hl hb ?_ ?_
    · intro j hj
      rw [getD_set _ _ _ _ (by omega)]
      split
      · rename_i e; rw [e]
      · exact e0 j (by omega)
    · intro j hj
      rw [getD_set _ _ _ _ (by omega), if_neg (by omega)]
      exact e1 j (by omega)
def sgA (a : Int) : Int := if a < 0 then -1 else 1
def splR (a : Int) (ws : List Int) : List Int × Int :=
  if (-1000000000000 ≤ a ∧ a ≤ 1000000000000) ∧ (totR ws).2 = true then ((partsL (sgA a * a) (sumL ws) ws).map (· * sgA a), 0) else ([], 1)
theorem sgA_mul (a : Int) (h : -1000000000000 ≤ a ∧ a ≤ 1000000000000) : 0 ≤ sgA a * a ∧ sgA a * a ≤ 1000000000000 ∧ sgA a * (sgA a * a) = a ∧ (sgA a = 1 ∨ sgA a = -1) := by
  unfold sgA; split <;> omega
theorem totR_true {ws : List Int} (h : (totR ws).2 = true) : ws.all okW = true ∧ 1 ≤ ws.length ∧ ws.length ≤ 64 ∧ 1 ≤ sumL ws ∧ totR ws = (sumL ws, true) := by
  unfold totR at h ⊢
  split at h
  · rename_i c
    simp only [decide_eq_true_eq] at h
    rw [if_pos c, decide_eq_true h]
    exact ⟨c.2.2, c.1, c.2.1, by omega, rfl⟩
  · cases h
theorem good_of {a : Int} {ws : List Int} (ha : -1000000000000 ≤ a ∧ a ≤ 1000000000000) (h : (totR ws).2 = true) : Good (sgA a * a) (sumL ws) ws := by
  obtain ⟨h1, h2, h3, h4, _⟩ := totR_true h
  obtain ⟨s0, s1, _⟩ := sgA_mul a ha
  exact ⟨s0, s1, h1, h3, rfl, h4⟩
theorem Good.parts {A T : Int} {ws : List Int} (g : Good A T ws) : (partsL A T ws).length = ws.length ∧ ∀ j, 0 ≤ (partsL A T ws).getD j 0 ∧ (partsL A T ws).getD j 0 ≤ 1000000000001 := by
  obtain ⟨h1, h2, h3⟩ := parts_law (A := A) g.sum (by have := g.pos; omega)
  refine ⟨h1, fun j => ?_⟩
  by_cases hj : j < ws.length
  · have h := g.q j
    rw [qsL_getD _ _ _ _ hj] at h
    have := h3 j hj
    omega
  · rw [List.getD_eq_getElem?_getD, List.getElem?_eq_none (by omega)]; simp
theorem pick_from_one (r : List Int) (h : 0 < r.length) : pickG r (r.drop 1) 1 0 = pick r := by
  unfold pick
  cases r with
  | nil => simp at h
  | cons x t =>
    simp only [List.drop_succ_cons, List.drop_zero]
    rw [pickG.eq_2]
    simp
theorem splR_yes {a : Int} {ws : List Int} (ha : -1000000000000 ≤ a ∧ a ≤ 1000000000000) (h : (totR ws).2 = true) : splR a ws = ((partsL (sgA a * a) (sumL ws) ws).map (· * sgA a), 0) := if_pos ⟨ha, h⟩
theorem splR_no {a : Int} {ws : List Int} (h : ¬ ((-1000000000000 ≤ a ∧ a ≤ 1000000000000) ∧ (totR ws).2 = true)) : splR a ws = ([], 1) := if_neg h
theorem valid_eq (a : Int) : rounding_valid.f a = some (decide (-1000000000000 ≤ a ∧ a ≤ 1000000000000)) := by
  unfold rounding_valid.f
  split
  · congr 1; apply decide_eq_decide.mpr; omega
  · rw [decide_eq_false (by omega)]
theorem rgood_eq (a : Int) : corebankref02_Good.f a = some (decide (-1000000000000 ≤ a ∧ a ≤ 1000000000000)) := by
  unfold corebankref02_Good.f
  split
  · congr 1; apply decide_eq_decide.mpr; omega
  · rw [decide_eq_false (by omega)]
theorem split_eq (a : Int) (ws : List Int) : ∃ N, ∀ k, rounding_Split.f (k + N) a ws = some (splR a ws) := by
  by_cases h : (totR ws).2 = true
  · by_cases ha : -1000000000000 ≤ a ∧ a ≤ 1000000000000
    · have g := good_of ha h
      obtain ⟨h1, h2, h3, h4, h5⟩ := totR_true h
      obtain ⟨s0, s1, s2, s3⟩ := sgA_mul a ha
      have gl := g.left
      refine ⟨200 + (ws.length + 1) + ((leftL (sgA a * a) (sumL ws) ws).toNat * (ws.length + 2) + 1) + (ws.length + 1) + 2, fun k => ?_⟩
      unfold rounding_Split.f
      have ht := total_eq ws (k + (ws.length + 1) + ((leftL (sgA a * a) (sumL ws) ws).toNat * (ws.length + 2) + 1) + (ws.length + 1) + 2)
      rw [show k + (ws.length + 1) + ((leftL (sgA a * a) (sumL ws) ws).toNat * (ws.length + 2) + 1) + (ws.length + 1) + 2 + 200 = k + (200 + (ws.length + 1) + ((leftL (sgA a * a) (sumL ws) ws).toNat * (ws.length + 2) + 1) + (ws.length + 1) + 2) by omega] at ht
      rw [ht, h5, splR_yes ha h, valid_eq, decide_eq_true ha]
      simp only [Option.bind_some, if_true, Bool.not_true]
      rw [show k + (200 + (ws.length + 1) + ((leftL (sgA a * a) (sumL ws) ws).toNat * (ws.length + 2) + 1) + (ws.length + 1) + 2) = (k + 200 + (ws.length + 1) + ((leftL (sgA a * a) (sumL ws) ws).toNat * (ws.length + 2) + 1) + (ws.length + 1) + 1) + 1 by omega]
      simp only [rounding_Split.j0]
      rw [if_neg (by decide)]
      have hj : ∀ s, s = sgA a → rounding_Split.j1 (k + 200 + (ws.length + 1) + ((leftL (sgA a * a) (sumL ws) ws).toNat * (ws.length + 2) + 1) + (ws.length + 1) + 1) a ws (sumL ws) s = some ((partsL (sgA a * a) (sumL ws) ws).map (· * sgA a), 0) := by
        rintro s rfl
        obtain ⟨m, hm⟩ : ∃ m, m = k + 200 + (ws.length + 1) + ((leftL (sgA a * a) (sumL ws) ws).toNat * (ws.length + 2) + 1) + (ws.length + 1) := ⟨_, rfl⟩
        rw [← hm]
        simp only [rounding_Split.j1]
        rw [if_pos (by omega), if_pos (by omega), show ((ws.length : Int)).toNat = ws.length from by omega, show wrap64 (sgA a * a) = sgA a * a from by unfold wrap64; omega]
        have e0 := split_l0 (s := sgA a) (a := a) g rfl ws.length 0 (k + 200 + ((leftL (sgA a * a) (sumL ws) ws).toNat * (ws.length + 2) + 1) + (ws.length + 1)) (List.replicate ws.length 0) (List.replicate ws.length 0) (by omega) (by simp) (by simp) (by intro j hj; omega) (by intro j hj; omega)
        rw [show k + 200 + ((leftL (sgA a * a) (sumL ws) ws).toNat * (ws.length + 2) + 1) + (ws.length + 1) + ws.length + 1 = m by omega] at e0
        simp only [List.take_zero, sumL, Int.sub_zero] at e0
        rw [show ((0 : Nat) : Int) = 0 from rfl] at e0
        rw [e0]
        have e1 := split_l1 (s := sgA a) (leftL (sgA a * a) (sumL ws) ws).toNat (k + 200 + (ws.length + 1)) (qsL (sgA a * a) (sumL ws) ws) (rsL (sgA a * a) (sumL ws) ws) (by rw [qsL_length, rsL_length]) (by rw [rsL_length]; omega) (by rw [rsL_length]; omega) (by omega) (fun j => by have := g.q j; omega)
        rw [rsL_length, qsL_length, Int.toNat_of_nonneg gl.1] at e1
        rw [show k + 200 + ((leftL (sgA a * a) (sumL ws) ws).toNat * (ws.length + 2) + 1) + (ws.length + 1) = k + 200 + (ws.length + 1) + (leftL (sgA a * a) (sumL ws) ws).toNat * (ws.length + 2) + 1 by omega, e1]
        obtain ⟨p1, p2⟩ := g.parts
        have e2 := split_l3 s3 ws.length 0 (k + 200) (partsL (sgA a * a) (sumL ws) ws) (partsL (sgA a * a) (sumL ws) ws) (by omega) rfl (by omega) (fun j => by have := p2 j; omega) (by intro j hj; omega) (fun j _ => rfl)
        rw [p1] at e2
        rw [show k + 200 + (ws.length + 1) = k + 200 + ws.length + 1 by omega]
        exact e2
      unfold sgA at hj ⊢
      by_cases c : a < 0
      · rw [if_pos c]; exact hj _ (by rw [if_pos c])
      · rw [if_neg c]; exact hj _ (by rw [if_neg c])
    · refine ⟨200, fun k => ?_⟩
      unfold rounding_Split.f
      rw [total_eq, splR_no (fun h => ha h.1), valid_eq, decide_eq_false ha]
      rfl
  · refine ⟨200, fun k => ?_⟩
    unfold rounding_Split.f
    rw [total_eq, splR_no (fun c => h c.2), valid_eq]
    simp only [Option.bind_some]
    rw [show (totR ws).2 = false from by simpa using h]
    split <;> rfl
theorem r_sub {x y : Int} (hx : -1000000000000000000000000000 ≤ x ∧ x ≤ 1000000000000000000000000000) (hy : -1000000000000000000000000000 ≤ y ∧ y ≤ 1000000000000000000000000000) :
    corebankref01_Sub.f (x / 18446744073709551616) (x % 18446744073709551616) (y / 18446744073709551616) (y % 18446744073709551616) = some ((x - y) / 18446744073709551616, (x - y) % 18446744073709551616, 0) := by
  unfold corebankref01_Sub.f
  rw [if_pos ⟨⟨by unfold inI; omega, by unfold inU; omega⟩, ⟨by unfold inI; omega, by unfold inU; omega⟩⟩, wv_dm, wv_dm, if_pos (by unfold in128; omega)]
theorem r_of {x : Int} (h : inI x) : corebankref01_Of.f x = some (x / 18446744073709551616, x % 18446744073709551616) := by
  unfold corebankref01_Of.f; rw [if_pos h]
theorem r_cmp {x y : Int} (hx : -1000000000000000000000000000 ≤ x ∧ x ≤ 1000000000000000000000000000) (hy : -1000000000000000000000000000 ≤ y ∧ y ≤ 1000000000000000000000000000) :
    corebankref01_Cmp.f (x / 18446744073709551616) (x % 18446744073709551616) (y / 18446744073709551616) (y % 18446744073709551616) = some (cmpR x y) := by
  unfold corebankref01_Cmp.f
  rw [if_pos ⟨⟨by unfold inI; omega, by unfold inU; omega⟩, ⟨by unfold inI; omega, by unfold inU; omega⟩⟩, wv_dm, wv_dm]
/-- A part, its sign, and its distance from the exact share. -/
theorem part_near {A T s a w p : Int} (hs : s = 1 ∨ s = -1) (ha : s * a = A) (hT : 1 ≤ T) (hp : p = A * w / T ∨ p = A * w / T + 1 ∧ 0 < A * w % T) :
    p * s * T - a * w < T ∧ -T < p * s * T - a * w := by
  have e := Int.mul_ediv_add_emod (A * w) T
  have e0 := Int.emod_nonneg (A * w) (show T ≠ 0 by omega)
  have e1 := Int.emod_lt_of_pos (A * w) (show 0 < T by omega)
  have h1 : p * T = T * (A * w / T) ∨ p * T = T * (A * w / T) + T ∧ 0 < A * w % T := by
    rcases hp with rfl | ⟨rfl, h⟩
    · left; rw [Int.mul_comm]
    · right; rw [Int.add_mul, Int.one_mul, Int.mul_comm T]; exact ⟨rfl, h⟩
  rcases hs with rfl | rfl
  · have ea : a * w = A * w := by rw [← ha, Int.one_mul]
    rw [Int.mul_one, ea]; omega
  · have ea : a * w = -(A * w) := by rw [← ha]; simp [Int.neg_mul]
    have ep : p * -1 * T = -(p * T) := by rw [Int.mul_assoc, Int.neg_one_mul, Int.mul_neg]
    rw [ep, ea]; omega
theorem splits_j3 {a T x9 v u : Int} {ws l : List Int} {i m : Nat} (hlw : l.length = ws.length) (hi : i < l.length) (h64 : ws.length ≤ 64) (hv : rd l i = v) (hu : rd ws i = u)
    (hv1 : -1000000000000 ≤ v ∧ v ≤ 1000000000000) (hT : 1 ≤ T ∧ T ≤ 64000000000000) (hw : 0 ≤ u ∧ u ≤ 1000000000000) (ha : -1000000000000 ≤ a ∧ a ≤ 1000000000000)
    (hx : -1000000000000000000000000000 ≤ v * T ∧ v * T ≤ 1000000000000000000000000000) (hy : -1000000000000000000000000000 ≤ a * u ∧ a * u ≤ 1000000000000000000000000000)
    (hn : v * T - a * u < T ∧ -T < v * T - a * u) (h9 : -1000000000000 ≤ x9 ∧ x9 ≤ 1000000000000) :
    corebanklaw02_RoundingSplits.j3 (m + 1 + 1) a ws T l x9 i false = corebanklaw02_RoundingSplits.l0 m a ws T l (x9 + v) ((i + 1 : Nat) : Int) := by
  have c0 : (0 : Int) ≤ i := by omega
  have c1 : (i : Int) < l.length := by omega
  have c2 : (i : Int) < ws.length := by omega
  have e1 : wrap64 (x9 + v) = x9 + v := by unfold wrap64; omega
  have e2 : wrap64 ((i : Int) + 1) = ((i + 1 : Nat) : Int) := by unfold wrap64; omega
  have e3 : wrap64 (-T) = -T := by unfold wrap64; omega
  have i1 : inI v := by unfold inI; omega
  have i2 : inI T := by unfold inI; omega
  have i3 : inI a := by unfold inI; omega
  have i4 : inI u := by unfold inI; omega
  have i5 : inI (-T) := by unfold inI; omega
  have k1 := r_sub hx hy
  have k2 := r_cmp (x := v * T - a * u) (y := T) (by omega) (by omega)
  have k3 := r_cmp (x := v * T - a * u) (y := -T) (by omega) (by omega)
  have k4 : cmpR (v * T - a * u) T = -1 := by unfold cmpR; rw [if_pos hn.1]
  have k5 : cmpR (v * T - a * u) (-T) = 1 := by unfold cmpR; rw [if_neg (by omega), if_neg (by omega)]
  simp only [corebanklaw02_RoundingSplits.j3]
  rw [if_neg (by decide), if_pos c0, if_pos c1, hv, r_mul i1 i2]
  simp only [Option.bind_some]
  rw [if_pos c2, hu, r_mul i3 i4]
  simp only [Option.bind_some]
  rw [k1]
  simp only [Option.bind_some]
  rw [r_of i2]
  simp only [Option.bind_some]
  rw [k2, k4]
  simp only [Option.bind_some]
  rw [if_neg (by decide), e3, r_of i5]
  simp only [Option.bind_some]
  rw [k3, k5]
  simp only [Option.bind_some]
  rw [show (decide ((1 : Int) ≤ 0)) = false from rfl]
  simp only [corebanklaw02_RoundingSplits.j4]
  rw [if_neg (by decide), if_pos c0, if_pos c1, hv, e1, e2]
theorem splits_l0 {a : Int} {ws : List Int} (ha : -1000000000000 ≤ a ∧ a ≤ 1000000000000) (h : (totR ws).2 = true) : ∀ (d i k : Nat), d + i = ws.length →
    corebanklaw02_RoundingSplits.l0 (k + 3 * d + 1) a ws (sumL ws) ((partsL (sgA a * a) (sumL ws) ws).map (· * sgA a)) (sumL ((partsL (sgA a * a) (sumL ws) ws).take i) * sgA a) i = some true
  | 0, i, k, hd => by
    have g := good_of ha h
    obtain ⟨s0, s1, s2, s3⟩ := sgA_mul a ha
    obtain ⟨p1, p2, p3⟩ := parts_law (A := sgA a * a) g.sum (by have := g.pos; omega)
    simp only [corebanklaw02_RoundingSplits.l0]
    rw [List.length_map, if_neg (by omega), List.take_of_length_le (by omega), p2, if_pos (by rw [Int.mul_comm]; exact s2), live_true]; rfl
  | d + 1, i, k, hd => by
    have g := good_of ha h
    obtain ⟨t1, t2, t3, t4, t5⟩ := totR_true h
    obtain ⟨s0, s1, s2, s3⟩ := sgA_mul a ha
    obtain ⟨p1, p2, p3⟩ := parts_law (A := sgA a * a) g.sum (by have := g.pos; omega)
    have hi : i < ws.length := by omega
    obtain ⟨m0, m1, m2⟩ := mem_le_sum ws i g.ok hi
    have hnn : ∀ x ∈ partsL (sgA a * a) (sumL ws) ws, 0 ≤ x := by
      intro x hx
      obtain ⟨j, hj, rfl⟩ := List.getElem_of_mem hx
      have := g.parts.2 j
      simpa [List.getD_eq_getElem?_getD, hj] using this.1
    have q0 := sumL_take_le _ i hnn
    have q1 := sumL_take_le _ (i + 1) hnn
    rw [sumL_take_succ _ _ (by omega)] at q1
    have hnear := part_near (s := sgA a) (a := a) (w := ws.getD i 0) s3 rfl t4 (p3 i hi)
    have hp := g.parts.2 i
    have hr : rd ((partsL (sgA a * a) (sumL ws) ws).map (· * sgA a)) i = (partsL (sgA a * a) (sumL ws) ws).getD i 0 * sgA a := by
      rw [rd_getD]
      have : i < (partsL (sgA a * a) (sumL ws) ws).length := by omega
      simp [List.getD_eq_getElem?_getD, this]
    have ih := splits_l0 ha h d (i + 1) k (by omega)
    rw [sumL_take_succ _ _ (by omega)] at ih
    have htop := g.top
    have hw1 : a * ws.getD i 0 ≤ 1000000000000000000000000 ∧ -1000000000000000000000000 ≤ a * ws.getD i 0 := by
      have h1 := share_div s0 s1 m1 m2 t4 htop
      have h2 : a * ws.getD i 0 = sgA a * (sgA a * a * ws.getD i 0) := by rw [← Int.mul_assoc, s2]
      rw [h2]
      have h3 := h1.1
      have h4 := h1.2.1
      clear h1 h2 hnear
      generalize sgA a * a * ws.getD i 0 = X at *
      rcases s3 with e | e <;> rw [e] <;> omega
    rw [show k + 3 * (d + 1) + 1 = (k + 3 * d + 1) + 1 + 1 + 1 by omega]
    obtain ⟨m, hm⟩ : ∃ m, m = k + 3 * d + 1 := ⟨_, rfl⟩
    rw [← hm] at ih ⊢
    simp only [corebanklaw02_RoundingSplits.l0]
    rw [List.length_map, p1, if_pos (by omega), if_pos (by omega), hr, rgood_eq]
    have hm1 : (sumL ws : Int) ≤ 64000000000000 := htop
    rw [p2] at q0 q1
    generalize hP : (partsL (sgA a * a) (sumL ws) ws).getD i 0 = P at *
    generalize hSg : sgA a = s at *
    generalize hW : ws.getD i 0 = W at *
    have hPs : -1000000000000 ≤ P * s ∧ P * s ≤ 1000000000000 := by rcases s3 with rfl | rfl <;> omega
    rw [decide_eq_true hPs]
    simp only [Option.bind_some, if_true]
    have hsign : (P * s > 0 → ¬ a < 0) ∧ (P * s < 0 → ¬ a > 0) := by
      rcases s3 with rfl | rfl <;> omega
    have hPT : -1000000000000000000000000000 ≤ P * s * sumL ws ∧ P * s * sumL ws ≤ 1000000000000000000000000000 := by omega
    have hrest := splits_j3 (a := a) (T := sumL ws) (x9 := sumL ((partsL (s * a) (sumL ws) ws).take i) * s) (ws := ws) (l := (partsL (s * a) (sumL ws) ws).map (· * s)) (i := i) (m := m) (v := P * s) (u := W)
      (by rw [List.length_map, p1]) (by rw [List.length_map, p1]; exact hi) t3 hr (by rw [rd_getD, hW]) hPs ⟨t4, htop⟩ ⟨m1, m2⟩ ha ⟨hPT.1, hPT.2⟩ ⟨by omega, by omega⟩ hnear (by rcases s3 with rfl | rfl <;> omega)
    rw [show sumL ((partsL (s * a) (sumL ws) ws).take i) * s + P * s = (sumL ((partsL (s * a) (sumL ws) ws).take i) + P) * s from (Int.add_mul _ _ _).symm, ih] at hrest
    by_cases g0 : P * s > 0
    · rw [if_pos g0, if_neg (hsign.1 g0), if_neg (by omega)]
      exact hrest
    · rw [if_neg g0]
      by_cases g1 : P * s < 0
      · rw [if_pos g1, decide_eq_false (hsign.2 g1)]
        exact hrest
      · rw [if_neg g1]; exact hrest
theorem RoundingSplits_pure (a0 : Int) (l1 : List Int) : ∃ k, corebanklaw02_RoundingSplits.f k a0 l1 = some true := by
  by_cases c : (l1.length : Int) > 100
  · refine ⟨0, ?_⟩
    unfold corebanklaw02_RoundingSplits.f
    rw [if_pos c, live_true]; rfl
  · obtain ⟨N1, h1⟩ := split_eq a0 l1
    refine ⟨N1 + 600 + 1 + 1, ?_⟩
    unfold corebanklaw02_RoundingSplits.f
    rw [if_neg c]
    have e1 := h1 (600 + 1 + 1)
    rw [show 600 + 1 + 1 + N1 = N1 + 600 + 1 + 1 by omega] at e1
    have e2 := rtotal_eq l1 (N1 + 402)
    rw [show N1 + 402 + 200 = N1 + 600 + 1 + 1 by omega] at e2
    rw [e1, e2]
    simp only [Option.bind_some]
    have bad : ∀ T, splR a0 l1 = ([], 1) → corebanklaw02_RoundingSplits.j0 (N1 + 600 + 1 + 1) a0 l1 T (splR a0 l1).1 (splR a0 l1).2 true = some true := by
      intro T hn
      rw [hn]
      simp only [corebanklaw02_RoundingSplits.j0]
      simp [live_true]
    by_cases h : (totR l1).2 = true
    · rw [if_pos h, rgood_eq]
      simp only [Option.bind_some]
      by_cases ha : -1000000000000 ≤ a0 ∧ a0 ≤ 1000000000000
      · rw [decide_eq_true ha]
        obtain ⟨t1, t2, t3, t4, t5⟩ := totR_true h
        rw [splR_yes ha h, t5]
        have g := good_of ha h
        simp only [corebanklaw02_RoundingSplits.j0, Bool.not_true]
        rw [if_neg (by decide)]
        simp only [if_true, corebanklaw02_RoundingSplits.j1]
        rw [List.length_map, g.parts.1, show (((l1.length : Int) != (l1.length : Int)) = false) from by simp, if_neg (by decide)]
        have := splits_l0 ha h l1.length 0 (N1 + 599 - 3 * l1.length) (by omega)
        rw [show N1 + 599 - 3 * l1.length + 3 * l1.length + 1 = N1 + 600 by omega] at this
        simp only [List.take_zero, sumL, Int.zero_mul] at this
        exact this
      · rw [decide_eq_false ha]
        exact bad _ (splR_no (fun c => ha c.1))
    · rw [if_neg h]
      exact bad _ (splR_no (fun c => h c.2))
end Go.Proofs.YtkdhippoibjfkaaDoor.PureRoundingSplits
