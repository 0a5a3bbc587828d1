import Derived.Test.YtbifbnjkpmmedaaDoorPAx32
namespace Go.Proofs.YtbifbnjkpmmedaaDoor.PureAnnuityParts
open Go.RowKit Go.Proofs.YtbifbnjkpmmedaaDoor.PA Go.Proofs.YtbifbnjkpmmedaaDoorW.PrintWords Go.Proofs.YtbifbnjkpmmedaaDoorW.PrintLast Go.Proofs.YtbifbnjkpmmedaaDoorW.PrintMore
set_option linter.unusedVariables false
set_option linter.unusedSimpArgs false
/-- A greater payment and a smaller principal leave no more. -/
theorem restS_mono {ppm every mode : Int} (hc : 0 ≤ ppm * every) (n : Nat) : ∀ {p p' pay pay' : Int}, p ≤ p' → pay' ≤ pay → (restS ppm every mode pay' n p').2 = true →
    (restS ppm every mode pay n p).2 = true ∧ (restS ppm every mode pay n p).1 ≤ (restS ppm every mode pay' n p').1 := by
  induction n with
  | zero => intro p p' pay pay' h1 h2 _; exact ⟨rfl, h1⟩
  | succ n ih =>
    intro p p' pay pay' h1 h2 h
    have hi : rq (p * (ppm * every)) 12000000 mode ≤ rq (p' * (ppm * every)) 12000000 mode := rq_mono (by decide) (Int.mul_le_mul_of_nonneg_right h1 hc)
    by_cases hb : p' + rq (p' * (ppm * every)) 12000000 mode - pay' > 1000000000000
    · rw [restS_over hb] at h; cases h
    · have ha : ¬ p + rq (p * (ppm * every)) 12000000 mode - pay > 1000000000000 := by omega
      rw [restS_on hb] at h ⊢
      rw [restS_on ha]
      refine ih ?_ h2 h
      split <;> split <;> omega
theorem restS_range {ppm every mode pay : Int} (n : Nat) : ∀ {p : Int}, 0 ≤ p → p ≤ 1000000000000 → 0 ≤ (restS ppm every mode pay n p).1 ∧ (restS ppm every mode pay n p).1 ≤ 1000000000000 := by
  induction n with
  | zero => intro p h0 h1; exact ⟨h0, h1⟩
  | succ n ih =>
    intro p h0 h1
    by_cases hb : p + rq (p * (ppm * every)) 12000000 mode - pay > 1000000000000
    · rw [restS_over hb]; exact ⟨by decide, by decide⟩
    · rw [restS_on hb]
      refine ih ?_ ?_ <;> split <;> omega
theorem restS_fail {ppm every mode pay : Int} (n : Nat) : ∀ {p : Int}, (restS ppm every mode pay n p).2 = false → restS ppm every mode pay n p = (0, false) := by
  induction n with
  | zero => intro p h; cases h
  | succ n ih =>
    intro p h
    by_cases hb : p + rq (p * (ppm * every)) 12000000 mode - pay > 1000000000000
    · exact restS_over hb
    · rw [restS_on hb] at h ⊢; exact ih h
theorem restS_add {ppm every mode pay : Int} (m n : Nat) : ∀ {p : Int}, restS ppm every mode pay (m + n) p = if (restS ppm every mode pay m p).2 = true then restS ppm every mode pay n (restS ppm every mode pay m p).1 else (0, false) := by
  induction m with
  | zero => intro p; rw [Nat.zero_add]; exact (if_pos rfl).symm
  | succ m ih =>
    intro p
    rw [show m + 1 + n = (m + n) + 1 by omega]
    by_cases hb : p + rq (p * (ppm * every)) 12000000 mode - pay > 1000000000000
    · rw [restS_over hb, restS_over hb, if_neg (by decide)]
    · rw [restS_on hb, restS_on hb]; exact ih
theorem good_ppm {p ppm every mode : Int} (g : goodB p ppm every mode = true) : (0 ≤ p ∧ p ≤ 1000000000000) ∧ 0 ≤ ppm * every := by
  obtain ⟨p0, p1, i0, i1, e0, e1, m0, m1⟩ := of_decide_eq_true g
  exact ⟨⟨p0, p1⟩, Int.mul_nonneg i0 (by omega)⟩
theorem good_other {p p' ppm every mode : Int} (g : goodB p ppm every mode = true) (h0 : 0 ≤ p') (h1 : p' ≤ 1000000000000) : goodB p' ppm every mode = true := by
  obtain ⟨p0, p1, r⟩ := of_decide_eq_true g
  exact decide_eq_true ⟨h0, h1, r⟩
theorem enough_mono {p ppm every mode count bal : Int} (g : goodB p ppm every mode = true) {x y : Int} (h : x ≤ y) (hx : enoughB p ppm every mode count bal x = true) : enoughB p ppm every mode count bal y = true := by
  unfold enoughB at *
  rw [Bool.and_eq_true, decide_eq_true_eq] at *
  obtain ⟨h1, h2⟩ := restS_mono (good_ppm g).2 count.toNat (Int.le_refl p) h hx.1
  exact ⟨h1, by omega⟩
/-- The search by halves finds the least one. -/
theorem bisS_spec {E : Int → Bool} (hE : ∀ {x y : Int}, x ≤ y → E x = true → E y = true) (n : Nat) : ∀ {lo hi : Int}, lo ≤ hi → hi - lo < 2 ^ n →
    lo ≤ bisS E n lo hi ∧ bisS E n lo hi ≤ hi ∧ (∀ x, lo ≤ x → x < bisS E n lo hi → E x = false) ∧ (bisS E n lo hi < hi → E (bisS E n lo hi) = true) := by
  induction n with
  | zero =>
    intro lo hi h1 h2
    have : lo = hi := by simp at h2; omega
    subst this
    exact ⟨Int.le_refl _, Int.le_refl _, fun x a b => by simp only [bisS] at b; omega, fun a => by simp only [bisS] at a; omega⟩
  | succ n ih =>
    intro lo hi h1 h2
    have p2 : (2 : Int) ^ (n + 1) = 2 * 2 ^ n := by rw [Int.pow_succ, Int.mul_comm]
    by_cases hlt : lo < hi
    · by_cases hm : E ((lo + hi) / 2) = true
      · have e : bisS E (n + 1) lo hi = bisS E n lo ((lo + hi) / 2) := by rw [bisS, if_pos hlt, if_pos hm]
        obtain ⟨a, b, c, d⟩ := ih (lo := lo) (hi := (lo + hi) / 2) (by omega) (by omega)
        rw [e]
        refine ⟨a, by omega, c, fun _ => ?_⟩
        by_cases hz : bisS E n lo ((lo + hi) / 2) < (lo + hi) / 2
        · exact d hz
        · rw [show bisS E n lo ((lo + hi) / 2) = (lo + hi) / 2 by omega]; exact hm
      · have e : bisS E (n + 1) lo hi = bisS E n ((lo + hi) / 2 + 1) hi := by rw [bisS, if_pos hlt, if_neg hm]
        obtain ⟨a, b, c, d⟩ := ih (lo := (lo + hi) / 2 + 1) (hi := hi) (by omega) (by omega)
        rw [e]
        refine ⟨by omega, b, fun x x0 x1 => ?_, d⟩
        by_cases hx : x ≤ (lo + hi) / 2
        · cases hv : E x with
          | false => rfl
          | true => exact absurd (hE hx hv) hm
        · exact c x (by omega) x1
    · have e : bisS E (n + 1) lo hi = lo := by rw [bisS, if_neg hlt]
      rw [e]
      exact ⟨Int.le_refl _, h1, fun x a b => by omega, fun a => absurd a hlt⟩
/-- What a payment is: the least one that is enough. -/
theorem payR_spec {p ppm every mode count bal : Int} (g : goodB p ppm every mode = true) (n0 : 1 ≤ count) (n1 : count ≤ 120) (z0 : 0 ≤ bal) (z1 : bal ≤ p) :
    (enoughB p ppm every mode count bal 1000000000000 = false ∧ payR p ppm every mode count bal = (0, 6)) ∨
    ∃ x, payR p ppm every mode count bal = (x, 0) ∧ 0 ≤ x ∧ x ≤ 1000000000000 ∧ enoughB p ppm every mode count bal x = true ∧ ∀ y, 0 ≤ y → y < x → enoughB p ppm every mode count bal y = false := by
  have e : payR p ppm every mode count bal = (if enoughB p ppm every mode count bal 1000000000000 = true then (bisS (enoughB p ppm every mode count bal) 41 0 1000000000000, 0) else (0, 6)) := if_pos ⟨g, n0, n1, z0, z1⟩
  rw [e]
  by_cases hm : enoughB p ppm every mode count bal 1000000000000 = true
  · rw [if_pos hm]
    obtain ⟨a, b, c, d⟩ := bisS_spec (E := enoughB p ppm every mode count bal) (fun h hx => enough_mono g h hx) 41 (lo := 0) (hi := 1000000000000) (by decide) (by decide)
    refine .inr ⟨_, rfl, a, b, ?_, c⟩
    by_cases hz : bisS (enoughB p ppm every mode count bal) 41 0 1000000000000 < 1000000000000
    · exact d hz
    · rw [show bisS (enoughB p ppm every mode count bal) 41 0 1000000000000 = 1000000000000 by omega]; exact hm
  · rw [if_neg hm]
    exact .inl ⟨eq_false_of_ne_true hm, rfl⟩
theorem pay_same (p ppm every mode count bal : Int) : payR p ppm every mode count bal = payQ p ppm every mode count bal := by
  by_cases h : goodB p ppm every mode = true ∧ 1 ≤ count ∧ count ≤ 120 ∧ 0 ≤ bal ∧ bal ≤ p
  · obtain ⟨g, n0, n1, z0, z1⟩ := id h
    have eq : payQ p ppm every mode count bal = (if bisS (enoughB p ppm every mode count bal) 41 0 1000000000001 > 1000000000000 then (0, 6) else (bisS (enoughB p ppm every mode count bal) 41 0 1000000000001, 0)) := if_pos h
    rw [eq]
    obtain ⟨a, b, c, d⟩ := bisS_spec (E := enoughB p ppm every mode count bal) (fun h hx => enough_mono g h hx) 41 (lo := 0) (hi := 1000000000001) (by decide) (by decide)
    rcases payR_spec g n0 n1 z0 z1 with ⟨h1, h2⟩ | ⟨x, h1, x0, x1, h2, h3⟩
    · rw [h2]
      by_cases hz : bisS (enoughB p ppm every mode count bal) 41 0 1000000000001 > 1000000000000
      · rw [if_pos hz]
      · have := enough_mono g (show bisS (enoughB p ppm every mode count bal) 41 0 1000000000001 ≤ 1000000000000 by omega) (d (by omega))
        rw [h1] at this; cases this
    · rw [h1]
      have hle : bisS (enoughB p ppm every mode count bal) 41 0 1000000000001 ≤ x := by
        by_cases hz : bisS (enoughB p ppm every mode count bal) 41 0 1000000000001 ≤ x
        · exact hz
        · have := c x x0 (by omega)
          rw [h2] at this; cases this
      rw [if_neg (by omega)]
      have hge : ¬ bisS (enoughB p ppm every mode count bal) 41 0 1000000000001 < x := fun hz => by
        have h4 := h3 _ a hz
        rw [d (by omega)] at h4; cases h4
      rw [show bisS (enoughB p ppm every mode count bal) 41 0 1000000000001 = x by omega]
  · have e1 : payR p ppm every mode count bal = (0, 1) := if_neg h
    have e2 : payQ p ppm every mode count bal = (0, 1) := if_neg h
    rw [e1, e2]
/-- What Rest answers, by what the steps come to. -/
theorem restR_of {p ppm every mode count pay : Int} (g : goodB p ppm every mode = true) (n0 : 0 ≤ count) (n1 : count ≤ 120) (y0 : 0 ≤ pay) (y1 : pay ≤ 1000000000000) :
    restR p ppm every mode count pay = if (restS ppm every mode pay count.toNat p).2 = true then ((restS ppm every mode pay count.toNat p).1, 0) else (0, 6) := if_pos ⟨g, n0, n1, y0, y1⟩
theorem live_true : corebanklaw32_live.f = some true := by decide +kernel
theorem AnnuityParts_pure (a0_0 a0_1 a0_2 a0_3 a1_0 a1_1 a2 : Int) (h0 : 0 ≤ a1_0) (h1 : a1_0 ≤ 255) (h2 : 0 ≤ a1_1) (h3 : a1_1 ≤ 255) :
    corebanklaw32_AnnuityParts.f a0_0 a0_1 a0_2 a0_3 a1_0 a1_1 a2 = some true := by
  unfold corebanklaw32_AnnuityParts.f annuity_Rest.f
  rw [i64_id a1_0 (by omega) (by omega), i64_id a1_1 (by omega) (by omega), Int.tmod_eq_emod_of_nonneg h0, Int.tmod_eq_emod_of_nonneg h2]
  have m0 : 0 ≤ a1_0 % 60 ∧ a1_0 % 60 < 60 := by omega
  have n0 : 0 ≤ a1_1 % 60 ∧ a1_1 % 60 < 60 := by omega
  generalize a1_0 % 60 = m at *
  generalize a1_1 % 60 = n at *
  rw [i64_id (m + n) (by omega) (by omega)]
  simp only [Option.bind_some, live_true]
  by_cases h : goodB a0_0 a0_1 a0_2 a0_3 = true ∧ 0 ≤ a2 ∧ a2 ≤ 1000000000000
  · obtain ⟨g, y0, y1⟩ := h
    obtain ⟨⟨p0, p1⟩, hc⟩ := good_ppm g
    rw [restR_of g m0.1 (by omega) y0 y1, restR_of g (by omega) (by omega) y0 y1, show (m + n).toNat = m.toNat + n.toNat by omega, restS_add]
    by_cases hm : (restS a0_1 a0_2 a0_3 a2 m.toNat a0_0).2 = true
    · obtain ⟨q0, q1⟩ := restS_range (ppm := a0_1) (every := a0_2) (mode := a0_3) (pay := a2) m.toNat p0 p1
      rw [if_pos hm, if_pos hm, if_pos rfl, restR_of (good_other g q0 q1) n0.1 (by omega) y0 y1, if_pos rfl, if_pos rfl]
    · rw [if_neg hm, if_neg hm]
      rfl
  · have e1 : restR a0_0 a0_1 a0_2 a0_3 m a2 = (0, 1) := if_neg (fun hc => h ⟨hc.1, hc.2.2.2⟩)
    have e2 : restR a0_0 a0_1 a0_2 a0_3 (m + n) a2 = (0, 1) := if_neg (fun hc => h ⟨hc.1, hc.2.2.2⟩)
    rw [e1, e2, if_neg (by decide), if_pos rfl]
end Go.Proofs.YtbifbnjkpmmedaaDoor.PureAnnuityParts
