import Derived.Test.YtkdhippoibjfkaaDoorQRm2
section
namespace Go.Proofs.YtkdhippoibjfkaaDoor.PR
open Go.RowKit Go.Proofs.YtkdhippoibjfkaaDoorW.PrintWords Go.Proofs.YtkdhippoibjfkaaDoorW.PrintLast
set_option linter.unusedVariables false
set_option linter.unusedSimpArgs false
/-- One digit of the division: where the guess is still too great. -/
theorem digit_gt (y yn1 yn0 u d q : Int) (hy : y = yn1 * 4294967296 + yn0) (hyp : 0 < y) :
  (q * yn0 > 4294967296 * (u - q * yn1) + d) ↔ (u * 4294967296 + d) / y < q := by
 have e : q * y = q * yn1 * 4294967296 + q * yn0 := by rw [hy, Int.mul_add, Int.mul_assoc]
 rw [Int.ediv_lt_iff_lt_mul hyp]
 constructor <;> intro h <;> omega
theorem digit_stop (yn0 q rh d : Int) (h0 : 0 ≤ yn0) (h1 : yn0 < 4294967296) (q1 : q ≤ 4294967296) (hr : 4294967296 ≤ rh) (hd : 0 ≤ d) (hq : 0 ≤ q) : q * yn0 ≤ 4294967296 * rh + d := by
 have : q * yn0 ≤ 4294967296 * yn0 := Int.mul_le_mul_of_nonneg_right q1 h0
 omega
theorem wrap_rem (u d t m : Int) (h : m = u * 4294967296 + d - t) (h0 : 0 ≤ m) (h1 : m < 18446744073709551616) :
  IntKind.u64.wrap ((IntKind.u64.wrap ((IntKind.u64.wrap (u * 4294967296)) + d)) - (IntKind.u64.wrap t)) = m := by
 rw [IntKind.wrap_u64, IntKind.wrap_u64, IntKind.wrap_u64, IntKind.wrap_u64]
 omega
theorem mul_small (a b : Int) (h0 : 0 ≤ a) (h1 : a < 4294967296) (h2 : 0 ≤ b) (h3 : b < 4294967296) : 0 ≤ a * b ∧ a * b < 18446744073709551616 := by
 refine ⟨Int.mul_nonneg h0 h2, ?_⟩
 have : a * b ≤ 4294967295 * b := Int.mul_le_mul_of_nonneg_right (by omega) h2
 omega
/-- The guess's test, as the program makes it. -/
theorem guess_gt {y yn1 yn0 u d q rh : Int} (hy : y = yn1 * 4294967296 + yn0) (hyp : 0 < y) (z0 : 0 ≤ yn0) (z1 : yn0 < 4294967296) (hrh : rh = u - q * yn1)
  (r0 : 0 ≤ rh) (r1 : rh < 4294967296) (d0 : 0 ≤ d) (d1 : d < 4294967296) (q0 : 0 ≤ q) (q1 : q < 4294967296) :
  decide ((IntKind.u64.wrap (q * yn0)) > (IntKind.u64.wrap ((IntKind.u64.wrap (4294967296 * rh)) + d))) = decide ((u * 4294967296 + d) / y < q) := by
 obtain ⟨m0, m1⟩ := mul_small q yn0 q0 q1 z0 z1
 rw [u64_id _ m0 m1, u64_id (4294967296 * rh) (by omega) (by omega), u64_id (4294967296 * rh + d) (by omega) (by omega), hrh]
 exact decide_eq_decide.mpr (digit_gt y yn1 yn0 u d q hy hyp)
theorem quo_rem (n y : Int) (hyp : 0 < y) : 0 ≤ n - n / y * y ∧ n - n / y * y < y := by
 have h1 := Int.emod_nonneg n (show y ≠ 0 by omega)
 have h2 := Int.emod_lt_of_pos n hyp
 have h3 := Int.emod_add_mul_ediv n y
 rw [Int.mul_comm y] at h3
 omega
theorem dv_l1 (y s yn1 yn0 d q1 u Q : Int) (hy : y = yn1 * 4294967296 + yn0) (z0 : 0 ≤ yn0) (z1 : yn0 < 4294967296) (y0 : 2147483648 ≤ yn1) (y1 : yn1 < 4294967296)
  (u0 : 0 ≤ u) (u1 : u < y) (d0 : 0 ≤ d) (d1 : d < 4294967296) (s0 : 0 ≤ s) (hQ : Q = (u * 4294967296 + d) / y) (q10 : 0 ≤ q1) (q11 : q1 < 4294967296) (n : Nat) :
  ∀ q rh : Int, (q - Q).toNat = n → Q ≤ q → rh = u - q * yn1 → 0 ≤ rh → rh < 4294967296 → q ≤ 4294967297 →
   ∃ k, bits_Div64P.l1 k y s yn1 yn0 d q1 rh u q = some (q1 * 4294967296 + Q, shr .u64 (u * 4294967296 + d - Q * y) s) := by
 have hyp : 0 < y := by omega
 have Q0 : 0 ≤ Q := by rw [hQ]; exact Int.ediv_nonneg (by omega) (by omega)
 have Q1 : Q < 4294967296 := by
  rw [hQ, Int.ediv_lt_iff_lt_mul hyp]; omega
 obtain ⟨m0, m1⟩ := quo_rem (u * 4294967296 + d) y hyp
 rw [← hQ] at m0 m1
 have fin : (some (IntKind.u64.wrap ((IntKind.u64.wrap (q1 * 4294967296)) + Q), shr .u64 (IntKind.u64.wrap ((IntKind.u64.wrap ((IntKind.u64.wrap (u * 4294967296)) + d)) - (IntKind.u64.wrap (Q * y)))) s)) = some (q1 * 4294967296 + Q, shr .u64 (u * 4294967296 + d - Q * y) s) := by
  rw [wrap_rem u d (Q * y) _ rfl m0 (by omega), u64_id (q1 * 4294967296) (by omega) (by omega), u64_id _ (by omega) (by omega)]
 have small : ∀ q, (u * 4294967296 + d) / y < q → Q + 1 ≤ q := fun q h => by omega
 induction n with
 | zero =>
  intro q rh hn hq hrh r0 r1 q2
  obtain rfl : q = Q := by omega
  refine ⟨2, ?_⟩
  simp only [bits_Div64P.l1]
  rw [if_neg (by omega), guess_gt hy hyp z0 z1 hrh r0 r1 d0 d1 Q0 Q1, ← hQ, decide_eq_false (by omega)]
  simp only [bits_Div64P.j4]
  rw [if_neg (by decide), if_pos s0, fin]
 | succ n ih =>
  intro q rh hn hq hrh r0 r1 q2
  have hQq : Q + 1 ≤ q := by omega
  have hrh' : rh + yn1 = u - (q - 1) * yn1 := by rw [hrh, Int.sub_mul, Int.one_mul]; omega
  have step : ∃ k, bits_Div64P.j4 k y s yn1 yn0 d q1 rh u q true = some (q1 * 4294967296 + Q, shr .u64 (u * 4294967296 + d - Q * y) s) := by
   by_cases hb : 4294967296 ≤ rh + yn1
   ·have hqQ : q - 1 = Q := by
     have h1 := digit_stop yn0 (q - 1) (rh + yn1) d z0 z1 (by omega) hb d0 (by omega)
     have h2 := digit_gt y yn1 yn0 u d (q - 1) hy hyp
     rw [← hrh', ← hQ] at h2
     have : ¬ Q < q - 1 := fun h => by have := h2.2 h; omega
     omega
    refine ⟨1, ?_⟩
    simp only [bits_Div64P.j4]
    rw [if_pos trivial, u64_id (rh + yn1) (by omega) (by omega), if_pos hb, if_pos s0, u64_id (q - 1) (by omega) (by omega), hqQ, fin]
   ·obtain ⟨k, hk⟩ := ih (q - 1) (rh + yn1) (by omega) (by omega) hrh' (by omega) (by omega) (by omega)
    refine ⟨k + 1, ?_⟩
    simp only [bits_Div64P.j4]
    rw [if_pos trivial, u64_id (rh + yn1) (by omega) (by omega), if_neg hb, u64_id (q - 1) (by omega) (by omega), hk]
  obtain ⟨k, hk⟩ := step
  refine ⟨k + 1, ?_⟩
  simp only [bits_Div64P.l1]
  by_cases hB : q ≥ 4294967296
  ·rw [if_pos hB, hk]
  ·rw [if_neg hB, guess_gt hy hyp z0 z1 hrh r0 r1 d0 d1 (by omega) (by omega), ← hQ, decide_eq_true (by omega), hk]
theorem dv_l0 (y s yn1 yn0 d u Q : Int) (d' : Int) (hy : y = yn1 * 4294967296 + yn0) (z0 : 0 ≤ yn0) (z1 : yn0 < 4294967296) (y0 : 2147483648 ≤ yn1) (y1 : yn1 < 4294967296)
  (u0 : 0 ≤ u) (u1 : u < y) (d0 : 0 ≤ d) (d1 : d < 4294967296) (e0 : 0 ≤ d') (e1 : d' < 4294967296) (s0 : 0 ≤ s) (hQ : Q = (u * 4294967296 + d) / y) (n : Nat) :
  ∀ q rh : Int, (q - Q).toNat = n → Q ≤ q → rh = u - q * yn1 → 0 ≤ rh → rh < 4294967296 → q ≤ 4294967297 →
   ∃ k, bits_Div64P.l0 k y s yn1 yn0 u d d' q rh = some (Q * 4294967296 + ((u * 4294967296 + d - Q * y) * 4294967296 + d') / y, shr .u64 ((u * 4294967296 + d - Q * y) * 4294967296 + d' - ((u * 4294967296 + d - Q * y) * 4294967296 + d') / y * y) s) := by
 have hyp : 0 < y := by omega
 have Q0 : 0 ≤ Q := by rw [hQ]; exact Int.ediv_nonneg (by omega) (by omega)
 have Q1 : Q < 4294967296 := by
  rw [hQ, Int.ediv_lt_iff_lt_mul hyp]; omega
 obtain ⟨m0, m1⟩ := quo_rem (u * 4294967296 + d) y hyp
 rw [← hQ] at m0 m1
 have fin : ∃ k, bits_Div64P.j2 k y s yn1 yn0 u d d' Q = some (Q * 4294967296 + ((u * 4294967296 + d - Q * y) * 4294967296 + d') / y, shr .u64 ((u * 4294967296 + d - Q * y) * 4294967296 + d' - ((u * 4294967296 + d - Q * y) * 4294967296 + d') / y * y) s) := by
  have hu := wrap_rem u d (Q * y) _ rfl m0 (by omega)
  have hv : IntKind.u64.wrap ((IntKind.u64.wrap ((IntKind.u64.wrap (u * 4294967296)) + d)) - (IntKind.u64.wrap (Q * y))) = u * 4294967296 + d - Q * y := hu
  generalize u * 4294967296 + d - Q * y = v at *
  have t0 : 0 ≤ v / yn1 := Int.ediv_nonneg m0 (by omega)
  have t1 : v / yn1 * yn1 ≤ v := by have := (quo_rem v yn1 (by omega)).1; omega
  have t2 : v - v / yn1 * yn1 < yn1 := (quo_rem v yn1 (by omega)).2
  have t3 : v / yn1 < 4294967298 := by
   rw [Int.ediv_lt_iff_lt_mul (by omega)]; omega
  have ht : IntKind.u64.wrap (Int.tdiv v yn1) = v / yn1 := by rw [Int.tdiv_eq_ediv_of_nonneg m0, u64_id _ t0 (by omega)]
  have hw : IntKind.u64.wrap (v - IntKind.u64.wrap (v / yn1 * yn1)) = v - v / yn1 * yn1 := by
   rw [u64_id (v / yn1 * yn1) (Int.mul_nonneg t0 (by omega)) (by omega), u64_id _ (by omega) (by omega)]
  have hle : (v * 4294967296 + d') / y ≤ v / yn1 := by
   have h1 : ¬ v / yn1 < (v * 4294967296 + d') / y := by
    intro h
    have h2 : (v / yn1 + 1) * y ≤ v * 4294967296 + d' := by
     have := (quo_rem (v * 4294967296 + d') y hyp).1
     have h3 : (v / yn1 + 1) * y ≤ (v * 4294967296 + d') / y * y := Int.mul_le_mul_of_nonneg_right (by omega) (by omega)
     omega
    have h4 : (v / yn1 + 1) * y = (v / yn1 * yn1 + yn1) * 4294967296 + (v / yn1 + 1) * yn0 := by rw [hy]; grind
    have h5 : 0 ≤ (v / yn1 + 1) * yn0 := Int.mul_nonneg (by omega) z0
    omega
   omega
  obtain ⟨k, hk⟩ := dv_l1 y s yn1 yn0 d' Q v _ hy z0 z1 y0 y1 m0 m1 e0 e1 s0 rfl Q0 Q1 _ (v / yn1) (v - v / yn1 * yn1) rfl hle rfl (by omega) (by omega) (by omega)
  refine ⟨k + 1, ?_⟩
  simp only [bits_Div64P.j2]
  rw [if_neg (by omega), hv, ht, hw, hk]
 induction n with
 | zero =>
  intro q rh hn hq hrh r0 r1 q2
  obtain rfl : q = Q := by omega
  obtain ⟨k, hk⟩ := fin
  refine ⟨k + 2, ?_⟩
  simp only [bits_Div64P.l0]
  rw [if_neg (by omega), guess_gt hy hyp z0 z1 hrh r0 r1 d0 d1 Q0 Q1, ← hQ, decide_eq_false (by omega)]
  simp only [bits_Div64P.j1]
  rw [if_neg (by decide), hk]
 | succ n ih =>
  intro q rh hn hq hrh r0 r1 q2
  have hQq : Q + 1 ≤ q := by omega
  have hrh' : rh + yn1 = u - (q - 1) * yn1 := by rw [hrh, Int.sub_mul, Int.one_mul]; omega
  have step : ∃ k, bits_Div64P.j1 k y s yn1 yn0 u d d' q rh true = some (Q * 4294967296 + ((u * 4294967296 + d - Q * y) * 4294967296 + d') / y, shr .u64 ((u * 4294967296 + d - Q * y) * 4294967296 + d' - ((u * 4294967296 + d - Q * y) * 4294967296 + d') / y * y) s) := by
   by_cases hb : 4294967296 ≤ rh + yn1
   ·have hqQ : q - 1 = Q := by
     have h1 := digit_stop yn0 (q - 1) (rh + yn1) d z0 z1 (by omega) hb d0 (by omega)
     have h2 := digit_gt y yn1 yn0 u d (q - 1) hy hyp
     rw [← hrh', ← hQ] at h2
     have : ¬ Q < q - 1 := fun h => by have := h2.2 h; omega
     omega
    obtain ⟨k, hk⟩ := fin
    refine ⟨k + 1, ?_⟩
    simp only [bits_Div64P.j1]
    rw [if_pos trivial, u64_id (rh + yn1) (by omega) (by omega), if_pos hb, u64_id (q - 1) (by omega) (by omega), hqQ, hk]
   ·obtain ⟨k, hk⟩ := ih (q - 1) (rh + yn1) (by omega) (by omega) hrh' (by omega) (by omega) (by omega)
    refine ⟨k + 1, ?_⟩
    simp only [bits_Div64P.j1]
    rw [if_pos trivial, u64_id (rh + yn1) (by omega) (by omega), if_neg hb, u64_id (q - 1) (by omega) (by omega), hk]
  obtain ⟨k, hk⟩ := step
  refine ⟨k + 1, ?_⟩
  simp only [bits_Div64P.l0]
  by_cases hB : q ≥ 4294967296
  ·rw [if_pos hB, hk]
  ·rw [if_neg hB, guess_gt hy hyp z0 z1 hrh r0 r1 d0 d1 (by omega) (by omega), ← hQ, decide_eq_true (by omega), hk]
/-- How many bits a number has. -/
theorem bitLen_bounds : ∀ x : Nat, x ≠ 0 → x < 2 ^ 64 → 1 ≤ Lib.bitLen x ∧ Lib.bitLen x ≤ 64 ∧ 2 ^ (Lib.bitLen x - 1) ≤ x ∧ x < 2 ^ Lib.bitLen x := by
 have key : ∀ n x : Nat, x ≠ 0 → x < 2 ^ (n + 1) → n < 64 → 1 ≤ Lib.bitLen x ∧ Lib.bitLen x ≤ n + 1 ∧ 2 ^ (Lib.bitLen x - 1) ≤ x ∧ x < 2 ^ Lib.bitLen x := by
  intro n
  induction n with
  | zero =>
   intro x h0 h1 _
   obtain rfl : x = 1 := by omega
   exact ⟨by decide, by decide, by decide, by decide⟩
  | succ n ih =>
   intro x h0 h1 hn
   have h64 : x < 2 ^ 64 := Nat.lt_of_lt_of_le h1 (Nat.pow_le_pow_right (by decide) (by omega))
   rw [Lib.bitLen_half x h0 h64]
   by_cases hx : x / 2 = 0
   ·rw [hx]
    obtain rfl : x = 1 := by omega
    exact ⟨by decide, by rw [show Lib.bitLen 0 = 0 from rfl]; omega, by decide, by decide⟩
   ·obtain ⟨a, b, c, d⟩ := ih (x / 2) hx (by rw [Nat.pow_succ] at h1; omega) (by omega)
    refine ⟨by omega, by omega, ?_, ?_⟩
    ·have e : 1 + Lib.bitLen (x / 2) - 1 = (Lib.bitLen (x / 2) - 1) + 1 := by omega
     rw [e, Nat.pow_succ]; omega
    ·rw [Nat.add_comm, Nat.pow_succ]; omega
 intro x h0 h1
 exact key 63 x h0 h1 (by decide)
def bits_Div64.f (a0 a1 a2 : Int) : Option (Int × Int) :=
 if 0 ≤ a0 ∧ a0 < a2 ∧ a2 ≤ 18446744073709551615 ∧ inU a1 then some ((a0 * 18446744073709551616 + a1) / a2, (a0 * 18446744073709551616 + a1) % a2) else none
theorem and32 (x : Int) (h0 : 0 ≤ x) (h1 : x < 18446744073709551616) : Go.bits .and .u64 x 4294967295 = x % 4294967296 :=
 bits_mask .u64 64 (by decide) (fun n a b => u64_id n a (by omega)) 32 (by decide) x h0 (by omega)
theorem digits_join (N p Y un32 un10 Q1 Q0 r1 r0 d1 d0 : Int) (h1 : N * p = un32 * 18446744073709551616 + un10) (hd : un10 = d1 * 4294967296 + d0)
  (e1 : un32 * 4294967296 + d1 = Q1 * Y + r1) (e0 : r1 * 4294967296 + d0 = Q0 * Y + r0) : N * p = (Q1 * 4294967296 + Q0) * Y + r0 := by
 have : (Q1 * 4294967296 + Q0) * Y = Q1 * Y * 4294967296 + Q0 * Y := by rw [Int.add_mul, Int.mul_right_comm]
 omega
theorem bits_Div64.eq {a b c : Int} {r : Int × Int} (h : bits_Div64.f a b c = some r) : ∃ k, bits_Div64P.f k a b c = some r := by
 unfold bits_Div64.f at h
 split at h
 ·rename_i q
  obtain ⟨a0, ac, c1, b0, b1⟩ := q
  injection h with h
  subst h
  unfold bits_Div64P.f
  simp only [if_neg (show ¬ c = 0 by omega), if_neg (show ¬ c ≤ a by omega)]
  by_cases ha : a = 0
  ·subst ha
   refine ⟨0, ?_⟩
   rw [if_pos rfl, Int.tdiv_eq_ediv_of_nonneg b0, Int.tmod_eq_emod_of_nonneg b0, u64_id _ (Int.ediv_nonneg b0 (by omega)) (by have := Int.ediv_le_self c b0; omega)]
   simp
  ·simp only [if_neg ha]
   obtain ⟨l1, l2, l3, l4⟩ := bitLen_bounds c.toNat (by omega) (by omega)
   have hlz : bits_LeadingZeros64.f c = some ((64 - Lib.bitLen c.toNat : Nat) : Int) := by
    unfold bits_LeadingZeros64.f bits_Len64.f
    rw [if_pos ⟨by omega, by omega⟩]
    simp only [Option.bind_some]
    congr 1
    unfold wrap64
    omega
   rw [hlz]
   simp only [Option.bind_some]
   generalize hs : 64 - Lib.bitLen c.toNat = s at *
   have hs63 : s ≤ 63 := by omega
   have hw : IntKind.u64.wrap (s : Int) = (s : Int) := u64_id _ (by omega) (by omega)
   have hw2 : IntKind.u64.wrap (64 - (s : Int)) = ((64 - s : Nat) : Int) := by rw [u64_id _ (by omega) (by omega)]; omega
   simp only [hw, hw2, if_pos (show 0 ≤ (s : Int) by omega), if_pos (show 0 ≤ ((64 - s : Nat) : Int) by omega)]
   -- the two powers
   have hpq : (2 : Int) ^ s * 2 ^ (64 - s) = 18446744073709551616 := by rw [← Int.pow_add, show s + (64 - s) = 64 by omega]; rfl
   have hp0 : 0 < (2 : Int) ^ s := Int.pow_pos (by decide)
   have hq0 : 0 < (2 : Int) ^ (64 - s) := Int.pow_pos (by decide)
   have hc1 : c * 2 ^ s < 18446744073709551616 := by
    have h1 : c < 2 ^ (64 - s) := by
     have : (c.toNat : Int) < ((2 ^ Lib.bitLen c.toNat : Nat) : Int) := by exact_mod_cast l4
     rw [show 64 - s = Lib.bitLen c.toNat by omega]
     push_cast at this
     omega
    have := Int.mul_lt_mul_of_pos_right h1 hp0
    rw [Int.mul_comm ((2 : Int) ^ (64 - s))] at this
    omega
   have hc0 : 9223372036854775808 ≤ c * 2 ^ s := by
    have h1 : (2 : Int) ^ (63 - s) ≤ c := by
     have : ((2 ^ (Lib.bitLen c.toNat - 1) : Nat) : Int) ≤ (c.toNat : Int) := by exact_mod_cast l3
     rw [show 63 - s = Lib.bitLen c.toNat - 1 by omega]
     push_cast at this
     omega
    have h2 := Int.mul_le_mul_of_nonneg_right h1 (Int.le_of_lt hp0)
    have h3 : (2 : Int) ^ (63 - s) * 2 ^ s = 9223372036854775808 := by rw [← Int.pow_add, show 63 - s + s = 63 by omega]; rfl
    omega
   have hsl : ∀ x : Int, shl .u64 x (s : Int) = (x * 2 ^ s) % 18446744073709551616 := by
    intro x
    unfold shl
    rw [IntKind.wrap_u64, show min (s : Int).toNat IntKind.u64.bits = s by simp [IntKind.bits]; omega]
   have hsr : shr .u64 b ((64 - s : Nat) : Int) = b / 2 ^ (64 - s) := by
    unfold shr
    rw [show min ((64 - s : Nat) : Int).toNat IntKind.u64.bits = 64 - s by simp [IntKind.bits]]
   have hsr2 : ∀ x : Int, shr .u64 x (s : Int) = x / 2 ^ s := by
    intro x
    unfold shr
    rw [show min (s : Int).toNat IntKind.u64.bits = s by simp [IntKind.bits]; omega]
   have hY : (c * 2 ^ s) % 18446744073709551616 = c * 2 ^ s := Int.emod_eq_of_lt (by omega) hc1
   have hA1 : a * 2 ^ s + 2 ^ s ≤ c * 2 ^ s := by
    have := Int.mul_le_mul_of_nonneg_right (show a + 1 ≤ c by omega) (Int.le_of_lt hp0)
    rw [Int.add_mul, Int.one_mul] at this
    exact this
   have hA0 : 0 ≤ a * 2 ^ s := Int.mul_nonneg a0 (Int.le_of_lt hp0)
   have hA : (a * 2 ^ s) % 18446744073709551616 = a * 2 ^ s := Int.emod_eq_of_lt hA0 (by omega)
   have hB0 : 0 ≤ b / 2 ^ (64 - s) := Int.ediv_nonneg b0 (Int.le_of_lt hq0)
   have hB1 : b / 2 ^ (64 - s) < 2 ^ s := by rw [Int.ediv_lt_iff_lt_mul hq0]; omega
   have hor : Go.bits .or .u64 (a * 2 ^ s) (b / 2 ^ (64 - s)) = a * 2 ^ s + b / 2 ^ (64 - s) :=
    bits_join .u64 64 (by decide) (fun n x y => u64_id n x (by omega)) s _ _ hA0 (by simp) (by omega) hB0 hB1 (by omega)
   -- what is divided, shifted
   have hNp : (a * 18446744073709551616 + b) * 2 ^ s = (a * 2 ^ s + b / 2 ^ (64 - s)) * 18446744073709551616 + (b * 2 ^ s) % 18446744073709551616 := by
    have h1 : (b * 2 ^ s) / 18446744073709551616 = b / 2 ^ (64 - s) := by
     rw [← hpq, Int.mul_comm b, Int.mul_ediv_mul_of_pos _ _ hp0]
    have h2 := Int.emod_add_mul_ediv (b * 2 ^ s) 18446744073709551616
    rw [h1] at h2
    rw [Int.add_mul, Int.mul_right_comm]
    omega
   simp only [hsl, hsr, hY, hA, hor]
   have hU1 : a * 2 ^ s + b / 2 ^ (64 - s) < c * 2 ^ s := by omega
   have hU0 : 0 ≤ a * 2 ^ s + b / 2 ^ (64 - s) := by omega
   have hL0 : 0 ≤ (b * 2 ^ s) % 18446744073709551616 := Int.emod_nonneg _ (by decide)
   have hL1 : (b * 2 ^ s) % 18446744073709551616 < 18446744073709551616 := Int.emod_lt_of_pos _ (by decide)
   have hcpos : 0 < c := by omega
   generalize hYg : c * 2 ^ s = Y at *
   generalize hug : a * 2 ^ s + b / 2 ^ (64 - s) = u at *
   generalize hlg : (b * 2 ^ s) % 18446744073709551616 = l at *
   rw [and32 Y (by omega) hc1, and32 l hL0 hL1]
   have hy : Y = Y / 4294967296 * 4294967296 + Y % 4294967296 := by omega
   have t0 : 0 ≤ u / (Y / 4294967296) := Int.ediv_nonneg hU0 (by omega)
   have t1 : u / (Y / 4294967296) * (Y / 4294967296) ≤ u := by have := (quo_rem u (Y / 4294967296) (by omega)).1; omega
   have t2 : u - u / (Y / 4294967296) * (Y / 4294967296) < Y / 4294967296 := (quo_rem u (Y / 4294967296) (by omega)).2
   have t3 : u / (Y / 4294967296) < 4294967298 := by
    rw [Int.ediv_lt_iff_lt_mul (by omega)]; omega
   have ht : IntKind.u64.wrap (Int.tdiv u (Y / 4294967296)) = u / (Y / 4294967296) := by rw [Int.tdiv_eq_ediv_of_nonneg hU0, u64_id _ t0 (by omega)]
   have hw3 : IntKind.u64.wrap (u - IntKind.u64.wrap (u / (Y / 4294967296) * (Y / 4294967296))) = u - u / (Y / 4294967296) * (Y / 4294967296) := by
    rw [u64_id (u / (Y / 4294967296) * (Y / 4294967296)) (Int.mul_nonneg t0 (by omega)) (by omega), u64_id _ (by omega) (by omega)]
   have hle : (u * 4294967296 + l / 4294967296) / Y ≤ u / (Y / 4294967296) := by
    have h1 : ¬ u / (Y / 4294967296) < (u * 4294967296 + l / 4294967296) / Y := by
     intro h
     have h2 : (u / (Y / 4294967296) + 1) * Y ≤ u * 4294967296 + l / 4294967296 := by
      have := (quo_rem (u * 4294967296 + l / 4294967296) Y (by omega)).1
      have h3 : (u / (Y / 4294967296) + 1) * Y ≤ (u * 4294967296 + l / 4294967296) / Y * Y := Int.mul_le_mul_of_nonneg_right (by omega) (by omega)
      omega
     have h4 : (u / (Y / 4294967296) + 1) * Y = (u / (Y / 4294967296) * (Y / 4294967296) + Y / 4294967296) * 4294967296 + (u / (Y / 4294967296) + 1) * (Y % 4294967296) := by
      have : (u / (Y / 4294967296) + 1) * Y = (u / (Y / 4294967296) + 1) * (Y / 4294967296 * 4294967296 + Y % 4294967296) := by rw [← hy]
      rw [this, Int.mul_add, ← Int.mul_assoc, Int.add_mul _ 1 (Y / 4294967296), Int.one_mul]
     have h5 : 0 ≤ (u / (Y / 4294967296) + 1) * (Y % 4294967296) := Int.mul_nonneg (by omega) (by omega)
     omega
    omega
   obtain ⟨k, hk⟩ := dv_l0 Y (s : Int) (Y / 4294967296) (Y % 4294967296) (l / 4294967296) u _ (l % 4294967296) hy (by omega) (by omega) (by omega) (by omega) hU0 hU1 (by omega) (by omega) (by omega) (by omega) (by omega) rfl _
    (u / (Y / 4294967296)) (u - u / (Y / 4294967296) * (Y / 4294967296)) rfl hle rfl (by omega) (by omega) (by omega)
   refine ⟨k, ?_⟩
   rw [if_neg (by omega), ht, hw3, hk, hsr2]
   -- the two digits together
   obtain ⟨m0, m1⟩ := quo_rem (u * 4294967296 + l / 4294967296) Y (by omega)
   generalize (u * 4294967296 + l / 4294967296) / Y = Q1 at *
   generalize hr1 : u * 4294967296 + l / 4294967296 - Q1 * Y = v1 at *
   obtain ⟨n0, n1⟩ := quo_rem (v1 * 4294967296 + l % 4294967296) Y (by omega)
   generalize (v1 * 4294967296 + l % 4294967296) / Y = Q0 at *
   generalize hr0 : v1 * 4294967296 + l % 4294967296 - Q0 * Y = v0 at *
   have hj := digits_join (a * 18446744073709551616 + b) (2 ^ s) Y u l Q1 Q0 v1 v0 (l / 4294967296) (l % 4294967296) hNp (by omega) (by omega) (by omega)
   rw [← hYg] at hj n1
   have hN : a * 18446744073709551616 + b = (Q1 * 4294967296 + Q0) * c + v0 / 2 ^ s ∧ v0 % 2 ^ s = 0 := by
    have h1 : ((a * 18446744073709551616 + b) - (Q1 * 4294967296 + Q0) * c) * 2 ^ s = v0 := by
     rw [Int.sub_mul, Int.mul_assoc (Q1 * 4294967296 + Q0), hj]; omega
    rw [← h1, Int.mul_ediv_cancel _ (by omega)]
    refine ⟨by omega, by simp⟩
   have hv0 : 0 ≤ v0 / 2 ^ s := Int.ediv_nonneg n0 (Int.le_of_lt hp0)
   have hv1 : v0 / 2 ^ s < c := by rw [Int.ediv_lt_iff_lt_mul hp0]; exact n1
   obtain ⟨f1, f2⟩ := div_of hcpos hN.1 hv0 hv1
   rw [f1, f2]
 ·cases h
theorem bits_Div64.calls (a0 : Int) (a1 : Int) (a2 : Int) (r1 : Int) (r2 : Int) (w : World) (h : bits_Div64.f a0 a1 a2 = some (r1, r2)) :
  Calls Tryd.prog 64 #[.int .u64 a0, .int .u64 a1, .int .u64 a2] w fun e w' => e = .returned (.tuple #[.int .u64 r1, .int .u64 r2]) ∧ Drawn0 w w' := by
 obtain ⟨k, h⟩ := bits_Div64.eq h
 exact bits_Div64P.calls k a0 a1 a2 r1 r2 w h
def wide_size_divideP.f (a0_0 : Int) (a0_1 : Int) (a1 : Int) : Option (Int × Int × Int) := if a1 = 0 then (none) else ((bits_Div64.f (Int.tmod a0_0 a1) a0_1 a1).bind fun bt111 => (some (IntKind.u64.wrap (Int.tdiv a0_0 a1), bt111.1, bt111.2)))
set_option maxHeartbeats 8000000 in
set_option maxRecDepth 100000 in
theorem wide_size_divideP.calls (a0_0 : Int) (a0_1 : Int) (a1 : Int) (r1 : Int) (r2 : Int) (r3 : Int) (w : World) (h : wide_size_divideP.f a0_0 a0_1 a1 = some (r1, r2, r3)) :
  Calls Tryd.prog 51 #[.agg #[.int .u64 a0_0, .int .u64 a0_1], .int .u64 a1] w fun e w' => e = .returned (.tuple #[.agg #[.int .u64 r1, .int .u64 r2], .int .u64 r3]) ∧ Below w.heap.size w w' := by
 have hu66 := Tryd.underlying66
 have HB := Aside0.mk (Below.refl w.heap.size w)
 have H : (if a1 = 0 then (none) else ((bits_Div64.f (Int.tmod a0_0 a1) a0_1 a1).bind fun bt111 => (some (IntKind.u64.wrap (Int.tdiv a0_0 a1), bt111.1, bt111.2)))) = some (r1, r2, r3) := h
 clear h
 by_cases c3 : a1 = 0
 ·rw [if_pos c3] at H
  exact absurd H (by simp)
 ·rw [if_neg c3] at H
  have c3b0 : (a1 == 0) = false := beq_eq_false_iff_ne.mpr c3
  have c3b1 : (a1 != 0) = true := bne_iff_ne.mpr c3
  replace H := Option.bind_eq_some_iff.mp H
  obtain ⟨⟨t111, t112⟩, A40, H⟩ := H
  replace H : (some (IntKind.u64.wrap (Int.tdiv a0_0 a1), t111, t112)) = some (r1, r2, r3) := H
  have A4 := Aside0.mk A40
  clear A40
  simp only [Option.some.injEq, Prod.mk.injEq] at H
  obtain ⟨rfl, rfl, rfl⟩ := H
  go_enter Tryd.func51, Tryd.ntmps51
  go_wp2_with (first | ((with_reducible refine gate_dst (N := 2) rfl ?_); refine be_ (N := 2) (cs := #[.int .u64 a0_0, .int .u64 a0_1]) (t := 66) ?_; intro gb109 hg w5 hbox hb; have n0_ := Aside0.mk (below_step (qb_ HB.out) hb); have n1_ := Aside0.mk (hbox); have n2_ := Aside0.mk (bz_ hg (qb_ HB.out) : w.heap.size ≤ gb109); have n3_ := n2_; clear HB; have HB := n0_; have BK109 := n1_; have GW109 := n2_; have GE109 := n3_; clear n0_ n1_ n2_ n3_; clear hb hbox hg) | ((with_reducible refine gate_dst (N := 4) rfl ?_); refine be_ (N := 4) (cs := #[.int .u64 0, .int .u64 0]) (t := 66) ?_; intro gb110 hg w6 hbox hb; have n0_ := Aside0.mk (blk_below (qk_ BK109.out) hb); have n1_ := Aside0.mk (below_step (qb1_ GE109.out HB.out) hb); have n2_ := Aside0.mk (hbox); have n3_ := Aside0.mk (bz_ hg (qb1_ GE109.out HB.out) : w.heap.size ≤ gb110); have n4_ := n3_; have n5_ := Aside0.mk (nl_ hg (qk_ BK109.out) : gb109 ≠ gb110); have n6_ := Aside0.mk (ng_ hg (qk_ BK109.out) : gb110 ≠ gb109); clear BK109; clear HB; have BK109 := n0_; have HB := n1_; have BK110 := n2_; have GW110 := n3_; have GE110 := n4_; have NB109_110 := n5_; have NB110_109 := n6_; clear n0_ n1_ n2_ n3_ n4_ n5_ n6_; clear hb hbox hg; have hnb7 := NB109_110.out; have hnc7 := NB110_109.out; have hcz8_0 : w6.cell? ⟨gb109, 0, none⟩ = some (.int .u64 a0_0) := (blk_cell BK109.out 0).trans rfl; have hcz8_1 : w6.cell? ⟨gb109, 1, none⟩ = some (.int .u64 a0_1) := (blk_cell BK109.out 1).trans rfl; have hfz8_0 := blk_frozen BK109.out 0; have hfz8_1 := blk_frozen BK109.out 1) | (go_at_call 64; (with_reducible refine (bits_Div64.calls (Int.tmod a0_0 a1) a0_1 a1 t111 t112 _ A4.out).mono ?_); rintro e w' ⟨rfl, ⟨nd, rfl⟩⟩; (try first | exact ⟨rfl, _, World.drewN_drewN _ _ _⟩ | exact ⟨rfl, _, Eq.trans (World.drewN_drewN _ _ _) (congrArg (World.drewN _) (Nat.add_assoc _ _ _))⟩); have hcz9_0 : w6.cell? ⟨gb110, 0, none⟩ = some (.int .u64 0) := (blk_cell BK110.out 0).trans rfl; have hcz9_1 : w6.cell? ⟨gb110, 1, none⟩ = some (.int .u64 0) := (blk_cell BK110.out 1).trans rfl; have hfz9_0 := blk_frozen BK110.out 0; have hfz9_1 := blk_frozen BK110.out 1))
  repeat (go_quiet (first | ((with_reducible refine gate_dst (N := 2) rfl ?_); refine be_ (N := 2) (cs := #[.int .u64 a0_0, .int .u64 a0_1]) (t := 66) ?_; intro gb109 hg w5 hbox hb; have n0_ := Aside0.mk (below_step (qb_ HB.out) hb); have n1_ := Aside0.mk (hbox); have n2_ := Aside0.mk (bz_ hg (qb_ HB.out) : w.heap.size ≤ gb109); have n3_ := n2_; clear HB; have HB := n0_; have BK109 := n1_; have GW109 := n2_; have GE109 := n3_; clear n0_ n1_ n2_ n3_; clear hb hbox hg) | ((with_reducible refine gate_dst (N := 4) rfl ?_); refine be_ (N := 4) (cs := #[.int .u64 0, .int .u64 0]) (t := 66) ?_; intro gb110 hg w6 hbox hb; have n0_ := Aside0.mk (blk_below (qk_ BK109.out) hb); have n1_ := Aside0.mk (below_step (qb1_ GE109.out HB.out) hb); have n2_ := Aside0.mk (hbox); have n3_ := Aside0.mk (bz_ hg (qb1_ GE109.out HB.out) : w.heap.size ≤ gb110); have n4_ := n3_; have n5_ := Aside0.mk (nl_ hg (qk_ BK109.out) : gb109 ≠ gb110); have n6_ := Aside0.mk (ng_ hg (qk_ BK109.out) : gb110 ≠ gb109); clear BK109; clear HB; have BK109 := n0_; have HB := n1_; have BK110 := n2_; have GW110 := n3_; have GE110 := n4_; have NB109_110 := n5_; have NB110_109 := n6_; clear n0_ n1_ n2_ n3_ n4_ n5_ n6_; clear hb hbox hg; have hnb7 := NB109_110.out; have hnc7 := NB110_109.out; have hcz8_0 : w6.cell? ⟨gb109, 0, none⟩ = some (.int .u64 a0_0) := (blk_cell BK109.out 0).trans rfl; have hcz8_1 : w6.cell? ⟨gb109, 1, none⟩ = some (.int .u64 a0_1) := (blk_cell BK109.out 1).trans rfl; have hfz8_0 := blk_frozen BK109.out 0; have hfz8_1 := blk_frozen BK109.out 1) | (go_at_call 64; (with_reducible refine (bits_Div64.calls (Int.tmod a0_0 a1) a0_1 a1 t111 t112 _ A4.out).mono ?_); rintro e w' ⟨rfl, ⟨nd, rfl⟩⟩; (try first | exact ⟨rfl, _, World.drewN_drewN _ _ _⟩ | exact ⟨rfl, _, Eq.trans (World.drewN_drewN _ _ _) (congrArg (World.drewN _) (Nat.add_assoc _ _ _))⟩); have hcz9_0 : w6.cell? ⟨gb110, 0, none⟩ = some (.int .u64 0) := (blk_cell BK110.out 0).trans rfl; have hcz9_1 : w6.cell? ⟨gb110, 1, none⟩ = some (.int .u64 0) := (blk_cell BK110.out 1).trans rfl; have hfz9_0 := blk_frozen BK110.out 0; have hfz9_1 := blk_frozen BK110.out 1)); try go_wp2_with (first | ((with_reducible refine gate_dst (N := 2) rfl ?_); refine be_ (N := 2) (cs := #[.int .u64 a0_0, .int .u64 a0_1]) (t := 66) ?_; intro gb109 hg w5 hbox hb; have n0_ := Aside0.mk (below_step (qb_ HB.out) hb); have n1_ := Aside0.mk (hbox); have n2_ := Aside0.mk (bz_ hg (qb_ HB.out) : w.heap.size ≤ gb109); have n3_ := n2_; clear HB; have HB := n0_; have BK109 := n1_; have GW109 := n2_; have GE109 := n3_; clear n0_ n1_ n2_ n3_; clear hb hbox hg) | ((with_reducible refine gate_dst (N := 4) rfl ?_); refine be_ (N := 4) (cs := #[.int .u64 0, .int .u64 0]) (t := 66) ?_; intro gb110 hg w6 hbox hb; have n0_ := Aside0.mk (blk_below (qk_ BK109.out) hb); have n1_ := Aside0.mk (below_step (qb1_ GE109.out HB.out) hb); have n2_ := Aside0.mk (hbox); have n3_ := Aside0.mk (bz_ hg (qb1_ GE109.out HB.out) : w.heap.size ≤ gb110); have n4_ := n3_; have n5_ := Aside0.mk (nl_ hg (qk_ BK109.out) : gb109 ≠ gb110); have n6_ := Aside0.mk (ng_ hg (qk_ BK109.out) : gb110 ≠ gb109); clear BK109; clear HB; have BK109 := n0_; have HB := n1_; have BK110 := n2_; have GW110 := n3_; have GE110 := n4_; have NB109_110 := n5_; have NB110_109 := n6_; clear n0_ n1_ n2_ n3_ n4_ n5_ n6_; clear hb hbox hg; have hnb7 := NB109_110.out; have hnc7 := NB110_109.out; have hcz8_0 : w6.cell? ⟨gb109, 0, none⟩ = some (.int .u64 a0_0) := (blk_cell BK109.out 0).trans rfl; have hcz8_1 : w6.cell? ⟨gb109, 1, none⟩ = some (.int .u64 a0_1) := (blk_cell BK109.out 1).trans rfl; have hfz8_0 := blk_frozen BK109.out 0; have hfz8_1 := blk_frozen BK109.out 1) | (go_at_call 64; (with_reducible refine (bits_Div64.calls (Int.tmod a0_0 a1) a0_1 a1 t111 t112 _ A4.out).mono ?_); rintro e w' ⟨rfl, ⟨nd, rfl⟩⟩; (try first | exact ⟨rfl, _, World.drewN_drewN _ _ _⟩ | exact ⟨rfl, _, Eq.trans (World.drewN_drewN _ _ _) (congrArg (World.drewN _) (Nat.add_assoc _ _ _))⟩); have hcz9_0 : w6.cell? ⟨gb110, 0, none⟩ = some (.int .u64 0) := (blk_cell BK110.out 0).trans rfl; have hcz9_1 : w6.cell? ⟨gb110, 1, none⟩ = some (.int .u64 0) := (blk_cell BK110.out 1).trans rfl; have hfz9_0 := blk_frozen BK110.out 0; have hfz9_1 := blk_frozen BK110.out 1)))
  refine bodyPost_ret (results_ct rfl _ _ gb110 66 #[.int .u64 (IntKind.u64.wrap (Int.tdiv a0_0 a1)), .int .u64 t111] (0, 0) _ rfl (qpp_ #[.int .u64 (IntKind.u64.wrap (Int.tdiv a0_0 a1)), .int .u64 0] 1 #[.int .u64 0, .int .u64 0] 0 BK110.out) Tryd.underlying66 rfl (by kernel_rfl)) rfl ?_
  exact ⟨qe_, qb2_ GE109.out GE110.out HB.out⟩
def wide_size_divide.f (a0_0 a0_1 a1 : Int) : Option (Int × Int × Int) :=
 if (inU a0_0 ∧ inU a0_1) ∧ 1 ≤ a1 ∧ a1 ≤ 18446744073709551615 then
  some (wv a0_0 a0_1 / a1 / 18446744073709551616, wv a0_0 a0_1 / a1 % 18446744073709551616, wv a0_0 a0_1 % a1) else none
theorem wide_size_divide.eq {a b c : Int} {r : Int × Int × Int} (h : wide_size_divide.f a b c = some r) : wide_size_divideP.f a b c = some r := by
 unfold wide_size_divide.f at h
 split at h
 ·rename_i q
  obtain ⟨⟨⟨a0, a1⟩, b0, b1⟩, c0, c1⟩ := q
  injection h with h
  subst h
  unfold wide_size_divideP.f bits_Div64.f
  have m0 := Int.emod_nonneg a (show c ≠ 0 by omega)
  have m1 := Int.emod_lt_of_pos a (show 0 < c by omega)
  have q0 : 0 ≤ a / c := Int.ediv_nonneg a0 (by omega)
  have q1 : a / c ≤ a := Int.ediv_le_self c a0
  rw [if_neg (by omega), Int.tmod_eq_emod_of_nonneg a0, Int.tdiv_eq_ediv_of_nonneg a0, u64_id _ q0 (by omega), if_pos ⟨m0, m1, by omega, b0, b1⟩]
  simp only [Option.bind_some]
  have d0 : 0 ≤ (a % c * 18446744073709551616 + b) / c := Int.ediv_nonneg (by omega) (by omega)
  have d1 : (a % c * 18446744073709551616 + b) / c < 18446744073709551616 := by rw [Int.ediv_lt_iff_lt_mul (by omega)]; omega
  have e0 := Int.emod_nonneg (a % c * 18446744073709551616 + b) (show c ≠ 0 by omega)
  have e1 := Int.emod_lt_of_pos (a % c * 18446744073709551616 + b) (show 0 < c by omega)
  have hm := Int.emod_add_mul_ediv (a % c * 18446744073709551616 + b) c
  have ha := Int.emod_add_mul_ediv a c
  have hw : wv a b = (a / c * 18446744073709551616 + (a % c * 18446744073709551616 + b) / c) * c + (a % c * 18446744073709551616 + b) % c := by
   have : (a / c * 18446744073709551616 + (a % c * 18446744073709551616 + b) / c) * c = c * (a / c) * 18446744073709551616 + c * ((a % c * 18446744073709551616 + b) / c) := by
    rw [Int.add_mul, Int.mul_right_comm, Int.mul_comm (a / c) c, Int.mul_comm _ c]
   unfold wv
   omega
  obtain ⟨f1, f2⟩ := div_of (by omega) hw e0 e1
  rw [f1, f2]
  congr 2
  ·omega
  ·congr 1; omega
 ·cases h
theorem wide_size_divide.calls (a0_0 : Int) (a0_1 : Int) (a1 : Int) (r1 : Int) (r2 : Int) (r3 : Int) (w : World) (h : wide_size_divide.f a0_0 a0_1 a1 = some (r1, r2, r3)) :
  Calls Tryd.prog 51 #[.agg #[.int .u64 a0_0, .int .u64 a0_1], .int .u64 a1] w fun e w' => e = .returned (.tuple #[.agg #[.int .u64 r1, .int .u64 r2], .int .u64 r3]) ∧ Below w.heap.size w w' := by
 have h := wide_size_divide.eq h
 exact wide_size_divideP.calls a0_0 a0_1 a1 r1 r2 r3 w h
end Go.Proofs.YtkdhippoibjfkaaDoor.PR
end
section
namespace Go.Proofs.YtkdhippoibjfkaaDoor.PR
open Go.RowKit Go.Proofs.YtkdhippoibjfkaaDoorW.PrintWords Go.Proofs.YtkdhippoibjfkaaDoorW.PrintLast
set_option linter.unusedVariables false
set_option linter.unusedSimpArgs false
namespace M64
theorem maskN (a : Nat) (ha : a < 18446744073709551616) : bits .and .u64 (a : Int) 4294967295 = ((a % 4294967296 : Nat) : Int) := by
 have h := bits_and_u64_nat a 4294967295 ha (by omega)
 have e : a &&& 4294967295 = a % 4294967296 := Nat.and_two_pow_sub_one_eq_mod a 32
 rw [e] at h
 exact h
theorem divN (a : Nat) : (a : Int) / 4294967296 = ((a / 4294967296 : Nat) : Int) := by omega
theorem mulN (a b : Nat) : (a : Int) * (b : Int) = ((a * b : Nat) : Int) := (Int.natCast_mul a b).symm
theorem addN (a b : Nat) : (a : Int) + (b : Int) = ((a + b : Nat) : Int) := (Int.natCast_add a b).symm
theorem wrapN (a : Nat) (ha : a < 18446744073709551616) : IntKind.u64.wrap (a : Int) = (a : Int) := by rw [IntKind.wrap_u64]; omega
theorem wrapM (a : Nat) : IntKind.u64.wrap (a : Int) = ((a % 18446744073709551616 : Nat) : Int) := by rw [IntKind.wrap_u64]; omega
end M64
set_option maxHeartbeats 1000000 in
theorem mul64_nat (x y : Nat) (hx : x < 18446744073709551616) (hy : y < 18446744073709551616) (w : World) :
  Calls Tryd.prog 56 #[.int .u64 x, .int .u64 y] w fun e w' => e = .returned (.tuple #[.int .u64 ((x * y / 18446744073709551616 : Nat) : Int), .int .u64 ((x * y % 18446744073709551616 : Nat) : Int)]) ∧ w' = w := by
 obtain ⟨bd, bt, bw, hhi⟩ := Lib.mul64_hi x y hx hy
 have ba := Lib.half_mul_le (a := x / 4294967296) (b := y / 4294967296) (by omega) (by omega)
 have bb := Lib.half_mul_le (a := x / 4294967296) (b := y % 4294967296) (by omega) (by omega)
 have bc := Lib.half_mul_le (a := x % 4294967296) (b := y / 4294967296) (by omega) (by omega)
 have ba' : x / 4294967296 * (y / 4294967296) < 18446744073709551616 := by omega
 have bb' : x / 4294967296 * (y % 4294967296) < 18446744073709551616 := by omega
 have bc' : x % 4294967296 * (y / 4294967296) < 18446744073709551616 := by omega
 have bh1 : x / 4294967296 * (y / 4294967296) + (x / 4294967296 * (y % 4294967296) + x % 4294967296 * (y % 4294967296) / 4294967296) / 4294967296 < 18446744073709551616 := by omega
 have bh : x / 4294967296 * (y / 4294967296) + (x / 4294967296 * (y % 4294967296) + x % 4294967296 * (y % 4294967296) / 4294967296) / 4294967296 + ((x / 4294967296 * (y % 4294967296) + x % 4294967296 * (y % 4294967296) / 4294967296) % 4294967296 + x % 4294967296 * (y / 4294967296)) / 4294967296 < 18446744073709551616 := by omega
 go_enter Tryd.func56, Tryd.ntmps56
 go_wp2
 simp only [M64.maskN x hx, M64.maskN y hy, M64.divN, M64.mulN, M64.addN, M64.wrapN _ bd, M64.wrapN _ bb', M64.wrapN _ bt, M64.maskN _ bt, M64.wrapN _ bc', M64.wrapN _ bw, M64.wrapN _ ba', M64.wrapN _ bh1, M64.wrapN _ bh, M64.wrapM (x * y)]
 rw [hhi]
 go_ret2
 exact ⟨rfl, rfl⟩
def bits_Mul64.f (a0 a1 : Int) : Option (Int × Int) :=
 if inU a0 ∧ inU a1 then some (a0 * a1 / 18446744073709551616, a0 * a1 % 18446744073709551616) else none
theorem bits_Mul64.calls (a0 a1 r1 r2 : Int) (w : World) (h : bits_Mul64.f a0 a1 = some (r1, r2)) :
  Calls Tryd.prog 56 #[.int .u64 a0, .int .u64 a1] w fun e w' => e = .returned (.tuple #[.int .u64 r1, .int .u64 r2]) ∧ Below w.heap.size w w' := by
 unfold bits_Mul64.f at h
 split at h
 ·rename_i c
  obtain ⟨⟨c0, c1⟩, c2, c3⟩ := c
  injection h with h
  injection h with h1 h2
  subst h1 h2
  obtain ⟨x, rfl⟩ := Int.eq_ofNat_of_zero_le c0
  obtain ⟨y, rfl⟩ := Int.eq_ofNat_of_zero_le c2
  refine (mul64_nat x y (by omega) (by omega) w).mono ?_
  rintro e w' ⟨rfl, rfl⟩
  exact ⟨by rw [Int.natCast_ediv, Int.natCast_emod, Int.natCast_mul]; rfl, Below.refl _ _⟩
 ·cases h
def wide_size_timesP.f (a0_0 : Int) (a0_1 : Int) (a1 : Int) (a2 : Int) : Option (Int × Int × Bool) := (bits_Mul64.f a0_1 a1).bind fun bt115 => ((bits_Mul64.f a0_0 a1).bind fun bt117 => (if bt117.1 = 0 then (some (addLo bt117.2 (IntKind.u64.wrap (bt115.1 + (addHi bt115.2 a2))), addLo bt115.2 a2, ((addHi bt117.2 (IntKind.u64.wrap (bt115.1 + (addHi bt115.2 a2)))) == 0))) else (some (addLo bt117.2 (IntKind.u64.wrap (bt115.1 + (addHi bt115.2 a2))), addLo bt115.2 a2, false))))
set_option maxHeartbeats 8000000 in
set_option maxRecDepth 100000 in
theorem wide_size_timesP.calls (a0_0 : Int) (a0_1 : Int) (a1 : Int) (a2 : Int) (r1 : Int) (r2 : Int) (r3 : Bool) (w : World) (h : wide_size_timesP.f a0_0 a0_1 a1 a2 = some (r1, r2, r3)) :
  Calls Tryd.prog 52 #[.agg #[.int .u64 a0_0, .int .u64 a0_1], .int .u64 a1, .int .u64 a2] w fun e w' => e = .returned (.tuple #[.agg #[.int .u64 r1, .int .u64 r2], .bool r3]) ∧ Below w.heap.size w w' := by
 have hu66 := Tryd.underlying66
 have hadd64 := add64_run
 have HB := Aside0.mk (Below.refl w.heap.size w)
 have H : ((bits_Mul64.f a0_1 a1).bind fun bt115 => ((bits_Mul64.f a0_0 a1).bind fun bt117 => (if bt117.1 = 0 then (some (addLo bt117.2 (IntKind.u64.wrap (bt115.1 + (addHi bt115.2 a2))), addLo bt115.2 a2, ((addHi bt117.2 (IntKind.u64.wrap (bt115.1 + (addHi bt115.2 a2)))) == 0))) else (some (addLo bt117.2 (IntKind.u64.wrap (bt115.1 + (addHi bt115.2 a2))), addLo bt115.2 a2, false))))) = some (r1, r2, r3) := h
 clear h
 replace H := Option.bind_eq_some_iff.mp H
 obtain ⟨⟨t115, t116⟩, A40, H⟩ := H
 replace H : ((bits_Mul64.f a0_0 a1).bind fun bt117 => (if bt117.1 = 0 then (some (addLo bt117.2 (IntKind.u64.wrap (t115 + (addHi t116 a2))), addLo t116 a2, ((addHi bt117.2 (IntKind.u64.wrap (t115 + (addHi t116 a2)))) == 0))) else (some (addLo bt117.2 (IntKind.u64.wrap (t115 + (addHi t116 a2))), addLo t116 a2, false)))) = some (r1, r2, r3) := H
 have A4 := Aside0.mk A40
 clear A40
 replace H := Option.bind_eq_some_iff.mp H
 obtain ⟨⟨t117, t118⟩, A50, H⟩ := H
 replace H : (if t117 = 0 then (some (addLo t118 (IntKind.u64.wrap (t115 + (addHi t116 a2))), addLo t116 a2, ((addHi t118 (IntKind.u64.wrap (t115 + (addHi t116 a2)))) == 0))) else (some (addLo t118 (IntKind.u64.wrap (t115 + (addHi t116 a2))), addLo t116 a2, false))) = some (r1, r2, r3) := H
 have A5 := Aside0.mk A50
 clear A50
 by_cases c6 : t117 = 0
 ·rw [if_pos c6] at H
  have c6b0 : (t117 == 0) = true := beq_iff_eq.mpr c6
  have c6b1 : (t117 != 0) = false := bne_eq_false_iff_eq.mpr c6
  clear c6
  simp only [Option.some.injEq, Prod.mk.injEq] at H
  obtain ⟨rfl, rfl, rfl⟩ := H
  go_enter Tryd.func52, Tryd.ntmps52
  go_wp2_with (first | ((with_reducible refine gate_dst (N := 3) rfl ?_); refine be_ (N := 3) (cs := #[.int .u64 a0_0, .int .u64 a0_1]) (t := 66) ?_; intro gb113 hg w7 hbox hb; have n0_ := Aside0.mk (below_step (qb_ HB.out) hb); have n1_ := Aside0.mk (hbox); have n2_ := Aside0.mk (bz_ hg (qb_ HB.out) : w.heap.size ≤ gb113); have n3_ := n2_; clear HB; have HB := n0_; have BK113 := n1_; have GW113 := n2_; have GE113 := n3_; clear n0_ n1_ n2_ n3_; clear hb hbox hg) | ((with_reducible refine gate_dst (N := 6) rfl ?_); refine be_ (N := 6) (cs := #[.int .u64 0, .int .u64 0]) (t := 66) ?_; intro gb114 hg w8 hbox hb; have n0_ := Aside0.mk (blk_below (qk_ BK113.out) hb); have n1_ := Aside0.mk (below_step (qb1_ GE113.out HB.out) hb); have n2_ := Aside0.mk (hbox); have n3_ := Aside0.mk (bz_ hg (qb1_ GE113.out HB.out) : w.heap.size ≤ gb114); have n4_ := n3_; have n5_ := Aside0.mk (nl_ hg (qk_ BK113.out) : gb113 ≠ gb114); have n6_ := Aside0.mk (ng_ hg (qk_ BK113.out) : gb114 ≠ gb113); clear BK113; clear HB; have BK113 := n0_; have HB := n1_; have BK114 := n2_; have GW114 := n3_; have GE114 := n4_; have NB113_114 := n5_; have NB114_113 := n6_; clear n0_ n1_ n2_ n3_ n4_ n5_ n6_; clear hb hbox hg; have hnb9 := NB113_114.out; have hnc9 := NB114_113.out; have hcz10_0 : w8.cell? ⟨gb113, 0, none⟩ = some (.int .u64 a0_0) := (blk_cell BK113.out 0).trans rfl; have hcz10_1 : w8.cell? ⟨gb113, 1, none⟩ = some (.int .u64 a0_1) := (blk_cell BK113.out 1).trans rfl; have hfz10_0 := blk_frozen BK113.out 0; have hfz10_1 := blk_frozen BK113.out 1) | ((with_reducible refine gate_callee (f := 56) rfl ?_); refine goesL_ (some 17) rfl rfl Tryd.func56 (by kernel_rfl) rfl #[.int .u64 a0_1, .int .u64 a1] rfl ql_ ?_; (with_reducible refine (bits_Mul64.calls a0_1 a1 t115 t116 _ A4.out).mono ?_); rintro e w11 ⟨rfl, hb⟩; refine ⟨_, rfl, ?_⟩; have n0_ := Aside0.mk (blk_below (qk_ BK113.out) hb); have n1_ := Aside0.mk (blk_below (qk_ BK114.out) hb); have n2_ := Aside0.mk (below_step (qb2_ GE113.out GE114.out HB.out) hb); clear BK113; clear BK114; clear HB; have BK113 := n0_; have BK114 := n1_; have HB := n2_; clear n0_ n1_ n2_; (try clear hb); (try clear hb2); (try clear hk); (try clear hi); have hcz12_0 : w11.cell? ⟨gb113, 0, none⟩ = some (.int .u64 a0_0) := (blk_cell BK113.out 0).trans rfl; have hcz12_1 : w11.cell? ⟨gb113, 1, none⟩ = some (.int .u64 a0_1) := (blk_cell BK113.out 1).trans rfl; have hfz12_0 := blk_frozen BK113.out 0; have hfz12_1 := blk_frozen BK113.out 1) | ((with_reducible refine gate_callee (f := 56) rfl ?_); refine goesL_ (some 24) rfl rfl Tryd.func56 (by kernel_rfl) rfl #[.int .u64 a0_0, .int .u64 a1] rfl ql_ ?_; (with_reducible refine (bits_Mul64.calls a0_0 a1 t117 t118 _ A5.out).mono ?_); rintro e w13 ⟨rfl, hb⟩; refine ⟨_, rfl, ?_⟩; have n0_ := Aside0.mk (blk_below (qk_ BK113.out) hb); have n1_ := Aside0.mk (blk_below (qk_ BK114.out) hb); have n2_ := Aside0.mk (below_step (qb2_ GE113.out GE114.out HB.out) hb); clear BK113; clear BK114; clear HB; have BK113 := n0_; have BK114 := n1_; have HB := n2_; clear n0_ n1_ n2_; (try clear hb); (try clear hb2); (try clear hk); (try clear hi); have hcz14_0 : w13.cell? ⟨gb114, 0, none⟩ = some (.int .u64 0) := (blk_cell BK114.out 0).trans rfl; have hcz14_1 : w13.cell? ⟨gb114, 1, none⟩ = some (.int .u64 0) := (blk_cell BK114.out 1).trans rfl; have hfz14_0 := blk_frozen BK114.out 0; have hfz14_1 := blk_frozen BK114.out 1))
  refine bodyPost_ret (results_ct rfl _ _ gb114 66 #[.int .u64 (addLo t118 (IntKind.u64.wrap (t115 + (addHi t116 a2)))), .int .u64 (addLo t116 a2)] (0, 0) _ rfl (qpp_ #[.int .u64 (addLo t118 (IntKind.u64.wrap (t115 + (addHi t116 a2)))), .int .u64 0] 1 #[.int .u64 0, .int .u64 0] 0 BK114.out) Tryd.underlying66 rfl (by kernel_rfl)) rfl ?_
  exact ⟨qe_, qb2_ GE113.out GE114.out HB.out⟩
 ·rw [if_neg c6] at H
  have c6b0 : (t117 == 0) = false := beq_eq_false_iff_ne.mpr c6
  have c6b1 : (t117 != 0) = true := bne_iff_ne.mpr c6
  simp only [Option.some.injEq, Prod.mk.injEq] at H
  obtain ⟨rfl, rfl, rfl⟩ := H
  go_enter Tryd.func52, Tryd.ntmps52
  go_wp2_with (first | ((with_reducible refine gate_dst (N := 3) rfl ?_); refine be_ (N := 3) (cs := #[.int .u64 a0_0, .int .u64 a0_1]) (t := 66) ?_; intro gb113 hg w15 hbox hb; have n0_ := Aside0.mk (below_step (qb_ HB.out) hb); have n1_ := Aside0.mk (hbox); have n2_ := Aside0.mk (bz_ hg (qb_ HB.out) : w.heap.size ≤ gb113); have n3_ := n2_; clear HB; have HB := n0_; have BK113 := n1_; have GW113 := n2_; have GE113 := n3_; clear n0_ n1_ n2_ n3_; clear hb hbox hg) | ((with_reducible refine gate_dst (N := 6) rfl ?_); refine be_ (N := 6) (cs := #[.int .u64 0, .int .u64 0]) (t := 66) ?_; intro gb114 hg w16 hbox hb; have n0_ := Aside0.mk (blk_below (qk_ BK113.out) hb); have n1_ := Aside0.mk (below_step (qb1_ GE113.out HB.out) hb); have n2_ := Aside0.mk (hbox); have n3_ := Aside0.mk (bz_ hg (qb1_ GE113.out HB.out) : w.heap.size ≤ gb114); have n4_ := n3_; have n5_ := Aside0.mk (nl_ hg (qk_ BK113.out) : gb113 ≠ gb114); have n6_ := Aside0.mk (ng_ hg (qk_ BK113.out) : gb114 ≠ gb113); clear BK113; clear HB; have BK113 := n0_; have HB := n1_; have BK114 := n2_; have GW114 := n3_; have GE114 := n4_; have NB113_114 := n5_; have NB114_113 := n6_; clear n0_ n1_ n2_ n3_ n4_ n5_ n6_; clear hb hbox hg; have hnb17 := NB113_114.out; have hnc17 := NB114_113.out; have hcz18_0 : w16.cell? ⟨gb113, 0, none⟩ = some (.int .u64 a0_0) := (blk_cell BK113.out 0).trans rfl; have hcz18_1 : w16.cell? ⟨gb113, 1, none⟩ = some (.int .u64 a0_1) := (blk_cell BK113.out 1).trans rfl; have hfz18_0 := blk_frozen BK113.out 0; have hfz18_1 := blk_frozen BK113.out 1) | ((with_reducible refine gate_callee (f := 56) rfl ?_); refine goesL_ (some 17) rfl rfl Tryd.func56 (by kernel_rfl) rfl #[.int .u64 a0_1, .int .u64 a1] rfl ql_ ?_; (with_reducible refine (bits_Mul64.calls a0_1 a1 t115 t116 _ A4.out).mono ?_); rintro e w19 ⟨rfl, hb⟩; refine ⟨_, rfl, ?_⟩; have n0_ := Aside0.mk (blk_below (qk_ BK113.out) hb); have n1_ := Aside0.mk (blk_below (qk_ BK114.out) hb); have n2_ := Aside0.mk (below_step (qb2_ GE113.out GE114.out HB.out) hb); clear BK113; clear BK114; clear HB; have BK113 := n0_; have BK114 := n1_; have HB := n2_; clear n0_ n1_ n2_; (try clear hb); (try clear hb2); (try clear hk); (try clear hi); have hcz20_0 : w19.cell? ⟨gb113, 0, none⟩ = some (.int .u64 a0_0) := (blk_cell BK113.out 0).trans rfl; have hcz20_1 : w19.cell? ⟨gb113, 1, none⟩ = some (.int .u64 a0_1) := (blk_cell BK113.out 1).trans rfl; have hfz20_0 := blk_frozen BK113.out 0; have hfz20_1 := blk_frozen BK113.out 1) | ((with_reducible refine gate_callee (f := 56) rfl ?_); refine goesL_ (some 24) rfl rfl Tryd.func56 (by kernel_rfl) rfl #[.int .u64 a0_0, .int .u64 a1] rfl ql_ ?_; (with_reducible refine (bits_Mul64.calls a0_0 a1 t117 t118 _ A5.out).mono ?_); rintro e w21 ⟨rfl, hb⟩; refine ⟨_, rfl, ?_⟩; have n0_ := Aside0.mk (blk_below (qk_ BK113.out) hb); have n1_ := Aside0.mk (blk_below (qk_ BK114.out) hb); have n2_ := Aside0.mk (below_step (qb2_ GE113.out GE114.out HB.out) hb); clear BK113; clear BK114; clear HB; have BK113 := n0_; have BK114 := n1_; have HB := n2_; clear n0_ n1_ n2_; (try clear hb); (try clear hb2); (try clear hk); (try clear hi); have hcz22_0 : w21.cell? ⟨gb114, 0, none⟩ = some (.int .u64 0) := (blk_cell BK114.out 0).trans rfl; have hcz22_1 : w21.cell? ⟨gb114, 1, none⟩ = some (.int .u64 0) := (blk_cell BK114.out 1).trans rfl; have hfz22_0 := blk_frozen BK114.out 0; have hfz22_1 := blk_frozen BK114.out 1))
  refine bodyPost_ret (results_ct rfl _ _ gb114 66 #[.int .u64 (addLo t118 (IntKind.u64.wrap (t115 + (addHi t116 a2)))), .int .u64 (addLo t116 a2)] (0, 0) _ rfl (qpp_ #[.int .u64 (addLo t118 (IntKind.u64.wrap (t115 + (addHi t116 a2)))), .int .u64 0] 1 #[.int .u64 0, .int .u64 0] 0 BK114.out) Tryd.underlying66 rfl (by kernel_rfl)) rfl ?_
  exact ⟨qe_, qb2_ GE113.out GE114.out HB.out⟩
def wide_size_times.f (a0_0 a0_1 a1 a2 : Int) : Option (Int × Int × Bool) :=
 if (inU a0_0 ∧ inU a0_1) ∧ inU a1 ∧ inU a2 then
  some ((wv a0_0 a0_1 * a1 + a2) / 18446744073709551616 % 18446744073709551616, (wv a0_0 a0_1 * a1 + a2) % 18446744073709551616, decide (wv a0_0 a0_1 * a1 + a2 < 340282366920938463463374607431768211456)) else none
theorem wide_size_times.eq {a b c d : Int} {r : Int × Int × Bool} (h : wide_size_times.f a b c d = some r) : wide_size_timesP.f a b c d = some r := by
 unfold wide_size_times.f at h
 split at h
 ·rename_i q
  obtain ⟨⟨⟨a0, a1⟩, b0, b1⟩, ⟨c0, c1⟩, d0, d1⟩ := q
  injection h with h
  subst h
  unfold wide_size_timesP.f bits_Mul64.f
  rw [if_pos ⟨⟨b0, b1⟩, c0, c1⟩, if_pos ⟨⟨a0, a1⟩, c0, c1⟩]
  simp only [Option.bind_some]
  have hv : wv a b * c = a * c * 18446744073709551616 + b * c := by unfold wv; rw [Int.add_mul, Int.mul_right_comm]
  have p0 : 0 ≤ a * c := Int.mul_nonneg a0 c0
  have q0 : 0 ≤ b * c := Int.mul_nonneg b0 c0
  have p1 : a * c ≤ 18446744073709551615 * 18446744073709551615 := Int.mul_le_mul a1 c1 c0 (by decide)
  have q1 : b * c ≤ 18446744073709551615 * 18446744073709551615 := Int.mul_le_mul b1 c1 c0 (by decide)
  rw [hv]
  generalize a * c = x at *
  generalize b * c = y at *
  have l1 : addLo (y % 18446744073709551616) d = (y + d) % 18446744073709551616 := by unfold addLo; omega
  have l2 : addHi (y % 18446744073709551616) d = (y % 18446744073709551616 + d) / 18446744073709551616 := by unfold addHi; omega
  have l3 : IntKind.u64.wrap (y / 18446744073709551616 + addHi (y % 18446744073709551616) d) = (y + d) / 18446744073709551616 := by rw [l2, IntKind.wrap_u64]; omega
  rw [l3, l1]
  have l4 : addLo (x % 18446744073709551616) ((y + d) / 18446744073709551616) = (x * 18446744073709551616 + y + d) / 18446744073709551616 % 18446744073709551616 := by unfold addLo; omega
  have l5 : addHi (x % 18446744073709551616) ((y + d) / 18446744073709551616) = (x % 18446744073709551616 + (y + d) / 18446744073709551616) / 18446744073709551616 := by unfold addHi; omega
  rw [l4, l5]
  have l6 : (y + d) % 18446744073709551616 = (x * 18446744073709551616 + y + d) % 18446744073709551616 := by omega
  rw [l6]
  split
  ·congr 3
   rw [Bool.eq_iff_iff]
   simp only [beq_iff_eq, decide_eq_true_eq]
   omega
  ·congr 3
   symm
   apply decide_eq_false
   omega
 ·cases h
theorem wide_size_times.calls (a0_0 : Int) (a0_1 : Int) (a1 : Int) (a2 : Int) (r1 : Int) (r2 : Int) (r3 : Bool) (w : World) (h : wide_size_times.f a0_0 a0_1 a1 a2 = some (r1, r2, r3)) :
  Calls Tryd.prog 52 #[.agg #[.int .u64 a0_0, .int .u64 a0_1], .int .u64 a1, .int .u64 a2] w fun e w' => e = .returned (.tuple #[.agg #[.int .u64 r1, .int .u64 r2], .bool r3]) ∧ Below w.heap.size w w' := by
 have h := wide_size_times.eq h
 exact wide_size_timesP.calls a0_0 a0_1 a1 a2 r1 r2 r3 w h
def wide_size_signedP.j0 : Nat → Bool → Bool → Int → Int → Option (Int × Int × Int)
 | 0, _, _, _, _ => none
 | k + 1, x1, x23, x120000, x120001 => if x23 = true then (some (0, 0, 6)) else (if x1 = true then ((wide_negate.f (wrap64 (x120000)) x120001).bind fun bt122 => (some (bt122.1, bt122.2, 0))) else (some (wrap64 (x120000), x120001, 0)))
def wide_size_signedP.f (k : Nat) (a0_0 : Int) (a0_1 : Int) (a1 : Bool) : Option (Int × Int × Int) := if a0_0 > 9223372036854775808 then (wide_size_signedP.j0 k a1 true a0_0 a0_1) else (if a0_0 = 9223372036854775808 then (if a1 = true then (wide_size_signedP.j0 k a1 (decide (a0_1 > 0)) a0_0 a0_1) else (wide_size_signedP.j0 k a1 true a0_0 a0_1)) else (wide_size_signedP.j0 k a1 false a0_0 a0_1))
theorem wide_size_signedP.mono_l : ∀ k, (∀ y0 y1 y2 y3, LeO (wide_size_signedP.j0 k y0 y1 y2 y3) (wide_size_signedP.j0 (k + 1) y0 y1 y2 y3))
 | 0 => fun _ _ _ _ r h => by simp [wide_size_signedP.j0] at h
 | k + 1 => by
  have ih0 := wide_size_signedP.mono_l k
  ·intro y0 y1 y2 y3
   unfold wide_size_signedP.j0
   repeat' first
   | (with_reducible exact ih0 _ _ _ _)
   | (with_reducible exact LeO.refl _)
   | (with_reducible exact LeO.none _)
   | (with_reducible refine LeO.ite ?_ ?_)
   | (with_reducible refine LeO.bind ?_ (fun _ => ?_))
   | exact ih0 _ _ _ _
   | exact LeO.none _
   | refine LeO.ite ?_ ?_
   | refine LeO.bind ?_ (fun _ => ?_)
theorem wide_size_signedP.mono : ∀ a0 a1 a2 k, LeO (wide_size_signedP.f k a0 a1 a2) (wide_size_signedP.f (k + 1) a0 a1 a2) := by
 intro a0 a1 a2 k
 have ih0 := wide_size_signedP.mono_l k
 unfold wide_size_signedP.f
 repeat' first
   | (with_reducible exact ih0 _ _ _ _)
   | (with_reducible exact LeO.refl _)
   | (with_reducible exact LeO.none _)
   | (with_reducible refine LeO.ite ?_ ?_)
   | (with_reducible refine LeO.bind ?_ (fun _ => ?_))
   | exact ih0 _ _ _ _
   | exact LeO.none _
   | refine LeO.ite ?_ ?_
   | refine LeO.bind ?_ (fun _ => ?_)
set_option maxHeartbeats 8000000 in
set_option maxRecDepth 100000 in
theorem wide_size_signedP.calls (k : Nat) (a0_0 : Int) (a0_1 : Int) (a1 : Bool) (r1 : Int) (r2 : Int) (r3 : Int) (w : World) (h : wide_size_signedP.f k a0_0 a0_1 a1 = some (r1, r2, r3)) :
  Calls Tryd.prog 53 #[.agg #[.int .u64 a0_0, .int .u64 a0_1], .bool a1] w fun e w' => e = .returned (.tuple #[.agg #[.int .i64 r1, .int .u64 r2], .int .i64 r3]) ∧ Below w.heap.size w w' := by
 have hu66 := Tryd.underlying66
 have hu24 := Tryd.underlying24
 have HB := Aside0.mk (Below.refl w.heap.size w)
 have H : (if a0_0 > 9223372036854775808 then (wide_size_signedP.j0 k a1 true a0_0 a0_1) else (if a0_0 = 9223372036854775808 then (if a1 = true then (wide_size_signedP.j0 k a1 (decide (a0_1 > 0)) a0_0 a0_1) else (wide_size_signedP.j0 k a1 true a0_0 a0_1)) else (wide_size_signedP.j0 k a1 false a0_0 a0_1))) = some (r1, r2, r3) := h
 clear h
 have HC3 := Aside0.mk H
 clear H
 go_enter Tryd.func53, Tryd.ntmps53
 go_upto_region 1 with (first | ((with_reducible refine gate_dst (N := 2) rfl ?_); refine be_ (N := 2) (cs := #[.int .u64 a0_0, .int .u64 a0_1]) (t := 66) ?_; intro gb119 hg w4 hbox hb; have n0_ := Aside0.mk (below_step (qb_ HB.out) hb); have n1_ := Aside0.mk (hbox); have n2_ := Aside0.mk (bz_ hg (qb_ HB.out) : w.heap.size ≤ gb119); have n3_ := n2_; clear HB; have HB := n0_; have BK119 := n1_; have GW119 := n2_; have GE119 := n3_; clear n0_ n1_ n2_ n3_; clear hb hbox hg) | ((with_reducible refine gate_dst (N := 4) rfl ?_); refine be_ (N := 4) (cs := #[.int .i64 0, .int .u64 0]) (t := 24) ?_; intro gb120 hg w5 hbox hb; have n0_ := Aside0.mk (blk_below (qk_ BK119.out) hb); have n1_ := Aside0.mk (below_step (qb1_ GE119.out HB.out) hb); have n2_ := Aside0.mk (hbox); have n3_ := Aside0.mk (bz_ hg (qb1_ GE119.out HB.out) : w.heap.size ≤ gb120); have n4_ := n3_; have n5_ := Aside0.mk (nl_ hg (qk_ BK119.out) : gb119 ≠ gb120); have n6_ := Aside0.mk (ng_ hg (qk_ BK119.out) : gb120 ≠ gb119); clear BK119; clear HB; have BK119 := n0_; have HB := n1_; have BK120 := n2_; have GW120 := n3_; have GE120 := n4_; have NB119_120 := n5_; have NB120_119 := n6_; clear n0_ n1_ n2_ n3_ n4_ n5_ n6_; clear hb hbox hg))
 (try simp only [Act.put, List.setIfInBounds_toArray, List.set_cons_zero, List.set_cons_succ])
 go_cut [23] (fun v23 wc => ∃ (kq : Nat) (x23_2 : Bool), v23 = .bool x23_2 ∧ Aside0 (wide_size_signedP.j0 kq a1 x23_2 a0_0 a0_1 = some (r1, r2, r3)) ∧ Aside0 (kq ≤ k) ∧ Aside0 (wc.heap[gb119]? = some (.cells #[.int .u64 a0_0, .int .u64 a0_1] 66 (0, 0))) ∧ Aside0 (wc.heap[gb120]? = some (.cells #[.int .i64 0, .int .u64 0] 24 (0, 0))) ∧ Aside0 (Below w.heap.size w wc))
 case first =>
  have H := HC3.out
  clear HC3
  by_cases c6 : a0_0 > 9223372036854775808
  ·rw [if_pos c6] at H
   have c6b0 : decide (9223372036854775808 < a0_0) = true := decide_eq_true c6
   clear c6
   (first | rw [c6b0] | (simp only [i64_w, i32_w]; rw [c6b0]) | skip)
   have H' := Aside0.mk H
   clear H
   have hnb7 := NB119_120.out
   have hnc7 := NB120_119.out
   have hcz8_0 : w5.cell? ⟨gb119, 0, none⟩ = some (.int .u64 a0_0) := (blk_cell BK119.out 0).trans rfl
   have hcz8_1 : w5.cell? ⟨gb119, 1, none⟩ = some (.int .u64 a0_1) := (blk_cell BK119.out 1).trans rfl
   have hfz8_0 := blk_frozen BK119.out 0
   have hfz8_1 := blk_frozen BK119.out 1
   go_wp2
   go_meet
   case rel => exact ⟨_, (true), qs_, H', ⟨qo_⟩, ⟨qk_ BK119.out⟩, ⟨qk_ BK120.out⟩, ⟨qb2_ GE119.out GE120.out HB.out⟩⟩
  ·rw [if_neg c6] at H
   have c6b0 : decide (9223372036854775808 < a0_0) = false := decide_eq_false c6
   clear c6
   (first | rw [c6b0] | (simp only [i64_w, i32_w]; rw [c6b0]) | skip)
   by_cases c9 : a0_0 = 9223372036854775808
   ·rw [if_pos c9] at H
    have c9b0 : (a0_0 == 9223372036854775808) = true := beq_iff_eq.mpr c9
    have c9b1 : (a0_0 != 9223372036854775808) = false := bne_eq_false_iff_eq.mpr c9
    clear c9
    by_cases c10 : a1 = true
    ·subst c10
     have H1 : (wide_size_signedP.j0 k true (decide (a0_1 > 0)) a0_0 a0_1) = some (r1, r2, r3) := by rw [if_pos rfl] at H; exact H
     clear H
     have H := H1
     clear H1
     have H' := Aside0.mk H
     clear H
     have hnb11 := NB119_120.out
     have hnc11 := NB120_119.out
     have hcz12_0 : w5.cell? ⟨gb119, 0, none⟩ = some (.int .u64 a0_0) := (blk_cell BK119.out 0).trans rfl
     have hcz12_1 : w5.cell? ⟨gb119, 1, none⟩ = some (.int .u64 a0_1) := (blk_cell BK119.out 1).trans rfl
     have hfz12_0 := blk_frozen BK119.out 0
     have hfz12_1 := blk_frozen BK119.out 1
     go_wp2
     go_meet
     case rel => exact ⟨_, (decide (a0_1 > 0)), qs_, H', ⟨qo_⟩, ⟨qk_ BK119.out⟩, ⟨qk_ BK120.out⟩, ⟨qb2_ GE119.out GE120.out HB.out⟩⟩
    ·replace c10 := Bool.eq_false_iff.mpr c10
     subst c10
     have H1 : (wide_size_signedP.j0 k false true a0_0 a0_1) = some (r1, r2, r3) := by rw [if_neg (show ¬ (false = true) by decide)] at H; exact H
     clear H
     have H := H1
     clear H1
     have H' := Aside0.mk H
     clear H
     have hnb13 := NB119_120.out
     have hnc13 := NB120_119.out
     have hcz14_0 : w5.cell? ⟨gb119, 0, none⟩ = some (.int .u64 a0_0) := (blk_cell BK119.out 0).trans rfl
     have hcz14_1 : w5.cell? ⟨gb119, 1, none⟩ = some (.int .u64 a0_1) := (blk_cell BK119.out 1).trans rfl
     have hfz14_0 := blk_frozen BK119.out 0
     have hfz14_1 := blk_frozen BK119.out 1
     go_wp2
     go_meet
     case rel => exact ⟨_, (true), qs_, H', ⟨qo_⟩, ⟨qk_ BK119.out⟩, ⟨qk_ BK120.out⟩, ⟨qb2_ GE119.out GE120.out HB.out⟩⟩
   ·rw [if_neg c9] at H
    have c9b0 : (a0_0 == 9223372036854775808) = false := beq_eq_false_iff_ne.mpr c9
    have c9b1 : (a0_0 != 9223372036854775808) = true := bne_iff_ne.mpr c9
    have H' := Aside0.mk H
    clear H
    have hnb15 := NB119_120.out
    have hnc15 := NB120_119.out
    have hcz16_0 : w5.cell? ⟨gb119, 0, none⟩ = some (.int .u64 a0_0) := (blk_cell BK119.out 0).trans rfl
    have hcz16_1 : w5.cell? ⟨gb119, 1, none⟩ = some (.int .u64 a0_1) := (blk_cell BK119.out 1).trans rfl
    have hfz16_0 := blk_frozen BK119.out 0
    have hfz16_1 := blk_frozen BK119.out 1
    go_wp2
    go_meet
    case rel => exact ⟨_, (false), qs_, H', ⟨qo_⟩, ⟨qk_ BK119.out⟩, ⟨qk_ BK120.out⟩, ⟨qb2_ GE119.out GE120.out HB.out⟩⟩
 case rest =>
  clear HC3
  try clear c1
  try clear p2
  try clear c5
  try clear c6
  try clear c6b0
  try clear c7
  try clear c9
  try clear c9b0
  try clear c9b1
  try clear c10
  try clear c11
  try clear c13
  try clear c15
  try clear hcz12_0
  try clear hcz12_1
  try clear hcz14_0
  try clear hcz14_1
  try clear hcz16_0
  try clear hcz16_1
  try clear hcz8_0
  try clear hcz8_1
  try clear hfz12_0
  try clear hfz12_1
  try clear hfz14_0
  try clear hfz14_1
  try clear hfz16_0
  try clear hfz16_1
  try clear hfz8_0
  try clear hfz8_1
  obtain ⟨kq, x23_2, rfl, HA, HJ2, BK119, BK120, HB⟩ := hcut
  cases kq with
  | zero => exact absurd HA.out (by simp [wide_size_signedP.j0])
  | succ kj2 =>
   have H := HA.out
   clear HA
   simp only [wide_size_signedP.j0] at H
   by_cases c17 : x23_2 = true
   ·subst c17
    have H1 : (some (0, 0, 6)) = some (r1, r2, r3) := by rw [if_pos rfl] at H; exact H
    clear H
    have H := H1
    clear H1
    simp only [Option.some.injEq, Prod.mk.injEq] at H
    obtain ⟨rfl, rfl, rfl⟩ := H
    have hnb18 := NB120_119.out
    have hnc18 := NB119_120.out
    have hcz19_0 : wc.cell? ⟨gb120, 0, none⟩ = some (.int .i64 0) := (blk_cell BK120.out 0).trans rfl
    have hcz19_1 : wc.cell? ⟨gb120, 1, none⟩ = some (.int .u64 0) := (blk_cell BK120.out 1).trans rfl
    have hfz19_0 := blk_frozen BK120.out 0
    have hfz19_1 := blk_frozen BK120.out 1
    go_wp2
    refine bodyPost_ret (results_ct rfl _ _ gb120 24 #[.int .i64 0, .int .u64 0] (0, 0) _ rfl (qpp_ #[.int .i64 0, .int .u64 0] 1 #[.int .i64 0, .int .u64 0] 0 BK120.out) Tryd.underlying24 rfl (by kernel_rfl)) rfl ?_
    exact ⟨qe_, qb2_ GE119.out GE120.out HB.out⟩
   ·replace c17 := Bool.eq_false_iff.mpr c17
    subst c17
    have H1 : (if a1 = true then ((wide_negate.f (wrap64 (a0_0)) a0_1).bind fun bt122 => (some (bt122.1, bt122.2, 0))) else (some (wrap64 (a0_0), a0_1, 0))) = some (r1, r2, r3) := by rw [if_neg (show ¬ (false = true) by decide)] at H; exact H
    clear H
    have H := H1
    clear H1
    by_cases c20 : a1 = true
    ·subst c20
     have H1 : ((wide_negate.f (wrap64 (a0_0)) a0_1).bind fun bt122 => (some (bt122.1, bt122.2, 0))) = some (r1, r2, r3) := by rw [if_pos rfl] at H; exact H
     clear H
     have H := H1
     clear H1
     replace H := Option.bind_eq_some_iff.mp H
     obtain ⟨⟨t122, t123⟩, A210, H⟩ := H
     replace H : (some (t122, t123, 0)) = some (r1, r2, r3) := H
     have A21 := Aside0.mk A210
     clear A210
     simp only [Option.some.injEq, Prod.mk.injEq] at H
     obtain ⟨rfl, rfl, rfl⟩ := H
     have hnb22 := NB119_120.out
     have hnc22 := NB120_119.out
     have hcz23_0 : wc.cell? ⟨gb119, 0, none⟩ = some (.int .u64 a0_0) := (blk_cell BK119.out 0).trans rfl
     have hcz23_1 : wc.cell? ⟨gb119, 1, none⟩ = some (.int .u64 a0_1) := (blk_cell BK119.out 1).trans rfl
     have hfz23_0 := blk_frozen BK119.out 0
     have hfz23_1 := blk_frozen BK119.out 1
     go_wp2_with (first | ((with_reducible refine gate_dst (N := 6) rfl ?_); refine be_ (N := 6) (cs := #[.int .i64 0, .int .u64 0]) (t := 24) ?_; intro gb121 hg w24 hbox hb; have n0_ := Aside0.mk (blk_below (qk_ BK119.out) hb); have n1_ := Aside0.mk (blk_below (qk_ BK120.out) hb); have n2_ := Aside0.mk (below_step (qb2_ GE119.out GE120.out HB.out) hb); have n3_ := Aside0.mk (hbox); have n4_ := Aside0.mk (bz_ hg (qb2_ GE119.out GE120.out HB.out) : w.heap.size ≤ gb121); have n5_ := n4_; have n6_ := Aside0.mk (nl_ hg (qk_ BK119.out) : gb119 ≠ gb121); have n7_ := Aside0.mk (ng_ hg (qk_ BK119.out) : gb121 ≠ gb119); have n8_ := Aside0.mk (nl_ hg (qk_ BK120.out) : gb120 ≠ gb121); have n9_ := Aside0.mk (ng_ hg (qk_ BK120.out) : gb121 ≠ gb120); clear BK119; clear BK120; clear HB; have BK119 := n0_; have BK120 := n1_; have HB := n2_; have BK121 := n3_; have GW121 := n4_; have GE121 := n5_; have NB119_121 := n6_; have NB121_119 := n7_; have NB120_121 := n8_; have NB121_120 := n9_; clear n0_ n1_ n2_ n3_ n4_ n5_ n6_ n7_ n8_ n9_; clear hb hbox hg; have hnb25 := NB121_119.out; have hnc25 := NB119_121.out; have hnb26 := NB121_120.out; have hnc26 := NB120_121.out; have hcz27_0 : w24.cell? ⟨gb121, 0, none⟩ = some (.int .i64 0) := (blk_cell BK121.out 0).trans rfl; have hcz27_1 : w24.cell? ⟨gb121, 1, none⟩ = some (.int .u64 0) := (blk_cell BK121.out 1).trans rfl; have hfz27_0 := blk_frozen BK121.out 0; have hfz27_1 := blk_frozen BK121.out 1) | ((with_reducible refine gate_callee (f := 58) rfl ?_); refine goesL_ (some 33) rfl rfl Tryd.func58 (by kernel_rfl) rfl #[.agg #[.int .i64 (wrap64 (a0_0)), .int .u64 a0_1]] rfl ql_ ?_; (with_reducible refine (wide_negate.calls (wrap64 (a0_0)) a0_1 t122 t123 _ A21.out).mono ?_); rintro e w28 ⟨rfl, hb⟩; refine ⟨_, rfl, ?_⟩; have n0_ := Aside0.mk (blk_below (g := gb119) (o := .cells #[.int .u64 a0_0, .int .u64 a0_1] 66 (0, 0)) (qff_ NB119_121.out NB119_121.out BK119.out) hb); have n1_ := Aside0.mk (blk_below (g := gb120) (o := .cells #[.int .i64 0, .int .u64 0] 24 (0, 0)) (qff_ NB120_121.out NB120_121.out BK120.out) hb); have n2_ := Aside0.mk (blk_below (g := gb121) (o := .cells #[.int .i64 (wrap64 (a0_0)), .int .u64 a0_1] 24 (0, 0)) (qpp_ #[.int .i64 (wrap64 (a0_0)), .int .u64 0] 1 #[.int .i64 0, .int .u64 0] 0 BK121.out) hb); have n3_ := Aside0.mk (below_step (qb3_ GE119.out GE120.out GE121.out HB.out) hb); clear BK119; clear BK120; clear BK121; clear HB; have BK119 := n0_; have BK120 := n1_; have BK121 := n2_; have HB := n3_; clear n0_ n1_ n2_ n3_; (try clear hb); (try clear hb2); (try clear hk); (try clear hi); have hcz29_0 : w28.cell? ⟨gb121, 0, none⟩ = some (.int .i64 (wrap64 (a0_0))) := (blk_cell BK121.out 0).trans rfl; have hcz29_1 : w28.cell? ⟨gb121, 1, none⟩ = some (.int .u64 a0_1) := (blk_cell BK121.out 1).trans rfl; have hfz29_0 := blk_frozen BK121.out 0; have hfz29_1 := blk_frozen BK121.out 1; have hcz30_0 : w28.cell? ⟨gb120, 0, none⟩ = some (.int .i64 0) := (blk_cell BK120.out 0).trans rfl; have hcz30_1 : w28.cell? ⟨gb120, 1, none⟩ = some (.int .u64 0) := (blk_cell BK120.out 1).trans rfl; have hfz30_0 := blk_frozen BK120.out 0; have hfz30_1 := blk_frozen BK120.out 1))
     refine bodyPost_ret (results_ct rfl _ _ gb120 24 #[.int .i64 t122, .int .u64 t123] (0, 0) _ rfl (qppff_ #[.int .i64 t122, .int .u64 0] 1 #[.int .i64 0, .int .u64 0] 0 NB120_121.out NB120_121.out BK120.out) Tryd.underlying24 rfl (by kernel_rfl)) rfl ?_
     exact ⟨qe_, qb3_ GE119.out GE120.out GE121.out HB.out⟩
    ·replace c20 := Bool.eq_false_iff.mpr c20
     subst c20
     have H1 : (some (wrap64 (a0_0), a0_1, 0)) = some (r1, r2, r3) := by rw [if_neg (show ¬ (false = true) by decide)] at H; exact H
     clear H
     have H := H1
     clear H1
     simp only [Option.some.injEq, Prod.mk.injEq] at H
     obtain ⟨rfl, rfl, rfl⟩ := H
     have hnb31 := NB119_120.out
     have hnc31 := NB120_119.out
     have hcz32_0 : wc.cell? ⟨gb119, 0, none⟩ = some (.int .u64 a0_0) := (blk_cell BK119.out 0).trans rfl
     have hcz32_1 : wc.cell? ⟨gb119, 1, none⟩ = some (.int .u64 a0_1) := (blk_cell BK119.out 1).trans rfl
     have hfz32_0 := blk_frozen BK119.out 0
     have hfz32_1 := blk_frozen BK119.out 1
     go_wp2_with (first | ((with_reducible refine gate_dst (N := 6) rfl ?_); refine be_ (N := 6) (cs := #[.int .i64 0, .int .u64 0]) (t := 24) ?_; intro gb121 hg w33 hbox hb; have n0_ := Aside0.mk (blk_below (qk_ BK119.out) hb); have n1_ := Aside0.mk (blk_below (qk_ BK120.out) hb); have n2_ := Aside0.mk (below_step (qb2_ GE119.out GE120.out HB.out) hb); have n3_ := Aside0.mk (hbox); have n4_ := Aside0.mk (bz_ hg (qb2_ GE119.out GE120.out HB.out) : w.heap.size ≤ gb121); have n5_ := n4_; have n6_ := Aside0.mk (nl_ hg (qk_ BK119.out) : gb119 ≠ gb121); have n7_ := Aside0.mk (ng_ hg (qk_ BK119.out) : gb121 ≠ gb119); have n8_ := Aside0.mk (nl_ hg (qk_ BK120.out) : gb120 ≠ gb121); have n9_ := Aside0.mk (ng_ hg (qk_ BK120.out) : gb121 ≠ gb120); clear BK119; clear BK120; clear HB; have BK119 := n0_; have BK120 := n1_; have HB := n2_; have BK121 := n3_; have GW121 := n4_; have GE121 := n5_; have NB119_121 := n6_; have NB121_119 := n7_; have NB120_121 := n8_; have NB121_120 := n9_; clear n0_ n1_ n2_ n3_ n4_ n5_ n6_ n7_ n8_ n9_; clear hb hbox hg; have hnb34 := NB121_119.out; have hnc34 := NB119_121.out; have hnb35 := NB121_120.out; have hnc35 := NB120_121.out; have hcz36_0 : w33.cell? ⟨gb121, 0, none⟩ = some (.int .i64 0) := (blk_cell BK121.out 0).trans rfl; have hcz36_1 : w33.cell? ⟨gb121, 1, none⟩ = some (.int .u64 0) := (blk_cell BK121.out 1).trans rfl; have hfz36_0 := blk_frozen BK121.out 0; have hfz36_1 := blk_frozen BK121.out 1; have hcz37_0 : w33.cell? ⟨gb120, 0, none⟩ = some (.int .i64 0) := (blk_cell BK120.out 0).trans rfl; have hcz37_1 : w33.cell? ⟨gb120, 1, none⟩ = some (.int .u64 0) := (blk_cell BK120.out 1).trans rfl; have hfz37_0 := blk_frozen BK120.out 0; have hfz37_1 := blk_frozen BK120.out 1))
     refine bodyPost_ret (results_ct rfl _ _ gb120 24 #[.int .i64 (wrap64 (a0_0)), .int .u64 a0_1] (0, 0) _ rfl (qppff_ #[.int .i64 (wrap64 (a0_0)), .int .u64 0] 1 #[.int .i64 0, .int .u64 0] 0 NB120_121.out NB120_121.out BK120.out) Tryd.underlying24 rfl (by kernel_rfl)) rfl ?_
     exact ⟨qe_, qb3_ GE119.out GE120.out GE121.out HB.out⟩
end Go.Proofs.YtkdhippoibjfkaaDoor.PR
end
section
namespace Go.Proofs.YtkdhippoibjfkaaDoor.PR
open Go.RowKit Go.Proofs.YtkdhippoibjfkaaDoorW.PrintWords Go.Proofs.YtkdhippoibjfkaaDoorW.PrintLast
set_option linter.unusedVariables false
set_option linter.unusedSimpArgs false
def wide_size_signed.f (a0_0 a0_1 : Int) (a1 : Bool) : Option (Int × Int × Int) :=
 if inU a0_0 ∧ inU a0_1 then
  some (if wv a0_0 a0_1 > 170141183460469231731687303715884105728 ∨ wv a0_0 a0_1 = 170141183460469231731687303715884105728 ∧ a1 = false then (0, 0, 6)
   else ((if a1 = true then -(wv a0_0 a0_1) else wv a0_0 a0_1) / 18446744073709551616, (if a1 = true then -(wv a0_0 a0_1) else wv a0_0 a0_1) % 18446744073709551616, 0)) else none
theorem wide_size_signed.eq {a b : Int} {c : Bool} {r : Int × Int × Int} (h : wide_size_signed.f a b c = some r) : ∃ k, wide_size_signedP.f k a b c = some r := by
 unfold wide_size_signed.f at h
 split at h
 ·rename_i q
  obtain ⟨⟨a0, a1⟩, b0, b1⟩ := q
  injection h with h
  subst h
  refine ⟨1, ?_⟩
  unfold wide_size_signedP.f
  simp only [wide_size_signedP.j0, wide_negate.f]
  have hv : wv a b = a * 18446744073709551616 + b := rfl
  have hw : isW (wrap64 a) b := ⟨by unfold inI wrap64; omega, b0, b1⟩
  have hwv : wv (wrap64 a) b = if a < 9223372036854775808 then wv a b else wv a b - 340282366920938463463374607431768211456 := by unfold wv wrap64; split <;> omega
  rw [if_pos hw]
  by_cases h1 : a > 9223372036854775808
  ·rw [if_pos h1, if_pos trivial, if_pos (.inl (by omega))]
  ·rw [if_neg h1]
   by_cases h2 : a = 9223372036854775808
   ·rw [if_pos h2]
    cases c with
    | true =>
     rw [if_pos rfl]
     by_cases h3 : b > 0
     ·rw [if_pos (by simpa using h3), if_pos (.inl (by omega))]
     ·have hb : b = 0 := by omega
      subst h2 hb
      decide +kernel
    | false =>
     rw [if_neg (by decide), if_pos trivial]
     by_cases h3 : b > 0
     ·rw [if_pos (.inl (by omega))]
     ·rw [if_pos (.inr ⟨by omega, rfl⟩)]
   ·rw [if_neg h2, if_neg (by decide)]
    have hlt : a < 9223372036854775808 := by omega
    rw [if_pos hlt] at hwv
    have hwa : wrap64 a = a := by unfold wrap64; omega
    rw [if_neg (show ¬ (wv a b > 170141183460469231731687303715884105728 ∨ wv a b = 170141183460469231731687303715884105728 ∧ c = false) by omega)]
    cases c with
    | true =>
     rw [if_pos rfl, hwv, if_neg (by omega)]
     simp
    | false =>
     rw [if_neg (by decide), hwa]
     simp only [Bool.false_eq_true, if_false]
     congr 2
     ·omega
     ·congr 1; omega
 ·cases h
theorem wide_size_signed.calls (a0_0 : Int) (a0_1 : Int) (a1 : Bool) (r1 : Int) (r2 : Int) (r3 : Int) (w : World) (h : wide_size_signed.f a0_0 a0_1 a1 = some (r1, r2, r3)) :
  Calls Tryd.prog 53 #[.agg #[.int .u64 a0_0, .int .u64 a0_1], .bool a1] w fun e w' => e = .returned (.tuple #[.agg #[.int .i64 r1, .int .u64 r2], .int .i64 r3]) ∧ Below w.heap.size w w' := by
 obtain ⟨k, h⟩ := wide_size_signed.eq h
 exact wide_size_signedP.calls k a0_0 a0_1 a1 r1 r2 r3 w h
end Go.Proofs.YtkdhippoibjfkaaDoor.PR
end
