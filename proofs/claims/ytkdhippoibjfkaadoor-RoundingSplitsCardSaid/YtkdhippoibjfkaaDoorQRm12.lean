import Derived.Test.YtkdhippoibjfkaaDoorQRm2
import Derived.Test.YtkdhippoibjfkaaDoorQRm5
import Derived.Test.YtkdhippoibjfkaaDoorQRm6
import Derived.Test.YtkdhippoibjfkaaDoorQRm11
section
namespace Go.Proofs.YtkdhippoibjfkaaDoor.PR
open Go.RowKit Go.Proofs.YtkdhippoibjfkaaDoorW.PrintWords Go.Proofs.YtkdhippoibjfkaaDoorW.PrintLast
set_option linter.unusedVariables false
set_option linter.unusedSimpArgs false
def corebankref01_times.f (a0_0 a0_1 a1 : Int) : Option (Int × Int × Bool) :=
 if (inU a0_0 ∧ inU a0_1) ∧ inU a1 then
  some (wv a0_0 a0_1 * a1 / 18446744073709551616 % 18446744073709551616, wv a0_0 a0_1 * a1 % 18446744073709551616, decide (wv a0_0 a0_1 * a1 < 340282366920938463463374607431768211456)) else none
theorem plus_add (h0 l0 h1 l1 A B : Int) (i0 : inU h0) (i1 : inU l0) (j0 : inU h1) (j1 : inU l1) (hA : wv h0 l0 = A) (hB : wv h1 l1 = B) :
  corebankref01_plus.f h0 l0 h1 l1 = some ((A + B) / 18446744073709551616 % 18446744073709551616, (A + B) % 18446744073709551616, decide (A + B < 340282366920938463463374607431768211456)) := by
 unfold corebankref01_plus.f
 rw [if_pos ⟨⟨i0, i1⟩, j0, j1⟩, hA, hB]
theorem inU_mod (x : Int) : inU (x % 18446744073709551616) := by unfold inU; omega
theorem wv_mod (V : Int) : wv (V / 18446744073709551616 % 18446744073709551616) (V % 18446744073709551616) = V % 340282366920938463463374607431768211456 := by unfold wv; omega
theorem times_loop (mh ml m : Int) (i0 : inU mh) (i1 : inU ml) (hm : wv mh ml = m) (n : Nat) :
  ∀ (x T i : Int), 0 ≤ x → x < 18446744073709551616 → 0 ≤ T → 0 ≤ i → 64 - i = n →
   corebankref01_timesP.l0 (2 * n + 1) x (decide (m * T < 340282366920938463463374607431768211456)) i mh ml (m * T / 18446744073709551616 % 18446744073709551616) (m * T % 18446744073709551616) =
    some (m * (T * 2 ^ n + x * 2 ^ n / 18446744073709551616) / 18446744073709551616 % 18446744073709551616, m * (T * 2 ^ n + x * 2 ^ n / 18446744073709551616) % 18446744073709551616, decide (m * (T * 2 ^ n + x * 2 ^ n / 18446744073709551616) < 340282366920938463463374607431768211456)) := by
 have m0 : 0 ≤ m := by rw [← hm]; unfold wv; unfold inU at i0 i1; omega
 have m1 : m < 340282366920938463463374607431768211456 := by rw [← hm]; unfold wv; unfold inU at i0 i1; omega
 induction n with
 | zero =>
  intro x T i x0 x1 T0 j0 j1
  simp only [Nat.mul_zero, Nat.zero_add, corebankref01_timesP.l0]
  rw [if_neg (by omega)]
  have : T * 2 ^ 0 + x * 2 ^ 0 / 18446744073709551616 = T := by rw [Int.pow_zero, Int.mul_one, Int.mul_one, Int.ediv_eq_zero_of_lt x0 x1]; omega
  rw [this]
 | succ n ih =>
  intro x T i x0 x1 T0 j0 j1
  have q0 : 0 ≤ m * T := Int.mul_nonneg m0 T0
  rw [show 2 * (n + 1) + 1 = (2 * n + 1 + 1) + 1 by omega, corebankref01_timesP.l0, if_pos (by omega),
   plus_add _ _ _ _ _ _ (inU_mod _) (inU_mod _) (inU_mod _) (inU_mod _) (wv_mod (m * T)) (wv_mod (m * T))]
  simp only [Option.bind_some]
  have d1 : (m * T % 340282366920938463463374607431768211456 + m * T % 340282366920938463463374607431768211456) / 18446744073709551616 % 18446744073709551616 = m * (2 * T) / 18446744073709551616 % 18446744073709551616 := by
   rw [Int.mul_left_comm]; omega
  have d2 : (m * T % 340282366920938463463374607431768211456 + m * T % 340282366920938463463374607431768211456) % 18446744073709551616 = m * (2 * T) % 18446744073709551616 := by
   rw [Int.mul_left_comm]; omega
  have d3 : (if decide (m * T < 340282366920938463463374607431768211456) = true then decide (m * T % 340282366920938463463374607431768211456 + m * T % 340282366920938463463374607431768211456 < 340282366920938463463374607431768211456) else false) = decide (m * (2 * T) < 340282366920938463463374607431768211456) := by
   rw [Int.mul_left_comm]
   split
   ·rename_i hc
    have := of_decide_eq_true hc
    apply decide_eq_decide.mpr; omega
   ·rename_i hc
    have : ¬ m * T < 340282366920938463463374607431768211456 := fun h => hc (decide_eq_true h)
    symm; apply decide_eq_false; omega
  -- both ways through the flag come to one state
  have both : ∀ (F : Bool → Option (Int × Int × Bool)), (if decide (m * T < 340282366920938463463374607431768211456) = true then F (decide (m * T % 340282366920938463463374607431768211456 + m * T % 340282366920938463463374607431768211456 < 340282366920938463463374607431768211456)) else F false) = F (decide (m * (2 * T) < 340282366920938463463374607431768211456)) := by
   intro F
   rw [← d3]; split <;> rfl
  rw [d1, d2]
  rw [both (fun b => corebankref01_timesP.j1 (2 * n + 1 + 1) x b i mh ml (m * (2 * T) / 18446744073709551616 % 18446744073709551616) (m * (2 * T) % 18446744073709551616))]
  simp only [corebankref01_timesP.j1]
  have p0 : 0 < (2 : Int) ^ n := Int.pow_pos (by decide)
  have hi : wrap64 (i + 1) = i + 1 := i64_id _ (by omega) (by omega)
  have hf : T * 2 ^ (n + 1) = 2 * T * 2 ^ n := by rw [Int.pow_succ]; grind
  have hx : x * 2 ^ (n + 1) = 2 * x * 2 ^ n := by rw [Int.pow_succ]; grind
  rw [hf, hx]
  by_cases ht : x < 9223372036854775808
  ·rw [if_pos ((andTop x x0 x1).2 ht), hi, u64_id (x * 2) (by omega) (by omega), ih (x * 2) (2 * T) (i + 1) (by omega) (by omega) (by omega) (by omega) (by omega), Int.mul_comm x 2]
  ·rw [if_neg (fun hc => ht ((andTop x x0 x1).1 hc)), plus_add _ _ _ _ _ _ (inU_mod _) (inU_mod _) i0 i1 (wv_mod (m * (2 * T))) hm]
   simp only [Option.bind_some]
   have hx2 : IntKind.u64.wrap (x * 2) = 2 * x - 18446744073709551616 := by rw [IntKind.wrap_u64]; omega
   have e1 : m * (2 * T + 1) = m * (2 * T) + m := by rw [Int.mul_add, Int.mul_one]
   have q1 : 0 ≤ m * (2 * T) := Int.mul_nonneg m0 (by omega)
   have f1 : (m * (2 * T) % 340282366920938463463374607431768211456 + m) / 18446744073709551616 % 18446744073709551616 = m * (2 * T + 1) / 18446744073709551616 % 18446744073709551616 := by rw [e1]; omega
   have f2 : (m * (2 * T) % 340282366920938463463374607431768211456 + m) % 18446744073709551616 = m * (2 * T + 1) % 18446744073709551616 := by rw [e1]; omega
   have f3 : (if decide (m * (2 * T) < 340282366920938463463374607431768211456) = true then decide (m * (2 * T) % 340282366920938463463374607431768211456 + m < 340282366920938463463374607431768211456) else false) = decide (m * (2 * T + 1) < 340282366920938463463374607431768211456) := by
    rw [e1]
    split
    ·rename_i hc
     have := of_decide_eq_true hc
     apply decide_eq_decide.mpr; omega
    ·rename_i hc
     have : ¬ m * (2 * T) < 340282366920938463463374607431768211456 := fun h => hc (decide_eq_true h)
     symm; apply decide_eq_false; omega
   have both2 : ∀ (F : Bool → Option (Int × Int × Bool)), (if decide (m * (2 * T) < 340282366920938463463374607431768211456) = true then F (decide (m * (2 * T) % 340282366920938463463374607431768211456 + m < 340282366920938463463374607431768211456)) else F false) = F (decide (m * (2 * T + 1) < 340282366920938463463374607431768211456)) := by
    intro F
    rw [← f3]; split <;> rfl
   rw [f1, f2, hi, hx2, both2 (fun b => corebankref01_timesP.l0 (2 * n + 1) (2 * x - 18446744073709551616) b (i + 1) mh ml (m * (2 * T + 1) / 18446744073709551616 % 18446744073709551616) (m * (2 * T + 1) % 18446744073709551616)),
    ih (2 * x - 18446744073709551616) (2 * T + 1) (i + 1) (by omega) (by omega) (by omega) (by omega) (by omega)]
   have g : (2 * T + 1) * 2 ^ n + (2 * x - 18446744073709551616) * 2 ^ n / 18446744073709551616 = 2 * T * 2 ^ n + 2 * x * 2 ^ n / 18446744073709551616 := by
    rw [Int.add_mul, Int.one_mul, Int.sub_mul]
    generalize (2 : Int) ^ n = p at *
    generalize 2 * x * p = y
    omega
   rw [g]
theorem corebankref01_times.eq {a b c : Int} {r : Int × Int × Bool} (h : corebankref01_times.f a b c = some r) : ∃ k, corebankref01_timesP.f k a b c = some r := by
 unfold corebankref01_times.f at h
 split at h
 ·rename_i q
  obtain ⟨⟨a0, b0⟩, c0, c1⟩ := q
  injection h with h
  subst h
  refine ⟨2 * 64 + 1, ?_⟩
  unfold corebankref01_timesP.f
  have := times_loop a b (wv a b) a0 b0 rfl 64 c 0 0 c0 (by omega) (by omega) (by omega) (by omega)
  rw [show c * 2 ^ 64 / 18446744073709551616 = c from Int.mul_ediv_cancel c (by decide), Int.zero_mul, Int.zero_add] at this
  simpa using this
 ·cases h
theorem corebankref01_times.calls (a0_0 : Int) (a0_1 : Int) (a1 : Int) (r1 : Int) (r2 : Int) (r3 : Bool) (w : World) (h : corebankref01_times.f a0_0 a0_1 a1 = some (r1, r2, r3)) :
  Calls Tryd.prog 61 #[.agg #[.int .u64 a0_0, .int .u64 a0_1], .int .u64 a1] w fun e w' => e = .returned (.tuple #[.agg #[.int .u64 r1, .int .u64 r2], .bool r3]) ∧ Below w.heap.size w w' := by
 obtain ⟨k, h⟩ := corebankref01_times.eq h
 exact corebankref01_timesP.calls k a0_0 a0_1 a1 r1 r2 r3 w h
def corebankref01_sizeP.f (a0 : Int) : Option (Int) := if a0 < 0 then (some (IntKind.u64.wrap ((Go.bits .xor .u64 IntKind.u64.max (IntKind.u64.wrap (a0))) + 1))) else (some (IntKind.u64.wrap (a0)))
set_option maxHeartbeats 8000000 in
set_option maxRecDepth 100000 in
theorem corebankref01_sizeP.calls (a0 : Int) (r : Int) (w : World) (h : corebankref01_sizeP.f a0 = some r) :
  Calls Tryd.prog 62 #[.int .i64 a0] w fun e w' => e = .returned (.int .u64 r) ∧ Drawn0 w w' := by
 have hsgn : IntKind.u64.signed = false := rfl
 have H : (if a0 < 0 then (some (IntKind.u64.wrap ((Go.bits .xor .u64 IntKind.u64.max (IntKind.u64.wrap (a0))) + 1))) else (some (IntKind.u64.wrap (a0)))) = some r := h
 clear h
 by_cases c2 : a0 < 0
 ·rw [if_pos c2] at H
  have c2b0 : decide (a0 < 0) = true := decide_eq_true c2
  clear c2
  obtain rfl := Option.some.inj H
  go_enter Tryd.func62, Tryd.ntmps62
  go_wp2
  go_ret
  exact ⟨by first | rfl | (simp; done) | (simp [*]; done), by repeat (first | exact Drawn0.refl _ | apply Drawn0.step)⟩
 ·rw [if_neg c2] at H
  have c2b0 : decide (a0 < 0) = false := decide_eq_false c2
  clear c2
  obtain rfl := Option.some.inj H
  go_enter Tryd.func62, Tryd.ntmps62
  go_wp2
  go_ret
  exact ⟨by first | rfl | (simp; done) | (simp [*]; done), by repeat (first | exact Drawn0.refl _ | apply Drawn0.step)⟩
def corebankref01_size.f (a0 : Int) : Option Int := if inI a0 then some (if a0 < 0 then -a0 else a0) else none
theorem corebankref01_size.eq {a : Int} {r : Int} (h : corebankref01_size.f a = some r) : corebankref01_sizeP.f a = some r := by
 unfold corebankref01_size.f at h
 split at h
 ·rename_i c
  obtain ⟨c0, c1⟩ := c
  injection h with h
  subst h
  unfold corebankref01_sizeP.f
  have hw : IntKind.u64.wrap a = if a < 0 then a + 18446744073709551616 else a := by rw [IntKind.wrap_u64]; split <;> omega
  rw [hw]
  by_cases hn : a < 0
  ·rw [if_pos hn, if_pos hn, if_pos hn, xorMax _ (by omega) (by omega), IntKind.wrap_u64]
   congr 1; omega
  ·rw [if_neg hn, if_neg hn, if_neg hn]
 ·cases h
theorem corebankref01_size.calls (a0 : Int) (r : Int) (w : World) (h : corebankref01_size.f a0 = some r) :
  Calls Tryd.prog 62 #[.int .i64 a0] w fun e w' => e = .returned (.int .u64 r) ∧ Drawn0 w w' := by
 have h := corebankref01_size.eq h
 exact corebankref01_sizeP.calls a0 r w h
end Go.Proofs.YtkdhippoibjfkaaDoor.PR
end
section
namespace Go.Proofs.YtkdhippoibjfkaaDoor.PR
open Go.RowKit Go.Proofs.YtkdhippoibjfkaaDoorW.PrintWords Go.Proofs.YtkdhippoibjfkaaDoorW.PrintLast
set_option linter.unusedVariables false
set_option linter.unusedSimpArgs false
def corebankref01_ScaleP.j0 : Nat → Bool → Int → Int → Option (Int × Int × Int)
 | 0, _, _, _ => none
 | k + 1, x38, x383000, x383001 => if x38 = true then (some (0, 0, 6)) else (some (x383000, x383001, 0))
def corebankref01_ScaleP.f (k : Nat) (a0_0 : Int) (a0_1 : Int) (a1 : Int) : Option (Int × Int × Int) := (corebankref01_Split.f a0_0 a0_1).bind fun bt370 => ((corebankref01_size.f a1).bind fun t374 => ((corebankref01_times.f bt370.2.1 bt370.2.2 t374).bind fun bt375 => ((corebankref01_Join.f (bt370.1 != (decide (a1 < 0))) bt375.1 bt375.2.1).bind fun bt379 => (if bt375.2.2 = true then (corebankref01_ScaleP.j0 k (!bt379.2.2) bt379.1 bt379.2.1) else (corebankref01_ScaleP.j0 k true bt379.1 bt379.2.1)))))
theorem corebankref01_ScaleP.mono_l : ∀ k, (∀ y0 y1 y2, LeO (corebankref01_ScaleP.j0 k y0 y1 y2) (corebankref01_ScaleP.j0 (k + 1) y0 y1 y2))
 | 0 => fun _ _ _ r h => by simp [corebankref01_ScaleP.j0] at h
 | k + 1 => by
  have ih0 := corebankref01_ScaleP.mono_l k
  ·intro y0 y1 y2
   unfold corebankref01_ScaleP.j0
   repeat' first
   | (with_reducible exact ih0 _ _ _)
   | (with_reducible exact LeO.refl _)
   | (with_reducible exact LeO.none _)
   | (with_reducible refine LeO.ite ?_ ?_)
   | (with_reducible refine LeO.bind ?_ (fun _ => ?_))
   | exact ih0 _ _ _
   | exact LeO.none _
   | refine LeO.ite ?_ ?_
   | refine LeO.bind ?_ (fun _ => ?_)
theorem corebankref01_ScaleP.mono : ∀ a0 a1 a2 k, LeO (corebankref01_ScaleP.f k a0 a1 a2) (corebankref01_ScaleP.f (k + 1) a0 a1 a2) := by
 intro a0 a1 a2 k
 have ih0 := corebankref01_ScaleP.mono_l k
 unfold corebankref01_ScaleP.f
 repeat' first
   | (with_reducible exact ih0 _ _ _)
   | (with_reducible exact LeO.refl _)
   | (with_reducible exact LeO.none _)
   | (with_reducible refine LeO.ite ?_ ?_)
   | (with_reducible refine LeO.bind ?_ (fun _ => ?_))
   | exact ih0 _ _ _
   | exact LeO.none _
   | refine LeO.ite ?_ ?_
   | refine LeO.bind ?_ (fun _ => ?_)
def corebankref01_ScaleP.T2 : Bool × List (List Nat × List Nat) := (true, [([], []), ([], []), ([1], [1]), ([0, 2, 2], [0, 2]), ([3], [3]), ([4], [4]), ([4], [4]), ([], []), ([7, 5, 3, 0, 1, 2, 3, 4, 5, 7], [5, 7]), ([6, 8, 0, 1, 2, 3, 4, 5, 6, 7, 8], [6])])
def corebankref01_ScaleP.B2 : List Nat := [0, 0, 2, 7, 15, 31, 31, 0, 191, 511]
theorem corebankref01_ScaleP.tab2 : rtab .any (opsOf Tryd.f45 2) = corebankref01_ScaleP.T2 := by kernel_rfl
theorem corebankref01_ScaleP.bits2 : waitsOk corebankref01_ScaleP.T2.2 corebankref01_ScaleP.B2 = true := by kernel_rfl
set_option maxHeartbeats 8000000 in
set_option maxRecDepth 100000 in
theorem corebankref01_ScaleP.calls (k : Nat) (a0_0 : Int) (a0_1 : Int) (a1 : Int) (r1 : Int) (r2 : Int) (r3 : Int) (w : World) (h : corebankref01_ScaleP.f k a0_0 a0_1 a1 = some (r1, r2, r3)) :
  Calls Tryd.prog 45 #[.agg #[.int .i64 a0_0, .int .u64 a0_1], .int .i64 a1] w fun e w' => e = .returned (.tuple #[.agg #[.int .i64 r1, .int .u64 r2], .int .i64 r3]) ∧ Below w.heap.size w w' := by
 have hu24 := Tryd.underlying24
 have hu54 := Tryd.underlying54
 have HB := Aside0.mk (Below.refl w.heap.size w)
 have H : ((corebankref01_Split.f a0_0 a0_1).bind fun bt370 => ((corebankref01_size.f a1).bind fun t374 => ((corebankref01_times.f bt370.2.1 bt370.2.2 t374).bind fun bt375 => ((corebankref01_Join.f (bt370.1 != (decide (a1 < 0))) bt375.1 bt375.2.1).bind fun bt379 => (if bt375.2.2 = true then (corebankref01_ScaleP.j0 k (!bt379.2.2) bt379.1 bt379.2.1) else (corebankref01_ScaleP.j0 k true bt379.1 bt379.2.1)))))) = some (r1, r2, r3) := h
 clear h
 replace H := Option.bind_eq_some_iff.mp H
 obtain ⟨⟨t370, t371, t372⟩, A30, H⟩ := H
 replace H : ((corebankref01_size.f a1).bind fun t374 => ((corebankref01_times.f t371 t372 t374).bind fun bt375 => ((corebankref01_Join.f (t370 != (decide (a1 < 0))) bt375.1 bt375.2.1).bind fun bt379 => (if bt375.2.2 = true then (corebankref01_ScaleP.j0 k (!bt379.2.2) bt379.1 bt379.2.1) else (corebankref01_ScaleP.j0 k true bt379.1 bt379.2.1))))) = some (r1, r2, r3) := H
 have A3 := Aside0.mk A30
 clear A30
 replace H := Option.bind_eq_some_iff.mp H
 obtain ⟨t374, A40, H⟩ := H
 replace H : ((corebankref01_times.f t371 t372 t374).bind fun bt375 => ((corebankref01_Join.f (t370 != (decide (a1 < 0))) bt375.1 bt375.2.1).bind fun bt379 => (if bt375.2.2 = true then (corebankref01_ScaleP.j0 k (!bt379.2.2) bt379.1 bt379.2.1) else (corebankref01_ScaleP.j0 k true bt379.1 bt379.2.1)))) = some (r1, r2, r3) := H
 have A4 := Aside0.mk A40
 clear A40
 replace H := Option.bind_eq_some_iff.mp H
 obtain ⟨⟨t375, t376, t377⟩, A50, H⟩ := H
 replace H : ((corebankref01_Join.f (t370 != (decide (a1 < 0))) t375 t376).bind fun bt379 => (if t377 = true then (corebankref01_ScaleP.j0 k (!bt379.2.2) bt379.1 bt379.2.1) else (corebankref01_ScaleP.j0 k true bt379.1 bt379.2.1))) = some (r1, r2, r3) := H
 have A5 := Aside0.mk A50
 clear A50
 replace H := Option.bind_eq_some_iff.mp H
 obtain ⟨⟨t379, t380, t381⟩, A60, H⟩ := H
 replace H : (if t377 = true then (corebankref01_ScaleP.j0 k (!t381) t379 t380) else (corebankref01_ScaleP.j0 k true t379 t380)) = some (r1, r2, r3) := H
 have A6 := Aside0.mk A60
 clear A60
 have HC7 := Aside0.mk H
 clear H
 go_enter Tryd.func45, Tryd.ntmps45
 try go_wp2_with (first | ((with_reducible refine gate_dst (N := 2) rfl ?_); refine be_ (N := 2) (cs := #[.int .i64 a0_0, .int .u64 a0_1]) (t := 24) ?_; intro gb368 hg w8 hbox hb; have n0_ := Aside0.mk (below_step (qb_ HB.out) hb); have n1_ := Aside0.mk (hbox); have n2_ := Aside0.mk (bz_ hg (qb_ HB.out) : w.heap.size ≤ gb368); have n3_ := n2_; clear HB; have HB := n0_; have BK368 := n1_; have GW368 := n2_; have GE368 := n3_; clear n0_ n1_ n2_ n3_; clear hb hbox hg) | ((with_reducible refine gate_dst (N := 4) rfl ?_); refine be_ (N := 4) (cs := #[.int .i64 0, .int .u64 0]) (t := 24) ?_; intro gb369 hg w9 hbox hb; have n0_ := Aside0.mk (blk_below (qk_ BK368.out) hb); have n1_ := Aside0.mk (below_step (qb1_ GE368.out HB.out) hb); have n2_ := Aside0.mk (hbox); have n3_ := Aside0.mk (bz_ hg (qb1_ GE368.out HB.out) : w.heap.size ≤ gb369); have n4_ := n3_; have n5_ := Aside0.mk (nl_ hg (qk_ BK368.out) : gb368 ≠ gb369); have n6_ := Aside0.mk (ng_ hg (qk_ BK368.out) : gb369 ≠ gb368); clear BK368; clear HB; have BK368 := n0_; have HB := n1_; have BK369 := n2_; have GW369 := n3_; have GE369 := n4_; have NB368_369 := n5_; have NB369_368 := n6_; clear n0_ n1_ n2_ n3_ n4_ n5_ n6_; clear hb hbox hg; have hnb10 := NB368_369.out; have hnc10 := NB369_368.out; have hcz11_0 : w9.cell? ⟨gb368, 0, none⟩ = some (.int .i64 a0_0) := (blk_cell BK368.out 0).trans rfl; have hcz11_1 : w9.cell? ⟨gb368, 1, none⟩ = some (.int .u64 a0_1) := (blk_cell BK368.out 1).trans rfl; have hfz11_0 := blk_frozen BK368.out 0; have hfz11_1 := blk_frozen BK368.out 1) | ((with_reducible refine gate_callee (f := 43) rfl ?_); refine goesL_ (some 14) rfl rfl Tryd.func43 (by kernel_rfl) rfl #[.agg #[.int .i64 a0_0, .int .u64 a0_1]] rfl ql_ ?_; (with_reducible refine (corebankref01_Split.calls a0_0 a0_1 t370 t371 t372 _ A3.out).mono ?_); rintro e w12 ⟨rfl, hb⟩; refine ⟨_, rfl, ?_⟩; have n0_ := Aside0.mk (blk_below (qk_ BK368.out) hb); have n1_ := Aside0.mk (blk_below (qk_ BK369.out) hb); have n2_ := Aside0.mk (below_step (qb2_ GE368.out GE369.out HB.out) hb); clear BK368; clear BK369; clear HB; have BK368 := n0_; have BK369 := n1_; have HB := n2_; clear n0_ n1_ n2_; (try clear hb); (try clear hb2); (try clear hk); (try clear hi)) | ((with_reducible refine gate_dst (N := 7) rfl ?_); refine be_ (N := 7) (cs := #[.int .u64 0, .int .u64 0]) (t := 54) ?_; intro gb373 hg w13 hbox hb; have n0_ := Aside0.mk (blk_below (qk_ BK368.out) hb); have n1_ := Aside0.mk (blk_below (qk_ BK369.out) hb); have n2_ := Aside0.mk (below_step (qb2_ GE368.out GE369.out HB.out) hb); have n3_ := Aside0.mk (hbox); have n4_ := Aside0.mk (bz_ hg (qb2_ GE368.out GE369.out HB.out) : w.heap.size ≤ gb373); have n5_ := n4_; have n6_ := Aside0.mk (nl_ hg (qk_ BK368.out) : gb368 ≠ gb373); have n7_ := Aside0.mk (ng_ hg (qk_ BK368.out) : gb373 ≠ gb368); have n8_ := Aside0.mk (nl_ hg (qk_ BK369.out) : gb369 ≠ gb373); have n9_ := Aside0.mk (ng_ hg (qk_ BK369.out) : gb373 ≠ gb369); clear BK368; clear BK369; clear HB; have BK368 := n0_; have BK369 := n1_; have HB := n2_; have BK373 := n3_; have GW373 := n4_; have GE373 := n5_; have NB368_373 := n6_; have NB373_368 := n7_; have NB369_373 := n8_; have NB373_369 := n9_; clear n0_ n1_ n2_ n3_ n4_ n5_ n6_ n7_ n8_ n9_; clear hb hbox hg; have hnb14 := NB373_368.out; have hnc14 := NB368_373.out; have hnb15 := NB373_369.out; have hnc15 := NB369_373.out; have hcz16_0 : w13.cell? ⟨gb373, 0, none⟩ = some (.int .u64 0) := (blk_cell BK373.out 0).trans rfl; have hcz16_1 : w13.cell? ⟨gb373, 1, none⟩ = some (.int .u64 0) := (blk_cell BK373.out 1).trans rfl; have hfz16_0 := blk_frozen BK373.out 0; have hfz16_1 := blk_frozen BK373.out 1))
 have n0_ : Aside0 (((w13.setCell ⟨gb373, 0, none⟩ (.int .u64 t371)).setCell ⟨gb373, 1, none⟩ (.int .u64 t372)).heap[gb368]? = some (.cells #[.int .i64 a0_0, .int .u64 a0_1] 24 (0, 0))) := ⟨qff_ NB368_373.out NB368_373.out BK368.out⟩
 have n1_ : Aside0 (((w13.setCell ⟨gb373, 0, none⟩ (.int .u64 t371)).setCell ⟨gb373, 1, none⟩ (.int .u64 t372)).heap[gb369]? = some (.cells #[.int .i64 0, .int .u64 0] 24 (0, 0))) := ⟨qff_ NB369_373.out NB369_373.out BK369.out⟩
 have n2_ : Aside0 (((w13.setCell ⟨gb373, 0, none⟩ (.int .u64 t371)).setCell ⟨gb373, 1, none⟩ (.int .u64 t372)).heap[gb373]? = some (.cells #[.int .u64 t371, .int .u64 t372] 54 (0, 0))) := ⟨qpp_ #[.int .u64 t371, .int .u64 0] 1 #[.int .u64 0, .int .u64 0] 0 BK373.out⟩
 have n3_ : Aside0 (Below w.heap.size w ((w13.setCell ⟨gb373, 0, none⟩ (.int .u64 t371)).setCell ⟨gb373, 1, none⟩ (.int .u64 t372))) := ⟨qb3_ GE368.out GE369.out GE373.out HB.out⟩
 (try clear BK368)
 (try clear BK369)
 (try clear BK373)
 (try clear HB)
 generalize ((w13.setCell ⟨gb373, 0, none⟩ (.int .u64 t371)).setCell ⟨gb373, 1, none⟩ (.int .u64 t372)) = w17 at n0_ n1_ n2_ n3_ ⊢
 have BK368 := n0_
 have BK369 := n1_
 have BK373 := n2_
 have HB := n3_
 clear n0_ n1_ n2_ n3_
 have n0_ := Aside0.mk (blk_drew BK368.out)
 have n1_ := Aside0.mk (blk_drew BK369.out)
 have n2_ := Aside0.mk (blk_drew BK373.out)
 have n3_ := Aside0.mk (below_drew1 HB.out)
 clear BK368
 clear BK369
 clear BK373
 clear HB
 have BK368 := n0_
 have BK369 := n1_
 have BK373 := n2_
 have HB := n3_
 clear n0_ n1_ n2_ n3_
 refine start_ (n := 10) (S := fun w' => w'.cell? ⟨gb373, 0, none⟩ = some (.int .u64 t371) ∧ w'.cell? ⟨gb373, 1, none⟩ = some (.int .u64 t372)) (ds := []) (nb_ 10 0) (by kernel_rfl) rfl rfl ⟨(blk_cell BK373.out 0).trans rfl, (blk_cell BK373.out 1).trans rfl⟩ (fun hHeld => ?_); refine with_tabW corebankref01_ScaleP.tab2 corebankref01_ScaleP.bits2 (fun HT_ HW_ => ?_)
 generalize w17.drew = w18 at BK368 BK369 BK373 HB hHeld ⊢
 refine pz_ 1 19 (nb_ 10 2) HT_.out ?_
 refine tk2_ 0 18 (nb_ 10 3) HT_.out HW_.out hHeld ?_
 refine join_ (σ := Nat) 2 (nb_ 10 255) (fun s_ => [(20, .int .u64 t374), (21, .tuple #[.agg #[.int .u64 t375, .int .u64 t376], .bool t377]), (8, .pointer (some ⟨s_, 0, none⟩)), (17, .tuple #[.agg #[.int .u64 t375, .int .u64 t376], .bool t377]), (22, .agg #[.int .u64 t375, .int .u64 t376]), (23, .bool t377)]) (fun s_ w' => (w'.cell? ⟨gb373, 0, none⟩ = some (.int .u64 t371) ∧ w'.cell? ⟨gb373, 1, none⟩ = some (.int .u64 t372)) ∧ (w'.heap[gb368]? = some (.cells #[.int .i64 a0_0, .int .u64 a0_1] 24 (0, 0))) ∧ (w'.heap[gb369]? = some (.cells #[.int .i64 0, .int .u64 0] 24 (0, 0))) ∧ (w'.heap[gb373]? = some (.cells #[.int .u64 t371, .int .u64 t372] 54 (0, 0))) ∧ (w'.heap[s_]? = some (.cells #[.int .u64 0, .int .u64 0] 54 (0, 0))) ∧ (w.heap.size ≤ s_) ∧ (w.heap.size ≤ s_) ∧ (gb368 ≠ s_) ∧ (s_ ≠ gb368) ∧ (gb369 ≠ s_) ∧ (s_ ≠ gb369) ∧ (gb373 ≠ s_) ∧ (s_ ≠ gb373) ∧ (Below w.heap.size w w')) ?_ ?_
 rotate_left
 ·intro hCont
  refine two_ (i := 2) (j := 7) (Ni := some 20) (Nj := some 8) (nb_ 10 7) (nb_ 10 131) rfl rfl rfl rfl (two_of HT_.out (by kernel_rfl)) (by decide) (by decide) (fun K hK => ?_) (fun K hK => ?_)
  ·skip
   refine goes_ Tryd.func62 (by kernel_rfl) rfl #[.int .i64 a1] (by rfl) rfl rfl ql_ ?_
   with_reducible refine (corebankref01_size.calls a1 t374 _ A4.out).mono ?_
   rintro e w' ⟨rfl, ⟨nd, rfl⟩⟩
   refine ⟨_, rfl, ?_⟩
   refine hK.out _ _ ⟨(blk_cell BK373.out 0).trans rfl, (blk_cell BK373.out 1).trans rfl⟩ (fun hHeld => ?_)
   clear hK K
   refine no_ ?_
   refine two_ (i := 3) (j := 7) (Ni := some 21) (Nj := some 8) (nb_ 10 15) (nb_ 10 135) rfl rfl rfl rfl (two_of HT_.out (by kernel_rfl)) (by decide) (by decide) (fun K hK => ?_) (fun K hK => ?_)
   ·skip
    refine goes_ Tryd.func61 (by kernel_rfl) rfl #[.agg #[.int .u64 t371, .int .u64 t372], .int .u64 t374] (by rfl) rfl rfl ql_ ?_
    with_reducible refine (corebankref01_times.calls t371 t372 t374 t375 t376 t377 _ A5.out).mono ?_
    rintro e w19 ⟨rfl, hb⟩
    refine ⟨_, rfl, ?_⟩
    have n0_ := Aside0.mk (blk_below (qk_ BK368.out) hb)
    have n1_ := Aside0.mk (blk_below (qk_ BK369.out) hb)
    have n2_ := Aside0.mk (blk_below (qk_ BK373.out) hb)
    have n3_ := Aside0.mk (below_step (qb3_ GE368.out GE369.out GE373.out HB.out) hb)
    clear BK368
    clear BK369
    clear BK373
    clear HB
    have BK368 := n0_
    have BK369 := n1_
    have BK373 := n2_
    have HB := n3_
    clear n0_ n1_ n2_ n3_
    (try clear hb)
    (try clear hb2)
    (try clear hk)
    (try clear hi)
    refine hK.out _ _ ⟨(blk_cell BK373.out 0).trans rfl, (blk_cell BK373.out 1).trans rfl⟩ (fun hHeld => ?_)
    clear hK K
    refine no_ ?_
    refine pz_ 4 17 (nb_ 10 31) HT_.out ?_
    refine pz_ 5 22 (nb_ 10 63) HT_.out ?_
    refine pz_ 6 23 (nb_ 10 127) HT_.out ?_
    refine on_ 7 8 (nb_ 10 255) HT_.out (fun K hK => ?_)
    refine box_step ?hg (N := 8) ?hd (cs := #[.int .u64 0, .int .u64 0]) (t := 54) ?hr ?_; (case hd => rfl); (case hg => rfl); (case hr => first | (go_simp; done) | (go_simp; rfl))
    intro gb378 hg w20 hbox hb
    have n0_ := Aside0.mk (blk_below (qk_ BK368.out) hb)
    have n1_ := Aside0.mk (blk_below (qk_ BK369.out) hb)
    have n2_ := Aside0.mk (blk_below (qk_ BK373.out) hb)
    have n3_ := Aside0.mk (below_step (qb3_ GE368.out GE369.out GE373.out HB.out) hb)
    have n4_ := Aside0.mk (hbox)
    have n5_ := Aside0.mk (bz_ hg (qb3_ GE368.out GE369.out GE373.out HB.out) : w.heap.size ≤ gb378)
    have n6_ := Aside0.mk (bz_ hg (qb3_ GE368.out GE369.out GE373.out HB.out) : w.heap.size ≤ gb378)
    have n7_ := Aside0.mk (nl_ hg (qk_ BK368.out) : gb368 ≠ gb378)
    have n8_ := Aside0.mk (ng_ hg (qk_ BK368.out) : gb378 ≠ gb368)
    have n9_ := Aside0.mk (nl_ hg (qk_ BK369.out) : gb369 ≠ gb378)
    have n10_ := Aside0.mk (ng_ hg (qk_ BK369.out) : gb378 ≠ gb369)
    have n11_ := Aside0.mk (nl_ hg (qk_ BK373.out) : gb373 ≠ gb378)
    have n12_ := Aside0.mk (ng_ hg (qk_ BK373.out) : gb378 ≠ gb373)
    clear BK368
    clear BK369
    clear BK373
    clear HB
    have BK368 := n0_
    have BK369 := n1_
    have BK373 := n2_
    have HB := n3_
    have BK378 := n4_
    have GW378 := n5_
    have GE378 := n6_
    have NB368_378 := n7_
    have NB378_368 := n8_
    have NB369_378 := n9_
    have NB378_369 := n10_
    have NB373_378 := n11_
    have NB378_373 := n12_
    clear n0_ n1_ n2_ n3_ n4_ n5_ n6_ n7_ n8_ n9_ n10_ n11_ n12_
    clear hb hbox hg
    refine hK.out _ _ ⟨(blk_cell BK373.out 0).trans rfl, (blk_cell BK373.out 1).trans rfl⟩ (fun hHeld => ?_)
    clear hK K
    refine no_ ?_
    exact norm_ (by simp only [putAll, Act.put, List.setIfInBounds_toArray, List.set_cons_zero, List.set_cons_succ]) (hCont (gb378) _ ⟨hHeld, (qk_ BK368.out), (qk_ BK369.out), (qk_ BK373.out), (qk_ BK378.out), GW378.out, GE378.out, NB368_378.out, NB378_368.out, NB369_378.out, NB378_369.out, NB373_378.out, NB378_373.out, (qb4_ GE368.out GE369.out GE373.out GE378.out HB.out)⟩)
   ·skip
    refine box_step ?hg (N := 8) ?hd (cs := #[.int .u64 0, .int .u64 0]) (t := 54) ?hr ?_; (case hd => rfl); (case hg => rfl); (case hr => first | (go_simp; done) | (go_simp; rfl))
    intro gb378 hg w19 hbox hb
    have n0_ := Aside0.mk (blk_below (qk_ BK368.out) hb)
    have n1_ := Aside0.mk (blk_below (qk_ BK369.out) hb)
    have n2_ := Aside0.mk (blk_below (qk_ BK373.out) hb)
    have n3_ := Aside0.mk (below_step (qb3_ GE368.out GE369.out GE373.out HB.out) hb)
    have n4_ := Aside0.mk (hbox)
    have n5_ := Aside0.mk (bz_ hg (qb3_ GE368.out GE369.out GE373.out HB.out) : w.heap.size ≤ gb378)
    have n6_ := Aside0.mk (bz_ hg (qb3_ GE368.out GE369.out GE373.out HB.out) : w.heap.size ≤ gb378)
    have n7_ := Aside0.mk (nl_ hg (qk_ BK368.out) : gb368 ≠ gb378)
    have n8_ := Aside0.mk (ng_ hg (qk_ BK368.out) : gb378 ≠ gb368)
    have n9_ := Aside0.mk (nl_ hg (qk_ BK369.out) : gb369 ≠ gb378)
    have n10_ := Aside0.mk (ng_ hg (qk_ BK369.out) : gb378 ≠ gb369)
    have n11_ := Aside0.mk (nl_ hg (qk_ BK373.out) : gb373 ≠ gb378)
    have n12_ := Aside0.mk (ng_ hg (qk_ BK373.out) : gb378 ≠ gb373)
    clear BK368
    clear BK369
    clear BK373
    clear HB
    have BK368 := n0_
    have BK369 := n1_
    have BK373 := n2_
    have HB := n3_
    have BK378 := n4_
    have GW378 := n5_
    have GE378 := n6_
    have NB368_378 := n7_
    have NB378_368 := n8_
    have NB369_378 := n9_
    have NB378_369 := n10_
    have NB373_378 := n11_
    have NB378_373 := n12_
    clear n0_ n1_ n2_ n3_ n4_ n5_ n6_ n7_ n8_ n9_ n10_ n11_ n12_
    clear hb hbox hg
    refine hK.out _ _ ⟨(blk_cell BK373.out 0).trans rfl, (blk_cell BK373.out 1).trans rfl⟩ (fun hHeld => ?_)
    clear hK K
    refine no_ ?_
    refine on_ 3 21 (nb_ 10 143) HT_.out (fun K hK => ?_)
    refine goes_ Tryd.func61 (by kernel_rfl) rfl #[.agg #[.int .u64 t371, .int .u64 t372], .int .u64 t374] (by rfl) rfl rfl ql_ ?_
    with_reducible refine (corebankref01_times.calls t371 t372 t374 t375 t376 t377 _ A5.out).mono ?_
    rintro e w20 ⟨rfl, hb⟩
    refine ⟨_, rfl, ?_⟩
    have n0_ := Aside0.mk (blk_below (qk_ BK368.out) hb)
    have n1_ := Aside0.mk (blk_below (qk_ BK369.out) hb)
    have n2_ := Aside0.mk (blk_below (qk_ BK373.out) hb)
    have n3_ := Aside0.mk (blk_below (qk_ BK378.out) hb)
    have n4_ := Aside0.mk (below_step (qb4_ GE368.out GE369.out GE373.out GE378.out HB.out) hb)
    clear BK368
    clear BK369
    clear BK373
    clear BK378
    clear HB
    have BK368 := n0_
    have BK369 := n1_
    have BK373 := n2_
    have BK378 := n3_
    have HB := n4_
    clear n0_ n1_ n2_ n3_ n4_
    (try clear hb)
    (try clear hb2)
    (try clear hk)
    (try clear hi)
    refine hK.out _ _ ⟨(blk_cell BK373.out 0).trans rfl, (blk_cell BK373.out 1).trans rfl⟩ (fun hHeld => ?_)
    clear hK K
    refine no_ ?_
    refine pz_ 4 17 (nb_ 10 159) HT_.out ?_
    refine pz_ 5 22 (nb_ 10 191) HT_.out ?_
    refine pz_ 6 23 (nb_ 10 255) HT_.out ?_
    exact norm_ (by simp only [putAll, Act.put, List.setIfInBounds_toArray, List.set_cons_zero, List.set_cons_succ]) (hCont (gb378) _ ⟨hHeld, (qk_ BK368.out), (qk_ BK369.out), (qk_ BK373.out), (qk_ BK378.out), GW378.out, GE378.out, NB368_378.out, NB378_368.out, NB369_378.out, NB378_369.out, NB373_378.out, NB378_373.out, (qb4_ GE368.out GE369.out GE373.out GE378.out HB.out)⟩)
  ·skip
   refine box_step ?hg (N := 8) ?hd (cs := #[.int .u64 0, .int .u64 0]) (t := 54) ?hr ?_; (case hd => rfl); (case hg => rfl); (case hr => first | (go_simp; done) | (go_simp; rfl))
   intro gb378 hg w19 hbox hb
   have n0_ := Aside0.mk (blk_below (qk_ BK368.out) hb)
   have n1_ := Aside0.mk (blk_below (qk_ BK369.out) hb)
   have n2_ := Aside0.mk (blk_below (qk_ BK373.out) hb)
   have n3_ := Aside0.mk (below_step (qb3_ GE368.out GE369.out GE373.out HB.out) hb)
   have n4_ := Aside0.mk (hbox)
   have n5_ := Aside0.mk (bz_ hg (qb3_ GE368.out GE369.out GE373.out HB.out) : w.heap.size ≤ gb378)
   have n6_ := Aside0.mk (bz_ hg (qb3_ GE368.out GE369.out GE373.out HB.out) : w.heap.size ≤ gb378)
   have n7_ := Aside0.mk (nl_ hg (qk_ BK368.out) : gb368 ≠ gb378)
   have n8_ := Aside0.mk (ng_ hg (qk_ BK368.out) : gb378 ≠ gb368)
   have n9_ := Aside0.mk (nl_ hg (qk_ BK369.out) : gb369 ≠ gb378)
   have n10_ := Aside0.mk (ng_ hg (qk_ BK369.out) : gb378 ≠ gb369)
   have n11_ := Aside0.mk (nl_ hg (qk_ BK373.out) : gb373 ≠ gb378)
   have n12_ := Aside0.mk (ng_ hg (qk_ BK373.out) : gb378 ≠ gb373)
   clear BK368
   clear BK369
   clear BK373
   clear HB
   have BK368 := n0_
   have BK369 := n1_
   have BK373 := n2_
   have HB := n3_
   have BK378 := n4_
   have GW378 := n5_
   have GE378 := n6_
   have NB368_378 := n7_
   have NB378_368 := n8_
   have NB369_378 := n9_
   have NB378_369 := n10_
   have NB373_378 := n11_
   have NB378_373 := n12_
   clear n0_ n1_ n2_ n3_ n4_ n5_ n6_ n7_ n8_ n9_ n10_ n11_ n12_
   clear hb hbox hg
   refine hK.out _ _ ⟨(blk_cell BK373.out 0).trans rfl, (blk_cell BK373.out 1).trans rfl⟩ (fun hHeld => ?_)
   clear hK K
   refine no_ ?_
   refine on_ 2 20 (nb_ 10 135) HT_.out (fun K hK => ?_)
   refine goes_ Tryd.func62 (by kernel_rfl) rfl #[.int .i64 a1] (by rfl) rfl rfl ql_ ?_
   with_reducible refine (corebankref01_size.calls a1 t374 _ A4.out).mono ?_
   rintro e w' ⟨rfl, ⟨nd, rfl⟩⟩
   refine ⟨_, rfl, ?_⟩
   refine hK.out _ _ ⟨(blk_cell BK373.out 0).trans rfl, (blk_cell BK373.out 1).trans rfl⟩ (fun hHeld => ?_)
   clear hK K
   refine no_ ?_
   refine on_ 3 21 (nb_ 10 143) HT_.out (fun K hK => ?_)
   refine goes_ Tryd.func61 (by kernel_rfl) rfl #[.agg #[.int .u64 t371, .int .u64 t372], .int .u64 t374] (by rfl) rfl rfl ql_ ?_
   with_reducible refine (corebankref01_times.calls t371 t372 t374 t375 t376 t377 _ A5.out).mono ?_
   rintro e w20 ⟨rfl, hb⟩
   refine ⟨_, rfl, ?_⟩
   have n0_ := Aside0.mk (blk_below (qk_ BK368.out) hb)
   have n1_ := Aside0.mk (blk_below (qk_ BK369.out) hb)
   have n2_ := Aside0.mk (blk_below (qk_ BK373.out) hb)
   have n3_ := Aside0.mk (blk_below (qk_ BK378.out) hb)
   have n4_ := Aside0.mk (below_step (qb4_ GE368.out GE369.out GE373.out GE378.out HB.out) hb)
   clear BK368
   clear BK369
   clear BK373
   clear BK378
   clear HB
   have BK368 := n0_
   have BK369 := n1_
   have BK373 := n2_
   have BK378 := n3_
   have HB := n4_
   clear n0_ n1_ n2_ n3_ n4_
   (try clear hb)
   (try clear hb2)
   (try clear hk)
   (try clear hi)
   refine hK.out _ _ ⟨(blk_cell BK373.out 0).trans rfl, (blk_cell BK373.out 1).trans rfl⟩ (fun hHeld => ?_)
   clear hK K
   refine no_ ?_
   refine pz_ 4 17 (nb_ 10 159) HT_.out ?_
   refine pz_ 5 22 (nb_ 10 191) HT_.out ?_
   refine pz_ 6 23 (nb_ 10 255) HT_.out ?_
   exact norm_ (by simp only [putAll, Act.put, List.setIfInBounds_toArray, List.set_cons_zero, List.set_cons_succ]) (hCont (gb378) _ ⟨hHeld, (qk_ BK368.out), (qk_ BK369.out), (qk_ BK373.out), (qk_ BK378.out), GW378.out, GE378.out, NB368_378.out, NB378_368.out, NB369_378.out, NB378_369.out, NB373_378.out, NB378_373.out, (qb4_ GE368.out GE369.out GE373.out GE378.out HB.out)⟩)
 rintro gb378 w21 ⟨hS_, h0_, h1_, h2_, h3_, h4_, h5_, h6_, h7_, h8_, h9_, h10_, h11_, h12_⟩
 have n0_ : Aside0 (w21.heap[gb368]? = some (.cells #[.int .i64 a0_0, .int .u64 a0_1] 24 (0, 0))) := ⟨h0_⟩
 have n1_ : Aside0 (w21.heap[gb369]? = some (.cells #[.int .i64 0, .int .u64 0] 24 (0, 0))) := ⟨h1_⟩
 have n2_ : Aside0 (w21.heap[gb373]? = some (.cells #[.int .u64 t371, .int .u64 t372] 54 (0, 0))) := ⟨h2_⟩
 have n3_ : Aside0 (w21.heap[gb378]? = some (.cells #[.int .u64 0, .int .u64 0] 54 (0, 0))) := ⟨h3_⟩
 have n4_ : Aside0 (w.heap.size ≤ gb378) := ⟨h4_⟩
 have n5_ : Aside0 (w.heap.size ≤ gb378) := ⟨h5_⟩
 have n6_ : Aside0 (gb368 ≠ gb378) := ⟨h6_⟩
 have n7_ : Aside0 (gb378 ≠ gb368) := ⟨h7_⟩
 have n8_ : Aside0 (gb369 ≠ gb378) := ⟨h8_⟩
 have n9_ : Aside0 (gb378 ≠ gb369) := ⟨h9_⟩
 have n10_ : Aside0 (gb373 ≠ gb378) := ⟨h10_⟩
 have n11_ : Aside0 (gb378 ≠ gb373) := ⟨h11_⟩
 have n12_ : Aside0 (Below w.heap.size w w21) := ⟨h12_⟩
 clear BK368
 clear BK369
 clear BK373
 clear HB
 clear h0_ h1_ h2_ h3_ h4_ h5_ h6_ h7_ h8_ h9_ h10_ h11_ h12_
 have BK368 := n0_
 have BK369 := n1_
 have BK373 := n2_
 have BK378 := n3_
 have GW378 := n4_
 have GE378 := n5_
 have NB368_378 := n6_
 have NB378_368 := n7_
 have NB369_378 := n8_
 have NB378_369 := n9_
 have NB373_378 := n10_
 have NB378_373 := n11_
 have HB := n12_
 clear n0_ n1_ n2_ n3_ n4_ n5_ n6_ n7_ n8_ n9_ n10_ n11_ n12_
 have hHeld : w21.cell? ⟨gb373, 0, none⟩ = some (.int .u64 t371) ∧ w21.cell? ⟨gb373, 1, none⟩ = some (.int .u64 t372) := hS_
 refine norm_ (a' := ?_) ?_ ?_
 rotate_left
 ·simp only [putAll, Act.put, List.setIfInBounds_toArray, List.set_cons_zero, List.set_cons_succ]
  rfl
 refine one_ (i := 8) (N := none) (nb_ 10 511) rfl rfl (one_of HT_.out (by kernel_rfl)) (by decide) (fun K hK => ?_)
 have hs22 : w21.cell? ⟨gb378, 0, none⟩ = some (.int .u64 0) := (blk_cell BK378.out 0).trans rfl
 have hfs22 := blk_frozen BK378.out 0
 have hns22_0 := NB368_378.out
 have hns22_1 := NB369_378.out
 have hns22_2 := NB373_378.out
 have hms22_0 := NB378_368.out
 have hms22_1 := NB378_369.out
 have hms22_2 := NB378_373.out
 have hs23 : w21.cell? ⟨gb378, 1, none⟩ = some (.int .u64 0) := (blk_cell BK378.out 1).trans rfl
 have hfs23 := blk_frozen BK378.out 1
 have hns23_0 := NB368_378.out
 have hns23_1 := NB369_378.out
 have hns23_2 := NB373_378.out
 have hms23_0 := NB378_368.out
 have hms23_1 := NB378_369.out
 have hms23_2 := NB378_373.out
 refine skip_ (w1 := ?_) (by rfl) rfl ?_ ?_
 rotate_left
 ·go_simp
  rfl
 refine hK.out _ _ ⟨((cell_far (p := ⟨gb378, _, none⟩) NB373_378.out _).trans (((cell_far (p := ⟨gb378, _, none⟩) NB373_378.out _).trans (hHeld.1)))), ((cell_far (p := ⟨gb378, _, none⟩) NB373_378.out _).trans (((cell_far (p := ⟨gb378, _, none⟩) NB373_378.out _).trans (hHeld.2))))⟩ (fun hHeld => ?_)
 clear hK K
 refine pz_ 9 9 (nb_ 10 1023) HT_.out ?_
 refine done_ (done_of HT_.out (by kernel_rfl)) ?_
 have hnb24 := NB378_368.out
 have hnc24 := NB368_378.out
 have hnb25 := NB378_369.out
 have hnc25 := NB369_378.out
 have hnb26 := NB378_373.out
 have hnc26 := NB373_378.out
 have hcz27_0 : w21.cell? ⟨gb378, 0, none⟩ = some (.int .u64 0) := (blk_cell BK378.out 0).trans rfl
 have hcz27_1 : w21.cell? ⟨gb378, 1, none⟩ = some (.int .u64 0) := (blk_cell BK378.out 1).trans rfl
 have hfz27_0 := blk_frozen BK378.out 0
 have hfz27_1 := blk_frozen BK378.out 1
 go_upto_region 4 with (first | ((with_reducible refine gate_callee (f := 49) rfl ?_); refine goesL_ (some 30) rfl rfl Tryd.func49 (by kernel_rfl) rfl #[.bool (t370 != (decide (a1 < 0))), .agg #[.int .u64 t375, .int .u64 t376]] rfl ql_ ?_; (with_reducible refine (corebankref01_Join.calls (t370 != (decide (a1 < 0))) t375 t376 t379 t380 t381 _ A6.out).mono ?_); rintro e w28 ⟨rfl, hb⟩; refine ⟨_, rfl, ?_⟩; have n0_ := Aside0.mk (blk_below (g := gb368) (o := .cells #[.int .i64 a0_0, .int .u64 a0_1] 24 (0, 0)) (qff_ NB368_378.out NB368_378.out BK368.out) hb); have n1_ := Aside0.mk (blk_below (g := gb369) (o := .cells #[.int .i64 0, .int .u64 0] 24 (0, 0)) (qff_ NB369_378.out NB369_378.out BK369.out) hb); have n2_ := Aside0.mk (blk_below (g := gb373) (o := .cells #[.int .u64 t371, .int .u64 t372] 54 (0, 0)) (qff_ NB373_378.out NB373_378.out BK373.out) hb); have n3_ := Aside0.mk (blk_below (g := gb378) (o := .cells #[.int .u64 t375, .int .u64 t376] 54 (0, 0)) (qpp_ #[.int .u64 t375, .int .u64 0] 1 #[.int .u64 0, .int .u64 0] 0 BK378.out) hb); have n4_ := Aside0.mk (below_step (qb4_ GE368.out GE369.out GE373.out GE378.out HB.out) hb); clear BK368; clear BK369; clear BK373; clear BK378; clear HB; have BK368 := n0_; have BK369 := n1_; have BK373 := n2_; have BK378 := n3_; have HB := n4_; clear n0_ n1_ n2_ n3_ n4_; (try clear hb); (try clear hb2); (try clear hk); (try clear hi)) | ((with_reducible refine gate_dst (N := 10) rfl ?_); refine be_ (N := 10) (cs := #[.int .i64 0, .int .u64 0]) (t := 24) ?_; intro gb382 hg w29 hbox hb; have n0_ := Aside0.mk (blk_below (qk_ BK368.out) hb); have n1_ := Aside0.mk (blk_below (qk_ BK369.out) hb); have n2_ := Aside0.mk (blk_below (qk_ BK373.out) hb); have n3_ := Aside0.mk (blk_below (qk_ BK378.out) hb); have n4_ := Aside0.mk (below_step (qb4_ GE368.out GE369.out GE373.out GE378.out HB.out) hb); have n5_ := Aside0.mk (hbox); have n6_ := Aside0.mk (bz_ hg (qb4_ GE368.out GE369.out GE373.out GE378.out HB.out) : w.heap.size ≤ gb382); have n7_ := n6_; have n8_ := Aside0.mk (nl_ hg (qk_ BK368.out) : gb368 ≠ gb382); have n9_ := Aside0.mk (ng_ hg (qk_ BK368.out) : gb382 ≠ gb368); have n10_ := Aside0.mk (nl_ hg (qk_ BK369.out) : gb369 ≠ gb382); have n11_ := Aside0.mk (ng_ hg (qk_ BK369.out) : gb382 ≠ gb369); have n12_ := Aside0.mk (nl_ hg (qk_ BK373.out) : gb373 ≠ gb382); have n13_ := Aside0.mk (ng_ hg (qk_ BK373.out) : gb382 ≠ gb373); have n14_ := Aside0.mk (nl_ hg (qk_ BK378.out) : gb378 ≠ gb382); have n15_ := Aside0.mk (ng_ hg (qk_ BK378.out) : gb382 ≠ gb378); clear BK368; clear BK369; clear BK373; clear BK378; clear HB; have BK368 := n0_; have BK369 := n1_; have BK373 := n2_; have BK378 := n3_; have HB := n4_; have BK382 := n5_; have GW382 := n6_; have GE382 := n7_; have NB368_382 := n8_; have NB382_368 := n9_; have NB369_382 := n10_; have NB382_369 := n11_; have NB373_382 := n12_; have NB382_373 := n13_; have NB378_382 := n14_; have NB382_378 := n15_; clear n0_ n1_ n2_ n3_ n4_ n5_ n6_ n7_ n8_ n9_ n10_ n11_ n12_ n13_ n14_ n15_; clear hb hbox hg; have hnb30 := NB382_368.out; have hnc30 := NB368_382.out; have hnb31 := NB382_369.out; have hnc31 := NB369_382.out; have hnb32 := NB382_373.out; have hnc32 := NB373_382.out; have hnb33 := NB382_378.out; have hnc33 := NB378_382.out; have hcz34_0 : w29.cell? ⟨gb382, 0, none⟩ = some (.int .i64 0) := (blk_cell BK382.out 0).trans rfl; have hcz34_1 : w29.cell? ⟨gb382, 1, none⟩ = some (.int .u64 0) := (blk_cell BK382.out 1).trans rfl; have hfz34_0 := blk_frozen BK382.out 0; have hfz34_1 := blk_frozen BK382.out 1))
 (try simp only [Act.put, List.setIfInBounds_toArray, List.set_cons_zero, List.set_cons_succ])
 go_cut [38] (fun v38 wc => ∃ (kq : Nat) (x38_6 : Bool), v38 = .bool x38_6 ∧ Aside0 (corebankref01_ScaleP.j0 kq x38_6 t379 t380 = some (r1, r2, r3)) ∧ Aside0 (kq ≤ k) ∧ Aside0 (wc.heap[gb368]? = some (.cells #[.int .i64 a0_0, .int .u64 a0_1] 24 (0, 0))) ∧ Aside0 (wc.heap[gb369]? = some (.cells #[.int .i64 0, .int .u64 0] 24 (0, 0))) ∧ Aside0 (wc.heap[gb373]? = some (.cells #[.int .u64 t371, .int .u64 t372] 54 (0, 0))) ∧ Aside0 (wc.heap[gb378]? = some (.cells #[.int .u64 t375, .int .u64 t376] 54 (0, 0))) ∧ Aside0 (wc.heap[gb382]? = some (.cells #[.int .i64 t379, .int .u64 t380] 24 (0, 0))) ∧ Aside0 (Below w.heap.size w wc))
 case first =>
  have H := HC7.out
  clear HC7
  by_cases c35 : t377 = true
  ·subst c35
   have H1 : (corebankref01_ScaleP.j0 k (!t381) t379 t380) = some (r1, r2, r3) := by rw [if_pos rfl] at H; exact H
   clear H
   have H := H1
   clear H1
   have H' := Aside0.mk H
   clear H
   go_wp2
   go_meet
   case rel => exact ⟨_, (!t381), qs_, H', ⟨qo_⟩, ⟨qff_ NB368_382.out NB368_382.out BK368.out⟩, ⟨qff_ NB369_382.out NB369_382.out BK369.out⟩, ⟨qff_ NB373_382.out NB373_382.out BK373.out⟩, ⟨qff_ NB378_382.out NB378_382.out BK378.out⟩, ⟨qpp_ #[.int .i64 t379, .int .u64 0] 1 #[.int .i64 0, .int .u64 0] 0 BK382.out⟩, ⟨qb5_ GE368.out GE369.out GE373.out GE378.out GE382.out HB.out⟩⟩
  ·replace c35 := Bool.eq_false_iff.mpr c35
   subst c35
   have H1 : (corebankref01_ScaleP.j0 k true t379 t380) = some (r1, r2, r3) := by rw [if_neg (show ¬ (false = true) by decide)] at H; exact H
   clear H
   have H := H1
   clear H1
   have H' := Aside0.mk H
   clear H
   go_wp2
   go_meet
   case rel => exact ⟨_, (true), qs_, H', ⟨qo_⟩, ⟨qff_ NB368_382.out NB368_382.out BK368.out⟩, ⟨qff_ NB369_382.out NB369_382.out BK369.out⟩, ⟨qff_ NB373_382.out NB373_382.out BK373.out⟩, ⟨qff_ NB378_382.out NB378_382.out BK378.out⟩, ⟨qpp_ #[.int .i64 t379, .int .u64 0] 1 #[.int .i64 0, .int .u64 0] 0 BK382.out⟩, ⟨qb5_ GE368.out GE369.out GE373.out GE378.out GE382.out HB.out⟩⟩
 case rest =>
  clear HC7
  try clear c1
  try clear c2
  try clear p2
  try clear c3
  try clear c4
  try clear c6
  try clear c10
  try clear c14
  try clear c15
  try clear c24
  try clear c25
  try clear c26
  try clear c30
  try clear c31
  try clear c32
  try clear c33
  try clear c35
  try clear hcz11_0
  try clear hcz11_1
  try clear hcz16_0
  try clear hcz16_1
  try clear hcz27_0
  try clear hcz27_1
  try clear hcz34_0
  try clear hcz34_1
  try clear hfz11_0
  try clear hfz11_1
  try clear hfz16_0
  try clear hfz16_1
  try clear hfz27_0
  try clear hfz27_1
  try clear hfz34_0
  try clear hfz34_1
  obtain ⟨kq, x38_6, rfl, HA, HJ6, BK368, BK369, BK373, BK378, BK382, HB⟩ := hcut
  cases kq with
  | zero => exact absurd HA.out (by simp [corebankref01_ScaleP.j0])
  | succ kj6 =>
   have H := HA.out
   clear HA
   simp only [corebankref01_ScaleP.j0] at H
   by_cases c36 : x38_6 = true
   ·subst c36
    have H1 : (some (0, 0, 6)) = some (r1, r2, r3) := by rw [if_pos rfl] at H; exact H
    clear H
    have H := H1
    clear H1
    simp only [Option.some.injEq, Prod.mk.injEq] at H
    obtain ⟨rfl, rfl, rfl⟩ := H
    have hnb37 := NB369_368.out
    have hnc37 := NB368_369.out
    have hnb38 := NB369_373.out
    have hnc38 := NB373_369.out
    have hnb39 := NB369_378.out
    have hnc39 := NB378_369.out
    have hnb40 := NB369_382.out
    have hnc40 := NB382_369.out
    have hcz41_0 : wc.cell? ⟨gb369, 0, none⟩ = some (.int .i64 0) := (blk_cell BK369.out 0).trans rfl
    have hcz41_1 : wc.cell? ⟨gb369, 1, none⟩ = some (.int .u64 0) := (blk_cell BK369.out 1).trans rfl
    have hfz41_0 := blk_frozen BK369.out 0
    have hfz41_1 := blk_frozen BK369.out 1
    go_wp2
    refine bodyPost_ret (results_ct rfl _ _ gb369 24 #[.int .i64 0, .int .u64 0] (0, 0) _ rfl (qpp_ #[.int .i64 0, .int .u64 0] 1 #[.int .i64 0, .int .u64 0] 0 BK369.out) Tryd.underlying24 rfl (by kernel_rfl)) rfl ?_
    exact ⟨qe_, qb5_ GE368.out GE369.out GE373.out GE378.out GE382.out HB.out⟩
   ·replace c36 := Bool.eq_false_iff.mpr c36
    subst c36
    have H1 : (some (t379, t380, 0)) = some (r1, r2, r3) := by rw [if_neg (show ¬ (false = true) by decide)] at H; exact H
    clear H
    have H := H1
    clear H1
    simp only [Option.some.injEq, Prod.mk.injEq] at H
    obtain ⟨rfl, rfl, rfl⟩ := H
    have hnb42 := NB382_368.out
    have hnc42 := NB368_382.out
    have hnb43 := NB382_369.out
    have hnc43 := NB369_382.out
    have hnb44 := NB382_373.out
    have hnc44 := NB373_382.out
    have hnb45 := NB382_378.out
    have hnc45 := NB378_382.out
    have hcz46_0 : wc.cell? ⟨gb382, 0, none⟩ = some (.int .i64 t379) := (blk_cell BK382.out 0).trans rfl
    have hcz46_1 : wc.cell? ⟨gb382, 1, none⟩ = some (.int .u64 t380) := (blk_cell BK382.out 1).trans rfl
    have hfz46_0 := blk_frozen BK382.out 0
    have hfz46_1 := blk_frozen BK382.out 1
    have hnb47 := NB369_368.out
    have hnc47 := NB368_369.out
    have hnb48 := NB369_373.out
    have hnc48 := NB373_369.out
    have hnb49 := NB369_378.out
    have hnc49 := NB378_369.out
    have hcz50_0 : wc.cell? ⟨gb369, 0, none⟩ = some (.int .i64 0) := (blk_cell BK369.out 0).trans rfl
    have hcz50_1 : wc.cell? ⟨gb369, 1, none⟩ = some (.int .u64 0) := (blk_cell BK369.out 1).trans rfl
    have hfz50_0 := blk_frozen BK369.out 0
    have hfz50_1 := blk_frozen BK369.out 1
    go_wp2
    refine bodyPost_ret (results_ct rfl _ _ gb369 24 #[.int .i64 t379, .int .u64 t380] (0, 0) _ rfl (qpp_ #[.int .i64 t379, .int .u64 0] 1 #[.int .i64 0, .int .u64 0] 0 BK369.out) Tryd.underlying24 rfl (by kernel_rfl)) rfl ?_
    exact ⟨qe_, qb5_ GE368.out GE369.out GE373.out GE378.out GE382.out HB.out⟩
end Go.Proofs.YtkdhippoibjfkaaDoor.PR
end
section
namespace Go.Proofs.YtkdhippoibjfkaaDoor.PR
open Go.RowKit Go.Proofs.YtkdhippoibjfkaaDoorW.PrintWords Go.Proofs.YtkdhippoibjfkaaDoorW.PrintLast
set_option linter.unusedVariables false
set_option linter.unusedSimpArgs false
def corebankref01_Scale.f (a0_0 a0_1 a1 : Int) : Option (Int × Int × Int) :=
 if isW a0_0 a0_1 ∧ inI a1 then some (if in128 (wv a0_0 a0_1 * a1) then (wv a0_0 a0_1 * a1 / 18446744073709551616, wv a0_0 a0_1 * a1 % 18446744073709551616, 0) else (0, 0, 6)) else none
theorem mul_abs' (v n : Int) : (if v < 0 then -v else v) * (if n < 0 then -n else n) = (if (decide (v < 0) != decide (n < 0)) = true then -(v * n) else v * n) ∧ 0 ≤ (if v < 0 then -v else v) * (if n < 0 then -n else n) := by
 have h0 : 0 ≤ (if v < 0 then -v else v) := by split <;> omega
 have h1 : 0 ≤ (if n < 0 then -n else n) := by split <;> omega
 refine ⟨?_, Int.mul_nonneg h0 h1⟩
 by_cases ha : v < 0 <;> by_cases hb : n < 0 <;> simp [ha, hb, Int.neg_mul, Int.mul_neg]
theorem corebankref01_Scale.eq {a b n : Int} {r : Int × Int × Int} (h : corebankref01_Scale.f a b n = some r) : ∃ k, corebankref01_ScaleP.f k a b n = some r := by
 unfold corebankref01_Scale.f at h
 split at h
 ·rename_i q
  obtain ⟨⟨⟨a0, a1⟩, b0, b1⟩, n0, n1⟩ := q
  injection h with h
  subst h
  refine ⟨1, ?_⟩
  unfold corebankref01_ScaleP.f corebankref01_Split.f corebankref01_size.f
  have hW : isW a b := ⟨⟨a0, a1⟩, b0, b1⟩
  have hI : inI n := ⟨n0, n1⟩
  rw [if_pos hW, if_pos hI]
  simp only [Option.bind_some]
  have hv : wv a b = a * 18446744073709551616 + b := rfl
  have hs : decide (a < 0) = decide (wv a b < 0) := by apply decide_eq_decide.mpr; omega
  have hm : (if a < 0 then -(wv a b) else wv a b) = (if wv a b < 0 then -(wv a b) else wv a b) := by split <;> split <;> omega
  rw [hm, hs]
  have mr : 0 ≤ (if wv a b < 0 then -(wv a b) else wv a b) ∧ (if wv a b < 0 then -(wv a b) else wv a b) ≤ 170141183460469231731687303715884105728 := by split <;> omega
  have nr : 0 ≤ (if n < 0 then -n else n) ∧ (if n < 0 then -n else n) ≤ 9223372036854775808 := by split <;> omega
  obtain ⟨z1, z2⟩ := mul_abs' (wv a b) n
  generalize wv a b = v at *
  generalize (if v < 0 then -v else v) = M at *
  generalize (if n < 0 then -n else n) = N at *
  have hU : (inU (M / 18446744073709551616) ∧ inU (M % 18446744073709551616)) ∧ inU N := ⟨⟨by unfold inU; omega, by unfold inU; omega⟩, by unfold inU; omega⟩
  have hwM : wv (M / 18446744073709551616) (M % 18446744073709551616) = M := by unfold wv; omega
  unfold corebankref01_times.f
  rw [if_pos hU, hwM]
  simp only [Option.bind_some]
  unfold corebankref01_Join.f
  have hU2 : inU (M * N / 18446744073709551616 % 18446744073709551616) ∧ inU (M * N % 18446744073709551616) := ⟨by unfold inU; omega, by unfold inU; omega⟩
  have hw2 : wv (M * N / 18446744073709551616 % 18446744073709551616) (M * N % 18446744073709551616) = M * N % 340282366920938463463374607431768211456 := by unfold wv; omega
  rw [if_pos hU2, hw2]
  simp only [Option.bind_some]
  generalize (decide (v < 0) != decide (n < 0)) = sg at *
  have hvn : v * n = if sg = true then -(M * N) else M * N := by split at z1 <;> split <;> simp_all
  rw [hvn]
  generalize M * N = V at *
  by_cases hV : V < 340282366920938463463374607431768211456
  ·rw [if_pos (decide_eq_true hV), Int.emod_eq_of_lt z2 hV]
   simp only [corebankref01_ScaleP.j0]
   by_cases hin : in128 (if sg = true then -V else V)
   ·rw [if_pos hin, decide_eq_true hin, if_neg (by decide)]
    have : wrap64 ((if sg = true then -V else V) / 18446744073709551616) = (if sg = true then -V else V) / 18446744073709551616 := i64_id _ (by unfold in128 at hin; omega) (by unfold in128 at hin; omega)
    rw [this]
   ·rw [if_neg hin, decide_eq_false hin, if_pos (by decide)]
  ·rw [if_neg (by simpa using hV)]
   simp only [corebankref01_ScaleP.j0]
   rw [if_pos trivial, if_neg (by unfold in128; split <;> omega)]
 ·cases h
theorem corebankref01_Scale.calls (a0_0 : Int) (a0_1 : Int) (a1 : Int) (r1 : Int) (r2 : Int) (r3 : Int) (w : World) (h : corebankref01_Scale.f a0_0 a0_1 a1 = some (r1, r2, r3)) :
  Calls Tryd.prog 45 #[.agg #[.int .i64 a0_0, .int .u64 a0_1], .int .i64 a1] w fun e w' => e = .returned (.tuple #[.agg #[.int .i64 r1, .int .u64 r2], .int .i64 r3]) ∧ Below w.heap.size w w' := by
 obtain ⟨k, h⟩ := corebankref01_Scale.eq h
 exact corebankref01_ScaleP.calls k a0_0 a0_1 a1 r1 r2 r3 w h
def corebankref01_MulP.f (a0 : Int) (a1 : Int) : Option (Int × Int) := (corebankref01_Of.f a0).bind fun bt384 => ((corebankref01_Scale.f bt384.1 bt384.2 a1).bind fun bt386 => (some (bt386.1, bt386.2.1)))
set_option maxHeartbeats 8000000 in
set_option maxRecDepth 100000 in
theorem corebankref01_MulP.calls (a0 : Int) (a1 : Int) (r1 : Int) (r2 : Int) (w : World) (h : corebankref01_MulP.f a0 a1 = some (r1, r2)) :
  Calls Tryd.prog 19 #[.int .i64 a0, .int .i64 a1] w fun e w' => e = .returned (.agg #[.int .i64 r1, .int .u64 r2]) ∧ Below w.heap.size w w' := by
 have hu24 := Tryd.underlying24
 have HB := Aside0.mk (Below.refl w.heap.size w)
 have H : ((corebankref01_Of.f a0).bind fun bt384 => ((corebankref01_Scale.f bt384.1 bt384.2 a1).bind fun bt386 => (some (bt386.1, bt386.2.1)))) = some (r1, r2) := h
 clear h
 replace H := Option.bind_eq_some_iff.mp H
 obtain ⟨⟨t384, t385⟩, A30, H⟩ := H
 replace H : ((corebankref01_Scale.f t384 t385 a1).bind fun bt386 => (some (bt386.1, bt386.2.1))) = some (r1, r2) := H
 have A3 := Aside0.mk A30
 clear A30
 replace H := Option.bind_eq_some_iff.mp H
 obtain ⟨⟨t386, t387, t388⟩, A40, H⟩ := H
 replace H : (some (t386, t387)) = some (r1, r2) := H
 have A4 := Aside0.mk A40
 clear A40
 simp only [Option.some.injEq, Prod.mk.injEq] at H
 obtain ⟨rfl, rfl⟩ := H
 go_enter Tryd.func19, Tryd.ntmps19
 go_wp2_with (first | ((with_reducible refine gate_dst (N := 4) rfl ?_); refine be_ (N := 4) (cs := #[.int .i64 0, .int .u64 0]) (t := 24) ?_; intro gb383 hg w5 hbox hb; have n0_ := Aside0.mk (below_step (qb_ HB.out) hb); have n1_ := Aside0.mk (hbox); have n2_ := Aside0.mk (bz_ hg (qb_ HB.out) : w.heap.size ≤ gb383); have n3_ := n2_; clear HB; have HB := n0_; have BK383 := n1_; have GW383 := n2_; have GE383 := n3_; clear n0_ n1_ n2_ n3_; clear hb hbox hg) | ((with_reducible refine gate_callee (f := 21) rfl ?_); refine goesL_ (some 9) rfl rfl Tryd.func21 (by kernel_rfl) rfl #[.int .i64 a0] rfl ql_ ?_; (with_reducible refine (corebankref01_Of.calls a0 t384 t385 _ A3.out).mono ?_); rintro e w6 ⟨rfl, hb⟩; refine ⟨_, rfl, ?_⟩; have n0_ := Aside0.mk (blk_below (qk_ BK383.out) hb); have n1_ := Aside0.mk (below_step (qb1_ GE383.out HB.out) hb); clear BK383; clear HB; have BK383 := n0_; have HB := n1_; clear n0_ n1_; (try clear hb); (try clear hb2); (try clear hk); (try clear hi)) | ((with_reducible refine gate_callee (f := 45) rfl ?_); refine goesL_ (some 11) rfl rfl Tryd.func45 (by kernel_rfl) rfl #[.agg #[.int .i64 t384, .int .u64 t385], .int .i64 a1] rfl ql_ ?_; (with_reducible refine (corebankref01_Scale.calls t384 t385 a1 t386 t387 t388 _ A4.out).mono ?_); rintro e w7 ⟨rfl, hb⟩; refine ⟨_, rfl, ?_⟩; have n0_ := Aside0.mk (blk_below (qk_ BK383.out) hb); have n1_ := Aside0.mk (below_step (qb1_ GE383.out HB.out) hb); clear BK383; clear HB; have BK383 := n0_; have HB := n1_; clear n0_ n1_; (try clear hb); (try clear hb2); (try clear hk); (try clear hi)) | ((with_reducible refine gate_dst (N := 5) rfl ?_); refine be_ (N := 5) (cs := #[.int .i64 0, .int .u64 0]) (t := 24) ?_; intro gb389 hg w8 hbox hb; have n0_ := Aside0.mk (blk_below (qk_ BK383.out) hb); have n1_ := Aside0.mk (below_step (qb1_ GE383.out HB.out) hb); have n2_ := Aside0.mk (hbox); have n3_ := Aside0.mk (bz_ hg (qb1_ GE383.out HB.out) : w.heap.size ≤ gb389); have n4_ := n3_; have n5_ := Aside0.mk (nl_ hg (qk_ BK383.out) : gb383 ≠ gb389); have n6_ := Aside0.mk (ng_ hg (qk_ BK383.out) : gb389 ≠ gb383); clear BK383; clear HB; have BK383 := n0_; have HB := n1_; have BK389 := n2_; have GW389 := n3_; have GE389 := n4_; have NB383_389 := n5_; have NB389_383 := n6_; clear n0_ n1_ n2_ n3_ n4_ n5_ n6_; clear hb hbox hg; have hnb9 := NB389_383.out; have hnc9 := NB383_389.out; have hcz10_0 : w8.cell? ⟨gb389, 0, none⟩ = some (.int .i64 0) := (blk_cell BK389.out 0).trans rfl; have hcz10_1 : w8.cell? ⟨gb389, 1, none⟩ = some (.int .u64 0) := (blk_cell BK389.out 1).trans rfl; have hfz10_0 := blk_frozen BK389.out 0; have hfz10_1 := blk_frozen BK389.out 1; have hcz11_0 : w8.cell? ⟨gb383, 0, none⟩ = some (.int .i64 0) := (blk_cell BK383.out 0).trans rfl; have hcz11_1 : w8.cell? ⟨gb383, 1, none⟩ = some (.int .u64 0) := (blk_cell BK383.out 1).trans rfl; have hfz11_0 := blk_frozen BK383.out 0; have hfz11_1 := blk_frozen BK383.out 1))
 refine bodyPost_ret (results_cell_row rfl _ _ gb383 24 #[.int .i64 t386, .int .u64 t387] (0, 0) _ rfl (qppff_ #[.int .i64 t386, .int .u64 0] 1 #[.int .i64 0, .int .u64 0] 0 NB383_389.out NB383_389.out BK383.out) Tryd.underlying24 rfl (by kernel_rfl)) rfl ?_
 exact ⟨qe_, qb2_ GE383.out GE389.out HB.out⟩
def corebankref01_Mul.f (a0 a1 : Int) : Option (Int × Int) := if inI a0 ∧ inI a1 then some (a0 * a1 / 18446744073709551616, a0 * a1 % 18446744073709551616) else none
theorem corebankref01_Mul.eq {a b : Int} {r : Int × Int} (h : corebankref01_Mul.f a b = some r) : corebankref01_MulP.f a b = some r := by
 unfold corebankref01_Mul.f at h
 split at h
 ·rename_i q
  obtain ⟨⟨a0, a1⟩, b0, b1⟩ := q
  injection h with h
  subst h
  unfold corebankref01_MulP.f corebankref01_Of.f
  have hA : inI a := ⟨a0, a1⟩
  have hB : inI b := ⟨b0, b1⟩
  rw [if_pos hA]
  simp only [Option.bind_some]
  have hw : wv (a / 18446744073709551616) (a % 18446744073709551616) = a := by unfold wv; omega
  have hW : isW (a / 18446744073709551616) (a % 18446744073709551616) := ⟨by unfold inI; omega, by unfold inU; omega⟩
  obtain ⟨z1, z2, z3⟩ := mul_abs a b a0 a1 b0 b1
  generalize (if a < 0 then -a else a) * (if b < 0 then -b else b) = e at z1 z2 z3
  have hin : in128 (a * b) := by unfold in128; split at z1 <;> omega
  unfold corebankref01_Scale.f
  rw [if_pos ⟨hW, hB⟩, hw, if_pos hin]
  rfl
 ·cases h
theorem corebankref01_Mul.calls (a0 : Int) (a1 : Int) (r1 : Int) (r2 : Int) (w : World) (h : corebankref01_Mul.f a0 a1 = some (r1, r2)) :
  Calls Tryd.prog 19 #[.int .i64 a0, .int .i64 a1] w fun e w' => e = .returned (.agg #[.int .i64 r1, .int .u64 r2]) ∧ Below w.heap.size w w' := by
 have h := corebankref01_Mul.eq h
 exact corebankref01_MulP.calls a0 a1 r1 r2 w h
def corebankref02_Good.f (a0 : Int) : Option (Bool) := if a0 ≥ (-1000000000000) then (some (decide (a0 ≤ 1000000000000))) else (some false)
set_option maxHeartbeats 8000000 in
set_option maxRecDepth 100000 in
theorem corebankref02_Good.calls (a0 : Int) (r : Bool) (w : World) (h : corebankref02_Good.f a0 = some r) :
  Calls Tryd.prog 27 #[.int .i64 a0] w fun e w' => e = .returned (.bool r) ∧ Drawn0 w w' := by
 have H : (if a0 ≥ (-1000000000000) then (some (decide (a0 ≤ 1000000000000))) else (some false)) = some r := h
 clear h
 by_cases c2 : a0 ≥ (-1000000000000)
 ·rw [if_pos c2] at H
  have c2b0 : decide ((-1000000000000) ≤ a0) = true := decide_eq_true c2
  clear c2
  obtain rfl := Option.some.inj H
  go_enter Tryd.func27, Tryd.ntmps27
  go_wp2
  go_ret
  exact ⟨by first | rfl | (simp; done) | (simp [*]; done), by repeat (first | exact Drawn0.refl _ | apply Drawn0.step)⟩
 ·rw [if_neg c2] at H
  have c2b0 : decide ((-1000000000000) ≤ a0) = false := decide_eq_false c2
  clear c2
  obtain rfl := Option.some.inj H
  go_enter Tryd.func27, Tryd.ntmps27
  go_wp2
  go_ret
  exact ⟨by first | rfl | (simp; done) | (simp [*]; done), by repeat (first | exact Drawn0.refl _ | apply Drawn0.step)⟩
def corebankref01_SubP.f (a0_0 : Int) (a0_1 : Int) (a1_0 : Int) (a1_1 : Int) : Option (Int × Int × Int) := (corebankref01_Split.f a0_0 a0_1).bind fun bt393 => ((corebankref01_Split.f a1_0 a1_1).bind fun bt397 => ((corebankref01_sum.f bt393.1 bt393.2.1 bt393.2.2 (!bt397.1) bt397.2.1 bt397.2.2).bind fun bt401 => (some (bt401.1, bt401.2.1, bt401.2.2))))
set_option maxHeartbeats 8000000 in
set_option maxRecDepth 100000 in
theorem corebankref01_SubP.calls (a0_0 : Int) (a0_1 : Int) (a1_0 : Int) (a1_1 : Int) (r1 : Int) (r2 : Int) (r3 : Int) (w : World) (h : corebankref01_SubP.f a0_0 a0_1 a1_0 a1_1 = some (r1, r2, r3)) :
  Calls Tryd.prog 28 #[.agg #[.int .i64 a0_0, .int .u64 a0_1], .agg #[.int .i64 a1_0, .int .u64 a1_1]] w fun e w' => e = .returned (.tuple #[.agg #[.int .i64 r1, .int .u64 r2], .int .i64 r3]) ∧ Below w.heap.size w w' := by
 have hu24 := Tryd.underlying24
 have hu54 := Tryd.underlying54
 have HB := Aside0.mk (Below.refl w.heap.size w)
 have H : ((corebankref01_Split.f a0_0 a0_1).bind fun bt393 => ((corebankref01_Split.f a1_0 a1_1).bind fun bt397 => ((corebankref01_sum.f bt393.1 bt393.2.1 bt393.2.2 (!bt397.1) bt397.2.1 bt397.2.2).bind fun bt401 => (some (bt401.1, bt401.2.1, bt401.2.2))))) = some (r1, r2, r3) := h
 clear h
 replace H := Option.bind_eq_some_iff.mp H
 obtain ⟨⟨t393, t394, t395⟩, A30, H⟩ := H
 replace H : ((corebankref01_Split.f a1_0 a1_1).bind fun bt397 => ((corebankref01_sum.f t393 t394 t395 (!bt397.1) bt397.2.1 bt397.2.2).bind fun bt401 => (some (bt401.1, bt401.2.1, bt401.2.2)))) = some (r1, r2, r3) := H
 have A3 := Aside0.mk A30
 clear A30
 replace H := Option.bind_eq_some_iff.mp H
 obtain ⟨⟨t397, t398, t399⟩, A40, H⟩ := H
 replace H : ((corebankref01_sum.f t393 t394 t395 (!t397) t398 t399).bind fun bt401 => (some (bt401.1, bt401.2.1, bt401.2.2))) = some (r1, r2, r3) := H
 have A4 := Aside0.mk A40
 clear A40
 replace H := Option.bind_eq_some_iff.mp H
 obtain ⟨⟨t401, t402, t403⟩, A50, H⟩ := H
 replace H : (some (t401, t402, t403)) = some (r1, r2, r3) := H
 have A5 := Aside0.mk A50
 clear A50
 simp only [Option.some.injEq, Prod.mk.injEq] at H
 obtain ⟨rfl, rfl, rfl⟩ := H
 go_enter Tryd.func28, Tryd.ntmps28
 go_wp2_with (first | ((with_reducible refine gate_dst (N := 2) rfl ?_); refine be_ (N := 2) (cs := #[.int .i64 a0_0, .int .u64 a0_1]) (t := 24) ?_; intro gb390 hg w6 hbox hb; have n0_ := Aside0.mk (below_step (qb_ HB.out) hb); have n1_ := Aside0.mk (hbox); have n2_ := Aside0.mk (bz_ hg (qb_ HB.out) : w.heap.size ≤ gb390); have n3_ := n2_; clear HB; have HB := n0_; have BK390 := n1_; have GW390 := n2_; have GE390 := n3_; clear n0_ n1_ n2_ n3_; clear hb hbox hg) | ((with_reducible refine gate_dst (N := 3) rfl ?_); refine be_ (N := 3) (cs := #[.int .i64 a1_0, .int .u64 a1_1]) (t := 24) ?_; intro gb391 hg w7 hbox hb; have n0_ := Aside0.mk (blk_below (qk_ BK390.out) hb); have n1_ := Aside0.mk (below_step (qb1_ GE390.out HB.out) hb); have n2_ := Aside0.mk (hbox); have n3_ := Aside0.mk (bz_ hg (qb1_ GE390.out HB.out) : w.heap.size ≤ gb391); have n4_ := n3_; have n5_ := Aside0.mk (nl_ hg (qk_ BK390.out) : gb390 ≠ gb391); have n6_ := Aside0.mk (ng_ hg (qk_ BK390.out) : gb391 ≠ gb390); clear BK390; clear HB; have BK390 := n0_; have HB := n1_; have BK391 := n2_; have GW391 := n3_; have GE391 := n4_; have NB390_391 := n5_; have NB391_390 := n6_; clear n0_ n1_ n2_ n3_ n4_ n5_ n6_; clear hb hbox hg) | ((with_reducible refine gate_dst (N := 4) rfl ?_); refine be_ (N := 4) (cs := #[.int .i64 0, .int .u64 0]) (t := 24) ?_; intro gb392 hg w8 hbox hb; have n0_ := Aside0.mk (blk_below (qk_ BK390.out) hb); have n1_ := Aside0.mk (blk_below (qk_ BK391.out) hb); have n2_ := Aside0.mk (below_step (qb2_ GE390.out GE391.out HB.out) hb); have n3_ := Aside0.mk (hbox); have n4_ := Aside0.mk (bz_ hg (qb2_ GE390.out GE391.out HB.out) : w.heap.size ≤ gb392); have n5_ := n4_; have n6_ := Aside0.mk (nl_ hg (qk_ BK390.out) : gb390 ≠ gb392); have n7_ := Aside0.mk (ng_ hg (qk_ BK390.out) : gb392 ≠ gb390); have n8_ := Aside0.mk (nl_ hg (qk_ BK391.out) : gb391 ≠ gb392); have n9_ := Aside0.mk (ng_ hg (qk_ BK391.out) : gb392 ≠ gb391); clear BK390; clear BK391; clear HB; have BK390 := n0_; have BK391 := n1_; have HB := n2_; have BK392 := n3_; have GW392 := n4_; have GE392 := n5_; have NB390_392 := n6_; have NB392_390 := n7_; have NB391_392 := n8_; have NB392_391 := n9_; clear n0_ n1_ n2_ n3_ n4_ n5_ n6_ n7_ n8_ n9_; clear hb hbox hg; have hnb9 := NB390_391.out; have hnc9 := NB391_390.out; have hnb10 := NB390_392.out; have hnc10 := NB392_390.out; have hcz11_0 : w8.cell? ⟨gb390, 0, none⟩ = some (.int .i64 a0_0) := (blk_cell BK390.out 0).trans rfl; have hcz11_1 : w8.cell? ⟨gb390, 1, none⟩ = some (.int .u64 a0_1) := (blk_cell BK390.out 1).trans rfl; have hfz11_0 := blk_frozen BK390.out 0; have hfz11_1 := blk_frozen BK390.out 1) | ((with_reducible refine gate_callee (f := 43) rfl ?_); refine goesL_ (some 12) rfl rfl Tryd.func43 (by kernel_rfl) rfl #[.agg #[.int .i64 a0_0, .int .u64 a0_1]] rfl ql_ ?_; (with_reducible refine (corebankref01_Split.calls a0_0 a0_1 t393 t394 t395 _ A3.out).mono ?_); rintro e w12 ⟨rfl, hb⟩; refine ⟨_, rfl, ?_⟩; have n0_ := Aside0.mk (blk_below (qk_ BK390.out) hb); have n1_ := Aside0.mk (blk_below (qk_ BK391.out) hb); have n2_ := Aside0.mk (blk_below (qk_ BK392.out) hb); have n3_ := Aside0.mk (below_step (qb3_ GE390.out GE391.out GE392.out HB.out) hb); clear BK390; clear BK391; clear BK392; clear HB; have BK390 := n0_; have BK391 := n1_; have BK392 := n2_; have HB := n3_; clear n0_ n1_ n2_ n3_; (try clear hb); (try clear hb2); (try clear hk); (try clear hi)) | ((with_reducible refine gate_dst (N := 7) rfl ?_); refine be_ (N := 7) (cs := #[.int .u64 0, .int .u64 0]) (t := 54) ?_; intro gb396 hg w13 hbox hb; have n0_ := Aside0.mk (blk_below (qk_ BK390.out) hb); have n1_ := Aside0.mk (blk_below (qk_ BK391.out) hb); have n2_ := Aside0.mk (blk_below (qk_ BK392.out) hb); have n3_ := Aside0.mk (below_step (qb3_ GE390.out GE391.out GE392.out HB.out) hb); have n4_ := Aside0.mk (hbox); have n5_ := Aside0.mk (bz_ hg (qb3_ GE390.out GE391.out GE392.out HB.out) : w.heap.size ≤ gb396); have n6_ := n5_; have n7_ := Aside0.mk (nl_ hg (qk_ BK390.out) : gb390 ≠ gb396); have n8_ := Aside0.mk (ng_ hg (qk_ BK390.out) : gb396 ≠ gb390); have n9_ := Aside0.mk (nl_ hg (qk_ BK391.out) : gb391 ≠ gb396); have n10_ := Aside0.mk (ng_ hg (qk_ BK391.out) : gb396 ≠ gb391); have n11_ := Aside0.mk (nl_ hg (qk_ BK392.out) : gb392 ≠ gb396); have n12_ := Aside0.mk (ng_ hg (qk_ BK392.out) : gb396 ≠ gb392); clear BK390; clear BK391; clear BK392; clear HB; have BK390 := n0_; have BK391 := n1_; have BK392 := n2_; have HB := n3_; have BK396 := n4_; have GW396 := n5_; have GE396 := n6_; have NB390_396 := n7_; have NB396_390 := n8_; have NB391_396 := n9_; have NB396_391 := n10_; have NB392_396 := n11_; have NB396_392 := n12_; clear n0_ n1_ n2_ n3_ n4_ n5_ n6_ n7_ n8_ n9_ n10_ n11_ n12_; clear hb hbox hg; have hnb14 := NB396_390.out; have hnc14 := NB390_396.out; have hnb15 := NB396_391.out; have hnc15 := NB391_396.out; have hnb16 := NB396_392.out; have hnc16 := NB392_396.out; have hcz17_0 : w13.cell? ⟨gb396, 0, none⟩ = some (.int .u64 0) := (blk_cell BK396.out 0).trans rfl; have hcz17_1 : w13.cell? ⟨gb396, 1, none⟩ = some (.int .u64 0) := (blk_cell BK396.out 1).trans rfl; have hfz17_0 := blk_frozen BK396.out 0; have hfz17_1 := blk_frozen BK396.out 1; have hnb18 := NB391_392.out; have hnc18 := NB392_391.out; have hcz19_0 : w13.cell? ⟨gb391, 0, none⟩ = some (.int .i64 a1_0) := (blk_cell BK391.out 0).trans rfl; have hcz19_1 : w13.cell? ⟨gb391, 1, none⟩ = some (.int .u64 a1_1) := (blk_cell BK391.out 1).trans rfl; have hfz19_0 := blk_frozen BK391.out 0; have hfz19_1 := blk_frozen BK391.out 1) | ((with_reducible refine gate_callee (f := 43) rfl ?_); refine goesL_ (some 17) rfl rfl Tryd.func43 (by kernel_rfl) rfl #[.agg #[.int .i64 a1_0, .int .u64 a1_1]] rfl ql_ ?_; (with_reducible refine (corebankref01_Split.calls a1_0 a1_1 t397 t398 t399 _ A4.out).mono ?_); rintro e w20 ⟨rfl, hb⟩; refine ⟨_, rfl, ?_⟩; have n0_ := Aside0.mk (blk_below (g := gb390) (o := .cells #[.int .i64 a0_0, .int .u64 a0_1] 24 (0, 0)) (qff_ NB390_396.out NB390_396.out BK390.out) hb); have n1_ := Aside0.mk (blk_below (g := gb391) (o := .cells #[.int .i64 a1_0, .int .u64 a1_1] 24 (0, 0)) (qff_ NB391_396.out NB391_396.out BK391.out) hb); have n2_ := Aside0.mk (blk_below (g := gb392) (o := .cells #[.int .i64 0, .int .u64 0] 24 (0, 0)) (qff_ NB392_396.out NB392_396.out BK392.out) hb); have n3_ := Aside0.mk (blk_below (g := gb396) (o := .cells #[.int .u64 t394, .int .u64 t395] 54 (0, 0)) (qpp_ #[.int .u64 t394, .int .u64 0] 1 #[.int .u64 0, .int .u64 0] 0 BK396.out) hb); have n4_ := Aside0.mk (below_step (qb4_ GE390.out GE391.out GE392.out GE396.out HB.out) hb); clear BK390; clear BK391; clear BK392; clear BK396; clear HB; have BK390 := n0_; have BK391 := n1_; have BK392 := n2_; have BK396 := n3_; have HB := n4_; clear n0_ n1_ n2_ n3_ n4_; (try clear hb); (try clear hb2); (try clear hk); (try clear hi)) | ((with_reducible refine gate_dst (N := 9) rfl ?_); refine be_ (N := 9) (cs := #[.int .u64 0, .int .u64 0]) (t := 54) ?_; intro gb400 hg w21 hbox hb; have n0_ := Aside0.mk (blk_below (qk_ BK390.out) hb); have n1_ := Aside0.mk (blk_below (qk_ BK391.out) hb); have n2_ := Aside0.mk (blk_below (qk_ BK392.out) hb); have n3_ := Aside0.mk (blk_below (qk_ BK396.out) hb); have n4_ := Aside0.mk (below_step (qb4_ GE390.out GE391.out GE392.out GE396.out HB.out) hb); have n5_ := Aside0.mk (hbox); have n6_ := Aside0.mk (bz_ hg (qb4_ GE390.out GE391.out GE392.out GE396.out HB.out) : w.heap.size ≤ gb400); have n7_ := n6_; have n8_ := Aside0.mk (nl_ hg (qk_ BK390.out) : gb390 ≠ gb400); have n9_ := Aside0.mk (ng_ hg (qk_ BK390.out) : gb400 ≠ gb390); have n10_ := Aside0.mk (nl_ hg (qk_ BK391.out) : gb391 ≠ gb400); have n11_ := Aside0.mk (ng_ hg (qk_ BK391.out) : gb400 ≠ gb391); have n12_ := Aside0.mk (nl_ hg (qk_ BK392.out) : gb392 ≠ gb400); have n13_ := Aside0.mk (ng_ hg (qk_ BK392.out) : gb400 ≠ gb392); have n14_ := Aside0.mk (nl_ hg (qk_ BK396.out) : gb396 ≠ gb400); have n15_ := Aside0.mk (ng_ hg (qk_ BK396.out) : gb400 ≠ gb396); clear BK390; clear BK391; clear BK392; clear BK396; clear HB; have BK390 := n0_; have BK391 := n1_; have BK392 := n2_; have BK396 := n3_; have HB := n4_; have BK400 := n5_; have GW400 := n6_; have GE400 := n7_; have NB390_400 := n8_; have NB400_390 := n9_; have NB391_400 := n10_; have NB400_391 := n11_; have NB392_400 := n12_; have NB400_392 := n13_; have NB396_400 := n14_; have NB400_396 := n15_; clear n0_ n1_ n2_ n3_ n4_ n5_ n6_ n7_ n8_ n9_ n10_ n11_ n12_ n13_ n14_ n15_; clear hb hbox hg; have hnb22 := NB400_390.out; have hnc22 := NB390_400.out; have hnb23 := NB400_391.out; have hnc23 := NB391_400.out; have hnb24 := NB400_392.out; have hnc24 := NB392_400.out; have hnb25 := NB400_396.out; have hnc25 := NB396_400.out; have hcz26_0 : w21.cell? ⟨gb400, 0, none⟩ = some (.int .u64 0) := (blk_cell BK400.out 0).trans rfl; have hcz26_1 : w21.cell? ⟨gb400, 1, none⟩ = some (.int .u64 0) := (blk_cell BK400.out 1).trans rfl; have hfz26_0 := blk_frozen BK400.out 0; have hfz26_1 := blk_frozen BK400.out 1; have hcz27_0 : w21.cell? ⟨gb396, 0, none⟩ = some (.int .u64 t394) := (blk_cell BK396.out 0).trans rfl; have hcz27_1 : w21.cell? ⟨gb396, 1, none⟩ = some (.int .u64 t395) := (blk_cell BK396.out 1).trans rfl; have hfz27_0 := blk_frozen BK396.out 0; have hfz27_1 := blk_frozen BK396.out 1) | ((with_reducible refine gate_callee (f := 44) rfl ?_); refine goesL_ (some 25) rfl rfl Tryd.func44 (by kernel_rfl) rfl #[.bool t393, .agg #[.int .u64 t394, .int .u64 t395], .bool (!t397), .agg #[.int .u64 t398, .int .u64 t399]] rfl ql_ ?_; (with_reducible refine (corebankref01_sum.calls t393 t394 t395 (!t397) t398 t399 t401 t402 t403 _ A5.out).mono ?_); rintro e w28 ⟨rfl, hb⟩; refine ⟨_, rfl, ?_⟩; have n0_ := Aside0.mk (blk_below (g := gb390) (o := .cells #[.int .i64 a0_0, .int .u64 a0_1] 24 (0, 0)) (qff_ NB390_400.out NB390_400.out BK390.out) hb); have n1_ := Aside0.mk (blk_below (g := gb391) (o := .cells #[.int .i64 a1_0, .int .u64 a1_1] 24 (0, 0)) (qff_ NB391_400.out NB391_400.out BK391.out) hb); have n2_ := Aside0.mk (blk_below (g := gb392) (o := .cells #[.int .i64 0, .int .u64 0] 24 (0, 0)) (qff_ NB392_400.out NB392_400.out BK392.out) hb); have n3_ := Aside0.mk (blk_below (g := gb396) (o := .cells #[.int .u64 t394, .int .u64 t395] 54 (0, 0)) (qff_ NB396_400.out NB396_400.out BK396.out) hb); have n4_ := Aside0.mk (blk_below (g := gb400) (o := .cells #[.int .u64 t398, .int .u64 t399] 54 (0, 0)) (qpp_ #[.int .u64 t398, .int .u64 0] 1 #[.int .u64 0, .int .u64 0] 0 BK400.out) hb); have n5_ := Aside0.mk (below_step (qb5_ GE390.out GE391.out GE392.out GE396.out GE400.out HB.out) hb); clear BK390; clear BK391; clear BK392; clear BK396; clear BK400; clear HB; have BK390 := n0_; have BK391 := n1_; have BK392 := n2_; have BK396 := n3_; have BK400 := n4_; have HB := n5_; clear n0_ n1_ n2_ n3_ n4_ n5_; (try clear hb); (try clear hb2); (try clear hk); (try clear hi); have hcz29_0 : w28.cell? ⟨gb392, 0, none⟩ = some (.int .i64 0) := (blk_cell BK392.out 0).trans rfl; have hcz29_1 : w28.cell? ⟨gb392, 1, none⟩ = some (.int .u64 0) := (blk_cell BK392.out 1).trans rfl; have hfz29_0 := blk_frozen BK392.out 0; have hfz29_1 := blk_frozen BK392.out 1))
 refine bodyPost_ret (results_ct rfl _ _ gb392 24 #[.int .i64 t401, .int .u64 t402] (0, 0) _ rfl (qpp_ #[.int .i64 t401, .int .u64 0] 1 #[.int .i64 0, .int .u64 0] 0 BK392.out) Tryd.underlying24 rfl (by kernel_rfl)) rfl ?_
 exact ⟨qe_, qb5_ GE390.out GE391.out GE392.out GE396.out GE400.out HB.out⟩
def corebankref01_Sub.f (a0_0 a0_1 a1_0 a1_1 : Int) : Option (Int × Int × Int) :=
 if isW a0_0 a0_1 ∧ isW a1_0 a1_1 then
  some (if in128 (wv a0_0 a0_1 - wv a1_0 a1_1) then ((wv a0_0 a0_1 - wv a1_0 a1_1) / 18446744073709551616, (wv a0_0 a0_1 - wv a1_0 a1_1) % 18446744073709551616, 0) else (0, 0, 6)) else none
theorem corebankref01_Sub.eq {a b c d : Int} {r : Int × Int × Int} (h : corebankref01_Sub.f a b c d = some r) : corebankref01_SubP.f a b c d = some r := by
 unfold corebankref01_Sub.f at h
 split at h
 ·rename_i q
  injection h with h
  subst h
  unfold corebankref01_SubP.f corebankref01_Split.f
  rw [if_pos q.1, if_pos q.2]
  simp only [Option.bind_some]
  obtain ⟨⟨⟨a0, a1⟩, b0, b1⟩, ⟨c0, c1⟩, d0, d1⟩ := id q
  have hA : wv a b = a * 18446744073709551616 + b := rfl
  have hB : wv c d = c * 18446744073709551616 + d := rfl
  have mA : 0 ≤ (if a < 0 then -(wv a b) else wv a b) ∧ (if a < 0 then -(wv a b) else wv a b) ≤ 170141183460469231731687303715884105728 := by split <;> omega
  have mB : 0 ≤ (if c < 0 then -(wv c d) else wv c d) ∧ (if c < 0 then -(wv c d) else wv c d) ≤ 170141183460469231731687303715884105728 := by split <;> omega
  have sA : sgn (decide (a < 0)) (if a < 0 then -(wv a b) else wv a b) = wv a b := by unfold sgn; by_cases h : a < 0 <;> simp [h]
  have sB : sgn (!decide (c < 0)) (if c < 0 then -(wv c d) else wv c d) = -(wv c d) := by unfold sgn; by_cases h : c < 0 <;> simp [h]
  generalize (if a < 0 then -(wv a b) else wv a b) = A at *
  generalize (if c < 0 then -(wv c d) else wv c d) = B at *
  have wA : wv (A / 18446744073709551616) (A % 18446744073709551616) = A := by unfold wv; omega
  have wB : wv (B / 18446744073709551616) (B % 18446744073709551616) = B := by unfold wv; omega
  have hU : (inU (A / 18446744073709551616) ∧ inU (A % 18446744073709551616)) ∧ inU (B / 18446744073709551616) ∧ inU (B % 18446744073709551616) := ⟨⟨by unfold inU; omega, by unfold inU; omega⟩, by unfold inU; omega, by unfold inU; omega⟩
  unfold corebankref01_sum.f
  rw [if_pos hU, wA, wB, sA, sB]
  simp only [Option.bind_some, Int.sub_eq_add_neg]
 ·cases h
theorem corebankref01_Sub.calls (a0_0 : Int) (a0_1 : Int) (a1_0 : Int) (a1_1 : Int) (r1 : Int) (r2 : Int) (r3 : Int) (w : World) (h : corebankref01_Sub.f a0_0 a0_1 a1_0 a1_1 = some (r1, r2, r3)) :
  Calls Tryd.prog 28 #[.agg #[.int .i64 a0_0, .int .u64 a0_1], .agg #[.int .i64 a1_0, .int .u64 a1_1]] w fun e w' => e = .returned (.tuple #[.agg #[.int .i64 r1, .int .u64 r2], .int .i64 r3]) ∧ Below w.heap.size w w' := by
 have h := corebankref01_Sub.eq h
 exact corebankref01_SubP.calls a0_0 a0_1 a1_0 a1_1 r1 r2 r3 w h
end Go.Proofs.YtkdhippoibjfkaaDoor.PR
end
section
namespace Go.Proofs.YtkdhippoibjfkaaDoor.PR
open Go.RowKit Go.Proofs.YtkdhippoibjfkaaDoorW.PrintWords Go.Proofs.YtkdhippoibjfkaaDoorW.PrintLast
set_option linter.unusedVariables false
set_option linter.unusedSimpArgs false
mutual
def corebankref02_Total.j0 : Nat → List Int → Bool → Option (Int × Bool)
 | 0, _, _ => none
 | k + 1, x0, x13 => if x13 = true then (some (0, false)) else (corebankref02_Total.l0 k x0 0 0)
def corebankref02_Total.l0 : Nat → List Int → Int → Int → Option (Int × Bool)
 | 0, _, _, _ => none
 | k + 1, x0, x4, x5 => if x5 < (x0.length : Int) then (if 0 ≤ x5 then (if (rd x0 x5) < 0 then (corebankref02_Total.j2 k x0 x4 x5 true) else (corebankref02_Total.j2 k x0 x4 x5 (decide ((rd x0 x5) > 1000000000000)))) else (none)) else (some (x4, decide (x4 > 0)))
def corebankref02_Total.j2 : Nat → List Int → Int → Int → Bool → Option (Int × Bool)
 | 0, _, _, _, _ => none
 | k + 1, x0, x4, x5, x31 => if x31 = true then (some (0, false)) else (if 0 ≤ x5 then (if x5 < (x0.length : Int) then (corebankref02_Total.l0 k x0 (wrap64 (x4 + (rd x0 x5))) (wrap64 (x5 + 1))) else (none)) else (none))
end
def corebankref02_Total.f (k : Nat) (l0 : List Int) : Option (Int × Bool) := if (l0.length : Int) < 1 then (corebankref02_Total.j0 k l0 true) else (corebankref02_Total.j0 k l0 (decide ((l0.length : Int) > 64)))
theorem corebankref02_Total.mono_l : ∀ k, (∀ y0 y1, LeO (corebankref02_Total.j0 k y0 y1) (corebankref02_Total.j0 (k + 1) y0 y1)) ∧ (∀ y0 y1 y2, LeO (corebankref02_Total.l0 k y0 y1 y2) (corebankref02_Total.l0 (k + 1) y0 y1 y2)) ∧ (∀ y0 y1 y2 y3, LeO (corebankref02_Total.j2 k y0 y1 y2 y3) (corebankref02_Total.j2 (k + 1) y0 y1 y2 y3))
 | 0 => ⟨fun _ _ r h => by simp [corebankref02_Total.j0] at h, fun _ _ _ r h => by simp [corebankref02_Total.l0] at h, fun _ _ _ _ r h => by simp [corebankref02_Total.j2] at h⟩
 | k + 1 => by
  obtain ⟨ih0, ih1, ih2⟩ := corebankref02_Total.mono_l k
  refine ⟨?_, ?_, ?_⟩
  ·intro y0 y1
   unfold corebankref02_Total.j0
   repeat' first
   | (with_reducible exact ih0 _ _)
   | (with_reducible exact ih1 _ _ _)
   | (with_reducible exact ih2 _ _ _ _)
   | (with_reducible exact LeO.refl _)
   | (with_reducible exact LeO.none _)
   | (with_reducible refine LeO.ite ?_ ?_)
   | (with_reducible refine LeO.bind ?_ (fun _ => ?_))
   | exact ih0 _ _
   | exact ih1 _ _ _
   | exact ih2 _ _ _ _
   | exact LeO.none _
   | refine LeO.ite ?_ ?_
   | refine LeO.bind ?_ (fun _ => ?_)
  ·intro y0 y1 y2
   unfold corebankref02_Total.l0
   repeat' first
   | (with_reducible exact ih0 _ _)
   | (with_reducible exact ih1 _ _ _)
   | (with_reducible exact ih2 _ _ _ _)
   | (with_reducible exact LeO.refl _)
   | (with_reducible exact LeO.none _)
   | (with_reducible refine LeO.ite ?_ ?_)
   | (with_reducible refine LeO.bind ?_ (fun _ => ?_))
   | exact ih0 _ _
   | exact ih1 _ _ _
   | exact ih2 _ _ _ _
   | exact LeO.none _
   | refine LeO.ite ?_ ?_
   | refine LeO.bind ?_ (fun _ => ?_)
  ·intro y0 y1 y2 y3
   unfold corebankref02_Total.j2
   repeat' first
   | (with_reducible exact ih0 _ _)
   | (with_reducible exact ih1 _ _ _)
   | (with_reducible exact ih2 _ _ _ _)
   | (with_reducible exact LeO.refl _)
   | (with_reducible exact LeO.none _)
   | (with_reducible refine LeO.ite ?_ ?_)
   | (with_reducible refine LeO.bind ?_ (fun _ => ?_))
   | exact ih0 _ _
   | exact ih1 _ _ _
   | exact ih2 _ _ _ _
   | exact LeO.none _
   | refine LeO.ite ?_ ?_
   | refine LeO.bind ?_ (fun _ => ?_)
theorem corebankref02_Total.mono : ∀ a0 k, LeO (corebankref02_Total.f k a0) (corebankref02_Total.f (k + 1) a0) := by
 intro a0 k
 obtain ⟨ih0, ih1, ih2⟩ := corebankref02_Total.mono_l k
 unfold corebankref02_Total.f
 repeat' first
   | (with_reducible exact ih0 _ _)
   | (with_reducible exact ih1 _ _ _)
   | (with_reducible exact ih2 _ _ _ _)
   | (with_reducible exact LeO.refl _)
   | (with_reducible exact LeO.none _)
   | (with_reducible refine LeO.ite ?_ ?_)
   | (with_reducible refine LeO.bind ?_ (fun _ => ?_))
   | exact ih0 _ _
   | exact ih1 _ _ _
   | exact ih2 _ _ _ _
   | exact LeO.none _
   | refine LeO.ite ?_ ?_
   | refine LeO.bind ?_ (fun _ => ?_)
set_option maxHeartbeats 8000000 in
set_option maxRecDepth 100000 in
theorem corebankref02_Total.calls (k : Nat) (A0 : Option Addr) (c0 : Nat) (l0 : List Int) (r1 : Int) (r2 : Bool) (w : World) (hr0 : Kd.C (Kd.int .i64) w A0 l0.length l0) (hc0 : l0.length ≤ c0) (h : corebankref02_Total.f k l0 = some (r1, r2)) :
  Calls Tryd.prog 26 #[.slice A0 l0.length c0] w fun e w' => e = .returned (.tuple #[.int .i64 r1, .bool r2]) ∧ Drawn0 w w' := by
 have HR0 := Aside0.mk hr0
 have HC0 := Aside0.mk hc0
 clear hr0 hc0
 have H : (if (l0.length : Int) < 1 then (corebankref02_Total.j0 k l0 true) else (corebankref02_Total.j0 k l0 (decide ((l0.length : Int) > 64)))) = some (r1, r2) := h
 clear h
 have HC2 := Aside0.mk H
 clear H
 go_enter Tryd.func26, Tryd.ntmps26
 go_upto_region 1 with (fail)
 go_cut [13] (fun v13 wc => ∃ (kq : Nat) (x13_1 : Bool), v13 = .bool x13_1 ∧ Aside0 (corebankref02_Total.j0 kq l0 x13_1 = some (r1, r2)) ∧ Aside0 (kq ≤ k) ∧ Drawn0 w wc)
 case first =>
  have H := HC2.out
  clear HC2
  by_cases c3 : (l0.length : Int) < 1
  ·rw [if_pos c3] at H
   have c3b0 : decide ((l0.length : Int) < 1) = true := decide_eq_true c3
   have c3b1 : decide (l0.length < 1) = true := decide_eq_true (by omega)
   clear c3
   (first | rw [c3b0] | (simp only [i64_w, i32_w]; rw [c3b0]) | skip)
   have H' := Aside0.mk H
   clear H
   go_wp2
   go_meet
   case rel => exact ⟨_, (true), qs_, H', ⟨qo_⟩, by repeat (first | exact Drawn0.refl _ | apply Drawn0.step)⟩
  ·rw [if_neg c3] at H
   have c3b0 : decide ((l0.length : Int) < 1) = false := decide_eq_false c3
   have c3b1 : decide (l0.length < 1) = false := decide_eq_false (by omega)
   clear c3
   (first | rw [c3b0] | (simp only [i64_w, i32_w]; rw [c3b0]) | skip)
   have H' := Aside0.mk H
   clear H
   go_wp2
   go_meet
   case rel => exact ⟨_, (decide ((l0.length : Int) > 64)), qs_, H', ⟨qo_⟩, by repeat (first | exact Drawn0.refl _ | apply Drawn0.step)⟩
 case rest =>
  clear HC2
  try clear c2
  try clear p2
  try clear c3
  try clear c3b0
  try clear c3b1
  obtain ⟨kq, x13_1, rfl, HA, HJ1, ⟨mc1, rfl⟩⟩ := hcut
  cases kq with
  | zero => exact absurd HA.out (by simp [corebankref02_Total.j0])
  | succ kj1 =>
   have H := HA.out
   clear HA
   simp only [corebankref02_Total.j0] at H
   by_cases c4 : x13_1 = true
   ·subst c4
    have H1 : (some (0, false)) = some (r1, r2) := by rw [if_pos rfl] at H; exact H
    clear H
    have H := H1
    clear H1
    simp only [Option.some.injEq, Prod.mk.injEq] at H
    obtain ⟨rfl, rfl⟩ := H
    go_wp2
    go_ret2
    exact ⟨by first | rfl | (simp; done) | (simp [*]; done), by repeat (first | exact Drawn0.refl _ | apply Drawn0.step)⟩
   ·replace c4 := Bool.eq_false_iff.mpr c4
    subst c4
    have H1 : (corebankref02_Total.l0 kj1 l0 0 0) = some (r1, r2) := by rw [if_neg (show ¬ (false = true) by decide)] at H; exact H
    clear H
    have H := H1
    clear H1
    have H' := Aside0.mk H
    clear H
    go_wp2
    go_loopg [4, 5] kj1 (fun kq v4 v5 w' => ∃ (x4_2 : Int) (x5_2 : Int), v4 = .int .i64 x4_2 ∧ v5 = .int .i64 x5_2 ∧ Aside0 (corebankref02_Total.l0 kq l0 x4_2 x5_2 = some (r1, r2)) ∧ Aside0 (kq ≤ kj1) ∧ Drawn0 w w')
    case atStart => exact ⟨(0), (0), qs_, qs_, H', ⟨Nat.le_refl _⟩, by repeat (first | exact Drawn0.refl _ | apply Drawn0.step)⟩
    case round =>
     clear H'
     try clear c1
     try clear c2
     try clear p2
     try clear c3
     try clear c3b0
     try clear c3b1
     try clear c4
     try clear p2
     obtain ⟨x4_2, x5_2, rfl, rfl, HA, HK2, ⟨m2, rfl⟩⟩ := hrel
     cases gk with
     | zero => exact absurd HA.out (by simp [corebankref02_Total.l0])
     | succ k2 =>
      have H := HA.out
      clear HA
      simp only [corebankref02_Total.l0] at H
      by_cases c5 : x5_2 < (l0.length : Int)
      ·rw [if_pos c5] at H
       have c5b0 : decide (x5_2 < (l0.length : Int)) = true := decide_eq_true c5
       clear c5
       have HC6 := Aside0.mk H
       clear H
       go_upto_region 7 with (fail)
       go_cut [31] (fun v31 wc => ∃ (kq : Nat) (x31_5 : Bool), v31 = .bool x31_5 ∧ Aside0 (corebankref02_Total.j2 kq l0 x4_2 x5_2 x31_5 = some (r1, r2)) ∧ Aside0 (kq ≤ k2) ∧ Drawn0 w wc)
       case first =>
        have H := HC6.out
        clear HC6
        by_cases c7 : 0 ≤ x5_2
        ·rw [if_pos c7] at H
         have c7b0 : decide (0 ≤ x5_2) = true := decide_eq_true c7
         clear c7
         (first | rw [c7b0] | (simp only [i64_w, i32_w]; rw [c7b0]) | skip)
         by_cases c8 : (rd l0 x5_2) < 0
         ·rw [if_pos c8] at H
          have c8b0 : decide ((rd l0 x5_2) < 0) = true := decide_eq_true c8
          clear c8
          have H' := Aside0.mk H
          clear H
          have p452 : 0 ≤ (x5_2 : Int) := of_decide_eq_true (by first | (with_reducible assumption) | assumption)
          have q452 : x5_2 < (l0.length : Int) := of_decide_eq_true (by first | (with_reducible assumption) | assumption)
          obtain ⟨ad452, e452, hx452_0⟩ := Kd.at_int HR0.out x5_2 p452 q452
          cases e452
          replace p452 := eq_true p452
          replace q452 := eq_true q452
          go_wp2
          go_meet
          case rel => exact ⟨_, (true), qs_, H', ⟨by have := HJ1.out; have := HK2.out; first | omega | exact Nat.le_refl _⟩, by repeat (first | exact Drawn0.refl _ | apply Drawn0.step)⟩
         ·rw [if_neg c8] at H
          have c8b0 : decide ((rd l0 x5_2) < 0) = false := decide_eq_false c8
          clear c8
          have H' := Aside0.mk H
          clear H
          have p452 : 0 ≤ (x5_2 : Int) := of_decide_eq_true (by first | (with_reducible assumption) | assumption)
          have q452 : x5_2 < (l0.length : Int) := of_decide_eq_true (by first | (with_reducible assumption) | assumption)
          obtain ⟨ad452, e452, hx452_0⟩ := Kd.at_int HR0.out x5_2 p452 q452
          cases e452
          replace p452 := eq_true p452
          replace q452 := eq_true q452
          have p453 : 0 ≤ (x5_2 : Int) := of_decide_eq_true (by first | (with_reducible assumption) | assumption)
          have q453 : x5_2 < (l0.length : Int) := of_decide_eq_true (by first | (with_reducible assumption) | assumption)
          obtain ⟨ad453, e453, hx453_0⟩ := Kd.at_int HR0.out x5_2 p453 q453
          obtain rfl : ad452 = ad453 := (by injection e453)
          replace p453 := eq_true p453
          replace q453 := eq_true q453
          go_wp2
          go_meet
          case rel => exact ⟨_, (decide ((rd l0 x5_2) > 1000000000000)), qs_, H', ⟨by have := HJ1.out; have := HK2.out; first | omega | exact Nat.le_refl _⟩, by repeat (first | exact Drawn0.refl _ | apply Drawn0.step)⟩
        ·rw [if_neg c7] at H
         exact absurd H (by simp)
       case rest =>
        clear HC6
        try clear c1
        try clear c2
        try clear p2
        try clear c3
        try clear c3b0
        try clear c3b1
        try clear c4
        try clear p4
        try clear q4
        try clear hx4
        try clear c5
        try clear c5b0
        try clear c7
        try clear c7b0
        try clear c8
        try clear c8b0
        try clear hx452_0
        try clear hx453_0
        try clear p2
        try clear p452
        try clear p453
        try clear q452
        try clear q453
        obtain ⟨kq, x31_5, rfl, HA, HJ5, ⟨mc5, rfl⟩⟩ := hcut
        cases kq with
        | zero => exact absurd HA.out (by simp [corebankref02_Total.j2])
        | succ kj5 =>
         have H := HA.out
         clear HA
         simp only [corebankref02_Total.j2] at H
         by_cases c9 : x31_5 = true
         ·subst c9
          have H1 : (some (0, false)) = some (r1, r2) := by rw [if_pos rfl] at H; exact H
          clear H
          have H := H1
          clear H1
          simp only [Option.some.injEq, Prod.mk.injEq] at H
          obtain ⟨rfl, rfl⟩ := H
          go_wp2
          go_ret2
          exact ⟨by first | rfl | (simp; done) | (simp [*]; done), by repeat (first | exact Drawn0.refl _ | apply Drawn0.step)⟩
         ·replace c9 := Bool.eq_false_iff.mpr c9
          subst c9
          have H1 : (if 0 ≤ x5_2 then (if x5_2 < (l0.length : Int) then (corebankref02_Total.l0 kj5 l0 (wrap64 (x4_2 + (rd l0 x5_2))) (wrap64 (x5_2 + 1))) else (none)) else (none)) = some (r1, r2) := by rw [if_neg (show ¬ (false = true) by decide)] at H; exact H
          clear H
          have H := H1
          clear H1
          by_cases c10 : 0 ≤ x5_2
          ·rw [if_pos c10] at H
           have c10b0 : decide (0 ≤ x5_2) = true := decide_eq_true c10
           clear c10
           by_cases c11 : x5_2 < (l0.length : Int)
           ·rw [if_pos c11] at H
            have c11b0 : decide (x5_2 < (l0.length : Int)) = true := decide_eq_true c11
            clear c11
            have H' := Aside0.mk H
            clear H
            have p454 : 0 ≤ (x5_2 : Int) := of_decide_eq_true (by first | (with_reducible assumption) | assumption)
            have q454 : x5_2 < (l0.length : Int) := of_decide_eq_true (by first | (with_reducible assumption) | assumption)
            obtain ⟨ad454, e454, hx454_0⟩ := Kd.at_int HR0.out x5_2 p454 q454
            cases e454
            replace p454 := eq_true p454
            replace q454 := eq_true q454
            go_wp2
            go_roundg kj5
            case measure => have := HJ1.out; have := HK2.out; have := HJ5.out; omega
            case rel => exact ⟨(wrap64 (x4_2 + (rd l0 x5_2))), (wrap64 (x5_2 + 1)), qs_, qs_, H', ⟨by have := HJ1.out; have := HK2.out; have := HJ5.out; omega⟩, by repeat (first | exact Drawn0.refl _ | apply Drawn0.step)⟩
           ·rw [if_neg c11] at H
            exact absurd H (by simp)
          ·rw [if_neg c10] at H
           exact absurd H (by simp)
      ·rw [if_neg c5] at H
       have c5b0 : decide (x5_2 < (l0.length : Int)) = false := decide_eq_false c5
       clear c5
       simp only [Option.some.injEq, Prod.mk.injEq] at H
       obtain ⟨rfl, rfl⟩ := H
       go_wp2
       go_ret2
       exact ⟨by first | rfl | (simp; done) | (simp [*]; done), by repeat (first | exact Drawn0.refl _ | apply Drawn0.step)⟩
end Go.Proofs.YtkdhippoibjfkaaDoor.PR
end
