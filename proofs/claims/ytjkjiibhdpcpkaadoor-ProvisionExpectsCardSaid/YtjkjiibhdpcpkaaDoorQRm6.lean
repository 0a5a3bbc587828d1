import Derived.Test.YtjkjiibhdpcpkaaDoorQRm2
import Derived.Test.YtjkjiibhdpcpkaaDoorQRm3
import Derived.Test.YtjkjiibhdpcpkaaDoorQRm4
import Derived.Test.YtjkjiibhdpcpkaaDoorQRm5
section
namespace Go.Proofs.YtjkjiibhdpcpkaaDoor.PS
open Go.RowKit Go.Proofs.YtjkjiibhdpcpkaaDoorW.PrintWords Go.Proofs.YtjkjiibhdpcpkaaDoorW.PrintLast
set_option linter.unusedVariables false
set_option linter.unusedSimpArgs false
attribute [local go_sem high] eqA63
def rounding_more.f (a0_0 a0_1 a1 a2 a3 : Int) : Option Int :=
 if (1 ≤ a3 ∧ a3 ≤ 6) ∧ inI a0_0 ∧ inU a0_1 ∧ 0 < a1 ∧ a1 < a2 ∧ a2 ≤ 9223372036854775807 then
  some (if upB (decide (a0_0 < 0)) (decide (a0_1 % 2 = 1)) a1 a2 a3 = true then 1 else 0) else none
theorem and1 (x : Int) (h0 : 0 ≤ x) (h1 : x ≤ 18446744073709551615) : bits .and .u64 x 1 = x % 2 := by
 obtain ⟨n, rfl⟩ := Int.eq_ofNat_of_zero_le h0
 have h := u64_and_nat n 1 (by omega) (by omega)
 rw [show ((1 : Nat) : Int) = 1 from rfl] at h
 rw [h, Nat.and_one_is_mod]
 omega
set_option maxHeartbeats 4000000 in
set_option maxRecDepth 100000 in
theorem rounding_more.calls (a0_0 a0_1 a1 a2 a3 r : Int) (w : World) (hG : GW w) (h : rounding_more.f a0_0 a0_1 a1 a2 a3 = some r) :
  Calls Tryd.prog 53 #[.agg #[.int .i64 a0_0, .int .u64 a0_1], .int .i64 a1, .int .i64 a2, .int .i64 a3] w fun e w' => e = .returned (.int .i64 r) ∧ Below w.heap.size w w' := by
 unfold rounding_more.f at h
 split at h
 ·rename_i c
  obtain ⟨⟨m1, m6⟩, ⟨i0, i1⟩, ⟨u0, u1⟩, p1, p2, p3⟩ := c
  injection h with h
  have hG' := hG.below (Below.alloc (Below.refl w.heap.size w) (Nat.le_refl _) (.cells #[.int .i64 a0_0, .int .u64 a0_1] 63))
  have s2 := hG'.st 2 (by decide)
  have s3 := hG'.st 3 (by decide)
  have s4 := hG'.st 4 (by decide)
  have s5 := hG'.st 5 (by decide)
  have s6 := hG'.st 6 (by decide)
  have s7 := hG'.st 7 (by decide)
  have s8 := hG'.st 8 (by decide)
  have s9 := hG'.st 9 (by decide)
  simp only [stepsL, List.getD_cons_succ, List.getD_cons_zero] at s2 s3 s4 s5 s6 s7 s8 s9
  clear hG hG'
  have fin : ∀ {x : Int}, x = r → (Ending.returned (.int .i64 x) = Ending.returned (.int .i64 r)) := by rintro x rfl; rfl
  by_cases hn : a0_0 < 0
  all_goals rcases (by omega : a3 = 1 ∨ a3 = 2 ∨ a3 = 3 ∨ a3 = 4 ∨ a3 = 5 ∨ a3 = 6) with rfl | rfl | rfl | rfl | rfl | rfl
  all_goals
   simp [upB, hn] at h
   have HH := Aside0.mk h
   clear h
   go_enter Tryd.func53, Tryd.ntmps53
   go_wp2
   all_goals
    go_ret
    refine ⟨fin ?_, (Below.refl _ _).alloc (Nat.le_refl _) _⟩
    have h := HH.out
    clear HH s2 s3 s4 s5 s6 s7 s8 s9 fin
    go_light
    first
     | exact h
     | (rw [and1 _ u0 u1]; unfold wrap64; omega)
     | (rw [and1 _ u0 u1]; unfold wrap64; split at h <;> omega)
     | (split at h <;> omega)
 ·cases h
def wide_IntP.f (a0_0 a0_1 : Int) : Option (Int × Bool) := (wide_Of.f (wrap64 (a0_1))).bind fun bt164 => (if (!(bt164.1 == a0_0) || (!(bt164.2 == a0_1))) = true then (some (0, false)) else (some (wrap64 (a0_1), true)))
set_option maxHeartbeats 8000000 in
set_option maxRecDepth 100000 in
theorem wide_IntP.calls (a0_0 a0_1 r1 : Int) (r2 : Bool) (w : World) (h : wide_IntP.f a0_0 a0_1 = some (r1, r2)) :
  Calls Tryd.prog 54 #[.agg #[.int .i64 a0_0, .int .u64 a0_1]] w fun e w' => e = .returned (.tuple #[.int .i64 r1, .bool r2]) ∧ Below w.heap.size w w' := by
 have hu63 := Tryd.underlying63
 have HB := Aside0.mk (Below.refl w.heap.size w)
 have H : ((wide_Of.f (wrap64 (a0_1))).bind fun bt164 => (if (!(bt164.1 == a0_0) || (!(bt164.2 == a0_1))) = true then (some (0, false)) else (some (wrap64 (a0_1), true)))) = some (r1, r2) := h
 clear h
 replace H := Option.bind_eq_some_iff.mp H
 obtain ⟨⟨t164, t165⟩, A20, H⟩ := H
 replace H : (if (!(t164 == a0_0) || (!(t165 == a0_1))) = true then (some (0, false)) else (some (wrap64 (a0_1), true))) = some (r1, r2) := H
 have A2 := Aside0.mk A20
 clear A20
 by_cases c3 : (!(t164 == a0_0) || (!(t165 == a0_1))) = true
 ·rw [if_pos c3] at H
  have c3b0 : (!(t164 == a0_0) || (!(t165 == a0_1))) = true := c3
  clear c3
  simp only [Option.some.injEq, Prod.mk.injEq] at H
  obtain ⟨rfl, rfl⟩ := H
  go_enter Tryd.func54, Tryd.ntmps54
  try go_wp2_with (first | ((with_reducible refine gate_dst (N := 1) rfl ?_); refine be_ (N := 1) (cs := #[.int .i64 a0_0, .int .u64 a0_1]) (t := 63) ?_; intro gb163 hg w4 hbox hb; have n0_ := Aside0.mk (below_step (qb_ HB.out) hb); have n1_ := Aside0.mk (hbox); have n2_ := Aside0.mk (bz_ hg (qb_ HB.out) : w.heap.size ≤ gb163); have n3_ := n2_; clear HB; have HB := n0_; have BK163 := n1_; have GW163 := n2_; have GE163 := n3_; clear n0_ n1_ n2_ n3_; clear hb hbox hg; obtain ⟨Z5_0, Z5_1, Y5_0, Y5_1⟩ := cz2_ BK163.out))
  have n0_ := Aside0.mk (blk_drew BK163.out)
  have n1_ := Aside0.mk (below_drew1 HB.out)
  clear BK163
  clear HB
  have BK163 := n0_
  have HB := n1_
  clear n0_ n1_
  refine start_ (n := 4) (S := cS2_ gb163 (.int .i64 a0_0) (.int .u64 a0_1)) (ds := []) (nb_ 4 0) (by kernel_rfl) rfl rfl (cc2_ BK163.out) (fun hHeld => ?_)
  generalize w4.drew = w6 at BK163 HB hHeld ⊢
  refine pure_ (i := 0) (N := some 8) (v := ?_) (a' := ?_) (nb_ 4 1) rfl rfl (by kernel_rfl) (fun _ _ _ h => h) (Or.inl ⟨by rfl, ?_⟩) ?_ ?_
  rotate_left
  ·intro w'
   go_simp
   with_reducible rfl
  rotate_left
  ·simp only [Act.put, List.setIfInBounds_toArray, List.set_cons_zero, List.set_cons_succ, i64_w, i32_w]
   rfl
  refine take_ (i := 2) (N := some 10) (v := ?_) (a' := ?_) (nb_ 4 5) rfl rfl (by kernel_rfl) (fun _ _ _ h => h) (Or.inl ⟨by rfl, ?_⟩) hHeld ?_ ?_
  rotate_left
  ·rintro w' ⟨s0, s1⟩
   go_simp
   with_reducible rfl
  rotate_left
  ·simp only [Act.put, List.setIfInBounds_toArray, List.set_cons_zero, List.set_cons_succ, i64_w, i32_w]
   rfl
  refine one_ (i := 1) (N := some 9) (nb_ 4 7) rfl rfl (by kernel_rfl) (by decide) (fun K hK => ?_)
  refine goes_ Tryd.func52 (by kernel_rfl) rfl #[.int .i64 (wrap64 (a0_1))] (by rfl) rfl rfl ql_ ?_
  with_reducible refine (wide_Of.calls (wrap64 (a0_1)) t164 t165 _ A2.out).mono ?_
  rintro e w7 ⟨rfl, hb⟩
  refine ⟨_, rfl, ?_⟩
  have n0_ := Aside0.mk (blk_below (qk_ BK163.out) hb)
  have n1_ := Aside0.mk (below_step (qb1_ GE163.out HB.out) hb)
  clear BK163
  clear HB
  have BK163 := n0_
  have HB := n1_
  clear n0_ n1_
  (try clear hb)
  (try clear hb2)
  (try clear hk)
  (try clear hi)
  refine hK.out _ _ (cc2_ BK163.out) (fun hHeld => ?_)
  clear hK K
  refine no_ ?_
  refine pure_ (i := 3) (N := some 11) (v := ?_) (a' := ?_) (nb_ 4 15) rfl rfl (by kernel_rfl) (fun _ _ _ h => h) (Or.inl ⟨by rfl, ?_⟩) ?_ ?_
  rotate_left
  ·intro w'
   go_simp
   with_reducible rfl
  rotate_left
  ·simp only [Act.put, List.setIfInBounds_toArray, List.set_cons_zero, List.set_cons_succ, i64_w, i32_w]
   rfl
  refine done_ (by kernel_rfl) ?_
  try go_wp2
  go_ret2
  exact ⟨qe_, qb1_ GE163.out HB.out⟩
 ·rw [if_neg c3] at H
  have c3b0 : (!(t164 == a0_0) || (!(t165 == a0_1))) = false := by simpa using c3
  clear c3
  simp only [Option.some.injEq, Prod.mk.injEq] at H
  obtain ⟨rfl, rfl⟩ := H
  go_enter Tryd.func54, Tryd.ntmps54
  try go_wp2_with (first | ((with_reducible refine gate_dst (N := 1) rfl ?_); refine be_ (N := 1) (cs := #[.int .i64 a0_0, .int .u64 a0_1]) (t := 63) ?_; intro gb163 hg w8 hbox hb; have n0_ := Aside0.mk (below_step (qb_ HB.out) hb); have n1_ := Aside0.mk (hbox); have n2_ := Aside0.mk (bz_ hg (qb_ HB.out) : w.heap.size ≤ gb163); have n3_ := n2_; clear HB; have HB := n0_; have BK163 := n1_; have GW163 := n2_; have GE163 := n3_; clear n0_ n1_ n2_ n3_; clear hb hbox hg; obtain ⟨Z9_0, Z9_1, Y9_0, Y9_1⟩ := cz2_ BK163.out))
  have n0_ := Aside0.mk (blk_drew BK163.out)
  have n1_ := Aside0.mk (below_drew1 HB.out)
  clear BK163
  clear HB
  have BK163 := n0_
  have HB := n1_
  clear n0_ n1_
  refine start_ (n := 4) (S := cS2_ gb163 (.int .i64 a0_0) (.int .u64 a0_1)) (ds := []) (nb_ 4 0) (by kernel_rfl) rfl rfl (cc2_ BK163.out) (fun hHeld => ?_)
  generalize w8.drew = w10 at BK163 HB hHeld ⊢
  refine pure_ (i := 0) (N := some 8) (v := ?_) (a' := ?_) (nb_ 4 1) rfl rfl (by kernel_rfl) (fun _ _ _ h => h) (Or.inl ⟨by rfl, ?_⟩) ?_ ?_
  rotate_left
  ·intro w'
   go_simp
   with_reducible rfl
  rotate_left
  ·simp only [Act.put, List.setIfInBounds_toArray, List.set_cons_zero, List.set_cons_succ, i64_w, i32_w]
   rfl
  refine take_ (i := 2) (N := some 10) (v := ?_) (a' := ?_) (nb_ 4 5) rfl rfl (by kernel_rfl) (fun _ _ _ h => h) (Or.inl ⟨by rfl, ?_⟩) hHeld ?_ ?_
  rotate_left
  ·rintro w' ⟨s0, s1⟩
   go_simp
   with_reducible rfl
  rotate_left
  ·simp only [Act.put, List.setIfInBounds_toArray, List.set_cons_zero, List.set_cons_succ, i64_w, i32_w]
   rfl
  refine one_ (i := 1) (N := some 9) (nb_ 4 7) rfl rfl (by kernel_rfl) (by decide) (fun K hK => ?_)
  refine goes_ Tryd.func52 (by kernel_rfl) rfl #[.int .i64 (wrap64 (a0_1))] (by rfl) rfl rfl ql_ ?_
  with_reducible refine (wide_Of.calls (wrap64 (a0_1)) t164 t165 _ A2.out).mono ?_
  rintro e w11 ⟨rfl, hb⟩
  refine ⟨_, rfl, ?_⟩
  have n0_ := Aside0.mk (blk_below (qk_ BK163.out) hb)
  have n1_ := Aside0.mk (below_step (qb1_ GE163.out HB.out) hb)
  clear BK163
  clear HB
  have BK163 := n0_
  have HB := n1_
  clear n0_ n1_
  (try clear hb)
  (try clear hb2)
  (try clear hk)
  (try clear hi)
  refine hK.out _ _ (cc2_ BK163.out) (fun hHeld => ?_)
  clear hK K
  refine no_ ?_
  refine pure_ (i := 3) (N := some 11) (v := ?_) (a' := ?_) (nb_ 4 15) rfl rfl (by kernel_rfl) (fun _ _ _ h => h) (Or.inl ⟨by rfl, ?_⟩) ?_ ?_
  rotate_left
  ·intro w'
   go_simp
   with_reducible rfl
  rotate_left
  ·simp only [Act.put, List.setIfInBounds_toArray, List.set_cons_zero, List.set_cons_succ, i64_w, i32_w]
   rfl
  refine done_ (by kernel_rfl) ?_
  try go_wp2
  go_ret2
  exact ⟨qe_, qb1_ GE163.out HB.out⟩
def wide_Int.f (a0_0 a0_1 : Int) : Option (Int × Bool) :=
 if isW a0_0 a0_1 then some (if inI (wv a0_0 a0_1) then (wv a0_0 a0_1, true) else (0, false)) else none
theorem wide_Int.eq {a b : Int} {r : Int × Bool} (h : wide_Int.f a b = some r) : wide_IntP.f a b = some r := by
 unfold wide_Int.f at h
 split at h
 ·rename_i c
  obtain ⟨⟨c0, c1⟩, c2, c3⟩ := c
  injection h with h
  subst h
  unfold wide_IntP.f wide_Of.f
  rw [if_pos (by unfold inI wrap64; omega)]
  simp only [Option.bind_some]
  by_cases e : inI (wv a b)
  ·rw [if_pos e]
   unfold inI wv at e
   have e1 : wrap64 b / 18446744073709551616 = a := by unfold wrap64; omega
   have e2 : wrap64 b % 18446744073709551616 = b := by unfold wrap64; omega
   rw [e1, e2, if_neg (by simp)]
   congr 2
   unfold wrap64 wv
   omega
  ·rw [if_neg e]
   unfold inI wv at e
   have e1 : wrap64 b / 18446744073709551616 ≠ a := by unfold wrap64; omega
   rw [if_pos (by simp [e1])]
 ·cases h
theorem wide_Int.calls (a0_0 a0_1 r1 : Int) (r2 : Bool) (w : World) (h : wide_Int.f a0_0 a0_1 = some (r1, r2)) :
  Calls Tryd.prog 54 #[.agg #[.int .i64 a0_0, .int .u64 a0_1]] w fun e w' => e = .returned (.tuple #[.int .i64 r1, .bool r2]) ∧ Below w.heap.size w w' := by
 have h := wide_Int.eq h
 exact wide_IntP.calls a0_0 a0_1 r1 r2 w h
end Go.Proofs.YtjkjiibhdpcpkaaDoor.PS
end
section
namespace Go.Proofs.YtjkjiibhdpcpkaaDoor.PS
open Go.RowKit Go.Proofs.YtjkjiibhdpcpkaaDoorW.PrintWords Go.Proofs.YtjkjiibhdpcpkaaDoorW.PrintLast
set_option linter.unusedVariables false
set_option linter.unusedSimpArgs false
theorem eqA50 (d : Nat) (w : World) (x0 y0 : Int) (x1 y1 : Int) (x2 y2 : Int) (x3 y3 : Int) (x4 y4 : Int) (x5 y5 : Int) (x6 y6 : Int) (x7 y7 : Int) (x8 y8 : Int) (x9 y9 : Int) (x10 y10 : Int) (x11 y11 : Int) (x12 y12 : ByteArray) (x13 y13 : ByteArray) :
    (Op.equalIn (d + 3) 50 (.agg #[.int .i64 x0, .int .i64 x1, .int .i64 x2, .int .i64 x3, .int .i64 x4, .int .i64 x5, .int .i64 x6, .int .i64 x7, .int .i64 x8, .int .i64 x9, .int .i64 x10, .int .i64 x11, .string x12, .string x13]) (.agg #[.int .i64 y0, .int .i64 y1, .int .i64 y2, .int .i64 y3, .int .i64 y4, .int .i64 y5, .int .i64 y6, .int .i64 y7, .int .i64 y8, .int .i64 y9, .int .i64 y10, .int .i64 y11, .string y12, .string y13])).run Tryd.prog w = .ok (x0 == y0 && (x1 == y1 && ((x2 == y2 && (x3 == y3 && (x4 == y4 && (x5 == y5 && (x6 == y6 && (x7 == y7 && (x8 == y8 && (x9 == y9 && (x10 == y10 && (x11 == y11 && (x12.toList == y12.toList && (x13.toList == y13.toList))))))))))))))) w := by
  refine eqA_of Tryd.underlying50 (by kernel_rfl) ?_
  refine eqf_cons (by rfl) (by go_simp; rfl) (by go_simp; rfl) (by go_simp) ?_
  refine eqf_cons (by rfl) (by go_simp; rfl) (by go_simp; rfl) (by go_simp) ?_
  exact eqf_last (by rfl) (by go_simp) (by go_simp) (eqA23 (d + 0) w _ _ _ _ _ _ _ _ _ _ _ _ _ _ _ _ _ _ _ _ _ _ _ _)
mutual
def rounding_DivideP.j0 : Nat → Int → Int → Bool → Int → Int → Option (Int × Int)
 | 0, _, _, _, _, _ => none
 | k + 1, x1, x2, x19, x167000, x167001 => if x19 = true then (some (0, 1)) else ((wide_Div.f x167000 x167001 x1).bind fun bt168 => (if bt168.2.2.1 > 0 then ((rounding_more.f bt168.1 bt168.2.1 bt168.2.2.1 x1 x2).bind fun t173 => ((wide_Of.f t173).bind fun bt174 => ((wide_Add.f bt168.1 bt168.2.1 bt174.1 bt174.2).bind fun bt176 => (rounding_DivideP.j1 k bt176.1 bt176.2.1)))) else (rounding_DivideP.j1 k bt168.1 bt168.2.1)))
def rounding_DivideP.j1 : Nat → Int → Int → Option (Int × Int)
 | 0, _, _ => none
 | k + 1, x173000, x173001 => (wide_Int.f x173000 x173001).bind fun bt179 => (if bt179.2 = true then (some (bt179.1, 0)) else (some (0, 6)))
end
def rounding_DivideP.f (k : Nat) (a0_0 a0_1 a1 a2 : Int) : Option (Int × Int) := if a1 < 1 then (rounding_DivideP.j0 k a1 a2 true a0_0 a0_1) else ((rounding_Valid.f a2).bind fun t167 => (rounding_DivideP.j0 k a1 a2 (!t167) a0_0 a0_1))
def rounding_DivideP.T5 : Bool × List (List Nat × List Nat) := (true, [([], []), ([], []), ([], []), ([], []), ([], []), ([1, 2, 3, 4], [1, 2, 3, 4]), ([5, 5], [5]), ([0, 6, 6], [0, 6]), ([7], [7]), ([8], [8]), ([8], [8]), ([9, 7, 0, 1, 2, 3, 4, 5, 6, 7, 8, 9], [9])])
def rounding_DivideP.B5 : List Nat := [0, 0, 0, 0, 0, 30, 62, 127, 255, 511, 511, 1023]
theorem rounding_DivideP.tab5 : rtab .any (opsOf Tryd.f43 5) = rounding_DivideP.T5 := by kernel_rfl
theorem rounding_DivideP.bits5 : waitsOk rounding_DivideP.T5.2 rounding_DivideP.B5 = true := by kernel_rfl
set_option maxHeartbeats 8000000 in
set_option maxRecDepth 100000 in
theorem rounding_DivideP.calls (k : Nat) (a0_0 a0_1 a1 a2 r1 r2 : Int) (w : World) (hG : GW w) (h : rounding_DivideP.f k a0_0 a0_1 a1 a2 = some (r1, r2)) :
  Calls Tryd.prog 43 #[.agg #[.int .i64 a0_0, .int .u64 a0_1], .int .i64 a1, .int .i64 a2] w fun e w' => e = .returned (.tuple #[.int .i64 r1, .int .i64 r2]) ∧ Below w.heap.size w w' := by
 have hu63 := Tryd.underlying63
 have HB := Aside0.mk (Below.refl w.heap.size w)
 have H : (if a1 < 1 then (rounding_DivideP.j0 k a1 a2 true a0_0 a0_1) else ((rounding_Valid.f a2).bind fun t167 => (rounding_DivideP.j0 k a1 a2 (!t167) a0_0 a0_1))) = some (r1, r2) := h
 clear h
 have HC4 := Aside0.mk H
 clear H
 go_enter Tryd.func43, Tryd.ntmps43
 go_upto_region 1 with (first | ((with_reducible refine gate_dst (N := 3) rfl ?_); refine be_ (N := 3) (cs := #[.int .i64 a0_0, .int .u64 a0_1]) (t := 63) ?_; intro gb166 hg w5 hbox hb; have n0_ := Aside0.mk (below_step (qb_ HB.out) hb); have n1_ := Aside0.mk (hbox); have n2_ := Aside0.mk (bz_ hg (qb_ HB.out) : w.heap.size ≤ gb166); have n3_ := n2_; clear HB; have HB := n0_; have BK166 := n1_; have GW166 := n2_; have GE166 := n3_; clear n0_ n1_ n2_ n3_; clear hb hbox hg))
 (try simp only [Act.put, List.setIfInBounds_toArray, List.set_cons_zero, List.set_cons_succ])
 go_cut [19] (fun v19 wc => ∃ (kq : Nat) (x19_3 : Bool), v19 = .bool x19_3 ∧ Aside0 (rounding_DivideP.j0 kq a1 a2 x19_3 a0_0 a0_1 = some (r1, r2)) ∧ Aside0 (kq ≤ k) ∧ Aside0 (wc.heap[gb166]? = some (.cells #[.int .i64 a0_0, .int .u64 a0_1] 63 (0, 0))) ∧ Aside0 (Below w.heap.size w wc))
 case first =>
  have H := HC4.out
  clear HC4
  by_cases c6 : a1 < 1
  ·rw [if_pos c6] at H
   have c6b0 : decide (a1 < 1) = true := decide_eq_true c6
   clear c6
   (first | rw [c6b0] | (simp only [i64_w, i32_w]; rw [c6b0]) | skip)
   have H' := Aside0.mk H
   clear H
   go_wp2
   go_meet
   case rel => exact ⟨_, (true), qs_, H', ⟨qo_⟩, ⟨qk_ BK166.out⟩, ⟨qb1_ GE166.out HB.out⟩⟩
  ·rw [if_neg c6] at H
   have c6b0 : decide (a1 < 1) = false := decide_eq_false c6
   clear c6
   (first | rw [c6b0] | (simp only [i64_w, i32_w]; rw [c6b0]) | skip)
   replace H := Option.bind_eq_some_iff.mp H
   obtain ⟨t167, A70, H⟩ := H
   replace H : (rounding_DivideP.j0 k a1 a2 (!t167) a0_0 a0_1) = some (r1, r2) := H
   have A7 := Aside0.mk A70
   clear A70
   have H' := Aside0.mk H
   clear H
   go_wp2_with (first | (go_at_call 42; (with_reducible refine (rounding_Valid.calls a2 t167 _ A7.out).mono ?_); rintro e w' ⟨rfl, ⟨nd, rfl⟩⟩))
   go_meet
   case rel => exact ⟨_, (!t167), qs_, H', ⟨qo_⟩, ⟨qk_ BK166.out⟩, ⟨qb1_ GE166.out HB.out⟩⟩
 case rest =>
  clear HC4
  try clear p2
  try clear c4
  try clear c6
  try clear c6b0
  obtain ⟨kq, x19_3, rfl, HA, HJ3, BK166, HB⟩ := hcut
  cases kq with
  | zero => exact absurd HA.out (by simp [rounding_DivideP.j0])
  | succ kj3 =>
   have H := HA.out
   clear HA
   simp only [rounding_DivideP.j0] at H
   by_cases c8 : x19_3 = true
   ·subst c8
    have H1 : (some (0, 1)) = some (r1, r2) := by rw [if_pos rfl] at H; exact H
    clear H
    have H := H1
    clear H1
    simp only [Option.some.injEq, Prod.mk.injEq] at H
    obtain ⟨rfl, rfl⟩ := H
    go_wp2
    go_ret2
    exact ⟨qe_, qb1_ GE166.out HB.out⟩
   ·replace c8 := Bool.eq_false_iff.mpr c8
    subst c8
    have H1 : ((wide_Div.f a0_0 a0_1 a1).bind fun bt168 => (if bt168.2.2.1 > 0 then ((rounding_more.f bt168.1 bt168.2.1 bt168.2.2.1 a1 a2).bind fun t173 => ((wide_Of.f t173).bind fun bt174 => ((wide_Add.f bt168.1 bt168.2.1 bt174.1 bt174.2).bind fun bt176 => (rounding_DivideP.j1 kj3 bt176.1 bt176.2.1)))) else (rounding_DivideP.j1 kj3 bt168.1 bt168.2.1))) = some (r1, r2) := by rw [if_neg (show ¬ (false = true) by decide)] at H; exact H
    clear H
    have H := H1
    clear H1
    replace H := Option.bind_eq_some_iff.mp H
    obtain ⟨⟨t168, t169, t170, t171⟩, A90, H⟩ := H
    replace H : (if t170 > 0 then ((rounding_more.f t168 t169 t170 a1 a2).bind fun t173 => ((wide_Of.f t173).bind fun bt174 => ((wide_Add.f t168 t169 bt174.1 bt174.2).bind fun bt176 => (rounding_DivideP.j1 kj3 bt176.1 bt176.2.1)))) else (rounding_DivideP.j1 kj3 t168 t169)) = some (r1, r2) := H
    have A9 := Aside0.mk A90
    clear A90
    have HC10 := Aside0.mk H
    clear H
    obtain ⟨Z11_0, Z11_1, Y11_0, Y11_1⟩ := cz2_ BK166.out
    go_upto_if 28 with (first | ((with_reducible refine gate_callee (f := 50) rfl ?_); refine goesL_ (some 23) rfl rfl Tryd.func50 (by kernel_rfl) rfl #[.agg #[.int .i64 a0_0, .int .u64 a0_1], .int .i64 a1] rfl ql_ ?_; (with_reducible refine (wide_Div.calls a0_0 a0_1 a1 t168 t169 t170 t171 _ A9.out).mono ?_); rintro e w12 ⟨rfl, hb⟩; refine ⟨_, rfl, ?_⟩; have n0_ := Aside0.mk (blk_below (qk_ BK166.out) hb); have n1_ := Aside0.mk (below_step (qb1_ GE166.out HB.out) hb); clear BK166; clear HB; have BK166 := n0_; have HB := n1_; clear n0_ n1_; (try clear hb); (try clear hb2); (try clear hk); (try clear hi)) | ((with_reducible refine gate_dst (N := 8) rfl ?_); refine be_ (N := 8) (cs := #[.int .i64 0, .int .u64 0]) (t := 63) ?_; intro gb172 hg w13 hbox hb; have n0_ := Aside0.mk (blk_below (qk_ BK166.out) hb); have n1_ := Aside0.mk (below_step (qb1_ GE166.out HB.out) hb); have n2_ := Aside0.mk (hbox); have n3_ := Aside0.mk (bz_ hg (qb1_ GE166.out HB.out) : w.heap.size ≤ gb172); have n4_ := n3_; have n5_ := Aside0.mk (nl_ hg (qk_ BK166.out) : gb166 ≠ gb172); have n6_ := Aside0.mk (ng_ hg (qk_ BK166.out) : gb172 ≠ gb166); clear BK166; clear HB; have BK166 := n0_; have HB := n1_; have BK172 := n2_; have GW172 := n3_; have GE172 := n4_; have NB166_172 := n5_; have NB172_166 := n6_; clear n0_ n1_ n2_ n3_ n4_ n5_ n6_; clear hb hbox hg; have hnb14 := NB172_166.out; have hnc14 := NB166_172.out; obtain ⟨Z15_0, Z15_1, Y15_0, Y15_1⟩ := cz2_ BK172.out))
    (try simp only [Act.put, List.setIfInBounds_toArray, List.set_cons_zero, List.set_cons_succ])
    go_cut [] (fun wc => ∃ (kq : Nat) (x173000_9 x173001_9 : Int), Aside0 (rounding_DivideP.j1 kq x173000_9 x173001_9 = some (r1, r2)) ∧ Aside0 (kq ≤ kj3) ∧ Aside0 (wc.heap[gb166]? = some (.cells #[.int .i64 a0_0, .int .u64 a0_1] 63 (0, 0))) ∧ Aside0 (wc.heap[gb172]? = some (.cells #[.int .i64 x173000_9, .int .u64 x173001_9] 63 (0, 0))) ∧ Aside0 (Below w.heap.size w wc))
    case first =>
     have H := HC10.out
     clear HC10
     by_cases c16 : t170 > 0
     ·rw [if_pos c16] at H
      have c16b0 : decide (0 < t170) = true := decide_eq_true c16
      clear c16
      (first | rw [c16b0] | (simp only [i64_w, i32_w]; rw [c16b0]) | skip)
      replace H := Option.bind_eq_some_iff.mp H
      obtain ⟨t173, A170, H⟩ := H
      replace H : ((wide_Of.f t173).bind fun bt174 => ((wide_Add.f t168 t169 bt174.1 bt174.2).bind fun bt176 => (rounding_DivideP.j1 kj3 bt176.1 bt176.2.1))) = some (r1, r2) := H
      have A17 := Aside0.mk A170
      clear A170
      replace H := Option.bind_eq_some_iff.mp H
      obtain ⟨⟨t174, t175⟩, A180, H⟩ := H
      replace H : ((wide_Add.f t168 t169 t174 t175).bind fun bt176 => (rounding_DivideP.j1 kj3 bt176.1 bt176.2.1)) = some (r1, r2) := H
      have A18 := Aside0.mk A180
      clear A180
      replace H := Option.bind_eq_some_iff.mp H
      obtain ⟨⟨t176, t177, t178⟩, A190, H⟩ := H
      replace H : (rounding_DivideP.j1 kj3 t176 t177) = some (r1, r2) := H
      have A19 := Aside0.mk A190
      clear A190
      have H' := Aside0.mk H
      clear H
      try go_wp2
      have n0_ : Aside0 (((w13.setCell ⟨gb172, 0, none⟩ (.int .i64 t168)).setCell ⟨gb172, 1, none⟩ (.int .u64 t169)).heap[gb166]? = some (.cells #[.int .i64 a0_0, .int .u64 a0_1] 63 (0, 0))) := ⟨qff_ NB166_172.out NB166_172.out BK166.out⟩
      have n1_ : Aside0 (((w13.setCell ⟨gb172, 0, none⟩ (.int .i64 t168)).setCell ⟨gb172, 1, none⟩ (.int .u64 t169)).heap[gb172]? = some (.cells #[.int .i64 t168, .int .u64 t169] 63 (0, 0))) := ⟨qpp_ #[.int .i64 t168, .int .u64 0] 1 #[.int .i64 0, .int .u64 0] 0 BK172.out⟩
      have n2_ : Aside0 (Below w.heap.size w ((w13.setCell ⟨gb172, 0, none⟩ (.int .i64 t168)).setCell ⟨gb172, 1, none⟩ (.int .u64 t169))) := ⟨qb2_ GE166.out GE172.out HB.out⟩
      (try clear BK166)
      (try clear BK172)
      (try clear HB)
      generalize ((w13.setCell ⟨gb172, 0, none⟩ (.int .i64 t168)).setCell ⟨gb172, 1, none⟩ (.int .u64 t169)) = w20 at n0_ n1_ n2_ ⊢
      have BK166 := n0_
      have BK172 := n1_
      have HB := n2_
      clear n0_ n1_ n2_
      have n0_ := Aside0.mk (blk_drew BK166.out)
      have n1_ := Aside0.mk (blk_drew BK172.out)
      have n2_ := Aside0.mk (below_drew1 HB.out)
      clear BK166
      clear BK172
      clear HB
      have BK166 := n0_
      have BK172 := n1_
      have HB := n2_
      clear n0_ n1_ n2_
      refine start_ (n := 12) (S := cS2_ gb172 (.int .i64 t168) (.int .u64 t169)) (ds := [11]) (nb_ 12 0) (by kernel_rfl) rfl rfl (cc2_ BK172.out) (fun hHeld => ?_); refine with_tabW rounding_DivideP.tab5 rounding_DivideP.bits5 (fun HT_ HW_ => ?_)
      generalize w20.drew = w21 at BK166 BK172 HB hHeld ⊢
      refine pz_ 2 32 (nb_ 12 4) HT_.out ?_
      refine pz_ 3 33 (nb_ 12 12) HT_.out ?_
      refine pz_ 4 34 (nb_ 12 28) HT_.out ?_
      refine tk2_ 0 30 (nb_ 12 29) HT_.out HW_.out hHeld ?_
      refine tk2_ 1 31 (nb_ 12 31) HT_.out HW_.out hHeld ?_
      refine on_ 5 35 (nb_ 12 63) HT_.out (fun K hK => ?_)
      refine goes_ Tryd.func53 (by kernel_rfl) rfl #[.agg #[.int .i64 t168, .int .u64 t169], .int .i64 t170, .int .i64 a1, .int .i64 a2] (by rfl) rfl rfl ql_ ?_
      with_reducible refine (rounding_more.calls (hG := by first | exact hG | (with_reducible exact GW.below hG (qb2_ GE166.out GE172.out HB.out)) | (with_reducible repeat (first | exact hG | apply GW.drewN | apply GW.drew))) t168 t169 t170 a1 a2 t173 _ A17.out).mono ?_
      rintro e w22 ⟨rfl, hb⟩
      refine ⟨_, rfl, ?_⟩
      have n0_ := Aside0.mk (blk_below (qk_ BK166.out) hb)
      have n1_ := Aside0.mk (blk_below (qk_ BK172.out) hb)
      have n2_ := Aside0.mk (below_step (qb2_ GE166.out GE172.out HB.out) hb)
      clear BK166
      clear BK172
      clear HB
      have BK166 := n0_
      have BK172 := n1_
      have HB := n2_
      clear n0_ n1_ n2_
      (try clear hb)
      (try clear hb2)
      (try clear hk)
      (try clear hi)
      refine hK.out _ _ (cc2_ BK172.out) (fun hHeld => ?_)
      clear hK K
      refine no_ ?_
      refine on_ 6 36 (nb_ 12 127) HT_.out (fun K hK => ?_)
      refine goes_ Tryd.func52 (by kernel_rfl) rfl #[.int .i64 t173] (by rfl) rfl rfl ql_ ?_
      with_reducible refine (wide_Of.calls t173 t174 t175 _ A18.out).mono ?_
      rintro e w23 ⟨rfl, hb⟩
      refine ⟨_, rfl, ?_⟩
      have n0_ := Aside0.mk (blk_below (qk_ BK166.out) hb)
      have n1_ := Aside0.mk (blk_below (qk_ BK172.out) hb)
      have n2_ := Aside0.mk (below_step (qb2_ GE166.out GE172.out HB.out) hb)
      clear BK166
      clear BK172
      clear HB
      have BK166 := n0_
      have BK172 := n1_
      have HB := n2_
      clear n0_ n1_ n2_
      (try clear hb)
      (try clear hb2)
      (try clear hk)
      (try clear hi)
      refine hK.out _ _ (cc2_ BK172.out) (fun hHeld => ?_)
      clear hK K
      refine no_ ?_
      refine on_ 7 37 (nb_ 12 255) HT_.out (fun K hK => ?_)
      refine goes_ Tryd.func51 (by kernel_rfl) rfl #[.agg #[.int .i64 t168, .int .u64 t169], .agg #[.int .i64 t174, .int .u64 t175]] (by rfl) rfl rfl ql_ ?_
      with_reducible refine (wide_Add.calls t168 t169 t174 t175 t176 t177 t178 _ A19.out).mono ?_
      rintro e w24 ⟨rfl, hb⟩
      refine ⟨_, rfl, ?_⟩
      have n0_ := Aside0.mk (blk_below (qk_ BK166.out) hb)
      have n1_ := Aside0.mk (blk_below (qk_ BK172.out) hb)
      have n2_ := Aside0.mk (below_step (qb2_ GE166.out GE172.out HB.out) hb)
      clear BK166
      clear BK172
      clear HB
      have BK166 := n0_
      have BK172 := n1_
      have HB := n2_
      clear n0_ n1_ n2_
      (try clear hb)
      (try clear hb2)
      (try clear hk)
      (try clear hi)
      refine hK.out _ _ (cc2_ BK172.out) (fun hHeld => ?_)
      clear hK K
      refine no_ ?_
      refine pz_ 8 29 (nb_ 12 511) HT_.out ?_
      refine pz_ 9 38 (nb_ 12 1023) HT_.out ?_
      refine pz_ 10 39 (nb_ 12 2047) HT_.out ?_
      refine last_ (i := 11) (N := none) (nb_ 12 4095) rfl rfl (one_of HT_.out (by kernel_rfl)) (by decide) (fun K hK => ?_)
      have hs25 : w24.cell? ⟨gb172, 0, none⟩ = some (.int .i64 t168) := (blk_cell BK172.out 0).trans rfl
      have hfs25 := blk_frozen BK172.out 0
      have hns25_0 := NB166_172.out
      have hms25_0 := NB172_166.out
      have hs26 : w24.cell? ⟨gb172, 1, none⟩ = some (.int .u64 t169) := (blk_cell BK172.out 1).trans rfl
      have hfs26 := blk_frozen BK172.out 1
      have hns26_0 := NB166_172.out
      have hms26_0 := NB172_166.out
      refine skip_ (w1 := ?_) (by rfl) rfl ?_ ?_
      rotate_left
      ·go_simp
       rfl
      refine hK.out _ _ ?_
      clear hK K
      refine done_ (done_of HT_.out (by kernel_rfl)) ?_
      try go_wp2
      go_meet
      case rel => exact ⟨_, (t176), (t177), H', ⟨by have := HJ3.out; first | omega | exact Nat.le_refl _⟩, ⟨qff_ NB166_172.out NB166_172.out BK166.out⟩, ⟨qpp_ #[.int .i64 t176, .int .u64 t169] 1 #[.int .i64 t168, .int .u64 t169] 0 BK172.out⟩, ⟨qb2_ GE166.out GE172.out HB.out⟩⟩
     ·rw [if_neg c16] at H
      have c16b0 : decide (0 < t170) = false := decide_eq_false c16
      clear c16
      (first | rw [c16b0] | (simp only [i64_w, i32_w]; rw [c16b0]) | skip)
      have H' := Aside0.mk H
      clear H
      go_wp2
      go_meet
      case rel => exact ⟨_, (t168), (t169), H', ⟨by have := HJ3.out; first | omega | exact Nat.le_refl _⟩, ⟨qff_ NB166_172.out NB166_172.out BK166.out⟩, ⟨qpp_ #[.int .i64 t168, .int .u64 0] 1 #[.int .i64 0, .int .u64 0] 0 BK172.out⟩, ⟨qb2_ GE166.out GE172.out HB.out⟩⟩
    case rest =>
     clear HC10
     try clear c1
     try clear p2
     try clear c4
     try clear c5
     try clear c6
     try clear c6b0
     try clear c8
     try clear c14
     try clear c16
     try clear c16b0
     (try clear Z11_0 Z11_1 Y11_0 Y11_1)
     (try clear Z15_0 Z15_1 Y15_0 Y15_1)
     try clear p2
     obtain ⟨kq, x173000_9, x173001_9, HA, HJ9, BK166, BK172, HB⟩ := hcut
     cases kq with
     | zero => exact absurd HA.out (by simp [rounding_DivideP.j1])
     | succ kj9 =>
      have H := HA.out
      clear HA
      simp only [rounding_DivideP.j1] at H
      replace H := Option.bind_eq_some_iff.mp H
      obtain ⟨⟨t179, t180⟩, A270, H⟩ := H
      replace H : (if t180 = true then (some (t179, 0)) else (some (0, 6))) = some (r1, r2) := H
      have A27 := Aside0.mk A270
      clear A270
      by_cases c28 : t180 = true
      ·subst c28
       have H1 : (some (t179, 0)) = some (r1, r2) := by rw [if_pos rfl] at H; exact H
       clear H
       have H := H1
       clear H1
       simp only [Option.some.injEq, Prod.mk.injEq] at H
       obtain ⟨rfl, rfl⟩ := H
       have hnb29 := NB172_166.out
       have hnc29 := NB166_172.out
       obtain ⟨Z30_0, Z30_1, Y30_0, Y30_1⟩ := cz2_ BK172.out
       go_wp2_with (first | ((with_reducible refine gate_callee (f := 54) rfl ?_); refine goesL_ (some 42) rfl rfl Tryd.func54 (by kernel_rfl) rfl #[.agg #[.int .i64 x173000_9, .int .u64 x173001_9]] rfl ql_ ?_; (with_reducible refine (wide_Int.calls x173000_9 x173001_9 t179 true _ A27.out).mono ?_); rintro e w31 ⟨rfl, hb⟩; refine ⟨_, rfl, ?_⟩; have n0_ := Aside0.mk (blk_below (qk_ BK166.out) hb); have n1_ := Aside0.mk (blk_below (qk_ BK172.out) hb); have n2_ := Aside0.mk (below_step (qb2_ GE166.out GE172.out HB.out) hb); clear BK166; clear BK172; clear HB; have BK166 := n0_; have BK172 := n1_; have HB := n2_; clear n0_ n1_ n2_; (try clear hb); (try clear hb2); (try clear hk); (try clear hi)))
       go_ret2
       exact ⟨qe_, qb2_ GE166.out GE172.out HB.out⟩
      ·replace c28 := Bool.eq_false_iff.mpr c28
       subst c28
       have H1 : (some (0, 6)) = some (r1, r2) := by rw [if_neg (show ¬ (false = true) by decide)] at H; exact H
       clear H
       have H := H1
       clear H1
       simp only [Option.some.injEq, Prod.mk.injEq] at H
       obtain ⟨rfl, rfl⟩ := H
       have hnb32 := NB172_166.out
       have hnc32 := NB166_172.out
       obtain ⟨Z33_0, Z33_1, Y33_0, Y33_1⟩ := cz2_ BK172.out
       go_wp2_with (first | ((with_reducible refine gate_callee (f := 54) rfl ?_); refine goesL_ (some 42) rfl rfl Tryd.func54 (by kernel_rfl) rfl #[.agg #[.int .i64 x173000_9, .int .u64 x173001_9]] rfl ql_ ?_; (with_reducible refine (wide_Int.calls x173000_9 x173001_9 t179 false _ A27.out).mono ?_); rintro e w34 ⟨rfl, hb⟩; refine ⟨_, rfl, ?_⟩; have n0_ := Aside0.mk (blk_below (qk_ BK166.out) hb); have n1_ := Aside0.mk (blk_below (qk_ BK172.out) hb); have n2_ := Aside0.mk (below_step (qb2_ GE166.out GE172.out HB.out) hb); clear BK166; clear BK172; clear HB; have BK166 := n0_; have BK172 := n1_; have HB := n2_; clear n0_ n1_ n2_; (try clear hb); (try clear hb2); (try clear hk); (try clear hi)))
       go_ret2
       exact ⟨qe_, qb2_ GE166.out GE172.out HB.out⟩
def rounding_Divide.f (a0_0 a0_1 a1 a2 : Int) : Option (Int × Int) := if isW a0_0 a0_1 ∧ inI a1 then some (divR (wv a0_0 a0_1) a1 a2) else none
theorem rounding_Divide.eq {a b n m : Int} {r : Int × Int} (h : rounding_Divide.f a b n m = some r) : ∃ k, rounding_DivideP.f k a b n m = some r := by
 unfold rounding_Divide.f at h
 split at h
 ·rename_i q
  obtain ⟨⟨⟨a0, a1⟩, b0, b1⟩, n0, n1⟩ := q
  injection h with h
  subst h
  refine ⟨2, ?_⟩
  unfold rounding_DivideP.f divR
  by_cases hn : n < 1
  ·rw [if_pos hn, if_pos (.inl hn)]
   simp only [rounding_DivideP.j0]
   rw [if_pos trivial]
  ·rw [if_neg hn]
   by_cases hm : m < 1 ∨ 6 < m
   ·rw [if_pos (.inr hm)]
    have hval : rounding_Valid.f m = some false := by
     unfold rounding_Valid.f
     split
     ·congr 1; apply decide_eq_false; omega
     ·rfl
    rw [hval]
    simp only [Option.bind_some, rounding_DivideP.j0]
    rfl
   ·rw [if_neg (by omega)]
    have hval : rounding_Valid.f m = some true := by
     unfold rounding_Valid.f
     rw [if_pos (by omega)]
     congr 1; apply decide_eq_true; omega
    rw [hval]
    simp only [Option.bind_some, rounding_DivideP.j0]
    rw [if_neg (by decide)]
    unfold wide_Div.f
    rw [if_pos ⟨⟨⟨a0, a1⟩, b0, b1⟩, n0, n1⟩, if_neg hn]
    simp only [Option.bind_some]
    have hv : wv a b = a * 18446744073709551616 + b := rfl
    have vr : -170141183460469231731687303715884105728 ≤ wv a b ∧ wv a b ≤ 170141183460469231731687303715884105727 := by omega
    generalize wv a b = v at *
    have r0 := Int.emod_nonneg v (show n ≠ 0 by omega)
    have r1 := Int.emod_lt_of_pos v (show 0 < n by omega)
    have h3 := Int.emod_add_mul_ediv v n
    have qr : -170141183460469231731687303715884105728 ≤ v / n ∧ v / n ≤ 170141183460469231731687303715884105727 := by
     by_cases hv0 : 0 ≤ v
     ·have := Int.ediv_nonneg hv0 (show 0 ≤ n by omega)
      have := Int.ediv_le_self n hv0
      omega
     ·have h4 : v / n < 0 := Int.ediv_neg_of_neg_of_pos (by omega) (by omega)
      have h5 := Int.mul_le_mul_of_nonpos_right (show 1 ≤ n by omega) (show v / n + 1 ≤ 0 by omega)
      rw [Int.mul_add, Int.mul_one, Int.one_mul] at h5
      omega
    have hwq : wv (v / n / 18446744073709551616) (v / n % 18446744073709551616) = v / n := by unfold wv; omega
    unfold rq
    by_cases hr : v % n > 0
    ·rw [if_pos hr]
     have qs : v / n ≤ 170141183460469231731687303715884105726 := by
      by_cases h1n : n = 1
      ·subst h1n; rw [Int.emod_one] at hr; omega
      ·by_cases hq0 : 0 ≤ v / n
       ·have h4 : 2 * (v / n) ≤ n * (v / n) := Int.mul_le_mul_of_nonneg_right (by omega) hq0
        omega
       ·omega
     unfold rounding_more.f
     rw [if_pos ⟨by omega, by unfold inI; omega, by unfold inU; omega, hr, r1, by omega⟩]
     simp only [Option.bind_some]
     have hodd : decide (v / n % 18446744073709551616 % 2 = 1) = decide (v / n % 2 = 1) := by apply decide_eq_decide.mpr; omega
     have hneg : decide (v / n / 18446744073709551616 < 0) = decide (v / n < 0) := by apply decide_eq_decide.mpr; omega
     rw [hodd, hneg]
     have hup : (if 0 < v % n ∧ upB (decide (v / n < 0)) (decide (v / n % 2 = 1)) (v % n) n m = true then (1 : Int) else 0) = (if upB (decide (v / n < 0)) (decide (v / n % 2 = 1)) (v % n) n m = true then 1 else 0) := by
      by_cases hu : upB (decide (v / n < 0)) (decide (v / n % 2 = 1)) (v % n) n m = true
      ·rw [if_pos ⟨hr, hu⟩, if_pos hu]
      ·rw [if_neg (fun hc => hu hc.2), if_neg hu]
     rw [hup]
     generalize hg : (if upB (decide (v / n < 0)) (decide (v / n % 2 = 1)) (v % n) n m = true then (1 : Int) else 0) = t
     have ht : 0 ≤ t ∧ t ≤ 1 := by rw [← hg]; split <;> omega
     unfold wide_Of.f wide_Add.f
     rw [if_pos (by unfold inI; omega)]
     simp only [Option.bind_some]
     have hwt : wv (t / 18446744073709551616) (t % 18446744073709551616) = t := by unfold wv; omega
     rw [if_pos ⟨⟨by unfold inI; omega, by unfold inU; omega⟩, by unfold inI; omega, by unfold inU; omega⟩, hwq, hwt, if_pos (by unfold in128; omega)]
     simp only [Option.bind_some, rounding_DivideP.j1]
     have hws : wv ((v / n + t) / 18446744073709551616) ((v / n + t) % 18446744073709551616) = v / n + t := by unfold wv; omega
     unfold wide_Int.f
     rw [if_pos ⟨by unfold inI; omega, by unfold inU; omega⟩, hws]
     split <;> rfl
    ·have hz : (if 0 < v % n ∧ upB (decide (v / n < 0)) (decide (v / n % 2 = 1)) (v % n) n m = true then (1 : Int) else 0) = 0 := if_neg (fun hc => hr hc.1)
     rw [if_neg hr, hz, Int.add_zero]
     simp only [rounding_DivideP.j1]
     unfold wide_Int.f
     rw [if_pos ⟨by unfold inI; omega, by unfold inU; omega⟩, hwq]
     split <;> rfl
 ·cases h
theorem rounding_Divide.calls (a0_0 a0_1 a1 a2 r1 r2 : Int) (w : World) (hG : GW w) (h : rounding_Divide.f a0_0 a0_1 a1 a2 = some (r1, r2)) :
  Calls Tryd.prog 43 #[.agg #[.int .i64 a0_0, .int .u64 a0_1], .int .i64 a1, .int .i64 a2] w fun e w' => e = .returned (.tuple #[.int .i64 r1, .int .i64 r2]) ∧ Below w.heap.size w w' := by
 obtain ⟨k, h⟩ := rounding_Divide.eq h
 exact rounding_DivideP.calls k a0_0 a0_1 a1 a2 r1 r2 w hG h
def wide_absP.f (a0 : Int) : Option (Int) := if a0 < 0 then (some (IntKind.u64.wrap (-(IntKind.u64.wrap (a0))))) else (some (IntKind.u64.wrap (a0)))
set_option maxHeartbeats 8000000 in
set_option maxRecDepth 100000 in
theorem wide_absP.calls (a0 r : Int) (w : World) (h : wide_absP.f a0 = some r) :
  Calls Tryd.prog 56 #[.int .i64 a0] w fun e w' => e = .returned (.int .u64 r) ∧ Drawn0 w w' := by
 have H : (if a0 < 0 then (some (IntKind.u64.wrap (-(IntKind.u64.wrap (a0))))) else (some (IntKind.u64.wrap (a0)))) = some r := h
 clear h
 by_cases c2 : a0 < 0
 ·rw [if_pos c2] at H
  have c2b0 : decide (a0 < 0) = true := decide_eq_true c2
  clear c2
  obtain rfl := Option.some.inj H
  go_enter Tryd.func56, Tryd.ntmps56
  go_wp2
  go_ret
  exact ⟨by first | rfl | (simp; done) | (simp [*]; done), by repeat (first | exact Drawn0.refl _ | apply Drawn0.step)⟩
 ·rw [if_neg c2] at H
  have c2b0 : decide (a0 < 0) = false := decide_eq_false c2
  clear c2
  obtain rfl := Option.some.inj H
  go_enter Tryd.func56, Tryd.ntmps56
  go_wp2
  go_ret
  exact ⟨by first | rfl | (simp; done) | (simp [*]; done), by repeat (first | exact Drawn0.refl _ | apply Drawn0.step)⟩
def wide_abs.f (a0 : Int) : Option Int := if inI a0 then some (if a0 < 0 then -a0 else a0) else none
theorem wide_abs.eq {a : Int} {r : Int} (h : wide_abs.f a = some r) : wide_absP.f a = some r := by
 unfold wide_abs.f at h
 split at h
 ·rename_i c
  obtain ⟨c0, c1⟩ := c
  injection h with h
  subst h
  unfold wide_absP.f
  simp only [IntKind.wrap_u64]
  split <;> (congr 1; omega)
 ·cases h
theorem wide_abs.calls (a0 r : Int) (w : World) (h : wide_abs.f a0 = some r) :
  Calls Tryd.prog 56 #[.int .i64 a0] w fun e w' => e = .returned (.int .u64 r) ∧ Drawn0 w w' := by
 have h := wide_abs.eq h
 exact wide_absP.calls a0 r w h
def wide_MulP.f (a0 a1 : Int) : Option (Int × Int) := (wide_abs.f a0).bind fun t182 => ((wide_abs.f a1).bind fun t183 => ((bits_Mul64.f t182 t183).bind fun bt184 => (if ((decide (a0 < 0)) != (decide (a1 < 0))) = true then ((wide_negate.f (wrap64 (bt184.1)) bt184.2).bind fun bt187 => (some (bt187.1, bt187.2))) else (some (wrap64 (bt184.1), bt184.2)))))
set_option maxHeartbeats 8000000 in
set_option maxRecDepth 100000 in
theorem wide_MulP.calls (a0 a1 r1 r2 : Int) (w : World) (h : wide_MulP.f a0 a1 = some (r1, r2)) :
  Calls Tryd.prog 44 #[.int .i64 a0, .int .i64 a1] w fun e w' => e = .returned (.agg #[.int .i64 r1, .int .u64 r2]) ∧ Below w.heap.size w w' := by
 have hu63 := Tryd.underlying63
 have HB := Aside0.mk (Below.refl w.heap.size w)
 have H : ((wide_abs.f a0).bind fun t182 => ((wide_abs.f a1).bind fun t183 => ((bits_Mul64.f t182 t183).bind fun bt184 => (if ((decide (a0 < 0)) != (decide (a1 < 0))) = true then ((wide_negate.f (wrap64 (bt184.1)) bt184.2).bind fun bt187 => (some (bt187.1, bt187.2))) else (some (wrap64 (bt184.1), bt184.2)))))) = some (r1, r2) := h
 clear h
 replace H := Option.bind_eq_some_iff.mp H
 obtain ⟨t182, A30, H⟩ := H
 replace H : ((wide_abs.f a1).bind fun t183 => ((bits_Mul64.f t182 t183).bind fun bt184 => (if ((decide (a0 < 0)) != (decide (a1 < 0))) = true then ((wide_negate.f (wrap64 (bt184.1)) bt184.2).bind fun bt187 => (some (bt187.1, bt187.2))) else (some (wrap64 (bt184.1), bt184.2))))) = some (r1, r2) := H
 have A3 := Aside0.mk A30
 clear A30
 replace H := Option.bind_eq_some_iff.mp H
 obtain ⟨t183, A40, H⟩ := H
 replace H : ((bits_Mul64.f t182 t183).bind fun bt184 => (if ((decide (a0 < 0)) != (decide (a1 < 0))) = true then ((wide_negate.f (wrap64 (bt184.1)) bt184.2).bind fun bt187 => (some (bt187.1, bt187.2))) else (some (wrap64 (bt184.1), bt184.2)))) = some (r1, r2) := H
 have A4 := Aside0.mk A40
 clear A40
 replace H := Option.bind_eq_some_iff.mp H
 obtain ⟨⟨t184, t185⟩, A50, H⟩ := H
 replace H : (if ((decide (a0 < 0)) != (decide (a1 < 0))) = true then ((wide_negate.f (wrap64 (t184)) t185).bind fun bt187 => (some (bt187.1, bt187.2))) else (some (wrap64 (t184), t185))) = some (r1, r2) := H
 have A5 := Aside0.mk A50
 clear A50
 by_cases c6 : ((decide (a0 < 0)) != (decide (a1 < 0))) = true
 ·rw [if_pos c6] at H
  have c6b0 : ((decide (a0 < 0)) != (decide (a1 < 0))) = true := c6
  (try (have c6b1 : decide ((decide (a0 < 0)) = (decide (a1 < 0))) = false := by simpa using c6))
  (try (have c6b2 : ((decide (a0 < 0)) == (decide (a1 < 0))) = false := by simpa using c6))
  (try (have c6b3 : ¬ ((decide (a0 < 0)) = (decide (a1 < 0))) := by simpa using c6))
  clear c6
  replace H := Option.bind_eq_some_iff.mp H
  obtain ⟨⟨t187, t188⟩, A70, H⟩ := H
  replace H : (some (t187, t188)) = some (r1, r2) := H
  have A7 := Aside0.mk A70
  clear A70
  simp only [Option.some.injEq, Prod.mk.injEq] at H
  obtain ⟨rfl, rfl⟩ := H
  go_enter Tryd.func44, Tryd.ntmps44
  go_wp2_with (first | ((with_reducible refine gate_dst (N := 4) rfl ?_); refine be_ (N := 4) (cs := #[.int .i64 0, .int .u64 0]) (t := 63) ?_; intro gb181 hg w8 hbox hb; have n0_ := Aside0.mk (below_step (qb_ HB.out) hb); have n1_ := Aside0.mk (hbox); have n2_ := Aside0.mk (bz_ hg (qb_ HB.out) : w.heap.size ≤ gb181); have n3_ := n2_; clear HB; have HB := n0_; have BK181 := n1_; have GW181 := n2_; have GE181 := n3_; clear n0_ n1_ n2_ n3_; clear hb hbox hg) | ((with_reducible refine gate_callee (f := 56) rfl ?_); refine goesL_ (some 10) rfl rfl Tryd.func56 (by kernel_rfl) rfl #[.int .i64 a0] rfl ql_ ?_; (with_reducible refine (wide_abs.calls a0 t182 _ A3.out).mono ?_); rintro e w' ⟨rfl, ⟨nd, rfl⟩⟩; refine ⟨_, rfl, ?_⟩; (try (rw [drewN_self w8]; generalize hq_ : World.drewN w8 _ = w8; have n0_ : Aside0 (w8.heap[gb181]? = some (.cells #[.int .i64 0, .int .u64 0] 63 (0, 0))) := ⟨by rw [← hq_]; exact (qk_ BK181.out)⟩; have n1_ : Aside0 (Below w.heap.size w w8) := ⟨by rw [← hq_]; exact (qb1_ GE181.out HB.out)⟩; clear BK181 HB hq_; have BK181 := n0_; have HB := n1_; clear n0_ n1_))) | ((with_reducible refine gate_callee (f := 56) rfl ?_); refine goesL_ (some 12) rfl rfl Tryd.func56 (by kernel_rfl) rfl #[.int .i64 a1] rfl ql_ ?_; (with_reducible refine (wide_abs.calls a1 t183 _ A4.out).mono ?_); rintro e w' ⟨rfl, ⟨nd, rfl⟩⟩; refine ⟨_, rfl, ?_⟩; (try (rw [drewN_self w8]; generalize hq_ : World.drewN w8 _ = w8; have n0_ : Aside0 (w8.heap[gb181]? = some (.cells #[.int .i64 0, .int .u64 0] 63 (0, 0))) := ⟨by rw [← hq_]; exact (qk_ BK181.out)⟩; have n1_ : Aside0 (Below w.heap.size w w8) := ⟨by rw [← hq_]; exact (qb1_ GE181.out HB.out)⟩; clear BK181 HB hq_; have BK181 := n0_; have HB := n1_; clear n0_ n1_))) | ((with_reducible refine gate_callee (f := 55) rfl ?_); refine goesL_ (some 13) rfl rfl Tryd.func55 (by kernel_rfl) rfl #[.int .u64 t182, .int .u64 t183] rfl ql_ ?_; (with_reducible refine (bits_Mul64.calls t182 t183 t184 t185 _ A5.out).mono ?_); rintro e w9 ⟨rfl, hb⟩; refine ⟨_, rfl, ?_⟩; have n0_ := Aside0.mk (blk_below (qk_ BK181.out) hb); have n1_ := Aside0.mk (below_step (qb1_ GE181.out HB.out) hb); clear BK181; clear HB; have BK181 := n0_; have HB := n1_; clear n0_ n1_; (try clear hb); (try clear hb2); (try clear hk); (try clear hi)) | ((with_reducible refine gate_dst (N := 7) rfl ?_); refine be_ (N := 7) (cs := #[.int .i64 0, .int .u64 0]) (t := 63) ?_; intro gb186 hg w10 hbox hb; have n0_ := Aside0.mk (blk_below (qk_ BK181.out) hb); have n1_ := Aside0.mk (below_step (qb1_ GE181.out HB.out) hb); have n2_ := Aside0.mk (hbox); have n3_ := Aside0.mk (bz_ hg (qb1_ GE181.out HB.out) : w.heap.size ≤ gb186); have n4_ := n3_; have n5_ := Aside0.mk (nl_ hg (qk_ BK181.out) : gb181 ≠ gb186); have n6_ := Aside0.mk (ng_ hg (qk_ BK181.out) : gb186 ≠ gb181); clear BK181; clear HB; have BK181 := n0_; have HB := n1_; have BK186 := n2_; have GW186 := n3_; have GE186 := n4_; have NB181_186 := n5_; have NB186_181 := n6_; clear n0_ n1_ n2_ n3_ n4_ n5_ n6_; clear hb hbox hg; have hnb11 := NB186_181.out; have hnc11 := NB181_186.out; obtain ⟨Z12_0, Z12_1, Y12_0, Y12_1⟩ := cz2_ BK186.out) | ((with_reducible refine gate_callee (f := 57) rfl ?_); refine goesL_ (some 26) rfl rfl Tryd.func57 (by kernel_rfl) rfl #[.agg #[.int .i64 (wrap64 (t184)), .int .u64 t185]] rfl ql_ ?_; (with_reducible refine (wide_negate.calls (wrap64 (t184)) t185 t187 t188 _ A7.out).mono ?_); rintro e w13 ⟨rfl, hb⟩; refine ⟨_, rfl, ?_⟩; have n0_ := Aside0.mk (blk_below (g := gb181) (o := .cells #[.int .i64 0, .int .u64 0] 63 (0, 0)) (qff_ NB181_186.out NB181_186.out BK181.out) hb); have n1_ := Aside0.mk (blk_below (g := gb186) (o := .cells #[.int .i64 (wrap64 (t184)), .int .u64 t185] 63 (0, 0)) (qpp_ #[.int .i64 (wrap64 (t184)), .int .u64 0] 1 #[.int .i64 0, .int .u64 0] 0 BK186.out) hb); have n2_ := Aside0.mk (below_step (qb2_ GE181.out GE186.out HB.out) hb); clear BK181; clear BK186; clear HB; have BK181 := n0_; have BK186 := n1_; have HB := n2_; clear n0_ n1_ n2_; (try clear hb); (try clear hb2); (try clear hk); (try clear hi); obtain ⟨Z14_0, Z14_1, Y14_0, Y14_1⟩ := cz2_ BK186.out; obtain ⟨Z15_0, Z15_1, Y15_0, Y15_1⟩ := cz2_ BK181.out))
  refine bodyPost_ret (results_cell_row rfl _ _ gb181 63 #[.int .i64 t187, .int .u64 t188] (0, 0) _ rfl (qppff_ #[.int .i64 t187, .int .u64 0] 1 #[.int .i64 0, .int .u64 0] 0 NB181_186.out NB181_186.out BK181.out) Tryd.underlying63 rfl (by kernel_rfl)) rfl ?_
  exact ⟨qe_, qb2_ GE181.out GE186.out HB.out⟩
 ·rw [if_neg c6] at H
  have c6b0 : ((decide (a0 < 0)) != (decide (a1 < 0))) = false := by simpa using c6
  (try (have c6b1 : decide ((decide (a0 < 0)) = (decide (a1 < 0))) = true := by simpa using c6))
  (try (have c6b2 : ((decide (a0 < 0)) == (decide (a1 < 0))) = true := by simpa using c6))
  clear c6
  simp only [Option.some.injEq, Prod.mk.injEq] at H
  obtain ⟨rfl, rfl⟩ := H
  go_enter Tryd.func44, Tryd.ntmps44
  go_wp2_with (first | ((with_reducible refine gate_dst (N := 4) rfl ?_); refine be_ (N := 4) (cs := #[.int .i64 0, .int .u64 0]) (t := 63) ?_; intro gb181 hg w16 hbox hb; have n0_ := Aside0.mk (below_step (qb_ HB.out) hb); have n1_ := Aside0.mk (hbox); have n2_ := Aside0.mk (bz_ hg (qb_ HB.out) : w.heap.size ≤ gb181); have n3_ := n2_; clear HB; have HB := n0_; have BK181 := n1_; have GW181 := n2_; have GE181 := n3_; clear n0_ n1_ n2_ n3_; clear hb hbox hg) | ((with_reducible refine gate_callee (f := 56) rfl ?_); refine goesL_ (some 10) rfl rfl Tryd.func56 (by kernel_rfl) rfl #[.int .i64 a0] rfl ql_ ?_; (with_reducible refine (wide_abs.calls a0 t182 _ A3.out).mono ?_); rintro e w' ⟨rfl, ⟨nd, rfl⟩⟩; refine ⟨_, rfl, ?_⟩; (try (rw [drewN_self w16]; generalize hq_ : World.drewN w16 _ = w16; have n0_ : Aside0 (w16.heap[gb181]? = some (.cells #[.int .i64 0, .int .u64 0] 63 (0, 0))) := ⟨by rw [← hq_]; exact (qk_ BK181.out)⟩; have n1_ : Aside0 (Below w.heap.size w w16) := ⟨by rw [← hq_]; exact (qb1_ GE181.out HB.out)⟩; clear BK181 HB hq_; have BK181 := n0_; have HB := n1_; clear n0_ n1_))) | ((with_reducible refine gate_callee (f := 56) rfl ?_); refine goesL_ (some 12) rfl rfl Tryd.func56 (by kernel_rfl) rfl #[.int .i64 a1] rfl ql_ ?_; (with_reducible refine (wide_abs.calls a1 t183 _ A4.out).mono ?_); rintro e w' ⟨rfl, ⟨nd, rfl⟩⟩; refine ⟨_, rfl, ?_⟩; (try (rw [drewN_self w16]; generalize hq_ : World.drewN w16 _ = w16; have n0_ : Aside0 (w16.heap[gb181]? = some (.cells #[.int .i64 0, .int .u64 0] 63 (0, 0))) := ⟨by rw [← hq_]; exact (qk_ BK181.out)⟩; have n1_ : Aside0 (Below w.heap.size w w16) := ⟨by rw [← hq_]; exact (qb1_ GE181.out HB.out)⟩; clear BK181 HB hq_; have BK181 := n0_; have HB := n1_; clear n0_ n1_))) | ((with_reducible refine gate_callee (f := 55) rfl ?_); refine goesL_ (some 13) rfl rfl Tryd.func55 (by kernel_rfl) rfl #[.int .u64 t182, .int .u64 t183] rfl ql_ ?_; (with_reducible refine (bits_Mul64.calls t182 t183 t184 t185 _ A5.out).mono ?_); rintro e w17 ⟨rfl, hb⟩; refine ⟨_, rfl, ?_⟩; have n0_ := Aside0.mk (blk_below (qk_ BK181.out) hb); have n1_ := Aside0.mk (below_step (qb1_ GE181.out HB.out) hb); clear BK181; clear HB; have BK181 := n0_; have HB := n1_; clear n0_ n1_; (try clear hb); (try clear hb2); (try clear hk); (try clear hi)) | ((with_reducible refine gate_dst (N := 7) rfl ?_); refine be_ (N := 7) (cs := #[.int .i64 0, .int .u64 0]) (t := 63) ?_; intro gb186 hg w18 hbox hb; have n0_ := Aside0.mk (blk_below (qk_ BK181.out) hb); have n1_ := Aside0.mk (below_step (qb1_ GE181.out HB.out) hb); have n2_ := Aside0.mk (hbox); have n3_ := Aside0.mk (bz_ hg (qb1_ GE181.out HB.out) : w.heap.size ≤ gb186); have n4_ := n3_; have n5_ := Aside0.mk (nl_ hg (qk_ BK181.out) : gb181 ≠ gb186); have n6_ := Aside0.mk (ng_ hg (qk_ BK181.out) : gb186 ≠ gb181); clear BK181; clear HB; have BK181 := n0_; have HB := n1_; have BK186 := n2_; have GW186 := n3_; have GE186 := n4_; have NB181_186 := n5_; have NB186_181 := n6_; clear n0_ n1_ n2_ n3_ n4_ n5_ n6_; clear hb hbox hg; have hnb19 := NB186_181.out; have hnc19 := NB181_186.out; obtain ⟨Z20_0, Z20_1, Y20_0, Y20_1⟩ := cz2_ BK186.out; obtain ⟨Z21_0, Z21_1, Y21_0, Y21_1⟩ := cz2_ BK181.out))
  refine bodyPost_ret (results_cell_row rfl _ _ gb181 63 #[.int .i64 (wrap64 (t184)), .int .u64 t185] (0, 0) _ rfl (qppff_ #[.int .i64 (wrap64 (t184)), .int .u64 0] 1 #[.int .i64 0, .int .u64 0] 0 NB181_186.out NB181_186.out BK181.out) Tryd.underlying63 rfl (by kernel_rfl)) rfl ?_
  exact ⟨qe_, qb2_ GE181.out GE186.out HB.out⟩
def wide_Mul.f (a0 a1 : Int) : Option (Int × Int) := if inI a0 ∧ inI a1 then some (a0 * a1 / 18446744073709551616, a0 * a1 % 18446744073709551616) else none
theorem wide_Mul.eq {a b : Int} {r : Int × Int} (h : wide_Mul.f a b = some r) : wide_MulP.f a b = some r := by
 unfold wide_Mul.f at h
 split at h
 ·rename_i q
  obtain ⟨⟨a0, a1⟩, b0, b1⟩ := q
  injection h with h
  subst h
  unfold wide_MulP.f wide_abs.f bits_Mul64.f wide_negate.f
  obtain ⟨m1, m2, m3⟩ := mul_abs a b a0 a1 b0 b1
  have hA : inI a := ⟨a0, a1⟩
  have hB : inI b := ⟨b0, b1⟩
  have hU : inU (if a < 0 then -a else a) ∧ inU (if b < 0 then -b else b) := ⟨by unfold inU; split <;> omega, by unfold inU; split <;> omega⟩
  rw [if_pos hA, if_pos hB]
  simp only [Option.bind_some]
  rw [if_pos hU]
  simp only [Option.bind_some]
  generalize (if a < 0 then -a else a) * (if b < 0 then -b else b) = m at *
  have hw : wrap64 (m / 18446744073709551616) = m / 18446744073709551616 := by unfold wrap64; omega
  have hwv : wv (m / 18446744073709551616) (m % 18446744073709551616) = m := by unfold wv; omega
  have hN : isW (m / 18446744073709551616) (m % 18446744073709551616) := ⟨by unfold inI; omega, by unfold inU; omega⟩
  rw [hw, if_pos hN, hwv, if_neg (show ¬ m = -170141183460469231731687303715884105728 by omega)]
  simp only [Option.bind_some]
  split
  ·rename_i hc
   rw [if_pos (by simpa using hc)] at m1
   rw [m1, Int.neg_neg]
  ·rename_i hc
   rw [if_neg (by simpa using hc)] at m1
   rw [m1]
 ·cases h
theorem wide_Mul.calls (a0 a1 r1 r2 : Int) (w : World) (h : wide_Mul.f a0 a1 = some (r1, r2)) :
  Calls Tryd.prog 44 #[.int .i64 a0, .int .i64 a1] w fun e w' => e = .returned (.agg #[.int .i64 r1, .int .u64 r2]) ∧ Below w.heap.size w w' := by
 have h := wide_Mul.eq h
 exact wide_MulP.calls a0 a1 r1 r2 w h
def rounding_PercentP.j0 : Nat → Int → Int → Int → Bool → Option (Int × Int)
 | 0, _, _, _, _ => none
 | k + 1, x0, x1, x2, x23 => if x23 = true then (some (0, 1)) else ((wide_Mul.f x0 x1).bind fun bt191 => ((rounding_Divide.f bt191.1 bt191.2 1000000 x2).bind fun bt193 => (some (bt193.1, bt193.2))))
def rounding_PercentP.f (k : Nat) (a0 a1 a2 : Int) : Option (Int × Int) := (rounding_valid.f a0).bind fun t189 => (if t189 = true then (if a1 < 0 then (rounding_PercentP.j0 k a0 a1 a2 true) else (if a1 > 1000000 then (rounding_PercentP.j0 k a0 a1 a2 true) else ((rounding_Valid.f a2).bind fun t190 => (rounding_PercentP.j0 k a0 a1 a2 (!t190))))) else (rounding_PercentP.j0 k a0 a1 a2 true))
set_option maxHeartbeats 8000000 in
set_option maxRecDepth 100000 in
theorem rounding_PercentP.calls (k : Nat) (a0 a1 a2 r1 r2 : Int) (w : World) (hG : GW w) (h : rounding_PercentP.f k a0 a1 a2 = some (r1, r2)) :
  Calls Tryd.prog 29 #[.int .i64 a0, .int .i64 a1, .int .i64 a2] w fun e w' => e = .returned (.tuple #[.int .i64 r1, .int .i64 r2]) ∧ Below w.heap.size w w' := by
 have HB := Aside0.mk (Below.refl w.heap.size w)
 have H : ((rounding_valid.f a0).bind fun t189 => (if t189 = true then (if a1 < 0 then (rounding_PercentP.j0 k a0 a1 a2 true) else (if a1 > 1000000 then (rounding_PercentP.j0 k a0 a1 a2 true) else ((rounding_Valid.f a2).bind fun t190 => (rounding_PercentP.j0 k a0 a1 a2 (!t190))))) else (rounding_PercentP.j0 k a0 a1 a2 true))) = some (r1, r2) := h
 clear h
 have HC4 := Aside0.mk H
 clear H
 go_enter Tryd.func29, Tryd.ntmps29
 go_upto_region 1 with (fail)
 go_cut [23] (fun v23 wc => ∃ (kq : Nat) (x23_3 : Bool), v23 = .bool x23_3 ∧ Aside0 (rounding_PercentP.j0 kq a0 a1 a2 x23_3 = some (r1, r2)) ∧ Aside0 (kq ≤ k) ∧ Aside0 (Below w.heap.size w wc))
 case first =>
  have H := HC4.out
  clear HC4
  replace H := Option.bind_eq_some_iff.mp H
  obtain ⟨t189, A50, H⟩ := H
  replace H : (if t189 = true then (if a1 < 0 then (rounding_PercentP.j0 k a0 a1 a2 true) else (if a1 > 1000000 then (rounding_PercentP.j0 k a0 a1 a2 true) else ((rounding_Valid.f a2).bind fun t190 => (rounding_PercentP.j0 k a0 a1 a2 (!t190))))) else (rounding_PercentP.j0 k a0 a1 a2 true)) = some (r1, r2) := H
  have A5 := Aside0.mk A50
  clear A50
  by_cases c6 : t189 = true
  ·subst c6
   have H1 : (if a1 < 0 then (rounding_PercentP.j0 k a0 a1 a2 true) else (if a1 > 1000000 then (rounding_PercentP.j0 k a0 a1 a2 true) else ((rounding_Valid.f a2).bind fun t190 => (rounding_PercentP.j0 k a0 a1 a2 (!t190))))) = some (r1, r2) := by rw [if_pos rfl] at H; exact H
   clear H
   have H := H1
   clear H1
   by_cases c7 : a1 < 0
   ·rw [if_pos c7] at H
    have c7b0 : decide (a1 < 0) = true := decide_eq_true c7
    clear c7
    (first | rw [c7b0] | (simp only [i64_w, i32_w]; rw [c7b0]) | skip)
    have H' := Aside0.mk H
    clear H
    go_wp2_with (first | ((with_reducible refine gate_callee (f := 41) rfl ?_); refine goesL_ (some 9) rfl rfl Tryd.func41 (by kernel_rfl) rfl #[.int .i64 a0] rfl ql_ ?_; (with_reducible refine (rounding_valid.calls a0 true _ A5.out).mono ?_); rintro e w' ⟨rfl, ⟨nd, rfl⟩⟩; refine ⟨_, rfl, ?_⟩))
    go_meet
    case rel => exact ⟨_, (true), qs_, H', ⟨qo_⟩, ⟨qb_ HB.out⟩⟩
   ·rw [if_neg c7] at H
    have c7b0 : decide (a1 < 0) = false := decide_eq_false c7
    clear c7
    (first | rw [c7b0] | (simp only [i64_w, i32_w]; rw [c7b0]) | skip)
    by_cases c8 : a1 > 1000000
    ·rw [if_pos c8] at H
     have c8b0 : decide (1000000 < a1) = true := decide_eq_true c8
     clear c8
     have H' := Aside0.mk H
     clear H
     go_wp2_with (first | ((with_reducible refine gate_callee (f := 41) rfl ?_); refine goesL_ (some 9) rfl rfl Tryd.func41 (by kernel_rfl) rfl #[.int .i64 a0] rfl ql_ ?_; (with_reducible refine (rounding_valid.calls a0 true _ A5.out).mono ?_); rintro e w' ⟨rfl, ⟨nd, rfl⟩⟩; refine ⟨_, rfl, ?_⟩))
     go_meet
     case rel => exact ⟨_, (true), qs_, H', ⟨qo_⟩, ⟨qb_ HB.out⟩⟩
    ·rw [if_neg c8] at H
     have c8b0 : decide (1000000 < a1) = false := decide_eq_false c8
     clear c8
     replace H := Option.bind_eq_some_iff.mp H
     obtain ⟨t190, A90, H⟩ := H
     replace H : (rounding_PercentP.j0 k a0 a1 a2 (!t190)) = some (r1, r2) := H
     have A9 := Aside0.mk A90
     clear A90
     have H' := Aside0.mk H
     clear H
     go_wp2_with (first | ((with_reducible refine gate_callee (f := 41) rfl ?_); refine goesL_ (some 9) rfl rfl Tryd.func41 (by kernel_rfl) rfl #[.int .i64 a0] rfl ql_ ?_; (with_reducible refine (rounding_valid.calls a0 true _ A5.out).mono ?_); rintro e w' ⟨rfl, ⟨nd, rfl⟩⟩; refine ⟨_, rfl, ?_⟩) | (go_at_call 42; (with_reducible refine (rounding_Valid.calls a2 t190 _ A9.out).mono ?_); rintro e w' ⟨rfl, ⟨nd, rfl⟩⟩))
     go_meet
     case rel => exact ⟨_, (!t190), qs_, H', ⟨qo_⟩, ⟨qb_ HB.out⟩⟩
  ·replace c6 := Bool.eq_false_iff.mpr c6
   subst c6
   have H1 : (rounding_PercentP.j0 k a0 a1 a2 true) = some (r1, r2) := by rw [if_neg (show ¬ (false = true) by decide)] at H; exact H
   clear H
   have H := H1
   clear H1
   have H' := Aside0.mk H
   clear H
   go_wp2_with (first | ((with_reducible refine gate_callee (f := 41) rfl ?_); refine goesL_ (some 9) rfl rfl Tryd.func41 (by kernel_rfl) rfl #[.int .i64 a0] rfl ql_ ?_; (with_reducible refine (rounding_valid.calls a0 false _ A5.out).mono ?_); rintro e w' ⟨rfl, ⟨nd, rfl⟩⟩; refine ⟨_, rfl, ?_⟩))
   go_meet
   case rel => exact ⟨_, (true), qs_, H', ⟨qo_⟩, ⟨qb_ HB.out⟩⟩
 case rest =>
  clear HC4
  try clear c2
  try clear p2
  try clear c4
  try clear c6
  try clear c7
  try clear c7b0
  try clear c8
  try clear c8b0
  obtain ⟨kq, x23_3, rfl, HA, HJ3, HB⟩ := hcut
  cases kq with
  | zero => exact absurd HA.out (by simp [rounding_PercentP.j0])
  | succ kj3 =>
   have H := HA.out
   clear HA
   simp only [rounding_PercentP.j0] at H
   by_cases c10 : x23_3 = true
   ·subst c10
    have H1 : (some (0, 1)) = some (r1, r2) := by rw [if_pos rfl] at H; exact H
    clear H
    have H := H1
    clear H1
    simp only [Option.some.injEq, Prod.mk.injEq] at H
    obtain ⟨rfl, rfl⟩ := H
    go_wp2
    go_ret2
    exact ⟨qe_, qb_ HB.out⟩
   ·replace c10 := Bool.eq_false_iff.mpr c10
    subst c10
    have H1 : ((wide_Mul.f a0 a1).bind fun bt191 => ((rounding_Divide.f bt191.1 bt191.2 1000000 a2).bind fun bt193 => (some (bt193.1, bt193.2)))) = some (r1, r2) := by rw [if_neg (show ¬ (false = true) by decide)] at H; exact H
    clear H
    have H := H1
    clear H1
    replace H := Option.bind_eq_some_iff.mp H
    obtain ⟨⟨t191, t192⟩, A110, H⟩ := H
    replace H : ((rounding_Divide.f t191 t192 1000000 a2).bind fun bt193 => (some (bt193.1, bt193.2))) = some (r1, r2) := H
    have A11 := Aside0.mk A110
    clear A110
    replace H := Option.bind_eq_some_iff.mp H
    obtain ⟨⟨t193, t194⟩, A120, H⟩ := H
    replace H : (some (t193, t194)) = some (r1, r2) := H
    have A12 := Aside0.mk A120
    clear A120
    simp only [Option.some.injEq, Prod.mk.injEq] at H
    obtain ⟨rfl, rfl⟩ := H
    go_wp2_with (first | ((with_reducible refine gate_callee (f := 44) rfl ?_); refine goesL_ (some 26) rfl rfl Tryd.func44 (by kernel_rfl) rfl #[.int .i64 a0, .int .i64 a1] rfl ql_ ?_; (with_reducible refine (wide_Mul.calls a0 a1 t191 t192 _ A11.out).mono ?_); rintro e w13 ⟨rfl, hb⟩; refine ⟨_, rfl, ?_⟩; have n0_ := Aside0.mk (below_step (qb_ HB.out) hb); clear HB; have HB := n0_; clear n0_; (try clear hb); (try clear hb2); (try clear hk); (try clear hi)) | ((with_reducible refine gate_callee (f := 43) rfl ?_); refine goesL_ (some 28) rfl rfl Tryd.func43 (by kernel_rfl) rfl #[.agg #[.int .i64 t191, .int .u64 t192], .int .i64 1000000, .int .i64 a2] rfl ql_ ?_; (with_reducible refine (rounding_Divide.calls (hG := by first | exact hG | (with_reducible exact GW.below hG (qb_ HB.out)) | (with_reducible repeat (first | exact hG | apply GW.drewN | apply GW.drew))) t191 t192 1000000 a2 t193 t194 _ A12.out).mono ?_); rintro e w14 ⟨rfl, hb⟩; refine ⟨_, rfl, ?_⟩; have n0_ := Aside0.mk (below_step (qb_ HB.out) hb); clear HB; have HB := n0_; clear n0_; (try clear hb); (try clear hb2); (try clear hk); (try clear hi)))
    go_ret2
    exact ⟨qe_, qb_ HB.out⟩
def pctR (a p m : Int) : Int × Int := if -1000000000000 ≤ a ∧ a ≤ 1000000000000 ∧ 0 ≤ p ∧ p ≤ 1000000 then divR (a * p) 1000000 m else (0, 1)
theorem pct_range {a p : Int} (h : -1000000000000 ≤ a ∧ a ≤ 1000000000000 ∧ 0 ≤ p ∧ p ≤ 1000000) : -1000000000000000000 ≤ a * p ∧ a * p ≤ 1000000000000000000 := by
 obtain ⟨h0, h1, h2, h3⟩ := h
 have a1 := Int.mul_le_mul_of_nonneg_right h1 h2
 have a2 := Int.mul_le_mul_of_nonneg_right h0 h2
 omega
def rounding_Percent.f (a0 a1 a2 : Int) : Option (Int × Int) := some (pctR a0 a1 a2)
theorem rounding_Percent.eq {a p m : Int} {r : Int × Int} (h : rounding_Percent.f a p m = some r) : ∃ k, rounding_PercentP.f k a p m = some r := by
 unfold rounding_Percent.f at h
 rw [← h]
 refine ⟨1, ?_⟩
 unfold rounding_PercentP.f rounding_valid.f pctR
 simp only [rounding_PercentP.j0]
 by_cases h0 : a ≥ -1000000000000 <;> by_cases h1 : a ≤ 1000000000000
 ·rw [if_pos h0, decide_eq_true h1]
  simp only [Option.bind_some, if_true]
  by_cases h2 : p < 0
  ·rw [if_pos h2, if_neg (by omega)]
  ·rw [if_neg h2]
   by_cases h3 : p > 1000000
   ·rw [if_pos h3, if_neg (by omega)]
   ·rw [if_neg h3]
    have hr := pct_range (a := a) (p := p) ⟨h0, h1, by omega, by omega⟩
    rw [if_pos ⟨h0, h1, by omega, by omega⟩]
    have hv : rounding_Valid.f m = some (decide (1 ≤ m ∧ m ≤ 6)) := by
     unfold rounding_Valid.f
     split
     ·congr 1; apply decide_eq_decide.mpr; omega
     ·congr 1; symm; apply decide_eq_false; omega
    rw [hv]
    simp only [Option.bind_some]
    by_cases hm : 1 ≤ m ∧ m ≤ 6
    ·rw [decide_eq_true hm, if_neg (by decide)]
     unfold wide_Mul.f
     rw [if_pos ⟨by unfold inI; omega, by unfold inI; omega⟩]
     simp only [Option.bind_some]
     unfold rounding_Divide.f
     rw [if_pos ⟨⟨by unfold inI; omega, by unfold inU; omega⟩, by decide⟩]
     simp only [Option.bind_some]
     have hw : wv (a * p / 18446744073709551616) (a * p % 18446744073709551616) = a * p := by unfold wv; omega
     rw [hw]
    ·rw [decide_eq_false hm, if_pos (by decide)]
     unfold divR
     rw [if_pos (by omega)]
 ·have hn : ¬ (-1000000000000 ≤ a ∧ a ≤ 1000000000000 ∧ 0 ≤ p ∧ p ≤ 1000000) := by omega
  rw [if_pos h0, decide_eq_false h1, if_neg hn]
  rfl
 ·have hn : ¬ (-1000000000000 ≤ a ∧ a ≤ 1000000000000 ∧ 0 ≤ p ∧ p ≤ 1000000) := by omega
  rw [if_neg h0, if_neg hn]
  rfl
 ·have hn : ¬ (-1000000000000 ≤ a ∧ a ≤ 1000000000000 ∧ 0 ≤ p ∧ p ≤ 1000000) := by omega
  rw [if_neg h0, if_neg hn]
  rfl
theorem rounding_Percent.calls (a0 a1 a2 r1 r2 : Int) (w : World) (hG : GW w) (h : rounding_Percent.f a0 a1 a2 = some (r1, r2)) :
  Calls Tryd.prog 29 #[.int .i64 a0, .int .i64 a1, .int .i64 a2] w fun e w' => e = .returned (.tuple #[.int .i64 r1, .int .i64 r2]) ∧ Below w.heap.size w w' := by
 obtain ⟨k, h⟩ := rounding_Percent.eq h
 exact rounding_PercentP.calls k a0 a1 a2 r1 r2 w hG h
def loan_sums.l0 : Nat → Int → Int → List (S54) → Int → Int → Option (Int × Int)
 | 0, _, _, _, _, _ => none
 | k + 1, x4, x5, x8, x9, x10 => if x10 < x9 then (if 0 ≤ x10 then (if x10 < (x8.length : Int) then (loan_sums.l0 k (wrap64 (x4 + ((rd_T54 x8 x10).f2))) (wrap64 (x5 + ((rd_T54 x8 x10).f3))) x8 x9 (wrap64 (x10 + 1))) else (none)) else (none)) else (some (x4, x5))
def loan_sums.f (k : Nat) (l0 : List (S54)) : Option (Int × Int) := loan_sums.l0 k 0 0 l0 (l0.length : Int) 0
theorem loan_sums.mono_l : ∀ k, (∀ y0 y1 y2 y3 y4, LeO (loan_sums.l0 k y0 y1 y2 y3 y4) (loan_sums.l0 (k + 1) y0 y1 y2 y3 y4))
 | 0 => fun _ _ _ _ _ r h => by simp [loan_sums.l0] at h
 | k + 1 => by
  have ih0 := loan_sums.mono_l k
  ·intro y0 y1 y2 y3 y4
   unfold loan_sums.l0
   repeat' first
   | (with_reducible exact ih0 _ _ _ _ _)
   | (with_reducible exact LeO.refl _)
   | (with_reducible exact LeO.none _)
   | (with_reducible refine LeO.ite ?_ ?_)
   | (with_reducible refine LeO.bind ?_ (fun _ => ?_))
   | exact ih0 _ _ _ _ _
   | exact LeO.none _
   | refine LeO.ite ?_ ?_
   | refine LeO.bind ?_ (fun _ => ?_)
theorem loan_sums.mono : ∀ a0 k, LeO (loan_sums.f k a0) (loan_sums.f (k + 1) a0) := by
 intro a0 k
 have ih0 := loan_sums.mono_l k
 unfold loan_sums.f
 repeat' first
   | (with_reducible exact ih0 _ _ _ _ _)
   | (with_reducible exact LeO.refl _)
   | (with_reducible exact LeO.none _)
   | (with_reducible refine LeO.ite ?_ ?_)
   | (with_reducible refine LeO.bind ?_ (fun _ => ?_))
   | exact ih0 _ _ _ _ _
   | exact LeO.none _
   | refine LeO.ite ?_ ?_
   | refine LeO.bind ?_ (fun _ => ?_)
set_option maxHeartbeats 8000000 in
set_option maxRecDepth 100000 in
theorem loan_sums.calls (k : Nat) (A0 : Option Addr) (c0 : Nat) (l0 : List (S54)) (r1 r2 : Int) (w : World) (hr0 : Kd.C k54 w A0 l0.length l0) (hc0 : l0.length ≤ c0) (h : loan_sums.f k l0 = some (r1, r2)) :
  Calls Tryd.prog 45 #[.slice A0 l0.length c0] w fun e w' => e = .returned (.tuple #[.int .i64 r1, .int .i64 r2]) ∧ Below w.heap.size w w' := by
 have hu54 := Tryd.underlying54
 have HR0 := Aside0.mk hr0
 have HC0 := Aside0.mk hc0
 clear hr0 hc0
 have HB := Aside0.mk (Below.refl w.heap.size w)
 have H : (loan_sums.l0 k 0 0 l0 (l0.length : Int) 0) = some (r1, r2) := h
 clear h
 have H' := Aside0.mk H
 clear H
 go_enter Tryd.func45, Tryd.ntmps45
 go_wp2
 go_loopg [4, 5, 10] k (fun kq v4 v5 v10 w' => ∃ (x4_1 x5_1 x10_1 : Int), v4 = .int .i64 x4_1 ∧ v5 = .int .i64 x5_1 ∧ v10 = .int .i64 x10_1 ∧ Aside0 (loan_sums.l0 kq x4_1 x5_1 l0 (l0.length : Int) x10_1 = some (r1, r2)) ∧ Aside0 (kq ≤ k) ∧ Aside0 (Below w.heap.size w w'))
 case atStart => exact ⟨(0), (0), (0), qs_, qs_, qs_, H', ⟨Nat.le_refl _⟩, ⟨qb_ HB.out⟩⟩
 case round =>
  clear H'
  obtain ⟨x4_1, x5_1, x10_1, rfl, rfl, rfl, HA, HK1, HB⟩ := hrel
  cases gk with
  | zero => exact absurd HA.out (by simp [loan_sums.l0])
  | succ k1 =>
   have H := HA.out
   clear HA
   simp only [loan_sums.l0] at H
   by_cases c2 : x10_1 < (l0.length : Int)
   ·rw [if_pos c2] at H
    have c2b0 : decide (x10_1 < (l0.length : Int)) = true := decide_eq_true c2
    clear c2
    by_cases c3 : 0 ≤ x10_1
    ·rw [if_pos c3] at H
     have c3b0 : decide (0 ≤ x10_1) = true := decide_eq_true c3
     clear c3
     by_cases c4 : x10_1 < (l0.length : Int)
     ·rw [if_pos c4] at H
      have c4b0 : decide (x10_1 < (l0.length : Int)) = true := decide_eq_true c4
      clear c4
      have H' := Aside0.mk H
      clear H
      have p195 : 0 ≤ (x10_1 : Int) := of_decide_eq_true (by first | (with_reducible assumption) | assumption)
      have q195 : x10_1 < (l0.length : Int) := of_decide_eq_true (by first | (with_reducible assumption) | assumption)
      obtain ⟨ad195, e195, hx195_0, hx195_1, hx195_2, hx195_3⟩ := at_T54 HR0.out x10_1 p195 q195
      cases e195
      replace hx195_0 := bx_ HB.out hx195_0
      replace hx195_1 := bx_ HB.out hx195_1
      replace hx195_2 := bx_ HB.out hx195_2
      replace hx195_3 := bx_ HB.out hx195_3
      replace p195 := eq_true p195
      replace q195 := eq_true q195
      go_wp2_with (first | ((with_reducible refine gate_dst (N := 7) rfl ?_); refine be_ (N := 7) (cs := #[.int .i64 0, .int .i64 0, .int .i64 0, .int .i64 0]) (t := 54) ?_; intro gb196 hg w5 hbox hb; have n0_ := Aside0.mk (below_step (qb_ HB.out) hb); have n1_ := Aside0.mk (hbox); have n2_ := Aside0.mk (bz_ hg (qb_ HB.out) : w.heap.size ≤ gb196); have n3_ := n2_; clear HB; have HB := n0_; have BK196 := n1_; have GW196 := n2_; have GE196 := n3_; clear n0_ n1_ n2_ n3_; clear hb hbox hg; obtain ⟨Z6_0, Z6_1, Z6_2, Z6_3, Y6_0, Y6_1, Y6_2, Y6_3⟩ := cz4_ BK196.out))
      go_roundg k1
      case measure => have := HK1.out; omega
      case rel => exact ⟨(wrap64 (x4_1 + ((rd_T54 l0 x10_1).f2))), (wrap64 (x5_1 + ((rd_T54 l0 x10_1).f3))), (wrap64 (x10_1 + 1)), qs_, qs_, qs_, H', ⟨by have := HK1.out; omega⟩, ⟨qb1_ GE196.out HB.out⟩⟩
     ·rw [if_neg c4] at H
      exact absurd H (by simp)
    ·rw [if_neg c3] at H
     exact absurd H (by simp)
   ·rw [if_neg c2] at H
    have c2b0 : decide (x10_1 < (l0.length : Int)) = false := decide_eq_false c2
    clear c2
    simp only [Option.some.injEq, Prod.mk.injEq] at H
    obtain ⟨rfl, rfl⟩ := H
    go_wp2
    go_ret2
    exact ⟨qe_, qb_ HB.out⟩
def loan_Outstanding.f (k : Nat) (a0_0 a0_1 a0_2 a0_3 a0_4 a0_5 a0_6 a0_7 a0_8 a0_9 a0_10 a0_11 a0_12 a0_13 a0_14 a0_15 a0_16 a0_17 a0_18 a0_19 a0_20 : Int) (a0_21 a0_22 : ByteArray) (l0_23 : List (S54)) (l0_24 : List (S50)) : Option (Int) := (loan_sums.f k l0_23).bind fun bt198 => (some (wrap64 (bt198.1 - a0_3)))
theorem loan_Outstanding.mono : ∀ a0 a1 a2 a3 a4 a5 a6 a7 a8 a9 a10 a11 a12 a13 a14 a15 a16 a17 a18 a19 a20 a21 a22 a23 a24 k, LeO (loan_Outstanding.f k a0 a1 a2 a3 a4 a5 a6 a7 a8 a9 a10 a11 a12 a13 a14 a15 a16 a17 a18 a19 a20 a21 a22 a23 a24) (loan_Outstanding.f (k + 1) a0 a1 a2 a3 a4 a5 a6 a7 a8 a9 a10 a11 a12 a13 a14 a15 a16 a17 a18 a19 a20 a21 a22 a23 a24) := by
 intro a0 a1 a2 a3 a4 a5 a6 a7 a8 a9 a10 a11 a12 a13 a14 a15 a16 a17 a18 a19 a20 a21 a22 a23 a24 k
 unfold loan_Outstanding.f
 repeat' first
   | (with_reducible exact loan_sums.mono _ _)
   | (with_reducible exact LeO.refl _)
   | (with_reducible exact LeO.none _)
   | (with_reducible refine LeO.ite ?_ ?_)
   | (with_reducible refine LeO.bind ?_ (fun _ => ?_))
   | exact loan_sums.mono _ _
   | exact LeO.none _
   | refine LeO.ite ?_ ?_
   | refine LeO.bind ?_ (fun _ => ?_)
set_option maxHeartbeats 8000000 in
set_option maxRecDepth 100000 in
theorem loan_Outstanding.calls (k : Nat) (a0_0 a0_1 a0_2 a0_3 a0_4 a0_5 a0_6 a0_7 a0_8 a0_9 a0_10 a0_11 a0_12 a0_13 a0_14 a0_15 a0_16 a0_17 a0_18 a0_19 a0_20 : Int) (a0_21 a0_22 : ByteArray) (A0_23 : Option Addr) (c0_23 : Nat) (l0_23 : List (S54)) (A0_24 : Option Addr) (c0_24 : Nat) (l0_24 : List (S50)) (r : Int) (w : World) (hr0_23 : Kd.C k54 w A0_23 l0_23.length l0_23) (hc0_23 : l0_23.length ≤ c0_23) (hr0_24 : Kd.C k50 w A0_24 l0_24.length l0_24) (hc0_24 : l0_24.length ≤ c0_24) (h : loan_Outstanding.f k a0_0 a0_1 a0_2 a0_3 a0_4 a0_5 a0_6 a0_7 a0_8 a0_9 a0_10 a0_11 a0_12 a0_13 a0_14 a0_15 a0_16 a0_17 a0_18 a0_19 a0_20 a0_21 a0_22 l0_23 l0_24 = some r) :
  Calls Tryd.prog 30 #[.agg #[.int .i64 a0_0, .int .i64 a0_1, .int .i64 a0_2, .int .i64 a0_3, .int .i64 a0_4, .int .i64 a0_5, .int .i64 a0_6, .int .i64 a0_7, .int .i64 a0_8, .int .i64 a0_9, .int .i64 a0_10, .int .i64 a0_11, .int .i64 a0_12, .int .i64 a0_13, .int .i64 a0_14, .int .i64 a0_15, .int .i64 a0_16, .int .i64 a0_17, .int .i64 a0_18, .int .i64 a0_19, .int .i64 a0_20, .string a0_21, .string a0_22, .slice A0_23 l0_23.length c0_23, .slice A0_24 l0_24.length c0_24]] w fun e w' => e = .returned (.int .i64 r) ∧ Below w.heap.size w w' := by
 have hu27 := Tryd.underlying27
 have HR0_23 := Aside0.mk hr0_23
 have HC0_23 := Aside0.mk hc0_23
 clear hr0_23 hc0_23
 have HR0_24 := Aside0.mk hr0_24
 have HC0_24 := Aside0.mk hc0_24
 clear hr0_24 hc0_24
 have HB := Aside0.mk (Below.refl w.heap.size w)
 have H : ((loan_sums.f k l0_23).bind fun bt198 => (some (wrap64 (bt198.1 - a0_3)))) = some r := h
 clear h
 replace H := Option.bind_eq_some_iff.mp H
 obtain ⟨⟨t198, t199⟩, A20, H⟩ := H
 replace H : (some (wrap64 (t198 - a0_3))) = some r := H
 have A2 := Aside0.mk A20
 clear A20
 obtain rfl := Option.some.inj H
 go_enter Tryd.func30, Tryd.ntmps30
 go_wp2_with (first | ((with_reducible refine gate_load_ (t := 27) rfl ?_); refine ld_ (t := 27) (cs := ?cs_) Tryd.underlying27 rfl rfl rfl ?hb_ rfl ?hi_ ?_; (case hb_ => (repeat (first | (with_reducible first | refine blk_drewN ?_ _ | refine blk_drew ?_ | refine blk_alloc ?_ _) | refine blk_set ?_ _ _)); (with_reducible first | exact BK197.out)); (case hi_ => kernel_rfl)) | ((with_reducible refine gate_dst (N := 1) rfl ?_); refine be_ (N := 1) (cs := #[.int .i64 a0_0, .int .i64 a0_1, .int .i64 a0_2, .int .i64 a0_3, .int .i64 a0_4, .int .i64 a0_5, .int .i64 a0_6, .int .i64 a0_7, .int .i64 a0_8, .int .i64 a0_9, .int .i64 a0_10, .int .i64 a0_11, .int .i64 a0_12, .int .i64 a0_13, .int .i64 a0_14, .int .i64 a0_15, .int .i64 a0_16, .int .i64 a0_17, .int .i64 a0_18, .int .i64 a0_19, .int .i64 a0_20, .string a0_21, .string a0_22, .slice A0_23 l0_23.length c0_23, .slice A0_24 l0_24.length c0_24]) (t := 27) ?_; intro gb197 hg w3 hbox hb; have n0_ := Aside0.mk (below_step (qb_ HB.out) hb); have n1_ := Aside0.mk (hbox); have n2_ := Aside0.mk (bz_ hg (qb_ HB.out) : w.heap.size ≤ gb197); have n3_ := n2_; clear HB; have HB := n0_; have BK197 := n1_; have GW197 := n2_; have GE197 := n3_; clear n0_ n1_ n2_ n3_; clear hb hbox hg; obtain ⟨Z4_0, Z4_1, Z4_2, Z4_3, Z4_4, Z4_5, Z4_6, Z4_7, Z4_8, Z4_9, Z4_10, Z4_11, Z4_12, Z4_13, Z4_14, Z4_15, Z4_16, Z4_17, Z4_18, Z4_19, Z4_20, Z4_21, Z4_22, Z4_23, Z4_24, Y4_0, Y4_1, Y4_2, Y4_3, Y4_4, Y4_5, Y4_6, Y4_7, Y4_8, Y4_9, Y4_10, Y4_11, Y4_12, Y4_13, Y4_14, Y4_15, Y4_16, Y4_17, Y4_18, Y4_19, Y4_20, Y4_21, Y4_22, Y4_23, Y4_24⟩ := cz25_ BK197.out) | ((with_reducible refine gate_callee (f := 45) rfl ?_); refine goesL_ (some 8) rfl rfl Tryd.func45 (by kernel_rfl) rfl #[.slice A0_23 l0_23.length c0_23] rfl ql_ ?_; (with_reducible refine (loan_sums.calls k _ _ l0_23 t198 t199 _ ?side1 ?side2 A2.out).mono ?_); (case side1 => repeat (first | exact (Kd.C_below HR0_23.out HB.out) | (with_reducible refine Kd.C_alloc ?_ _) | (with_reducible refine Kd.C_drewN ?_ _) | (with_reducible refine Kd.C_drew ?_))); (case side2 => exact HC0_23.out); rintro e w5 ⟨rfl, hb⟩; refine ⟨_, rfl, ?_⟩; have n0_ := Aside0.mk (blk_below (qk_ BK197.out) hb); have n1_ := Aside0.mk (below_step (qb1_ GE197.out HB.out) hb); clear BK197; clear HB; have BK197 := n0_; have HB := n1_; clear n0_ n1_; (try clear hb); (try clear hb2); (try clear hk); (try clear hi); obtain ⟨Z6_0, Z6_1, Z6_2, Z6_3, Z6_4, Z6_5, Z6_6, Z6_7, Z6_8, Z6_9, Z6_10, Z6_11, Z6_12, Z6_13, Z6_14, Z6_15, Z6_16, Z6_17, Z6_18, Z6_19, Z6_20, Z6_21, Z6_22, Z6_23, Z6_24, Y6_0, Y6_1, Y6_2, Y6_3, Y6_4, Y6_5, Y6_6, Y6_7, Y6_8, Y6_9, Y6_10, Y6_11, Y6_12, Y6_13, Y6_14, Y6_15, Y6_16, Y6_17, Y6_18, Y6_19, Y6_20, Y6_21, Y6_22, Y6_23, Y6_24⟩ := cz25_ BK197.out))
 go_ret
 exact ⟨qe_, qb1_ GE197.out HB.out⟩
def provision_Expected.f (k : Nat) (a0_0 a0_1 a0_2 a0_3 a0_4 a0_5 a0_6 a0_7 a0_8 a0_9 a0_10 a0_11 a0_12 a0_13 a0_14 a0_15 a0_16 a0_17 a0_18 a0_19 a0_20 : Int) (a0_21 a0_22 : ByteArray) (l0_23 : List (S54)) (l0_24 : List (S50)) (a1 : Int) : Option (Int × Int) := (loan_Outstanding.f k a0_0 a0_1 a0_2 a0_3 a0_4 a0_5 a0_6 a0_7 a0_8 a0_9 a0_10 a0_11 a0_12 a0_13 a0_14 a0_15 a0_16 a0_17 a0_18 a0_19 a0_20 a0_21 a0_22 l0_23 l0_24).bind fun t201 => ((provision_Stage.f k a0_0 a0_1 a0_2 a0_3 a0_4 a0_5 a0_6 a0_7 a0_8 a0_9 a0_10 a0_11 a0_12 a0_13 a0_14 a0_15 a0_16 a0_17 a0_18 a0_19 a0_20 a0_21 a0_22 l0_23 l0_24 a1).bind fun t202 => ((provision_Rate.f t202).bind fun t203 => ((rounding_Percent.f t201 t203 2).bind fun bt204 => (some (bt204.1, bt204.2)))))
theorem provision_Expected.mono : ∀ a0 a1 a2 a3 a4 a5 a6 a7 a8 a9 a10 a11 a12 a13 a14 a15 a16 a17 a18 a19 a20 a21 a22 a23 a24 a25 k, LeO (provision_Expected.f k a0 a1 a2 a3 a4 a5 a6 a7 a8 a9 a10 a11 a12 a13 a14 a15 a16 a17 a18 a19 a20 a21 a22 a23 a24 a25) (provision_Expected.f (k + 1) a0 a1 a2 a3 a4 a5 a6 a7 a8 a9 a10 a11 a12 a13 a14 a15 a16 a17 a18 a19 a20 a21 a22 a23 a24 a25) := by
 intro a0 a1 a2 a3 a4 a5 a6 a7 a8 a9 a10 a11 a12 a13 a14 a15 a16 a17 a18 a19 a20 a21 a22 a23 a24 a25 k
 unfold provision_Expected.f
 repeat' first
   | (with_reducible exact loan_Outstanding.mono _ _ _ _ _ _ _ _ _ _ _ _ _ _ _ _ _ _ _ _ _ _ _ _ _ _)
   | (with_reducible exact provision_Stage.mono _ _ _ _ _ _ _ _ _ _ _ _ _ _ _ _ _ _ _ _ _ _ _ _ _ _ _)
   | (with_reducible exact LeO.refl _)
   | (with_reducible exact LeO.none _)
   | (with_reducible refine LeO.ite ?_ ?_)
   | (with_reducible refine LeO.bind ?_ (fun _ => ?_))
   | exact loan_Outstanding.mono _ _ _ _ _ _ _ _ _ _ _ _ _ _ _ _ _ _ _ _ _ _ _ _ _ _
   | exact provision_Stage.mono _ _ _ _ _ _ _ _ _ _ _ _ _ _ _ _ _ _ _ _ _ _ _ _ _ _ _
   | exact LeO.none _
   | refine LeO.ite ?_ ?_
   | refine LeO.bind ?_ (fun _ => ?_)
def provision_Expected.T1 : Bool × List (List Nat × List Nat) := (true, [([], []), ([0], [0]), ([], []), ([], []), ([2, 3, 1], [2, 3]), ([4, 4], [4]), ([1, 5, 5], [1, 5]), ([6], [6]), ([6], [6]), ([7, 6, 0, 1, 2, 3, 4, 5, 6, 7, 8], [7]), ([8, 9, 0, 1, 2, 3, 4, 5, 6, 7, 8, 9], [8])])
def provision_Expected.B1 : List Nat := [0, 1, 0, 0, 15, 31, 63, 127, 127, 511, 1023]
theorem provision_Expected.tab1 : rtab .any (opsOf Tryd.f14 1) = provision_Expected.T1 := by kernel_rfl
theorem provision_Expected.bits1 : waitsOk provision_Expected.T1.2 provision_Expected.B1 = true := by kernel_rfl
set_option maxHeartbeats 8000000 in
set_option maxRecDepth 100000 in
theorem provision_Expected.calls (k : Nat) (a0_0 a0_1 a0_2 a0_3 a0_4 a0_5 a0_6 a0_7 a0_8 a0_9 a0_10 a0_11 a0_12 a0_13 a0_14 a0_15 a0_16 a0_17 a0_18 a0_19 a0_20 : Int) (a0_21 a0_22 : ByteArray) (A0_23 : Option Addr) (c0_23 : Nat) (l0_23 : List (S54)) (A0_24 : Option Addr) (c0_24 : Nat) (l0_24 : List (S50)) (a1 r1 r2 : Int) (w : World) (hG : GW w) (hr0_23 : Kd.C k54 w A0_23 l0_23.length l0_23) (hc0_23 : l0_23.length ≤ c0_23) (hr0_24 : Kd.C k50 w A0_24 l0_24.length l0_24) (hc0_24 : l0_24.length ≤ c0_24) (h : provision_Expected.f k a0_0 a0_1 a0_2 a0_3 a0_4 a0_5 a0_6 a0_7 a0_8 a0_9 a0_10 a0_11 a0_12 a0_13 a0_14 a0_15 a0_16 a0_17 a0_18 a0_19 a0_20 a0_21 a0_22 l0_23 l0_24 a1 = some (r1, r2)) :
  Calls Tryd.prog 14 #[.agg #[.int .i64 a0_0, .int .i64 a0_1, .int .i64 a0_2, .int .i64 a0_3, .int .i64 a0_4, .int .i64 a0_5, .int .i64 a0_6, .int .i64 a0_7, .int .i64 a0_8, .int .i64 a0_9, .int .i64 a0_10, .int .i64 a0_11, .int .i64 a0_12, .int .i64 a0_13, .int .i64 a0_14, .int .i64 a0_15, .int .i64 a0_16, .int .i64 a0_17, .int .i64 a0_18, .int .i64 a0_19, .int .i64 a0_20, .string a0_21, .string a0_22, .slice A0_23 l0_23.length c0_23, .slice A0_24 l0_24.length c0_24], .int .i64 a1] w fun e w' => e = .returned (.tuple #[.int .i64 r1, .int .i64 r2]) ∧ Below w.heap.size w w' := by
 have hu27 := Tryd.underlying27
 have HR0_23 := Aside0.mk hr0_23
 have HC0_23 := Aside0.mk hc0_23
 clear hr0_23 hc0_23
 have HR0_24 := Aside0.mk hr0_24
 have HC0_24 := Aside0.mk hc0_24
 clear hr0_24 hc0_24
 have HB := Aside0.mk (Below.refl w.heap.size w)
 have H : ((loan_Outstanding.f k a0_0 a0_1 a0_2 a0_3 a0_4 a0_5 a0_6 a0_7 a0_8 a0_9 a0_10 a0_11 a0_12 a0_13 a0_14 a0_15 a0_16 a0_17 a0_18 a0_19 a0_20 a0_21 a0_22 l0_23 l0_24).bind fun t201 => ((provision_Stage.f k a0_0 a0_1 a0_2 a0_3 a0_4 a0_5 a0_6 a0_7 a0_8 a0_9 a0_10 a0_11 a0_12 a0_13 a0_14 a0_15 a0_16 a0_17 a0_18 a0_19 a0_20 a0_21 a0_22 l0_23 l0_24 a1).bind fun t202 => ((provision_Rate.f t202).bind fun t203 => ((rounding_Percent.f t201 t203 2).bind fun bt204 => (some (bt204.1, bt204.2)))))) = some (r1, r2) := h
 clear h
 replace H := Option.bind_eq_some_iff.mp H
 obtain ⟨t201, A30, H⟩ := H
 replace H : ((provision_Stage.f k a0_0 a0_1 a0_2 a0_3 a0_4 a0_5 a0_6 a0_7 a0_8 a0_9 a0_10 a0_11 a0_12 a0_13 a0_14 a0_15 a0_16 a0_17 a0_18 a0_19 a0_20 a0_21 a0_22 l0_23 l0_24 a1).bind fun t202 => ((provision_Rate.f t202).bind fun t203 => ((rounding_Percent.f t201 t203 2).bind fun bt204 => (some (bt204.1, bt204.2))))) = some (r1, r2) := H
 have A3 := Aside0.mk A30
 clear A30
 replace H := Option.bind_eq_some_iff.mp H
 obtain ⟨t202, A40, H⟩ := H
 replace H : ((provision_Rate.f t202).bind fun t203 => ((rounding_Percent.f t201 t203 2).bind fun bt204 => (some (bt204.1, bt204.2)))) = some (r1, r2) := H
 have A4 := Aside0.mk A40
 clear A40
 replace H := Option.bind_eq_some_iff.mp H
 obtain ⟨t203, A50, H⟩ := H
 replace H : ((rounding_Percent.f t201 t203 2).bind fun bt204 => (some (bt204.1, bt204.2))) = some (r1, r2) := H
 have A5 := Aside0.mk A50
 clear A50
 replace H := Option.bind_eq_some_iff.mp H
 obtain ⟨⟨t204, t205⟩, A60, H⟩ := H
 replace H : (some (t204, t205)) = some (r1, r2) := H
 have A6 := Aside0.mk A60
 clear A60
 simp only [Option.some.injEq, Prod.mk.injEq] at H
 obtain ⟨rfl, rfl⟩ := H
 go_enter Tryd.func14, Tryd.ntmps14
 try go_wp2_with (first | ((with_reducible refine gate_load_ (t := 27) rfl ?_); refine ld_ (t := 27) (cs := ?cs_) Tryd.underlying27 rfl rfl rfl ?hb_ rfl ?hi_ ?_; (case hb_ => (repeat (first | (with_reducible first | refine blk_drewN ?_ _ | refine blk_drew ?_ | refine blk_alloc ?_ _) | refine blk_set ?_ _ _)); (with_reducible first | exact BK200.out)); (case hi_ => kernel_rfl)) | ((with_reducible refine gate_dst (N := 2) rfl ?_); refine be_ (N := 2) (cs := #[.int .i64 a0_0, .int .i64 a0_1, .int .i64 a0_2, .int .i64 a0_3, .int .i64 a0_4, .int .i64 a0_5, .int .i64 a0_6, .int .i64 a0_7, .int .i64 a0_8, .int .i64 a0_9, .int .i64 a0_10, .int .i64 a0_11, .int .i64 a0_12, .int .i64 a0_13, .int .i64 a0_14, .int .i64 a0_15, .int .i64 a0_16, .int .i64 a0_17, .int .i64 a0_18, .int .i64 a0_19, .int .i64 a0_20, .string a0_21, .string a0_22, .slice A0_23 l0_23.length c0_23, .slice A0_24 l0_24.length c0_24]) (t := 27) ?_; intro gb200 hg w7 hbox hb; have n0_ := Aside0.mk (below_step (qb_ HB.out) hb); have n1_ := Aside0.mk (hbox); have n2_ := Aside0.mk (bz_ hg (qb_ HB.out) : w.heap.size ≤ gb200); have n3_ := n2_; clear HB; have HB := n0_; have BK200 := n1_; have GW200 := n2_; have GE200 := n3_; clear n0_ n1_ n2_ n3_; clear hb hbox hg))
 have n0_ := Aside0.mk (blk_drew BK200.out)
 have n1_ := Aside0.mk (below_drew1 HB.out)
 clear BK200
 clear HB
 have BK200 := n0_
 have HB := n1_
 clear n0_ n1_
 refine start_ (n := 11) (S := cS25_ gb200 (.int .i64 a0_0) (.int .i64 a0_1) (.int .i64 a0_2) (.int .i64 a0_3) (.int .i64 a0_4) (.int .i64 a0_5) (.int .i64 a0_6) (.int .i64 a0_7) (.int .i64 a0_8) (.int .i64 a0_9) (.int .i64 a0_10) (.int .i64 a0_11) (.int .i64 a0_12) (.int .i64 a0_13) (.int .i64 a0_14) (.int .i64 a0_15) (.int .i64 a0_16) (.int .i64 a0_17) (.int .i64 a0_18) (.int .i64 a0_19) (.int .i64 a0_20) (.string a0_21) (.string a0_22) (.slice A0_23 l0_23.length c0_23) (.slice A0_24 l0_24.length c0_24)) (ds := []) (nb_ 11 0) (by kernel_rfl) rfl rfl (cc25_ BK200.out) (fun hHeld => ?_); refine with_tabW provision_Expected.tab1 provision_Expected.bits1 (fun HT_ HW_ => ?_)
 generalize w7.drew = w8 at BK200 HB hHeld ⊢
 refine pz_ 3 9 (nb_ 11 8) HT_.out ?_
 refine take_ (i := 0) (N := some 6) (v := ?_) (a' := ?_) (nb_ 11 9) rfl rfl (take_ofW HT_.out HW_.out (by kernel_rfl)) (fun _ _ _ h => h) (Or.inl ⟨by rfl, ?_⟩) hHeld ?_ ?_
 rotate_left
 ·rintro w' hs_
  first
  | (refine ldx_ (b := ?b_) ?ho_ ?hx_ (ldS_ hs_); (case ho_ => rfl); (case hx_ => rfl))
  | (obtain ⟨s0, s1, s2, s3, s4, s5, s6, s7, s8, s9, s10, s11, s12, s13, s14, s15, s16, s17, s18, s19, s20, s21, s22, s23, s24⟩ := hs_; go_simp; with_reducible rfl)
 rotate_left
 ·simp only [Act.put, List.setIfInBounds_toArray, List.set_cons_zero, List.set_cons_succ, i64_w, i32_w]
  rfl
 refine take_ (i := 2) (N := some 8) (v := ?_) (a' := ?_) (nb_ 11 13) rfl rfl (take_ofW HT_.out HW_.out (by kernel_rfl)) (fun _ _ _ h => h) (Or.inl ⟨by rfl, ?_⟩) hHeld ?_ ?_
 rotate_left
 ·rintro w' hs_
  first
  | (refine ldx_ (b := ?b_) ?ho_ ?hx_ (ldS_ hs_); (case ho_ => rfl); (case hx_ => rfl))
  | (obtain ⟨s0, s1, s2, s3, s4, s5, s6, s7, s8, s9, s10, s11, s12, s13, s14, s15, s16, s17, s18, s19, s20, s21, s22, s23, s24⟩ := hs_; go_simp; with_reducible rfl)
 rotate_left
 ·simp only [Act.put, List.setIfInBounds_toArray, List.set_cons_zero, List.set_cons_succ, i64_w, i32_w]
  rfl
 refine on_ 1 7 (nb_ 11 15) HT_.out (fun K hK => ?_)
 refine goes_ Tryd.func30 (by kernel_rfl) rfl #[.agg #[.int .i64 a0_0, .int .i64 a0_1, .int .i64 a0_2, .int .i64 a0_3, .int .i64 a0_4, .int .i64 a0_5, .int .i64 a0_6, .int .i64 a0_7, .int .i64 a0_8, .int .i64 a0_9, .int .i64 a0_10, .int .i64 a0_11, .int .i64 a0_12, .int .i64 a0_13, .int .i64 a0_14, .int .i64 a0_15, .int .i64 a0_16, .int .i64 a0_17, .int .i64 a0_18, .int .i64 a0_19, .int .i64 a0_20, .string a0_21, .string a0_22, .slice A0_23 l0_23.length c0_23, .slice A0_24 l0_24.length c0_24]] (by rfl) rfl rfl ql_ ?_
 with_reducible refine (loan_Outstanding.calls k a0_0 a0_1 a0_2 a0_3 a0_4 a0_5 a0_6 a0_7 a0_8 a0_9 a0_10 a0_11 a0_12 a0_13 a0_14 a0_15 a0_16 a0_17 a0_18 a0_19 a0_20 a0_21 a0_22 _ _ l0_23 _ _ l0_24 t201 _ ?side1 ?side2 ?side3 ?side4 A3.out).mono ?_
 (case side1 => repeat (first | exact (Kd.C_below HR0_23.out HB.out) | (with_reducible refine Kd.C_alloc ?_ _) | (with_reducible refine Kd.C_drewN ?_ _) | (with_reducible refine Kd.C_drew ?_)))
 (case side2 => exact HC0_23.out)
 (case side3 => repeat (first | exact (Kd.C_below HR0_24.out HB.out) | (with_reducible refine Kd.C_alloc ?_ _) | (with_reducible refine Kd.C_drewN ?_ _) | (with_reducible refine Kd.C_drew ?_)))
 (case side4 => exact HC0_24.out)
 rintro e w9 ⟨rfl, hb⟩
 refine ⟨_, rfl, ?_⟩
 have n0_ := Aside0.mk (blk_below (qk_ BK200.out) hb)
 have n1_ := Aside0.mk (below_step (qb1_ GE200.out HB.out) hb)
 clear BK200
 clear HB
 have BK200 := n0_
 have HB := n1_
 clear n0_ n1_
 (try clear hb)
 (try clear hb2)
 (try clear hk)
 (try clear hi)
 refine hK.out _ _ (cc25_ BK200.out) (fun hHeld => ?_)
 clear hK K
 refine no_ ?_
 refine on_ 4 10 (nb_ 11 31) HT_.out (fun K hK => ?_)
 refine goes_ Tryd.func9 (by kernel_rfl) rfl #[.agg #[.int .i64 a0_0, .int .i64 a0_1, .int .i64 a0_2, .int .i64 a0_3, .int .i64 a0_4, .int .i64 a0_5, .int .i64 a0_6, .int .i64 a0_7, .int .i64 a0_8, .int .i64 a0_9, .int .i64 a0_10, .int .i64 a0_11, .int .i64 a0_12, .int .i64 a0_13, .int .i64 a0_14, .int .i64 a0_15, .int .i64 a0_16, .int .i64 a0_17, .int .i64 a0_18, .int .i64 a0_19, .int .i64 a0_20, .string a0_21, .string a0_22, .slice A0_23 l0_23.length c0_23, .slice A0_24 l0_24.length c0_24], .int .i64 a1] (by rfl) rfl rfl ql_ ?_
 with_reducible refine (provision_Stage.calls (hG := by first | exact hG | (with_reducible exact GW.below hG (qb1_ GE200.out HB.out)) | (with_reducible repeat (first | exact hG | apply GW.drewN | apply GW.drew))) k a0_0 a0_1 a0_2 a0_3 a0_4 a0_5 a0_6 a0_7 a0_8 a0_9 a0_10 a0_11 a0_12 a0_13 a0_14 a0_15 a0_16 a0_17 a0_18 a0_19 a0_20 a0_21 a0_22 _ _ l0_23 _ _ l0_24 a1 t202 _ ?side1 ?side2 ?side3 ?side4 A4.out).mono ?_
 (case side1 => repeat (first | exact (Kd.C_below HR0_23.out HB.out) | (with_reducible refine Kd.C_alloc ?_ _) | (with_reducible refine Kd.C_drewN ?_ _) | (with_reducible refine Kd.C_drew ?_)))
 (case side2 => exact HC0_23.out)
 (case side3 => repeat (first | exact (Kd.C_below HR0_24.out HB.out) | (with_reducible refine Kd.C_alloc ?_ _) | (with_reducible refine Kd.C_drewN ?_ _) | (with_reducible refine Kd.C_drew ?_)))
 (case side4 => exact HC0_24.out)
 rintro e w10 ⟨rfl, hb⟩
 refine ⟨_, rfl, ?_⟩
 have n0_ := Aside0.mk (blk_below (qk_ BK200.out) hb)
 have n1_ := Aside0.mk (below_step (qb1_ GE200.out HB.out) hb)
 clear BK200
 clear HB
 have BK200 := n0_
 have HB := n1_
 clear n0_ n1_
 (try clear hb)
 (try clear hb2)
 (try clear hk)
 (try clear hi)
 refine hK.out _ _ (cc25_ BK200.out) (fun hHeld => ?_)
 clear hK K
 refine no_ ?_
 refine on_ 5 11 (nb_ 11 63) HT_.out (fun K hK => ?_)
 refine goes_ Tryd.func11 (by kernel_rfl) rfl #[.int .i64 t202] (by rfl) rfl rfl ql_ ?_
 with_reducible refine (provision_Rate.calls t202 t203 _ A5.out).mono ?_
 rintro e w11 ⟨rfl, hb⟩
 refine ⟨_, rfl, ?_⟩
 have n0_ := Aside0.mk (blk_below (qk_ BK200.out) hb)
 have n1_ := Aside0.mk (below_step (qb1_ GE200.out HB.out) hb)
 clear BK200
 clear HB
 have BK200 := n0_
 have HB := n1_
 clear n0_ n1_
 (try clear hb)
 (try clear hb2)
 (try clear hk)
 (try clear hi)
 refine hK.out _ _ (cc25_ BK200.out) (fun hHeld => ?_)
 clear hK K
 refine no_ ?_
 refine on_ 6 12 (nb_ 11 127) HT_.out (fun K hK => ?_)
 refine goes_ Tryd.func29 (by kernel_rfl) rfl #[.int .i64 t201, .int .i64 t203, .int .i64 2] (by rfl) rfl rfl ql_ ?_
 with_reducible refine (rounding_Percent.calls (hG := by first | exact hG | (with_reducible exact GW.below hG (qb1_ GE200.out HB.out)) | (with_reducible repeat (first | exact hG | apply GW.drewN | apply GW.drew))) t201 t203 2 t204 t205 _ A6.out).mono ?_
 rintro e w12 ⟨rfl, hb⟩
 refine ⟨_, rfl, ?_⟩
 have n0_ := Aside0.mk (blk_below (qk_ BK200.out) hb)
 have n1_ := Aside0.mk (below_step (qb1_ GE200.out HB.out) hb)
 clear BK200
 clear HB
 have BK200 := n0_
 have HB := n1_
 clear n0_ n1_
 (try clear hb)
 (try clear hb2)
 (try clear hk)
 (try clear hi)
 refine hK.out _ _ (cc25_ BK200.out) (fun hHeld => ?_)
 clear hK K
 refine no_ ?_
 refine pz_ 7 13 (nb_ 11 255) HT_.out ?_
 refine pz_ 8 14 (nb_ 11 511) HT_.out ?_
 refine pz_ 9 4 (nb_ 11 1023) HT_.out ?_
 refine pz_ 10 5 (nb_ 11 2047) HT_.out ?_
 refine done_ (done_of HT_.out (by kernel_rfl)) ?_
 try go_wp2
 go_ret2
 exact ⟨qe_, qb1_ GE200.out HB.out⟩
def money_Valid.f (a0 : Int) : Option (Bool) := if a0 ≥ (-1000000000000) then (some (decide (a0 ≤ 1000000000000))) else (some false)
set_option maxHeartbeats 8000000 in
set_option maxRecDepth 100000 in
theorem money_Valid.calls (a0 : Int) (r : Bool) (w : World) (h : money_Valid.f a0 = some r) :
  Calls Tryd.prog 32 #[.int .i64 a0] w fun e w' => e = .returned (.bool r) ∧ Drawn0 w w' := by
 have H : (if a0 ≥ (-1000000000000) then (some (decide (a0 ≤ 1000000000000))) else (some false)) = some r := h
 clear h
 by_cases c2 : a0 ≥ (-1000000000000)
 ·rw [if_pos c2] at H
  have c2b0 : decide ((-1000000000000) ≤ a0) = true := decide_eq_true c2
  clear c2
  obtain rfl := Option.some.inj H
  go_enter Tryd.func32, Tryd.ntmps32
  go_wp2
  go_ret
  exact ⟨by first | rfl | (simp; done) | (simp [*]; done), by repeat (first | exact Drawn0.refl _ | apply Drawn0.step)⟩
 ·rw [if_neg c2] at H
  have c2b0 : decide ((-1000000000000) ≤ a0) = false := decide_eq_false c2
  clear c2
  obtain rfl := Option.some.inj H
  go_enter Tryd.func32, Tryd.ntmps32
  go_wp2
  go_ret
  exact ⟨by first | rfl | (simp; done) | (simp [*]; done), by repeat (first | exact Drawn0.refl _ | apply Drawn0.step)⟩
def api_Due.f (l0 : List (S54)) : Option ((List (S54))) := (some (([] : List (S54)) : List (S54))).bind fun y199 => (if y199.length + l0.length < 4398046511104 then (some (y199 ++ l0)) else (none))
set_option maxHeartbeats 8000000 in
set_option maxRecDepth 100000 in
theorem api_Due.some_calls (ad0 : Addr) (c0 : Nat) (l0 r : List (S54)) (w : World) (hr0 : Kd.C k54 w (some ad0) l0.length l0) (hc0 : l0.length ≤ c0) (h : api_Due.f l0 = some r) :
  Calls Tryd.prog 33 #[.slice (some ad0) l0.length c0] w fun e w' => ∃ v0_ : Value, e = .returned (v0_) ∧ Kd.R k54 54 w' w.heap.size (fun _ => True) v0_ r ∧ Below w.heap.size w w' := by
 have HR0 := Aside0.mk hr0
 have HC0 := Aside0.mk hc0
 clear hr0 hc0
 have HB := Aside0.mk (Below.refl w.heap.size w)
 have qnil : ∀ (w : World) (a : Option Addr) (n c n' c' : Nat), (binOp .eql 24 (.slice a n c) (.slice none n' c')).run Tryd.prog w = .ok (.bool a.isNone) w := fun w a n c n' c' => Lib.run_eql_slice_nil w _ _ a n c n' c' Tryd.underlying24
 have H : ((some (([] : List (S54)) : List (S54))).bind fun y199 => (if y199.length + l0.length < 4398046511104 then (some (y199 ++ l0)) else (none))) = some r := h
 clear h
 obtain ⟨y199, hy199⟩ : ∃ y_ : List (S54), y_ = (([] : List (S54))) := ⟨_, rfl⟩
 replace H : (if y199.length + l0.length < 4398046511104 then (some (y199 ++ l0)) else (none)) = some r := by first | (rw [hy199]; with_reducible exact H) | (have H2_ := (Option.bind_some _ _).symm.trans H; rw [hy199]; with_reducible exact H2_) | (have H2_ := (Option.bind_some _ _).symm.trans H; with_reducible exact H2_) | with_reducible exact H | (rw [hy199]; exact H) | exact H
 have Ny199 := Aside0.mk hy199
 clear hy199
 by_cases c2 : y199.length + l0.length < 4398046511104
 ·rw [if_pos c2] at H
  have LMc2 := Aside0.mk c2
  clear c2
  obtain ⟨y202, hy202⟩ : ∃ y_ : List (S54), y_ = (y199 ++ l0) := ⟨_, rfl⟩
  replace H : (some y202) = some r := by first | (rw [hy202]; with_reducible exact H) | (have H2_ := (Option.bind_some _ _).symm.trans H; rw [hy202]; with_reducible exact H2_) | (have H2_ := (Option.bind_some _ _).symm.trans H; with_reducible exact H2_) | with_reducible exact H | (rw [hy202]; exact H) | exact H
  have Ny202 := Aside0.mk hy202
  clear hy202
  obtain rfl := Option.some.inj H
  go_enter Tryd.func33, Tryd.ntmps33
  go_wp2_with (first | ((with_reducible refine gate_dst (N := 5) rfl ?_); refine Kd.R_lit k54 _ 54 ?hg (N := 5) ?hd (xs := ([] : List (S54))) (inner := []) (ok := fun _ => True) (okp := fun _ => True) ?hr ?hp (fun _ hk => hk) trivial (Below.refl _ _) (Nat.le_refl _) (by simp) ?_; (case hd => rfl); (case hg => rfl); (case hr => first | (go_simp; done) | (go_simp; rfl)); (case hp => exact (Reps.none _ _)); intro v200 w3 ho4 hb hg_ hnew_; clear hg_ hnew_; (first | rw [← Ny199.out] at ho4 | (simp only [Int.reduceToNat] at ho4; rw [← Ny199.out] at ho4)); have n0_ := Aside0.mk (Kd.R_lower ho4 (below_size (qb_ HB.out))); have n1_ := Aside0.mk (below_step (qb_ HB.out) hb); clear HB; have HO201 := n0_; have HB := n1_; clear n0_ n1_; clear hb ho4) | ((with_reducible refine gate_builtin (b := .append) (xs := #[.tmp 5, .tmp 6]) rfl ?_); at_builtin; refine Kd.R_append_rows k54 (w0 := w) w.heap.size rfl (.tmp 5) (.tmp 6) 24 54 (.agg #[(.int .i64 0), (.int .i64 0), (.int .i64 0), (.int .i64 0)]) 32 rfl Tryd.underlying24 info54 rfl (by decide) (by omega) v200 y199 l0 _ _ _ (fun _ => True) (fun _ => False) rfl rfl ?aO ?aR (fun _ _ h => h) (fun _ h => h.elim) ?aF ?aB ?aS ?aL ?_; (case aR => repeat (first | exact (Kd.C_below HR0.out HB.out) | (with_reducible refine Kd.C_alloc ?_ _) | (with_reducible refine Kd.C_drewN ?_ _) | (with_reducible refine Kd.C_drew ?_))); (case aB => exact (qb_ HB.out)); (case aF => exact (fun _ _ => trivial)); (case aO => exact (by (with_reducible repeat (first | apply Kd.R_alloc | apply Kd.R_drewN | apply Kd.R_drew)); exact HO201.out)); (case aS => exact (below_size (qb_ HB.out))); (case aL => have := LMc2.out; omega); intro v203 w5 ho hb hg hat; rw [← Ny202.out] at ho; have n0_ := Aside0.mk (hb); have n1_ := Aside0.mk (ho); clear HB; clear HO201; have HB := n0_; have HO204 := n1_; clear n0_ n1_; clear ho hb hg hat))
  go_ret
  exact ⟨_, qe_, by (with_reducible repeat (first | apply Kd.R_alloc | apply Kd.R_drewN | apply Kd.R_drew)); exact HO204.out, qb_ HB.out⟩
 ·rw [if_neg c2] at H
  exact absurd H (by simp)
set_option maxHeartbeats 1000000 in
set_option maxRecDepth 100000 in
theorem api_Due.none_calls (c0 : Nat) (w : World) : Calls Tryd.prog 33 #[.slice none 0 c0] w fun e w' => e = .returned (.slice none 0 0) ∧ Below w.heap.size w w' := by
 have qnil : ∀ (w : World) (a : Option Addr) (n c n' c' : Nat), (binOp .eql 24 (.slice a n c) (.slice none n' c')).run Tryd.prog w = .ok (.bool a.isNone) w := fun w a n c n' c' => Lib.run_eql_slice_nil w _ _ a n c n' c' Tryd.underlying24
 go_enter Tryd.func33, Tryd.ntmps33
 go_wp2
 go_ret
 exact ⟨rfl, Below.refl _ _⟩
theorem api_Due.calls (A0 : Option Addr) (c0 : Nat) (l0 r : List (S54)) (w : World) (hr0 : Kd.C k54 w A0 l0.length l0) (hc0 : l0.length ≤ c0) (h : api_Due.f l0 = some r) :
  Calls Tryd.prog 33 #[.slice A0 l0.length c0] w fun e w' => ∃ v0_ : Value, e = .returned (v0_) ∧ Kd.R k54 54 w' w.heap.size (fun _ => True) v0_ r ∧ Below w.heap.size w w' := by
 cases A0 with
 | some ad0 => exact api_Due.some_calls ad0 c0 l0 r w hr0 hc0 h
 | none =>
  have hz : l0.length = 0 := by
   rcases Nat.eq_zero_or_pos l0.length with z | z
   ·exact z
   ·obtain ⟨ad, e, _⟩ := hr0.2.2 z; cases e
  have hl : l0 = [] := List.length_eq_zero_iff.1 hz
  subst hl
  have hr : r = [] := by
   have : api_Due.f [] = some [] := by unfold api_Due.f; simp
   rw [this] at h; exact (Option.some.inj h).symm
  subst hr
  refine (api_Due.none_calls c0 w).mono ?_
  rintro e w' ⟨rfl, hb⟩
  exact ⟨_, rfl, Kd.R_nil _ _ _ _ _, hb⟩
def api_Change.f (l0 : List (S50)) : Option ((List (S50))) := (some (([] : List (S50)) : List (S50))).bind fun y205 => (if y205.length + l0.length < 1099511627776 then (some (y205 ++ l0)) else (none))
set_option maxHeartbeats 8000000 in
set_option maxRecDepth 100000 in
theorem api_Change.some_calls (ad0 : Addr) (c0 : Nat) (l0 r : List (S50)) (w : World) (hr0 : Kd.C k50 w (some ad0) l0.length l0) (hc0 : l0.length ≤ c0) (h : api_Change.f l0 = some r) :
  Calls Tryd.prog 34 #[.slice (some ad0) l0.length c0] w fun e w' => ∃ v0_ : Value, e = .returned (v0_) ∧ Kd.R k50 50 w' w.heap.size (fun _ => True) v0_ r ∧ Below w.heap.size w w' := by
 have HR0 := Aside0.mk hr0
 have HC0 := Aside0.mk hc0
 clear hr0 hc0
 have HB := Aside0.mk (Below.refl w.heap.size w)
 have qnil : ∀ (w : World) (a : Option Addr) (n c n' c' : Nat), (binOp .eql 25 (.slice a n c) (.slice none n' c')).run Tryd.prog w = .ok (.bool a.isNone) w := fun w a n c n' c' => Lib.run_eql_slice_nil w _ _ a n c n' c' Tryd.underlying25
 have H : ((some (([] : List (S50)) : List (S50))).bind fun y205 => (if y205.length + l0.length < 1099511627776 then (some (y205 ++ l0)) else (none))) = some r := h
 clear h
 obtain ⟨y205, hy205⟩ : ∃ y_ : List (S50), y_ = (([] : List (S50))) := ⟨_, rfl⟩
 replace H : (if y205.length + l0.length < 1099511627776 then (some (y205 ++ l0)) else (none)) = some r := by first | (rw [hy205]; with_reducible exact H) | (have H2_ := (Option.bind_some _ _).symm.trans H; rw [hy205]; with_reducible exact H2_) | (have H2_ := (Option.bind_some _ _).symm.trans H; with_reducible exact H2_) | with_reducible exact H | (rw [hy205]; exact H) | exact H
 have Ny205 := Aside0.mk hy205
 clear hy205
 by_cases c2 : y205.length + l0.length < 1099511627776
 ·rw [if_pos c2] at H
  have LMc2 := Aside0.mk c2
  clear c2
  obtain ⟨y208, hy208⟩ : ∃ y_ : List (S50), y_ = (y205 ++ l0) := ⟨_, rfl⟩
  replace H : (some y208) = some r := by first | (rw [hy208]; with_reducible exact H) | (have H2_ := (Option.bind_some _ _).symm.trans H; rw [hy208]; with_reducible exact H2_) | (have H2_ := (Option.bind_some _ _).symm.trans H; with_reducible exact H2_) | with_reducible exact H | (rw [hy208]; exact H) | exact H
  have Ny208 := Aside0.mk hy208
  clear hy208
  obtain rfl := Option.some.inj H
  go_enter Tryd.func34, Tryd.ntmps34
  go_wp2_with (first | ((with_reducible refine gate_dst (N := 5) rfl ?_); refine Kd.R_lit k50 _ 50 ?hg (N := 5) ?hd (xs := ([] : List (S50))) (inner := []) (ok := fun _ => True) (okp := fun _ => True) ?hr ?hp (fun _ hk => hk) trivial (Below.refl _ _) (Nat.le_refl _) (by simp) ?_; (case hd => rfl); (case hg => rfl); (case hr => first | (go_simp; done) | (go_simp; rfl)); (case hp => exact (Reps.none _ _)); intro v206 w3 ho4 hb hg_ hnew_; clear hg_ hnew_; (first | rw [← Ny205.out] at ho4 | (simp only [Int.reduceToNat] at ho4; rw [← Ny205.out] at ho4)); have n0_ := Aside0.mk (Kd.R_lower ho4 (below_size (qb_ HB.out))); have n1_ := Aside0.mk (below_step (qb_ HB.out) hb); clear HB; have HO207 := n0_; have HB := n1_; clear n0_ n1_; clear hb ho4) | ((with_reducible refine gate_builtin (b := .append) (xs := #[.tmp 5, .tmp 6]) rfl ?_); at_builtin; refine Kd.R_append_rows k50 (w0 := w) w.heap.size rfl (.tmp 5) (.tmp 6) 25 50 (.agg #[(.int .i64 0), (.int .i64 0), (.int .i64 0), (.int .i64 0), (.int .i64 0), (.int .i64 0), (.int .i64 0), (.int .i64 0), (.int .i64 0), (.int .i64 0), (.int .i64 0), (.int .i64 0), (.string ⟨#[]⟩), (.string ⟨#[]⟩)]) 128 rfl Tryd.underlying25 (by kernel_rfl) rfl (by decide) (by omega) v206 y205 l0 _ _ _ (fun _ => True) (fun _ => False) rfl rfl ?aO ?aR (fun _ _ h => h) (fun _ h => h.elim) ?aF ?aB ?aS ?aL ?_; (case aR => repeat (first | exact (Kd.C_below HR0.out HB.out) | (with_reducible refine Kd.C_alloc ?_ _) | (with_reducible refine Kd.C_drewN ?_ _) | (with_reducible refine Kd.C_drew ?_))); (case aB => exact (qb_ HB.out)); (case aF => exact (fun _ _ => trivial)); (case aO => exact (by (with_reducible repeat (first | apply Kd.R_alloc | apply Kd.R_drewN | apply Kd.R_drew)); exact HO207.out)); (case aS => exact (below_size (qb_ HB.out))); (case aL => have := LMc2.out; omega); intro v209 w5 ho hb hg hat; rw [← Ny208.out] at ho; have n0_ := Aside0.mk (hb); have n1_ := Aside0.mk (ho); clear HB; clear HO207; have HB := n0_; have HO210 := n1_; clear n0_ n1_; clear ho hb hg hat))
  go_ret
  exact ⟨_, qe_, by (with_reducible repeat (first | apply Kd.R_alloc | apply Kd.R_drewN | apply Kd.R_drew)); exact HO210.out, qb_ HB.out⟩
 ·rw [if_neg c2] at H
  exact absurd H (by simp)
set_option maxHeartbeats 1000000 in
set_option maxRecDepth 100000 in
theorem api_Change.none_calls (c0 : Nat) (w : World) : Calls Tryd.prog 34 #[.slice none 0 c0] w fun e w' => e = .returned (.slice none 0 0) ∧ Below w.heap.size w w' := by
 have qnil : ∀ (w : World) (a : Option Addr) (n c n' c' : Nat), (binOp .eql 25 (.slice a n c) (.slice none n' c')).run Tryd.prog w = .ok (.bool a.isNone) w := fun w a n c n' c' => Lib.run_eql_slice_nil w _ _ a n c n' c' Tryd.underlying25
 go_enter Tryd.func34, Tryd.ntmps34
 go_wp2
 go_ret
 exact ⟨rfl, Below.refl _ _⟩
theorem api_Change.calls (A0 : Option Addr) (c0 : Nat) (l0 r : List (S50)) (w : World) (hr0 : Kd.C k50 w A0 l0.length l0) (hc0 : l0.length ≤ c0) (h : api_Change.f l0 = some r) :
  Calls Tryd.prog 34 #[.slice A0 l0.length c0] w fun e w' => ∃ v0_ : Value, e = .returned (v0_) ∧ Kd.R k50 50 w' w.heap.size (fun _ => True) v0_ r ∧ Below w.heap.size w w' := by
 cases A0 with
 | some ad0 => exact api_Change.some_calls ad0 c0 l0 r w hr0 hc0 h
 | none =>
  have hz : l0.length = 0 := by
   rcases Nat.eq_zero_or_pos l0.length with z | z
   ·exact z
   ·obtain ⟨ad, e, _⟩ := hr0.2.2 z; cases e
  have hl : l0 = [] := List.length_eq_zero_iff.1 hz
  subst hl
  have hr : r = [] := by
   have : api_Change.f [] = some [] := by unfold api_Change.f; simp
   rw [this] at h; exact (Option.some.inj h).symm
  subst hr
  refine (api_Change.none_calls c0 w).mono ?_
  rintro e w' ⟨rfl, hb⟩
  exact ⟨_, rfl, Kd.R_nil _ _ _ _ _, hb⟩
end Go.Proofs.YtjkjiibhdpcpkaaDoor.PS
end
