import Derived.Test.YtkdhippoibjfkaaDoorQRm2
import Derived.Test.YtkdhippoibjfkaaDoorQRm8
import Derived.Test.YtkdhippoibjfkaaDoorQRm9
import Derived.Test.YtkdhippoibjfkaaDoorQRm12
import Derived.Test.YtkdhippoibjfkaaDoorQRx33
namespace Go.Proofs.YtkdhippoibjfkaaDoor.PR
open Go.RowKit Go.Proofs.YtkdhippoibjfkaaDoorW.PrintWords Go.Proofs.YtkdhippoibjfkaaDoorW.PrintLast
set_option linter.unusedVariables false
set_option linter.unusedSimpArgs false
attribute [local go_sem high] eqA24
def corebankref02_Amount.f (a0_0 a0_1 a1 : Int) : Option (Int × Int × Int × Int) := if isW a0_0 a0_1 then some (amtR (wv a0_0 a0_1) a1) else none
theorem corebankref02_Amount.eq {a b m : Int} {r : Int × Int × Int × Int} (h : corebankref02_Amount.f a b m = some r) : corebankref02_AmountP.f a b m = some r := by
 unfold corebankref02_Amount.f at h
 split at h
 ·rename_i q
  injection h with h
  subst h
  unfold corebankref02_AmountP.f corebankref02_Divide.f
  rw [if_pos ⟨q, by decide⟩]
  simp only [Option.bind_some]
  unfold amtR
  by_cases e : (divR (wv a b) 1603080000000 m).2 = 0
  ·rw [if_pos e, if_pos e]
   obtain ⟨hq, q0, q1⟩ := amt_rest e
   rw [hq]
   generalize rq (wv a b) 1603080000000 m = x at *
   unfold corebankref02_Good.f
   by_cases g : -1000000000000 ≤ x ∧ x ≤ 1000000000000
   ·rw [if_pos g.1, decide_eq_true g.2, if_pos g]
    simp only [Option.bind_some, if_true]
    have hp : -1603080000000000000000000 ≤ x * 1603080000000 ∧ x * 1603080000000 ≤ 1603080000000000000000000 := by omega
    unfold corebankref01_Mul.f
    rw [if_pos ⟨by unfold inI; omega, by decide⟩]
    simp only [Option.bind_some]
    have hw : wv (x * 1603080000000 / 18446744073709551616) (x * 1603080000000 % 18446744073709551616) = x * 1603080000000 := by unfold wv; omega
    unfold corebankref01_Sub.f
    rw [if_pos ⟨q, by unfold inI; omega, by unfold inU; omega⟩, hw, if_pos (by unfold in128; omega)]
    simp only [Option.bind_some]
   ·rw [if_neg g]
    by_cases g1 : x ≥ -1000000000000
    ·rw [if_pos g1, decide_eq_false (by omega)]
     simp
    ·rw [if_neg g1]
     simp
  ·rw [if_neg e, if_neg e]
 ·cases h
theorem corebankref02_Amount.calls (a0_0 : Int) (a0_1 : Int) (a1 : Int) (r1 : Int) (r2 : Int) (r3 : Int) (r4 : Int) (w : World) (h : corebankref02_Amount.f a0_0 a0_1 a1 = some (r1, r2, r3, r4)) :
  Calls Tryd.prog 17 #[.agg #[.int .i64 a0_0, .int .u64 a0_1], .int .i64 a1] w fun e w' => e = .returned (.tuple #[.int .i64 r1, .agg #[.int .i64 r2, .int .u64 r3], .int .i64 r4]) ∧ Below w.heap.size w w' := by
 have h := corebankref02_Amount.eq h
 exact corebankref02_AmountP.calls a0_0 a0_1 a1 r1 r2 r3 r4 w h
def corebankref01_CmpP.j0 : Nat → Bool → Option (Int)
 | 0, _ => none
 | k + 1, x9 => if x9 = true then (some (-1)) else (some 1)
def corebankref01_CmpP.f (k : Nat) (a0_0 : Int) (a0_1 : Int) (a1_0 : Int) (a1_1 : Int) : Option (Int) := if (a0_0 == a1_0 && (a0_1 == a1_1)) = true then (some 0) else (if a0_0 < a1_0 then (corebankref01_CmpP.j0 k true) else (if a0_0 = a1_0 then (corebankref01_CmpP.j0 k (decide (a0_1 < a1_1))) else (corebankref01_CmpP.j0 k false)))
theorem corebankref01_CmpP.mono_l : ∀ k, (∀ y0, LeO (corebankref01_CmpP.j0 k y0) (corebankref01_CmpP.j0 (k + 1) y0))
 | 0 => fun _ r h => by simp [corebankref01_CmpP.j0] at h
 | k + 1 => by
  have ih0 := corebankref01_CmpP.mono_l k
  ·intro y0
   unfold corebankref01_CmpP.j0
   repeat' first
   | (with_reducible exact ih0 _)
   | (with_reducible exact LeO.refl _)
   | (with_reducible exact LeO.none _)
   | (with_reducible refine LeO.ite ?_ ?_)
   | (with_reducible refine LeO.bind ?_ (fun _ => ?_))
   | exact ih0 _
   | exact LeO.none _
   | refine LeO.ite ?_ ?_
   | refine LeO.bind ?_ (fun _ => ?_)
theorem corebankref01_CmpP.mono : ∀ a0 a1 a2 a3 k, LeO (corebankref01_CmpP.f k a0 a1 a2 a3) (corebankref01_CmpP.f (k + 1) a0 a1 a2 a3) := by
 intro a0 a1 a2 a3 k
 have ih0 := corebankref01_CmpP.mono_l k
 unfold corebankref01_CmpP.f
 repeat' first
   | (with_reducible exact ih0 _)
   | (with_reducible exact LeO.refl _)
   | (with_reducible exact LeO.none _)
   | (with_reducible refine LeO.ite ?_ ?_)
   | (with_reducible refine LeO.bind ?_ (fun _ => ?_))
   | exact ih0 _
   | exact LeO.none _
   | refine LeO.ite ?_ ?_
   | refine LeO.bind ?_ (fun _ => ?_)
set_option maxHeartbeats 8000000 in
set_option maxRecDepth 100000 in
theorem corebankref01_CmpP.calls (k : Nat) (a0_0 : Int) (a0_1 : Int) (a1_0 : Int) (a1_1 : Int) (r : Int) (w : World) (h : corebankref01_CmpP.f k a0_0 a0_1 a1_0 a1_1 = some r) :
  Calls Tryd.prog 20 #[.agg #[.int .i64 a0_0, .int .u64 a0_1], .agg #[.int .i64 a1_0, .int .u64 a1_1]] w fun e w' => e = .returned (.int .i64 r) ∧ Below w.heap.size w w' := by
 have hu24 := Tryd.underlying24
 have HB := Aside0.mk (Below.refl w.heap.size w)
 have H : (if (a0_0 == a1_0 && (a0_1 == a1_1)) = true then (some 0) else (if a0_0 < a1_0 then (corebankref01_CmpP.j0 k true) else (if a0_0 = a1_0 then (corebankref01_CmpP.j0 k (decide (a0_1 < a1_1))) else (corebankref01_CmpP.j0 k false)))) = some r := h
 clear h
 by_cases c3 : (a0_0 == a1_0 && (a0_1 == a1_1)) = true
 ·rw [if_pos c3] at H
  have c3b0 : (a0_0 == a1_0 && (a0_1 == a1_1)) = true := c3
  (try (have c3b1 : decide (a0_0 = a1_0 && (a0_1 == a1_1)) = true := by simpa using c3))
  (try (have c3b2 : (a0_0 == a1_0 && (a0_1 == a1_1)) = true := by simpa using c3))
  clear c3
  obtain rfl := Option.some.inj H
  go_enter Tryd.func20, Tryd.ntmps20
  go_wp2_with (first | ((with_reducible refine gate_dst (N := 2) rfl ?_); refine be_ (N := 2) (cs := #[.int .i64 a0_0, .int .u64 a0_1]) (t := 24) ?_; intro gb415 hg w4 hbox hb; have n0_ := Aside0.mk (below_step (qb_ HB.out) hb); have n1_ := Aside0.mk (hbox); have n2_ := Aside0.mk (bz_ hg (qb_ HB.out) : w.heap.size ≤ gb415); have n3_ := n2_; clear HB; have HB := n0_; have BK415 := n1_; have GW415 := n2_; have GE415 := n3_; clear n0_ n1_ n2_ n3_; clear hb hbox hg) | ((with_reducible refine gate_dst (N := 3) rfl ?_); refine be_ (N := 3) (cs := #[.int .i64 a1_0, .int .u64 a1_1]) (t := 24) ?_; intro gb416 hg w5 hbox hb; have n0_ := Aside0.mk (blk_below (qk_ BK415.out) hb); have n1_ := Aside0.mk (below_step (qb1_ GE415.out HB.out) hb); have n2_ := Aside0.mk (hbox); have n3_ := Aside0.mk (bz_ hg (qb1_ GE415.out HB.out) : w.heap.size ≤ gb416); have n4_ := n3_; have n5_ := Aside0.mk (nl_ hg (qk_ BK415.out) : gb415 ≠ gb416); have n6_ := Aside0.mk (ng_ hg (qk_ BK415.out) : gb416 ≠ gb415); clear BK415; clear HB; have BK415 := n0_; have HB := n1_; have BK416 := n2_; have GW416 := n3_; have GE416 := n4_; have NB415_416 := n5_; have NB416_415 := n6_; clear n0_ n1_ n2_ n3_ n4_ n5_ n6_; clear hb hbox hg; have hnb6 := NB415_416.out; have hnc6 := NB416_415.out; have hcz7_0 : w5.cell? ⟨gb415, 0, none⟩ = some (.int .i64 a0_0) := (blk_cell BK415.out 0).trans rfl; have hcz7_1 : w5.cell? ⟨gb415, 1, none⟩ = some (.int .u64 a0_1) := (blk_cell BK415.out 1).trans rfl; have hfz7_0 := blk_frozen BK415.out 0; have hfz7_1 := blk_frozen BK415.out 1; have hcz8_0 : w5.cell? ⟨gb416, 0, none⟩ = some (.int .i64 a1_0) := (blk_cell BK416.out 0).trans rfl; have hcz8_1 : w5.cell? ⟨gb416, 1, none⟩ = some (.int .u64 a1_1) := (blk_cell BK416.out 1).trans rfl; have hfz8_0 := blk_frozen BK416.out 0; have hfz8_1 := blk_frozen BK416.out 1))
  go_ret
  exact ⟨qe_, qb2_ GE415.out GE416.out HB.out⟩
 ·rw [if_neg c3] at H
  have c3b0 : (a0_0 == a1_0 && (a0_1 == a1_1)) = false := by simpa using c3
  (try (have c3b1 : decide (a0_0 = a1_0 && (a0_1 == a1_1)) = false := by simpa using c3))
  (try (have c3b2 : (a0_0 == a1_0 && (a0_1 == a1_1)) = false := by simpa using c3))
  (try (have c3b3 : ¬ (a0_0 = a1_0 && (a0_1 == a1_1)) := by simpa using c3))
  clear c3
  have HC9 := Aside0.mk H
  clear H
  go_enter Tryd.func20, Tryd.ntmps20
  go_upto_region 3 with (first | ((with_reducible refine gate_dst (N := 2) rfl ?_); refine be_ (N := 2) (cs := #[.int .i64 a0_0, .int .u64 a0_1]) (t := 24) ?_; intro gb415 hg w10 hbox hb; have n0_ := Aside0.mk (below_step (qb_ HB.out) hb); have n1_ := Aside0.mk (hbox); have n2_ := Aside0.mk (bz_ hg (qb_ HB.out) : w.heap.size ≤ gb415); have n3_ := n2_; clear HB; have HB := n0_; have BK415 := n1_; have GW415 := n2_; have GE415 := n3_; clear n0_ n1_ n2_ n3_; clear hb hbox hg) | ((with_reducible refine gate_dst (N := 3) rfl ?_); refine be_ (N := 3) (cs := #[.int .i64 a1_0, .int .u64 a1_1]) (t := 24) ?_; intro gb416 hg w11 hbox hb; have n0_ := Aside0.mk (blk_below (qk_ BK415.out) hb); have n1_ := Aside0.mk (below_step (qb1_ GE415.out HB.out) hb); have n2_ := Aside0.mk (hbox); have n3_ := Aside0.mk (bz_ hg (qb1_ GE415.out HB.out) : w.heap.size ≤ gb416); have n4_ := n3_; have n5_ := Aside0.mk (nl_ hg (qk_ BK415.out) : gb415 ≠ gb416); have n6_ := Aside0.mk (ng_ hg (qk_ BK415.out) : gb416 ≠ gb415); clear BK415; clear HB; have BK415 := n0_; have HB := n1_; have BK416 := n2_; have GW416 := n3_; have GE416 := n4_; have NB415_416 := n5_; have NB416_415 := n6_; clear n0_ n1_ n2_ n3_ n4_ n5_ n6_; clear hb hbox hg; have hnb12 := NB415_416.out; have hnc12 := NB416_415.out; have hcz13_0 : w11.cell? ⟨gb415, 0, none⟩ = some (.int .i64 a0_0) := (blk_cell BK415.out 0).trans rfl; have hcz13_1 : w11.cell? ⟨gb415, 1, none⟩ = some (.int .u64 a0_1) := (blk_cell BK415.out 1).trans rfl; have hfz13_0 := blk_frozen BK415.out 0; have hfz13_1 := blk_frozen BK415.out 1; have hcz14_0 : w11.cell? ⟨gb416, 0, none⟩ = some (.int .i64 a1_0) := (blk_cell BK416.out 0).trans rfl; have hcz14_1 : w11.cell? ⟨gb416, 1, none⟩ = some (.int .u64 a1_1) := (blk_cell BK416.out 1).trans rfl; have hfz14_0 := blk_frozen BK416.out 0; have hfz14_1 := blk_frozen BK416.out 1))
  (try simp only [Act.put, List.setIfInBounds_toArray, List.set_cons_zero, List.set_cons_succ])
  go_cut [9] (fun v9 wc => ∃ (kq : Nat) (x9_8 : Bool), v9 = .bool x9_8 ∧ Aside0 (corebankref01_CmpP.j0 kq x9_8 = some r) ∧ Aside0 (kq ≤ k) ∧ Aside0 (wc.heap[gb415]? = some (.cells #[.int .i64 a0_0, .int .u64 a0_1] 24 (0, 0))) ∧ Aside0 (wc.heap[gb416]? = some (.cells #[.int .i64 a1_0, .int .u64 a1_1] 24 (0, 0))) ∧ Aside0 (Below w.heap.size w wc))
  case first =>
   have H := HC9.out
   clear HC9
   by_cases c15 : a0_0 < a1_0
   ·rw [if_pos c15] at H
    have c15b0 : decide (a0_0 < a1_0) = true := decide_eq_true c15
    clear c15
    (first | rw [c15b0] | (simp only [i64_w, i32_w]; rw [c15b0]) | skip)
    have H' := Aside0.mk H
    clear H
    have hnb16 := NB415_416.out
    have hnc16 := NB416_415.out
    have hcz17_0 : w11.cell? ⟨gb415, 0, none⟩ = some (.int .i64 a0_0) := (blk_cell BK415.out 0).trans rfl
    have hcz17_1 : w11.cell? ⟨gb415, 1, none⟩ = some (.int .u64 a0_1) := (blk_cell BK415.out 1).trans rfl
    have hfz17_0 := blk_frozen BK415.out 0
    have hfz17_1 := blk_frozen BK415.out 1
    have hcz18_0 : w11.cell? ⟨gb416, 0, none⟩ = some (.int .i64 a1_0) := (blk_cell BK416.out 0).trans rfl
    have hcz18_1 : w11.cell? ⟨gb416, 1, none⟩ = some (.int .u64 a1_1) := (blk_cell BK416.out 1).trans rfl
    have hfz18_0 := blk_frozen BK416.out 0
    have hfz18_1 := blk_frozen BK416.out 1
    go_wp2
    go_meet
    case rel => exact ⟨_, (true), qs_, H', ⟨qo_⟩, ⟨qk_ BK415.out⟩, ⟨qk_ BK416.out⟩, ⟨qb2_ GE415.out GE416.out HB.out⟩⟩
   ·rw [if_neg c15] at H
    have c15b0 : decide (a0_0 < a1_0) = false := decide_eq_false c15
    clear c15
    (first | rw [c15b0] | (simp only [i64_w, i32_w]; rw [c15b0]) | skip)
    by_cases c19 : a0_0 = a1_0
    ·rw [if_pos c19] at H
     have c19b0 : (a0_0 == a1_0) = true := beq_iff_eq.mpr c19
     have c19b1 : (a0_0 != a1_0) = false := bne_eq_false_iff_eq.mpr c19
     clear c19
     have H' := Aside0.mk H
     clear H
     have hnb20 := NB415_416.out
     have hnc20 := NB416_415.out
     have hcz21_0 : w11.cell? ⟨gb415, 0, none⟩ = some (.int .i64 a0_0) := (blk_cell BK415.out 0).trans rfl
     have hcz21_1 : w11.cell? ⟨gb415, 1, none⟩ = some (.int .u64 a0_1) := (blk_cell BK415.out 1).trans rfl
     have hfz21_0 := blk_frozen BK415.out 0
     have hfz21_1 := blk_frozen BK415.out 1
     have hcz22_0 : w11.cell? ⟨gb416, 0, none⟩ = some (.int .i64 a1_0) := (blk_cell BK416.out 0).trans rfl
     have hcz22_1 : w11.cell? ⟨gb416, 1, none⟩ = some (.int .u64 a1_1) := (blk_cell BK416.out 1).trans rfl
     have hfz22_0 := blk_frozen BK416.out 0
     have hfz22_1 := blk_frozen BK416.out 1
     go_wp2
     go_meet
     case rel => exact ⟨_, (decide (a0_1 < a1_1)), qs_, H', ⟨qo_⟩, ⟨qk_ BK415.out⟩, ⟨qk_ BK416.out⟩, ⟨qb2_ GE415.out GE416.out HB.out⟩⟩
    ·rw [if_neg c19] at H
     have c19b0 : (a0_0 == a1_0) = false := beq_eq_false_iff_ne.mpr c19
     have c19b1 : (a0_0 != a1_0) = true := bne_iff_ne.mpr c19
     have H' := Aside0.mk H
     clear H
     have hnb23 := NB415_416.out
     have hnc23 := NB416_415.out
     have hcz24_0 : w11.cell? ⟨gb415, 0, none⟩ = some (.int .i64 a0_0) := (blk_cell BK415.out 0).trans rfl
     have hcz24_1 : w11.cell? ⟨gb415, 1, none⟩ = some (.int .u64 a0_1) := (blk_cell BK415.out 1).trans rfl
     have hfz24_0 := blk_frozen BK415.out 0
     have hfz24_1 := blk_frozen BK415.out 1
     have hcz25_0 : w11.cell? ⟨gb416, 0, none⟩ = some (.int .i64 a1_0) := (blk_cell BK416.out 0).trans rfl
     have hcz25_1 : w11.cell? ⟨gb416, 1, none⟩ = some (.int .u64 a1_1) := (blk_cell BK416.out 1).trans rfl
     have hfz25_0 := blk_frozen BK416.out 0
     have hfz25_1 := blk_frozen BK416.out 1
     go_wp2
     go_meet
     case rel => exact ⟨_, (false), qs_, H', ⟨qo_⟩, ⟨qk_ BK415.out⟩, ⟨qk_ BK416.out⟩, ⟨qb2_ GE415.out GE416.out HB.out⟩⟩
  case rest =>
   clear HC9
   try clear c1
   try clear c2
   try clear p2
   try clear c3
   try clear c3b0
   try clear c3b1
   try clear c3b2
   try clear c6
   try clear c12
   try clear c15
   try clear c15b0
   try clear c16
   try clear c19
   try clear c19b0
   try clear c19b1
   try clear c20
   try clear c23
   try clear hcz13_0
   try clear hcz13_1
   try clear hcz14_0
   try clear hcz14_1
   try clear hcz17_0
   try clear hcz17_1
   try clear hcz18_0
   try clear hcz18_1
   try clear hcz21_0
   try clear hcz21_1
   try clear hcz22_0
   try clear hcz22_1
   try clear hcz24_0
   try clear hcz24_1
   try clear hcz25_0
   try clear hcz25_1
   try clear hcz7_0
   try clear hcz7_1
   try clear hcz8_0
   try clear hcz8_1
   try clear hfz13_0
   try clear hfz13_1
   try clear hfz14_0
   try clear hfz14_1
   try clear hfz17_0
   try clear hfz17_1
   try clear hfz18_0
   try clear hfz18_1
   try clear hfz21_0
   try clear hfz21_1
   try clear hfz22_0
   try clear hfz22_1
   try clear hfz24_0
   try clear hfz24_1
   try clear hfz25_0
   try clear hfz25_1
   try clear hfz7_0
   try clear hfz7_1
   try clear hfz8_0
   try clear hfz8_1
   obtain ⟨kq, x9_8, rfl, HA, HJ8, BK415, BK416, HB⟩ := hcut
   cases kq with
   | zero => exact absurd HA.out (by simp [corebankref01_CmpP.j0])
   | succ kj8 =>
    have H := HA.out
    clear HA
    simp only [corebankref01_CmpP.j0] at H
    by_cases c26 : x9_8 = true
    ·subst c26
     have H1 : (some (-1)) = some r := by rw [if_pos rfl] at H; exact H
     clear H
     have H := H1
     clear H1
     obtain rfl := Option.some.inj H
     go_wp2
     go_ret
     exact ⟨qe_, qb2_ GE415.out GE416.out HB.out⟩
    ·replace c26 := Bool.eq_false_iff.mpr c26
     subst c26
     have H1 : (some 1) = some r := by rw [if_neg (show ¬ (false = true) by decide)] at H; exact H
     clear H
     have H := H1
     clear H1
     obtain rfl := Option.some.inj H
     go_wp2
     go_ret
     exact ⟨qe_, qb2_ GE415.out GE416.out HB.out⟩
def cmpR (x y : Int) : Int := if x < y then -1 else if x = y then 0 else 1
def corebankref01_Cmp.f (a0_0 a0_1 a1_0 a1_1 : Int) : Option Int := if isW a0_0 a0_1 ∧ isW a1_0 a1_1 then some (cmpR (wv a0_0 a0_1) (wv a1_0 a1_1)) else none
theorem corebankref01_Cmp.eq {a b c d : Int} {r : Int} (h : corebankref01_Cmp.f a b c d = some r) : ∃ k, corebankref01_CmpP.f k a b c d = some r := by
 unfold corebankref01_Cmp.f at h
 split at h
 ·rename_i q
  obtain ⟨⟨⟨a0, a1⟩, b0, b1⟩, ⟨c0, c1⟩, d0, d1⟩ := q
  injection h with h
  subst h
  refine ⟨1, ?_⟩
  unfold corebankref01_CmpP.f cmpR wv
  simp only [corebankref01_CmpP.j0]
  by_cases h1 : a = c
  ·subst h1
   by_cases h2 : b = d
   ·subst h2
    simp
   ·have e : (a == a && b == d) = false := by simp [h2]
    rw [e, if_neg (by decide), if_neg (by omega), if_pos rfl]
    by_cases h3 : b < d
    ·rw [decide_eq_true h3, if_pos rfl, if_pos (by omega)]
    ·rw [decide_eq_false h3, if_neg (by decide), if_neg (by omega), if_neg (by omega)]
  ·have e : (a == c && b == d) = false := by simp [h1]
   rw [e, if_neg (by decide)]
   by_cases h3 : a < c
   ·rw [if_pos h3, if_pos trivial, if_pos (by omega)]
   ·rw [if_neg h3, if_neg h1, if_neg (by decide), if_neg (by omega), if_neg (by omega)]
 ·cases h
theorem corebankref01_Cmp.calls (a0_0 : Int) (a0_1 : Int) (a1_0 : Int) (a1_1 : Int) (r : Int) (w : World) (h : corebankref01_Cmp.f a0_0 a0_1 a1_0 a1_1 = some r) :
  Calls Tryd.prog 20 #[.agg #[.int .i64 a0_0, .int .u64 a0_1], .agg #[.int .i64 a1_0, .int .u64 a1_1]] w fun e w' => e = .returned (.int .i64 r) ∧ Below w.heap.size w w' := by
 obtain ⟨k, h⟩ := corebankref01_Cmp.eq h
 exact corebankref01_CmpP.calls k a0_0 a0_1 a1_0 a1_1 r w h
end Go.Proofs.YtkdhippoibjfkaaDoor.PR
