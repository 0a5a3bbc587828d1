import Derived.Test.YtogcdcjbleafdaaDoorQRm2
import Derived.Test.YtogcdcjbleafdaaDoorQRm3
section
namespace Go.Proofs.YtogcdcjbleafdaaDoor.PS
open Go.RowKit Go.Proofs.YtogcdcjbleafdaaDoorW.PrintWords Go.Proofs.YtogcdcjbleafdaaDoorW.PrintLast Go.Proofs.YtogcdcjbleafdaaDoorW.PrintMore
attribute [local go_sem] max2_int min2_int max_two min_two
set_option linter.unusedVariables false
set_option linter.unusedSimpArgs false
def loan_sums.l0 : Nat → Int → Int → List (S67) → Int → Int → Option (Int × Int)
 | 0, _, _, _, _, _ => none
 | k + 1, x4, x5, x8, x9, x10 => if x10 < x9 then (if 0 ≤ x10 then (if x10 < (x8.length : Int) then (loan_sums.l0 k (wrap64 (x4 + ((rd_T67 x8 x10).f2))) (wrap64 (x5 + ((rd_T67 x8 x10).f3))) x8 x9 (wrap64 (x10 + 1))) else (none)) else (none)) else (some (x4, x5))
def loan_sums.f (k : Nat) (l0 : List (S67)) : Option (Int × Int) := loan_sums.l0 k 0 0 l0 (l0.length : Int) 0
theorem loan_sums.mono_l : ∀ k, (∀ y0 y1 y2 y3 y4, LeO (loan_sums.l0 k y0 y1 y2 y3 y4) (loan_sums.l0 (k + 1) y0 y1 y2 y3 y4))
 | 0 => fun _ _ _ _ _ r h => by simp [loan_sums.l0] at h
 | k + 1 => by
  have ih0 := loan_sums.mono_l k
  ·intro y0 y1 y2 y3 y4
   unfold loan_sums.l0
   repeat' first
   | (with_reducible apply ih0)
   | (with_reducible exact LeO.refl _)
   | (with_reducible exact LeO.none _)
   | (with_reducible refine LeO.ite ?_ ?_)
   | (with_reducible refine LeO.bind ?_ (fun _ => ?_))
   | apply ih0
   | exact LeO.none _
   | refine LeO.ite ?_ ?_
   | refine LeO.bind ?_ (fun _ => ?_)
theorem loan_sums.mono : ∀ a0 k, LeO (loan_sums.f k a0) (loan_sums.f (k + 1) a0) := by
 intro a0 k
 have ih0 := loan_sums.mono_l k
 unfold loan_sums.f
 repeat' first
   | (with_reducible apply ih0)
   | (with_reducible exact LeO.refl _)
   | (with_reducible exact LeO.none _)
   | (with_reducible refine LeO.ite ?_ ?_)
   | (with_reducible refine LeO.bind ?_ (fun _ => ?_))
   | apply ih0
   | exact LeO.none _
   | refine LeO.ite ?_ ?_
   | refine LeO.bind ?_ (fun _ => ?_)
set_option maxHeartbeats 8000000 in
set_option maxRecDepth 100000 in
theorem loan_sums.calls (k : Nat) (A0 : Option Addr) (c0 : Nat) (l0 : List (S67)) (r1 r2 : Int) (w : World) (hr0 : Kd.C k67 w A0 l0.length l0) (hc0 : l0.length ≤ c0) (h : loan_sums.f k l0 = some (r1, r2)) :
  Calls Tryd.prog 40 #[.slice A0 l0.length c0] w fun e w' => e = .returned (.tuple #[.int .i64 r1, .int .i64 r2]) ∧ Below w.heap.size w w' := by
 have hu67 := Tryd.underlying67
 have HR0 := am_ hr0
 have HC0 := am_ hc0
 clear hr0 hc0
 have HB := am_ (Below.refl w.heap.size w)
 have H := h
 clear h
 unfold loan_sums.f at H
 have H' := am_ H
 clear H
 go_enter Tryd.func40, Tryd.ntmps40
 go_wp2
 go_loopg [4, 5, 10] k (fun kq v4 v5 v10 w' => ∃ (x4_1 x5_1 x10_1 : Int), v4 = .int .i64 x4_1 ∧ v5 = .int .i64 x5_1 ∧ v10 = .int .i64 x10_1 ∧ Aside0 (loan_sums.l0 kq x4_1 x5_1 l0 (l0.length : Int) x10_1 = some (r1, r2)) ∧ Aside0 (kq ≤ k) ∧ Aside0 (Below w.heap.size w w'))
 case atStart => exact ⟨(0), (0), (0), qs_, qs_, qs_, H', ⟨Nat.le_refl _⟩, ⟨qb_ HB.out⟩⟩
 case round =>
  clear H'
  obtain ⟨x4_1, x5_1, x10_1, rfl, rfl, rfl, HA, HK1, HB⟩ := hrel
  cases gk with
  | zero => exact absurd HA.out (by simp [loan_sums.l0])
  | succ k1 =>
   have H := HA.out
   clear HA
   simp only [loan_sums.l0] at H
   by_cases c2 : x10_1 < (l0.length : Int)
   ·rw [if_pos c2] at H
    have c2b0 : decide (x10_1 < (l0.length : Int)) = true := decide_eq_true c2
    clear c2
    by_cases c3 : 0 ≤ x10_1
    ·rw [if_pos c3] at H
     have c3b0 : decide (0 ≤ x10_1) = true := decide_eq_true c3
     clear c3
     by_cases c4 : x10_1 < (l0.length : Int)
     ·rw [if_pos c4] at H
      have c4b0 : decide (x10_1 < (l0.length : Int)) = true := decide_eq_true c4
      clear c4
      have H' := am_ H
      clear H
      have p121 : 0 ≤ (x10_1 : Int) := of_decide_eq_true (by first | (with_reducible assumption) | assumption)
      have q121 : x10_1 < (l0.length : Int) := of_decide_eq_true (by first | (with_reducible assumption) | assumption)
      obtain ⟨ad121, e121, hx121_0, hx121_1, hx121_2, hx121_3⟩ := at_T67 HR0.out x10_1 p121 q121
      cases e121
      replace hx121_0 := bx_ HB.out hx121_0
      replace hx121_1 := bx_ HB.out hx121_1
      replace hx121_2 := bx_ HB.out hx121_2
      replace hx121_3 := bx_ HB.out hx121_3
      replace p121 := eq_true p121
      replace q121 := eq_true q121
      go_wp2_with (first | ((with_reducible refine gate_dst (N := 7) rfl ?_); refine be_ (N := 7) (cs := #[.int .i64 0, .int .i64 0, .int .i64 0, .int .i64 0]) (t := 67) ?_; intro gb122 hg w5 hbox hb; have BK122 := am_ (hbox); have GE122 := am_ (bz_ hg (qb_ HB.out) : w.heap.size ≤ gb122); replace HB := am_ (below_step (qb_ HB.out) hb); clear hb hbox hg; obtain ⟨Z6_0, Z6_1, Z6_2, Z6_3, Y6_0, Y6_1, Y6_2, Y6_3⟩ := cz4_ BK122.out))
      go_roundg k1
      case measure => have := HK1.out; omega
      case rel => exact ⟨(wrap64 (x4_1 + ((rd_T67 l0 x10_1).f2))), (wrap64 (x5_1 + ((rd_T67 l0 x10_1).f3))), (wrap64 (x10_1 + 1)), qs_, qs_, qs_, H', ⟨by have := HK1.out; omega⟩, ⟨qb1_ GE122.out HB.out⟩⟩
     ·rw [if_neg c4] at H
      exact absurd H (by simp)
    ·rw [if_neg c3] at H
     exact absurd H (by simp)
   ·rw [if_neg c2] at H
    have c2b0 : decide (x10_1 < (l0.length : Int)) = false := decide_eq_false c2
    clear c2
    simp only [Option.some.injEq, Prod.mk.injEq] at H
    obtain ⟨rfl, rfl⟩ := H
    go_wp2
    go_ret2
    exact ⟨qe_, qb_ HB.out⟩
def loan_left.f (k : Nat) (a0_0 a0_1 a0_2 a0_3 a0_4 a0_5 a0_6 a0_7 a0_8 a0_9 a0_10 a0_11 a0_12 a0_13 a0_14 a0_15 a0_16 a0_17 a0_18 a0_19 a0_20 : Int) (a0_21 a0_22 : ByteArray) (l0_23 : List (S67)) (l0_24 : List (S70)) : Option (Bool) := (loan_sums.f k l0_23).bind fun bt124 => (if a0_3 = bt124.1 then (if a0_4 = bt124.2 then (if a0_5 = 0 then (some (a0_6 != 0)) else (some true)) else (some true)) else (some true))
theorem loan_left.mono : ∀ a0 a1 a2 a3 a4 a5 a6 a7 a8 a9 a10 a11 a12 a13 a14 a15 a16 a17 a18 a19 a20 a21 a22 a23 a24 k, LeO (loan_left.f k a0 a1 a2 a3 a4 a5 a6 a7 a8 a9 a10 a11 a12 a13 a14 a15 a16 a17 a18 a19 a20 a21 a22 a23 a24) (loan_left.f (k + 1) a0 a1 a2 a3 a4 a5 a6 a7 a8 a9 a10 a11 a12 a13 a14 a15 a16 a17 a18 a19 a20 a21 a22 a23 a24) := by
 intro a0 a1 a2 a3 a4 a5 a6 a7 a8 a9 a10 a11 a12 a13 a14 a15 a16 a17 a18 a19 a20 a21 a22 a23 a24 k
 unfold loan_left.f
 repeat' first
   | (with_reducible exact loan_sums.mono _ _)
   | (with_reducible exact LeO.refl _)
   | (with_reducible exact LeO.none _)
   | (with_reducible refine LeO.ite ?_ ?_)
   | (with_reducible refine LeO.bind ?_ (fun _ => ?_))
   | exact loan_sums.mono _ _
   | exact LeO.none _
   | refine LeO.ite ?_ ?_
   | refine LeO.bind ?_ (fun _ => ?_)
set_option maxHeartbeats 8000000 in
set_option maxRecDepth 100000 in
theorem loan_left.calls (k : Nat) (a0_0 a0_1 a0_2 a0_3 a0_4 a0_5 a0_6 a0_7 a0_8 a0_9 a0_10 a0_11 a0_12 a0_13 a0_14 a0_15 a0_16 a0_17 a0_18 a0_19 a0_20 : Int) (a0_21 a0_22 : ByteArray) (A0_23 : Option Addr) (c0_23 : Nat) (l0_23 : List (S67)) (A0_24 : Option Addr) (c0_24 : Nat) (l0_24 : List (S70)) (r : Bool) (w : World) (hr0_23 : Kd.C k67 w A0_23 l0_23.length l0_23) (hc0_23 : l0_23.length ≤ c0_23) (hr0_24 : Kd.C k70 w A0_24 l0_24.length l0_24) (hc0_24 : l0_24.length ≤ c0_24) (h : loan_left.f k a0_0 a0_1 a0_2 a0_3 a0_4 a0_5 a0_6 a0_7 a0_8 a0_9 a0_10 a0_11 a0_12 a0_13 a0_14 a0_15 a0_16 a0_17 a0_18 a0_19 a0_20 a0_21 a0_22 l0_23 l0_24 = some r) :
  Calls Tryd.prog 41 #[.agg #[.int .i64 a0_0, .int .i64 a0_1, .int .i64 a0_2, .int .i64 a0_3, .int .i64 a0_4, .int .i64 a0_5, .int .i64 a0_6, .int .i64 a0_7, .int .i64 a0_8, .int .i64 a0_9, .int .i64 a0_10, .int .i64 a0_11, .int .i64 a0_12, .int .i64 a0_13, .int .i64 a0_14, .int .i64 a0_15, .int .i64 a0_16, .int .i64 a0_17, .int .i64 a0_18, .int .i64 a0_19, .int .i64 a0_20, .string a0_21, .string a0_22, .slice A0_23 l0_23.length c0_23, .slice A0_24 l0_24.length c0_24]] w fun e w' => e = .returned (.bool r) ∧ Below w.heap.size w w' := by
 have hu27 := Tryd.underlying27
 have HR0_23 := am_ hr0_23
 have HC0_23 := am_ hc0_23
 clear hr0_23 hc0_23
 have HR0_24 := am_ hr0_24
 have HC0_24 := am_ hc0_24
 clear hr0_24 hc0_24
 have HB := am_ (Below.refl w.heap.size w)
 have H := h
 clear h
 unfold loan_left.f at H
 replace H := Option.bind_eq_some_iff.mp H
 obtain ⟨⟨t124, t125⟩, A20, H⟩ := H
 (try dsimp only at H)
 have A2 := am_ A20
 clear A20
 by_cases c3 : a0_3 = t124
 ·rw [if_pos c3] at H
  have c3b0 : (a0_3 == t124) = true := beq_iff_eq.mpr c3
  have c3b1 : (a0_3 != t124) = false := bne_eq_false_iff_eq.mpr c3
  clear c3
  by_cases c4 : a0_4 = t125
  ·rw [if_pos c4] at H
   have c4b0 : (a0_4 == t125) = true := beq_iff_eq.mpr c4
   have c4b1 : (a0_4 != t125) = false := bne_eq_false_iff_eq.mpr c4
   clear c4
   by_cases c5 : a0_5 = 0
   ·rw [if_pos c5] at H
    have c5b0 : (a0_5 == 0) = true := beq_iff_eq.mpr c5
    have c5b1 : (a0_5 != 0) = false := bne_eq_false_iff_eq.mpr c5
    clear c5
    obtain rfl := Option.some.inj H
    go_enter Tryd.func41, Tryd.ntmps41
    go_wp2_with (first | ((with_reducible refine gate_load_ (t := 27) rfl ?_); refine ld_ (t := 27) Tryd.underlying27 rfl rfl rfl (qd_ BK123.out) rfl (by kernel_rfl) ?_) | ((with_reducible refine gate_load_ (t := 27) rfl ?_); refine ldgA_ (t := 27) Tryd.underlying27 rfl (by rfl) rfl (qd_ BK123.out) rfl (by kernel_rfl) ?_) | ((with_reducible refine gate_dst (N := 1) rfl ?_); refine be_ (N := 1) (cs := #[.int .i64 a0_0, .int .i64 a0_1, .int .i64 a0_2, .int .i64 a0_3, .int .i64 a0_4, .int .i64 a0_5, .int .i64 a0_6, .int .i64 a0_7, .int .i64 a0_8, .int .i64 a0_9, .int .i64 a0_10, .int .i64 a0_11, .int .i64 a0_12, .int .i64 a0_13, .int .i64 a0_14, .int .i64 a0_15, .int .i64 a0_16, .int .i64 a0_17, .int .i64 a0_18, .int .i64 a0_19, .int .i64 a0_20, .string a0_21, .string a0_22, .slice A0_23 l0_23.length c0_23, .slice A0_24 l0_24.length c0_24]) (t := 27) ?_; intro gb123 hg w6 hbox hb; have BK123 := am_ (hbox); have GE123 := am_ (bz_ hg (qb_ HB.out) : w.heap.size ≤ gb123); replace HB := am_ (below_step (qb_ HB.out) hb); clear hb hbox hg; obtain ⟨Z7_0, Z7_1, Z7_2, Z7_3, Z7_4, Z7_5, Z7_6, Z7_7, Z7_8, Z7_9, Z7_10, Z7_11, Z7_12, Z7_13, Z7_14, Z7_15, Z7_16, Z7_17, Z7_18, Z7_19, Z7_20, Z7_21, Z7_22, Z7_23, Z7_24, Y7_0, Y7_1, Y7_2, Y7_3, Y7_4, Y7_5, Y7_6, Y7_7, Y7_8, Y7_9, Y7_10, Y7_11, Y7_12, Y7_13, Y7_14, Y7_15, Y7_16, Y7_17, Y7_18, Y7_19, Y7_20, Y7_21, Y7_22, Y7_23, Y7_24⟩ := cz25_ BK123.out) | ((with_reducible refine gate_callee (f := 40) rfl ?_); refine goesL_ (some 8) rfl rfl Tryd.func40 (by kernel_rfl) rfl #[.slice A0_23 l0_23.length c0_23] rfl ql_ ?_; (with_reducible refine (loan_sums.calls k _ _ l0_23 t124 t125 _ ?side1 ?side2 A2.out).mono ?_); (case side1 => repeat (first | exact (Kd.C_below HR0_23.out HB.out) | (with_reducible refine Kd.C_alloc ?_ _) | (with_reducible refine Kd.C_drewN ?_ _) | (with_reducible refine Kd.C_drew ?_))); (case side2 => exact HC0_23.out); rintro e w8 ⟨rfl, hb⟩; refine ⟨_, rfl, ?_⟩; replace BK123 := am_ (blk_below (qk_ BK123.out) hb); replace HB := am_ (below_step (qb1_ GE123.out HB.out) hb); (try clear hb); obtain ⟨Z9_0, Z9_1, Z9_2, Z9_3, Z9_4, Z9_5, Z9_6, Z9_7, Z9_8, Z9_9, Z9_10, Z9_11, Z9_12, Z9_13, Z9_14, Z9_15, Z9_16, Z9_17, Z9_18, Z9_19, Z9_20, Z9_21, Z9_22, Z9_23, Z9_24, Y9_0, Y9_1, Y9_2, Y9_3, Y9_4, Y9_5, Y9_6, Y9_7, Y9_8, Y9_9, Y9_10, Y9_11, Y9_12, Y9_13, Y9_14, Y9_15, Y9_16, Y9_17, Y9_18, Y9_19, Y9_20, Y9_21, Y9_22, Y9_23, Y9_24⟩ := cz25_ BK123.out))
    go_ret
    exact ⟨qe_, qb1_ GE123.out HB.out⟩
   ·rw [if_neg c5] at H
    have c5b0 : (a0_5 == 0) = false := beq_eq_false_iff_ne.mpr c5
    have c5b1 : (a0_5 != 0) = true := bne_iff_ne.mpr c5
    obtain rfl := Option.some.inj H
    go_enter Tryd.func41, Tryd.ntmps41
    go_wp2_with (first | ((with_reducible refine gate_load_ (t := 27) rfl ?_); refine ld_ (t := 27) Tryd.underlying27 rfl rfl rfl (qd_ BK123.out) rfl (by kernel_rfl) ?_) | ((with_reducible refine gate_load_ (t := 27) rfl ?_); refine ldgA_ (t := 27) Tryd.underlying27 rfl (by rfl) rfl (qd_ BK123.out) rfl (by kernel_rfl) ?_) | ((with_reducible refine gate_dst (N := 1) rfl ?_); refine be_ (N := 1) (cs := #[.int .i64 a0_0, .int .i64 a0_1, .int .i64 a0_2, .int .i64 a0_3, .int .i64 a0_4, .int .i64 a0_5, .int .i64 a0_6, .int .i64 a0_7, .int .i64 a0_8, .int .i64 a0_9, .int .i64 a0_10, .int .i64 a0_11, .int .i64 a0_12, .int .i64 a0_13, .int .i64 a0_14, .int .i64 a0_15, .int .i64 a0_16, .int .i64 a0_17, .int .i64 a0_18, .int .i64 a0_19, .int .i64 a0_20, .string a0_21, .string a0_22, .slice A0_23 l0_23.length c0_23, .slice A0_24 l0_24.length c0_24]) (t := 27) ?_; intro gb123 hg w10 hbox hb; have BK123 := am_ (hbox); have GE123 := am_ (bz_ hg (qb_ HB.out) : w.heap.size ≤ gb123); replace HB := am_ (below_step (qb_ HB.out) hb); clear hb hbox hg; obtain ⟨Z11_0, Z11_1, Z11_2, Z11_3, Z11_4, Z11_5, Z11_6, Z11_7, Z11_8, Z11_9, Z11_10, Z11_11, Z11_12, Z11_13, Z11_14, Z11_15, Z11_16, Z11_17, Z11_18, Z11_19, Z11_20, Z11_21, Z11_22, Z11_23, Z11_24, Y11_0, Y11_1, Y11_2, Y11_3, Y11_4, Y11_5, Y11_6, Y11_7, Y11_8, Y11_9, Y11_10, Y11_11, Y11_12, Y11_13, Y11_14, Y11_15, Y11_16, Y11_17, Y11_18, Y11_19, Y11_20, Y11_21, Y11_22, Y11_23, Y11_24⟩ := cz25_ BK123.out) | ((with_reducible refine gate_callee (f := 40) rfl ?_); refine goesL_ (some 8) rfl rfl Tryd.func40 (by kernel_rfl) rfl #[.slice A0_23 l0_23.length c0_23] rfl ql_ ?_; (with_reducible refine (loan_sums.calls k _ _ l0_23 t124 t125 _ ?side1 ?side2 A2.out).mono ?_); (case side1 => repeat (first | exact (Kd.C_below HR0_23.out HB.out) | (with_reducible refine Kd.C_alloc ?_ _) | (with_reducible refine Kd.C_drewN ?_ _) | (with_reducible refine Kd.C_drew ?_))); (case side2 => exact HC0_23.out); rintro e w12 ⟨rfl, hb⟩; refine ⟨_, rfl, ?_⟩; replace BK123 := am_ (blk_below (qk_ BK123.out) hb); replace HB := am_ (below_step (qb1_ GE123.out HB.out) hb); (try clear hb); obtain ⟨Z13_0, Z13_1, Z13_2, Z13_3, Z13_4, Z13_5, Z13_6, Z13_7, Z13_8, Z13_9, Z13_10, Z13_11, Z13_12, Z13_13, Z13_14, Z13_15, Z13_16, Z13_17, Z13_18, Z13_19, Z13_20, Z13_21, Z13_22, Z13_23, Z13_24, Y13_0, Y13_1, Y13_2, Y13_3, Y13_4, Y13_5, Y13_6, Y13_7, Y13_8, Y13_9, Y13_10, Y13_11, Y13_12, Y13_13, Y13_14, Y13_15, Y13_16, Y13_17, Y13_18, Y13_19, Y13_20, Y13_21, Y13_22, Y13_23, Y13_24⟩ := cz25_ BK123.out))
    go_ret
    exact ⟨qe_, qb1_ GE123.out HB.out⟩
  ·rw [if_neg c4] at H
   have c4b0 : (a0_4 == t125) = false := beq_eq_false_iff_ne.mpr c4
   have c4b1 : (a0_4 != t125) = true := bne_iff_ne.mpr c4
   obtain rfl := Option.some.inj H
   go_enter Tryd.func41, Tryd.ntmps41
   go_wp2_with (first | ((with_reducible refine gate_load_ (t := 27) rfl ?_); refine ld_ (t := 27) Tryd.underlying27 rfl rfl rfl (qd_ BK123.out) rfl (by kernel_rfl) ?_) | ((with_reducible refine gate_load_ (t := 27) rfl ?_); refine ldgA_ (t := 27) Tryd.underlying27 rfl (by rfl) rfl (qd_ BK123.out) rfl (by kernel_rfl) ?_) | ((with_reducible refine gate_dst (N := 1) rfl ?_); refine be_ (N := 1) (cs := #[.int .i64 a0_0, .int .i64 a0_1, .int .i64 a0_2, .int .i64 a0_3, .int .i64 a0_4, .int .i64 a0_5, .int .i64 a0_6, .int .i64 a0_7, .int .i64 a0_8, .int .i64 a0_9, .int .i64 a0_10, .int .i64 a0_11, .int .i64 a0_12, .int .i64 a0_13, .int .i64 a0_14, .int .i64 a0_15, .int .i64 a0_16, .int .i64 a0_17, .int .i64 a0_18, .int .i64 a0_19, .int .i64 a0_20, .string a0_21, .string a0_22, .slice A0_23 l0_23.length c0_23, .slice A0_24 l0_24.length c0_24]) (t := 27) ?_; intro gb123 hg w14 hbox hb; have BK123 := am_ (hbox); have GE123 := am_ (bz_ hg (qb_ HB.out) : w.heap.size ≤ gb123); replace HB := am_ (below_step (qb_ HB.out) hb); clear hb hbox hg; obtain ⟨Z15_0, Z15_1, Z15_2, Z15_3, Z15_4, Z15_5, Z15_6, Z15_7, Z15_8, Z15_9, Z15_10, Z15_11, Z15_12, Z15_13, Z15_14, Z15_15, Z15_16, Z15_17, Z15_18, Z15_19, Z15_20, Z15_21, Z15_22, Z15_23, Z15_24, Y15_0, Y15_1, Y15_2, Y15_3, Y15_4, Y15_5, Y15_6, Y15_7, Y15_8, Y15_9, Y15_10, Y15_11, Y15_12, Y15_13, Y15_14, Y15_15, Y15_16, Y15_17, Y15_18, Y15_19, Y15_20, Y15_21, Y15_22, Y15_23, Y15_24⟩ := cz25_ BK123.out) | ((with_reducible refine gate_callee (f := 40) rfl ?_); refine goesL_ (some 8) rfl rfl Tryd.func40 (by kernel_rfl) rfl #[.slice A0_23 l0_23.length c0_23] rfl ql_ ?_; (with_reducible refine (loan_sums.calls k _ _ l0_23 t124 t125 _ ?side1 ?side2 A2.out).mono ?_); (case side1 => repeat (first | exact (Kd.C_below HR0_23.out HB.out) | (with_reducible refine Kd.C_alloc ?_ _) | (with_reducible refine Kd.C_drewN ?_ _) | (with_reducible refine Kd.C_drew ?_))); (case side2 => exact HC0_23.out); rintro e w16 ⟨rfl, hb⟩; refine ⟨_, rfl, ?_⟩; replace BK123 := am_ (blk_below (qk_ BK123.out) hb); replace HB := am_ (below_step (qb1_ GE123.out HB.out) hb); (try clear hb); obtain ⟨Z17_0, Z17_1, Z17_2, Z17_3, Z17_4, Z17_5, Z17_6, Z17_7, Z17_8, Z17_9, Z17_10, Z17_11, Z17_12, Z17_13, Z17_14, Z17_15, Z17_16, Z17_17, Z17_18, Z17_19, Z17_20, Z17_21, Z17_22, Z17_23, Z17_24, Y17_0, Y17_1, Y17_2, Y17_3, Y17_4, Y17_5, Y17_6, Y17_7, Y17_8, Y17_9, Y17_10, Y17_11, Y17_12, Y17_13, Y17_14, Y17_15, Y17_16, Y17_17, Y17_18, Y17_19, Y17_20, Y17_21, Y17_22, Y17_23, Y17_24⟩ := cz25_ BK123.out))
   go_ret
   exact ⟨qe_, qb1_ GE123.out HB.out⟩
 ·rw [if_neg c3] at H
  have c3b0 : (a0_3 == t124) = false := beq_eq_false_iff_ne.mpr c3
  have c3b1 : (a0_3 != t124) = true := bne_iff_ne.mpr c3
  obtain rfl := Option.some.inj H
  go_enter Tryd.func41, Tryd.ntmps41
  go_wp2_with (first | ((with_reducible refine gate_load_ (t := 27) rfl ?_); refine ld_ (t := 27) Tryd.underlying27 rfl rfl rfl (qd_ BK123.out) rfl (by kernel_rfl) ?_) | ((with_reducible refine gate_load_ (t := 27) rfl ?_); refine ldgA_ (t := 27) Tryd.underlying27 rfl (by rfl) rfl (qd_ BK123.out) rfl (by kernel_rfl) ?_) | ((with_reducible refine gate_dst (N := 1) rfl ?_); refine be_ (N := 1) (cs := #[.int .i64 a0_0, .int .i64 a0_1, .int .i64 a0_2, .int .i64 a0_3, .int .i64 a0_4, .int .i64 a0_5, .int .i64 a0_6, .int .i64 a0_7, .int .i64 a0_8, .int .i64 a0_9, .int .i64 a0_10, .int .i64 a0_11, .int .i64 a0_12, .int .i64 a0_13, .int .i64 a0_14, .int .i64 a0_15, .int .i64 a0_16, .int .i64 a0_17, .int .i64 a0_18, .int .i64 a0_19, .int .i64 a0_20, .string a0_21, .string a0_22, .slice A0_23 l0_23.length c0_23, .slice A0_24 l0_24.length c0_24]) (t := 27) ?_; intro gb123 hg w18 hbox hb; have BK123 := am_ (hbox); have GE123 := am_ (bz_ hg (qb_ HB.out) : w.heap.size ≤ gb123); replace HB := am_ (below_step (qb_ HB.out) hb); clear hb hbox hg; obtain ⟨Z19_0, Z19_1, Z19_2, Z19_3, Z19_4, Z19_5, Z19_6, Z19_7, Z19_8, Z19_9, Z19_10, Z19_11, Z19_12, Z19_13, Z19_14, Z19_15, Z19_16, Z19_17, Z19_18, Z19_19, Z19_20, Z19_21, Z19_22, Z19_23, Z19_24, Y19_0, Y19_1, Y19_2, Y19_3, Y19_4, Y19_5, Y19_6, Y19_7, Y19_8, Y19_9, Y19_10, Y19_11, Y19_12, Y19_13, Y19_14, Y19_15, Y19_16, Y19_17, Y19_18, Y19_19, Y19_20, Y19_21, Y19_22, Y19_23, Y19_24⟩ := cz25_ BK123.out) | ((with_reducible refine gate_callee (f := 40) rfl ?_); refine goesL_ (some 8) rfl rfl Tryd.func40 (by kernel_rfl) rfl #[.slice A0_23 l0_23.length c0_23] rfl ql_ ?_; (with_reducible refine (loan_sums.calls k _ _ l0_23 t124 t125 _ ?side1 ?side2 A2.out).mono ?_); (case side1 => repeat (first | exact (Kd.C_below HR0_23.out HB.out) | (with_reducible refine Kd.C_alloc ?_ _) | (with_reducible refine Kd.C_drewN ?_ _) | (with_reducible refine Kd.C_drew ?_))); (case side2 => exact HC0_23.out); rintro e w20 ⟨rfl, hb⟩; refine ⟨_, rfl, ?_⟩; replace BK123 := am_ (blk_below (qk_ BK123.out) hb); replace HB := am_ (below_step (qb1_ GE123.out HB.out) hb); (try clear hb); obtain ⟨Z21_0, Z21_1, Z21_2, Z21_3, Z21_4, Z21_5, Z21_6, Z21_7, Z21_8, Z21_9, Z21_10, Z21_11, Z21_12, Z21_13, Z21_14, Z21_15, Z21_16, Z21_17, Z21_18, Z21_19, Z21_20, Z21_21, Z21_22, Z21_23, Z21_24, Y21_0, Y21_1, Y21_2, Y21_3, Y21_4, Y21_5, Y21_6, Y21_7, Y21_8, Y21_9, Y21_10, Y21_11, Y21_12, Y21_13, Y21_14, Y21_15, Y21_16, Y21_17, Y21_18, Y21_19, Y21_20, Y21_21, Y21_22, Y21_23, Y21_24⟩ := cz25_ BK123.out))
  go_ret
  exact ⟨qe_, qb1_ GE123.out HB.out⟩
mutual
def loan_Check.j0 : Nat → Int → Bool → Int → Int → Int → Int → Int → Int → Int → Int → Int → Int → Int → Int → Int → Int → Int → Int → Int → Int → Int → Int → Int → ByteArray → ByteArray → List (S67) → List (S70) → Option (Int)
 | 0, _, _, _, _, _, _, _, _, _, _, _, _, _, _, _, _, _, _, _, _, _, _, _, _, _, _, _ => none
 | k + 1, x3, x18, x127000, x127001, x127002, x127003, x127004, x127005, x127006, x127007, x127008, x127009, x127010, x127011, x127012, x127013, x127014, x127015, x127016, x127017, x127018, x127019, x127020, x127021, x127022, x127023, x127024 => if x18 = true then (some 25) else (if (x127024.length : Int) = 0 then (loan_Check.j1 k (x3 != x127012) x127000 x127001 x127002 x127003 x127004 x127005 x127006 x127007 x127008 x127009 x127010 x127011 x127012 x127013 x127014 x127015 x127016 x127017 x127018 x127019 x127020 x127021 x127022 x127023 x127024) else (loan_Check.j1 k false x127000 x127001 x127002 x127003 x127004 x127005 x127006 x127007 x127008 x127009 x127010 x127011 x127012 x127013 x127014 x127015 x127016 x127017 x127018 x127019 x127020 x127021 x127022 x127023 x127024))
def loan_Check.j1 : Nat → Bool → Int → Int → Int → Int → Int → Int → Int → Int → Int → Int → Int → Int → Int → Int → Int → Int → Int → Int → Int → Int → Int → ByteArray → ByteArray → List (S67) → List (S70) → Option (Int)
 | 0, _, _, _, _, _, _, _, _, _, _, _, _, _, _, _, _, _, _, _, _, _, _, _, _, _, _ => none
 | k + 1, x36, x127000, x127001, x127002, x127003, x127004, x127005, x127006, x127007, x127008, x127009, x127010, x127011, x127012, x127013, x127014, x127015, x127016, x127017, x127018, x127019, x127020, x127021, x127022, x127023, x127024 => if x36 = true then (some 25) else (if x127002 = 2 then ((loan_left.f k x127000 x127001 x127002 x127003 x127004 x127005 x127006 x127007 x127008 x127009 x127010 x127011 x127012 x127013 x127014 x127015 x127016 x127017 x127018 x127019 x127020 x127021 x127022 x127023 x127024).bind fun t131 => (if t131 = true then (loan_Check.j2 k true x127000 x127001 x127002 x127003 x127004 x127005 x127006 x127007 x127008 x127009 x127010 x127011 x127012 x127013 x127014 x127015 x127016 x127017 x127018 x127019 x127020 x127021 x127022 x127023 x127024) else (if x127002 = 1 then ((loan_left.f k x127000 x127001 x127002 x127003 x127004 x127005 x127006 x127007 x127008 x127009 x127010 x127011 x127012 x127013 x127014 x127015 x127016 x127017 x127018 x127019 x127020 x127021 x127022 x127023 x127024).bind fun t132 => (loan_Check.j2 k (!t132) x127000 x127001 x127002 x127003 x127004 x127005 x127006 x127007 x127008 x127009 x127010 x127011 x127012 x127013 x127014 x127015 x127016 x127017 x127018 x127019 x127020 x127021 x127022 x127023 x127024)) else (loan_Check.j2 k false x127000 x127001 x127002 x127003 x127004 x127005 x127006 x127007 x127008 x127009 x127010 x127011 x127012 x127013 x127014 x127015 x127016 x127017 x127018 x127019 x127020 x127021 x127022 x127023 x127024)))) else (if x127002 = 1 then ((loan_left.f k x127000 x127001 x127002 x127003 x127004 x127005 x127006 x127007 x127008 x127009 x127010 x127011 x127012 x127013 x127014 x127015 x127016 x127017 x127018 x127019 x127020 x127021 x127022 x127023 x127024).bind fun t133 => (loan_Check.j2 k (!t133) x127000 x127001 x127002 x127003 x127004 x127005 x127006 x127007 x127008 x127009 x127010 x127011 x127012 x127013 x127014 x127015 x127016 x127017 x127018 x127019 x127020 x127021 x127022 x127023 x127024)) else (loan_Check.j2 k false x127000 x127001 x127002 x127003 x127004 x127005 x127006 x127007 x127008 x127009 x127010 x127011 x127012 x127013 x127014 x127015 x127016 x127017 x127018 x127019 x127020 x127021 x127022 x127023 x127024)))
def loan_Check.j2 : Nat → Bool → Int → Int → Int → Int → Int → Int → Int → Int → Int → Int → Int → Int → Int → Int → Int → Int → Int → Int → Int → Int → Int → ByteArray → ByteArray → List (S67) → List (S70) → Option (Int)
 | 0, _, _, _, _, _, _, _, _, _, _, _, _, _, _, _, _, _, _, _, _, _, _, _, _, _, _ => none
 | k + 1, x48, x127000, x127001, x127002, x127003, x127004, x127005, x127006, x127007, x127008, x127009, x127010, x127011, x127012, x127013, x127014, x127015, x127016, x127017, x127018, x127019, x127020, x127021, x127022, x127023, x127024 => if x48 = true then (some 25) else (if x127002 = 3 then (loan_Check.j3 k false) else (if x127009 = 0 then (loan_Check.j3 k (x127010 != 0)) else (loan_Check.j3 k true)))
def loan_Check.j3 : Nat → Bool → Option (Int)
 | 0, _ => none
 | k + 1, x66 => if x66 = true then (some 25) else (some 0)
end
def loan_Check.f (k : Nat) (a0_0 a0_1 a0_2 a0_3 a0_4 a0_5 a0_6 a0_7 a0_8 a0_9 a0_10 a0_11 a0_12 a0_13 a0_14 a0_15 a0_16 a0_17 a0_18 a0_19 a0_20 : Int) (a0_21 a0_22 : ByteArray) (l0_23 : List (S67)) (l0_24 : List (S70)) : Option (Int) := (loan_numbers.f k a0_0 a0_1 a0_2 a0_3 a0_4 a0_5 a0_6 a0_7 a0_8 a0_9 a0_10 a0_11 a0_12 a0_13 a0_14 a0_15 a0_16 a0_17 a0_18 a0_19 a0_20 a0_21 a0_22 l0_23 l0_24).bind fun t127 => (if t127 = true then ((loan_ordered.f k l0_23).bind fun t128 => (if t128 = true then ((loan_sums.f k l0_23).bind fun bt129 => (if a0_3 > bt129.1 then (loan_Check.j0 k bt129.1 true a0_0 a0_1 a0_2 a0_3 a0_4 a0_5 a0_6 a0_7 a0_8 a0_9 a0_10 a0_11 a0_12 a0_13 a0_14 a0_15 a0_16 a0_17 a0_18 a0_19 a0_20 a0_21 a0_22 l0_23 l0_24) else (if a0_4 > bt129.2 then (loan_Check.j0 k bt129.1 true a0_0 a0_1 a0_2 a0_3 a0_4 a0_5 a0_6 a0_7 a0_8 a0_9 a0_10 a0_11 a0_12 a0_13 a0_14 a0_15 a0_16 a0_17 a0_18 a0_19 a0_20 a0_21 a0_22 l0_23 l0_24) else (loan_Check.j0 k bt129.1 (decide (a0_10 > a0_9)) a0_0 a0_1 a0_2 a0_3 a0_4 a0_5 a0_6 a0_7 a0_8 a0_9 a0_10 a0_11 a0_12 a0_13 a0_14 a0_15 a0_16 a0_17 a0_18 a0_19 a0_20 a0_21 a0_22 l0_23 l0_24)))) else (some 10))) else (some 1))
theorem loan_Check.mono_l : ∀ k, (∀ y0 y1 y2 y3 y4 y5 y6 y7 y8 y9 y10 y11 y12 y13 y14 y15 y16 y17 y18 y19 y20 y21 y22 y23 y24 y25 y26, LeO (loan_Check.j0 k y0 y1 y2 y3 y4 y5 y6 y7 y8 y9 y10 y11 y12 y13 y14 y15 y16 y17 y18 y19 y20 y21 y22 y23 y24 y25 y26) (loan_Check.j0 (k + 1) y0 y1 y2 y3 y4 y5 y6 y7 y8 y9 y10 y11 y12 y13 y14 y15 y16 y17 y18 y19 y20 y21 y22 y23 y24 y25 y26)) ∧ (∀ y0 y1 y2 y3 y4 y5 y6 y7 y8 y9 y10 y11 y12 y13 y14 y15 y16 y17 y18 y19 y20 y21 y22 y23 y24 y25, LeO (loan_Check.j1 k y0 y1 y2 y3 y4 y5 y6 y7 y8 y9 y10 y11 y12 y13 y14 y15 y16 y17 y18 y19 y20 y21 y22 y23 y24 y25) (loan_Check.j1 (k + 1) y0 y1 y2 y3 y4 y5 y6 y7 y8 y9 y10 y11 y12 y13 y14 y15 y16 y17 y18 y19 y20 y21 y22 y23 y24 y25)) ∧ (∀ y0 y1 y2 y3 y4 y5 y6 y7 y8 y9 y10 y11 y12 y13 y14 y15 y16 y17 y18 y19 y20 y21 y22 y23 y24 y25, LeO (loan_Check.j2 k y0 y1 y2 y3 y4 y5 y6 y7 y8 y9 y10 y11 y12 y13 y14 y15 y16 y17 y18 y19 y20 y21 y22 y23 y24 y25) (loan_Check.j2 (k + 1) y0 y1 y2 y3 y4 y5 y6 y7 y8 y9 y10 y11 y12 y13 y14 y15 y16 y17 y18 y19 y20 y21 y22 y23 y24 y25)) ∧ (∀ y0, LeO (loan_Check.j3 k y0) (loan_Check.j3 (k + 1) y0))
 | 0 => ⟨fun _ _ _ _ _ _ _ _ _ _ _ _ _ _ _ _ _ _ _ _ _ _ _ _ _ _ _ r h => by simp [loan_Check.j0] at h, fun _ _ _ _ _ _ _ _ _ _ _ _ _ _ _ _ _ _ _ _ _ _ _ _ _ _ r h => by simp [loan_Check.j1] at h, fun _ _ _ _ _ _ _ _ _ _ _ _ _ _ _ _ _ _ _ _ _ _ _ _ _ _ r h => by simp [loan_Check.j2] at h, fun _ r h => by simp [loan_Check.j3] at h⟩
 | k + 1 => by
  obtain ⟨ih0, ih1, ih2, ih3⟩ := loan_Check.mono_l k
  refine ⟨?_, ?_, ?_, ?_⟩
  ·intro y0 y1 y2 y3 y4 y5 y6 y7 y8 y9 y10 y11 y12 y13 y14 y15 y16 y17 y18 y19 y20 y21 y22 y23 y24 y25 y26
   unfold loan_Check.j0
   repeat' first
   | (with_reducible apply ih0)
   | (with_reducible apply ih1)
   | (with_reducible apply ih2)
   | (with_reducible exact ih3 _)
   | (with_reducible apply loan_left.mono)
   | (with_reducible apply loan_numbers.mono)
   | (with_reducible exact loan_ordered.mono _ _)
   | (with_reducible exact loan_sums.mono _ _)
   | (with_reducible exact LeO.refl _)
   | (with_reducible exact LeO.none _)
   | (with_reducible refine LeO.ite ?_ ?_)
   | (with_reducible refine LeO.bind ?_ (fun _ => ?_))
   | apply ih0
   | apply ih1
   | apply ih2
   | exact ih3 _
   | apply loan_left.mono
   | apply loan_numbers.mono
   | exact loan_ordered.mono _ _
   | exact loan_sums.mono _ _
   | exact LeO.none _
   | refine LeO.ite ?_ ?_
   | refine LeO.bind ?_ (fun _ => ?_)
  ·intro y0 y1 y2 y3 y4 y5 y6 y7 y8 y9 y10 y11 y12 y13 y14 y15 y16 y17 y18 y19 y20 y21 y22 y23 y24 y25
   unfold loan_Check.j1
   repeat' first
   | (with_reducible apply ih0)
   | (with_reducible apply ih1)
   | (with_reducible apply ih2)
   | (with_reducible exact ih3 _)
   | (with_reducible apply loan_left.mono)
   | (with_reducible apply loan_numbers.mono)
   | (with_reducible exact loan_ordered.mono _ _)
   | (with_reducible exact loan_sums.mono _ _)
   | (with_reducible exact LeO.refl _)
   | (with_reducible exact LeO.none _)
   | (with_reducible refine LeO.ite ?_ ?_)
   | (with_reducible refine LeO.bind ?_ (fun _ => ?_))
   | apply ih0
   | apply ih1
   | apply ih2
   | exact ih3 _
   | apply loan_left.mono
   | apply loan_numbers.mono
   | exact loan_ordered.mono _ _
   | exact loan_sums.mono _ _
   | exact LeO.none _
   | refine LeO.ite ?_ ?_
   | refine LeO.bind ?_ (fun _ => ?_)
  ·intro y0 y1 y2 y3 y4 y5 y6 y7 y8 y9 y10 y11 y12 y13 y14 y15 y16 y17 y18 y19 y20 y21 y22 y23 y24 y25
   unfold loan_Check.j2
   repeat' first
   | (with_reducible apply ih0)
   | (with_reducible apply ih1)
   | (with_reducible apply ih2)
   | (with_reducible exact ih3 _)
   | (with_reducible apply loan_left.mono)
   | (with_reducible apply loan_numbers.mono)
   | (with_reducible exact loan_ordered.mono _ _)
   | (with_reducible exact loan_sums.mono _ _)
   | (with_reducible exact LeO.refl _)
   | (with_reducible exact LeO.none _)
   | (with_reducible refine LeO.ite ?_ ?_)
   | (with_reducible refine LeO.bind ?_ (fun _ => ?_))
   | apply ih0
   | apply ih1
   | apply ih2
   | exact ih3 _
   | apply loan_left.mono
   | apply loan_numbers.mono
   | exact loan_ordered.mono _ _
   | exact loan_sums.mono _ _
   | exact LeO.none _
   | refine LeO.ite ?_ ?_
   | refine LeO.bind ?_ (fun _ => ?_)
  ·intro y0
   unfold loan_Check.j3
   repeat' first
   | (with_reducible apply ih0)
   | (with_reducible apply ih1)
   | (with_reducible apply ih2)
   | (with_reducible exact ih3 _)
   | (with_reducible apply loan_left.mono)
   | (with_reducible apply loan_numbers.mono)
   | (with_reducible exact loan_ordered.mono _ _)
   | (with_reducible exact loan_sums.mono _ _)
   | (with_reducible exact LeO.refl _)
   | (with_reducible exact LeO.none _)
   | (with_reducible refine LeO.ite ?_ ?_)
   | (with_reducible refine LeO.bind ?_ (fun _ => ?_))
   | apply ih0
   | apply ih1
   | apply ih2
   | exact ih3 _
   | apply loan_left.mono
   | apply loan_numbers.mono
   | exact loan_ordered.mono _ _
   | exact loan_sums.mono _ _
   | exact LeO.none _
   | refine LeO.ite ?_ ?_
   | refine LeO.bind ?_ (fun _ => ?_)
theorem loan_Check.mono : ∀ a0 a1 a2 a3 a4 a5 a6 a7 a8 a9 a10 a11 a12 a13 a14 a15 a16 a17 a18 a19 a20 a21 a22 a23 a24 k, LeO (loan_Check.f k a0 a1 a2 a3 a4 a5 a6 a7 a8 a9 a10 a11 a12 a13 a14 a15 a16 a17 a18 a19 a20 a21 a22 a23 a24) (loan_Check.f (k + 1) a0 a1 a2 a3 a4 a5 a6 a7 a8 a9 a10 a11 a12 a13 a14 a15 a16 a17 a18 a19 a20 a21 a22 a23 a24) := by
 intro a0 a1 a2 a3 a4 a5 a6 a7 a8 a9 a10 a11 a12 a13 a14 a15 a16 a17 a18 a19 a20 a21 a22 a23 a24 k
 obtain ⟨ih0, ih1, ih2, ih3⟩ := loan_Check.mono_l k
 unfold loan_Check.f
 repeat' first
   | (with_reducible apply ih0)
   | (with_reducible apply ih1)
   | (with_reducible apply ih2)
   | (with_reducible exact ih3 _)
   | (with_reducible apply loan_left.mono)
   | (with_reducible apply loan_numbers.mono)
   | (with_reducible exact loan_ordered.mono _ _)
   | (with_reducible exact loan_sums.mono _ _)
   | (with_reducible exact LeO.refl _)
   | (with_reducible exact LeO.none _)
   | (with_reducible refine LeO.ite ?_ ?_)
   | (with_reducible refine LeO.bind ?_ (fun _ => ?_))
   | apply ih0
   | apply ih1
   | apply ih2
   | exact ih3 _
   | apply loan_left.mono
   | apply loan_numbers.mono
   | exact loan_ordered.mono _ _
   | exact loan_sums.mono _ _
   | exact LeO.none _
   | refine LeO.ite ?_ ?_
   | refine LeO.bind ?_ (fun _ => ?_)
set_option maxHeartbeats 8000000 in
set_option maxRecDepth 100000 in
theorem loan_Check.calls (k : Nat) (a0_0 a0_1 a0_2 a0_3 a0_4 a0_5 a0_6 a0_7 a0_8 a0_9 a0_10 a0_11 a0_12 a0_13 a0_14 a0_15 a0_16 a0_17 a0_18 a0_19 a0_20 : Int) (a0_21 a0_22 : ByteArray) (A0_23 : Option Addr) (c0_23 : Nat) (l0_23 : List (S67)) (A0_24 : Option Addr) (c0_24 : Nat) (l0_24 : List (S70)) (r : Int) (w : World) (hr0_23 : Kd.C k67 w A0_23 l0_23.length l0_23) (hc0_23 : l0_23.length ≤ c0_23) (hr0_24 : Kd.C k70 w A0_24 l0_24.length l0_24) (hc0_24 : l0_24.length ≤ c0_24) (h : loan_Check.f k a0_0 a0_1 a0_2 a0_3 a0_4 a0_5 a0_6 a0_7 a0_8 a0_9 a0_10 a0_11 a0_12 a0_13 a0_14 a0_15 a0_16 a0_17 a0_18 a0_19 a0_20 a0_21 a0_22 l0_23 l0_24 = some r) :
  Calls Tryd.prog 13 #[.agg #[.int .i64 a0_0, .int .i64 a0_1, .int .i64 a0_2, .int .i64 a0_3, .int .i64 a0_4, .int .i64 a0_5, .int .i64 a0_6, .int .i64 a0_7, .int .i64 a0_8, .int .i64 a0_9, .int .i64 a0_10, .int .i64 a0_11, .int .i64 a0_12, .int .i64 a0_13, .int .i64 a0_14, .int .i64 a0_15, .int .i64 a0_16, .int .i64 a0_17, .int .i64 a0_18, .int .i64 a0_19, .int .i64 a0_20, .string a0_21, .string a0_22, .slice A0_23 l0_23.length c0_23, .slice A0_24 l0_24.length c0_24]] w fun e w' => e = .returned (.int .i64 r) ∧ Below w.heap.size w w' := by
 have hu27 := Tryd.underlying27
 have HR0_23 := am_ hr0_23
 have HC0_23 := am_ hc0_23
 clear hr0_23 hc0_23
 have HR0_24 := am_ hr0_24
 have HC0_24 := am_ hc0_24
 clear hr0_24 hc0_24
 have HB := am_ (Below.refl w.heap.size w)
 have H := h
 clear h
 unfold loan_Check.f at H
 replace H := Option.bind_eq_some_iff.mp H
 obtain ⟨t127, A20, H⟩ := H
 (try dsimp only at H)
 have A2 := am_ A20
 clear A20
 by_cases c3 : t127 = true
 ·subst c3
  rw [if_pos rfl] at H
  replace H := Option.bind_eq_some_iff.mp H
  obtain ⟨t128, A40, H⟩ := H
  (try dsimp only at H)
  have A4 := am_ A40
  clear A40
  by_cases c5 : t128 = true
  ·subst c5
   rw [if_pos rfl] at H
   replace H := Option.bind_eq_some_iff.mp H
   obtain ⟨⟨t129, t130⟩, A60, H⟩ := H
   (try dsimp only at H)
   have A6 := am_ A60
   clear A60
   have HC7 := am_ H
   clear H
   go_enter Tryd.func13, Tryd.ntmps13
   go_upto_region 6 with (first | ((with_reducible refine gate_load_ (t := 27) rfl ?_); refine ld_ (t := 27) Tryd.underlying27 rfl rfl rfl (qd_ BK126.out) rfl (by kernel_rfl) ?_) | ((with_reducible refine gate_load_ (t := 27) rfl ?_); refine ldgA_ (t := 27) Tryd.underlying27 rfl (by rfl) rfl (qd_ BK126.out) rfl (by kernel_rfl) ?_) | ((with_reducible refine gate_dst (N := 1) rfl ?_); refine be_ (N := 1) (cs := #[.int .i64 a0_0, .int .i64 a0_1, .int .i64 a0_2, .int .i64 a0_3, .int .i64 a0_4, .int .i64 a0_5, .int .i64 a0_6, .int .i64 a0_7, .int .i64 a0_8, .int .i64 a0_9, .int .i64 a0_10, .int .i64 a0_11, .int .i64 a0_12, .int .i64 a0_13, .int .i64 a0_14, .int .i64 a0_15, .int .i64 a0_16, .int .i64 a0_17, .int .i64 a0_18, .int .i64 a0_19, .int .i64 a0_20, .string a0_21, .string a0_22, .slice A0_23 l0_23.length c0_23, .slice A0_24 l0_24.length c0_24]) (t := 27) ?_; intro gb126 hg w8 hbox hb; have BK126 := am_ (hbox); have GE126 := am_ (bz_ hg (qb_ HB.out) : w.heap.size ≤ gb126); replace HB := am_ (below_step (qb_ HB.out) hb); clear hb hbox hg; obtain ⟨Z9_0, Z9_1, Z9_2, Z9_3, Z9_4, Z9_5, Z9_6, Z9_7, Z9_8, Z9_9, Z9_10, Z9_11, Z9_12, Z9_13, Z9_14, Z9_15, Z9_16, Z9_17, Z9_18, Z9_19, Z9_20, Z9_21, Z9_22, Z9_23, Z9_24, Y9_0, Y9_1, Y9_2, Y9_3, Y9_4, Y9_5, Y9_6, Y9_7, Y9_8, Y9_9, Y9_10, Y9_11, Y9_12, Y9_13, Y9_14, Y9_15, Y9_16, Y9_17, Y9_18, Y9_19, Y9_20, Y9_21, Y9_22, Y9_23, Y9_24⟩ := cz25_ BK126.out) | ((with_reducible refine gate_callee (f := 38) rfl ?_); refine goesL_ (some 6) rfl rfl Tryd.func38 (by kernel_rfl) rfl #[.agg #[.int .i64 a0_0, .int .i64 a0_1, .int .i64 a0_2, .int .i64 a0_3, .int .i64 a0_4, .int .i64 a0_5, .int .i64 a0_6, .int .i64 a0_7, .int .i64 a0_8, .int .i64 a0_9, .int .i64 a0_10, .int .i64 a0_11, .int .i64 a0_12, .int .i64 a0_13, .int .i64 a0_14, .int .i64 a0_15, .int .i64 a0_16, .int .i64 a0_17, .int .i64 a0_18, .int .i64 a0_19, .int .i64 a0_20, .string a0_21, .string a0_22, .slice A0_23 l0_23.length c0_23, .slice A0_24 l0_24.length c0_24]] rfl ql_ ?_; (with_reducible refine (loan_numbers.calls k a0_0 a0_1 a0_2 a0_3 a0_4 a0_5 a0_6 a0_7 a0_8 a0_9 a0_10 a0_11 a0_12 a0_13 a0_14 a0_15 a0_16 a0_17 a0_18 a0_19 a0_20 a0_21 a0_22 _ _ l0_23 _ _ l0_24 true _ ?side1 ?side2 ?side3 ?side4 A2.out).mono ?_); (case side1 => repeat (first | exact (Kd.C_below HR0_23.out HB.out) | (with_reducible refine Kd.C_alloc ?_ _) | (with_reducible refine Kd.C_drewN ?_ _) | (with_reducible refine Kd.C_drew ?_))); (case side2 => exact HC0_23.out); (case side3 => repeat (first | exact (Kd.C_below HR0_24.out HB.out) | (with_reducible refine Kd.C_alloc ?_ _) | (with_reducible refine Kd.C_drewN ?_ _) | (with_reducible refine Kd.C_drew ?_))); (case side4 => exact HC0_24.out); rintro e w10 ⟨rfl, hb⟩; refine ⟨_, rfl, ?_⟩; replace BK126 := am_ (blk_below (qk_ BK126.out) hb); replace HB := am_ (below_step (qb1_ GE126.out HB.out) hb); (try clear hb); obtain ⟨Z11_0, Z11_1, Z11_2, Z11_3, Z11_4, Z11_5, Z11_6, Z11_7, Z11_8, Z11_9, Z11_10, Z11_11, Z11_12, Z11_13, Z11_14, Z11_15, Z11_16, Z11_17, Z11_18, Z11_19, Z11_20, Z11_21, Z11_22, Z11_23, Z11_24, Y11_0, Y11_1, Y11_2, Y11_3, Y11_4, Y11_5, Y11_6, Y11_7, Y11_8, Y11_9, Y11_10, Y11_11, Y11_12, Y11_13, Y11_14, Y11_15, Y11_16, Y11_17, Y11_18, Y11_19, Y11_20, Y11_21, Y11_22, Y11_23, Y11_24⟩ := cz25_ BK126.out) | ((with_reducible refine gate_callee (f := 39) rfl ?_); refine goesL_ (some 10) rfl rfl Tryd.func39 (by kernel_rfl) rfl #[.slice A0_23 l0_23.length c0_23] rfl ql_ ?_; (with_reducible refine (loan_ordered.calls k _ _ l0_23 true _ ?side1 ?side2 A4.out).mono ?_); (case side1 => repeat (first | exact (Kd.C_below HR0_23.out HB.out) | (with_reducible refine Kd.C_alloc ?_ _) | (with_reducible refine Kd.C_drewN ?_ _) | (with_reducible refine Kd.C_drew ?_))); (case side2 => exact HC0_23.out); rintro e w12 ⟨rfl, hb⟩; refine ⟨_, rfl, ?_⟩; replace BK126 := am_ (blk_below (qk_ BK126.out) hb); replace HB := am_ (below_step (qb1_ GE126.out HB.out) hb); (try clear hb); obtain ⟨Z13_0, Z13_1, Z13_2, Z13_3, Z13_4, Z13_5, Z13_6, Z13_7, Z13_8, Z13_9, Z13_10, Z13_11, Z13_12, Z13_13, Z13_14, Z13_15, Z13_16, Z13_17, Z13_18, Z13_19, Z13_20, Z13_21, Z13_22, Z13_23, Z13_24, Y13_0, Y13_1, Y13_2, Y13_3, Y13_4, Y13_5, Y13_6, Y13_7, Y13_8, Y13_9, Y13_10, Y13_11, Y13_12, Y13_13, Y13_14, Y13_15, Y13_16, Y13_17, Y13_18, Y13_19, Y13_20, Y13_21, Y13_22, Y13_23, Y13_24⟩ := cz25_ BK126.out) | ((with_reducible refine gate_callee (f := 40) rfl ?_); refine goesL_ (some 15) rfl rfl Tryd.func40 (by kernel_rfl) rfl #[.slice A0_23 l0_23.length c0_23] rfl ql_ ?_; (with_reducible refine (loan_sums.calls k _ _ l0_23 t129 t130 _ ?side1 ?side2 A6.out).mono ?_); (case side1 => repeat (first | exact (Kd.C_below HR0_23.out HB.out) | (with_reducible refine Kd.C_alloc ?_ _) | (with_reducible refine Kd.C_drewN ?_ _) | (with_reducible refine Kd.C_drew ?_))); (case side2 => exact HC0_23.out); rintro e w14 ⟨rfl, hb⟩; refine ⟨_, rfl, ?_⟩; replace BK126 := am_ (blk_below (qk_ BK126.out) hb); replace HB := am_ (below_step (qb1_ GE126.out HB.out) hb); (try clear hb)))
   (try simp only [Act.put, List.setIfInBounds_toArray, List.set_cons_zero, List.set_cons_succ])
   go_cut [18] (fun v18 wc => ∃ (kq : Nat) (x18_6 : Bool), v18 = .bool x18_6 ∧ Aside0 (loan_Check.j0 kq t129 x18_6 a0_0 a0_1 a0_2 a0_3 a0_4 a0_5 a0_6 a0_7 a0_8 a0_9 a0_10 a0_11 a0_12 a0_13 a0_14 a0_15 a0_16 a0_17 a0_18 a0_19 a0_20 a0_21 a0_22 l0_23 l0_24 = some r) ∧ Aside0 (kq ≤ k) ∧ Aside0 (wc.heap[gb126]? = some (.cells #[.int .i64 a0_0, .int .i64 a0_1, .int .i64 a0_2, .int .i64 a0_3, .int .i64 a0_4, .int .i64 a0_5, .int .i64 a0_6, .int .i64 a0_7, .int .i64 a0_8, .int .i64 a0_9, .int .i64 a0_10, .int .i64 a0_11, .int .i64 a0_12, .int .i64 a0_13, .int .i64 a0_14, .int .i64 a0_15, .int .i64 a0_16, .int .i64 a0_17, .int .i64 a0_18, .int .i64 a0_19, .int .i64 a0_20, .string a0_21, .string a0_22, (.slice A0_23 l0_23.length c0_23), (.slice A0_24 l0_24.length c0_24)] 27 (0, 0))) ∧ Aside0 (Below w.heap.size w wc))
   case first =>
    have H := HC7.out
    clear HC7
    by_cases c15 : a0_3 > t129
    ·rw [if_pos c15] at H
     have c15b0 : decide (t129 < a0_3) = true := decide_eq_true c15
     clear c15
     (first | rw [c15b0] | (simp only [i64_w, i32_w]; rw [c15b0]) | skip)
     have H' := am_ H
     clear H
     obtain ⟨Z16_0, Z16_1, Z16_2, Z16_3, Z16_4, Z16_5, Z16_6, Z16_7, Z16_8, Z16_9, Z16_10, Z16_11, Z16_12, Z16_13, Z16_14, Z16_15, Z16_16, Z16_17, Z16_18, Z16_19, Z16_20, Z16_21, Z16_22, Z16_23, Z16_24, Y16_0, Y16_1, Y16_2, Y16_3, Y16_4, Y16_5, Y16_6, Y16_7, Y16_8, Y16_9, Y16_10, Y16_11, Y16_12, Y16_13, Y16_14, Y16_15, Y16_16, Y16_17, Y16_18, Y16_19, Y16_20, Y16_21, Y16_22, Y16_23, Y16_24⟩ := cz25_ BK126.out
     go_wp2
     go_meet
     case rel => exact ⟨_, (true), qs_, H', ⟨qo_⟩, ⟨qk_ BK126.out⟩, ⟨qb1_ GE126.out HB.out⟩⟩
    ·rw [if_neg c15] at H
     have c15b0 : decide (t129 < a0_3) = false := decide_eq_false c15
     clear c15
     (first | rw [c15b0] | (simp only [i64_w, i32_w]; rw [c15b0]) | skip)
     by_cases c17 : a0_4 > t130
     ·rw [if_pos c17] at H
      have c17b0 : decide (t130 < a0_4) = true := decide_eq_true c17
      clear c17
      have H' := am_ H
      clear H
      obtain ⟨Z18_0, Z18_1, Z18_2, Z18_3, Z18_4, Z18_5, Z18_6, Z18_7, Z18_8, Z18_9, Z18_10, Z18_11, Z18_12, Z18_13, Z18_14, Z18_15, Z18_16, Z18_17, Z18_18, Z18_19, Z18_20, Z18_21, Z18_22, Z18_23, Z18_24, Y18_0, Y18_1, Y18_2, Y18_3, Y18_4, Y18_5, Y18_6, Y18_7, Y18_8, Y18_9, Y18_10, Y18_11, Y18_12, Y18_13, Y18_14, Y18_15, Y18_16, Y18_17, Y18_18, Y18_19, Y18_20, Y18_21, Y18_22, Y18_23, Y18_24⟩ := cz25_ BK126.out
      go_wp2
      go_meet
      case rel => exact ⟨_, (true), qs_, H', ⟨qo_⟩, ⟨qk_ BK126.out⟩, ⟨qb1_ GE126.out HB.out⟩⟩
     ·rw [if_neg c17] at H
      have c17b0 : decide (t130 < a0_4) = false := decide_eq_false c17
      clear c17
      have H' := am_ H
      clear H
      obtain ⟨Z19_0, Z19_1, Z19_2, Z19_3, Z19_4, Z19_5, Z19_6, Z19_7, Z19_8, Z19_9, Z19_10, Z19_11, Z19_12, Z19_13, Z19_14, Z19_15, Z19_16, Z19_17, Z19_18, Z19_19, Z19_20, Z19_21, Z19_22, Z19_23, Z19_24, Y19_0, Y19_1, Y19_2, Y19_3, Y19_4, Y19_5, Y19_6, Y19_7, Y19_8, Y19_9, Y19_10, Y19_11, Y19_12, Y19_13, Y19_14, Y19_15, Y19_16, Y19_17, Y19_18, Y19_19, Y19_20, Y19_21, Y19_22, Y19_23, Y19_24⟩ := cz25_ BK126.out
      go_wp2
      go_meet
      case rel => exact ⟨_, (decide (a0_10 > a0_9)), qs_, H', ⟨qo_⟩, ⟨qk_ BK126.out⟩, ⟨qb1_ GE126.out HB.out⟩⟩
   case rest =>
    clear HC7
    try clear c1
    try clear p2
    try clear c3
    try clear c4
    try clear c5
    try clear c13
    try clear c15
    try clear c15b0
    try clear c17
    try clear c17b0
    (try clear Z11_0 Z11_1 Z11_10 Z11_11 Z11_12 Z11_13 Z11_14 Z11_15 Z11_16 Z11_17 Z11_18 Z11_19 Z11_2 Z11_20 Z11_21 Z11_22 Z11_23 Z11_24 Z11_3 Z11_4 Z11_5 Z11_6 Z11_7 Z11_8 Z11_9 Y11_0 Y11_1 Y11_10 Y11_11 Y11_12 Y11_13 Y11_14 Y11_15 Y11_16 Y11_17 Y11_18 Y11_19 Y11_2 Y11_20 Y11_21 Y11_22 Y11_23 Y11_24 Y11_3 Y11_4 Y11_5 Y11_6 Y11_7 Y11_8 Y11_9)
    (try clear Z13_0 Z13_1 Z13_10 Z13_11 Z13_12 Z13_13 Z13_14 Z13_15 Z13_16 Z13_17 Z13_18 Z13_19 Z13_2 Z13_20 Z13_21 Z13_22 Z13_23 Z13_24 Z13_3 Z13_4 Z13_5 Z13_6 Z13_7 Z13_8 Z13_9 Y13_0 Y13_1 Y13_10 Y13_11 Y13_12 Y13_13 Y13_14 Y13_15 Y13_16 Y13_17 Y13_18 Y13_19 Y13_2 Y13_20 Y13_21 Y13_22 Y13_23 Y13_24 Y13_3 Y13_4 Y13_5 Y13_6 Y13_7 Y13_8 Y13_9)
    (try clear Z16_0 Z16_1 Z16_10 Z16_11 Z16_12 Z16_13 Z16_14 Z16_15 Z16_16 Z16_17 Z16_18 Z16_19 Z16_2 Z16_20 Z16_21 Z16_22 Z16_23 Z16_24 Z16_3 Z16_4 Z16_5 Z16_6 Z16_7 Z16_8 Z16_9 Y16_0 Y16_1 Y16_10 Y16_11 Y16_12 Y16_13 Y16_14 Y16_15 Y16_16 Y16_17 Y16_18 Y16_19 Y16_2 Y16_20 Y16_21 Y16_22 Y16_23 Y16_24 Y16_3 Y16_4 Y16_5 Y16_6 Y16_7 Y16_8 Y16_9)
    (try clear Z18_0 Z18_1 Z18_10 Z18_11 Z18_12 Z18_13 Z18_14 Z18_15 Z18_16 Z18_17 Z18_18 Z18_19 Z18_2 Z18_20 Z18_21 Z18_22 Z18_23 Z18_24 Z18_3 Z18_4 Z18_5 Z18_6 Z18_7 Z18_8 Z18_9 Y18_0 Y18_1 Y18_10 Y18_11 Y18_12 Y18_13 Y18_14 Y18_15 Y18_16 Y18_17 Y18_18 Y18_19 Y18_2 Y18_20 Y18_21 Y18_22 Y18_23 Y18_24 Y18_3 Y18_4 Y18_5 Y18_6 Y18_7 Y18_8 Y18_9)
    (try clear Z19_0 Z19_1 Z19_10 Z19_11 Z19_12 Z19_13 Z19_14 Z19_15 Z19_16 Z19_17 Z19_18 Z19_19 Z19_2 Z19_20 Z19_21 Z19_22 Z19_23 Z19_24 Z19_3 Z19_4 Z19_5 Z19_6 Z19_7 Z19_8 Z19_9 Y19_0 Y19_1 Y19_10 Y19_11 Y19_12 Y19_13 Y19_14 Y19_15 Y19_16 Y19_17 Y19_18 Y19_19 Y19_2 Y19_20 Y19_21 Y19_22 Y19_23 Y19_24 Y19_3 Y19_4 Y19_5 Y19_6 Y19_7 Y19_8 Y19_9)
    (try clear Z9_0 Z9_1 Z9_10 Z9_11 Z9_12 Z9_13 Z9_14 Z9_15 Z9_16 Z9_17 Z9_18 Z9_19 Z9_2 Z9_20 Z9_21 Z9_22 Z9_23 Z9_24 Z9_3 Z9_4 Z9_5 Z9_6 Z9_7 Z9_8 Z9_9 Y9_0 Y9_1 Y9_10 Y9_11 Y9_12 Y9_13 Y9_14 Y9_15 Y9_16 Y9_17 Y9_18 Y9_19 Y9_2 Y9_20 Y9_21 Y9_22 Y9_23 Y9_24 Y9_3 Y9_4 Y9_5 Y9_6 Y9_7 Y9_8 Y9_9)
    obtain ⟨kq, x18_6, rfl, HA, HJ6, BK126, HB⟩ := hcut
    cases kq with
    | zero => exact absurd HA.out (by simp [loan_Check.j0])
    | succ kj6 =>
     have H := HA.out
     clear HA
     simp only [loan_Check.j0] at H
     by_cases c20 : x18_6 = true
     ·subst c20
      rw [if_pos rfl] at H
      obtain rfl := Option.some.inj H
      go_wp2
      go_ret
      exact ⟨qe_, qb1_ GE126.out HB.out⟩
     ·replace c20 := Bool.eq_false_iff.mpr c20
      subst c20
      rw [if_neg (show ¬ (false = true) by decide)] at H
      have HC21 := am_ H
      clear H
      go_upto_region 8 with (fail)
      go_cut [36] (fun v36 wc => ∃ (kq : Nat) (x36_20 : Bool), v36 = .bool x36_20 ∧ Aside0 (loan_Check.j1 kq x36_20 a0_0 a0_1 a0_2 a0_3 a0_4 a0_5 a0_6 a0_7 a0_8 a0_9 a0_10 a0_11 a0_12 a0_13 a0_14 a0_15 a0_16 a0_17 a0_18 a0_19 a0_20 a0_21 a0_22 l0_23 l0_24 = some r) ∧ Aside0 (kq ≤ kj6) ∧ Aside0 (wc.heap[gb126]? = some (.cells #[.int .i64 a0_0, .int .i64 a0_1, .int .i64 a0_2, .int .i64 a0_3, .int .i64 a0_4, .int .i64 a0_5, .int .i64 a0_6, .int .i64 a0_7, .int .i64 a0_8, .int .i64 a0_9, .int .i64 a0_10, .int .i64 a0_11, .int .i64 a0_12, .int .i64 a0_13, .int .i64 a0_14, .int .i64 a0_15, .int .i64 a0_16, .int .i64 a0_17, .int .i64 a0_18, .int .i64 a0_19, .int .i64 a0_20, .string a0_21, .string a0_22, (.slice A0_23 l0_23.length c0_23), (.slice A0_24 l0_24.length c0_24)] 27 (0, 0))) ∧ Aside0 (Below w.heap.size w wc))
      case first =>
       have H := HC21.out
       clear HC21
       by_cases c22 : (l0_24.length : Int) = 0
       ·rw [if_pos c22] at H
        have c22b0 : ((l0_24.length : Int) == 0) = true := beq_iff_eq.mpr c22
        have c22b1 : ((l0_24.length : Int) != 0) = false := bne_eq_false_iff_eq.mpr c22
        clear c22
        (first | rw [c22b0] | (simp only [i64_w, i32_w]; rw [c22b0]) | skip)
        have H' := am_ H
        clear H
        obtain ⟨Z23_0, Z23_1, Z23_2, Z23_3, Z23_4, Z23_5, Z23_6, Z23_7, Z23_8, Z23_9, Z23_10, Z23_11, Z23_12, Z23_13, Z23_14, Z23_15, Z23_16, Z23_17, Z23_18, Z23_19, Z23_20, Z23_21, Z23_22, Z23_23, Z23_24, Y23_0, Y23_1, Y23_2, Y23_3, Y23_4, Y23_5, Y23_6, Y23_7, Y23_8, Y23_9, Y23_10, Y23_11, Y23_12, Y23_13, Y23_14, Y23_15, Y23_16, Y23_17, Y23_18, Y23_19, Y23_20, Y23_21, Y23_22, Y23_23, Y23_24⟩ := cz25_ BK126.out
        go_wp2
        go_meet
        case rel => exact ⟨_, ((t129 != a0_12)), qs_, H', ⟨by have := HJ6.out; first | omega | exact Nat.le_refl _⟩, ⟨qk_ BK126.out⟩, ⟨qb1_ GE126.out HB.out⟩⟩
       ·rw [if_neg c22] at H
        have c22b0 : ((l0_24.length : Int) == 0) = false := beq_eq_false_iff_ne.mpr c22
        have c22b1 : ((l0_24.length : Int) != 0) = true := bne_iff_ne.mpr c22
        have c22b2 : ¬ (l0_24 = []) := fun h_ => c22 (by rw [h_]; rfl)
        (first | rw [c22b0] | (simp only [i64_w, i32_w]; rw [c22b0]) | skip)
        have H' := am_ H
        clear H
        obtain ⟨Z24_0, Z24_1, Z24_2, Z24_3, Z24_4, Z24_5, Z24_6, Z24_7, Z24_8, Z24_9, Z24_10, Z24_11, Z24_12, Z24_13, Z24_14, Z24_15, Z24_16, Z24_17, Z24_18, Z24_19, Z24_20, Z24_21, Z24_22, Z24_23, Z24_24, Y24_0, Y24_1, Y24_2, Y24_3, Y24_4, Y24_5, Y24_6, Y24_7, Y24_8, Y24_9, Y24_10, Y24_11, Y24_12, Y24_13, Y24_14, Y24_15, Y24_16, Y24_17, Y24_18, Y24_19, Y24_20, Y24_21, Y24_22, Y24_23, Y24_24⟩ := cz25_ BK126.out
        go_wp2
        go_meet
        case rel => exact ⟨_, (false), qs_, H', ⟨by have := HJ6.out; first | omega | exact Nat.le_refl _⟩, ⟨qk_ BK126.out⟩, ⟨qb1_ GE126.out HB.out⟩⟩
      case rest =>
       clear HC21
       try clear c1
       try clear c2
       try clear p2
       try clear c3
       try clear c4
       try clear c5
       try clear c13
       try clear c15
       try clear c15b0
       try clear c17
       try clear c17b0
       try clear c20
       try clear c22
       try clear c22b0
       try clear c22b1
       try clear c22b2
       (try clear Z11_0 Z11_1 Z11_10 Z11_11 Z11_12 Z11_13 Z11_14 Z11_15 Z11_16 Z11_17 Z11_18 Z11_19 Z11_2 Z11_20 Z11_21 Z11_22 Z11_23 Z11_24 Z11_3 Z11_4 Z11_5 Z11_6 Z11_7 Z11_8 Z11_9 Y11_0 Y11_1 Y11_10 Y11_11 Y11_12 Y11_13 Y11_14 Y11_15 Y11_16 Y11_17 Y11_18 Y11_19 Y11_2 Y11_20 Y11_21 Y11_22 Y11_23 Y11_24 Y11_3 Y11_4 Y11_5 Y11_6 Y11_7 Y11_8 Y11_9)
       (try clear Z13_0 Z13_1 Z13_10 Z13_11 Z13_12 Z13_13 Z13_14 Z13_15 Z13_16 Z13_17 Z13_18 Z13_19 Z13_2 Z13_20 Z13_21 Z13_22 Z13_23 Z13_24 Z13_3 Z13_4 Z13_5 Z13_6 Z13_7 Z13_8 Z13_9 Y13_0 Y13_1 Y13_10 Y13_11 Y13_12 Y13_13 Y13_14 Y13_15 Y13_16 Y13_17 Y13_18 Y13_19 Y13_2 Y13_20 Y13_21 Y13_22 Y13_23 Y13_24 Y13_3 Y13_4 Y13_5 Y13_6 Y13_7 Y13_8 Y13_9)
       (try clear Z16_0 Z16_1 Z16_10 Z16_11 Z16_12 Z16_13 Z16_14 Z16_15 Z16_16 Z16_17 Z16_18 Z16_19 Z16_2 Z16_20 Z16_21 Z16_22 Z16_23 Z16_24 Z16_3 Z16_4 Z16_5 Z16_6 Z16_7 Z16_8 Z16_9 Y16_0 Y16_1 Y16_10 Y16_11 Y16_12 Y16_13 Y16_14 Y16_15 Y16_16 Y16_17 Y16_18 Y16_19 Y16_2 Y16_20 Y16_21 Y16_22 Y16_23 Y16_24 Y16_3 Y16_4 Y16_5 Y16_6 Y16_7 Y16_8 Y16_9)
       (try clear Z18_0 Z18_1 Z18_10 Z18_11 Z18_12 Z18_13 Z18_14 Z18_15 Z18_16 Z18_17 Z18_18 Z18_19 Z18_2 Z18_20 Z18_21 Z18_22 Z18_23 Z18_24 Z18_3 Z18_4 Z18_5 Z18_6 Z18_7 Z18_8 Z18_9 Y18_0 Y18_1 Y18_10 Y18_11 Y18_12 Y18_13 Y18_14 Y18_15 Y18_16 Y18_17 Y18_18 Y18_19 Y18_2 Y18_20 Y18_21 Y18_22 Y18_23 Y18_24 Y18_3 Y18_4 Y18_5 Y18_6 Y18_7 Y18_8 Y18_9)
       (try clear Z19_0 Z19_1 Z19_10 Z19_11 Z19_12 Z19_13 Z19_14 Z19_15 Z19_16 Z19_17 Z19_18 Z19_19 Z19_2 Z19_20 Z19_21 Z19_22 Z19_23 Z19_24 Z19_3 Z19_4 Z19_5 Z19_6 Z19_7 Z19_8 Z19_9 Y19_0 Y19_1 Y19_10 Y19_11 Y19_12 Y19_13 Y19_14 Y19_15 Y19_16 Y19_17 Y19_18 Y19_19 Y19_2 Y19_20 Y19_21 Y19_22 Y19_23 Y19_24 Y19_3 Y19_4 Y19_5 Y19_6 Y19_7 Y19_8 Y19_9)
       (try clear Z23_0 Z23_1 Z23_10 Z23_11 Z23_12 Z23_13 Z23_14 Z23_15 Z23_16 Z23_17 Z23_18 Z23_19 Z23_2 Z23_20 Z23_21 Z23_22 Z23_23 Z23_24 Z23_3 Z23_4 Z23_5 Z23_6 Z23_7 Z23_8 Z23_9 Y23_0 Y23_1 Y23_10 Y23_11 Y23_12 Y23_13 Y23_14 Y23_15 Y23_16 Y23_17 Y23_18 Y23_19 Y23_2 Y23_20 Y23_21 Y23_22 Y23_23 Y23_24 Y23_3 Y23_4 Y23_5 Y23_6 Y23_7 Y23_8 Y23_9)
       (try clear Z24_0 Z24_1 Z24_10 Z24_11 Z24_12 Z24_13 Z24_14 Z24_15 Z24_16 Z24_17 Z24_18 Z24_19 Z24_2 Z24_20 Z24_21 Z24_22 Z24_23 Z24_24 Z24_3 Z24_4 Z24_5 Z24_6 Z24_7 Z24_8 Z24_9 Y24_0 Y24_1 Y24_10 Y24_11 Y24_12 Y24_13 Y24_14 Y24_15 Y24_16 Y24_17 Y24_18 Y24_19 Y24_2 Y24_20 Y24_21 Y24_22 Y24_23 Y24_24 Y24_3 Y24_4 Y24_5 Y24_6 Y24_7 Y24_8 Y24_9)
       (try clear Z9_0 Z9_1 Z9_10 Z9_11 Z9_12 Z9_13 Z9_14 Z9_15 Z9_16 Z9_17 Z9_18 Z9_19 Z9_2 Z9_20 Z9_21 Z9_22 Z9_23 Z9_24 Z9_3 Z9_4 Z9_5 Z9_6 Z9_7 Z9_8 Z9_9 Y9_0 Y9_1 Y9_10 Y9_11 Y9_12 Y9_13 Y9_14 Y9_15 Y9_16 Y9_17 Y9_18 Y9_19 Y9_2 Y9_20 Y9_21 Y9_22 Y9_23 Y9_24 Y9_3 Y9_4 Y9_5 Y9_6 Y9_7 Y9_8 Y9_9)
       try clear p2
       obtain ⟨kq, x36_20, rfl, HA, HJ20, BK126, HB⟩ := hcut
       cases kq with
       | zero => exact absurd HA.out (by simp [loan_Check.j1])
       | succ kj20 =>
        have H := HA.out
        clear HA
        simp only [loan_Check.j1] at H
        by_cases c25 : x36_20 = true
        ·subst c25
         rw [if_pos rfl] at H
         obtain rfl := Option.some.inj H
         go_wp2
         go_ret
         exact ⟨qe_, qb1_ GE126.out HB.out⟩
        ·replace c25 := Bool.eq_false_iff.mpr c25
         subst c25
         rw [if_neg (show ¬ (false = true) by decide)] at H
         have HC26 := am_ H
         clear H
         go_upto_region 10 with (fail)
         go_cut [48] (fun v48 wc => ∃ (kq : Nat) (x48_25 : Bool), v48 = .bool x48_25 ∧ Aside0 (loan_Check.j2 kq x48_25 a0_0 a0_1 a0_2 a0_3 a0_4 a0_5 a0_6 a0_7 a0_8 a0_9 a0_10 a0_11 a0_12 a0_13 a0_14 a0_15 a0_16 a0_17 a0_18 a0_19 a0_20 a0_21 a0_22 l0_23 l0_24 = some r) ∧ Aside0 (kq ≤ kj20) ∧ Aside0 (wc.heap[gb126]? = some (.cells #[.int .i64 a0_0, .int .i64 a0_1, .int .i64 a0_2, .int .i64 a0_3, .int .i64 a0_4, .int .i64 a0_5, .int .i64 a0_6, .int .i64 a0_7, .int .i64 a0_8, .int .i64 a0_9, .int .i64 a0_10, .int .i64 a0_11, .int .i64 a0_12, .int .i64 a0_13, .int .i64 a0_14, .int .i64 a0_15, .int .i64 a0_16, .int .i64 a0_17, .int .i64 a0_18, .int .i64 a0_19, .int .i64 a0_20, .string a0_21, .string a0_22, (.slice A0_23 l0_23.length c0_23), (.slice A0_24 l0_24.length c0_24)] 27 (0, 0))) ∧ Aside0 (Below w.heap.size w wc))
         case first =>
          have H := HC26.out
          clear HC26
          by_cases c27 : a0_2 = 2
          ·rw [if_pos c27] at H
           have c27b0 : (a0_2 == 2) = true := beq_iff_eq.mpr c27
           have c27b1 : (a0_2 != 2) = false := bne_eq_false_iff_eq.mpr c27
           clear c27
           (first | rw [c27b0] | (simp only [i64_w, i32_w]; rw [c27b0]) | skip)
           replace H := Option.bind_eq_some_iff.mp H
           obtain ⟨t131, A280, H⟩ := H
           (try dsimp only at H)
           have A28 := am_ A280
           clear A280
           by_cases c29 : t131 = true
           ·subst c29
            rw [if_pos rfl] at H
            have H' := am_ H
            clear H
            obtain ⟨Z30_0, Z30_1, Z30_2, Z30_3, Z30_4, Z30_5, Z30_6, Z30_7, Z30_8, Z30_9, Z30_10, Z30_11, Z30_12, Z30_13, Z30_14, Z30_15, Z30_16, Z30_17, Z30_18, Z30_19, Z30_20, Z30_21, Z30_22, Z30_23, Z30_24, Y30_0, Y30_1, Y30_2, Y30_3, Y30_4, Y30_5, Y30_6, Y30_7, Y30_8, Y30_9, Y30_10, Y30_11, Y30_12, Y30_13, Y30_14, Y30_15, Y30_16, Y30_17, Y30_18, Y30_19, Y30_20, Y30_21, Y30_22, Y30_23, Y30_24⟩ := cz25_ BK126.out
            go_wp2_with (first | ((with_reducible refine gate_load_ (t := 27) rfl ?_); refine ld_ (t := 27) Tryd.underlying27 rfl rfl rfl (qd_ BK126.out) rfl (by kernel_rfl) ?_) | ((with_reducible refine gate_load_ (t := 27) rfl ?_); refine ldgA_ (t := 27) Tryd.underlying27 rfl (by rfl) rfl (qd_ BK126.out) rfl (by kernel_rfl) ?_) | (go_at_call 41; (with_reducible refine (loan_left.calls kj20 a0_0 a0_1 a0_2 a0_3 a0_4 a0_5 a0_6 a0_7 a0_8 a0_9 a0_10 a0_11 a0_12 a0_13 a0_14 a0_15 a0_16 a0_17 a0_18 a0_19 a0_20 a0_21 a0_22 _ _ l0_23 _ _ l0_24 true _ ?side1 ?side2 ?side3 ?side4 A28.out).mono ?_); (case side1 => repeat (first | exact (Kd.C_below HR0_23.out HB.out) | (with_reducible refine Kd.C_alloc ?_ _) | (with_reducible refine Kd.C_drewN ?_ _) | (with_reducible refine Kd.C_drew ?_))); (case side2 => exact HC0_23.out); (case side3 => repeat (first | exact (Kd.C_below HR0_24.out HB.out) | (with_reducible refine Kd.C_alloc ?_ _) | (with_reducible refine Kd.C_drewN ?_ _) | (with_reducible refine Kd.C_drew ?_))); (case side4 => exact HC0_24.out); rintro e w31 ⟨rfl, hb⟩; replace BK126 := am_ (blk_below (qk_ BK126.out) hb); replace HB := am_ (below_step (qb1_ GE126.out HB.out) hb); (try clear hb)))
            go_meet
            case rel => exact ⟨_, (true), qs_, H', ⟨by have := HJ6.out; have := HJ20.out; first | omega | exact Nat.le_refl _⟩, ⟨qk_ BK126.out⟩, ⟨qb1_ GE126.out HB.out⟩⟩
           ·replace c29 := Bool.eq_false_iff.mpr c29
            subst c29
            rw [if_neg (show ¬ (false = true) by decide)] at H
            by_cases c32 : a0_2 = 1
            ·exact absurd (beq_iff_eq.mp c27b0) (by omega)
            ·rw [if_neg c32] at H
             have c32b0 : (a0_2 == 1) = false := beq_eq_false_iff_ne.mpr c32
             have c32b1 : (a0_2 != 1) = true := bne_iff_ne.mpr c32
             have H' := am_ H
             clear H
             obtain ⟨Z38_0, Z38_1, Z38_2, Z38_3, Z38_4, Z38_5, Z38_6, Z38_7, Z38_8, Z38_9, Z38_10, Z38_11, Z38_12, Z38_13, Z38_14, Z38_15, Z38_16, Z38_17, Z38_18, Z38_19, Z38_20, Z38_21, Z38_22, Z38_23, Z38_24, Y38_0, Y38_1, Y38_2, Y38_3, Y38_4, Y38_5, Y38_6, Y38_7, Y38_8, Y38_9, Y38_10, Y38_11, Y38_12, Y38_13, Y38_14, Y38_15, Y38_16, Y38_17, Y38_18, Y38_19, Y38_20, Y38_21, Y38_22, Y38_23, Y38_24⟩ := cz25_ BK126.out
             go_wp2_with (first | ((with_reducible refine gate_load_ (t := 27) rfl ?_); refine ld_ (t := 27) Tryd.underlying27 rfl rfl rfl (qd_ BK126.out) rfl (by kernel_rfl) ?_) | ((with_reducible refine gate_load_ (t := 27) rfl ?_); refine ldgA_ (t := 27) Tryd.underlying27 rfl (by rfl) rfl (qd_ BK126.out) rfl (by kernel_rfl) ?_) | (go_at_call 41; (with_reducible refine (loan_left.calls kj20 a0_0 a0_1 a0_2 a0_3 a0_4 a0_5 a0_6 a0_7 a0_8 a0_9 a0_10 a0_11 a0_12 a0_13 a0_14 a0_15 a0_16 a0_17 a0_18 a0_19 a0_20 a0_21 a0_22 _ _ l0_23 _ _ l0_24 false _ ?side1 ?side2 ?side3 ?side4 A28.out).mono ?_); (case side1 => repeat (first | exact (Kd.C_below HR0_23.out HB.out) | (with_reducible refine Kd.C_alloc ?_ _) | (with_reducible refine Kd.C_drewN ?_ _) | (with_reducible refine Kd.C_drew ?_))); (case side2 => exact HC0_23.out); (case side3 => repeat (first | exact (Kd.C_below HR0_24.out HB.out) | (with_reducible refine Kd.C_alloc ?_ _) | (with_reducible refine Kd.C_drewN ?_ _) | (with_reducible refine Kd.C_drew ?_))); (case side4 => exact HC0_24.out); rintro e w39 ⟨rfl, hb⟩; replace BK126 := am_ (blk_below (qk_ BK126.out) hb); replace HB := am_ (below_step (qb1_ GE126.out HB.out) hb); (try clear hb); obtain ⟨Z40_0, Z40_1, Z40_2, Z40_3, Z40_4, Z40_5, Z40_6, Z40_7, Z40_8, Z40_9, Z40_10, Z40_11, Z40_12, Z40_13, Z40_14, Z40_15, Z40_16, Z40_17, Z40_18, Z40_19, Z40_20, Z40_21, Z40_22, Z40_23, Z40_24, Y40_0, Y40_1, Y40_2, Y40_3, Y40_4, Y40_5, Y40_6, Y40_7, Y40_8, Y40_9, Y40_10, Y40_11, Y40_12, Y40_13, Y40_14, Y40_15, Y40_16, Y40_17, Y40_18, Y40_19, Y40_20, Y40_21, Y40_22, Y40_23, Y40_24⟩ := cz25_ BK126.out))
             go_meet
             case rel => exact ⟨_, (false), qs_, H', ⟨by have := HJ6.out; have := HJ20.out; first | omega | exact Nat.le_refl _⟩, ⟨qk_ BK126.out⟩, ⟨qb1_ GE126.out HB.out⟩⟩
          ·rw [if_neg c27] at H
           have c27b0 : (a0_2 == 2) = false := beq_eq_false_iff_ne.mpr c27
           have c27b1 : (a0_2 != 2) = true := bne_iff_ne.mpr c27
           (first | rw [c27b0] | (simp only [i64_w, i32_w]; rw [c27b0]) | skip)
           by_cases c41 : a0_2 = 1
           ·rw [if_pos c41] at H
            have c41b0 : (a0_2 == 1) = true := beq_iff_eq.mpr c41
            have c41b1 : (a0_2 != 1) = false := bne_eq_false_iff_eq.mpr c41
            clear c41
            replace H := Option.bind_eq_some_iff.mp H
            obtain ⟨t133, A420, H⟩ := H
            (try dsimp only at H)
            have A42 := am_ A420
            clear A420
            have H' := am_ H
            clear H
            obtain ⟨Z43_0, Z43_1, Z43_2, Z43_3, Z43_4, Z43_5, Z43_6, Z43_7, Z43_8, Z43_9, Z43_10, Z43_11, Z43_12, Z43_13, Z43_14, Z43_15, Z43_16, Z43_17, Z43_18, Z43_19, Z43_20, Z43_21, Z43_22, Z43_23, Z43_24, Y43_0, Y43_1, Y43_2, Y43_3, Y43_4, Y43_5, Y43_6, Y43_7, Y43_8, Y43_9, Y43_10, Y43_11, Y43_12, Y43_13, Y43_14, Y43_15, Y43_16, Y43_17, Y43_18, Y43_19, Y43_20, Y43_21, Y43_22, Y43_23, Y43_24⟩ := cz25_ BK126.out
            go_wp2_with (first | ((with_reducible refine gate_load_ (t := 27) rfl ?_); refine ld_ (t := 27) Tryd.underlying27 rfl rfl rfl (qd_ BK126.out) rfl (by kernel_rfl) ?_) | ((with_reducible refine gate_load_ (t := 27) rfl ?_); refine ldgA_ (t := 27) Tryd.underlying27 rfl (by rfl) rfl (qd_ BK126.out) rfl (by kernel_rfl) ?_) | (go_at_call 41; (with_reducible refine (loan_left.calls kj20 a0_0 a0_1 a0_2 a0_3 a0_4 a0_5 a0_6 a0_7 a0_8 a0_9 a0_10 a0_11 a0_12 a0_13 a0_14 a0_15 a0_16 a0_17 a0_18 a0_19 a0_20 a0_21 a0_22 _ _ l0_23 _ _ l0_24 t133 _ ?side1 ?side2 ?side3 ?side4 A42.out).mono ?_); (case side1 => repeat (first | exact (Kd.C_below HR0_23.out HB.out) | (with_reducible refine Kd.C_alloc ?_ _) | (with_reducible refine Kd.C_drewN ?_ _) | (with_reducible refine Kd.C_drew ?_))); (case side2 => exact HC0_23.out); (case side3 => repeat (first | exact (Kd.C_below HR0_24.out HB.out) | (with_reducible refine Kd.C_alloc ?_ _) | (with_reducible refine Kd.C_drewN ?_ _) | (with_reducible refine Kd.C_drew ?_))); (case side4 => exact HC0_24.out); rintro e w44 ⟨rfl, hb⟩; replace BK126 := am_ (blk_below (qk_ BK126.out) hb); replace HB := am_ (below_step (qb1_ GE126.out HB.out) hb); (try clear hb)))
            go_meet
            case rel => exact ⟨_, (!t133), qs_, H', ⟨by have := HJ6.out; have := HJ20.out; first | omega | exact Nat.le_refl _⟩, ⟨qk_ BK126.out⟩, ⟨qb1_ GE126.out HB.out⟩⟩
           ·rw [if_neg c41] at H
            have c41b0 : (a0_2 == 1) = false := beq_eq_false_iff_ne.mpr c41
            have c41b1 : (a0_2 != 1) = true := bne_iff_ne.mpr c41
            have H' := am_ H
            clear H
            obtain ⟨Z45_0, Z45_1, Z45_2, Z45_3, Z45_4, Z45_5, Z45_6, Z45_7, Z45_8, Z45_9, Z45_10, Z45_11, Z45_12, Z45_13, Z45_14, Z45_15, Z45_16, Z45_17, Z45_18, Z45_19, Z45_20, Z45_21, Z45_22, Z45_23, Z45_24, Y45_0, Y45_1, Y45_2, Y45_3, Y45_4, Y45_5, Y45_6, Y45_7, Y45_8, Y45_9, Y45_10, Y45_11, Y45_12, Y45_13, Y45_14, Y45_15, Y45_16, Y45_17, Y45_18, Y45_19, Y45_20, Y45_21, Y45_22, Y45_23, Y45_24⟩ := cz25_ BK126.out
            go_wp2
            go_meet
            case rel => exact ⟨_, (false), qs_, H', ⟨by have := HJ6.out; have := HJ20.out; first | omega | exact Nat.le_refl _⟩, ⟨qk_ BK126.out⟩, ⟨qb1_ GE126.out HB.out⟩⟩
         case rest =>
          clear HC26
          try clear c2
          try clear p2
          try clear c3
          try clear c4
          try clear c25
          try clear c27
          try clear c27b0
          try clear c27b1
          try clear c29
          try clear c32
          try clear c32b0
          try clear c32b1
          try clear c41
          try clear c41b0
          try clear c41b1
          (try clear Z24_19 Z24_2 Z24_20 Z24_21 Z24_22 Z24_23 Z24_24 Z24_3 Z24_4 Z24_5 Z24_6 Z24_7 Z24_8 Z24_9 Y24_0 Y24_1 Y24_10 Y24_11 Y24_12 Y24_13 Y24_14 Y24_15 Y24_16 Y24_17 Y24_18 Y24_19 Y24_2 Y24_20 Y24_21 Y24_22 Y24_23 Y24_24 Y24_3 Y24_4 Y24_5 Y24_6 Y24_7 Y24_8 Y24_9)
          (try clear Z30_0 Z30_1 Z30_10 Z30_11 Z30_12 Z30_13 Z30_14 Z30_15 Z30_16 Z30_17 Z30_18 Z30_19 Z30_2 Z30_20 Z30_21 Z30_22 Z30_23 Z30_24 Z30_3 Z30_4 Z30_5 Z30_6 Z30_7 Z30_8 Z30_9 Y30_0 Y30_1 Y30_10 Y30_11 Y30_12 Y30_13 Y30_14 Y30_15 Y30_16 Y30_17 Y30_18 Y30_19 Y30_2 Y30_20 Y30_21 Y30_22 Y30_23 Y30_24 Y30_3 Y30_4 Y30_5 Y30_6 Y30_7 Y30_8 Y30_9)
          (try clear Z34_0 Z34_1 Z34_10 Z34_11 Z34_12 Z34_13 Z34_14 Z34_15 Z34_16 Z34_17 Z34_18 Z34_19 Z34_2 Z34_20 Z34_21 Z34_22 Z34_23 Z34_24 Z34_3 Z34_4 Z34_5 Z34_6 Z34_7 Z34_8 Z34_9 Y34_0 Y34_1 Y34_10 Y34_11 Y34_12 Y34_13 Y34_14 Y34_15 Y34_16 Y34_17 Y34_18 Y34_19 Y34_2 Y34_20 Y34_21 Y34_22 Y34_23 Y34_24 Y34_3 Y34_4 Y34_5 Y34_6 Y34_7 Y34_8 Y34_9)
          (try clear Z36_0 Z36_1 Z36_10 Z36_11 Z36_12 Z36_13 Z36_14 Z36_15 Z36_16 Z36_17 Z36_18 Z36_19 Z36_2 Z36_20 Z36_21 Z36_22 Z36_23 Z36_24 Z36_3 Z36_4 Z36_5 Z36_6 Z36_7 Z36_8 Z36_9 Y36_0 Y36_1 Y36_10 Y36_11 Y36_12 Y36_13 Y36_14 Y36_15 Y36_16 Y36_17 Y36_18 Y36_19 Y36_2 Y36_20 Y36_21 Y36_22 Y36_23 Y36_24 Y36_3 Y36_4 Y36_5 Y36_6 Y36_7 Y36_8 Y36_9)
          (try clear Z38_0 Z38_1 Z38_10 Z38_11 Z38_12 Z38_13 Z38_14 Z38_15 Z38_16 Z38_17 Z38_18 Z38_19 Z38_2 Z38_20 Z38_21 Z38_22 Z38_23 Z38_24 Z38_3 Z38_4 Z38_5 Z38_6 Z38_7 Z38_8 Z38_9 Y38_0 Y38_1 Y38_10 Y38_11 Y38_12 Y38_13 Y38_14 Y38_15 Y38_16 Y38_17 Y38_18 Y38_19 Y38_2 Y38_20 Y38_21 Y38_22 Y38_23 Y38_24 Y38_3 Y38_4 Y38_5 Y38_6 Y38_7 Y38_8 Y38_9)
          (try clear Z40_0 Z40_1 Z40_10 Z40_11 Z40_12 Z40_13 Z40_14 Z40_15 Z40_16 Z40_17 Z40_18 Z40_19 Z40_2 Z40_20 Z40_21 Z40_22 Z40_23 Z40_24 Z40_3 Z40_4 Z40_5 Z40_6 Z40_7 Z40_8 Z40_9 Y40_0 Y40_1 Y40_10 Y40_11 Y40_12 Y40_13 Y40_14 Y40_15 Y40_16 Y40_17 Y40_18 Y40_19 Y40_2 Y40_20 Y40_21 Y40_22 Y40_23 Y40_24 Y40_3 Y40_4 Y40_5 Y40_6 Y40_7 Y40_8 Y40_9)
          (try clear Z43_0 Z43_1 Z43_10 Z43_11 Z43_12 Z43_13 Z43_14 Z43_15 Z43_16 Z43_17 Z43_18 Z43_19 Z43_2 Z43_20 Z43_21 Z43_22 Z43_23 Z43_24 Z43_3 Z43_4 Z43_5 Z43_6 Z43_7 Z43_8 Z43_9 Y43_0 Y43_1 Y43_10 Y43_11 Y43_12 Y43_13 Y43_14 Y43_15 Y43_16 Y43_17 Y43_18 Y43_19 Y43_2 Y43_20 Y43_21 Y43_22 Y43_23 Y43_24 Y43_3 Y43_4 Y43_5 Y43_6 Y43_7 Y43_8 Y43_9)
          (try clear Z45_0 Z45_1 Z45_10 Z45_11 Z45_12 Z45_13 Z45_14 Z45_15 Z45_16 Z45_17 Z45_18 Z45_19 Z45_2 Z45_20 Z45_21 Z45_22 Z45_23 Z45_24 Z45_3 Z45_4 Z45_5 Z45_6 Z45_7 Z45_8 Z45_9 Y45_0 Y45_1 Y45_10 Y45_11 Y45_12 Y45_13 Y45_14 Y45_15 Y45_16 Y45_17 Y45_18 Y45_19 Y45_2 Y45_20 Y45_21 Y45_22 Y45_23 Y45_24 Y45_3 Y45_4 Y45_5 Y45_6 Y45_7 Y45_8 Y45_9)
          (try clear Z9_0 Z9_1 Z9_10 Z9_11 Z9_12 Z9_13 Z9_14 Z9_15 Z9_16 Z9_17 Z9_18 Z9_19 Z9_2 Z9_20 Z9_21 Z9_22 Z9_23 Z9_24 Z9_3 Z9_4 Z9_5 Z9_6 Z9_7 Z9_8 Z9_9 Y9_0 Y9_1 Y9_10 Y9_11 Y9_12 Y9_13 Y9_14 Y9_15 Y9_16 Y9_17 Y9_18 Y9_19 Y9_2 Y9_20 Y9_21 Y9_22 Y9_23 Y9_24 Y9_3 Y9_4 Y9_5 Y9_6 Y9_7 Y9_8 Y9_9)
          (try clear Y11_0 Y11_1 Y11_10 Y11_11 Y11_12 Y11_13 Y11_14 Y11_15 Y11_16 Y11_17 Y11_18 Y11_19 Y11_2 Y11_20 Y11_21 Y11_22 Y11_23 Y11_24 Y11_3 Y11_4 Y11_5 Y11_6 Y11_7 Y11_8 Y11_9)
          (try clear Y13_0 Y13_1 Y13_10 Y13_11 Y13_12 Y13_13 Y13_14 Y13_15 Y13_16 Y13_17 Y13_18 Y13_19 Y13_2 Y13_20 Y13_21 Y13_22 Y13_23 Y13_24 Y13_3 Y13_4 Y13_5 Y13_6 Y13_7 Y13_8 Y13_9)
          (try clear Y16_0 Y16_1 Y16_10 Y16_11 Y16_12 Y16_13 Y16_14 Y16_15 Y16_16 Y16_17 Y16_18 Y16_19 Y16_2 Y16_20 Y16_21 Y16_22 Y16_23 Y16_24 Y16_3 Y16_4 Y16_5 Y16_6 Y16_7 Y16_8 Y16_9)
          (try clear Y18_0 Y18_1 Y18_10 Y18_11 Y18_12 Y18_13 Y18_14 Y18_15 Y18_16 Y18_17 Y18_18 Y18_19 Y18_2 Y18_20 Y18_21 Y18_22 Y18_23 Y18_24 Y18_3 Y18_4 Y18_5 Y18_6 Y18_7 Y18_8 Y18_9)
          (try clear Y19_0 Y19_1 Y19_10 Y19_11 Y19_12 Y19_13 Y19_14 Y19_15 Y19_16 Y19_17 Y19_18 Y19_19 Y19_2 Y19_20 Y19_21 Y19_22 Y19_23 Y19_24 Y19_3 Y19_4 Y19_5 Y19_6 Y19_7 Y19_8 Y19_9)
          (try clear Y23_0 Y23_1 Y23_10 Y23_11 Y23_12 Y23_13 Y23_14 Y23_15 Y23_16 Y23_17 Y23_18 Y23_19 Y23_2 Y23_20 Y23_21 Y23_22 Y23_23 Y23_24 Y23_3 Y23_4 Y23_5 Y23_6 Y23_7 Y23_8 Y23_9)
          try clear p2
          obtain ⟨kq, x48_25, rfl, HA, HJ25, BK126, HB⟩ := hcut
          cases kq with
          | zero => exact absurd HA.out (by simp [loan_Check.j2])
          | succ kj25 =>
           have H := HA.out
           clear HA
           simp only [loan_Check.j2] at H
           by_cases c46 : x48_25 = true
           ·subst c46
            rw [if_pos rfl] at H
            obtain rfl := Option.some.inj H
            go_wp2
            go_ret
            exact ⟨qe_, qb1_ GE126.out HB.out⟩
           ·replace c46 := Bool.eq_false_iff.mpr c46
            subst c46
            rw [if_neg (show ¬ (false = true) by decide)] at H
            have HC47 := am_ H
            clear H
            go_upto_region 12 with (fail)
            go_cut [66] (fun v66 wc => ∃ (kq : Nat) (x66_46 : Bool), v66 = .bool x66_46 ∧ Aside0 (loan_Check.j3 kq x66_46 = some r) ∧ Aside0 (kq ≤ kj25) ∧ Aside0 (wc.heap[gb126]? = some (.cells #[.int .i64 a0_0, .int .i64 a0_1, .int .i64 a0_2, .int .i64 a0_3, .int .i64 a0_4, .int .i64 a0_5, .int .i64 a0_6, .int .i64 a0_7, .int .i64 a0_8, .int .i64 a0_9, .int .i64 a0_10, .int .i64 a0_11, .int .i64 a0_12, .int .i64 a0_13, .int .i64 a0_14, .int .i64 a0_15, .int .i64 a0_16, .int .i64 a0_17, .int .i64 a0_18, .int .i64 a0_19, .int .i64 a0_20, .string a0_21, .string a0_22, (.slice A0_23 l0_23.length c0_23), (.slice A0_24 l0_24.length c0_24)] 27 (0, 0))) ∧ Aside0 (Below w.heap.size w wc))
            case first =>
             have H := HC47.out
             clear HC47
             by_cases c48 : a0_2 = 3
             ·rw [if_pos c48] at H
              have c48b0 : (a0_2 == 3) = true := beq_iff_eq.mpr c48
              have c48b1 : (a0_2 != 3) = false := bne_eq_false_iff_eq.mpr c48
              clear c48
              (first | rw [c48b0] | (simp only [i64_w, i32_w]; rw [c48b0]) | skip)
              have H' := am_ H
              clear H
              obtain ⟨Z49_0, Z49_1, Z49_2, Z49_3, Z49_4, Z49_5, Z49_6, Z49_7, Z49_8, Z49_9, Z49_10, Z49_11, Z49_12, Z49_13, Z49_14, Z49_15, Z49_16, Z49_17, Z49_18, Z49_19, Z49_20, Z49_21, Z49_22, Z49_23, Z49_24, Y49_0, Y49_1, Y49_2, Y49_3, Y49_4, Y49_5, Y49_6, Y49_7, Y49_8, Y49_9, Y49_10, Y49_11, Y49_12, Y49_13, Y49_14, Y49_15, Y49_16, Y49_17, Y49_18, Y49_19, Y49_20, Y49_21, Y49_22, Y49_23, Y49_24⟩ := cz25_ BK126.out
              go_wp2
              go_meet
              case rel => exact ⟨_, (false), qs_, H', ⟨by have := HJ6.out; have := HJ20.out; have := HJ25.out; first | omega | exact Nat.le_refl _⟩, ⟨qk_ BK126.out⟩, ⟨qb1_ GE126.out HB.out⟩⟩
             ·rw [if_neg c48] at H
              have c48b0 : (a0_2 == 3) = false := beq_eq_false_iff_ne.mpr c48
              have c48b1 : (a0_2 != 3) = true := bne_iff_ne.mpr c48
              (first | rw [c48b0] | (simp only [i64_w, i32_w]; rw [c48b0]) | skip)
              by_cases c50 : a0_9 = 0
              ·rw [if_pos c50] at H
               have c50b0 : (a0_9 == 0) = true := beq_iff_eq.mpr c50
               have c50b1 : (a0_9 != 0) = false := bne_eq_false_iff_eq.mpr c50
               clear c50
               have H' := am_ H
               clear H
               obtain ⟨Z51_0, Z51_1, Z51_2, Z51_3, Z51_4, Z51_5, Z51_6, Z51_7, Z51_8, Z51_9, Z51_10, Z51_11, Z51_12, Z51_13, Z51_14, Z51_15, Z51_16, Z51_17, Z51_18, Z51_19, Z51_20, Z51_21, Z51_22, Z51_23, Z51_24, Y51_0, Y51_1, Y51_2, Y51_3, Y51_4, Y51_5, Y51_6, Y51_7, Y51_8, Y51_9, Y51_10, Y51_11, Y51_12, Y51_13, Y51_14, Y51_15, Y51_16, Y51_17, Y51_18, Y51_19, Y51_20, Y51_21, Y51_22, Y51_23, Y51_24⟩ := cz25_ BK126.out
               go_wp2
               go_meet
               case rel => exact ⟨_, ((a0_10 != 0)), qs_, H', ⟨by have := HJ6.out; have := HJ20.out; have := HJ25.out; first | omega | exact Nat.le_refl _⟩, ⟨qk_ BK126.out⟩, ⟨qb1_ GE126.out HB.out⟩⟩
              ·rw [if_neg c50] at H
               have c50b0 : (a0_9 == 0) = false := beq_eq_false_iff_ne.mpr c50
               have c50b1 : (a0_9 != 0) = true := bne_iff_ne.mpr c50
               have H' := am_ H
               clear H
               obtain ⟨Z52_0, Z52_1, Z52_2, Z52_3, Z52_4, Z52_5, Z52_6, Z52_7, Z52_8, Z52_9, Z52_10, Z52_11, Z52_12, Z52_13, Z52_14, Z52_15, Z52_16, Z52_17, Z52_18, Z52_19, Z52_20, Z52_21, Z52_22, Z52_23, Z52_24, Y52_0, Y52_1, Y52_2, Y52_3, Y52_4, Y52_5, Y52_6, Y52_7, Y52_8, Y52_9, Y52_10, Y52_11, Y52_12, Y52_13, Y52_14, Y52_15, Y52_16, Y52_17, Y52_18, Y52_19, Y52_20, Y52_21, Y52_22, Y52_23, Y52_24⟩ := cz25_ BK126.out
               go_wp2
               go_meet
               case rel => exact ⟨_, (true), qs_, H', ⟨by have := HJ6.out; have := HJ20.out; have := HJ25.out; first | omega | exact Nat.le_refl _⟩, ⟨qk_ BK126.out⟩, ⟨qb1_ GE126.out HB.out⟩⟩
            case rest =>
             clear HC47
             try clear p2
             try clear c4
             try clear c5
             try clear c46
             try clear c48
             try clear c48b0
             try clear c48b1
             try clear c50
             try clear c50b0
             try clear c50b1
             (try clear Z49_0 Z49_1 Z49_10 Z49_11 Z49_12 Z49_13 Z49_14 Z49_15 Z49_16 Z49_17 Z49_18 Z49_19 Z49_2 Z49_20 Z49_21 Z49_22 Z49_23 Z49_24 Z49_3 Z49_4 Z49_5 Z49_6 Z49_7 Z49_8 Z49_9 Y49_0 Y49_1 Y49_10 Y49_11 Y49_12 Y49_13 Y49_14 Y49_15 Y49_16 Y49_17 Y49_18 Y49_19 Y49_2 Y49_20 Y49_21 Y49_22 Y49_23 Y49_24 Y49_3 Y49_4 Y49_5 Y49_6 Y49_7 Y49_8 Y49_9)
             (try clear Z51_0 Z51_1 Z51_10 Z51_11 Z51_12 Z51_13 Z51_14 Z51_15 Z51_16 Z51_17 Z51_18 Z51_19 Z51_2 Z51_20 Z51_21 Z51_22 Z51_23 Z51_24 Z51_3 Z51_4 Z51_5 Z51_6 Z51_7 Z51_8 Z51_9 Y51_0 Y51_1 Y51_10 Y51_11 Y51_12 Y51_13 Y51_14 Y51_15 Y51_16 Y51_17 Y51_18 Y51_19 Y51_2 Y51_20 Y51_21 Y51_22 Y51_23 Y51_24 Y51_3 Y51_4 Y51_5 Y51_6 Y51_7 Y51_8 Y51_9)
             (try clear Z52_0 Z52_1 Z52_10 Z52_11 Z52_12 Z52_13 Z52_14 Z52_15 Z52_16 Z52_17 Z52_18 Z52_19 Z52_2 Z52_20 Z52_21 Z52_22 Z52_23 Z52_24 Z52_3 Z52_4 Z52_5 Z52_6 Z52_7 Z52_8 Z52_9 Y52_0 Y52_1 Y52_10 Y52_11 Y52_12 Y52_13 Y52_14 Y52_15 Y52_16 Y52_17 Y52_18 Y52_19 Y52_2 Y52_20 Y52_21 Y52_22 Y52_23 Y52_24 Y52_3 Y52_4 Y52_5 Y52_6 Y52_7 Y52_8 Y52_9)
             (try clear Z9_23 Z9_24 Z9_3 Z9_4 Z9_5 Z9_6 Z9_7 Z9_8 Z9_9 Y9_0 Y9_1 Y9_10 Y9_11 Y9_12 Y9_13 Y9_14 Y9_15 Y9_16 Y9_17 Y9_18 Y9_19 Y9_2 Y9_20 Y9_21 Y9_22 Y9_23 Y9_24 Y9_3 Y9_4 Y9_5 Y9_6 Y9_7 Y9_8 Y9_9)
             (try clear Y11_0 Y11_1 Y11_10 Y11_11 Y11_12 Y11_13 Y11_14 Y11_15 Y11_16 Y11_17 Y11_18 Y11_19 Y11_2 Y11_20 Y11_21 Y11_22 Y11_23 Y11_24 Y11_3 Y11_4 Y11_5 Y11_6 Y11_7 Y11_8 Y11_9)
             (try clear Y13_0 Y13_1 Y13_10 Y13_11 Y13_12 Y13_13 Y13_14 Y13_15 Y13_16 Y13_17 Y13_18 Y13_19 Y13_2 Y13_20 Y13_21 Y13_22 Y13_23 Y13_24 Y13_3 Y13_4 Y13_5 Y13_6 Y13_7 Y13_8 Y13_9)
             (try clear Y16_0 Y16_1 Y16_10 Y16_11 Y16_12 Y16_13 Y16_14 Y16_15 Y16_16 Y16_17 Y16_18 Y16_19 Y16_2 Y16_20 Y16_21 Y16_22 Y16_23 Y16_24 Y16_3 Y16_4 Y16_5 Y16_6 Y16_7 Y16_8 Y16_9)
             (try clear Y18_0 Y18_1 Y18_10 Y18_11 Y18_12 Y18_13 Y18_14 Y18_15 Y18_16 Y18_17 Y18_18 Y18_19 Y18_2 Y18_20 Y18_21 Y18_22 Y18_23 Y18_24 Y18_3 Y18_4 Y18_5 Y18_6 Y18_7 Y18_8 Y18_9)
             (try clear Y19_0 Y19_1 Y19_10 Y19_11 Y19_12 Y19_13 Y19_14 Y19_15 Y19_16 Y19_17 Y19_18 Y19_19 Y19_2 Y19_20 Y19_21 Y19_22 Y19_23 Y19_24 Y19_3 Y19_4 Y19_5 Y19_6 Y19_7 Y19_8 Y19_9)
             (try clear Y23_0 Y23_1 Y23_10 Y23_11 Y23_12 Y23_13 Y23_14 Y23_15 Y23_16 Y23_17 Y23_18 Y23_19 Y23_2 Y23_20 Y23_21 Y23_22 Y23_23 Y23_24 Y23_3 Y23_4 Y23_5 Y23_6 Y23_7 Y23_8 Y23_9)
             (try clear Y24_0 Y24_1 Y24_10 Y24_11 Y24_12 Y24_13 Y24_14 Y24_15 Y24_16 Y24_17 Y24_18 Y24_19 Y24_2 Y24_20 Y24_21 Y24_22 Y24_23 Y24_24 Y24_3 Y24_4 Y24_5 Y24_6 Y24_7 Y24_8 Y24_9)
             (try clear Y30_0 Y30_1 Y30_10 Y30_11 Y30_12 Y30_13 Y30_14 Y30_15 Y30_16 Y30_17 Y30_18 Y30_19 Y30_2 Y30_20 Y30_21 Y30_22 Y30_23 Y30_24 Y30_3 Y30_4 Y30_5 Y30_6 Y30_7 Y30_8 Y30_9)
             (try clear Y34_0 Y34_1 Y34_10 Y34_11 Y34_12 Y34_13 Y34_14 Y34_15 Y34_16 Y34_17 Y34_18 Y34_19 Y34_2 Y34_20 Y34_21 Y34_22 Y34_23 Y34_24 Y34_3 Y34_4 Y34_5 Y34_6 Y34_7 Y34_8 Y34_9)
             (try clear Y36_0 Y36_1 Y36_10 Y36_11 Y36_12 Y36_13 Y36_14 Y36_15 Y36_16 Y36_17 Y36_18 Y36_19 Y36_2 Y36_20 Y36_21 Y36_22 Y36_23 Y36_24 Y36_3 Y36_4 Y36_5 Y36_6 Y36_7 Y36_8 Y36_9)
             (try clear Y38_0 Y38_1 Y38_10 Y38_11 Y38_12 Y38_13 Y38_14 Y38_15 Y38_16 Y38_17 Y38_18 Y38_19 Y38_2 Y38_20 Y38_21 Y38_22 Y38_23 Y38_24 Y38_3 Y38_4 Y38_5 Y38_6 Y38_7 Y38_8 Y38_9)
             (try clear Y40_0 Y40_1 Y40_10 Y40_11 Y40_12 Y40_13 Y40_14 Y40_15 Y40_16 Y40_17 Y40_18 Y40_19 Y40_2 Y40_20 Y40_21 Y40_22 Y40_23 Y40_24 Y40_3 Y40_4 Y40_5 Y40_6 Y40_7 Y40_8 Y40_9)
             (try clear Y43_0 Y43_1 Y43_10 Y43_11 Y43_12 Y43_13 Y43_14 Y43_15 Y43_16 Y43_17 Y43_18 Y43_19 Y43_2 Y43_20 Y43_21 Y43_22 Y43_23 Y43_24 Y43_3 Y43_4 Y43_5 Y43_6 Y43_7 Y43_8 Y43_9)
             (try clear Y45_0 Y45_1 Y45_10 Y45_11 Y45_12 Y45_13 Y45_14 Y45_15 Y45_16 Y45_17 Y45_18 Y45_19 Y45_2 Y45_20 Y45_21 Y45_22 Y45_23 Y45_24 Y45_3 Y45_4 Y45_5 Y45_6 Y45_7 Y45_8 Y45_9)
             try clear p2
             obtain ⟨kq, x66_46, rfl, HA, HJ46, BK126, HB⟩ := hcut
             cases kq with
             | zero => exact absurd HA.out (by simp [loan_Check.j3])
             | succ kj46 =>
              have H := HA.out
              clear HA
              simp only [loan_Check.j3] at H
              by_cases c53 : x66_46 = true
              ·subst c53
               rw [if_pos rfl] at H
               obtain rfl := Option.some.inj H
               go_wp2
               go_ret
               exact ⟨qe_, qb1_ GE126.out HB.out⟩
              ·replace c53 := Bool.eq_false_iff.mpr c53
               subst c53
               rw [if_neg (show ¬ (false = true) by decide)] at H
               obtain rfl := Option.some.inj H
               go_wp2
               go_ret
               exact ⟨qe_, qb1_ GE126.out HB.out⟩
  ·replace c5 := Bool.eq_false_iff.mpr c5
   subst c5
   rw [if_neg (show ¬ (false = true) by decide)] at H
   obtain rfl := Option.some.inj H
   go_enter Tryd.func13, Tryd.ntmps13
   go_wp2_with (first | ((with_reducible refine gate_load_ (t := 27) rfl ?_); refine ld_ (t := 27) Tryd.underlying27 rfl rfl rfl (qd_ BK126.out) rfl (by kernel_rfl) ?_) | ((with_reducible refine gate_load_ (t := 27) rfl ?_); refine ldgA_ (t := 27) Tryd.underlying27 rfl (by rfl) rfl (qd_ BK126.out) rfl (by kernel_rfl) ?_) | ((with_reducible refine gate_dst (N := 1) rfl ?_); refine be_ (N := 1) (cs := #[.int .i64 a0_0, .int .i64 a0_1, .int .i64 a0_2, .int .i64 a0_3, .int .i64 a0_4, .int .i64 a0_5, .int .i64 a0_6, .int .i64 a0_7, .int .i64 a0_8, .int .i64 a0_9, .int .i64 a0_10, .int .i64 a0_11, .int .i64 a0_12, .int .i64 a0_13, .int .i64 a0_14, .int .i64 a0_15, .int .i64 a0_16, .int .i64 a0_17, .int .i64 a0_18, .int .i64 a0_19, .int .i64 a0_20, .string a0_21, .string a0_22, .slice A0_23 l0_23.length c0_23, .slice A0_24 l0_24.length c0_24]) (t := 27) ?_; intro gb126 hg w54 hbox hb; have BK126 := am_ (hbox); have GE126 := am_ (bz_ hg (qb_ HB.out) : w.heap.size ≤ gb126); replace HB := am_ (below_step (qb_ HB.out) hb); clear hb hbox hg; obtain ⟨Z55_0, Z55_1, Z55_2, Z55_3, Z55_4, Z55_5, Z55_6, Z55_7, Z55_8, Z55_9, Z55_10, Z55_11, Z55_12, Z55_13, Z55_14, Z55_15, Z55_16, Z55_17, Z55_18, Z55_19, Z55_20, Z55_21, Z55_22, Z55_23, Z55_24, Y55_0, Y55_1, Y55_2, Y55_3, Y55_4, Y55_5, Y55_6, Y55_7, Y55_8, Y55_9, Y55_10, Y55_11, Y55_12, Y55_13, Y55_14, Y55_15, Y55_16, Y55_17, Y55_18, Y55_19, Y55_20, Y55_21, Y55_22, Y55_23, Y55_24⟩ := cz25_ BK126.out) | ((with_reducible refine gate_callee (f := 38) rfl ?_); refine goesL_ (some 6) rfl rfl Tryd.func38 (by kernel_rfl) rfl #[.agg #[.int .i64 a0_0, .int .i64 a0_1, .int .i64 a0_2, .int .i64 a0_3, .int .i64 a0_4, .int .i64 a0_5, .int .i64 a0_6, .int .i64 a0_7, .int .i64 a0_8, .int .i64 a0_9, .int .i64 a0_10, .int .i64 a0_11, .int .i64 a0_12, .int .i64 a0_13, .int .i64 a0_14, .int .i64 a0_15, .int .i64 a0_16, .int .i64 a0_17, .int .i64 a0_18, .int .i64 a0_19, .int .i64 a0_20, .string a0_21, .string a0_22, .slice A0_23 l0_23.length c0_23, .slice A0_24 l0_24.length c0_24]] rfl ql_ ?_; (with_reducible refine (loan_numbers.calls k a0_0 a0_1 a0_2 a0_3 a0_4 a0_5 a0_6 a0_7 a0_8 a0_9 a0_10 a0_11 a0_12 a0_13 a0_14 a0_15 a0_16 a0_17 a0_18 a0_19 a0_20 a0_21 a0_22 _ _ l0_23 _ _ l0_24 true _ ?side1 ?side2 ?side3 ?side4 A2.out).mono ?_); (case side1 => repeat (first | exact (Kd.C_below HR0_23.out HB.out) | (with_reducible refine Kd.C_alloc ?_ _) | (with_reducible refine Kd.C_drewN ?_ _) | (with_reducible refine Kd.C_drew ?_))); (case side2 => exact HC0_23.out); (case side3 => repeat (first | exact (Kd.C_below HR0_24.out HB.out) | (with_reducible refine Kd.C_alloc ?_ _) | (with_reducible refine Kd.C_drewN ?_ _) | (with_reducible refine Kd.C_drew ?_))); (case side4 => exact HC0_24.out); rintro e w56 ⟨rfl, hb⟩; refine ⟨_, rfl, ?_⟩; replace BK126 := am_ (blk_below (qk_ BK126.out) hb); replace HB := am_ (below_step (qb1_ GE126.out HB.out) hb); (try clear hb); obtain ⟨Z57_0, Z57_1, Z57_2, Z57_3, Z57_4, Z57_5, Z57_6, Z57_7, Z57_8, Z57_9, Z57_10, Z57_11, Z57_12, Z57_13, Z57_14, Z57_15, Z57_16, Z57_17, Z57_18, Z57_19, Z57_20, Z57_21, Z57_22, Z57_23, Z57_24, Y57_0, Y57_1, Y57_2, Y57_3, Y57_4, Y57_5, Y57_6, Y57_7, Y57_8, Y57_9, Y57_10, Y57_11, Y57_12, Y57_13, Y57_14, Y57_15, Y57_16, Y57_17, Y57_18, Y57_19, Y57_20, Y57_21, Y57_22, Y57_23, Y57_24⟩ := cz25_ BK126.out) | ((with_reducible refine gate_callee (f := 39) rfl ?_); refine goesL_ (some 10) rfl rfl Tryd.func39 (by kernel_rfl) rfl #[.slice A0_23 l0_23.length c0_23] rfl ql_ ?_; (with_reducible refine (loan_ordered.calls k _ _ l0_23 false _ ?side1 ?side2 A4.out).mono ?_); (case side1 => repeat (first | exact (Kd.C_below HR0_23.out HB.out) | (with_reducible refine Kd.C_alloc ?_ _) | (with_reducible refine Kd.C_drewN ?_ _) | (with_reducible refine Kd.C_drew ?_))); (case side2 => exact HC0_23.out); rintro e w58 ⟨rfl, hb⟩; refine ⟨_, rfl, ?_⟩; replace BK126 := am_ (blk_below (qk_ BK126.out) hb); replace HB := am_ (below_step (qb1_ GE126.out HB.out) hb); (try clear hb)))
   go_ret
   exact ⟨qe_, qb1_ GE126.out HB.out⟩
 ·replace c3 := Bool.eq_false_iff.mpr c3
  subst c3
  rw [if_neg (show ¬ (false = true) by decide)] at H
  obtain rfl := Option.some.inj H
  go_enter Tryd.func13, Tryd.ntmps13
  go_wp2_with (first | ((with_reducible refine gate_load_ (t := 27) rfl ?_); refine ld_ (t := 27) Tryd.underlying27 rfl rfl rfl (qd_ BK126.out) rfl (by kernel_rfl) ?_) | ((with_reducible refine gate_load_ (t := 27) rfl ?_); refine ldgA_ (t := 27) Tryd.underlying27 rfl (by rfl) rfl (qd_ BK126.out) rfl (by kernel_rfl) ?_) | ((with_reducible refine gate_dst (N := 1) rfl ?_); refine be_ (N := 1) (cs := #[.int .i64 a0_0, .int .i64 a0_1, .int .i64 a0_2, .int .i64 a0_3, .int .i64 a0_4, .int .i64 a0_5, .int .i64 a0_6, .int .i64 a0_7, .int .i64 a0_8, .int .i64 a0_9, .int .i64 a0_10, .int .i64 a0_11, .int .i64 a0_12, .int .i64 a0_13, .int .i64 a0_14, .int .i64 a0_15, .int .i64 a0_16, .int .i64 a0_17, .int .i64 a0_18, .int .i64 a0_19, .int .i64 a0_20, .string a0_21, .string a0_22, .slice A0_23 l0_23.length c0_23, .slice A0_24 l0_24.length c0_24]) (t := 27) ?_; intro gb126 hg w59 hbox hb; have BK126 := am_ (hbox); have GE126 := am_ (bz_ hg (qb_ HB.out) : w.heap.size ≤ gb126); replace HB := am_ (below_step (qb_ HB.out) hb); clear hb hbox hg; obtain ⟨Z60_0, Z60_1, Z60_2, Z60_3, Z60_4, Z60_5, Z60_6, Z60_7, Z60_8, Z60_9, Z60_10, Z60_11, Z60_12, Z60_13, Z60_14, Z60_15, Z60_16, Z60_17, Z60_18, Z60_19, Z60_20, Z60_21, Z60_22, Z60_23, Z60_24, Y60_0, Y60_1, Y60_2, Y60_3, Y60_4, Y60_5, Y60_6, Y60_7, Y60_8, Y60_9, Y60_10, Y60_11, Y60_12, Y60_13, Y60_14, Y60_15, Y60_16, Y60_17, Y60_18, Y60_19, Y60_20, Y60_21, Y60_22, Y60_23, Y60_24⟩ := cz25_ BK126.out) | ((with_reducible refine gate_callee (f := 38) rfl ?_); refine goesL_ (some 6) rfl rfl Tryd.func38 (by kernel_rfl) rfl #[.agg #[.int .i64 a0_0, .int .i64 a0_1, .int .i64 a0_2, .int .i64 a0_3, .int .i64 a0_4, .int .i64 a0_5, .int .i64 a0_6, .int .i64 a0_7, .int .i64 a0_8, .int .i64 a0_9, .int .i64 a0_10, .int .i64 a0_11, .int .i64 a0_12, .int .i64 a0_13, .int .i64 a0_14, .int .i64 a0_15, .int .i64 a0_16, .int .i64 a0_17, .int .i64 a0_18, .int .i64 a0_19, .int .i64 a0_20, .string a0_21, .string a0_22, .slice A0_23 l0_23.length c0_23, .slice A0_24 l0_24.length c0_24]] rfl ql_ ?_; (with_reducible refine (loan_numbers.calls k a0_0 a0_1 a0_2 a0_3 a0_4 a0_5 a0_6 a0_7 a0_8 a0_9 a0_10 a0_11 a0_12 a0_13 a0_14 a0_15 a0_16 a0_17 a0_18 a0_19 a0_20 a0_21 a0_22 _ _ l0_23 _ _ l0_24 false _ ?side1 ?side2 ?side3 ?side4 A2.out).mono ?_); (case side1 => repeat (first | exact (Kd.C_below HR0_23.out HB.out) | (with_reducible refine Kd.C_alloc ?_ _) | (with_reducible refine Kd.C_drewN ?_ _) | (with_reducible refine Kd.C_drew ?_))); (case side2 => exact HC0_23.out); (case side3 => repeat (first | exact (Kd.C_below HR0_24.out HB.out) | (with_reducible refine Kd.C_alloc ?_ _) | (with_reducible refine Kd.C_drewN ?_ _) | (with_reducible refine Kd.C_drew ?_))); (case side4 => exact HC0_24.out); rintro e w61 ⟨rfl, hb⟩; refine ⟨_, rfl, ?_⟩; have n1_ := am_ (below_step (qb1_ GE126.out HB.out) hb); (try clear BK126); clear HB; have HB := n1_; clear n1_; (try clear hb)))
  go_ret
  exact ⟨qe_, qb1_ GE126.out HB.out⟩
end Go.Proofs.YtogcdcjbleafdaaDoor.PS
end
