import Derived.Test.YtogcdcjbleafdaaDoorQRm2
section
namespace Go.Proofs.YtogcdcjbleafdaaDoor.PS
open Go.RowKit Go.Proofs.YtogcdcjbleafdaaDoorW.PrintWords Go.Proofs.YtogcdcjbleafdaaDoorW.PrintLast Go.Proofs.YtogcdcjbleafdaaDoorW.PrintMore
attribute [local go_sem] max2_int min2_int max_two min_two
set_option linter.unusedVariables false
set_option linter.unusedSimpArgs false
def arrears_Overdue.l0 : Nat → Int → Int → List (S67) → Int → Int → Int → Int → Int → Int → Int → Int → Int → Int → Int → Int → Int → Int → Int → Int → Int → Int → Int → Int → Int → Int → Int → ByteArray → ByteArray → List (S67) → List (S70) → Option (Int)
 | 0, _, _, _, _, _, _, _, _, _, _, _, _, _, _, _, _, _, _, _, _, _, _, _, _, _, _, _, _, _, _ => none
 | k + 1, x1, x5, x9, x10, x11, x135000, x135001, x135002, x135003, x135004, x135005, x135006, x135007, x135008, x135009, x135010, x135011, x135012, x135013, x135014, x135015, x135016, x135017, x135018, x135019, x135020, x135021, x135022, x135023, x135024 => if x11 < x10 then (if 0 ≤ x11 then (if x11 < (x9.length : Int) then (if ((rd_T67 x9 x11).f1) ≤ x1 then (arrears_Overdue.l0 k x1 (wrap64 (x5 + ((rd_T67 x9 x11).f2))) x9 x10 (wrap64 (x11 + 1)) x135000 x135001 x135002 x135003 x135004 x135005 x135006 x135007 x135008 x135009 x135010 x135011 x135012 x135013 x135014 x135015 x135016 x135017 x135018 x135019 x135020 x135021 x135022 x135023 x135024) else (arrears_Overdue.l0 k x1 x5 x9 x10 (wrap64 (x11 + 1)) x135000 x135001 x135002 x135003 x135004 x135005 x135006 x135007 x135008 x135009 x135010 x135011 x135012 x135013 x135014 x135015 x135016 x135017 x135018 x135019 x135020 x135021 x135022 x135023 x135024)) else (none)) else (none)) else (some (mx (wrap64 (x5 - x135003)) 0))
def arrears_Overdue.f (k : Nat) (a0_0 a0_1 a0_2 a0_3 a0_4 a0_5 a0_6 a0_7 a0_8 a0_9 a0_10 a0_11 a0_12 a0_13 a0_14 a0_15 a0_16 a0_17 a0_18 a0_19 a0_20 : Int) (a0_21 a0_22 : ByteArray) (l0_23 : List (S67)) (l0_24 : List (S70)) (a1 : Int) : Option (Int) := arrears_Overdue.l0 k a1 0 l0_23 (l0_23.length : Int) 0 a0_0 a0_1 a0_2 a0_3 a0_4 a0_5 a0_6 a0_7 a0_8 a0_9 a0_10 a0_11 a0_12 a0_13 a0_14 a0_15 a0_16 a0_17 a0_18 a0_19 a0_20 a0_21 a0_22 l0_23 l0_24
theorem arrears_Overdue.mono_l : ∀ k, (∀ y0 y1 y2 y3 y4 y5 y6 y7 y8 y9 y10 y11 y12 y13 y14 y15 y16 y17 y18 y19 y20 y21 y22 y23 y24 y25 y26 y27 y28 y29, LeO (arrears_Overdue.l0 k y0 y1 y2 y3 y4 y5 y6 y7 y8 y9 y10 y11 y12 y13 y14 y15 y16 y17 y18 y19 y20 y21 y22 y23 y24 y25 y26 y27 y28 y29) (arrears_Overdue.l0 (k + 1) y0 y1 y2 y3 y4 y5 y6 y7 y8 y9 y10 y11 y12 y13 y14 y15 y16 y17 y18 y19 y20 y21 y22 y23 y24 y25 y26 y27 y28 y29))
 | 0 => fun _ _ _ _ _ _ _ _ _ _ _ _ _ _ _ _ _ _ _ _ _ _ _ _ _ _ _ _ _ _ r h => by simp [arrears_Overdue.l0] at h
 | k + 1 => by
  have ih0 := arrears_Overdue.mono_l k
  ·intro y0 y1 y2 y3 y4 y5 y6 y7 y8 y9 y10 y11 y12 y13 y14 y15 y16 y17 y18 y19 y20 y21 y22 y23 y24 y25 y26 y27 y28 y29
   unfold arrears_Overdue.l0
   repeat' first
   | (with_reducible apply ih0)
   | (with_reducible exact LeO.refl _)
   | (with_reducible exact LeO.none _)
   | (with_reducible refine LeO.ite ?_ ?_)
   | (with_reducible refine LeO.bind ?_ (fun _ => ?_))
   | apply ih0
   | exact LeO.none _
   | refine LeO.ite ?_ ?_
   | refine LeO.bind ?_ (fun _ => ?_)
theorem arrears_Overdue.mono : ∀ a0 a1 a2 a3 a4 a5 a6 a7 a8 a9 a10 a11 a12 a13 a14 a15 a16 a17 a18 a19 a20 a21 a22 a23 a24 a25 k, LeO (arrears_Overdue.f k a0 a1 a2 a3 a4 a5 a6 a7 a8 a9 a10 a11 a12 a13 a14 a15 a16 a17 a18 a19 a20 a21 a22 a23 a24 a25) (arrears_Overdue.f (k + 1) a0 a1 a2 a3 a4 a5 a6 a7 a8 a9 a10 a11 a12 a13 a14 a15 a16 a17 a18 a19 a20 a21 a22 a23 a24 a25) := by
 intro a0 a1 a2 a3 a4 a5 a6 a7 a8 a9 a10 a11 a12 a13 a14 a15 a16 a17 a18 a19 a20 a21 a22 a23 a24 a25 k
 have ih0 := arrears_Overdue.mono_l k
 unfold arrears_Overdue.f
 repeat' first
   | (with_reducible apply ih0)
   | (with_reducible exact LeO.refl _)
   | (with_reducible exact LeO.none _)
   | (with_reducible refine LeO.ite ?_ ?_)
   | (with_reducible refine LeO.bind ?_ (fun _ => ?_))
   | apply ih0
   | exact LeO.none _
   | refine LeO.ite ?_ ?_
   | refine LeO.bind ?_ (fun _ => ?_)
set_option maxHeartbeats 8000000 in
set_option maxRecDepth 100000 in
theorem arrears_Overdue.calls (k : Nat) (a0_0 a0_1 a0_2 a0_3 a0_4 a0_5 a0_6 a0_7 a0_8 a0_9 a0_10 a0_11 a0_12 a0_13 a0_14 a0_15 a0_16 a0_17 a0_18 a0_19 a0_20 : Int) (a0_21 a0_22 : ByteArray) (A0_23 : Option Addr) (c0_23 : Nat) (l0_23 : List (S67)) (A0_24 : Option Addr) (c0_24 : Nat) (l0_24 : List (S70)) (a1 r : Int) (w : World) (hr0_23 : Kd.C k67 w A0_23 l0_23.length l0_23) (hc0_23 : l0_23.length ≤ c0_23) (hr0_24 : Kd.C k70 w A0_24 l0_24.length l0_24) (hc0_24 : l0_24.length ≤ c0_24) (h : arrears_Overdue.f k a0_0 a0_1 a0_2 a0_3 a0_4 a0_5 a0_6 a0_7 a0_8 a0_9 a0_10 a0_11 a0_12 a0_13 a0_14 a0_15 a0_16 a0_17 a0_18 a0_19 a0_20 a0_21 a0_22 l0_23 l0_24 a1 = some r) :
  Calls Tryd.prog 17 #[.agg #[.int .i64 a0_0, .int .i64 a0_1, .int .i64 a0_2, .int .i64 a0_3, .int .i64 a0_4, .int .i64 a0_5, .int .i64 a0_6, .int .i64 a0_7, .int .i64 a0_8, .int .i64 a0_9, .int .i64 a0_10, .int .i64 a0_11, .int .i64 a0_12, .int .i64 a0_13, .int .i64 a0_14, .int .i64 a0_15, .int .i64 a0_16, .int .i64 a0_17, .int .i64 a0_18, .int .i64 a0_19, .int .i64 a0_20, .string a0_21, .string a0_22, .slice A0_23 l0_23.length c0_23, .slice A0_24 l0_24.length c0_24], .int .i64 a1] w fun e w' => e = .returned (.int .i64 r) ∧ Below w.heap.size w w' := by
 have hu27 := Tryd.underlying27
 have hu67 := Tryd.underlying67
 have HR0_23 := am_ hr0_23
 have HC0_23 := am_ hc0_23
 clear hr0_23 hc0_23
 have HR0_24 := am_ hr0_24
 have HC0_24 := am_ hc0_24
 clear hr0_24 hc0_24
 have HB := am_ (Below.refl w.heap.size w)
 have H := h
 clear h
 unfold arrears_Overdue.f at H
 have H' := am_ H
 clear H
 go_enter Tryd.func17, Tryd.ntmps17
 go_wp2_with (first | ((with_reducible refine gate_load_ (t := 27) rfl ?_); refine ld_ (t := 27) Tryd.underlying27 rfl rfl rfl (by (repeat (first | (with_reducible first | refine blk_drewN ?_ _ | refine blk_drew ?_ | refine blk_alloc ?_ _) | refine blk_far ?_ NB134_136.out _ | refine blk_set ?_ _ _)); (with_reducible first | exact BK134.out)) rfl (by kernel_rfl) ?_) | ((with_reducible refine gate_load_ (t := 27) rfl ?_); refine ldgA_ (t := 27) Tryd.underlying27 rfl (by rfl) rfl (by (repeat (first | (with_reducible first | refine blk_drewN ?_ _ | refine blk_drew ?_ | refine blk_alloc ?_ _) | refine blk_far ?_ NB134_136.out _ | refine blk_set ?_ _ _)); (with_reducible first | exact BK134.out)) rfl (by kernel_rfl) ?_) | ((with_reducible refine gate_dst (N := 2) rfl ?_); refine be_ (N := 2) (cs := #[.int .i64 a0_0, .int .i64 a0_1, .int .i64 a0_2, .int .i64 a0_3, .int .i64 a0_4, .int .i64 a0_5, .int .i64 a0_6, .int .i64 a0_7, .int .i64 a0_8, .int .i64 a0_9, .int .i64 a0_10, .int .i64 a0_11, .int .i64 a0_12, .int .i64 a0_13, .int .i64 a0_14, .int .i64 a0_15, .int .i64 a0_16, .int .i64 a0_17, .int .i64 a0_18, .int .i64 a0_19, .int .i64 a0_20, .string a0_21, .string a0_22, .slice A0_23 l0_23.length c0_23, .slice A0_24 l0_24.length c0_24]) (t := 27) ?_; intro gb134 hg w3 hbox hb; have BK134 := am_ (hbox); have GE134 := am_ (bz_ hg (qb_ HB.out) : w.heap.size ≤ gb134); replace HB := am_ (below_step (qb_ HB.out) hb); clear hb hbox hg; obtain ⟨Z4_0, Z4_1, Z4_2, Z4_3, Z4_4, Z4_5, Z4_6, Z4_7, Z4_8, Z4_9, Z4_10, Z4_11, Z4_12, Z4_13, Z4_14, Z4_15, Z4_16, Z4_17, Z4_18, Z4_19, Z4_20, Z4_21, Z4_22, Z4_23, Z4_24, Y4_0, Y4_1, Y4_2, Y4_3, Y4_4, Y4_5, Y4_6, Y4_7, Y4_8, Y4_9, Y4_10, Y4_11, Y4_12, Y4_13, Y4_14, Y4_15, Y4_16, Y4_17, Y4_18, Y4_19, Y4_20, Y4_21, Y4_22, Y4_23, Y4_24⟩ := cz25_ BK134.out))
 go_loopg [5, 11] k (fun kq v5 v11 w' => ∃ (x5_1 x11_1 : Int), v5 = .int .i64 x5_1 ∧ v11 = .int .i64 x11_1 ∧ Aside0 (arrears_Overdue.l0 kq a1 x5_1 l0_23 (l0_23.length : Int) x11_1 a0_0 a0_1 a0_2 a0_3 a0_4 a0_5 a0_6 a0_7 a0_8 a0_9 a0_10 a0_11 a0_12 a0_13 a0_14 a0_15 a0_16 a0_17 a0_18 a0_19 a0_20 a0_21 a0_22 l0_23 l0_24 = some r) ∧ Aside0 (kq ≤ k) ∧ Aside0 (w'.heap[gb134]? = some (.cells #[.int .i64 a0_0, .int .i64 a0_1, .int .i64 a0_2, .int .i64 a0_3, .int .i64 a0_4, .int .i64 a0_5, .int .i64 a0_6, .int .i64 a0_7, .int .i64 a0_8, .int .i64 a0_9, .int .i64 a0_10, .int .i64 a0_11, .int .i64 a0_12, .int .i64 a0_13, .int .i64 a0_14, .int .i64 a0_15, .int .i64 a0_16, .int .i64 a0_17, .int .i64 a0_18, .int .i64 a0_19, .int .i64 a0_20, .string a0_21, .string a0_22, (.slice A0_23 l0_23.length c0_23), (.slice A0_24 l0_24.length c0_24)] 27 (0, 0))) ∧ Aside0 (Below w.heap.size w w'))
 case atStart => exact ⟨(0), (0), qs_, qs_, H', ⟨Nat.le_refl _⟩, ⟨qk_ BK134.out⟩, ⟨qb1_ GE134.out HB.out⟩⟩
 case round =>
  clear H'
  try clear c1
  try clear p2
  (try clear Z4_0 Z4_1 Z4_10 Z4_11 Z4_12 Z4_13 Z4_14 Z4_15 Z4_16 Z4_17 Z4_18 Z4_19 Z4_2 Z4_20 Z4_21 Z4_22 Z4_23 Z4_24 Z4_3 Z4_4 Z4_5 Z4_6 Z4_7 Z4_8 Z4_9 Y4_0 Y4_1 Y4_10 Y4_11 Y4_12 Y4_13 Y4_14 Y4_15 Y4_16 Y4_17 Y4_18 Y4_19 Y4_2 Y4_20 Y4_21 Y4_22 Y4_23 Y4_24 Y4_3 Y4_4 Y4_5 Y4_6 Y4_7 Y4_8 Y4_9)
  obtain ⟨x5_1, x11_1, rfl, rfl, HA, HK1, BK134, HB⟩ := hrel
  cases gk with
  | zero => exact absurd HA.out (by simp [arrears_Overdue.l0])
  | succ k1 =>
   have H := HA.out
   clear HA
   simp only [arrears_Overdue.l0] at H
   by_cases c5 : x11_1 < (l0_23.length : Int)
   ·rw [if_pos c5] at H
    have c5b0 : decide (x11_1 < (l0_23.length : Int)) = true := decide_eq_true c5
    clear c5
    by_cases c6 : 0 ≤ x11_1
    ·rw [if_pos c6] at H
     have c6b0 : decide (0 ≤ x11_1) = true := decide_eq_true c6
     clear c6
     by_cases c7 : x11_1 < (l0_23.length : Int)
     ·rw [if_pos c7] at H
      have c7b0 : decide (x11_1 < (l0_23.length : Int)) = true := decide_eq_true c7
      clear c7
      by_cases c8 : ((rd_T67 l0_23 x11_1).f1) ≤ a1
      ·rw [if_pos c8] at H
       have c8b0 : decide (((rd_T67 l0_23 x11_1).f1) ≤ a1) = true := decide_eq_true c8
       clear c8
       have H' := am_ H
       clear H
       have p135 : 0 ≤ (x11_1 : Int) := of_decide_eq_true (by first | (with_reducible assumption) | assumption)
       have q135 : x11_1 < (l0_23.length : Int) := of_decide_eq_true (by first | (with_reducible assumption) | assumption)
       obtain ⟨ad135, e135, hx135_0, hx135_1, hx135_2, hx135_3⟩ := at_T67 HR0_23.out x11_1 p135 q135
       cases e135
       replace hx135_0 := bx_ HB.out hx135_0
       replace hx135_1 := bx_ HB.out hx135_1
       replace hx135_2 := bx_ HB.out hx135_2
       replace hx135_3 := bx_ HB.out hx135_3
       replace p135 := eq_true p135
       replace q135 := eq_true q135
       go_wp2_with (first | ((with_reducible refine gate_load_ (t := 27) rfl ?_); refine ld_ (t := 27) Tryd.underlying27 rfl rfl rfl (by (repeat (first | (with_reducible first | refine blk_drewN ?_ _ | refine blk_drew ?_ | refine blk_alloc ?_ _) | refine blk_far ?_ NB134_136.out _ | refine blk_set ?_ _ _)); (with_reducible first | exact BK134.out)) rfl (by kernel_rfl) ?_) | ((with_reducible refine gate_load_ (t := 27) rfl ?_); refine ldgA_ (t := 27) Tryd.underlying27 rfl (by rfl) rfl (by (repeat (first | (with_reducible first | refine blk_drewN ?_ _ | refine blk_drew ?_ | refine blk_alloc ?_ _) | refine blk_far ?_ NB134_136.out _ | refine blk_set ?_ _ _)); (with_reducible first | exact BK134.out)) rfl (by kernel_rfl) ?_) | ((with_reducible refine gate_dst (N := 7) rfl ?_); refine be_ (N := 7) (cs := #[.int .i64 0, .int .i64 0, .int .i64 0, .int .i64 0]) (t := 67) ?_; intro gb136 hg w9 hbox hb; have BK136 := am_ (hbox); have GE136 := am_ (bz_ hg (qb1_ GE134.out HB.out) : w.heap.size ≤ gb136); replace HB := am_ (below_step (qb1_ GE134.out HB.out) hb); have NB134_136 := am_ (nl_ hg (qk_ BK134.out) : gb134 ≠ gb136); have NB136_134 := am_ (ng_ hg (qk_ BK134.out) : gb136 ≠ gb134); replace BK134 := am_ (blk_below (qk_ BK134.out) hb); clear hb hbox hg; have hnb10 := NB136_134.out; have hnc10 := NB134_136.out; obtain ⟨Z11_0, Z11_1, Z11_2, Z11_3, Y11_0, Y11_1, Y11_2, Y11_3⟩ := cz4_ BK136.out))
       go_roundg k1
       case measure => have := HK1.out; omega
       case rel => exact ⟨(wrap64 (x5_1 + ((rd_T67 l0_23 x11_1).f2))), (wrap64 (x11_1 + 1)), qs_, qs_, H', ⟨by have := HK1.out; omega⟩, ⟨qffff_ NB134_136.out NB134_136.out NB134_136.out NB134_136.out BK134.out⟩, ⟨qb2_ GE134.out GE136.out HB.out⟩⟩
      ·rw [if_neg c8] at H
       have c8b0 : decide (((rd_T67 l0_23 x11_1).f1) ≤ a1) = false := decide_eq_false c8
       clear c8
       have H' := am_ H
       clear H
       have p135 : 0 ≤ (x11_1 : Int) := of_decide_eq_true (by first | (with_reducible assumption) | assumption)
       have q135 : x11_1 < (l0_23.length : Int) := of_decide_eq_true (by first | (with_reducible assumption) | assumption)
       obtain ⟨ad135, e135, hx135_0, hx135_1, hx135_2, hx135_3⟩ := at_T67 HR0_23.out x11_1 p135 q135
       cases e135
       replace hx135_0 := bx_ HB.out hx135_0
       replace hx135_1 := bx_ HB.out hx135_1
       replace hx135_2 := bx_ HB.out hx135_2
       replace hx135_3 := bx_ HB.out hx135_3
       replace p135 := eq_true p135
       replace q135 := eq_true q135
       go_wp2_with (first | ((with_reducible refine gate_load_ (t := 27) rfl ?_); refine ld_ (t := 27) Tryd.underlying27 rfl rfl rfl (by (repeat (first | (with_reducible first | refine blk_drewN ?_ _ | refine blk_drew ?_ | refine blk_alloc ?_ _) | refine blk_far ?_ NB134_136.out _ | refine blk_set ?_ _ _)); (with_reducible first | exact BK134.out)) rfl (by kernel_rfl) ?_) | ((with_reducible refine gate_load_ (t := 27) rfl ?_); refine ldgA_ (t := 27) Tryd.underlying27 rfl (by rfl) rfl (by (repeat (first | (with_reducible first | refine blk_drewN ?_ _ | refine blk_drew ?_ | refine blk_alloc ?_ _) | refine blk_far ?_ NB134_136.out _ | refine blk_set ?_ _ _)); (with_reducible first | exact BK134.out)) rfl (by kernel_rfl) ?_) | ((with_reducible refine gate_dst (N := 7) rfl ?_); refine be_ (N := 7) (cs := #[.int .i64 0, .int .i64 0, .int .i64 0, .int .i64 0]) (t := 67) ?_; intro gb136 hg w12 hbox hb; have BK136 := am_ (hbox); have GE136 := am_ (bz_ hg (qb1_ GE134.out HB.out) : w.heap.size ≤ gb136); replace HB := am_ (below_step (qb1_ GE134.out HB.out) hb); have NB134_136 := am_ (nl_ hg (qk_ BK134.out) : gb134 ≠ gb136); have NB136_134 := am_ (ng_ hg (qk_ BK134.out) : gb136 ≠ gb134); replace BK134 := am_ (blk_below (qk_ BK134.out) hb); clear hb hbox hg; have hnb13 := NB136_134.out; have hnc13 := NB134_136.out; obtain ⟨Z14_0, Z14_1, Z14_2, Z14_3, Y14_0, Y14_1, Y14_2, Y14_3⟩ := cz4_ BK136.out))
       go_roundg k1
       case measure => have := HK1.out; omega
       case rel => exact ⟨(x5_1), (wrap64 (x11_1 + 1)), qs_, qs_, H', ⟨by have := HK1.out; omega⟩, ⟨qffff_ NB134_136.out NB134_136.out NB134_136.out NB134_136.out BK134.out⟩, ⟨qb2_ GE134.out GE136.out HB.out⟩⟩
     ·rw [if_neg c7] at H
      exact absurd H (by simp)
    ·rw [if_neg c6] at H
     exact absurd H (by simp)
   ·rw [if_neg c5] at H
    have c5b0 : decide (x11_1 < (l0_23.length : Int)) = false := decide_eq_false c5
    clear c5
    obtain ⟨ji15, hji15⟩ : ∃ j_ : Int, (mx (wrap64 (x5_1 - a0_3)) 0) = j_ := ⟨_, rfl⟩
    replace H : (some ji15) = some r := by first | (rw [hji15] at H; exact H) | (simp only [hji15] at H ⊢; exact H)
    have hji15_ : (if (wrap64 (x5_1 - a0_3)) < 0 then 0 else (wrap64 (x5_1 - a0_3))) = ji15 := hji15
    obtain rfl := Option.some.inj H
    obtain ⟨Z16_0, Z16_1, Z16_2, Z16_3, Z16_4, Z16_5, Z16_6, Z16_7, Z16_8, Z16_9, Z16_10, Z16_11, Z16_12, Z16_13, Z16_14, Z16_15, Z16_16, Z16_17, Z16_18, Z16_19, Z16_20, Z16_21, Z16_22, Z16_23, Z16_24, Y16_0, Y16_1, Y16_2, Y16_3, Y16_4, Y16_5, Y16_6, Y16_7, Y16_8, Y16_9, Y16_10, Y16_11, Y16_12, Y16_13, Y16_14, Y16_15, Y16_16, Y16_17, Y16_18, Y16_19, Y16_20, Y16_21, Y16_22, Y16_23, Y16_24⟩ := cz25_ BK134.out
    go_wp2
    go_ret
    exact ⟨by first | rfl | (simp [errW_none, errW_some] <;> rfl) | (simp only [← hji15]; first | rfl | (simp [errW_none, errW_some] <;> rfl)) | (simp [*, errW_none, errW_some] <;> rfl), qb1_ GE134.out HB.out⟩
def arrears_day.f (a0 : Int) : Option (Bool) := if a0 ≥ 0 then (some (decide (a0 ≤ 73048))) else (some false)
set_option maxHeartbeats 8000000 in
set_option maxRecDepth 100000 in
theorem arrears_day.calls (a0 : Int) (r : Bool) (w : World) (h : arrears_day.f a0 = some r) :
  Calls Tryd.prog 26 #[.int .i64 a0] w fun e w' => e = .returned (.bool r) ∧ Drawn0 w w' := by
 have H := h
 clear h
 unfold arrears_day.f at H
 by_cases c2 : a0 ≥ 0
 ·rw [if_pos c2] at H
  have c2b0 : decide (0 ≤ a0) = true := decide_eq_true c2
  clear c2
  obtain rfl := Option.some.inj H
  go_enter Tryd.func26, Tryd.ntmps26
  go_wp2
  go_ret
  exact ⟨by first | rfl | (simp; done) | (simp [*]; done), by repeat (first | exact Drawn0.refl _ | apply Drawn0.step)⟩
 ·rw [if_neg c2] at H
  have c2b0 : decide (0 ≤ a0) = false := decide_eq_false c2
  clear c2
  obtain rfl := Option.some.inj H
  go_enter Tryd.func26, Tryd.ntmps26
  go_wp2
  go_ret
  exact ⟨by first | rfl | (simp; done) | (simp [*]; done), by repeat (first | exact Drawn0.refl _ | apply Drawn0.step)⟩
def wide_negateP.f (a0_0 a0_1 : Int) : Option (Int × Int) := some (wrap64 (IntKind.u64.wrap ((IntKind.u64.wrap (Go.bits .xor .i64 (-1) a0_0)) + (addHi (Go.bits .xor .u64 IntKind.u64.max a0_1) 1))), addLo (Go.bits .xor .u64 IntKind.u64.max a0_1) 1)
set_option maxHeartbeats 8000000 in
set_option maxRecDepth 100000 in
theorem wide_negateP.calls (a0_0 a0_1 r1 r2 : Int) (w : World) (h : wide_negateP.f a0_0 a0_1 = some (r1, r2)) :
  Calls Tryd.prog 61 #[.agg #[.int .i64 a0_0, .int .u64 a0_1]] w fun e w' => e = .returned (.agg #[.int .i64 r1, .int .u64 r2]) ∧ Below w.heap.size w w' := by
 have hu32 := Tryd.underlying32
 have hadd64 := add64_run
 have hsgn : IntKind.u64.signed = false := rfl
 have HB := am_ (Below.refl w.heap.size w)
 have H := h
 clear h
 unfold wide_negateP.f at H
 simp only [Option.some.injEq, Prod.mk.injEq] at H
 obtain ⟨rfl, rfl⟩ := H
 go_enter Tryd.func61, Tryd.ntmps61
 go_wp2_with (first | ((with_reducible refine gate_dst (N := 1) rfl ?_); refine be_ (N := 1) (cs := #[.int .i64 a0_0, .int .u64 a0_1]) (t := 32) ?_; intro gb137 hg w2 hbox hb; have BK137 := am_ (hbox); have GE137 := am_ (bz_ hg (qb_ HB.out) : w.heap.size ≤ gb137); replace HB := am_ (below_step (qb_ HB.out) hb); clear hb hbox hg) | ((with_reducible refine gate_dst (N := 2) rfl ?_); refine be_ (N := 2) (cs := #[.int .i64 0, .int .u64 0]) (t := 32) ?_; intro gb138 hg w3 hbox hb; have BK138 := am_ (hbox); have GE138 := am_ (bz_ hg (qb1_ GE137.out HB.out) : w.heap.size ≤ gb138); replace HB := am_ (below_step (qb1_ GE137.out HB.out) hb); have NB137_138 := am_ (nl_ hg (qk_ BK137.out) : gb137 ≠ gb138); have NB138_137 := am_ (ng_ hg (qk_ BK137.out) : gb138 ≠ gb137); replace BK137 := am_ (blk_below (qk_ BK137.out) hb); clear hb hbox hg; have hnb4 := NB137_138.out; have hnc4 := NB138_137.out; obtain ⟨Z5_0, Z5_1, Y5_0, Y5_1⟩ := cz2_ BK137.out; obtain ⟨Z6_0, Z6_1, Y6_0, Y6_1⟩ := cz2_ BK138.out))
 refine bodyPost_ret (results_cell_row rfl _ _ gb138 32 #[.int .i64 (wrap64 (IntKind.u64.wrap ((IntKind.u64.wrap (Go.bits .xor .i64 (-1) a0_0)) + (addHi (Go.bits .xor .u64 IntKind.u64.max a0_1) 1)))), .int .u64 (addLo (Go.bits .xor .u64 IntKind.u64.max a0_1) 1)] (0, 0) _ rfl (qpp_ #[.int .i64 (wrap64 (IntKind.u64.wrap ((IntKind.u64.wrap (Go.bits .xor .i64 (-1) a0_0)) + (addHi (Go.bits .xor .u64 IntKind.u64.max a0_1) 1)))), .int .u64 0] 1 #[.int .i64 0, .int .u64 0] 0 BK138.out) Tryd.underlying32 rfl (by kernel_rfl)) rfl ?_
 exact ⟨qe_, qb2_ GE137.out GE138.out HB.out⟩
def wide_negate.f (a0_0 a0_1 : Int) : Option (Int × Int) :=
 if isW a0_0 a0_1 then some (if wv a0_0 a0_1 = -170141183460469231731687303715884105728 then (a0_0, a0_1) else (-(wv a0_0 a0_1) / 18446744073709551616, -(wv a0_0 a0_1) % 18446744073709551616)) else none
theorem wide_negate.eq {a b : Int} {r : Int × Int} (h : wide_negate.f a b = some r) : wide_negateP.f a b = some r := by
 unfold wide_negate.f at h
 split at h
 ·rename_i c
  obtain ⟨⟨c0, c1⟩, c2, c3⟩ := c
  injection h with h
  subst h
  unfold wide_negateP.f
  rw [xorM1 a c0 c1, xorMax b c2 c3, IntKind.wrap_u64, IntKind.wrap_u64]
  unfold addHi addLo wrap64 wv
  split
  ·rename_i e
   have e1 : a = -9223372036854775808 := by omega
   have e2 : b = 0 := by omega
   subst e1 e2
   rfl
  ·congr 2 <;> omega
 ·cases h
theorem wide_negate.calls (a0_0 a0_1 r1 r2 : Int) (w : World) (h : wide_negate.f a0_0 a0_1 = some (r1, r2)) :
  Calls Tryd.prog 61 #[.agg #[.int .i64 a0_0, .int .u64 a0_1]] w fun e w' => e = .returned (.agg #[.int .i64 r1, .int .u64 r2]) ∧ Below w.heap.size w w' := by
 have h := wide_negate.eq h
 exact wide_negateP.calls a0_0 a0_1 r1 r2 w h
def wide_absoluteP.f (a0_0 a0_1 : Int) : Option (Int × Int) := if a0_0 < 0 then ((wide_negate.f a0_0 a0_1).bind fun bt141 => (some (IntKind.u64.wrap (bt141.1), bt141.2))) else (some (IntKind.u64.wrap (a0_0), a0_1))
set_option maxHeartbeats 8000000 in
set_option maxRecDepth 100000 in
theorem wide_absoluteP.calls (a0_0 a0_1 r1 r2 : Int) (w : World) (h : wide_absoluteP.f a0_0 a0_1 = some (r1, r2)) :
  Calls Tryd.prog 56 #[.agg #[.int .i64 a0_0, .int .u64 a0_1]] w fun e w' => e = .returned (.agg #[.int .u64 r1, .int .u64 r2]) ∧ Below w.heap.size w w' := by
 have hu32 := Tryd.underlying32
 have hu87 := Tryd.underlying87
 have HB := am_ (Below.refl w.heap.size w)
 have H := h
 clear h
 unfold wide_absoluteP.f at H
 by_cases c2 : a0_0 < 0
 ·rw [if_pos c2] at H
  have c2b0 : decide (a0_0 < 0) = true := decide_eq_true c2
  clear c2
  replace H := Option.bind_eq_some_iff.mp H
  obtain ⟨⟨t141, t142⟩, A30, H⟩ := H
  (try dsimp only at H)
  have A3 := am_ A30
  clear A30
  simp only [Option.some.injEq, Prod.mk.injEq] at H
  obtain ⟨rfl, rfl⟩ := H
  go_enter Tryd.func56, Tryd.ntmps56
  go_wp2_with (first | ((with_reducible refine gate_dst (N := 1) rfl ?_); refine be_ (N := 1) (cs := #[.int .i64 a0_0, .int .u64 a0_1]) (t := 32) ?_; intro gb139 hg w4 hbox hb; have BK139 := am_ (hbox); have GE139 := am_ (bz_ hg (qb_ HB.out) : w.heap.size ≤ gb139); replace HB := am_ (below_step (qb_ HB.out) hb); clear hb hbox hg) | ((with_reducible refine gate_dst (N := 2) rfl ?_); refine be_ (N := 2) (cs := #[.int .u64 0, .int .u64 0]) (t := 87) ?_; intro gb140 hg w5 hbox hb; have BK140 := am_ (hbox); have GE140 := am_ (bz_ hg (qb1_ GE139.out HB.out) : w.heap.size ≤ gb140); replace HB := am_ (below_step (qb1_ GE139.out HB.out) hb); have NB139_140 := am_ (nl_ hg (qk_ BK139.out) : gb139 ≠ gb140); have NB140_139 := am_ (ng_ hg (qk_ BK139.out) : gb140 ≠ gb139); replace BK139 := am_ (blk_below (qk_ BK139.out) hb); clear hb hbox hg; have hnb6 := NB139_140.out; have hnc6 := NB140_139.out; obtain ⟨Z7_0, Z7_1, Y7_0, Y7_1⟩ := cz2_ BK139.out) | ((with_reducible refine gate_callee (f := 61) rfl ?_); refine goesL_ (some 7) rfl rfl Tryd.func61 (by kernel_rfl) rfl #[.agg #[.int .i64 a0_0, .int .u64 a0_1]] rfl ql_ ?_; (with_reducible refine (wide_negate.calls a0_0 a0_1 t141 t142 _ A3.out).mono ?_); rintro e w8 ⟨rfl, hb⟩; refine ⟨_, rfl, ?_⟩; replace BK139 := am_ (blk_below (qk_ BK139.out) hb); replace BK140 := am_ (blk_below (qk_ BK140.out) hb); replace HB := am_ (below_step (qb2_ GE139.out GE140.out HB.out) hb); (try clear hb); obtain ⟨Z9_0, Z9_1, Y9_0, Y9_1⟩ := cz2_ BK139.out; obtain ⟨Z10_0, Z10_1, Y10_0, Y10_1⟩ := cz2_ BK140.out))
  refine bodyPost_ret (results_cell_row rfl _ _ gb140 87 #[.int .u64 (IntKind.u64.wrap (t141)), .int .u64 t142] (0, 0) _ rfl (qppff_ #[.int .u64 (IntKind.u64.wrap (t141)), .int .u64 0] 1 #[.int .u64 0, .int .u64 0] 0 NB140_139.out NB140_139.out BK140.out) Tryd.underlying87 rfl (by kernel_rfl)) rfl ?_
  exact ⟨qe_, qb2_ GE139.out GE140.out HB.out⟩
 ·rw [if_neg c2] at H
  have c2b0 : decide (a0_0 < 0) = false := decide_eq_false c2
  clear c2
  simp only [Option.some.injEq, Prod.mk.injEq] at H
  obtain ⟨rfl, rfl⟩ := H
  go_enter Tryd.func56, Tryd.ntmps56
  go_wp2_with (first | ((with_reducible refine gate_dst (N := 1) rfl ?_); refine be_ (N := 1) (cs := #[.int .i64 a0_0, .int .u64 a0_1]) (t := 32) ?_; intro gb139 hg w11 hbox hb; have BK139 := am_ (hbox); have GE139 := am_ (bz_ hg (qb_ HB.out) : w.heap.size ≤ gb139); replace HB := am_ (below_step (qb_ HB.out) hb); clear hb hbox hg) | ((with_reducible refine gate_dst (N := 2) rfl ?_); refine be_ (N := 2) (cs := #[.int .u64 0, .int .u64 0]) (t := 87) ?_; intro gb140 hg w12 hbox hb; have BK140 := am_ (hbox); have GE140 := am_ (bz_ hg (qb1_ GE139.out HB.out) : w.heap.size ≤ gb140); replace HB := am_ (below_step (qb1_ GE139.out HB.out) hb); have NB139_140 := am_ (nl_ hg (qk_ BK139.out) : gb139 ≠ gb140); have NB140_139 := am_ (ng_ hg (qk_ BK139.out) : gb140 ≠ gb139); replace BK139 := am_ (blk_below (qk_ BK139.out) hb); clear hb hbox hg; have hnb13 := NB139_140.out; have hnc13 := NB140_139.out; obtain ⟨Z14_0, Z14_1, Y14_0, Y14_1⟩ := cz2_ BK139.out; obtain ⟨Z15_0, Z15_1, Y15_0, Y15_1⟩ := cz2_ BK140.out))
  refine bodyPost_ret (results_cell_row rfl _ _ gb140 87 #[.int .u64 (IntKind.u64.wrap (a0_0)), .int .u64 a0_1] (0, 0) _ rfl (qpp_ #[.int .u64 (IntKind.u64.wrap (a0_0)), .int .u64 0] 1 #[.int .u64 0, .int .u64 0] 0 BK140.out) Tryd.underlying87 rfl (by kernel_rfl)) rfl ?_
  exact ⟨qe_, qb2_ GE139.out GE140.out HB.out⟩
def wide_absolute.f (a0_0 a0_1 : Int) : Option (Int × Int) :=
 if isW a0_0 a0_1 then some ((if a0_0 < 0 then -(wv a0_0 a0_1) else wv a0_0 a0_1) / 18446744073709551616, (if a0_0 < 0 then -(wv a0_0 a0_1) else wv a0_0 a0_1) % 18446744073709551616) else none
theorem wide_absolute.eq {a b : Int} {r : Int × Int} (h : wide_absolute.f a b = some r) : wide_absoluteP.f a b = some r := by
 unfold wide_absolute.f at h
 split at h
 ·rename_i c
  injection h with h
  subst h
  unfold wide_absoluteP.f wide_negate.f
  rw [if_pos c]
  obtain ⟨⟨c0, c1⟩, c2, c3⟩ := c
  simp only [Option.bind_some]
  by_cases hn : a < 0
  ·rw [if_pos hn, if_pos hn]
   by_cases e : wv a b = -170141183460469231731687303715884105728
   ·rw [if_pos e]
    unfold wv at e ⊢
    have e1 : a = -9223372036854775808 := by omega
    have e2 : b = 0 := by omega
    subst e1 e2
    rfl
   ·rw [if_neg e]
    unfold wv at e ⊢
    simp only [IntKind.wrap_u64]
    congr 2 <;> omega
  ·rw [if_neg hn, if_neg hn]
   unfold wv
   simp only [IntKind.wrap_u64]
   congr 2 <;> omega
 ·cases h
theorem wide_absolute.calls (a0_0 a0_1 r1 r2 : Int) (w : World) (h : wide_absolute.f a0_0 a0_1 = some (r1, r2)) :
  Calls Tryd.prog 56 #[.agg #[.int .i64 a0_0, .int .u64 a0_1]] w fun e w' => e = .returned (.agg #[.int .u64 r1, .int .u64 r2]) ∧ Below w.heap.size w w' := by
 have h := wide_absolute.eq h
 exact wide_absoluteP.calls a0_0 a0_1 r1 r2 w h
end Go.Proofs.YtogcdcjbleafdaaDoor.PS
end
section
namespace Go.Proofs.YtogcdcjbleafdaaDoor.PS
open Go.RowKit Go.Proofs.YtogcdcjbleafdaaDoorW.PrintWords Go.Proofs.YtogcdcjbleafdaaDoorW.PrintLast Go.Proofs.YtogcdcjbleafdaaDoorW.PrintMore
attribute [local go_sem] max2_int min2_int max_two min_two
set_option linter.unusedVariables false
set_option linter.unusedSimpArgs false
namespace M64
theorem maskN (a : Nat) (ha : a < 18446744073709551616) : bits .and .u64 (a : Int) 4294967295 = ((a % 4294967296 : Nat) : Int) := by
 have h := bits_and_u64_nat a 4294967295 ha (by omega)
 have e : a &&& 4294967295 = a % 4294967296 := Nat.and_two_pow_sub_one_eq_mod a 32
 rw [e] at h
 exact h
theorem divN (a : Nat) : (a : Int) / 4294967296 = ((a / 4294967296 : Nat) : Int) := by omega
theorem mulN (a b : Nat) : (a : Int) * (b : Int) = ((a * b : Nat) : Int) := (Int.natCast_mul a b).symm
theorem addN (a b : Nat) : (a : Int) + (b : Int) = ((a + b : Nat) : Int) := (Int.natCast_add a b).symm
theorem wrapN (a : Nat) (ha : a < 18446744073709551616) : IntKind.u64.wrap (a : Int) = (a : Int) := by rw [IntKind.wrap_u64]; omega
theorem wrapM (a : Nat) : IntKind.u64.wrap (a : Int) = ((a % 18446744073709551616 : Nat) : Int) := by rw [IntKind.wrap_u64]; omega
end M64
set_option maxHeartbeats 1000000 in
theorem mul64_nat (x y : Nat) (hx : x < 18446744073709551616) (hy : y < 18446744073709551616) (w : World) :
  Calls Tryd.prog 60 #[.int .u64 x, .int .u64 y] w fun e w' => e = .returned (.tuple #[.int .u64 ((x * y / 18446744073709551616 : Nat) : Int), .int .u64 ((x * y % 18446744073709551616 : Nat) : Int)]) ∧ w' = w := by
 obtain ⟨bd, bt, bw, hhi⟩ := Lib.mul64_hi x y hx hy
 have ba := Lib.half_mul_le (a := x / 4294967296) (b := y / 4294967296) (by omega) (by omega)
 have bb := Lib.half_mul_le (a := x / 4294967296) (b := y % 4294967296) (by omega) (by omega)
 have bc := Lib.half_mul_le (a := x % 4294967296) (b := y / 4294967296) (by omega) (by omega)
 have ba' : x / 4294967296 * (y / 4294967296) < 18446744073709551616 := by omega
 have bb' : x / 4294967296 * (y % 4294967296) < 18446744073709551616 := by omega
 have bc' : x % 4294967296 * (y / 4294967296) < 18446744073709551616 := by omega
 have bh1 : x / 4294967296 * (y / 4294967296) + (x / 4294967296 * (y % 4294967296) + x % 4294967296 * (y % 4294967296) / 4294967296) / 4294967296 < 18446744073709551616 := by omega
 have bh : x / 4294967296 * (y / 4294967296) + (x / 4294967296 * (y % 4294967296) + x % 4294967296 * (y % 4294967296) / 4294967296) / 4294967296 + ((x / 4294967296 * (y % 4294967296) + x % 4294967296 * (y % 4294967296) / 4294967296) % 4294967296 + x % 4294967296 * (y / 4294967296)) / 4294967296 < 18446744073709551616 := by omega
 go_enter Tryd.func60, Tryd.ntmps60
 go_wp2
 simp only [M64.maskN x hx, M64.maskN y hy, M64.divN, M64.mulN, M64.addN, M64.wrapN _ bd, M64.wrapN _ bb', M64.wrapN _ bt, M64.maskN _ bt, M64.wrapN _ bc', M64.wrapN _ bw, M64.wrapN _ ba', M64.wrapN _ bh1, M64.wrapN _ bh, M64.wrapM (x * y)]
 rw [hhi]
 go_ret2
 exact ⟨rfl, rfl⟩
def bits_Mul64.f (a0 a1 : Int) : Option (Int × Int) :=
 if inU a0 ∧ inU a1 then some (a0 * a1 / 18446744073709551616, a0 * a1 % 18446744073709551616) else none
theorem bits_Mul64.calls (a0 a1 r1 r2 : Int) (w : World) (h : bits_Mul64.f a0 a1 = some (r1, r2)) :
  Calls Tryd.prog 60 #[.int .u64 a0, .int .u64 a1] w fun e w' => e = .returned (.tuple #[.int .u64 r1, .int .u64 r2]) ∧ Below w.heap.size w w' := by
 unfold bits_Mul64.f at h
 split at h
 ·rename_i c
  obtain ⟨⟨c0, c1⟩, c2, c3⟩ := c
  injection h with h
  injection h with h1 h2
  subst h1 h2
  obtain ⟨x, rfl⟩ := Int.eq_ofNat_of_zero_le c0
  obtain ⟨y, rfl⟩ := Int.eq_ofNat_of_zero_le c2
  refine (mul64_nat x y (by omega) (by omega) w).mono ?_
  rintro e w' ⟨rfl, rfl⟩
  exact ⟨by rw [Int.natCast_ediv, Int.natCast_emod, Int.natCast_mul]; rfl, Below.refl _ _⟩
 ·cases h
def wide_size_timesP.f (a0_0 a0_1 a1 a2 : Int) : Option (Int × Int × Bool) := (bits_Mul64.f a0_1 a1).bind fun bt145 => ((bits_Mul64.f a0_0 a1).bind fun bt147 => (if bt147.1 = 0 then (some (addLo bt147.2 (IntKind.u64.wrap (bt145.1 + (addHi bt145.2 a2))), addLo bt145.2 a2, ((addHi bt147.2 (IntKind.u64.wrap (bt145.1 + (addHi bt145.2 a2)))) == 0))) else (some (addLo bt147.2 (IntKind.u64.wrap (bt145.1 + (addHi bt145.2 a2))), addLo bt145.2 a2, false))))
set_option maxHeartbeats 8000000 in
set_option maxRecDepth 100000 in
theorem wide_size_timesP.calls (a0_0 a0_1 a1 a2 r1 r2 : Int) (r3 : Bool) (w : World) (h : wide_size_timesP.f a0_0 a0_1 a1 a2 = some (r1, r2, r3)) :
  Calls Tryd.prog 57 #[.agg #[.int .u64 a0_0, .int .u64 a0_1], .int .u64 a1, .int .u64 a2] w fun e w' => e = .returned (.tuple #[.agg #[.int .u64 r1, .int .u64 r2], .bool r3]) ∧ Below w.heap.size w w' := by
 have hu87 := Tryd.underlying87
 have hadd64 := add64_run
 have HB := am_ (Below.refl w.heap.size w)
 have H := h
 clear h
 unfold wide_size_timesP.f at H
 replace H := Option.bind_eq_some_iff.mp H
 obtain ⟨⟨t145, t146⟩, A40, H⟩ := H
 (try dsimp only at H)
 have A4 := am_ A40
 clear A40
 replace H := Option.bind_eq_some_iff.mp H
 obtain ⟨⟨t147, t148⟩, A50, H⟩ := H
 (try dsimp only at H)
 have A5 := am_ A50
 clear A50
 by_cases c6 : t147 = 0
 ·rw [if_pos c6] at H
  have c6b0 : (t147 == 0) = true := beq_iff_eq.mpr c6
  have c6b1 : (t147 != 0) = false := bne_eq_false_iff_eq.mpr c6
  clear c6
  simp only [Option.some.injEq, Prod.mk.injEq] at H
  obtain ⟨rfl, rfl, rfl⟩ := H
  go_enter Tryd.func57, Tryd.ntmps57
  go_wp2_with (first | ((with_reducible refine gate_dst (N := 3) rfl ?_); refine be_ (N := 3) (cs := #[.int .u64 a0_0, .int .u64 a0_1]) (t := 87) ?_; intro gb143 hg w7 hbox hb; have BK143 := am_ (hbox); have GE143 := am_ (bz_ hg (qb_ HB.out) : w.heap.size ≤ gb143); replace HB := am_ (below_step (qb_ HB.out) hb); clear hb hbox hg) | ((with_reducible refine gate_dst (N := 6) rfl ?_); refine be_ (N := 6) (cs := #[.int .u64 0, .int .u64 0]) (t := 87) ?_; intro gb144 hg w8 hbox hb; have BK144 := am_ (hbox); have GE144 := am_ (bz_ hg (qb1_ GE143.out HB.out) : w.heap.size ≤ gb144); replace HB := am_ (below_step (qb1_ GE143.out HB.out) hb); have NB143_144 := am_ (nl_ hg (qk_ BK143.out) : gb143 ≠ gb144); have NB144_143 := am_ (ng_ hg (qk_ BK143.out) : gb144 ≠ gb143); replace BK143 := am_ (blk_below (qk_ BK143.out) hb); clear hb hbox hg; have hnb9 := NB143_144.out; have hnc9 := NB144_143.out; obtain ⟨Z10_0, Z10_1, Y10_0, Y10_1⟩ := cz2_ BK143.out) | ((with_reducible refine gate_callee (f := 60) rfl ?_); refine goesL_ (some 17) rfl rfl Tryd.func60 (by kernel_rfl) rfl #[.int .u64 a0_1, .int .u64 a1] rfl ql_ ?_; (with_reducible refine (bits_Mul64.calls a0_1 a1 t145 t146 _ A4.out).mono ?_); rintro e w11 ⟨rfl, hb⟩; refine ⟨_, rfl, ?_⟩; replace BK143 := am_ (blk_below (qk_ BK143.out) hb); replace BK144 := am_ (blk_below (qk_ BK144.out) hb); replace HB := am_ (below_step (qb2_ GE143.out GE144.out HB.out) hb); (try clear hb); obtain ⟨Z12_0, Z12_1, Y12_0, Y12_1⟩ := cz2_ BK143.out) | ((with_reducible refine gate_callee (f := 60) rfl ?_); refine goesL_ (some 24) rfl rfl Tryd.func60 (by kernel_rfl) rfl #[.int .u64 a0_0, .int .u64 a1] rfl ql_ ?_; (with_reducible refine (bits_Mul64.calls a0_0 a1 t147 t148 _ A5.out).mono ?_); rintro e w13 ⟨rfl, hb⟩; refine ⟨_, rfl, ?_⟩; replace BK143 := am_ (blk_below (qk_ BK143.out) hb); replace BK144 := am_ (blk_below (qk_ BK144.out) hb); replace HB := am_ (below_step (qb2_ GE143.out GE144.out HB.out) hb); (try clear hb); obtain ⟨Z14_0, Z14_1, Y14_0, Y14_1⟩ := cz2_ BK144.out))
  refine bodyPost_ret (results_ct rfl _ _ gb144 87 #[.int .u64 (addLo t148 (IntKind.u64.wrap (t145 + (addHi t146 a2)))), .int .u64 (addLo t146 a2)] (0, 0) _ rfl (qpp_ #[.int .u64 (addLo t148 (IntKind.u64.wrap (t145 + (addHi t146 a2)))), .int .u64 0] 1 #[.int .u64 0, .int .u64 0] 0 BK144.out) Tryd.underlying87 rfl (by kernel_rfl)) rfl ?_
  exact ⟨qe_, qb2_ GE143.out GE144.out HB.out⟩
 ·rw [if_neg c6] at H
  have c6b0 : (t147 == 0) = false := beq_eq_false_iff_ne.mpr c6
  have c6b1 : (t147 != 0) = true := bne_iff_ne.mpr c6
  simp only [Option.some.injEq, Prod.mk.injEq] at H
  obtain ⟨rfl, rfl, rfl⟩ := H
  go_enter Tryd.func57, Tryd.ntmps57
  go_wp2_with (first | ((with_reducible refine gate_dst (N := 3) rfl ?_); refine be_ (N := 3) (cs := #[.int .u64 a0_0, .int .u64 a0_1]) (t := 87) ?_; intro gb143 hg w15 hbox hb; have BK143 := am_ (hbox); have GE143 := am_ (bz_ hg (qb_ HB.out) : w.heap.size ≤ gb143); replace HB := am_ (below_step (qb_ HB.out) hb); clear hb hbox hg) | ((with_reducible refine gate_dst (N := 6) rfl ?_); refine be_ (N := 6) (cs := #[.int .u64 0, .int .u64 0]) (t := 87) ?_; intro gb144 hg w16 hbox hb; have BK144 := am_ (hbox); have GE144 := am_ (bz_ hg (qb1_ GE143.out HB.out) : w.heap.size ≤ gb144); replace HB := am_ (below_step (qb1_ GE143.out HB.out) hb); have NB143_144 := am_ (nl_ hg (qk_ BK143.out) : gb143 ≠ gb144); have NB144_143 := am_ (ng_ hg (qk_ BK143.out) : gb144 ≠ gb143); replace BK143 := am_ (blk_below (qk_ BK143.out) hb); clear hb hbox hg; have hnb17 := NB143_144.out; have hnc17 := NB144_143.out; obtain ⟨Z18_0, Z18_1, Y18_0, Y18_1⟩ := cz2_ BK143.out) | ((with_reducible refine gate_callee (f := 60) rfl ?_); refine goesL_ (some 17) rfl rfl Tryd.func60 (by kernel_rfl) rfl #[.int .u64 a0_1, .int .u64 a1] rfl ql_ ?_; (with_reducible refine (bits_Mul64.calls a0_1 a1 t145 t146 _ A4.out).mono ?_); rintro e w19 ⟨rfl, hb⟩; refine ⟨_, rfl, ?_⟩; replace BK143 := am_ (blk_below (qk_ BK143.out) hb); replace BK144 := am_ (blk_below (qk_ BK144.out) hb); replace HB := am_ (below_step (qb2_ GE143.out GE144.out HB.out) hb); (try clear hb); obtain ⟨Z20_0, Z20_1, Y20_0, Y20_1⟩ := cz2_ BK143.out) | ((with_reducible refine gate_callee (f := 60) rfl ?_); refine goesL_ (some 24) rfl rfl Tryd.func60 (by kernel_rfl) rfl #[.int .u64 a0_0, .int .u64 a1] rfl ql_ ?_; (with_reducible refine (bits_Mul64.calls a0_0 a1 t147 t148 _ A5.out).mono ?_); rintro e w21 ⟨rfl, hb⟩; refine ⟨_, rfl, ?_⟩; have n1_ := am_ (blk_below (qk_ BK144.out) hb); have n2_ := am_ (below_step (qb2_ GE143.out GE144.out HB.out) hb); (try clear BK143); clear BK144; clear HB; have BK144 := n1_; have HB := n2_; clear n1_ n2_; (try clear hb); obtain ⟨Z22_0, Z22_1, Y22_0, Y22_1⟩ := cz2_ BK144.out))
  refine bodyPost_ret (results_ct rfl _ _ gb144 87 #[.int .u64 (addLo t148 (IntKind.u64.wrap (t145 + (addHi t146 a2)))), .int .u64 (addLo t146 a2)] (0, 0) _ rfl (qpp_ #[.int .u64 (addLo t148 (IntKind.u64.wrap (t145 + (addHi t146 a2)))), .int .u64 0] 1 #[.int .u64 0, .int .u64 0] 0 BK144.out) Tryd.underlying87 rfl (by kernel_rfl)) rfl ?_
  exact ⟨qe_, qb2_ GE143.out GE144.out HB.out⟩
def wide_size_times.f (a0_0 a0_1 a1 a2 : Int) : Option (Int × Int × Bool) :=
 if (inU a0_0 ∧ inU a0_1) ∧ inU a1 ∧ inU a2 then
  some ((wv a0_0 a0_1 * a1 + a2) / 18446744073709551616 % 18446744073709551616, (wv a0_0 a0_1 * a1 + a2) % 18446744073709551616, decide (wv a0_0 a0_1 * a1 + a2 < 340282366920938463463374607431768211456)) else none
theorem wide_size_times.eq {a b c d : Int} {r : Int × Int × Bool} (h : wide_size_times.f a b c d = some r) : wide_size_timesP.f a b c d = some r := by
 unfold wide_size_times.f at h
 split at h
 ·rename_i q
  obtain ⟨⟨⟨a0, a1⟩, b0, b1⟩, ⟨c0, c1⟩, d0, d1⟩ := q
  injection h with h
  subst h
  unfold wide_size_timesP.f bits_Mul64.f
  rw [if_pos ⟨⟨b0, b1⟩, c0, c1⟩, if_pos ⟨⟨a0, a1⟩, c0, c1⟩]
  simp only [Option.bind_some]
  have hv : wv a b * c = a * c * 18446744073709551616 + b * c := by unfold wv; rw [Int.add_mul, Int.mul_right_comm]
  have p0 : 0 ≤ a * c := Int.mul_nonneg a0 c0
  have q0 : 0 ≤ b * c := Int.mul_nonneg b0 c0
  have p1 : a * c ≤ 18446744073709551615 * 18446744073709551615 := Int.mul_le_mul a1 c1 c0 (by decide)
  have q1 : b * c ≤ 18446744073709551615 * 18446744073709551615 := Int.mul_le_mul b1 c1 c0 (by decide)
  rw [hv]
  generalize a * c = x at *
  generalize b * c = y at *
  have l1 : addLo (y % 18446744073709551616) d = (y + d) % 18446744073709551616 := by unfold addLo; omega
  have l2 : addHi (y % 18446744073709551616) d = (y % 18446744073709551616 + d) / 18446744073709551616 := by unfold addHi; omega
  have l3 : IntKind.u64.wrap (y / 18446744073709551616 + addHi (y % 18446744073709551616) d) = (y + d) / 18446744073709551616 := by rw [l2, IntKind.wrap_u64]; omega
  rw [l3, l1]
  have l4 : addLo (x % 18446744073709551616) ((y + d) / 18446744073709551616) = (x * 18446744073709551616 + y + d) / 18446744073709551616 % 18446744073709551616 := by unfold addLo; omega
  have l5 : addHi (x % 18446744073709551616) ((y + d) / 18446744073709551616) = (x % 18446744073709551616 + (y + d) / 18446744073709551616) / 18446744073709551616 := by unfold addHi; omega
  rw [l4, l5]
  have l6 : (y + d) % 18446744073709551616 = (x * 18446744073709551616 + y + d) % 18446744073709551616 := by omega
  rw [l6]
  split
  ·congr 3
   rw [Bool.eq_iff_iff]
   simp only [beq_iff_eq, decide_eq_true_eq]
   omega
  ·congr 3
   symm
   apply decide_eq_false
   omega
 ·cases h
theorem wide_size_times.calls (a0_0 a0_1 a1 a2 r1 r2 : Int) (r3 : Bool) (w : World) (h : wide_size_times.f a0_0 a0_1 a1 a2 = some (r1, r2, r3)) :
  Calls Tryd.prog 57 #[.agg #[.int .u64 a0_0, .int .u64 a0_1], .int .u64 a1, .int .u64 a2] w fun e w' => e = .returned (.tuple #[.agg #[.int .u64 r1, .int .u64 r2], .bool r3]) ∧ Below w.heap.size w w' := by
 have h := wide_size_times.eq h
 exact wide_size_timesP.calls a0_0 a0_1 a1 a2 r1 r2 r3 w h
def wide_absP.f (a0 : Int) : Option (Int) := if a0 < 0 then (some (IntKind.u64.wrap (-(IntKind.u64.wrap (a0))))) else (some (IntKind.u64.wrap (a0)))
set_option maxHeartbeats 8000000 in
set_option maxRecDepth 100000 in
theorem wide_absP.calls (a0 r : Int) (w : World) (h : wide_absP.f a0 = some r) :
  Calls Tryd.prog 58 #[.int .i64 a0] w fun e w' => e = .returned (.int .u64 r) ∧ Drawn0 w w' := by
 have H := h
 clear h
 unfold wide_absP.f at H
 by_cases c2 : a0 < 0
 ·rw [if_pos c2] at H
  have c2b0 : decide (a0 < 0) = true := decide_eq_true c2
  clear c2
  obtain rfl := Option.some.inj H
  go_enter Tryd.func58, Tryd.ntmps58
  go_wp2
  go_ret
  exact ⟨by first | rfl | (simp; done) | (simp [*]; done), by repeat (first | exact Drawn0.refl _ | apply Drawn0.step)⟩
 ·rw [if_neg c2] at H
  have c2b0 : decide (a0 < 0) = false := decide_eq_false c2
  clear c2
  obtain rfl := Option.some.inj H
  go_enter Tryd.func58, Tryd.ntmps58
  go_wp2
  go_ret
  exact ⟨by first | rfl | (simp; done) | (simp [*]; done), by repeat (first | exact Drawn0.refl _ | apply Drawn0.step)⟩
def wide_abs.f (a0 : Int) : Option Int := if inI a0 then some (if a0 < 0 then -a0 else a0) else none
theorem wide_abs.eq {a : Int} {r : Int} (h : wide_abs.f a = some r) : wide_absP.f a = some r := by
 unfold wide_abs.f at h
 split at h
 ·rename_i c
  obtain ⟨c0, c1⟩ := c
  injection h with h
  subst h
  unfold wide_absP.f
  simp only [IntKind.wrap_u64]
  split <;> (congr 1; omega)
 ·cases h
theorem wide_abs.calls (a0 r : Int) (w : World) (h : wide_abs.f a0 = some r) :
  Calls Tryd.prog 58 #[.int .i64 a0] w fun e w' => e = .returned (.int .u64 r) ∧ Drawn0 w w' := by
 have h := wide_abs.eq h
 exact wide_absP.calls a0 r w h
end Go.Proofs.YtogcdcjbleafdaaDoor.PS
end
section
namespace Go.Proofs.YtogcdcjbleafdaaDoor.PS
open Go.RowKit Go.Proofs.YtogcdcjbleafdaaDoorW.PrintWords Go.Proofs.YtogcdcjbleafdaaDoorW.PrintLast Go.Proofs.YtogcdcjbleafdaaDoorW.PrintMore
attribute [local go_sem] max2_int min2_int max_two min_two
set_option linter.unusedVariables false
set_option linter.unusedSimpArgs false
def wide_size_signedP.j0 : Nat → Bool → Bool → Int → Int → Option (Int × Int × Int)
 | 0, _, _, _, _ => none
 | k + 1, x1, x23, x150000, x150001 => if x23 = true then (some (0, 0, 6)) else (if x1 = true then ((wide_negate.f (wrap64 (x150000)) x150001).bind fun bt152 => (some (bt152.1, bt152.2, 0))) else (some (wrap64 (x150000), x150001, 0)))
def wide_size_signedP.f (k : Nat) (a0_0 a0_1 : Int) (a1 : Bool) : Option (Int × Int × Int) := if a0_0 > 9223372036854775808 then (wide_size_signedP.j0 k a1 true a0_0 a0_1) else (if a0_0 = 9223372036854775808 then (if a1 = true then (wide_size_signedP.j0 k a1 (decide (a0_1 > 0)) a0_0 a0_1) else (wide_size_signedP.j0 k a1 true a0_0 a0_1)) else (wide_size_signedP.j0 k a1 false a0_0 a0_1))
set_option maxHeartbeats 8000000 in
set_option maxRecDepth 100000 in
theorem wide_size_signedP.calls (k : Nat) (a0_0 a0_1 : Int) (a1 : Bool) (r1 r2 r3 : Int) (w : World) (h : wide_size_signedP.f k a0_0 a0_1 a1 = some (r1, r2, r3)) :
  Calls Tryd.prog 59 #[.agg #[.int .u64 a0_0, .int .u64 a0_1], .bool a1] w fun e w' => e = .returned (.tuple #[.agg #[.int .i64 r1, .int .u64 r2], .int .i64 r3]) ∧ Below w.heap.size w w' := by
 have hu87 := Tryd.underlying87
 have hu32 := Tryd.underlying32
 have HB := am_ (Below.refl w.heap.size w)
 have H := h
 clear h
 unfold wide_size_signedP.f at H
 have HC3 := am_ H
 clear H
 go_enter Tryd.func59, Tryd.ntmps59
 go_upto_region 1 with (first | ((with_reducible refine gate_dst (N := 2) rfl ?_); refine be_ (N := 2) (cs := #[.int .u64 a0_0, .int .u64 a0_1]) (t := 87) ?_; intro gb149 hg w4 hbox hb; have BK149 := am_ (hbox); have GE149 := am_ (bz_ hg (qb_ HB.out) : w.heap.size ≤ gb149); replace HB := am_ (below_step (qb_ HB.out) hb); clear hb hbox hg) | ((with_reducible refine gate_dst (N := 4) rfl ?_); refine be_ (N := 4) (cs := #[.int .i64 0, .int .u64 0]) (t := 32) ?_; intro gb150 hg w5 hbox hb; have BK150 := am_ (hbox); have GE150 := am_ (bz_ hg (qb1_ GE149.out HB.out) : w.heap.size ≤ gb150); replace HB := am_ (below_step (qb1_ GE149.out HB.out) hb); have NB149_150 := am_ (nl_ hg (qk_ BK149.out) : gb149 ≠ gb150); have NB150_149 := am_ (ng_ hg (qk_ BK149.out) : gb150 ≠ gb149); replace BK149 := am_ (blk_below (qk_ BK149.out) hb); clear hb hbox hg))
 (try simp only [Act.put, List.setIfInBounds_toArray, List.set_cons_zero, List.set_cons_succ])
 go_cut [23] (fun v23 wc => ∃ (kq : Nat) (x23_2 : Bool), v23 = .bool x23_2 ∧ Aside0 (wide_size_signedP.j0 kq a1 x23_2 a0_0 a0_1 = some (r1, r2, r3)) ∧ Aside0 (kq ≤ k) ∧ Aside0 (wc.heap[gb149]? = some (.cells #[.int .u64 a0_0, .int .u64 a0_1] 87 (0, 0))) ∧ Aside0 (wc.heap[gb150]? = some (.cells #[.int .i64 0, .int .u64 0] 32 (0, 0))) ∧ Aside0 (Below w.heap.size w wc))
 case first =>
  have H := HC3.out
  clear HC3
  by_cases c6 : a0_0 > 9223372036854775808
  ·rw [if_pos c6] at H
   have c6b0 : decide (9223372036854775808 < a0_0) = true := decide_eq_true c6
   clear c6
   (first | rw [c6b0] | (simp only [i64_w, i32_w]; rw [c6b0]) | skip)
   have H' := am_ H
   clear H
   have hnb7 := NB149_150.out
   have hnc7 := NB150_149.out
   obtain ⟨Z8_0, Z8_1, Y8_0, Y8_1⟩ := cz2_ BK149.out
   go_wp2
   go_meet
   case rel => exact ⟨_, (true), qs_, H', ⟨qo_⟩, ⟨qk_ BK149.out⟩, ⟨qk_ BK150.out⟩, ⟨qb2_ GE149.out GE150.out HB.out⟩⟩
  ·rw [if_neg c6] at H
   have c6b0 : decide (9223372036854775808 < a0_0) = false := decide_eq_false c6
   clear c6
   (first | rw [c6b0] | (simp only [i64_w, i32_w]; rw [c6b0]) | skip)
   by_cases c9 : a0_0 = 9223372036854775808
   ·rw [if_pos c9] at H
    have c9b0 : (a0_0 == 9223372036854775808) = true := beq_iff_eq.mpr c9
    have c9b1 : (a0_0 != 9223372036854775808) = false := bne_eq_false_iff_eq.mpr c9
    clear c9
    by_cases c10 : a1 = true
    ·subst c10
     rw [if_pos rfl] at H
     have H' := am_ H
     clear H
     have hnb11 := NB149_150.out
     have hnc11 := NB150_149.out
     obtain ⟨Z12_0, Z12_1, Y12_0, Y12_1⟩ := cz2_ BK149.out
     go_wp2
     go_meet
     case rel => exact ⟨_, (decide (a0_1 > 0)), qs_, H', ⟨qo_⟩, ⟨qk_ BK149.out⟩, ⟨qk_ BK150.out⟩, ⟨qb2_ GE149.out GE150.out HB.out⟩⟩
    ·replace c10 := Bool.eq_false_iff.mpr c10
     subst c10
     rw [if_neg (show ¬ (false = true) by decide)] at H
     have H' := am_ H
     clear H
     have hnb13 := NB149_150.out
     have hnc13 := NB150_149.out
     obtain ⟨Z14_0, Z14_1, Y14_0, Y14_1⟩ := cz2_ BK149.out
     go_wp2
     go_meet
     case rel => exact ⟨_, (true), qs_, H', ⟨qo_⟩, ⟨qk_ BK149.out⟩, ⟨qk_ BK150.out⟩, ⟨qb2_ GE149.out GE150.out HB.out⟩⟩
   ·rw [if_neg c9] at H
    have c9b0 : (a0_0 == 9223372036854775808) = false := beq_eq_false_iff_ne.mpr c9
    have c9b1 : (a0_0 != 9223372036854775808) = true := bne_iff_ne.mpr c9
    have H' := am_ H
    clear H
    have hnb15 := NB149_150.out
    have hnc15 := NB150_149.out
    obtain ⟨Z16_0, Z16_1, Y16_0, Y16_1⟩ := cz2_ BK149.out
    go_wp2
    go_meet
    case rel => exact ⟨_, (false), qs_, H', ⟨qo_⟩, ⟨qk_ BK149.out⟩, ⟨qk_ BK150.out⟩, ⟨qb2_ GE149.out GE150.out HB.out⟩⟩
 case rest =>
  clear HC3
  try clear c1
  try clear p2
  try clear c5
  try clear c6
  try clear c6b0
  try clear c7
  try clear c9
  try clear c9b0
  try clear c9b1
  try clear c10
  try clear c11
  try clear c13
  try clear c15
  (try clear Z12_0 Z12_1 Y12_0 Y12_1)
  (try clear Z14_0 Z14_1 Y14_0 Y14_1)
  (try clear Z16_0 Z16_1 Y16_0 Y16_1)
  (try clear Z8_0 Z8_1 Y8_0 Y8_1)
  obtain ⟨kq, x23_2, rfl, HA, HJ2, BK149, BK150, HB⟩ := hcut
  cases kq with
  | zero => exact absurd HA.out (by simp [wide_size_signedP.j0])
  | succ kj2 =>
   have H := HA.out
   clear HA
   simp only [wide_size_signedP.j0] at H
   by_cases c17 : x23_2 = true
   ·subst c17
    rw [if_pos rfl] at H
    simp only [Option.some.injEq, Prod.mk.injEq] at H
    obtain ⟨rfl, rfl, rfl⟩ := H
    have hnb18 := NB150_149.out
    have hnc18 := NB149_150.out
    obtain ⟨Z19_0, Z19_1, Y19_0, Y19_1⟩ := cz2_ BK150.out
    go_wp2
    refine bodyPost_ret (results_ct rfl _ _ gb150 32 #[.int .i64 0, .int .u64 0] (0, 0) _ rfl (qpp_ #[.int .i64 0, .int .u64 0] 1 #[.int .i64 0, .int .u64 0] 0 BK150.out) Tryd.underlying32 rfl (by kernel_rfl)) rfl ?_
    exact ⟨qe_, qb2_ GE149.out GE150.out HB.out⟩
   ·replace c17 := Bool.eq_false_iff.mpr c17
    subst c17
    rw [if_neg (show ¬ (false = true) by decide)] at H
    by_cases c20 : a1 = true
    ·subst c20
     rw [if_pos rfl] at H
     replace H := Option.bind_eq_some_iff.mp H
     obtain ⟨⟨t152, t153⟩, A210, H⟩ := H
     (try dsimp only at H)
     have A21 := am_ A210
     clear A210
     simp only [Option.some.injEq, Prod.mk.injEq] at H
     obtain ⟨rfl, rfl, rfl⟩ := H
     have hnb22 := NB149_150.out
     have hnc22 := NB150_149.out
     obtain ⟨Z23_0, Z23_1, Y23_0, Y23_1⟩ := cz2_ BK149.out
     go_wp2_with (first | ((with_reducible refine gate_dst (N := 6) rfl ?_); refine be_ (N := 6) (cs := #[.int .i64 0, .int .u64 0]) (t := 32) ?_; intro gb151 hg w24 hbox hb; have BK151 := am_ (hbox); have GE151 := am_ (bz_ hg (qb2_ GE149.out GE150.out HB.out) : w.heap.size ≤ gb151); replace HB := am_ (below_step (qb2_ GE149.out GE150.out HB.out) hb); have NB149_151 := am_ (nl_ hg (qk_ BK149.out) : gb149 ≠ gb151); have NB151_149 := am_ (ng_ hg (qk_ BK149.out) : gb151 ≠ gb149); replace BK149 := am_ (blk_below (qk_ BK149.out) hb); have NB150_151 := am_ (nl_ hg (qk_ BK150.out) : gb150 ≠ gb151); have NB151_150 := am_ (ng_ hg (qk_ BK150.out) : gb151 ≠ gb150); replace BK150 := am_ (blk_below (qk_ BK150.out) hb); clear hb hbox hg; have hnb25 := NB151_149.out; have hnc25 := NB149_151.out; have hnb26 := NB151_150.out; have hnc26 := NB150_151.out; obtain ⟨Z27_0, Z27_1, Y27_0, Y27_1⟩ := cz2_ BK151.out) | ((with_reducible refine gate_callee (f := 61) rfl ?_); refine goesL_ (some 33) rfl rfl Tryd.func61 (by kernel_rfl) rfl #[.agg #[.int .i64 (wrap64 (a0_0)), .int .u64 a0_1]] rfl ql_ ?_; (with_reducible refine (wide_negate.calls (wrap64 (a0_0)) a0_1 t152 t153 _ A21.out).mono ?_); rintro e w28 ⟨rfl, hb⟩; refine ⟨_, rfl, ?_⟩; replace BK149 := am_ (blk_below (g := gb149) (o := .cells #[.int .u64 a0_0, .int .u64 a0_1] 87 (0, 0)) (qff_ NB149_151.out NB149_151.out BK149.out) hb); replace BK150 := am_ (blk_below (g := gb150) (o := .cells #[.int .i64 0, .int .u64 0] 32 (0, 0)) (qff_ NB150_151.out NB150_151.out BK150.out) hb); replace BK151 := am_ (blk_below (g := gb151) (o := .cells #[.int .i64 (wrap64 (a0_0)), .int .u64 a0_1] 32 (0, 0)) (qpp_ #[.int .i64 (wrap64 (a0_0)), .int .u64 0] 1 #[.int .i64 0, .int .u64 0] 0 BK151.out) hb); replace HB := am_ (below_step (qb3_ GE149.out GE150.out GE151.out HB.out) hb); (try clear hb); obtain ⟨Z29_0, Z29_1, Y29_0, Y29_1⟩ := cz2_ BK151.out; obtain ⟨Z30_0, Z30_1, Y30_0, Y30_1⟩ := cz2_ BK150.out))
     refine bodyPost_ret (results_ct rfl _ _ gb150 32 #[.int .i64 t152, .int .u64 t153] (0, 0) _ rfl (qppff_ #[.int .i64 t152, .int .u64 0] 1 #[.int .i64 0, .int .u64 0] 0 NB150_151.out NB150_151.out BK150.out) Tryd.underlying32 rfl (by kernel_rfl)) rfl ?_
     exact ⟨qe_, qb3_ GE149.out GE150.out GE151.out HB.out⟩
    ·replace c20 := Bool.eq_false_iff.mpr c20
     subst c20
     rw [if_neg (show ¬ (false = true) by decide)] at H
     simp only [Option.some.injEq, Prod.mk.injEq] at H
     obtain ⟨rfl, rfl, rfl⟩ := H
     have hnb31 := NB149_150.out
     have hnc31 := NB150_149.out
     obtain ⟨Z32_0, Z32_1, Y32_0, Y32_1⟩ := cz2_ BK149.out
     go_wp2_with (first | ((with_reducible refine gate_dst (N := 6) rfl ?_); refine be_ (N := 6) (cs := #[.int .i64 0, .int .u64 0]) (t := 32) ?_; intro gb151 hg w33 hbox hb; have n1_ := am_ (blk_below (qk_ BK150.out) hb); have n2_ := am_ (below_step (qb2_ GE149.out GE150.out HB.out) hb); have n3_ := am_ (hbox); have n5_ := am_ (bz_ hg (qb2_ GE149.out GE150.out HB.out) : w.heap.size ≤ gb151); have n6_ := am_ (nl_ hg (qk_ BK149.out) : gb149 ≠ gb151); have n7_ := am_ (ng_ hg (qk_ BK149.out) : gb151 ≠ gb149); have n8_ := am_ (nl_ hg (qk_ BK150.out) : gb150 ≠ gb151); have n9_ := am_ (ng_ hg (qk_ BK150.out) : gb151 ≠ gb150); (try clear BK149); clear BK150; clear HB; have BK150 := n1_; have HB := n2_; have BK151 := n3_; have GE151 := n5_; have NB149_151 := n6_; have NB151_149 := n7_; have NB150_151 := n8_; have NB151_150 := n9_; clear n1_ n2_ n3_ n5_ n6_ n7_ n8_ n9_; clear hb hbox hg; have hnb34 := NB151_149.out; have hnc34 := NB149_151.out; have hnb35 := NB151_150.out; have hnc35 := NB150_151.out; obtain ⟨Z36_0, Z36_1, Y36_0, Y36_1⟩ := cz2_ BK151.out; obtain ⟨Z37_0, Z37_1, Y37_0, Y37_1⟩ := cz2_ BK150.out))
     refine bodyPost_ret (results_ct rfl _ _ gb150 32 #[.int .i64 (wrap64 (a0_0)), .int .u64 a0_1] (0, 0) _ rfl (qppff_ #[.int .i64 (wrap64 (a0_0)), .int .u64 0] 1 #[.int .i64 0, .int .u64 0] 0 NB150_151.out NB150_151.out BK150.out) Tryd.underlying32 rfl (by kernel_rfl)) rfl ?_
     exact ⟨qe_, qb3_ GE149.out GE150.out GE151.out HB.out⟩
def wide_size_signed.f (a0_0 a0_1 : Int) (a1 : Bool) : Option (Int × Int × Int) :=
 if inU a0_0 ∧ inU a0_1 then
  some (if wv a0_0 a0_1 > 170141183460469231731687303715884105728 ∨ wv a0_0 a0_1 = 170141183460469231731687303715884105728 ∧ a1 = false then (0, 0, 6)
   else ((if a1 = true then -(wv a0_0 a0_1) else wv a0_0 a0_1) / 18446744073709551616, (if a1 = true then -(wv a0_0 a0_1) else wv a0_0 a0_1) % 18446744073709551616, 0)) else none
theorem wide_size_signed.eq {a b : Int} {c : Bool} {r : Int × Int × Int} (h : wide_size_signed.f a b c = some r) : ∃ k, wide_size_signedP.f k a b c = some r := by
 unfold wide_size_signed.f at h
 split at h
 ·rename_i q
  obtain ⟨⟨a0, a1⟩, b0, b1⟩ := q
  injection h with h
  subst h
  refine ⟨1, ?_⟩
  unfold wide_size_signedP.f
  simp only [wide_size_signedP.j0, wide_negate.f]
  have hv : wv a b = a * 18446744073709551616 + b := rfl
  have hw : isW (wrap64 a) b := ⟨by unfold inI wrap64; omega, b0, b1⟩
  have hwv : wv (wrap64 a) b = if a < 9223372036854775808 then wv a b else wv a b - 340282366920938463463374607431768211456 := by unfold wv wrap64; split <;> omega
  rw [if_pos hw]
  by_cases h1 : a > 9223372036854775808
  ·rw [if_pos h1, if_pos trivial, if_pos (.inl (by omega))]
  ·rw [if_neg h1]
   by_cases h2 : a = 9223372036854775808
   ·rw [if_pos h2]
    cases c with
    | true =>
     rw [if_pos rfl]
     by_cases h3 : b > 0
     ·rw [if_pos (by simpa using h3), if_pos (.inl (by omega))]
     ·have hb : b = 0 := by omega
      subst h2 hb
      decide +kernel
    | false =>
     rw [if_neg (by decide), if_pos trivial]
     by_cases h3 : b > 0
     ·rw [if_pos (.inl (by omega))]
     ·rw [if_pos (.inr ⟨by omega, rfl⟩)]
   ·rw [if_neg h2, if_neg (by decide)]
    have hlt : a < 9223372036854775808 := by omega
    rw [if_pos hlt] at hwv
    have hwa : wrap64 a = a := by unfold wrap64; omega
    rw [if_neg (show ¬ (wv a b > 170141183460469231731687303715884105728 ∨ wv a b = 170141183460469231731687303715884105728 ∧ c = false) by omega)]
    cases c with
    | true =>
     rw [if_pos rfl, hwv, if_neg (by omega)]
     simp
    | false =>
     rw [if_neg (by decide), hwa]
     simp only [Bool.false_eq_true, if_false]
     congr 2
     ·omega
     ·congr 1; omega
 ·cases h
theorem wide_size_signed.calls (a0_0 a0_1 : Int) (a1 : Bool) (r1 r2 r3 : Int) (w : World) (h : wide_size_signed.f a0_0 a0_1 a1 = some (r1, r2, r3)) :
  Calls Tryd.prog 59 #[.agg #[.int .u64 a0_0, .int .u64 a0_1], .bool a1] w fun e w' => e = .returned (.tuple #[.agg #[.int .i64 r1, .int .u64 r2], .int .i64 r3]) ∧ Below w.heap.size w w' := by
 obtain ⟨k, h⟩ := wide_size_signed.eq h
 exact wide_size_signedP.calls k a0_0 a0_1 a1 r1 r2 r3 w h
theorem eqA87 (d : Nat) (w : World) (x0 y0 : Int) (x1 y1 : Int) :
    (Op.equalIn (d + 2) 87 (.agg #[.int .u64 x0, .int .u64 x1]) (.agg #[.int .u64 y0, .int .u64 y1])).run Tryd.prog w = .ok (x0 == y0 && (x1 == y1)) w := by
  refine eqA_of Tryd.underlying87 (by kernel_rfl) ?_
  refine eqf_cons (by rfl) (by go_simp; rfl) (by go_simp; rfl) (by go_simp) ?_
  exact eqf_last (by rfl) (by go_simp; rfl) (by go_simp; rfl) (by go_simp)
end Go.Proofs.YtogcdcjbleafdaaDoor.PS
end
section
namespace Go.Proofs.YtogcdcjbleafdaaDoor.PS
open Go.RowKit Go.Proofs.YtogcdcjbleafdaaDoorW.PrintWords Go.Proofs.YtogcdcjbleafdaaDoorW.PrintLast Go.Proofs.YtogcdcjbleafdaaDoorW.PrintMore
attribute [local go_sem] max2_int min2_int max_two min_two
set_option linter.unusedVariables false
set_option linter.unusedSimpArgs false
attribute [local go_sem high] eqA87
def wide_Scale.f (a0_0 a0_1 a1 : Int) : Option (Int × Int × Int) := (wide_absolute.f a0_0 a0_1).bind fun bt156 => ((wide_abs.f a1).bind fun t158 => ((wide_size_times.f bt156.1 bt156.2 t158 0).bind fun bt159 => (if bt159.2.2 = true then (if ((decide (a0_0 < 0)) != (decide (a1 < 0))) = true then ((wide_size_signed.f bt159.1 bt159.2.1 (!(bt159.1 == 0) || (!(bt159.2.1 == 0)))).bind fun bt163 => (some (bt163.1, bt163.2.1, bt163.2.2))) else ((wide_size_signed.f bt159.1 bt159.2.1 false).bind fun bt166 => (some (bt166.1, bt166.2.1, bt166.2.2)))) else (some (0, 0, 6)))))
def wide_Scale.T4 : Bool × List (List Nat × List Nat) := (true, [([], []), ([], []), ([1], [1]), ([2], [2]), ([], []), ([4], [4]), ([3, 5], [3, 5]), ([6], [6]), ([7], [7]), ([7], [7]), ([8, 9, 7], [7, 8, 9]), ([7, 10], [7, 10]), ([0, 11, 7], [0, 11]), ([12], [12]), ([12], [12]), ([13, 12, 0, 1, 2, 3, 4, 5, 6, 7, 8, 9, 10, 11, 12, 13, 14], [13]), ([14, 15, 0, 1, 2, 3, 4, 5, 6, 7, 8, 9, 10, 11, 12, 13, 14, 15], [14])])
def wide_Scale.B4 : List Nat := [0, 0, 2, 6, 0, 16, 62, 126, 254, 254, 1022, 2046, 4095, 8191, 8191, 32767, 65535]
theorem wide_Scale.tab4 : rtab .any (opsOf Tryd.f27 4) = wide_Scale.T4 := by kernel_rfl
theorem wide_Scale.bits4 : waitsOk wide_Scale.T4.2 wide_Scale.B4 = true := by kernel_rfl
set_option maxHeartbeats 8000000 in
set_option maxRecDepth 100000 in
theorem wide_Scale.calls (a0_0 a0_1 a1 r1 r2 r3 : Int) (w : World) (h : wide_Scale.f a0_0 a0_1 a1 = some (r1, r2, r3)) :
  Calls Tryd.prog 27 #[.agg #[.int .i64 a0_0, .int .u64 a0_1], .int .i64 a1] w fun e w' => e = .returned (.tuple #[.agg #[.int .i64 r1, .int .u64 r2], .int .i64 r3]) ∧ Below w.heap.size w w' := by
 have hu32 := Tryd.underlying32
 have hu87 := Tryd.underlying87
 have HB := am_ (Below.refl w.heap.size w)
 have H := h
 clear h
 unfold wide_Scale.f at H
 replace H := Option.bind_eq_some_iff.mp H
 obtain ⟨⟨t156, t157⟩, A30, H⟩ := H
 (try dsimp only at H)
 have A3 := am_ A30
 clear A30
 replace H := Option.bind_eq_some_iff.mp H
 obtain ⟨t158, A40, H⟩ := H
 (try dsimp only at H)
 have A4 := am_ A40
 clear A40
 replace H := Option.bind_eq_some_iff.mp H
 obtain ⟨⟨t159, t160, t161⟩, A50, H⟩ := H
 (try dsimp only at H)
 have A5 := am_ A50
 clear A50
 by_cases c6 : t161 = true
 ·subst c6
  rw [if_pos rfl] at H
  by_cases c7 : ((decide (a0_0 < 0)) != (decide (a1 < 0))) = true
  ·rw [if_pos c7] at H
   have c7b0 : ((decide (a0_0 < 0)) != (decide (a1 < 0))) = true := c7
   (try (have c7b1 : decide ((decide (a0_0 < 0)) = (decide (a1 < 0))) = false := by simpa using c7))
   (try (have c7b2 : ((decide (a0_0 < 0)) == (decide (a1 < 0))) = false := by simpa using c7))
   (try (have c7b3 : ¬ ((decide (a0_0 < 0)) = (decide (a1 < 0))) := by simpa using c7))
   clear c7
   replace H := Option.bind_eq_some_iff.mp H
   obtain ⟨⟨t163, t164, t165⟩, A80, H⟩ := H
   (try dsimp only at H)
   have A8 := am_ A80
   clear A80
   simp only [Option.some.injEq, Prod.mk.injEq] at H
   obtain ⟨rfl, rfl, rfl⟩ := H
   go_enter Tryd.func27, Tryd.ntmps27
   try go_wp2_with (first | ((with_reducible refine gate_dst (N := 2) rfl ?_); refine be_ (N := 2) (cs := #[.int .i64 a0_0, .int .u64 a0_1]) (t := 32) ?_; intro gb154 hg w9 hbox hb; have BK154 := am_ (hbox); have GE154 := am_ (bz_ hg (qb_ HB.out) : w.heap.size ≤ gb154); replace HB := am_ (below_step (qb_ HB.out) hb); clear hb hbox hg) | ((with_reducible refine gate_dst (N := 4) rfl ?_); refine be_ (N := 4) (cs := #[.int .i64 0, .int .u64 0]) (t := 32) ?_; intro gb155 hg w10 hbox hb; have BK155 := am_ (hbox); have GE155 := am_ (bz_ hg (qb1_ GE154.out HB.out) : w.heap.size ≤ gb155); replace HB := am_ (below_step (qb1_ GE154.out HB.out) hb); have NB154_155 := am_ (nl_ hg (qk_ BK154.out) : gb154 ≠ gb155); have NB155_154 := am_ (ng_ hg (qk_ BK154.out) : gb155 ≠ gb154); replace BK154 := am_ (blk_below (qk_ BK154.out) hb); clear hb hbox hg; have hnb11 := NB154_155.out; have hnc11 := NB155_154.out; obtain ⟨Z12_0, Z12_1, Y12_0, Y12_1⟩ := cz2_ BK154.out) | ((with_reducible refine gate_callee (f := 56) rfl ?_); refine goesL_ (some 10) rfl rfl Tryd.func56 (by kernel_rfl) rfl #[.agg #[.int .i64 a0_0, .int .u64 a0_1]] rfl ql_ ?_; (with_reducible refine (wide_absolute.calls a0_0 a0_1 t156 t157 _ A3.out).mono ?_); rintro e w13 ⟨rfl, hb⟩; refine ⟨_, rfl, ?_⟩; replace BK154 := am_ (blk_below (qk_ BK154.out) hb); replace BK155 := am_ (blk_below (qk_ BK155.out) hb); replace HB := am_ (below_step (qb2_ GE154.out GE155.out HB.out) hb); (try clear hb)) | ((with_reducible refine gate_callee (f := 58) rfl ?_); refine goesL_ (some 12) rfl rfl Tryd.func58 (by kernel_rfl) rfl #[.int .i64 a1] rfl ql_ ?_; (with_reducible refine (wide_abs.calls a1 t158 _ A4.out).mono ?_); rintro e w' ⟨rfl, ⟨nd, rfl⟩⟩; refine ⟨_, rfl, ?_⟩; (try (rw [drewN_self w13]; generalize hq_ : World.drewN w13 _ = w13; replace BK154 : Aside0 (w13.heap[gb154]? = some (.cells #[.int .i64 a0_0, .int .u64 a0_1] 32 (0, 0))) := ⟨by rw [← hq_]; exact (qk_ BK154.out)⟩; replace BK155 : Aside0 (w13.heap[gb155]? = some (.cells #[.int .i64 0, .int .u64 0] 32 (0, 0))) := ⟨by rw [← hq_]; exact (qk_ BK155.out)⟩; replace HB : Aside0 (Below w.heap.size w w13) := ⟨by rw [← hq_]; exact (qb2_ GE154.out GE155.out HB.out)⟩; clear hq_))) | ((with_reducible refine gate_callee (f := 57) rfl ?_); refine goesL_ (some 13) rfl rfl Tryd.func57 (by kernel_rfl) rfl #[.agg #[.int .u64 t156, .int .u64 t157], .int .u64 t158, .int .u64 0] rfl ql_ ?_; (with_reducible refine (wide_size_times.calls t156 t157 t158 0 t159 t160 true _ A5.out).mono ?_); rintro e w14 ⟨rfl, hb⟩; refine ⟨_, rfl, ?_⟩; replace BK154 := am_ (blk_below (qk_ BK154.out) hb); replace BK155 := am_ (blk_below (qk_ BK155.out) hb); replace HB := am_ (below_step (qb2_ GE154.out GE155.out HB.out) hb); (try clear hb)) | ((with_reducible refine gate_dst (N := 6) rfl ?_); refine be_ (N := 6) (cs := #[.int .u64 0, .int .u64 0]) (t := 87) ?_; intro gb162 hg w15 hbox hb; have BK162 := am_ (hbox); have GE162 := am_ (bz_ hg (qb2_ GE154.out GE155.out HB.out) : w.heap.size ≤ gb162); replace HB := am_ (below_step (qb2_ GE154.out GE155.out HB.out) hb); have NB154_162 := am_ (nl_ hg (qk_ BK154.out) : gb154 ≠ gb162); have NB162_154 := am_ (ng_ hg (qk_ BK154.out) : gb162 ≠ gb154); replace BK154 := am_ (blk_below (qk_ BK154.out) hb); have NB155_162 := am_ (nl_ hg (qk_ BK155.out) : gb155 ≠ gb162); have NB162_155 := am_ (ng_ hg (qk_ BK155.out) : gb162 ≠ gb155); replace BK155 := am_ (blk_below (qk_ BK155.out) hb); clear hb hbox hg; have hnb16 := NB162_154.out; have hnc16 := NB154_162.out; have hnb17 := NB162_155.out; have hnc17 := NB155_162.out; obtain ⟨Z18_0, Z18_1, Y18_0, Y18_1⟩ := cz2_ BK162.out))
   have n0_ : Aside0 (((w15.setCell ⟨gb162, 0, none⟩ (.int .u64 t159)).setCell ⟨gb162, 1, none⟩ (.int .u64 t160)).heap[gb154]? = some (.cells #[.int .i64 a0_0, .int .u64 a0_1] 32 (0, 0))) := ⟨qff_ NB154_162.out NB154_162.out BK154.out⟩
   have n1_ : Aside0 (((w15.setCell ⟨gb162, 0, none⟩ (.int .u64 t159)).setCell ⟨gb162, 1, none⟩ (.int .u64 t160)).heap[gb155]? = some (.cells #[.int .i64 0, .int .u64 0] 32 (0, 0))) := ⟨qff_ NB155_162.out NB155_162.out BK155.out⟩
   have n2_ : Aside0 (((w15.setCell ⟨gb162, 0, none⟩ (.int .u64 t159)).setCell ⟨gb162, 1, none⟩ (.int .u64 t160)).heap[gb162]? = some (.cells #[.int .u64 t159, .int .u64 t160] 87 (0, 0))) := ⟨qpp_ #[.int .u64 t159, .int .u64 0] 1 #[.int .u64 0, .int .u64 0] 0 BK162.out⟩
   have n3_ : Aside0 (Below w.heap.size w ((w15.setCell ⟨gb162, 0, none⟩ (.int .u64 t159)).setCell ⟨gb162, 1, none⟩ (.int .u64 t160))) := ⟨qb3_ GE154.out GE155.out GE162.out HB.out⟩
   (try clear BK154)
   (try clear BK155)
   (try clear BK162)
   (try clear HB)
   generalize ((w15.setCell ⟨gb162, 0, none⟩ (.int .u64 t159)).setCell ⟨gb162, 1, none⟩ (.int .u64 t160)) = w19 at n0_ n1_ n2_ n3_ ⊢
   have BK154 := n0_
   have BK155 := n1_
   have BK162 := n2_
   have HB := n3_
   clear n0_ n1_ n2_ n3_
   replace BK154 := am_ (blk_drew BK154.out)
   replace BK155 := am_ (blk_drew BK155.out)
   replace BK162 := am_ (blk_drew BK162.out)
   replace HB := am_ (below_drew1 HB.out)
   refine start_ (n := 17) (S := fun w' => w'.cell? ⟨gb162, 0, none⟩ = some (.int .u64 t159) ∧ w'.cell? ⟨gb162, 1, none⟩ = some (.int .u64 t160) ∧ w'.cell? ⟨gb154, 0, none⟩ = some (.int .i64 a0_0) ∧ w'.cell? ⟨gb154, 1, none⟩ = some (.int .u64 a0_1)) (ds := []) (nb_ 17 0) (by kernel_rfl) rfl rfl ⟨(blk_cell BK162.out 0).trans rfl, (blk_cell BK162.out 1).trans rfl, (blk_cell BK154.out 0).trans rfl, (blk_cell BK154.out 1).trans rfl⟩ (fun hHeld => ?_); refine with_tabW wide_Scale.tab4 wide_Scale.bits4 (fun HT_ HW_ => ?_)
   generalize w19.drew = w20 at BK154 BK155 BK162 HB hHeld ⊢
   refine pz_ 1 20 (nb_ 17 2) HT_.out ?_
   refine pz_ 4 23 (nb_ 17 18) HT_.out ?_
   refine pz_ 5 24 (nb_ 17 50) HT_.out ?_
   refine tk4_ 0 19 (nb_ 17 51) HT_.out HW_.out hHeld ?_
   refine tk4_ 2 21 (nb_ 17 55) HT_.out HW_.out hHeld ?_
   refine pz_ 3 22 (nb_ 17 63) HT_.out ?_
   refine pz_ 6 25 (nb_ 17 127) HT_.out ?_
   refine pz_ 7 26 (nb_ 17 255) HT_.out ?_
   refine pz_ 9 28 (nb_ 17 767) HT_.out ?_
   refine tk4_ 8 27 (nb_ 17 1023) HT_.out HW_.out hHeld ?_
   refine pz_ 10 29 (nb_ 17 2047) HT_.out ?_
   refine pz_ 11 30 (nb_ 17 4095) HT_.out ?_
   refine on_ 12 31 (nb_ 17 8191) HT_.out (fun K hK => ?_)
   refine goes_ Tryd.func59 (by kernel_rfl) rfl #[.agg #[.int .u64 t159, .int .u64 t160], .bool (!(t159 == 0) || (!(t160 == 0)))] (by rfl) rfl rfl ql_ ?_
   with_reducible refine (wide_size_signed.calls t159 t160 (!(t159 == 0) || (!(t160 == 0))) t163 t164 t165 _ A8.out).mono ?_
   rintro e w21 ⟨rfl, hb⟩
   refine ⟨_, rfl, ?_⟩
   replace BK154 := am_ (blk_below (qk_ BK154.out) hb)
   replace BK155 := am_ (blk_below (qk_ BK155.out) hb)
   replace BK162 := am_ (blk_below (qk_ BK162.out) hb)
   replace HB := am_ (below_step (qb3_ GE154.out GE155.out GE162.out HB.out) hb)
   (try clear hb)
   refine hK.out _ _ ⟨(blk_cell BK162.out 0).trans rfl, (blk_cell BK162.out 1).trans rfl, (blk_cell BK154.out 0).trans rfl, (blk_cell BK154.out 1).trans rfl⟩ (fun hHeld => ?_)
   clear hK K
   refine no_ ?_
   refine pz_ 13 32 (nb_ 17 16383) HT_.out ?_
   refine pz_ 14 33 (nb_ 17 32767) HT_.out ?_
   refine one_ (i := 15) (N := none) (nb_ 17 65535) rfl rfl (one_of HT_.out (by kernel_rfl)) (by decide) (fun K hK => ?_)
   have hs22 : w21.cell? ⟨gb155, 0, none⟩ = some (.int .i64 0) := (blk_cell BK155.out 0).trans rfl
   have hfs22 := blk_frozen BK155.out 0
   have hns22_0 := NB154_155.out
   have hns22_2 := NB162_155.out
   have hms22_0 := NB155_154.out
   have hms22_2 := NB155_162.out
   have hs23 : w21.cell? ⟨gb155, 1, none⟩ = some (.int .u64 0) := (blk_cell BK155.out 1).trans rfl
   have hfs23 := blk_frozen BK155.out 1
   have hns23_0 := NB154_155.out
   have hns23_2 := NB162_155.out
   have hms23_0 := NB155_154.out
   have hms23_2 := NB155_162.out
   refine skip_ (w1 := ?_) (by rfl) rfl ?_ ?_
   rotate_left
   ·go_simp
    rfl
   refine hK.out _ _ ⟨((cell_far (p := ⟨gb155, _, none⟩) NB162_155.out _).trans (((cell_far (p := ⟨gb155, _, none⟩) NB162_155.out _).trans (hHeld.1)))), ((cell_far (p := ⟨gb155, _, none⟩) NB162_155.out _).trans (((cell_far (p := ⟨gb155, _, none⟩) NB162_155.out _).trans (hHeld.2.1)))), ((cell_far (p := ⟨gb155, _, none⟩) NB154_155.out _).trans (((cell_far (p := ⟨gb155, _, none⟩) NB154_155.out _).trans (hHeld.2.2.1)))), ((cell_far (p := ⟨gb155, _, none⟩) NB154_155.out _).trans (((cell_far (p := ⟨gb155, _, none⟩) NB154_155.out _).trans (hHeld.2.2.2))))⟩ (fun hHeld => ?_)
   clear hK K
   refine pz_ 16 5 (nb_ 17 131071) HT_.out ?_
   refine done_ (done_of HT_.out (by kernel_rfl)) ?_
   try go_wp2
   refine bodyPost_ret (results_ct rfl _ _ gb155 32 #[.int .i64 t163, .int .u64 t164] (0, 0) _ rfl (qpp_ #[.int .i64 t163, .int .u64 0] 1 #[.int .i64 0, .int .u64 0] 0 BK155.out) Tryd.underlying32 rfl (by kernel_rfl)) rfl ?_
   exact ⟨qe_, qb3_ GE154.out GE155.out GE162.out HB.out⟩
  ·rw [if_neg c7] at H
   have c7b0 : ((decide (a0_0 < 0)) != (decide (a1 < 0))) = false := by simpa using c7
   (try (have c7b1 : decide ((decide (a0_0 < 0)) = (decide (a1 < 0))) = true := by simpa using c7))
   (try (have c7b2 : ((decide (a0_0 < 0)) == (decide (a1 < 0))) = true := by simpa using c7))
   clear c7
   replace H := Option.bind_eq_some_iff.mp H
   obtain ⟨⟨t166, t167, t168⟩, A240, H⟩ := H
   (try dsimp only at H)
   have A24 := am_ A240
   clear A240
   simp only [Option.some.injEq, Prod.mk.injEq] at H
   obtain ⟨rfl, rfl, rfl⟩ := H
   go_enter Tryd.func27, Tryd.ntmps27
   try go_wp2_with (first | ((with_reducible refine gate_dst (N := 2) rfl ?_); refine be_ (N := 2) (cs := #[.int .i64 a0_0, .int .u64 a0_1]) (t := 32) ?_; intro gb154 hg w25 hbox hb; have BK154 := am_ (hbox); have GE154 := am_ (bz_ hg (qb_ HB.out) : w.heap.size ≤ gb154); replace HB := am_ (below_step (qb_ HB.out) hb); clear hb hbox hg) | ((with_reducible refine gate_dst (N := 4) rfl ?_); refine be_ (N := 4) (cs := #[.int .i64 0, .int .u64 0]) (t := 32) ?_; intro gb155 hg w26 hbox hb; have BK155 := am_ (hbox); have GE155 := am_ (bz_ hg (qb1_ GE154.out HB.out) : w.heap.size ≤ gb155); replace HB := am_ (below_step (qb1_ GE154.out HB.out) hb); have NB154_155 := am_ (nl_ hg (qk_ BK154.out) : gb154 ≠ gb155); have NB155_154 := am_ (ng_ hg (qk_ BK154.out) : gb155 ≠ gb154); replace BK154 := am_ (blk_below (qk_ BK154.out) hb); clear hb hbox hg; have hnb27 := NB154_155.out; have hnc27 := NB155_154.out; obtain ⟨Z28_0, Z28_1, Y28_0, Y28_1⟩ := cz2_ BK154.out) | ((with_reducible refine gate_callee (f := 56) rfl ?_); refine goesL_ (some 10) rfl rfl Tryd.func56 (by kernel_rfl) rfl #[.agg #[.int .i64 a0_0, .int .u64 a0_1]] rfl ql_ ?_; (with_reducible refine (wide_absolute.calls a0_0 a0_1 t156 t157 _ A3.out).mono ?_); rintro e w29 ⟨rfl, hb⟩; refine ⟨_, rfl, ?_⟩; replace BK154 := am_ (blk_below (qk_ BK154.out) hb); replace BK155 := am_ (blk_below (qk_ BK155.out) hb); replace HB := am_ (below_step (qb2_ GE154.out GE155.out HB.out) hb); (try clear hb)) | ((with_reducible refine gate_callee (f := 58) rfl ?_); refine goesL_ (some 12) rfl rfl Tryd.func58 (by kernel_rfl) rfl #[.int .i64 a1] rfl ql_ ?_; (with_reducible refine (wide_abs.calls a1 t158 _ A4.out).mono ?_); rintro e w' ⟨rfl, ⟨nd, rfl⟩⟩; refine ⟨_, rfl, ?_⟩; (try (rw [drewN_self w29]; generalize hq_ : World.drewN w29 _ = w29; replace BK154 : Aside0 (w29.heap[gb154]? = some (.cells #[.int .i64 a0_0, .int .u64 a0_1] 32 (0, 0))) := ⟨by rw [← hq_]; exact (qk_ BK154.out)⟩; replace BK155 : Aside0 (w29.heap[gb155]? = some (.cells #[.int .i64 0, .int .u64 0] 32 (0, 0))) := ⟨by rw [← hq_]; exact (qk_ BK155.out)⟩; replace HB : Aside0 (Below w.heap.size w w29) := ⟨by rw [← hq_]; exact (qb2_ GE154.out GE155.out HB.out)⟩; clear hq_))) | ((with_reducible refine gate_callee (f := 57) rfl ?_); refine goesL_ (some 13) rfl rfl Tryd.func57 (by kernel_rfl) rfl #[.agg #[.int .u64 t156, .int .u64 t157], .int .u64 t158, .int .u64 0] rfl ql_ ?_; (with_reducible refine (wide_size_times.calls t156 t157 t158 0 t159 t160 true _ A5.out).mono ?_); rintro e w30 ⟨rfl, hb⟩; refine ⟨_, rfl, ?_⟩; replace BK154 := am_ (blk_below (qk_ BK154.out) hb); replace BK155 := am_ (blk_below (qk_ BK155.out) hb); replace HB := am_ (below_step (qb2_ GE154.out GE155.out HB.out) hb); (try clear hb)) | ((with_reducible refine gate_dst (N := 6) rfl ?_); refine be_ (N := 6) (cs := #[.int .u64 0, .int .u64 0]) (t := 87) ?_; intro gb162 hg w31 hbox hb; have BK162 := am_ (hbox); have GE162 := am_ (bz_ hg (qb2_ GE154.out GE155.out HB.out) : w.heap.size ≤ gb162); replace HB := am_ (below_step (qb2_ GE154.out GE155.out HB.out) hb); have NB154_162 := am_ (nl_ hg (qk_ BK154.out) : gb154 ≠ gb162); have NB162_154 := am_ (ng_ hg (qk_ BK154.out) : gb162 ≠ gb154); replace BK154 := am_ (blk_below (qk_ BK154.out) hb); have NB155_162 := am_ (nl_ hg (qk_ BK155.out) : gb155 ≠ gb162); have NB162_155 := am_ (ng_ hg (qk_ BK155.out) : gb162 ≠ gb155); replace BK155 := am_ (blk_below (qk_ BK155.out) hb); clear hb hbox hg; have hnb32 := NB162_154.out; have hnc32 := NB154_162.out; have hnb33 := NB162_155.out; have hnc33 := NB155_162.out; obtain ⟨Z34_0, Z34_1, Y34_0, Y34_1⟩ := cz2_ BK162.out))
   have n0_ : Aside0 (((w31.setCell ⟨gb162, 0, none⟩ (.int .u64 t159)).setCell ⟨gb162, 1, none⟩ (.int .u64 t160)).heap[gb154]? = some (.cells #[.int .i64 a0_0, .int .u64 a0_1] 32 (0, 0))) := ⟨qff_ NB154_162.out NB154_162.out BK154.out⟩
   have n1_ : Aside0 (((w31.setCell ⟨gb162, 0, none⟩ (.int .u64 t159)).setCell ⟨gb162, 1, none⟩ (.int .u64 t160)).heap[gb155]? = some (.cells #[.int .i64 0, .int .u64 0] 32 (0, 0))) := ⟨qff_ NB155_162.out NB155_162.out BK155.out⟩
   have n2_ : Aside0 (((w31.setCell ⟨gb162, 0, none⟩ (.int .u64 t159)).setCell ⟨gb162, 1, none⟩ (.int .u64 t160)).heap[gb162]? = some (.cells #[.int .u64 t159, .int .u64 t160] 87 (0, 0))) := ⟨qpp_ #[.int .u64 t159, .int .u64 0] 1 #[.int .u64 0, .int .u64 0] 0 BK162.out⟩
   have n3_ : Aside0 (Below w.heap.size w ((w31.setCell ⟨gb162, 0, none⟩ (.int .u64 t159)).setCell ⟨gb162, 1, none⟩ (.int .u64 t160))) := ⟨qb3_ GE154.out GE155.out GE162.out HB.out⟩
   (try clear BK154)
   (try clear BK155)
   (try clear BK162)
   (try clear HB)
   generalize ((w31.setCell ⟨gb162, 0, none⟩ (.int .u64 t159)).setCell ⟨gb162, 1, none⟩ (.int .u64 t160)) = w35 at n0_ n1_ n2_ n3_ ⊢
   have BK154 := n0_
   have BK155 := n1_
   have BK162 := n2_
   have HB := n3_
   clear n0_ n1_ n2_ n3_
   replace BK154 := am_ (blk_drew BK154.out)
   replace BK155 := am_ (blk_drew BK155.out)
   replace BK162 := am_ (blk_drew BK162.out)
   replace HB := am_ (below_drew1 HB.out)
   refine start_ (n := 17) (S := fun w' => w'.cell? ⟨gb162, 0, none⟩ = some (.int .u64 t159) ∧ w'.cell? ⟨gb162, 1, none⟩ = some (.int .u64 t160) ∧ w'.cell? ⟨gb154, 0, none⟩ = some (.int .i64 a0_0) ∧ w'.cell? ⟨gb154, 1, none⟩ = some (.int .u64 a0_1)) (ds := []) (nb_ 17 0) (by kernel_rfl) rfl rfl ⟨(blk_cell BK162.out 0).trans rfl, (blk_cell BK162.out 1).trans rfl, (blk_cell BK154.out 0).trans rfl, (blk_cell BK154.out 1).trans rfl⟩ (fun hHeld => ?_); refine with_tabW wide_Scale.tab4 wide_Scale.bits4 (fun HT_ HW_ => ?_)
   generalize w35.drew = w36 at BK154 BK155 BK162 HB hHeld ⊢
   refine pz_ 1 20 (nb_ 17 2) HT_.out ?_
   refine pz_ 4 23 (nb_ 17 18) HT_.out ?_
   refine pz_ 5 24 (nb_ 17 50) HT_.out ?_
   refine tk4_ 0 19 (nb_ 17 51) HT_.out HW_.out hHeld ?_
   refine tk4_ 2 21 (nb_ 17 55) HT_.out HW_.out hHeld ?_
   refine pz_ 3 22 (nb_ 17 63) HT_.out ?_
   refine pz_ 6 25 (nb_ 17 127) HT_.out ?_
   refine pz_ 7 26 (nb_ 17 255) HT_.out ?_
   refine pu_ 8 27 (nb_ 17 511) HT_.out ?_
   refine pu_ 9 28 (nb_ 17 1023) HT_.out ?_
   refine pu_ 10 29 (nb_ 17 2047) HT_.out ?_
   refine pz_ 11 30 (nb_ 17 4095) HT_.out ?_
   refine on_ 12 31 (nb_ 17 8191) HT_.out (fun K hK => ?_)
   refine goes_ Tryd.func59 (by kernel_rfl) rfl #[.agg #[.int .u64 t159, .int .u64 t160], .bool false] (by rfl) rfl rfl ql_ ?_
   with_reducible refine (wide_size_signed.calls t159 t160 false t166 t167 t168 _ A24.out).mono ?_
   rintro e w37 ⟨rfl, hb⟩
   refine ⟨_, rfl, ?_⟩
   replace BK154 := am_ (blk_below (qk_ BK154.out) hb)
   replace BK155 := am_ (blk_below (qk_ BK155.out) hb)
   replace BK162 := am_ (blk_below (qk_ BK162.out) hb)
   replace HB := am_ (below_step (qb3_ GE154.out GE155.out GE162.out HB.out) hb)
   (try clear hb)
   refine hK.out _ _ ⟨(blk_cell BK162.out 0).trans rfl, (blk_cell BK162.out 1).trans rfl, (blk_cell BK154.out 0).trans rfl, (blk_cell BK154.out 1).trans rfl⟩ (fun hHeld => ?_)
   clear hK K
   refine no_ ?_
   refine pz_ 13 32 (nb_ 17 16383) HT_.out ?_
   refine pz_ 14 33 (nb_ 17 32767) HT_.out ?_
   refine one_ (i := 15) (N := none) (nb_ 17 65535) rfl rfl (one_of HT_.out (by kernel_rfl)) (by decide) (fun K hK => ?_)
   have hs38 : w37.cell? ⟨gb155, 0, none⟩ = some (.int .i64 0) := (blk_cell BK155.out 0).trans rfl
   have hfs38 := blk_frozen BK155.out 0
   have hns38_0 := NB154_155.out
   have hns38_2 := NB162_155.out
   have hms38_0 := NB155_154.out
   have hms38_2 := NB155_162.out
   have hs39 : w37.cell? ⟨gb155, 1, none⟩ = some (.int .u64 0) := (blk_cell BK155.out 1).trans rfl
   have hfs39 := blk_frozen BK155.out 1
   have hns39_0 := NB154_155.out
   have hns39_2 := NB162_155.out
   have hms39_0 := NB155_154.out
   have hms39_2 := NB155_162.out
   refine skip_ (w1 := ?_) (by rfl) rfl ?_ ?_
   rotate_left
   ·go_simp
    rfl
   refine hK.out _ _ ⟨((cell_far (p := ⟨gb155, _, none⟩) NB162_155.out _).trans (((cell_far (p := ⟨gb155, _, none⟩) NB162_155.out _).trans (hHeld.1)))), ((cell_far (p := ⟨gb155, _, none⟩) NB162_155.out _).trans (((cell_far (p := ⟨gb155, _, none⟩) NB162_155.out _).trans (hHeld.2.1)))), ((cell_far (p := ⟨gb155, _, none⟩) NB154_155.out _).trans (((cell_far (p := ⟨gb155, _, none⟩) NB154_155.out _).trans (hHeld.2.2.1)))), ((cell_far (p := ⟨gb155, _, none⟩) NB154_155.out _).trans (((cell_far (p := ⟨gb155, _, none⟩) NB154_155.out _).trans (hHeld.2.2.2))))⟩ (fun hHeld => ?_)
   clear hK K
   refine pz_ 16 5 (nb_ 17 131071) HT_.out ?_
   refine done_ (done_of HT_.out (by kernel_rfl)) ?_
   try go_wp2
   refine bodyPost_ret (results_ct rfl _ _ gb155 32 #[.int .i64 t166, .int .u64 t167] (0, 0) _ rfl (qpp_ #[.int .i64 t166, .int .u64 0] 1 #[.int .i64 0, .int .u64 0] 0 BK155.out) Tryd.underlying32 rfl (by kernel_rfl)) rfl ?_
   exact ⟨qe_, qb3_ GE154.out GE155.out GE162.out HB.out⟩
 ·replace c6 := Bool.eq_false_iff.mpr c6
  subst c6
  rw [if_neg (show ¬ (false = true) by decide)] at H
  simp only [Option.some.injEq, Prod.mk.injEq] at H
  obtain ⟨rfl, rfl, rfl⟩ := H
  go_enter Tryd.func27, Tryd.ntmps27
  go_wp2_with (first | ((with_reducible refine gate_dst (N := 2) rfl ?_); refine be_ (N := 2) (cs := #[.int .i64 a0_0, .int .u64 a0_1]) (t := 32) ?_; intro gb154 hg w40 hbox hb; have BK154 := am_ (hbox); have GE154 := am_ (bz_ hg (qb_ HB.out) : w.heap.size ≤ gb154); replace HB := am_ (below_step (qb_ HB.out) hb); clear hb hbox hg) | ((with_reducible refine gate_dst (N := 4) rfl ?_); refine be_ (N := 4) (cs := #[.int .i64 0, .int .u64 0]) (t := 32) ?_; intro gb155 hg w41 hbox hb; have BK155 := am_ (hbox); have GE155 := am_ (bz_ hg (qb1_ GE154.out HB.out) : w.heap.size ≤ gb155); replace HB := am_ (below_step (qb1_ GE154.out HB.out) hb); have NB154_155 := am_ (nl_ hg (qk_ BK154.out) : gb154 ≠ gb155); have NB155_154 := am_ (ng_ hg (qk_ BK154.out) : gb155 ≠ gb154); replace BK154 := am_ (blk_below (qk_ BK154.out) hb); clear hb hbox hg; have hnb42 := NB154_155.out; have hnc42 := NB155_154.out; obtain ⟨Z43_0, Z43_1, Y43_0, Y43_1⟩ := cz2_ BK154.out) | ((with_reducible refine gate_callee (f := 56) rfl ?_); refine goesL_ (some 10) rfl rfl Tryd.func56 (by kernel_rfl) rfl #[.agg #[.int .i64 a0_0, .int .u64 a0_1]] rfl ql_ ?_; (with_reducible refine (wide_absolute.calls a0_0 a0_1 t156 t157 _ A3.out).mono ?_); rintro e w44 ⟨rfl, hb⟩; refine ⟨_, rfl, ?_⟩; replace BK154 := am_ (blk_below (qk_ BK154.out) hb); replace BK155 := am_ (blk_below (qk_ BK155.out) hb); replace HB := am_ (below_step (qb2_ GE154.out GE155.out HB.out) hb); (try clear hb)) | ((with_reducible refine gate_callee (f := 58) rfl ?_); refine goesL_ (some 12) rfl rfl Tryd.func58 (by kernel_rfl) rfl #[.int .i64 a1] rfl ql_ ?_; (with_reducible refine (wide_abs.calls a1 t158 _ A4.out).mono ?_); rintro e w' ⟨rfl, ⟨nd, rfl⟩⟩; refine ⟨_, rfl, ?_⟩; (try (rw [drewN_self w44]; generalize hq_ : World.drewN w44 _ = w44; replace BK154 : Aside0 (w44.heap[gb154]? = some (.cells #[.int .i64 a0_0, .int .u64 a0_1] 32 (0, 0))) := ⟨by rw [← hq_]; exact (qk_ BK154.out)⟩; replace BK155 : Aside0 (w44.heap[gb155]? = some (.cells #[.int .i64 0, .int .u64 0] 32 (0, 0))) := ⟨by rw [← hq_]; exact (qk_ BK155.out)⟩; replace HB : Aside0 (Below w.heap.size w w44) := ⟨by rw [← hq_]; exact (qb2_ GE154.out GE155.out HB.out)⟩; clear hq_))) | ((with_reducible refine gate_callee (f := 57) rfl ?_); refine goesL_ (some 13) rfl rfl Tryd.func57 (by kernel_rfl) rfl #[.agg #[.int .u64 t156, .int .u64 t157], .int .u64 t158, .int .u64 0] rfl ql_ ?_; (with_reducible refine (wide_size_times.calls t156 t157 t158 0 t159 t160 false _ A5.out).mono ?_); rintro e w45 ⟨rfl, hb⟩; refine ⟨_, rfl, ?_⟩; replace BK154 := am_ (blk_below (qk_ BK154.out) hb); replace BK155 := am_ (blk_below (qk_ BK155.out) hb); replace HB := am_ (below_step (qb2_ GE154.out GE155.out HB.out) hb); (try clear hb)) | ((with_reducible refine gate_dst (N := 6) rfl ?_); refine be_ (N := 6) (cs := #[.int .u64 0, .int .u64 0]) (t := 87) ?_; intro gb162 hg w46 hbox hb; have n1_ := am_ (blk_below (qk_ BK155.out) hb); have n2_ := am_ (below_step (qb2_ GE154.out GE155.out HB.out) hb); have n3_ := am_ (hbox); have n5_ := am_ (bz_ hg (qb2_ GE154.out GE155.out HB.out) : w.heap.size ≤ gb162); have n6_ := am_ (nl_ hg (qk_ BK154.out) : gb154 ≠ gb162); have n7_ := am_ (ng_ hg (qk_ BK154.out) : gb162 ≠ gb154); have n8_ := am_ (nl_ hg (qk_ BK155.out) : gb155 ≠ gb162); have n9_ := am_ (ng_ hg (qk_ BK155.out) : gb162 ≠ gb155); (try clear BK154); clear BK155; clear HB; have BK155 := n1_; have HB := n2_; have BK162 := n3_; have GE162 := n5_; have NB154_162 := n6_; have NB162_154 := n7_; have NB155_162 := n8_; have NB162_155 := n9_; clear n1_ n2_ n3_ n5_ n6_ n7_ n8_ n9_; clear hb hbox hg; have hnb47 := NB162_154.out; have hnc47 := NB154_162.out; have hnb48 := NB162_155.out; have hnc48 := NB155_162.out; obtain ⟨Z49_0, Z49_1, Y49_0, Y49_1⟩ := cz2_ BK162.out; obtain ⟨Z50_0, Z50_1, Y50_0, Y50_1⟩ := cz2_ BK155.out))
  refine bodyPost_ret (results_ct rfl _ _ gb155 32 #[.int .i64 0, .int .u64 0] (0, 0) _ rfl (qppff_ #[.int .i64 0, .int .u64 0] 1 #[.int .i64 0, .int .u64 0] 0 NB155_162.out NB155_162.out BK155.out) Tryd.underlying32 rfl (by kernel_rfl)) rfl ?_
  exact ⟨qe_, qb3_ GE154.out GE155.out GE162.out HB.out⟩
end Go.Proofs.YtogcdcjbleafdaaDoor.PS
end
section
namespace Go.Proofs.YtogcdcjbleafdaaDoor.PS
open Go.RowKit Go.Proofs.YtogcdcjbleafdaaDoorW.PrintWords Go.Proofs.YtogcdcjbleafdaaDoorW.PrintLast Go.Proofs.YtogcdcjbleafdaaDoorW.PrintMore
attribute [local go_sem] max2_int min2_int max_two min_two
set_option linter.unusedVariables false
set_option linter.unusedSimpArgs false
def wide_MulP.f (a0 a1 : Int) : Option (Int × Int) := (wide_abs.f a0).bind fun t170 => ((wide_abs.f a1).bind fun t171 => ((bits_Mul64.f t170 t171).bind fun bt172 => (if ((decide (a0 < 0)) != (decide (a1 < 0))) = true then ((wide_negate.f (wrap64 (bt172.1)) bt172.2).bind fun bt175 => (some (bt175.1, bt175.2))) else (some (wrap64 (bt172.1), bt172.2)))))
set_option maxHeartbeats 8000000 in
set_option maxRecDepth 100000 in
theorem wide_MulP.calls (a0 a1 r1 r2 : Int) (w : World) (h : wide_MulP.f a0 a1 = some (r1, r2)) :
  Calls Tryd.prog 28 #[.int .i64 a0, .int .i64 a1] w fun e w' => e = .returned (.agg #[.int .i64 r1, .int .u64 r2]) ∧ Below w.heap.size w w' := by
 have hu32 := Tryd.underlying32
 have HB := am_ (Below.refl w.heap.size w)
 have H := h
 clear h
 unfold wide_MulP.f at H
 replace H := Option.bind_eq_some_iff.mp H
 obtain ⟨t170, A30, H⟩ := H
 (try dsimp only at H)
 have A3 := am_ A30
 clear A30
 replace H := Option.bind_eq_some_iff.mp H
 obtain ⟨t171, A40, H⟩ := H
 (try dsimp only at H)
 have A4 := am_ A40
 clear A40
 replace H := Option.bind_eq_some_iff.mp H
 obtain ⟨⟨t172, t173⟩, A50, H⟩ := H
 (try dsimp only at H)
 have A5 := am_ A50
 clear A50
 by_cases c6 : ((decide (a0 < 0)) != (decide (a1 < 0))) = true
 ·rw [if_pos c6] at H
  have c6b0 : ((decide (a0 < 0)) != (decide (a1 < 0))) = true := c6
  (try (have c6b1 : decide ((decide (a0 < 0)) = (decide (a1 < 0))) = false := by simpa using c6))
  (try (have c6b2 : ((decide (a0 < 0)) == (decide (a1 < 0))) = false := by simpa using c6))
  (try (have c6b3 : ¬ ((decide (a0 < 0)) = (decide (a1 < 0))) := by simpa using c6))
  clear c6
  replace H := Option.bind_eq_some_iff.mp H
  obtain ⟨⟨t175, t176⟩, A70, H⟩ := H
  (try dsimp only at H)
  have A7 := am_ A70
  clear A70
  simp only [Option.some.injEq, Prod.mk.injEq] at H
  obtain ⟨rfl, rfl⟩ := H
  go_enter Tryd.func28, Tryd.ntmps28
  go_wp2_with (first | ((with_reducible refine gate_dst (N := 4) rfl ?_); refine be_ (N := 4) (cs := #[.int .i64 0, .int .u64 0]) (t := 32) ?_; intro gb169 hg w8 hbox hb; have BK169 := am_ (hbox); have GE169 := am_ (bz_ hg (qb_ HB.out) : w.heap.size ≤ gb169); replace HB := am_ (below_step (qb_ HB.out) hb); clear hb hbox hg) | ((with_reducible refine gate_callee (f := 58) rfl ?_); refine goesL_ (some 10) rfl rfl Tryd.func58 (by kernel_rfl) rfl #[.int .i64 a0] rfl ql_ ?_; (with_reducible refine (wide_abs.calls a0 t170 _ A3.out).mono ?_); rintro e w' ⟨rfl, ⟨nd, rfl⟩⟩; refine ⟨_, rfl, ?_⟩; (try (rw [drewN_self w8]; generalize hq_ : World.drewN w8 _ = w8; replace BK169 : Aside0 (w8.heap[gb169]? = some (.cells #[.int .i64 0, .int .u64 0] 32 (0, 0))) := ⟨by rw [← hq_]; exact (qk_ BK169.out)⟩; replace HB : Aside0 (Below w.heap.size w w8) := ⟨by rw [← hq_]; exact (qb1_ GE169.out HB.out)⟩; clear hq_))) | ((with_reducible refine gate_callee (f := 58) rfl ?_); refine goesL_ (some 12) rfl rfl Tryd.func58 (by kernel_rfl) rfl #[.int .i64 a1] rfl ql_ ?_; (with_reducible refine (wide_abs.calls a1 t171 _ A4.out).mono ?_); rintro e w' ⟨rfl, ⟨nd, rfl⟩⟩; refine ⟨_, rfl, ?_⟩; (try (rw [drewN_self w8]; generalize hq_ : World.drewN w8 _ = w8; replace BK169 : Aside0 (w8.heap[gb169]? = some (.cells #[.int .i64 0, .int .u64 0] 32 (0, 0))) := ⟨by rw [← hq_]; exact (qk_ BK169.out)⟩; replace HB : Aside0 (Below w.heap.size w w8) := ⟨by rw [← hq_]; exact (qb1_ GE169.out HB.out)⟩; clear hq_))) | ((with_reducible refine gate_callee (f := 60) rfl ?_); refine goesL_ (some 13) rfl rfl Tryd.func60 (by kernel_rfl) rfl #[.int .u64 t170, .int .u64 t171] rfl ql_ ?_; (with_reducible refine (bits_Mul64.calls t170 t171 t172 t173 _ A5.out).mono ?_); rintro e w9 ⟨rfl, hb⟩; refine ⟨_, rfl, ?_⟩; replace BK169 := am_ (blk_below (qk_ BK169.out) hb); replace HB := am_ (below_step (qb1_ GE169.out HB.out) hb); (try clear hb)) | ((with_reducible refine gate_dst (N := 7) rfl ?_); refine be_ (N := 7) (cs := #[.int .i64 0, .int .u64 0]) (t := 32) ?_; intro gb174 hg w10 hbox hb; have BK174 := am_ (hbox); have GE174 := am_ (bz_ hg (qb1_ GE169.out HB.out) : w.heap.size ≤ gb174); replace HB := am_ (below_step (qb1_ GE169.out HB.out) hb); have NB169_174 := am_ (nl_ hg (qk_ BK169.out) : gb169 ≠ gb174); have NB174_169 := am_ (ng_ hg (qk_ BK169.out) : gb174 ≠ gb169); replace BK169 := am_ (blk_below (qk_ BK169.out) hb); clear hb hbox hg; have hnb11 := NB174_169.out; have hnc11 := NB169_174.out; obtain ⟨Z12_0, Z12_1, Y12_0, Y12_1⟩ := cz2_ BK174.out) | ((with_reducible refine gate_callee (f := 61) rfl ?_); refine goesL_ (some 26) rfl rfl Tryd.func61 (by kernel_rfl) rfl #[.agg #[.int .i64 (wrap64 (t172)), .int .u64 t173]] rfl ql_ ?_; (with_reducible refine (wide_negate.calls (wrap64 (t172)) t173 t175 t176 _ A7.out).mono ?_); rintro e w13 ⟨rfl, hb⟩; refine ⟨_, rfl, ?_⟩; replace BK169 := am_ (blk_below (g := gb169) (o := .cells #[.int .i64 0, .int .u64 0] 32 (0, 0)) (qff_ NB169_174.out NB169_174.out BK169.out) hb); replace BK174 := am_ (blk_below (g := gb174) (o := .cells #[.int .i64 (wrap64 (t172)), .int .u64 t173] 32 (0, 0)) (qpp_ #[.int .i64 (wrap64 (t172)), .int .u64 0] 1 #[.int .i64 0, .int .u64 0] 0 BK174.out) hb); replace HB := am_ (below_step (qb2_ GE169.out GE174.out HB.out) hb); (try clear hb); obtain ⟨Z14_0, Z14_1, Y14_0, Y14_1⟩ := cz2_ BK174.out; obtain ⟨Z15_0, Z15_1, Y15_0, Y15_1⟩ := cz2_ BK169.out))
  refine bodyPost_ret (results_cell_row rfl _ _ gb169 32 #[.int .i64 t175, .int .u64 t176] (0, 0) _ rfl (qppff_ #[.int .i64 t175, .int .u64 0] 1 #[.int .i64 0, .int .u64 0] 0 NB169_174.out NB169_174.out BK169.out) Tryd.underlying32 rfl (by kernel_rfl)) rfl ?_
  exact ⟨qe_, qb2_ GE169.out GE174.out HB.out⟩
 ·rw [if_neg c6] at H
  have c6b0 : ((decide (a0 < 0)) != (decide (a1 < 0))) = false := by simpa using c6
  (try (have c6b1 : decide ((decide (a0 < 0)) = (decide (a1 < 0))) = true := by simpa using c6))
  (try (have c6b2 : ((decide (a0 < 0)) == (decide (a1 < 0))) = true := by simpa using c6))
  clear c6
  simp only [Option.some.injEq, Prod.mk.injEq] at H
  obtain ⟨rfl, rfl⟩ := H
  go_enter Tryd.func28, Tryd.ntmps28
  go_wp2_with (first | ((with_reducible refine gate_dst (N := 4) rfl ?_); refine be_ (N := 4) (cs := #[.int .i64 0, .int .u64 0]) (t := 32) ?_; intro gb169 hg w16 hbox hb; have BK169 := am_ (hbox); have GE169 := am_ (bz_ hg (qb_ HB.out) : w.heap.size ≤ gb169); replace HB := am_ (below_step (qb_ HB.out) hb); clear hb hbox hg) | ((with_reducible refine gate_callee (f := 58) rfl ?_); refine goesL_ (some 10) rfl rfl Tryd.func58 (by kernel_rfl) rfl #[.int .i64 a0] rfl ql_ ?_; (with_reducible refine (wide_abs.calls a0 t170 _ A3.out).mono ?_); rintro e w' ⟨rfl, ⟨nd, rfl⟩⟩; refine ⟨_, rfl, ?_⟩; (try (rw [drewN_self w16]; generalize hq_ : World.drewN w16 _ = w16; replace BK169 : Aside0 (w16.heap[gb169]? = some (.cells #[.int .i64 0, .int .u64 0] 32 (0, 0))) := ⟨by rw [← hq_]; exact (qk_ BK169.out)⟩; replace HB : Aside0 (Below w.heap.size w w16) := ⟨by rw [← hq_]; exact (qb1_ GE169.out HB.out)⟩; clear hq_))) | ((with_reducible refine gate_callee (f := 58) rfl ?_); refine goesL_ (some 12) rfl rfl Tryd.func58 (by kernel_rfl) rfl #[.int .i64 a1] rfl ql_ ?_; (with_reducible refine (wide_abs.calls a1 t171 _ A4.out).mono ?_); rintro e w' ⟨rfl, ⟨nd, rfl⟩⟩; refine ⟨_, rfl, ?_⟩; (try (rw [drewN_self w16]; generalize hq_ : World.drewN w16 _ = w16; replace BK169 : Aside0 (w16.heap[gb169]? = some (.cells #[.int .i64 0, .int .u64 0] 32 (0, 0))) := ⟨by rw [← hq_]; exact (qk_ BK169.out)⟩; replace HB : Aside0 (Below w.heap.size w w16) := ⟨by rw [← hq_]; exact (qb1_ GE169.out HB.out)⟩; clear hq_))) | ((with_reducible refine gate_callee (f := 60) rfl ?_); refine goesL_ (some 13) rfl rfl Tryd.func60 (by kernel_rfl) rfl #[.int .u64 t170, .int .u64 t171] rfl ql_ ?_; (with_reducible refine (bits_Mul64.calls t170 t171 t172 t173 _ A5.out).mono ?_); rintro e w17 ⟨rfl, hb⟩; refine ⟨_, rfl, ?_⟩; replace BK169 := am_ (blk_below (qk_ BK169.out) hb); replace HB := am_ (below_step (qb1_ GE169.out HB.out) hb); (try clear hb)) | ((with_reducible refine gate_dst (N := 7) rfl ?_); refine be_ (N := 7) (cs := #[.int .i64 0, .int .u64 0]) (t := 32) ?_; intro gb174 hg w18 hbox hb; have BK174 := am_ (hbox); have GE174 := am_ (bz_ hg (qb1_ GE169.out HB.out) : w.heap.size ≤ gb174); replace HB := am_ (below_step (qb1_ GE169.out HB.out) hb); have NB169_174 := am_ (nl_ hg (qk_ BK169.out) : gb169 ≠ gb174); have NB174_169 := am_ (ng_ hg (qk_ BK169.out) : gb174 ≠ gb169); replace BK169 := am_ (blk_below (qk_ BK169.out) hb); clear hb hbox hg; have hnb19 := NB174_169.out; have hnc19 := NB169_174.out; obtain ⟨Z20_0, Z20_1, Y20_0, Y20_1⟩ := cz2_ BK174.out; obtain ⟨Z21_0, Z21_1, Y21_0, Y21_1⟩ := cz2_ BK169.out))
  refine bodyPost_ret (results_cell_row rfl _ _ gb169 32 #[.int .i64 (wrap64 (t172)), .int .u64 t173] (0, 0) _ rfl (qppff_ #[.int .i64 (wrap64 (t172)), .int .u64 0] 1 #[.int .i64 0, .int .u64 0] 0 NB169_174.out NB169_174.out BK169.out) Tryd.underlying32 rfl (by kernel_rfl)) rfl ?_
  exact ⟨qe_, qb2_ GE169.out GE174.out HB.out⟩
def wide_Mul.f (a0 a1 : Int) : Option (Int × Int) := if inI a0 ∧ inI a1 then some (a0 * a1 / 18446744073709551616, a0 * a1 % 18446744073709551616) else none
theorem wide_Mul.eq {a b : Int} {r : Int × Int} (h : wide_Mul.f a b = some r) : wide_MulP.f a b = some r := by
 unfold wide_Mul.f at h
 split at h
 ·rename_i q
  obtain ⟨⟨a0, a1⟩, b0, b1⟩ := q
  injection h with h
  subst h
  unfold wide_MulP.f wide_abs.f bits_Mul64.f wide_negate.f
  obtain ⟨m1, m2, m3⟩ := mul_abs a b a0 a1 b0 b1
  have hA : inI a := ⟨a0, a1⟩
  have hB : inI b := ⟨b0, b1⟩
  have hU : inU (if a < 0 then -a else a) ∧ inU (if b < 0 then -b else b) := ⟨by unfold inU; split <;> omega, by unfold inU; split <;> omega⟩
  rw [if_pos hA, if_pos hB]
  simp only [Option.bind_some]
  rw [if_pos hU]
  simp only [Option.bind_some]
  generalize (if a < 0 then -a else a) * (if b < 0 then -b else b) = m at *
  have hw : wrap64 (m / 18446744073709551616) = m / 18446744073709551616 := by unfold wrap64; omega
  have hwv : wv (m / 18446744073709551616) (m % 18446744073709551616) = m := by unfold wv; omega
  have hN : isW (m / 18446744073709551616) (m % 18446744073709551616) := ⟨by unfold inI; omega, by unfold inU; omega⟩
  rw [hw, if_pos hN, hwv, if_neg (show ¬ m = -170141183460469231731687303715884105728 by omega)]
  simp only [Option.bind_some]
  split
  ·rename_i hc
   rw [if_pos (by simpa using hc)] at m1
   rw [m1, Int.neg_neg]
  ·rename_i hc
   rw [if_neg (by simpa using hc)] at m1
   rw [m1]
 ·cases h
theorem wide_Mul.calls (a0 a1 r1 r2 : Int) (w : World) (h : wide_Mul.f a0 a1 = some (r1, r2)) :
  Calls Tryd.prog 28 #[.int .i64 a0, .int .i64 a1] w fun e w' => e = .returned (.agg #[.int .i64 r1, .int .u64 r2]) ∧ Below w.heap.size w w' := by
 have h := wide_Mul.eq h
 exact wide_MulP.calls a0 a1 r1 r2 w h
def date_Valid.f (a0 : Int) : Option (Bool) := if a0 ≥ 0 then (some (decide (a0 ≤ 73048))) else (some false)
set_option maxHeartbeats 8000000 in
set_option maxRecDepth 100000 in
theorem date_Valid.calls (a0 : Int) (r : Bool) (w : World) (h : date_Valid.f a0 = some r) :
  Calls Tryd.prog 62 #[.int .i64 a0] w fun e w' => e = .returned (.bool r) ∧ Drawn0 w w' := by
 have H := h
 clear h
 unfold date_Valid.f at H
 by_cases c2 : a0 ≥ 0
 ·rw [if_pos c2] at H
  have c2b0 : decide (0 ≤ a0) = true := decide_eq_true c2
  clear c2
  obtain rfl := Option.some.inj H
  go_enter Tryd.func62, Tryd.ntmps62
  go_wp2
  go_ret
  exact ⟨by first | rfl | (simp; done) | (simp [*]; done), by repeat (first | exact Drawn0.refl _ | apply Drawn0.step)⟩
 ·rw [if_neg c2] at H
  have c2b0 : decide (0 ≤ a0) = false := decide_eq_false c2
  clear c2
  obtain rfl := Option.some.inj H
  go_enter Tryd.func62, Tryd.ntmps62
  go_wp2
  go_ret
  exact ⟨by first | rfl | (simp; done) | (simp [*]; done), by repeat (first | exact Drawn0.refl _ | apply Drawn0.step)⟩
def date_begin.f (a0 : Int) : Option (Int) := if a0 > 2100 then (some (wrap64 ((wrap64 (365 * (wrap64 (a0 - 2000)))) + (wrap64 ((wrap64 (Int.tdiv (wrap64 ((wrap64 (a0 - 2000)) + 3)) 4)) - 1))))) else (some (wrap64 ((wrap64 (365 * (wrap64 (a0 - 2000)))) + (wrap64 (Int.tdiv (wrap64 ((wrap64 (a0 - 2000)) + 3)) 4)))))
set_option maxHeartbeats 8000000 in
set_option maxRecDepth 100000 in
theorem date_begin.calls (a0 r : Int) (w : World) (h : date_begin.f a0 = some r) :
  Calls Tryd.prog 94 #[.int .i64 a0] w fun e w' => e = .returned (.int .i64 r) ∧ Drawn0 w w' := by
 have H := h
 clear h
 unfold date_begin.f at H
 by_cases c2 : a0 > 2100
 ·rw [if_pos c2] at H
  have c2b0 : decide (2100 < a0) = true := decide_eq_true c2
  clear c2
  obtain rfl := Option.some.inj H
  go_enter Tryd.func94, Tryd.ntmps94
  go_wp2
  go_ret
  exact ⟨by first | rfl | (simp; done) | (simp [*]; done), by repeat (first | exact Drawn0.refl _ | apply Drawn0.step)⟩
 ·rw [if_neg c2] at H
  have c2b0 : decide (2100 < a0) = false := decide_eq_false c2
  clear c2
  obtain rfl := Option.some.inj H
  go_enter Tryd.func94, Tryd.ntmps94
  go_wp2
  go_ret
  exact ⟨by first | rfl | (simp; done) | (simp [*]; done), by repeat (first | exact Drawn0.refl _ | apply Drawn0.step)⟩
def date_Leap.f (a0 : Int) : Option (Bool) := if (Int.tmod a0 4) = 0 then (if (Int.tmod a0 100) = 0 then (some ((Int.tmod a0 400) == 0)) else (some true)) else (some false)
set_option maxHeartbeats 8000000 in
set_option maxRecDepth 100000 in
theorem date_Leap.calls (a0 : Int) (r : Bool) (w : World) (h : date_Leap.f a0 = some r) :
  Calls Tryd.prog 64 #[.int .i64 a0] w fun e w' => e = .returned (.bool r) ∧ Drawn0 w w' := by
 have H := h
 clear h
 unfold date_Leap.f at H
 by_cases c2 : (Int.tmod a0 4) = 0
 ·rw [if_pos c2] at H
  have c2b0 : ((Int.tmod a0 4) == 0) = true := beq_iff_eq.mpr c2
  have c2b1 : ((Int.tmod a0 4) != 0) = false := bne_eq_false_iff_eq.mpr c2
  clear c2
  by_cases c3 : (Int.tmod a0 100) = 0
  ·rw [if_pos c3] at H
   have c3b0 : ((Int.tmod a0 100) == 0) = true := beq_iff_eq.mpr c3
   have c3b1 : ((Int.tmod a0 100) != 0) = false := bne_eq_false_iff_eq.mpr c3
   clear c3
   obtain rfl := Option.some.inj H
   go_enter Tryd.func64, Tryd.ntmps64
   go_wp2
   go_ret
   exact ⟨by first | rfl | (simp; done) | (simp [*]; done), by repeat (first | exact Drawn0.refl _ | apply Drawn0.step)⟩
  ·rw [if_neg c3] at H
   have c3b0 : ((Int.tmod a0 100) == 0) = false := beq_eq_false_iff_ne.mpr c3
   have c3b1 : ((Int.tmod a0 100) != 0) = true := bne_iff_ne.mpr c3
   obtain rfl := Option.some.inj H
   go_enter Tryd.func64, Tryd.ntmps64
   go_wp2
   go_ret
   exact ⟨by first | rfl | (simp; done) | (simp [*]; done), by repeat (first | exact Drawn0.refl _ | apply Drawn0.step)⟩
 ·rw [if_neg c2] at H
  have c2b0 : ((Int.tmod a0 4) == 0) = false := beq_eq_false_iff_ne.mpr c2
  have c2b1 : ((Int.tmod a0 4) != 0) = true := bne_iff_ne.mpr c2
  obtain rfl := Option.some.inj H
  go_enter Tryd.func64, Tryd.ntmps64
  go_wp2
  go_ret
  exact ⟨by first | rfl | (simp; done) | (simp [*]; done), by repeat (first | exact Drawn0.refl _ | apply Drawn0.step)⟩
end Go.Proofs.YtogcdcjbleafdaaDoor.PS
end
