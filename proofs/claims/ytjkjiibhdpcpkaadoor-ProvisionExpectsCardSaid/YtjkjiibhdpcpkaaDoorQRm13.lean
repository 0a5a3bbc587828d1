import Derived.Laws.CopyRow
import Derived.Laws.IdiomCopy
import Derived.Test.YtjkjiibhdpcpkaaDoorQRm2
import Derived.Test.YtjkjiibhdpcpkaaDoorQRm6
import Derived.Test.YtjkjiibhdpcpkaaDoorQRm7
import Derived.Test.YtjkjiibhdpcpkaaDoorQRm8
import Derived.Test.YtjkjiibhdpcpkaaDoorQRm12
section
namespace Go.Proofs.YtjkjiibhdpcpkaaDoor.PS
open Go.RowKit Go.Proofs.YtjkjiibhdpcpkaaDoorW.PrintWords Go.Proofs.YtjkjiibhdpcpkaaDoorW.PrintLast
set_option linter.unusedVariables false
set_option linter.unusedSimpArgs false
mutual
def corebankref38_Great.j0 : Nat → Bool → Int → Int → Int → Int → Int → Int → Int → Int → Int → Int → Int → Int → Int → Int → Int → Int → Int → Int → Int → Int → Int → ByteArray → ByteArray → List (S54) → List (S50) → Option (Bool)
 | 0, _, _, _, _, _, _, _, _, _, _, _, _, _, _, _, _, _, _, _, _, _, _, _, _, _, _ => none
 | k + 1, x27, x102000, x102001, x102002, x102003, x102004, x102005, x102006, x102007, x102008, x102009, x102010, x102011, x102012, x102013, x102014, x102015, x102016, x102017, x102018, x102019, x102020, x102021, x102022, x102023, x102024 => if x27 = true then (some true) else (corebankref38_Great.l0 k 0 x102000 x102001 x102002 x102003 x102004 x102005 x102006 x102007 x102008 x102009 x102010 x102011 x102012 x102013 x102014 x102015 x102016 x102017 x102018 x102019 x102020 x102021 x102022 x102023 x102024)
def corebankref38_Great.l0 : Nat → Int → Int → Int → Int → Int → Int → Int → Int → Int → Int → Int → Int → Int → Int → Int → Int → Int → Int → Int → Int → Int → Int → ByteArray → ByteArray → List (S54) → List (S50) → Option (Bool)
 | 0, _, _, _, _, _, _, _, _, _, _, _, _, _, _, _, _, _, _, _, _, _, _, _, _, _, _ => none
 | k + 1, x3, x102000, x102001, x102002, x102003, x102004, x102005, x102006, x102007, x102008, x102009, x102010, x102011, x102012, x102013, x102014, x102015, x102016, x102017, x102018, x102019, x102020, x102021, x102022, x102023, x102024 => if x3 < (x102024.length : Int) then (if 0 ≤ x3 then (if (((rd_T50 x102024 x3).f2.f10).size : Int) > 100 then (corebankref38_Great.j2 k x3 true x102000 x102001 x102002 x102003 x102004 x102005 x102006 x102007 x102008 x102009 x102010 x102011 x102012 x102013 x102014 x102015 x102016 x102017 x102018 x102019 x102020 x102021 x102022 x102023 x102024) else (corebankref38_Great.j2 k x3 (decide ((((rd_T50 x102024 x3).f2.f11).size : Int) > 100)) x102000 x102001 x102002 x102003 x102004 x102005 x102006 x102007 x102008 x102009 x102010 x102011 x102012 x102013 x102014 x102015 x102016 x102017 x102018 x102019 x102020 x102021 x102022 x102023 x102024)) else (none)) else (some false)
def corebankref38_Great.j2 : Nat → Int → Bool → Int → Int → Int → Int → Int → Int → Int → Int → Int → Int → Int → Int → Int → Int → Int → Int → Int → Int → Int → Int → Int → ByteArray → ByteArray → List (S54) → List (S50) → Option (Bool)
 | 0, _, _, _, _, _, _, _, _, _, _, _, _, _, _, _, _, _, _, _, _, _, _, _, _, _, _, _ => none
 | k + 1, x3, x54, x102000, x102001, x102002, x102003, x102004, x102005, x102006, x102007, x102008, x102009, x102010, x102011, x102012, x102013, x102014, x102015, x102016, x102017, x102018, x102019, x102020, x102021, x102022, x102023, x102024 => if x54 = true then (some true) else (corebankref38_Great.l0 k (wrap64 (x3 + 1)) x102000 x102001 x102002 x102003 x102004 x102005 x102006 x102007 x102008 x102009 x102010 x102011 x102012 x102013 x102014 x102015 x102016 x102017 x102018 x102019 x102020 x102021 x102022 x102023 x102024)
end
def corebankref38_Great.f (k : Nat) (a0_0 a0_1 a0_2 a0_3 a0_4 a0_5 a0_6 a0_7 a0_8 a0_9 a0_10 a0_11 a0_12 a0_13 a0_14 a0_15 a0_16 a0_17 a0_18 a0_19 a0_20 : Int) (a0_21 a0_22 : ByteArray) (l0_23 : List (S54)) (l0_24 : List (S50)) : Option (Bool) := if (l0_23.length : Int) > 260 then (corebankref38_Great.j0 k true a0_0 a0_1 a0_2 a0_3 a0_4 a0_5 a0_6 a0_7 a0_8 a0_9 a0_10 a0_11 a0_12 a0_13 a0_14 a0_15 a0_16 a0_17 a0_18 a0_19 a0_20 a0_21 a0_22 l0_23 l0_24) else (if (l0_24.length : Int) > 70 then (corebankref38_Great.j0 k true a0_0 a0_1 a0_2 a0_3 a0_4 a0_5 a0_6 a0_7 a0_8 a0_9 a0_10 a0_11 a0_12 a0_13 a0_14 a0_15 a0_16 a0_17 a0_18 a0_19 a0_20 a0_21 a0_22 l0_23 l0_24) else (if (a0_21.size : Int) > 100 then (corebankref38_Great.j0 k true a0_0 a0_1 a0_2 a0_3 a0_4 a0_5 a0_6 a0_7 a0_8 a0_9 a0_10 a0_11 a0_12 a0_13 a0_14 a0_15 a0_16 a0_17 a0_18 a0_19 a0_20 a0_21 a0_22 l0_23 l0_24) else (corebankref38_Great.j0 k (decide ((a0_22.size : Int) > 100)) a0_0 a0_1 a0_2 a0_3 a0_4 a0_5 a0_6 a0_7 a0_8 a0_9 a0_10 a0_11 a0_12 a0_13 a0_14 a0_15 a0_16 a0_17 a0_18 a0_19 a0_20 a0_21 a0_22 l0_23 l0_24)))
set_option maxHeartbeats 8000000 in
set_option maxRecDepth 100000 in
theorem corebankref38_Great.calls (k : Nat) (a0_0 a0_1 a0_2 a0_3 a0_4 a0_5 a0_6 a0_7 a0_8 a0_9 a0_10 a0_11 a0_12 a0_13 a0_14 a0_15 a0_16 a0_17 a0_18 a0_19 a0_20 : Int) (a0_21 a0_22 : ByteArray) (A0_23 : Option Addr) (c0_23 : Nat) (l0_23 : List (S54)) (A0_24 : Option Addr) (c0_24 : Nat) (l0_24 : List (S50)) (r : Bool) (w : World) (hr0_23 : Kd.C k54 w A0_23 l0_23.length l0_23) (hc0_23 : l0_23.length ≤ c0_23) (hr0_24 : Kd.C k50 w A0_24 l0_24.length l0_24) (hc0_24 : l0_24.length ≤ c0_24) (h : corebankref38_Great.f k a0_0 a0_1 a0_2 a0_3 a0_4 a0_5 a0_6 a0_7 a0_8 a0_9 a0_10 a0_11 a0_12 a0_13 a0_14 a0_15 a0_16 a0_17 a0_18 a0_19 a0_20 a0_21 a0_22 l0_23 l0_24 = some r) :
  Calls Tryd.prog 8 #[.agg #[.int .i64 a0_0, .int .i64 a0_1, .int .i64 a0_2, .int .i64 a0_3, .int .i64 a0_4, .int .i64 a0_5, .int .i64 a0_6, .int .i64 a0_7, .int .i64 a0_8, .int .i64 a0_9, .int .i64 a0_10, .int .i64 a0_11, .int .i64 a0_12, .int .i64 a0_13, .int .i64 a0_14, .int .i64 a0_15, .int .i64 a0_16, .int .i64 a0_17, .int .i64 a0_18, .int .i64 a0_19, .int .i64 a0_20, .string a0_21, .string a0_22, .slice A0_23 l0_23.length c0_23, .slice A0_24 l0_24.length c0_24]] w fun e w' => e = .returned (.bool r) ∧ Below w.heap.size w w' := by
 have hu27 := Tryd.underlying27
 have HR0_23 := Aside0.mk hr0_23
 have HC0_23 := Aside0.mk hc0_23
 clear hr0_23 hc0_23
 have HR0_24 := Aside0.mk hr0_24
 have HC0_24 := Aside0.mk hc0_24
 clear hr0_24 hc0_24
 have HB := Aside0.mk (Below.refl w.heap.size w)
 have H : (if (l0_23.length : Int) > 260 then (corebankref38_Great.j0 k true a0_0 a0_1 a0_2 a0_3 a0_4 a0_5 a0_6 a0_7 a0_8 a0_9 a0_10 a0_11 a0_12 a0_13 a0_14 a0_15 a0_16 a0_17 a0_18 a0_19 a0_20 a0_21 a0_22 l0_23 l0_24) else (if (l0_24.length : Int) > 70 then (corebankref38_Great.j0 k true a0_0 a0_1 a0_2 a0_3 a0_4 a0_5 a0_6 a0_7 a0_8 a0_9 a0_10 a0_11 a0_12 a0_13 a0_14 a0_15 a0_16 a0_17 a0_18 a0_19 a0_20 a0_21 a0_22 l0_23 l0_24) else (if (a0_21.size : Int) > 100 then (corebankref38_Great.j0 k true a0_0 a0_1 a0_2 a0_3 a0_4 a0_5 a0_6 a0_7 a0_8 a0_9 a0_10 a0_11 a0_12 a0_13 a0_14 a0_15 a0_16 a0_17 a0_18 a0_19 a0_20 a0_21 a0_22 l0_23 l0_24) else (corebankref38_Great.j0 k (decide ((a0_22.size : Int) > 100)) a0_0 a0_1 a0_2 a0_3 a0_4 a0_5 a0_6 a0_7 a0_8 a0_9 a0_10 a0_11 a0_12 a0_13 a0_14 a0_15 a0_16 a0_17 a0_18 a0_19 a0_20 a0_21 a0_22 l0_23 l0_24)))) = some r := h
 clear h
 have HC2 := Aside0.mk H
 clear H
 go_enter Tryd.func8, Tryd.ntmps8
 go_upto_region 1 with (first | ((with_reducible refine gate_load_ (t := 27) rfl ?_); refine ld_ (t := 27) (cs := ?cs_) Tryd.underlying27 rfl rfl rfl ?hb_ rfl ?hi_ ?_; (case hb_ => (repeat (first | (with_reducible first | refine blk_drewN ?_ _ | refine blk_drew ?_ | refine blk_alloc ?_ _) | refine blk_set ?_ _ _)); (with_reducible first | exact BK101.out)); (case hi_ => kernel_rfl)) | ((with_reducible refine gate_dst (N := 1) rfl ?_); (try (refine gate_guard (by rfl) ?_; dsimp only)); refine be_ (N := 1) (cs := #[.int .i64 a0_0, .int .i64 a0_1, .int .i64 a0_2, .int .i64 a0_3, .int .i64 a0_4, .int .i64 a0_5, .int .i64 a0_6, .int .i64 a0_7, .int .i64 a0_8, .int .i64 a0_9, .int .i64 a0_10, .int .i64 a0_11, .int .i64 a0_12, .int .i64 a0_13, .int .i64 a0_14, .int .i64 a0_15, .int .i64 a0_16, .int .i64 a0_17, .int .i64 a0_18, .int .i64 a0_19, .int .i64 a0_20, .string a0_21, .string a0_22, .slice A0_23 l0_23.length c0_23, .slice A0_24 l0_24.length c0_24]) (t := 27) ?_; intro gb101 hg w3 hbox hb; have n0_ := Aside0.mk (below_step (qb_ HB.out) hb); have n1_ := Aside0.mk (hbox); have n2_ := Aside0.mk (bz_ hg (qb_ HB.out) : w.heap.size ≤ gb101); have n3_ := n2_; clear HB; have HB := n0_; have BK101 := n1_; have GW101 := n2_; have GE101 := n3_; clear n0_ n1_ n2_ n3_; clear hb hbox hg))
 (try simp only [Act.put, List.setIfInBounds_toArray, List.set_cons_zero, List.set_cons_succ])
 go_cut [27] (fun v27 wc => ∃ (kq : Nat) (x27_1 : Bool), v27 = .bool x27_1 ∧ Aside0 (corebankref38_Great.j0 kq x27_1 a0_0 a0_1 a0_2 a0_3 a0_4 a0_5 a0_6 a0_7 a0_8 a0_9 a0_10 a0_11 a0_12 a0_13 a0_14 a0_15 a0_16 a0_17 a0_18 a0_19 a0_20 a0_21 a0_22 l0_23 l0_24 = some r) ∧ Aside0 (kq ≤ k) ∧ Aside0 (wc.heap[gb101]? = some (.cells #[.int .i64 a0_0, .int .i64 a0_1, .int .i64 a0_2, .int .i64 a0_3, .int .i64 a0_4, .int .i64 a0_5, .int .i64 a0_6, .int .i64 a0_7, .int .i64 a0_8, .int .i64 a0_9, .int .i64 a0_10, .int .i64 a0_11, .int .i64 a0_12, .int .i64 a0_13, .int .i64 a0_14, .int .i64 a0_15, .int .i64 a0_16, .int .i64 a0_17, .int .i64 a0_18, .int .i64 a0_19, .int .i64 a0_20, .string a0_21, .string a0_22, (.slice A0_23 l0_23.length c0_23), (.slice A0_24 l0_24.length c0_24)] 27 (0, 0))) ∧ Aside0 (Below w.heap.size w wc))
 case first =>
  have H := HC2.out
  clear HC2
  by_cases c4 : (l0_23.length : Int) > 260
  ·rw [if_pos c4] at H
   have c4b0 : decide (260 < (l0_23.length : Int)) = true := decide_eq_true c4
   have c4b1 : decide (260 < l0_23.length) = true := decide_eq_true (by omega)
   clear c4
   (first | rw [c4b0] | (simp only [i64_w, i32_w]; rw [c4b0]) | skip)
   have H' := Aside0.mk H
   clear H
   obtain ⟨Z5_0, Z5_1, Z5_2, Z5_3, Z5_4, Z5_5, Z5_6, Z5_7, Z5_8, Z5_9, Z5_10, Z5_11, Z5_12, Z5_13, Z5_14, Z5_15, Z5_16, Z5_17, Z5_18, Z5_19, Z5_20, Z5_21, Z5_22, Z5_23, Z5_24, Y5_0, Y5_1, Y5_2, Y5_3, Y5_4, Y5_5, Y5_6, Y5_7, Y5_8, Y5_9, Y5_10, Y5_11, Y5_12, Y5_13, Y5_14, Y5_15, Y5_16, Y5_17, Y5_18, Y5_19, Y5_20, Y5_21, Y5_22, Y5_23, Y5_24⟩ := cz25_ BK101.out
   go_wp2
   go_meet
   case rel => exact ⟨_, (true), qs_, H', ⟨qo_⟩, ⟨qk_ BK101.out⟩, ⟨qb1_ GE101.out HB.out⟩⟩
  ·rw [if_neg c4] at H
   have c4b0 : decide (260 < (l0_23.length : Int)) = false := decide_eq_false c4
   have c4b1 : decide (260 < l0_23.length) = false := decide_eq_false (by omega)
   clear c4
   (first | rw [c4b0] | (simp only [i64_w, i32_w]; rw [c4b0]) | skip)
   by_cases c6 : (l0_24.length : Int) > 70
   ·rw [if_pos c6] at H
    have c6b0 : decide (70 < (l0_24.length : Int)) = true := decide_eq_true c6
    have c6b1 : decide (70 < l0_24.length) = true := decide_eq_true (by omega)
    clear c6
    have H' := Aside0.mk H
    clear H
    obtain ⟨Z7_0, Z7_1, Z7_2, Z7_3, Z7_4, Z7_5, Z7_6, Z7_7, Z7_8, Z7_9, Z7_10, Z7_11, Z7_12, Z7_13, Z7_14, Z7_15, Z7_16, Z7_17, Z7_18, Z7_19, Z7_20, Z7_21, Z7_22, Z7_23, Z7_24, Y7_0, Y7_1, Y7_2, Y7_3, Y7_4, Y7_5, Y7_6, Y7_7, Y7_8, Y7_9, Y7_10, Y7_11, Y7_12, Y7_13, Y7_14, Y7_15, Y7_16, Y7_17, Y7_18, Y7_19, Y7_20, Y7_21, Y7_22, Y7_23, Y7_24⟩ := cz25_ BK101.out
    go_wp2
    go_meet
    case rel => exact ⟨_, (true), qs_, H', ⟨qo_⟩, ⟨qk_ BK101.out⟩, ⟨qb1_ GE101.out HB.out⟩⟩
   ·rw [if_neg c6] at H
    have c6b0 : decide (70 < (l0_24.length : Int)) = false := decide_eq_false c6
    have c6b1 : decide (70 < l0_24.length) = false := decide_eq_false (by omega)
    clear c6
    by_cases c8 : (a0_21.size : Int) > 100
    ·rw [if_pos c8] at H
     have c8b0 : decide (100 < (a0_21.size : Int)) = true := decide_eq_true c8
     have c8b1 : decide (100 < a0_21.size) = true := decide_eq_true (by omega)
     clear c8
     have H' := Aside0.mk H
     clear H
     obtain ⟨Z9_0, Z9_1, Z9_2, Z9_3, Z9_4, Z9_5, Z9_6, Z9_7, Z9_8, Z9_9, Z9_10, Z9_11, Z9_12, Z9_13, Z9_14, Z9_15, Z9_16, Z9_17, Z9_18, Z9_19, Z9_20, Z9_21, Z9_22, Z9_23, Z9_24, Y9_0, Y9_1, Y9_2, Y9_3, Y9_4, Y9_5, Y9_6, Y9_7, Y9_8, Y9_9, Y9_10, Y9_11, Y9_12, Y9_13, Y9_14, Y9_15, Y9_16, Y9_17, Y9_18, Y9_19, Y9_20, Y9_21, Y9_22, Y9_23, Y9_24⟩ := cz25_ BK101.out
     go_wp2
     go_meet
     case rel => exact ⟨_, (true), qs_, H', ⟨qo_⟩, ⟨qk_ BK101.out⟩, ⟨qb1_ GE101.out HB.out⟩⟩
    ·rw [if_neg c8] at H
     have c8b0 : decide (100 < (a0_21.size : Int)) = false := decide_eq_false c8
     have c8b1 : decide (100 < a0_21.size) = false := decide_eq_false (by omega)
     clear c8
     have H' := Aside0.mk H
     clear H
     obtain ⟨Z10_0, Z10_1, Z10_2, Z10_3, Z10_4, Z10_5, Z10_6, Z10_7, Z10_8, Z10_9, Z10_10, Z10_11, Z10_12, Z10_13, Z10_14, Z10_15, Z10_16, Z10_17, Z10_18, Z10_19, Z10_20, Z10_21, Z10_22, Z10_23, Z10_24, Y10_0, Y10_1, Y10_2, Y10_3, Y10_4, Y10_5, Y10_6, Y10_7, Y10_8, Y10_9, Y10_10, Y10_11, Y10_12, Y10_13, Y10_14, Y10_15, Y10_16, Y10_17, Y10_18, Y10_19, Y10_20, Y10_21, Y10_22, Y10_23, Y10_24⟩ := cz25_ BK101.out
     go_wp2
     go_meet
     case rel => exact ⟨_, (decide ((a0_22.size : Int) > 100)), qs_, H', ⟨qo_⟩, ⟨qk_ BK101.out⟩, ⟨qb1_ GE101.out HB.out⟩⟩
 case rest =>
  clear HC2
  try clear p2
  try clear c4
  try clear c4b0
  try clear c4b1
  try clear c6
  try clear c6b0
  try clear c6b1
  try clear c8
  try clear c8b0
  try clear c8b1
  (try clear Z10_0 Z10_1 Z10_10 Z10_11 Z10_12 Z10_13 Z10_14 Z10_15 Z10_16 Z10_17 Z10_18 Z10_19 Z10_2 Z10_20 Z10_21 Z10_22 Z10_23 Z10_24 Z10_3 Z10_4 Z10_5 Z10_6 Z10_7 Z10_8 Z10_9 Y10_0 Y10_1 Y10_10 Y10_11 Y10_12 Y10_13 Y10_14 Y10_15 Y10_16 Y10_17 Y10_18 Y10_19 Y10_2 Y10_20 Y10_21 Y10_22 Y10_23 Y10_24 Y10_3 Y10_4 Y10_5 Y10_6 Y10_7 Y10_8 Y10_9)
  (try clear Z5_0 Z5_1 Z5_10 Z5_11 Z5_12 Z5_13 Z5_14 Z5_15 Z5_16 Z5_17 Z5_18 Z5_19 Z5_2 Z5_20 Z5_21 Z5_22 Z5_23 Z5_24 Z5_3 Z5_4 Z5_5 Z5_6 Z5_7 Z5_8 Z5_9 Y5_0 Y5_1 Y5_10 Y5_11 Y5_12 Y5_13 Y5_14 Y5_15 Y5_16 Y5_17 Y5_18 Y5_19 Y5_2 Y5_20 Y5_21 Y5_22 Y5_23 Y5_24 Y5_3 Y5_4 Y5_5 Y5_6 Y5_7 Y5_8 Y5_9)
  (try clear Z7_0 Z7_1 Z7_10 Z7_11 Z7_12 Z7_13 Z7_14 Z7_15 Z7_16 Z7_17 Z7_18 Z7_19 Z7_2 Z7_20 Z7_21 Z7_22 Z7_23 Z7_24 Z7_3 Z7_4 Z7_5 Z7_6 Z7_7 Z7_8 Z7_9 Y7_0 Y7_1 Y7_10 Y7_11 Y7_12 Y7_13 Y7_14 Y7_15 Y7_16 Y7_17 Y7_18 Y7_19 Y7_2 Y7_20 Y7_21 Y7_22 Y7_23 Y7_24 Y7_3 Y7_4 Y7_5 Y7_6 Y7_7 Y7_8 Y7_9)
  (try clear Z9_0 Z9_1 Z9_10 Z9_11 Z9_12 Z9_13 Z9_14 Z9_15 Z9_16 Z9_17 Z9_18 Z9_19 Z9_2 Z9_20 Z9_21 Z9_22 Z9_23 Z9_24 Z9_3 Z9_4 Z9_5 Z9_6 Z9_7 Z9_8 Z9_9 Y9_0 Y9_1 Y9_10 Y9_11 Y9_12 Y9_13 Y9_14 Y9_15 Y9_16 Y9_17 Y9_18 Y9_19 Y9_2 Y9_20 Y9_21 Y9_22 Y9_23 Y9_24 Y9_3 Y9_4 Y9_5 Y9_6 Y9_7 Y9_8 Y9_9)
  obtain ⟨kq, x27_1, rfl, HA, HJ1, BK101, HB⟩ := hcut
  cases kq with
  | zero => exact absurd HA.out (by simp [corebankref38_Great.j0])
  | succ kj1 =>
   have H := HA.out
   clear HA
   simp only [corebankref38_Great.j0] at H
   by_cases c11 : x27_1 = true
   ·subst c11
    have H1 : (some true) = some r := by rw [if_pos rfl] at H; exact H
    clear H
    have H := H1
    clear H1
    obtain rfl := Option.some.inj H
    go_wp2
    go_ret
    exact ⟨qe_, qb1_ GE101.out HB.out⟩
   ·replace c11 := Bool.eq_false_iff.mpr c11
    subst c11
    have H1 : (corebankref38_Great.l0 kj1 0 a0_0 a0_1 a0_2 a0_3 a0_4 a0_5 a0_6 a0_7 a0_8 a0_9 a0_10 a0_11 a0_12 a0_13 a0_14 a0_15 a0_16 a0_17 a0_18 a0_19 a0_20 a0_21 a0_22 l0_23 l0_24) = some r := by rw [if_neg (show ¬ (false = true) by decide)] at H; exact H
    clear H
    have H := H1
    clear H1
    have H' := Aside0.mk H
    clear H
    go_wp2
    go_loopg [3] kj1 (fun kq v3 w' => ∃ (x3_2 : Int), v3 = .int .i64 x3_2 ∧ Aside0 (corebankref38_Great.l0 kq x3_2 a0_0 a0_1 a0_2 a0_3 a0_4 a0_5 a0_6 a0_7 a0_8 a0_9 a0_10 a0_11 a0_12 a0_13 a0_14 a0_15 a0_16 a0_17 a0_18 a0_19 a0_20 a0_21 a0_22 l0_23 l0_24 = some r) ∧ Aside0 (kq ≤ kj1) ∧ Aside0 (w'.heap[gb101]? = some (.cells #[.int .i64 a0_0, .int .i64 a0_1, .int .i64 a0_2, .int .i64 a0_3, .int .i64 a0_4, .int .i64 a0_5, .int .i64 a0_6, .int .i64 a0_7, .int .i64 a0_8, .int .i64 a0_9, .int .i64 a0_10, .int .i64 a0_11, .int .i64 a0_12, .int .i64 a0_13, .int .i64 a0_14, .int .i64 a0_15, .int .i64 a0_16, .int .i64 a0_17, .int .i64 a0_18, .int .i64 a0_19, .int .i64 a0_20, .string a0_21, .string a0_22, (.slice A0_23 l0_23.length c0_23), (.slice A0_24 l0_24.length c0_24)] 27 (0, 0))) ∧ Aside0 (Below w.heap.size w w'))
    case atStart => exact ⟨(0), qs_, H', ⟨Nat.le_refl _⟩, ⟨qk_ BK101.out⟩, ⟨qb1_ GE101.out HB.out⟩⟩
    case round =>
     clear H'
     try clear c1
     try clear p2
     try clear c4
     try clear c4b0
     try clear c4b1
     try clear c6
     try clear c6b0
     try clear c6b1
     try clear c8
     try clear c8b0
     try clear c8b1
     try clear c11
     (try clear Z10_0 Z10_1 Z10_10 Z10_11 Z10_12 Z10_13 Z10_14 Z10_15 Z10_16 Z10_17 Z10_18 Z10_19 Z10_2 Z10_20 Z10_21 Z10_22 Z10_23 Z10_24 Z10_3 Z10_4 Z10_5 Z10_6 Z10_7 Z10_8 Z10_9 Y10_0 Y10_1 Y10_10 Y10_11 Y10_12 Y10_13 Y10_14 Y10_15 Y10_16 Y10_17 Y10_18 Y10_19 Y10_2 Y10_20 Y10_21 Y10_22 Y10_23 Y10_24 Y10_3 Y10_4 Y10_5 Y10_6 Y10_7 Y10_8 Y10_9)
     (try clear Z5_0 Z5_1 Z5_10 Z5_11 Z5_12 Z5_13 Z5_14 Z5_15 Z5_16 Z5_17 Z5_18 Z5_19 Z5_2 Z5_20 Z5_21 Z5_22 Z5_23 Z5_24 Z5_3 Z5_4 Z5_5 Z5_6 Z5_7 Z5_8 Z5_9 Y5_0 Y5_1 Y5_10 Y5_11 Y5_12 Y5_13 Y5_14 Y5_15 Y5_16 Y5_17 Y5_18 Y5_19 Y5_2 Y5_20 Y5_21 Y5_22 Y5_23 Y5_24 Y5_3 Y5_4 Y5_5 Y5_6 Y5_7 Y5_8 Y5_9)
     (try clear Z7_0 Z7_1 Z7_10 Z7_11 Z7_12 Z7_13 Z7_14 Z7_15 Z7_16 Z7_17 Z7_18 Z7_19 Z7_2 Z7_20 Z7_21 Z7_22 Z7_23 Z7_24 Z7_3 Z7_4 Z7_5 Z7_6 Z7_7 Z7_8 Z7_9 Y7_0 Y7_1 Y7_10 Y7_11 Y7_12 Y7_13 Y7_14 Y7_15 Y7_16 Y7_17 Y7_18 Y7_19 Y7_2 Y7_20 Y7_21 Y7_22 Y7_23 Y7_24 Y7_3 Y7_4 Y7_5 Y7_6 Y7_7 Y7_8 Y7_9)
     (try clear Z9_0 Z9_1 Z9_10 Z9_11 Z9_12 Z9_13 Z9_14 Z9_15 Z9_16 Z9_17 Z9_18 Z9_19 Z9_2 Z9_20 Z9_21 Z9_22 Z9_23 Z9_24 Z9_3 Z9_4 Z9_5 Z9_6 Z9_7 Z9_8 Z9_9 Y9_0 Y9_1 Y9_10 Y9_11 Y9_12 Y9_13 Y9_14 Y9_15 Y9_16 Y9_17 Y9_18 Y9_19 Y9_2 Y9_20 Y9_21 Y9_22 Y9_23 Y9_24 Y9_3 Y9_4 Y9_5 Y9_6 Y9_7 Y9_8 Y9_9)
     try clear p2
     obtain ⟨x3_2, rfl, HA, HK2, BK101, HB⟩ := hrel
     cases gk with
     | zero => exact absurd HA.out (by simp [corebankref38_Great.l0])
     | succ k2 =>
      have H := HA.out
      clear HA
      simp only [corebankref38_Great.l0] at H
      by_cases c12 : x3_2 < (l0_24.length : Int)
      ·rw [if_pos c12] at H
       have c12b0 : decide (x3_2 < (l0_24.length : Int)) = true := decide_eq_true c12
       clear c12
       have HC13 := Aside0.mk H
       clear H
       obtain ⟨Z14_0, Z14_1, Z14_2, Z14_3, Z14_4, Z14_5, Z14_6, Z14_7, Z14_8, Z14_9, Z14_10, Z14_11, Z14_12, Z14_13, Z14_14, Z14_15, Z14_16, Z14_17, Z14_18, Z14_19, Z14_20, Z14_21, Z14_22, Z14_23, Z14_24, Y14_0, Y14_1, Y14_2, Y14_3, Y14_4, Y14_5, Y14_6, Y14_7, Y14_8, Y14_9, Y14_10, Y14_11, Y14_12, Y14_13, Y14_14, Y14_15, Y14_16, Y14_17, Y14_18, Y14_19, Y14_20, Y14_21, Y14_22, Y14_23, Y14_24⟩ := cz25_ BK101.out
       go_upto_region 6 with (fail)
       go_cut [54] (fun v54 wc => ∃ (kq : Nat) (x54_12 : Bool), v54 = .bool x54_12 ∧ Aside0 (corebankref38_Great.j2 kq x3_2 x54_12 a0_0 a0_1 a0_2 a0_3 a0_4 a0_5 a0_6 a0_7 a0_8 a0_9 a0_10 a0_11 a0_12 a0_13 a0_14 a0_15 a0_16 a0_17 a0_18 a0_19 a0_20 a0_21 a0_22 l0_23 l0_24 = some r) ∧ Aside0 (kq ≤ k2) ∧ Aside0 (wc.heap[gb101]? = some (.cells #[.int .i64 a0_0, .int .i64 a0_1, .int .i64 a0_2, .int .i64 a0_3, .int .i64 a0_4, .int .i64 a0_5, .int .i64 a0_6, .int .i64 a0_7, .int .i64 a0_8, .int .i64 a0_9, .int .i64 a0_10, .int .i64 a0_11, .int .i64 a0_12, .int .i64 a0_13, .int .i64 a0_14, .int .i64 a0_15, .int .i64 a0_16, .int .i64 a0_17, .int .i64 a0_18, .int .i64 a0_19, .int .i64 a0_20, .string a0_21, .string a0_22, (.slice A0_23 l0_23.length c0_23), (.slice A0_24 l0_24.length c0_24)] 27 (0, 0))) ∧ Aside0 (Below w.heap.size w wc))
       case first =>
        have H := HC13.out
        clear HC13
        by_cases c15 : 0 ≤ x3_2
        ·rw [if_pos c15] at H
         have c15b0 : decide (0 ≤ x3_2) = true := decide_eq_true c15
         clear c15
         (first | rw [c15b0] | (simp only [i64_w, i32_w]; rw [c15b0]) | skip)
         by_cases c16 : (((rd_T50 l0_24 x3_2).f2.f10).size : Int) > 100
         ·rw [if_pos c16] at H
          have c16b0 : decide (100 < (((rd_T50 l0_24 x3_2).f2.f10).size : Int)) = true := decide_eq_true c16
          have c16b1 : decide (100 < ((rd_T50 l0_24 x3_2).f2.f10).size) = true := decide_eq_true (by omega)
          clear c16
          have H' := Aside0.mk H
          clear H
          obtain ⟨Z17_0, Z17_1, Z17_2, Z17_3, Z17_4, Z17_5, Z17_6, Z17_7, Z17_8, Z17_9, Z17_10, Z17_11, Z17_12, Z17_13, Z17_14, Z17_15, Z17_16, Z17_17, Z17_18, Z17_19, Z17_20, Z17_21, Z17_22, Z17_23, Z17_24, Y17_0, Y17_1, Y17_2, Y17_3, Y17_4, Y17_5, Y17_6, Y17_7, Y17_8, Y17_9, Y17_10, Y17_11, Y17_12, Y17_13, Y17_14, Y17_15, Y17_16, Y17_17, Y17_18, Y17_19, Y17_20, Y17_21, Y17_22, Y17_23, Y17_24⟩ := cz25_ BK101.out
          have p102 : 0 ≤ (x3_2 : Int) := of_decide_eq_true (by first | (with_reducible assumption) | assumption)
          have q102 : x3_2 < (l0_24.length : Int) := of_decide_eq_true (by first | (with_reducible assumption) | assumption)
          obtain ⟨ad102, e102, hx102_0, hx102_1, hx102_2, hx102_3, hx102_4, hx102_5, hx102_6, hx102_7, hx102_8, hx102_9, hx102_10, hx102_11, hx102_12, hx102_13⟩ := at_T50 HR0_24.out x3_2 p102 q102
          cases e102
          replace hx102_0 := bx_ HB.out hx102_0
          replace hx102_1 := bx_ HB.out hx102_1
          replace hx102_2 := bx_ HB.out hx102_2
          replace hx102_3 := bx_ HB.out hx102_3
          replace hx102_4 := bx_ HB.out hx102_4
          replace hx102_5 := bx_ HB.out hx102_5
          replace hx102_6 := bx_ HB.out hx102_6
          replace hx102_7 := bx_ HB.out hx102_7
          replace hx102_8 := bx_ HB.out hx102_8
          replace hx102_9 := bx_ HB.out hx102_9
          replace hx102_10 := bx_ HB.out hx102_10
          replace hx102_11 := bx_ HB.out hx102_11
          replace hx102_12 := bx_ HB.out hx102_12
          replace hx102_13 := bx_ HB.out hx102_13
          replace p102 := eq_true p102
          replace q102 := eq_true q102
          go_wp2
          go_meet
          case rel => exact ⟨_, (true), qs_, H', ⟨by have := HJ1.out; have := HK2.out; first | omega | exact Nat.le_refl _⟩, ⟨qk_ BK101.out⟩, ⟨qb1_ GE101.out HB.out⟩⟩
         ·rw [if_neg c16] at H
          have c16b0 : decide (100 < (((rd_T50 l0_24 x3_2).f2.f10).size : Int)) = false := decide_eq_false c16
          have c16b1 : decide (100 < ((rd_T50 l0_24 x3_2).f2.f10).size) = false := decide_eq_false (by omega)
          clear c16
          have H' := Aside0.mk H
          clear H
          obtain ⟨Z18_0, Z18_1, Z18_2, Z18_3, Z18_4, Z18_5, Z18_6, Z18_7, Z18_8, Z18_9, Z18_10, Z18_11, Z18_12, Z18_13, Z18_14, Z18_15, Z18_16, Z18_17, Z18_18, Z18_19, Z18_20, Z18_21, Z18_22, Z18_23, Z18_24, Y18_0, Y18_1, Y18_2, Y18_3, Y18_4, Y18_5, Y18_6, Y18_7, Y18_8, Y18_9, Y18_10, Y18_11, Y18_12, Y18_13, Y18_14, Y18_15, Y18_16, Y18_17, Y18_18, Y18_19, Y18_20, Y18_21, Y18_22, Y18_23, Y18_24⟩ := cz25_ BK101.out
          have p102 : 0 ≤ (x3_2 : Int) := of_decide_eq_true (by first | (with_reducible assumption) | assumption)
          have q102 : x3_2 < (l0_24.length : Int) := of_decide_eq_true (by first | (with_reducible assumption) | assumption)
          obtain ⟨ad102, e102, hx102_0, hx102_1, hx102_2, hx102_3, hx102_4, hx102_5, hx102_6, hx102_7, hx102_8, hx102_9, hx102_10, hx102_11, hx102_12, hx102_13⟩ := at_T50 HR0_24.out x3_2 p102 q102
          cases e102
          replace hx102_0 := bx_ HB.out hx102_0
          replace hx102_1 := bx_ HB.out hx102_1
          replace hx102_2 := bx_ HB.out hx102_2
          replace hx102_3 := bx_ HB.out hx102_3
          replace hx102_4 := bx_ HB.out hx102_4
          replace hx102_5 := bx_ HB.out hx102_5
          replace hx102_6 := bx_ HB.out hx102_6
          replace hx102_7 := bx_ HB.out hx102_7
          replace hx102_8 := bx_ HB.out hx102_8
          replace hx102_9 := bx_ HB.out hx102_9
          replace hx102_10 := bx_ HB.out hx102_10
          replace hx102_11 := bx_ HB.out hx102_11
          replace hx102_12 := bx_ HB.out hx102_12
          replace hx102_13 := bx_ HB.out hx102_13
          replace p102 := eq_true p102
          replace q102 := eq_true q102
          have p103 : 0 ≤ (x3_2 : Int) := of_decide_eq_true (by first | (with_reducible assumption) | assumption)
          have q103 : x3_2 < (l0_24.length : Int) := of_decide_eq_true (by first | (with_reducible assumption) | assumption)
          obtain ⟨ad103, e103, hx103_0, hx103_1, hx103_2, hx103_3, hx103_4, hx103_5, hx103_6, hx103_7, hx103_8, hx103_9, hx103_10, hx103_11, hx103_12, hx103_13⟩ := at_T50 HR0_24.out x3_2 p103 q103
          obtain rfl : ad102 = ad103 := (by injection e103)
          replace hx103_0 := bx_ HB.out hx103_0
          replace hx103_1 := bx_ HB.out hx103_1
          replace hx103_2 := bx_ HB.out hx103_2
          replace hx103_3 := bx_ HB.out hx103_3
          replace hx103_4 := bx_ HB.out hx103_4
          replace hx103_5 := bx_ HB.out hx103_5
          replace hx103_6 := bx_ HB.out hx103_6
          replace hx103_7 := bx_ HB.out hx103_7
          replace hx103_8 := bx_ HB.out hx103_8
          replace hx103_9 := bx_ HB.out hx103_9
          replace hx103_10 := bx_ HB.out hx103_10
          replace hx103_11 := bx_ HB.out hx103_11
          replace hx103_12 := bx_ HB.out hx103_12
          replace hx103_13 := bx_ HB.out hx103_13
          replace p103 := eq_true p103
          replace q103 := eq_true q103
          go_wp2
          go_meet
          case rel => exact ⟨_, (decide ((((rd_T50 l0_24 x3_2).f2.f11).size : Int) > 100)), qs_, H', ⟨by have := HJ1.out; have := HK2.out; first | omega | exact Nat.le_refl _⟩, ⟨qk_ BK101.out⟩, ⟨qb1_ GE101.out HB.out⟩⟩
        ·rw [if_neg c15] at H
         exact absurd H (by simp)
       case rest =>
        clear HC13
        try clear c1
        try clear p1
        try clear q1
        try clear hx1
        try clear p2
        try clear c4
        try clear c4b0
        try clear c4b1
        try clear c6
        try clear c6b0
        try clear c6b1
        try clear c8
        try clear c8b0
        try clear c8b1
        try clear p10
        try clear q10
        try clear hx10
        try clear c11
        try clear c12
        try clear c12b0
        try clear c15
        try clear c15b0
        try clear c16
        try clear c16b0
        try clear c16b1
        (try clear Z10_0 Z10_1 Z10_10 Z10_11 Z10_12 Z10_13 Z10_14 Z10_15 Z10_16 Z10_17 Z10_18 Z10_19 Z10_2 Z10_20 Z10_21 Z10_22 Z10_23 Z10_24 Z10_3 Z10_4 Z10_5 Z10_6 Z10_7 Z10_8 Z10_9 Y10_0 Y10_1 Y10_10 Y10_11 Y10_12 Y10_13 Y10_14 Y10_15 Y10_16 Y10_17 Y10_18 Y10_19 Y10_2 Y10_20 Y10_21 Y10_22 Y10_23 Y10_24 Y10_3 Y10_4 Y10_5 Y10_6 Y10_7 Y10_8 Y10_9)
        (try clear Z14_0 Z14_1 Z14_10 Z14_11 Z14_12 Z14_13 Z14_14 Z14_15 Z14_16 Z14_17 Z14_18 Z14_19 Z14_2 Z14_20 Z14_21 Z14_22 Z14_23 Z14_24 Z14_3 Z14_4 Z14_5 Z14_6 Z14_7 Z14_8 Z14_9 Y14_0 Y14_1 Y14_10 Y14_11 Y14_12 Y14_13 Y14_14 Y14_15 Y14_16 Y14_17 Y14_18 Y14_19 Y14_2 Y14_20 Y14_21 Y14_22 Y14_23 Y14_24 Y14_3 Y14_4 Y14_5 Y14_6 Y14_7 Y14_8 Y14_9)
        (try clear Z17_0 Z17_1 Z17_10 Z17_11 Z17_12 Z17_13 Z17_14 Z17_15 Z17_16 Z17_17 Z17_18 Z17_19 Z17_2 Z17_20 Z17_21 Z17_22 Z17_23 Z17_24 Z17_3 Z17_4 Z17_5 Z17_6 Z17_7 Z17_8 Z17_9 Y17_0 Y17_1 Y17_10 Y17_11 Y17_12 Y17_13 Y17_14 Y17_15 Y17_16 Y17_17 Y17_18 Y17_19 Y17_2 Y17_20 Y17_21 Y17_22 Y17_23 Y17_24 Y17_3 Y17_4 Y17_5 Y17_6 Y17_7 Y17_8 Y17_9)
        (try clear Z18_0 Z18_1 Z18_10 Z18_11 Z18_12 Z18_13 Z18_14 Z18_15 Z18_16 Z18_17 Z18_18 Z18_19 Z18_2 Z18_20 Z18_21 Z18_22 Z18_23 Z18_24 Z18_3 Z18_4 Z18_5 Z18_6 Z18_7 Z18_8 Z18_9 Y18_0 Y18_1 Y18_10 Y18_11 Y18_12 Y18_13 Y18_14 Y18_15 Y18_16 Y18_17 Y18_18 Y18_19 Y18_2 Y18_20 Y18_21 Y18_22 Y18_23 Y18_24 Y18_3 Y18_4 Y18_5 Y18_6 Y18_7 Y18_8 Y18_9)
        (try clear Z5_0 Z5_1 Z5_10 Z5_11 Z5_12 Z5_13 Z5_14 Z5_15 Z5_16 Z5_17 Z5_18 Z5_19 Z5_2 Z5_20 Z5_21 Z5_22 Z5_23 Z5_24 Z5_3 Z5_4 Z5_5 Z5_6 Z5_7 Z5_8 Z5_9 Y5_0 Y5_1 Y5_10 Y5_11 Y5_12 Y5_13 Y5_14 Y5_15 Y5_16 Y5_17 Y5_18 Y5_19 Y5_2 Y5_20 Y5_21 Y5_22 Y5_23 Y5_24 Y5_3 Y5_4 Y5_5 Y5_6 Y5_7 Y5_8 Y5_9)
        (try clear Z7_0 Z7_1 Z7_10 Z7_11 Z7_12 Z7_13 Z7_14 Z7_15 Z7_16 Z7_17 Z7_18 Z7_19 Z7_2 Z7_20 Z7_21 Z7_22 Z7_23 Z7_24 Z7_3 Z7_4 Z7_5 Z7_6 Z7_7 Z7_8 Z7_9 Y7_0 Y7_1 Y7_10 Y7_11 Y7_12 Y7_13 Y7_14 Y7_15 Y7_16 Y7_17 Y7_18 Y7_19 Y7_2 Y7_20 Y7_21 Y7_22 Y7_23 Y7_24 Y7_3 Y7_4 Y7_5 Y7_6 Y7_7 Y7_8 Y7_9)
        (try clear Z9_0 Z9_1 Z9_10 Z9_11 Z9_12 Z9_13 Z9_14 Z9_15 Z9_16 Z9_17 Z9_18 Z9_19 Z9_2 Z9_20 Z9_21 Z9_22 Z9_23 Z9_24 Z9_3 Z9_4 Z9_5 Z9_6 Z9_7 Z9_8 Z9_9 Y9_0 Y9_1 Y9_10 Y9_11 Y9_12 Y9_13 Y9_14 Y9_15 Y9_16 Y9_17 Y9_18 Y9_19 Y9_2 Y9_20 Y9_21 Y9_22 Y9_23 Y9_24 Y9_3 Y9_4 Y9_5 Y9_6 Y9_7 Y9_8 Y9_9)
        try clear hx102_0
        try clear hx102_1
        try clear hx102_10
        try clear hx102_11
        try clear hx102_12
        try clear hx102_13
        try clear hx102_2
        try clear hx102_3
        try clear hx102_4
        try clear hx102_5
        try clear hx102_6
        try clear hx102_7
        try clear hx102_8
        try clear hx102_9
        try clear hx103_0
        try clear hx103_1
        try clear hx103_10
        try clear hx103_11
        try clear hx103_12
        try clear hx103_13
        try clear hx103_2
        try clear hx103_3
        try clear hx103_4
        try clear hx103_5
        try clear hx103_6
        try clear hx103_7
        try clear hx103_8
        try clear hx103_9
        try clear p102
        try clear p103
        try clear p2
        try clear q102
        try clear q103
        obtain ⟨kq, x54_12, rfl, HA, HJ12, BK101, HB⟩ := hcut
        cases kq with
        | zero => exact absurd HA.out (by simp [corebankref38_Great.j2])
        | succ kj12 =>
         have H := HA.out
         clear HA
         simp only [corebankref38_Great.j2] at H
         by_cases c19 : x54_12 = true
         ·subst c19
          have H1 : (some true) = some r := by rw [if_pos rfl] at H; exact H
          clear H
          have H := H1
          clear H1
          obtain rfl := Option.some.inj H
          go_wp2
          go_ret
          exact ⟨qe_, qb1_ GE101.out HB.out⟩
         ·replace c19 := Bool.eq_false_iff.mpr c19
          subst c19
          have H1 : (corebankref38_Great.l0 kj12 (wrap64 (x3_2 + 1)) a0_0 a0_1 a0_2 a0_3 a0_4 a0_5 a0_6 a0_7 a0_8 a0_9 a0_10 a0_11 a0_12 a0_13 a0_14 a0_15 a0_16 a0_17 a0_18 a0_19 a0_20 a0_21 a0_22 l0_23 l0_24) = some r := by rw [if_neg (show ¬ (false = true) by decide)] at H; exact H
          clear H
          have H := H1
          clear H1
          have H' := Aside0.mk H
          clear H
          go_wp2
          go_roundg kj12
          case measure => have := HJ1.out; have := HK2.out; have := HJ12.out; omega
          case rel => exact ⟨(wrap64 (x3_2 + 1)), qs_, H', ⟨by have := HJ1.out; have := HK2.out; have := HJ12.out; omega⟩, ⟨qk_ BK101.out⟩, ⟨qb1_ GE101.out HB.out⟩⟩
      ·rw [if_neg c12] at H
       have c12b0 : decide (x3_2 < (l0_24.length : Int)) = false := decide_eq_false c12
       clear c12
       obtain rfl := Option.some.inj H
       obtain ⟨Z20_0, Z20_1, Z20_2, Z20_3, Z20_4, Z20_5, Z20_6, Z20_7, Z20_8, Z20_9, Z20_10, Z20_11, Z20_12, Z20_13, Z20_14, Z20_15, Z20_16, Z20_17, Z20_18, Z20_19, Z20_20, Z20_21, Z20_22, Z20_23, Z20_24, Y20_0, Y20_1, Y20_2, Y20_3, Y20_4, Y20_5, Y20_6, Y20_7, Y20_8, Y20_9, Y20_10, Y20_11, Y20_12, Y20_13, Y20_14, Y20_15, Y20_16, Y20_17, Y20_18, Y20_19, Y20_20, Y20_21, Y20_22, Y20_23, Y20_24⟩ := cz25_ BK101.out
       go_wp2
       go_ret
       exact ⟨qe_, qb1_ GE101.out HB.out⟩
theorem ldg54_ {P : Program} {ops : Array Oper} {rest : List Oper} {o : Oper} {a : Act} {Q : Exit → Act → World → Prop} {W : World} {t : TypeId} {b : Tmp} {g : Nat} {cs : Array Value} {d : TypeDesc} (hu : P.underlying t = some d) (ho : o.op = .load t (.tmp b)) (hw : Region.wanted o (yielded ops a.tmps) = true)
  (hx : a.eval (.tmp b) = .pointer (some ⟨g, 0, none⟩)) (hb : W.heap[g]? = some (.cells cs t (0, 0))) (hd : (match d with | .struct _ | .array _ _ => true | _ => false) = true) (hi : (P.info? t).map (·.size) = some cs.size)
  (h : wpList P ops Q rest (a.put o.dst (.agg cs)) W) : wpList P ops Q (o :: rest) a W := by
  refine BigFrame.wpList_want hw fun K hK => ?_
  have hl := ld_of_cells (P := P) (w := W) (g := g) (t := t) cs.toList (fun j v hv => by rw [cell_of_row W g j cs t (0, 0) hb]; simpa using hv) hu hd (by simpa using hi)
  have hr : (execOp a.eval o).run P W = .ok (.value (.agg cs)) W := ldx_ ho hx (by simpa using hl)
  unfold Oper.wp
  rw [hr]
  exact hK _ _ h
theorem st54b_ {B g : Nat} {w0 w : World} (hb : Below B w0 w) (hBg : B ≤ g) (cs : Array Value) : Below B w0 (w.setRow g cs) :=
  hb.trans ⟨rfl, rfl, rfl, by simp [World.setRow], fun k hk => setRow_other w g k cs (by omega)⟩
theorem st54_ {P : Program} {ops : Array Oper} {rest : List Oper} {o : Oper} {a : Act} {Q : Exit → Act → World → Prop} {W : World} {t : TypeId} {p : Tmp} {v : Operand} {g : Nat} {old : Array Value} (cs : Array Value)
  (ho : o.op = .store t (.tmp p) v) (hgd : o.guard = none) (hN : o.dst = none) (hx : a.eval (.tmp p) = .pointer (some ⟨g, 0, none⟩)) (hv : a.eval v = .agg cs) (hb : W.heap[g]? = some (.cells old t (0, 0)))
  (hi : (P.info? t).map (·.size) = some cs.size) (hs : old.size = cs.size) (h1 : cs.toList.all (·.oneCell') = true)
  (h : ∀ w', w'.heap[g]? = some (.cells cs t (0, 0)) → (∀ k, k ≠ g → w'.heap[k]? = W.heap[k]?) → (∀ (B : Nat) (w0 : World), Below B w0 W → B ≤ g → Below B w0 w') → wpList P ops Q rest a w') : wpList P ops Q (o :: rest) a W := by
  have hl := run_storeVar_row (P := P) W g t t old cs hb hi hs (by simpa using h1)
  refine store_event (t := t) (p := p) (v := v) (w1 := W.setRow g cs) hgd ho hN ?_ (fun w' e => by subst e; exact h _ (setRow_heap W g old cs t (0, 0) hb) (fun k hk => setRow_other W g k cs hk) (fun B w0 hB hg => st54b_ hB hg cs))
  unfold execOp
  simp only [ho, hx, hv]
  simp [Instr.storeAt, Instr.sureAddr, Sem.run_bind, hl, Result.andThen]
def corebanklaw38_ProvisionExpects.f (k : Nat) (a0_0 a0_1 a0_2 a0_3 a0_4 a0_5 a0_6 a0_7 a0_8 a0_9 a0_10 a0_11 a0_12 a0_13 a0_14 a0_15 a0_16 a0_17 a0_18 a0_19 a0_20 : Int) (a0_21 a0_22 : ByteArray) (l0_23 : List (S54)) (l0_24 : List (S50)) (a1 : Int) : Option (Bool) := (corebankref38_Great.f k a0_0 a0_1 a0_2 a0_3 a0_4 a0_5 a0_6 a0_7 a0_8 a0_9 a0_10 a0_11 a0_12 a0_13 a0_14 a0_15 a0_16 a0_17 a0_18 a0_19 a0_20 a0_21 a0_22 l0_23 l0_24).bind fun t430 => (if t430 = true then ((corebanklaw38_Live.f k).bind fun t431 => (some t431)) else ((provision_Expected.f k a0_0 a0_1 a0_2 a0_3 a0_4 a0_5 a0_6 a0_7 a0_8 a0_9 a0_10 a0_11 a0_12 a0_13 a0_14 a0_15 a0_16 a0_17 a0_18 a0_19 a0_20 a0_21 a0_22 l0_23 l0_24 a1).bind fun bt432 => ((corebankref38_Expected.f k a0_0 a0_1 a0_2 a0_3 a0_4 a0_5 a0_6 a0_7 a0_8 a0_9 a0_10 a0_11 a0_12 a0_13 a0_14 a0_15 a0_16 a0_17 a0_18 a0_19 a0_20 a0_21 a0_22 l0_23 l0_24 a1).bind fun bt434 => ((provision_Move.f k a0_0 a0_1 a0_2 a0_3 a0_4 a0_5 a0_6 a0_7 a0_8 a0_9 a0_10 a0_11 a0_12 a0_13 a0_14 a0_15 a0_16 a0_17 a0_18 a0_19 a0_20 a0_21 a0_22 l0_23 l0_24 a1).bind fun bt436 => ((corebankref38_Move.f k a0_0 a0_1 a0_2 a0_3 a0_4 a0_5 a0_6 a0_7 a0_8 a0_9 a0_10 a0_11 a0_12 a0_13 a0_14 a0_15 a0_16 a0_17 a0_18 a0_19 a0_20 a0_21 a0_22 l0_23 l0_24 a1).bind fun bt468 => (if bt432.1 = bt434.1 then (if bt432.2 = bt434.2 then ((corebankref34_Same.f k bt436.1 bt436.2.1 bt436.2.2.1 bt436.2.2.2.1 bt436.2.2.2.2.1 bt436.2.2.2.2.2.1 bt436.2.2.2.2.2.2.1 bt436.2.2.2.2.2.2.2.1 bt436.2.2.2.2.2.2.2.2.1 bt436.2.2.2.2.2.2.2.2.2.1 bt436.2.2.2.2.2.2.2.2.2.2.1 bt436.2.2.2.2.2.2.2.2.2.2.2.1 bt436.2.2.2.2.2.2.2.2.2.2.2.2.1 bt436.2.2.2.2.2.2.2.2.2.2.2.2.2.1 bt436.2.2.2.2.2.2.2.2.2.2.2.2.2.2.1 bt436.2.2.2.2.2.2.2.2.2.2.2.2.2.2.2.1 bt436.2.2.2.2.2.2.2.2.2.2.2.2.2.2.2.2.1 bt436.2.2.2.2.2.2.2.2.2.2.2.2.2.2.2.2.2.1 bt436.2.2.2.2.2.2.2.2.2.2.2.2.2.2.2.2.2.2.1 bt436.2.2.2.2.2.2.2.2.2.2.2.2.2.2.2.2.2.2.2.1 bt436.2.2.2.2.2.2.2.2.2.2.2.2.2.2.2.2.2.2.2.2.1 bt436.2.2.2.2.2.2.2.2.2.2.2.2.2.2.2.2.2.2.2.2.2.1 bt436.2.2.2.2.2.2.2.2.2.2.2.2.2.2.2.2.2.2.2.2.2.2.1 bt436.2.2.2.2.2.2.2.2.2.2.2.2.2.2.2.2.2.2.2.2.2.2.2.1 bt436.2.2.2.2.2.2.2.2.2.2.2.2.2.2.2.2.2.2.2.2.2.2.2.2.1 bt468.1 bt468.2.1 bt468.2.2.1 bt468.2.2.2.1 bt468.2.2.2.2.1 bt468.2.2.2.2.2.1 bt468.2.2.2.2.2.2.1 bt468.2.2.2.2.2.2.2.1 bt468.2.2.2.2.2.2.2.2.1 bt468.2.2.2.2.2.2.2.2.2.1 bt468.2.2.2.2.2.2.2.2.2.2.1 bt468.2.2.2.2.2.2.2.2.2.2.2.1 bt468.2.2.2.2.2.2.2.2.2.2.2.2.1 bt468.2.2.2.2.2.2.2.2.2.2.2.2.2.1 bt468.2.2.2.2.2.2.2.2.2.2.2.2.2.2.1 bt468.2.2.2.2.2.2.2.2.2.2.2.2.2.2.2.1 bt468.2.2.2.2.2.2.2.2.2.2.2.2.2.2.2.2.1 bt468.2.2.2.2.2.2.2.2.2.2.2.2.2.2.2.2.2.1 bt468.2.2.2.2.2.2.2.2.2.2.2.2.2.2.2.2.2.2.1 bt468.2.2.2.2.2.2.2.2.2.2.2.2.2.2.2.2.2.2.2.1 bt468.2.2.2.2.2.2.2.2.2.2.2.2.2.2.2.2.2.2.2.2.1 bt468.2.2.2.2.2.2.2.2.2.2.2.2.2.2.2.2.2.2.2.2.2.1 bt468.2.2.2.2.2.2.2.2.2.2.2.2.2.2.2.2.2.2.2.2.2.2.1 bt468.2.2.2.2.2.2.2.2.2.2.2.2.2.2.2.2.2.2.2.2.2.2.2.1 bt468.2.2.2.2.2.2.2.2.2.2.2.2.2.2.2.2.2.2.2.2.2.2.2.2.1).bind fun t500 => (if t500 = true then (if bt436.2.2.2.2.2.2.2.2.2.2.2.2.2.2.2.2.2.2.2.2.2.2.2.2.2.1 = bt468.2.2.2.2.2.2.2.2.2.2.2.2.2.2.2.2.2.2.2.2.2.2.2.2.2.1 then (if bt436.2.2.2.2.2.2.2.2.2.2.2.2.2.2.2.2.2.2.2.2.2.2.2.2.2.2 = bt468.2.2.2.2.2.2.2.2.2.2.2.2.2.2.2.2.2.2.2.2.2.2.2.2.2.2 then ((corebanklaw38_Live.f k).bind fun t501 => (some t501)) else (some false)) else (some false)) else (some false))) else (some false)) else (some false)))))))
set_option maxHeartbeats 8000000 in
set_option maxRecDepth 100000 in
theorem corebanklaw38_ProvisionExpects.calls1 (k : Nat) (a0_0 a0_1 a0_2 a0_3 a0_4 a0_5 a0_6 a0_7 a0_8 a0_9 a0_10 a0_11 a0_12 a0_13 a0_14 a0_15 a0_16 a0_17 a0_18 a0_19 a0_20 : Int) (a0_21 a0_22 : ByteArray) (A0_23 : Option Addr) (c0_23 : Nat) (l0_23 : List (S54)) (A0_24 : Option Addr) (c0_24 : Nat) (l0_24 : List (S50)) (a1 : Int) (w : World) (hG : GW w) (hr0_23 : Kd.C k54 w A0_23 l0_23.length l0_23) (hc0_23 : l0_23.length ≤ c0_23) (hr0_24 : Kd.C k50 w A0_24 l0_24.length l0_24) (hc0_24 : l0_24.length ≤ c0_24) (h : corebanklaw38_ProvisionExpects.f k a0_0 a0_1 a0_2 a0_3 a0_4 a0_5 a0_6 a0_7 a0_8 a0_9 a0_10 a0_11 a0_12 a0_13 a0_14 a0_15 a0_16 a0_17 a0_18 a0_19 a0_20 a0_21 a0_22 l0_23 l0_24 a1 = some true) :
  Calls Tryd.prog 4 #[.agg #[.int .i64 a0_0, .int .i64 a0_1, .int .i64 a0_2, .int .i64 a0_3, .int .i64 a0_4, .int .i64 a0_5, .int .i64 a0_6, .int .i64 a0_7, .int .i64 a0_8, .int .i64 a0_9, .int .i64 a0_10, .int .i64 a0_11, .int .i64 a0_12, .int .i64 a0_13, .int .i64 a0_14, .int .i64 a0_15, .int .i64 a0_16, .int .i64 a0_17, .int .i64 a0_18, .int .i64 a0_19, .int .i64 a0_20, .string a0_21, .string a0_22, .slice A0_23 l0_23.length c0_23, .slice A0_24 l0_24.length c0_24], .int .i64 a1] w fun e w' => e = .returned (.bool true) ∧ Below w.heap.size w w' := by
 have hu27 := Tryd.underlying27
 have HR0_23 := Aside0.mk hr0_23
 have HC0_23 := Aside0.mk hc0_23
 clear hr0_23 hc0_23
 have HR0_24 := Aside0.mk hr0_24
 have HC0_24 := Aside0.mk hc0_24
 clear hr0_24 hc0_24
 have HB := Aside0.mk (Below.refl w.heap.size w)
 have H : ((corebankref38_Great.f k a0_0 a0_1 a0_2 a0_3 a0_4 a0_5 a0_6 a0_7 a0_8 a0_9 a0_10 a0_11 a0_12 a0_13 a0_14 a0_15 a0_16 a0_17 a0_18 a0_19 a0_20 a0_21 a0_22 l0_23 l0_24).bind fun t430 => (if t430 = true then ((corebanklaw38_Live.f k).bind fun t431 => (some t431)) else ((provision_Expected.f k a0_0 a0_1 a0_2 a0_3 a0_4 a0_5 a0_6 a0_7 a0_8 a0_9 a0_10 a0_11 a0_12 a0_13 a0_14 a0_15 a0_16 a0_17 a0_18 a0_19 a0_20 a0_21 a0_22 l0_23 l0_24 a1).bind fun bt432 => ((corebankref38_Expected.f k a0_0 a0_1 a0_2 a0_3 a0_4 a0_5 a0_6 a0_7 a0_8 a0_9 a0_10 a0_11 a0_12 a0_13 a0_14 a0_15 a0_16 a0_17 a0_18 a0_19 a0_20 a0_21 a0_22 l0_23 l0_24 a1).bind fun bt434 => ((provision_Move.f k a0_0 a0_1 a0_2 a0_3 a0_4 a0_5 a0_6 a0_7 a0_8 a0_9 a0_10 a0_11 a0_12 a0_13 a0_14 a0_15 a0_16 a0_17 a0_18 a0_19 a0_20 a0_21 a0_22 l0_23 l0_24 a1).bind fun bt436 => ((corebankref38_Move.f k a0_0 a0_1 a0_2 a0_3 a0_4 a0_5 a0_6 a0_7 a0_8 a0_9 a0_10 a0_11 a0_12 a0_13 a0_14 a0_15 a0_16 a0_17 a0_18 a0_19 a0_20 a0_21 a0_22 l0_23 l0_24 a1).bind fun bt468 => (if bt432.1 = bt434.1 then (if bt432.2 = bt434.2 then ((corebankref34_Same.f k bt436.1 bt436.2.1 bt436.2.2.1 bt436.2.2.2.1 bt436.2.2.2.2.1 bt436.2.2.2.2.2.1 bt436.2.2.2.2.2.2.1 bt436.2.2.2.2.2.2.2.1 bt436.2.2.2.2.2.2.2.2.1 bt436.2.2.2.2.2.2.2.2.2.1 bt436.2.2.2.2.2.2.2.2.2.2.1 bt436.2.2.2.2.2.2.2.2.2.2.2.1 bt436.2.2.2.2.2.2.2.2.2.2.2.2.1 bt436.2.2.2.2.2.2.2.2.2.2.2.2.2.1 bt436.2.2.2.2.2.2.2.2.2.2.2.2.2.2.1 bt436.2.2.2.2.2.2.2.2.2.2.2.2.2.2.2.1 bt436.2.2.2.2.2.2.2.2.2.2.2.2.2.2.2.2.1 bt436.2.2.2.2.2.2.2.2.2.2.2.2.2.2.2.2.2.1 bt436.2.2.2.2.2.2.2.2.2.2.2.2.2.2.2.2.2.2.1 bt436.2.2.2.2.2.2.2.2.2.2.2.2.2.2.2.2.2.2.2.1 bt436.2.2.2.2.2.2.2.2.2.2.2.2.2.2.2.2.2.2.2.2.1 bt436.2.2.2.2.2.2.2.2.2.2.2.2.2.2.2.2.2.2.2.2.2.1 bt436.2.2.2.2.2.2.2.2.2.2.2.2.2.2.2.2.2.2.2.2.2.2.1 bt436.2.2.2.2.2.2.2.2.2.2.2.2.2.2.2.2.2.2.2.2.2.2.2.1 bt436.2.2.2.2.2.2.2.2.2.2.2.2.2.2.2.2.2.2.2.2.2.2.2.2.1 bt468.1 bt468.2.1 bt468.2.2.1 bt468.2.2.2.1 bt468.2.2.2.2.1 bt468.2.2.2.2.2.1 bt468.2.2.2.2.2.2.1 bt468.2.2.2.2.2.2.2.1 bt468.2.2.2.2.2.2.2.2.1 bt468.2.2.2.2.2.2.2.2.2.1 bt468.2.2.2.2.2.2.2.2.2.2.1 bt468.2.2.2.2.2.2.2.2.2.2.2.1 bt468.2.2.2.2.2.2.2.2.2.2.2.2.1 bt468.2.2.2.2.2.2.2.2.2.2.2.2.2.1 bt468.2.2.2.2.2.2.2.2.2.2.2.2.2.2.1 bt468.2.2.2.2.2.2.2.2.2.2.2.2.2.2.2.1 bt468.2.2.2.2.2.2.2.2.2.2.2.2.2.2.2.2.1 bt468.2.2.2.2.2.2.2.2.2.2.2.2.2.2.2.2.2.1 bt468.2.2.2.2.2.2.2.2.2.2.2.2.2.2.2.2.2.2.1 bt468.2.2.2.2.2.2.2.2.2.2.2.2.2.2.2.2.2.2.2.1 bt468.2.2.2.2.2.2.2.2.2.2.2.2.2.2.2.2.2.2.2.2.1 bt468.2.2.2.2.2.2.2.2.2.2.2.2.2.2.2.2.2.2.2.2.2.1 bt468.2.2.2.2.2.2.2.2.2.2.2.2.2.2.2.2.2.2.2.2.2.2.1 bt468.2.2.2.2.2.2.2.2.2.2.2.2.2.2.2.2.2.2.2.2.2.2.2.1 bt468.2.2.2.2.2.2.2.2.2.2.2.2.2.2.2.2.2.2.2.2.2.2.2.2.1).bind fun t500 => (if t500 = true then (if bt436.2.2.2.2.2.2.2.2.2.2.2.2.2.2.2.2.2.2.2.2.2.2.2.2.2.1 = bt468.2.2.2.2.2.2.2.2.2.2.2.2.2.2.2.2.2.2.2.2.2.2.2.2.2.1 then (if bt436.2.2.2.2.2.2.2.2.2.2.2.2.2.2.2.2.2.2.2.2.2.2.2.2.2.2 = bt468.2.2.2.2.2.2.2.2.2.2.2.2.2.2.2.2.2.2.2.2.2.2.2.2.2.2 then ((corebanklaw38_Live.f k).bind fun t501 => (some t501)) else (some false)) else (some false)) else (some false))) else (some false)) else (some false)))))))) = some true := h
 clear h
 replace H := Option.bind_eq_some_iff.mp H
 obtain ⟨t430, A30, H⟩ := H
 replace H : (if t430 = true then ((corebanklaw38_Live.f k).bind fun t431 => (some t431)) else ((provision_Expected.f k a0_0 a0_1 a0_2 a0_3 a0_4 a0_5 a0_6 a0_7 a0_8 a0_9 a0_10 a0_11 a0_12 a0_13 a0_14 a0_15 a0_16 a0_17 a0_18 a0_19 a0_20 a0_21 a0_22 l0_23 l0_24 a1).bind fun bt432 => ((corebankref38_Expected.f k a0_0 a0_1 a0_2 a0_3 a0_4 a0_5 a0_6 a0_7 a0_8 a0_9 a0_10 a0_11 a0_12 a0_13 a0_14 a0_15 a0_16 a0_17 a0_18 a0_19 a0_20 a0_21 a0_22 l0_23 l0_24 a1).bind fun bt434 => ((provision_Move.f k a0_0 a0_1 a0_2 a0_3 a0_4 a0_5 a0_6 a0_7 a0_8 a0_9 a0_10 a0_11 a0_12 a0_13 a0_14 a0_15 a0_16 a0_17 a0_18 a0_19 a0_20 a0_21 a0_22 l0_23 l0_24 a1).bind fun bt436 => ((corebankref38_Move.f k a0_0 a0_1 a0_2 a0_3 a0_4 a0_5 a0_6 a0_7 a0_8 a0_9 a0_10 a0_11 a0_12 a0_13 a0_14 a0_15 a0_16 a0_17 a0_18 a0_19 a0_20 a0_21 a0_22 l0_23 l0_24 a1).bind fun bt468 => (if bt432.1 = bt434.1 then (if bt432.2 = bt434.2 then ((corebankref34_Same.f k bt436.1 bt436.2.1 bt436.2.2.1 bt436.2.2.2.1 bt436.2.2.2.2.1 bt436.2.2.2.2.2.1 bt436.2.2.2.2.2.2.1 bt436.2.2.2.2.2.2.2.1 bt436.2.2.2.2.2.2.2.2.1 bt436.2.2.2.2.2.2.2.2.2.1 bt436.2.2.2.2.2.2.2.2.2.2.1 bt436.2.2.2.2.2.2.2.2.2.2.2.1 bt436.2.2.2.2.2.2.2.2.2.2.2.2.1 bt436.2.2.2.2.2.2.2.2.2.2.2.2.2.1 bt436.2.2.2.2.2.2.2.2.2.2.2.2.2.2.1 bt436.2.2.2.2.2.2.2.2.2.2.2.2.2.2.2.1 bt436.2.2.2.2.2.2.2.2.2.2.2.2.2.2.2.2.1 bt436.2.2.2.2.2.2.2.2.2.2.2.2.2.2.2.2.2.1 bt436.2.2.2.2.2.2.2.2.2.2.2.2.2.2.2.2.2.2.1 bt436.2.2.2.2.2.2.2.2.2.2.2.2.2.2.2.2.2.2.2.1 bt436.2.2.2.2.2.2.2.2.2.2.2.2.2.2.2.2.2.2.2.2.1 bt436.2.2.2.2.2.2.2.2.2.2.2.2.2.2.2.2.2.2.2.2.2.1 bt436.2.2.2.2.2.2.2.2.2.2.2.2.2.2.2.2.2.2.2.2.2.2.1 bt436.2.2.2.2.2.2.2.2.2.2.2.2.2.2.2.2.2.2.2.2.2.2.2.1 bt436.2.2.2.2.2.2.2.2.2.2.2.2.2.2.2.2.2.2.2.2.2.2.2.2.1 bt468.1 bt468.2.1 bt468.2.2.1 bt468.2.2.2.1 bt468.2.2.2.2.1 bt468.2.2.2.2.2.1 bt468.2.2.2.2.2.2.1 bt468.2.2.2.2.2.2.2.1 bt468.2.2.2.2.2.2.2.2.1 bt468.2.2.2.2.2.2.2.2.2.1 bt468.2.2.2.2.2.2.2.2.2.2.1 bt468.2.2.2.2.2.2.2.2.2.2.2.1 bt468.2.2.2.2.2.2.2.2.2.2.2.2.1 bt468.2.2.2.2.2.2.2.2.2.2.2.2.2.1 bt468.2.2.2.2.2.2.2.2.2.2.2.2.2.2.1 bt468.2.2.2.2.2.2.2.2.2.2.2.2.2.2.2.1 bt468.2.2.2.2.2.2.2.2.2.2.2.2.2.2.2.2.1 bt468.2.2.2.2.2.2.2.2.2.2.2.2.2.2.2.2.2.1 bt468.2.2.2.2.2.2.2.2.2.2.2.2.2.2.2.2.2.2.1 bt468.2.2.2.2.2.2.2.2.2.2.2.2.2.2.2.2.2.2.2.1 bt468.2.2.2.2.2.2.2.2.2.2.2.2.2.2.2.2.2.2.2.2.1 bt468.2.2.2.2.2.2.2.2.2.2.2.2.2.2.2.2.2.2.2.2.2.1 bt468.2.2.2.2.2.2.2.2.2.2.2.2.2.2.2.2.2.2.2.2.2.2.1 bt468.2.2.2.2.2.2.2.2.2.2.2.2.2.2.2.2.2.2.2.2.2.2.2.1 bt468.2.2.2.2.2.2.2.2.2.2.2.2.2.2.2.2.2.2.2.2.2.2.2.2.1).bind fun t500 => (if t500 = true then (if bt436.2.2.2.2.2.2.2.2.2.2.2.2.2.2.2.2.2.2.2.2.2.2.2.2.2.1 = bt468.2.2.2.2.2.2.2.2.2.2.2.2.2.2.2.2.2.2.2.2.2.2.2.2.2.1 then (if bt436.2.2.2.2.2.2.2.2.2.2.2.2.2.2.2.2.2.2.2.2.2.2.2.2.2.2 = bt468.2.2.2.2.2.2.2.2.2.2.2.2.2.2.2.2.2.2.2.2.2.2.2.2.2.2 then ((corebanklaw38_Live.f k).bind fun t501 => (some t501)) else (some false)) else (some false)) else (some false))) else (some false)) else (some false))))))) = some true := H
 have A3 := Aside0.mk A30
 clear A30
 by_cases c4 : t430 = true
 ·subst c4
  have H1 : ((corebanklaw38_Live.f k).bind fun t431 => (some t431)) = some true := by rw [if_pos rfl] at H; exact H
  clear H
  have H := H1
  clear H1
  replace H := Option.bind_eq_some_iff.mp H
  obtain ⟨t431, A50, H⟩ := H
  replace H : (some t431) = some true := H
  have A5 := Aside0.mk A50
  clear A50
  have HL_ := Option.some.inj H
  go_enter Tryd.func4, Tryd.ntmps4
  go_wp2_with (first | ((with_reducible refine gate_load_ (t := 27) rfl ?_); refine ld_ (t := 27) Tryd.underlying27 rfl rfl rfl (by first | (with_reducible first | exact BK429.out | exact BK467.out | exact BK499.out) | ((repeat (first | (with_reducible first | refine blk_drewN ?_ _ | refine blk_drew ?_ | refine blk_alloc ?_ _) | refine blk_far ?_ NB429_467.out _ | refine blk_far ?_ NB429_499.out _ | refine blk_far ?_ NB467_429.out _ | refine blk_far ?_ NB467_499.out _ | refine blk_far ?_ NB499_429.out _ | refine blk_far ?_ NB499_467.out _ | refine blk_set ?_ _ _)); (with_reducible first | exact BK429.out | exact BK467.out | exact BK499.out))) rfl (by kernel_rfl) ?_) | ((with_reducible refine gate_load_ (t := 27) rfl ?_); refine ldg54_ (t := 27) Tryd.underlying27 rfl (by rfl) rfl (by first | (with_reducible first | exact BK429.out | exact BK467.out | exact BK499.out) | ((repeat (first | (with_reducible first | refine blk_drewN ?_ _ | refine blk_drew ?_ | refine blk_alloc ?_ _) | refine blk_far ?_ NB429_467.out _ | refine blk_far ?_ NB429_499.out _ | refine blk_far ?_ NB467_429.out _ | refine blk_far ?_ NB467_499.out _ | refine blk_far ?_ NB499_429.out _ | refine blk_far ?_ NB499_467.out _ | refine blk_set ?_ _ _)); (with_reducible first | exact BK429.out | exact BK467.out | exact BK499.out))) rfl (by kernel_rfl) ?_) | ((with_reducible refine gate_dst (N := 2) rfl ?_); refine be_ (N := 2) (cs := #[.int .i64 a0_0, .int .i64 a0_1, .int .i64 a0_2, .int .i64 a0_3, .int .i64 a0_4, .int .i64 a0_5, .int .i64 a0_6, .int .i64 a0_7, .int .i64 a0_8, .int .i64 a0_9, .int .i64 a0_10, .int .i64 a0_11, .int .i64 a0_12, .int .i64 a0_13, .int .i64 a0_14, .int .i64 a0_15, .int .i64 a0_16, .int .i64 a0_17, .int .i64 a0_18, .int .i64 a0_19, .int .i64 a0_20, .string a0_21, .string a0_22, .slice A0_23 l0_23.length c0_23, .slice A0_24 l0_24.length c0_24]) (t := 27) ?_; intro gb429 hg w6 hbox hb; have n0_ := Aside0.mk (below_step (qb_ HB.out) hb); have n1_ := Aside0.mk (hbox); have n2_ := Aside0.mk (bz_ hg (qb_ HB.out) : w.heap.size ≤ gb429); have n3_ := n2_; clear HB; have HB := n0_; have BK429 := n1_; have GW429 := n2_; have GE429 := n3_; clear n0_ n1_ n2_ n3_; clear hb hbox hg; obtain ⟨Z7_0, Z7_1, Z7_2, Z7_3, Z7_4, Z7_5, Z7_6, Z7_7, Z7_8, Z7_9, Z7_10, Z7_11, Z7_12, Z7_13, Z7_14, Z7_15, Z7_16, Z7_17, Z7_18, Z7_19, Z7_20, Z7_21, Z7_22, Z7_23, Z7_24, Y7_0, Y7_1, Y7_2, Y7_3, Y7_4, Y7_5, Y7_6, Y7_7, Y7_8, Y7_9, Y7_10, Y7_11, Y7_12, Y7_13, Y7_14, Y7_15, Y7_16, Y7_17, Y7_18, Y7_19, Y7_20, Y7_21, Y7_22, Y7_23, Y7_24⟩ := cz25_ BK429.out) | ((with_reducible refine gate_callee (f := 8) rfl ?_); refine goesL_ (some 16) rfl rfl Tryd.func8 (by kernel_rfl) rfl #[.agg #[.int .i64 a0_0, .int .i64 a0_1, .int .i64 a0_2, .int .i64 a0_3, .int .i64 a0_4, .int .i64 a0_5, .int .i64 a0_6, .int .i64 a0_7, .int .i64 a0_8, .int .i64 a0_9, .int .i64 a0_10, .int .i64 a0_11, .int .i64 a0_12, .int .i64 a0_13, .int .i64 a0_14, .int .i64 a0_15, .int .i64 a0_16, .int .i64 a0_17, .int .i64 a0_18, .int .i64 a0_19, .int .i64 a0_20, .string a0_21, .string a0_22, .slice A0_23 l0_23.length c0_23, .slice A0_24 l0_24.length c0_24]] rfl ql_ ?_; (with_reducible refine (corebankref38_Great.calls k a0_0 a0_1 a0_2 a0_3 a0_4 a0_5 a0_6 a0_7 a0_8 a0_9 a0_10 a0_11 a0_12 a0_13 a0_14 a0_15 a0_16 a0_17 a0_18 a0_19 a0_20 a0_21 a0_22 _ _ l0_23 _ _ l0_24 true _ ?side1 ?side2 ?side3 ?side4 A3.out).mono ?_); (case side1 => repeat (first | exact (Kd.C_below HR0_23.out HB.out) | (with_reducible refine Kd.C_alloc ?_ _) | (with_reducible refine Kd.C_drewN ?_ _) | (with_reducible refine Kd.C_drew ?_))); (case side2 => exact HC0_23.out); (case side3 => repeat (first | exact (Kd.C_below HR0_24.out HB.out) | (with_reducible refine Kd.C_alloc ?_ _) | (with_reducible refine Kd.C_drewN ?_ _) | (with_reducible refine Kd.C_drew ?_))); (case side4 => exact HC0_24.out); rintro e w8 ⟨rfl, hb⟩; refine ⟨_, rfl, ?_⟩; have n0_ := Aside0.mk (blk_below (qk_ BK429.out) hb); have n1_ := Aside0.mk (below_step (qb1_ GE429.out HB.out) hb); clear BK429; clear HB; have BK429 := n0_; have HB := n1_; clear n0_ n1_; (try clear hb); (try clear hb2); (try clear hk); (try clear hi)) | ((with_reducible refine gate_callee (f := 13) rfl ?_); refine goesL_ (some 17) rfl rfl Tryd.func13 (by kernel_rfl) rfl #[] rfl ql_ ?_; (with_reducible refine (corebanklaw38_Live.calls (hG := by first | exact hG | (with_reducible exact GW.below hG (qb1_ GE429.out HB.out)) | (with_reducible repeat (first | exact hG | apply GW.drewN | apply GW.drew))) k  t431 _ A5.out).mono ?_); rintro e w9 ⟨rfl, hb⟩; refine ⟨_, rfl, ?_⟩; have n0_ := Aside0.mk (blk_below (qk_ BK429.out) hb); have n1_ := Aside0.mk (below_step (qb1_ GE429.out HB.out) hb); clear BK429; clear HB; have BK429 := n0_; have HB := n1_; clear n0_ n1_; (try clear hb); (try clear hb2); (try clear hk); (try clear hi)))
  go_ret
  exact ⟨qe_, qb1_ GE429.out HB.out⟩
 ·replace c4 := Bool.eq_false_iff.mpr c4
  subst c4
  have H1 : ((provision_Expected.f k a0_0 a0_1 a0_2 a0_3 a0_4 a0_5 a0_6 a0_7 a0_8 a0_9 a0_10 a0_11 a0_12 a0_13 a0_14 a0_15 a0_16 a0_17 a0_18 a0_19 a0_20 a0_21 a0_22 l0_23 l0_24 a1).bind fun bt432 => ((corebankref38_Expected.f k a0_0 a0_1 a0_2 a0_3 a0_4 a0_5 a0_6 a0_7 a0_8 a0_9 a0_10 a0_11 a0_12 a0_13 a0_14 a0_15 a0_16 a0_17 a0_18 a0_19 a0_20 a0_21 a0_22 l0_23 l0_24 a1).bind fun bt434 => ((provision_Move.f k a0_0 a0_1 a0_2 a0_3 a0_4 a0_5 a0_6 a0_7 a0_8 a0_9 a0_10 a0_11 a0_12 a0_13 a0_14 a0_15 a0_16 a0_17 a0_18 a0_19 a0_20 a0_21 a0_22 l0_23 l0_24 a1).bind fun bt436 => ((corebankref38_Move.f k a0_0 a0_1 a0_2 a0_3 a0_4 a0_5 a0_6 a0_7 a0_8 a0_9 a0_10 a0_11 a0_12 a0_13 a0_14 a0_15 a0_16 a0_17 a0_18 a0_19 a0_20 a0_21 a0_22 l0_23 l0_24 a1).bind fun bt468 => (if bt432.1 = bt434.1 then (if bt432.2 = bt434.2 then ((corebankref34_Same.f k bt436.1 bt436.2.1 bt436.2.2.1 bt436.2.2.2.1 bt436.2.2.2.2.1 bt436.2.2.2.2.2.1 bt436.2.2.2.2.2.2.1 bt436.2.2.2.2.2.2.2.1 bt436.2.2.2.2.2.2.2.2.1 bt436.2.2.2.2.2.2.2.2.2.1 bt436.2.2.2.2.2.2.2.2.2.2.1 bt436.2.2.2.2.2.2.2.2.2.2.2.1 bt436.2.2.2.2.2.2.2.2.2.2.2.2.1 bt436.2.2.2.2.2.2.2.2.2.2.2.2.2.1 bt436.2.2.2.2.2.2.2.2.2.2.2.2.2.2.1 bt436.2.2.2.2.2.2.2.2.2.2.2.2.2.2.2.1 bt436.2.2.2.2.2.2.2.2.2.2.2.2.2.2.2.2.1 bt436.2.2.2.2.2.2.2.2.2.2.2.2.2.2.2.2.2.1 bt436.2.2.2.2.2.2.2.2.2.2.2.2.2.2.2.2.2.2.1 bt436.2.2.2.2.2.2.2.2.2.2.2.2.2.2.2.2.2.2.2.1 bt436.2.2.2.2.2.2.2.2.2.2.2.2.2.2.2.2.2.2.2.2.1 bt436.2.2.2.2.2.2.2.2.2.2.2.2.2.2.2.2.2.2.2.2.2.1 bt436.2.2.2.2.2.2.2.2.2.2.2.2.2.2.2.2.2.2.2.2.2.2.1 bt436.2.2.2.2.2.2.2.2.2.2.2.2.2.2.2.2.2.2.2.2.2.2.2.1 bt436.2.2.2.2.2.2.2.2.2.2.2.2.2.2.2.2.2.2.2.2.2.2.2.2.1 bt468.1 bt468.2.1 bt468.2.2.1 bt468.2.2.2.1 bt468.2.2.2.2.1 bt468.2.2.2.2.2.1 bt468.2.2.2.2.2.2.1 bt468.2.2.2.2.2.2.2.1 bt468.2.2.2.2.2.2.2.2.1 bt468.2.2.2.2.2.2.2.2.2.1 bt468.2.2.2.2.2.2.2.2.2.2.1 bt468.2.2.2.2.2.2.2.2.2.2.2.1 bt468.2.2.2.2.2.2.2.2.2.2.2.2.1 bt468.2.2.2.2.2.2.2.2.2.2.2.2.2.1 bt468.2.2.2.2.2.2.2.2.2.2.2.2.2.2.1 bt468.2.2.2.2.2.2.2.2.2.2.2.2.2.2.2.1 bt468.2.2.2.2.2.2.2.2.2.2.2.2.2.2.2.2.1 bt468.2.2.2.2.2.2.2.2.2.2.2.2.2.2.2.2.2.1 bt468.2.2.2.2.2.2.2.2.2.2.2.2.2.2.2.2.2.2.1 bt468.2.2.2.2.2.2.2.2.2.2.2.2.2.2.2.2.2.2.2.1 bt468.2.2.2.2.2.2.2.2.2.2.2.2.2.2.2.2.2.2.2.2.1 bt468.2.2.2.2.2.2.2.2.2.2.2.2.2.2.2.2.2.2.2.2.2.1 bt468.2.2.2.2.2.2.2.2.2.2.2.2.2.2.2.2.2.2.2.2.2.2.1 bt468.2.2.2.2.2.2.2.2.2.2.2.2.2.2.2.2.2.2.2.2.2.2.2.1 bt468.2.2.2.2.2.2.2.2.2.2.2.2.2.2.2.2.2.2.2.2.2.2.2.2.1).bind fun t500 => (if t500 = true then (if bt436.2.2.2.2.2.2.2.2.2.2.2.2.2.2.2.2.2.2.2.2.2.2.2.2.2.1 = bt468.2.2.2.2.2.2.2.2.2.2.2.2.2.2.2.2.2.2.2.2.2.2.2.2.2.1 then (if bt436.2.2.2.2.2.2.2.2.2.2.2.2.2.2.2.2.2.2.2.2.2.2.2.2.2.2 = bt468.2.2.2.2.2.2.2.2.2.2.2.2.2.2.2.2.2.2.2.2.2.2.2.2.2.2 then ((corebanklaw38_Live.f k).bind fun t501 => (some t501)) else (some false)) else (some false)) else (some false))) else (some false)) else (some false)))))) = some true := by rw [if_neg (show ¬ (false = true) by decide)] at H; exact H
  clear H
  have H := H1
  clear H1
  replace H := Option.bind_eq_some_iff.mp H
  obtain ⟨⟨t432, t433⟩, A100, H⟩ := H
  replace H : ((corebankref38_Expected.f k a0_0 a0_1 a0_2 a0_3 a0_4 a0_5 a0_6 a0_7 a0_8 a0_9 a0_10 a0_11 a0_12 a0_13 a0_14 a0_15 a0_16 a0_17 a0_18 a0_19 a0_20 a0_21 a0_22 l0_23 l0_24 a1).bind fun bt434 => ((provision_Move.f k a0_0 a0_1 a0_2 a0_3 a0_4 a0_5 a0_6 a0_7 a0_8 a0_9 a0_10 a0_11 a0_12 a0_13 a0_14 a0_15 a0_16 a0_17 a0_18 a0_19 a0_20 a0_21 a0_22 l0_23 l0_24 a1).bind fun bt436 => ((corebankref38_Move.f k a0_0 a0_1 a0_2 a0_3 a0_4 a0_5 a0_6 a0_7 a0_8 a0_9 a0_10 a0_11 a0_12 a0_13 a0_14 a0_15 a0_16 a0_17 a0_18 a0_19 a0_20 a0_21 a0_22 l0_23 l0_24 a1).bind fun bt468 => (if t432 = bt434.1 then (if t433 = bt434.2 then ((corebankref34_Same.f k bt436.1 bt436.2.1 bt436.2.2.1 bt436.2.2.2.1 bt436.2.2.2.2.1 bt436.2.2.2.2.2.1 bt436.2.2.2.2.2.2.1 bt436.2.2.2.2.2.2.2.1 bt436.2.2.2.2.2.2.2.2.1 bt436.2.2.2.2.2.2.2.2.2.1 bt436.2.2.2.2.2.2.2.2.2.2.1 bt436.2.2.2.2.2.2.2.2.2.2.2.1 bt436.2.2.2.2.2.2.2.2.2.2.2.2.1 bt436.2.2.2.2.2.2.2.2.2.2.2.2.2.1 bt436.2.2.2.2.2.2.2.2.2.2.2.2.2.2.1 bt436.2.2.2.2.2.2.2.2.2.2.2.2.2.2.2.1 bt436.2.2.2.2.2.2.2.2.2.2.2.2.2.2.2.2.1 bt436.2.2.2.2.2.2.2.2.2.2.2.2.2.2.2.2.2.1 bt436.2.2.2.2.2.2.2.2.2.2.2.2.2.2.2.2.2.2.1 bt436.2.2.2.2.2.2.2.2.2.2.2.2.2.2.2.2.2.2.2.1 bt436.2.2.2.2.2.2.2.2.2.2.2.2.2.2.2.2.2.2.2.2.1 bt436.2.2.2.2.2.2.2.2.2.2.2.2.2.2.2.2.2.2.2.2.2.1 bt436.2.2.2.2.2.2.2.2.2.2.2.2.2.2.2.2.2.2.2.2.2.2.1 bt436.2.2.2.2.2.2.2.2.2.2.2.2.2.2.2.2.2.2.2.2.2.2.2.1 bt436.2.2.2.2.2.2.2.2.2.2.2.2.2.2.2.2.2.2.2.2.2.2.2.2.1 bt468.1 bt468.2.1 bt468.2.2.1 bt468.2.2.2.1 bt468.2.2.2.2.1 bt468.2.2.2.2.2.1 bt468.2.2.2.2.2.2.1 bt468.2.2.2.2.2.2.2.1 bt468.2.2.2.2.2.2.2.2.1 bt468.2.2.2.2.2.2.2.2.2.1 bt468.2.2.2.2.2.2.2.2.2.2.1 bt468.2.2.2.2.2.2.2.2.2.2.2.1 bt468.2.2.2.2.2.2.2.2.2.2.2.2.1 bt468.2.2.2.2.2.2.2.2.2.2.2.2.2.1 bt468.2.2.2.2.2.2.2.2.2.2.2.2.2.2.1 bt468.2.2.2.2.2.2.2.2.2.2.2.2.2.2.2.1 bt468.2.2.2.2.2.2.2.2.2.2.2.2.2.2.2.2.1 bt468.2.2.2.2.2.2.2.2.2.2.2.2.2.2.2.2.2.1 bt468.2.2.2.2.2.2.2.2.2.2.2.2.2.2.2.2.2.2.1 bt468.2.2.2.2.2.2.2.2.2.2.2.2.2.2.2.2.2.2.2.1 bt468.2.2.2.2.2.2.2.2.2.2.2.2.2.2.2.2.2.2.2.2.1 bt468.2.2.2.2.2.2.2.2.2.2.2.2.2.2.2.2.2.2.2.2.2.1 bt468.2.2.2.2.2.2.2.2.2.2.2.2.2.2.2.2.2.2.2.2.2.2.1 bt468.2.2.2.2.2.2.2.2.2.2.2.2.2.2.2.2.2.2.2.2.2.2.2.1 bt468.2.2.2.2.2.2.2.2.2.2.2.2.2.2.2.2.2.2.2.2.2.2.2.2.1).bind fun t500 => (if t500 = true then (if bt436.2.2.2.2.2.2.2.2.2.2.2.2.2.2.2.2.2.2.2.2.2.2.2.2.2.1 = bt468.2.2.2.2.2.2.2.2.2.2.2.2.2.2.2.2.2.2.2.2.2.2.2.2.2.1 then (if bt436.2.2.2.2.2.2.2.2.2.2.2.2.2.2.2.2.2.2.2.2.2.2.2.2.2.2 = bt468.2.2.2.2.2.2.2.2.2.2.2.2.2.2.2.2.2.2.2.2.2.2.2.2.2.2 then ((corebanklaw38_Live.f k).bind fun t501 => (some t501)) else (some false)) else (some false)) else (some false))) else (some false)) else (some false))))) = some true := H
  have A10 := Aside0.mk A100
  clear A100
  replace H := Option.bind_eq_some_iff.mp H
  obtain ⟨⟨t434, t435⟩, A110, H⟩ := H
  replace H : ((provision_Move.f k a0_0 a0_1 a0_2 a0_3 a0_4 a0_5 a0_6 a0_7 a0_8 a0_9 a0_10 a0_11 a0_12 a0_13 a0_14 a0_15 a0_16 a0_17 a0_18 a0_19 a0_20 a0_21 a0_22 l0_23 l0_24 a1).bind fun bt436 => ((corebankref38_Move.f k a0_0 a0_1 a0_2 a0_3 a0_4 a0_5 a0_6 a0_7 a0_8 a0_9 a0_10 a0_11 a0_12 a0_13 a0_14 a0_15 a0_16 a0_17 a0_18 a0_19 a0_20 a0_21 a0_22 l0_23 l0_24 a1).bind fun bt468 => (if t432 = t434 then (if t433 = t435 then ((corebankref34_Same.f k bt436.1 bt436.2.1 bt436.2.2.1 bt436.2.2.2.1 bt436.2.2.2.2.1 bt436.2.2.2.2.2.1 bt436.2.2.2.2.2.2.1 bt436.2.2.2.2.2.2.2.1 bt436.2.2.2.2.2.2.2.2.1 bt436.2.2.2.2.2.2.2.2.2.1 bt436.2.2.2.2.2.2.2.2.2.2.1 bt436.2.2.2.2.2.2.2.2.2.2.2.1 bt436.2.2.2.2.2.2.2.2.2.2.2.2.1 bt436.2.2.2.2.2.2.2.2.2.2.2.2.2.1 bt436.2.2.2.2.2.2.2.2.2.2.2.2.2.2.1 bt436.2.2.2.2.2.2.2.2.2.2.2.2.2.2.2.1 bt436.2.2.2.2.2.2.2.2.2.2.2.2.2.2.2.2.1 bt436.2.2.2.2.2.2.2.2.2.2.2.2.2.2.2.2.2.1 bt436.2.2.2.2.2.2.2.2.2.2.2.2.2.2.2.2.2.2.1 bt436.2.2.2.2.2.2.2.2.2.2.2.2.2.2.2.2.2.2.2.1 bt436.2.2.2.2.2.2.2.2.2.2.2.2.2.2.2.2.2.2.2.2.1 bt436.2.2.2.2.2.2.2.2.2.2.2.2.2.2.2.2.2.2.2.2.2.1 bt436.2.2.2.2.2.2.2.2.2.2.2.2.2.2.2.2.2.2.2.2.2.2.1 bt436.2.2.2.2.2.2.2.2.2.2.2.2.2.2.2.2.2.2.2.2.2.2.2.1 bt436.2.2.2.2.2.2.2.2.2.2.2.2.2.2.2.2.2.2.2.2.2.2.2.2.1 bt468.1 bt468.2.1 bt468.2.2.1 bt468.2.2.2.1 bt468.2.2.2.2.1 bt468.2.2.2.2.2.1 bt468.2.2.2.2.2.2.1 bt468.2.2.2.2.2.2.2.1 bt468.2.2.2.2.2.2.2.2.1 bt468.2.2.2.2.2.2.2.2.2.1 bt468.2.2.2.2.2.2.2.2.2.2.1 bt468.2.2.2.2.2.2.2.2.2.2.2.1 bt468.2.2.2.2.2.2.2.2.2.2.2.2.1 bt468.2.2.2.2.2.2.2.2.2.2.2.2.2.1 bt468.2.2.2.2.2.2.2.2.2.2.2.2.2.2.1 bt468.2.2.2.2.2.2.2.2.2.2.2.2.2.2.2.1 bt468.2.2.2.2.2.2.2.2.2.2.2.2.2.2.2.2.1 bt468.2.2.2.2.2.2.2.2.2.2.2.2.2.2.2.2.2.1 bt468.2.2.2.2.2.2.2.2.2.2.2.2.2.2.2.2.2.2.1 bt468.2.2.2.2.2.2.2.2.2.2.2.2.2.2.2.2.2.2.2.1 bt468.2.2.2.2.2.2.2.2.2.2.2.2.2.2.2.2.2.2.2.2.1 bt468.2.2.2.2.2.2.2.2.2.2.2.2.2.2.2.2.2.2.2.2.2.1 bt468.2.2.2.2.2.2.2.2.2.2.2.2.2.2.2.2.2.2.2.2.2.2.1 bt468.2.2.2.2.2.2.2.2.2.2.2.2.2.2.2.2.2.2.2.2.2.2.2.1 bt468.2.2.2.2.2.2.2.2.2.2.2.2.2.2.2.2.2.2.2.2.2.2.2.2.1).bind fun t500 => (if t500 = true then (if bt436.2.2.2.2.2.2.2.2.2.2.2.2.2.2.2.2.2.2.2.2.2.2.2.2.2.1 = bt468.2.2.2.2.2.2.2.2.2.2.2.2.2.2.2.2.2.2.2.2.2.2.2.2.2.1 then (if bt436.2.2.2.2.2.2.2.2.2.2.2.2.2.2.2.2.2.2.2.2.2.2.2.2.2.2 = bt468.2.2.2.2.2.2.2.2.2.2.2.2.2.2.2.2.2.2.2.2.2.2.2.2.2.2 then ((corebanklaw38_Live.f k).bind fun t501 => (some t501)) else (some false)) else (some false)) else (some false))) else (some false)) else (some false)))) = some true := H
  have A11 := Aside0.mk A110
  clear A110
  replace H := Option.bind_eq_some_iff.mp H
  obtain ⟨⟨t436, t437, t438, t439, t440, t441, t442, t443, t444, t445, t446, t447, t448, t449, t450, t451, t452, t453, t454, t455, t456, t457, t458, t459, t462, t465, t466⟩, A120, H⟩ := H
  replace H : ((corebankref38_Move.f k a0_0 a0_1 a0_2 a0_3 a0_4 a0_5 a0_6 a0_7 a0_8 a0_9 a0_10 a0_11 a0_12 a0_13 a0_14 a0_15 a0_16 a0_17 a0_18 a0_19 a0_20 a0_21 a0_22 l0_23 l0_24 a1).bind fun bt468 => (if t432 = t434 then (if t433 = t435 then ((corebankref34_Same.f k t436 t437 t438 t439 t440 t441 t442 t443 t444 t445 t446 t447 t448 t449 t450 t451 t452 t453 t454 t455 t456 t457 t458 t459 t462 bt468.1 bt468.2.1 bt468.2.2.1 bt468.2.2.2.1 bt468.2.2.2.2.1 bt468.2.2.2.2.2.1 bt468.2.2.2.2.2.2.1 bt468.2.2.2.2.2.2.2.1 bt468.2.2.2.2.2.2.2.2.1 bt468.2.2.2.2.2.2.2.2.2.1 bt468.2.2.2.2.2.2.2.2.2.2.1 bt468.2.2.2.2.2.2.2.2.2.2.2.1 bt468.2.2.2.2.2.2.2.2.2.2.2.2.1 bt468.2.2.2.2.2.2.2.2.2.2.2.2.2.1 bt468.2.2.2.2.2.2.2.2.2.2.2.2.2.2.1 bt468.2.2.2.2.2.2.2.2.2.2.2.2.2.2.2.1 bt468.2.2.2.2.2.2.2.2.2.2.2.2.2.2.2.2.1 bt468.2.2.2.2.2.2.2.2.2.2.2.2.2.2.2.2.2.1 bt468.2.2.2.2.2.2.2.2.2.2.2.2.2.2.2.2.2.2.1 bt468.2.2.2.2.2.2.2.2.2.2.2.2.2.2.2.2.2.2.2.1 bt468.2.2.2.2.2.2.2.2.2.2.2.2.2.2.2.2.2.2.2.2.1 bt468.2.2.2.2.2.2.2.2.2.2.2.2.2.2.2.2.2.2.2.2.2.1 bt468.2.2.2.2.2.2.2.2.2.2.2.2.2.2.2.2.2.2.2.2.2.2.1 bt468.2.2.2.2.2.2.2.2.2.2.2.2.2.2.2.2.2.2.2.2.2.2.2.1 bt468.2.2.2.2.2.2.2.2.2.2.2.2.2.2.2.2.2.2.2.2.2.2.2.2.1).bind fun t500 => (if t500 = true then (if t465 = bt468.2.2.2.2.2.2.2.2.2.2.2.2.2.2.2.2.2.2.2.2.2.2.2.2.2.1 then (if t466 = bt468.2.2.2.2.2.2.2.2.2.2.2.2.2.2.2.2.2.2.2.2.2.2.2.2.2.2 then ((corebanklaw38_Live.f k).bind fun t501 => (some t501)) else (some false)) else (some false)) else (some false))) else (some false)) else (some false))) = some true := H
  have A12 := Aside0.mk A120
  clear A120
  replace H := Option.bind_eq_some_iff.mp H
  obtain ⟨⟨t468, t469, t470, t471, t472, t473, t474, t475, t476, t477, t478, t479, t480, t481, t482, t483, t484, t485, t486, t487, t488, t489, t490, t491, t494, t497, t498⟩, A130, H⟩ := H
  replace H : (if t432 = t434 then (if t433 = t435 then ((corebankref34_Same.f k t436 t437 t438 t439 t440 t441 t442 t443 t444 t445 t446 t447 t448 t449 t450 t451 t452 t453 t454 t455 t456 t457 t458 t459 t462 t468 t469 t470 t471 t472 t473 t474 t475 t476 t477 t478 t479 t480 t481 t482 t483 t484 t485 t486 t487 t488 t489 t490 t491 t494).bind fun t500 => (if t500 = true then (if t465 = t497 then (if t466 = t498 then ((corebanklaw38_Live.f k).bind fun t501 => (some t501)) else (some false)) else (some false)) else (some false))) else (some false)) else (some false)) = some true := H
  have A13 := Aside0.mk A130
  clear A130
  by_cases c14 : t432 = t434
  ·rw [if_pos c14] at H
   have c14b0 : (t432 == t434) = true := beq_iff_eq.mpr c14
   have c14b1 : (t432 != t434) = false := bne_eq_false_iff_eq.mpr c14
   clear c14
   by_cases c15 : t433 = t435
   ·rw [if_pos c15] at H
    have c15b0 : (t433 == t435) = true := beq_iff_eq.mpr c15
    have c15b1 : (t433 != t435) = false := bne_eq_false_iff_eq.mpr c15
    clear c15
    replace H := Option.bind_eq_some_iff.mp H
    obtain ⟨t500, A160, H⟩ := H
    replace H : (if t500 = true then (if t465 = t497 then (if t466 = t498 then ((corebanklaw38_Live.f k).bind fun t501 => (some t501)) else (some false)) else (some false)) else (some false)) = some true := H
    have A16 := Aside0.mk A160
    clear A160
    by_cases c17 : t500 = true
    ·subst c17
     have H1 : (if t465 = t497 then (if t466 = t498 then ((corebanklaw38_Live.f k).bind fun t501 => (some t501)) else (some false)) else (some false)) = some true := by rw [if_pos rfl] at H; exact H
     clear H
     have H := H1
     clear H1
     by_cases c18 : t465 = t497
     ·rw [if_pos c18] at H
      have c18b0 : (t465 == t497) = true := beq_iff_eq.mpr c18
      have c18b1 : (t465 != t497) = false := bne_eq_false_iff_eq.mpr c18
      clear c18
      by_cases c19 : t466 = t498
      ·rw [if_pos c19] at H
       have c19b0 : (t466 == t498) = true := beq_iff_eq.mpr c19
       have c19b1 : (t466 != t498) = false := bne_eq_false_iff_eq.mpr c19
       clear c19
       replace H := Option.bind_eq_some_iff.mp H
       obtain ⟨t501, A200, H⟩ := H
       replace H : (some t501) = some true := H
       have A20 := Aside0.mk A200
       clear A200
       have HL_ := Option.some.inj H
       go_enter Tryd.func4, Tryd.ntmps4
       go_wp2_with (first | ((with_reducible refine gate_load_ (t := 27) rfl ?_); refine ld_ (t := 27) Tryd.underlying27 rfl rfl rfl (by first | (with_reducible first | exact BK429.out | exact BK467.out | exact BK499.out) | ((repeat (first | (with_reducible first | refine blk_drewN ?_ _ | refine blk_drew ?_ | refine blk_alloc ?_ _) | refine blk_far ?_ NB429_467.out _ | refine blk_far ?_ NB429_499.out _ | refine blk_far ?_ NB467_429.out _ | refine blk_far ?_ NB467_499.out _ | refine blk_far ?_ NB499_429.out _ | refine blk_far ?_ NB499_467.out _ | refine blk_set ?_ _ _)); (with_reducible first | exact BK429.out | exact BK467.out | exact BK499.out))) rfl (by kernel_rfl) ?_) | ((with_reducible refine gate_load_ (t := 27) rfl ?_); refine ldg54_ (t := 27) Tryd.underlying27 rfl (by rfl) rfl (by first | (with_reducible first | exact BK429.out | exact BK467.out | exact BK499.out) | ((repeat (first | (with_reducible first | refine blk_drewN ?_ _ | refine blk_drew ?_ | refine blk_alloc ?_ _) | refine blk_far ?_ NB429_467.out _ | refine blk_far ?_ NB429_499.out _ | refine blk_far ?_ NB467_429.out _ | refine blk_far ?_ NB467_499.out _ | refine blk_far ?_ NB499_429.out _ | refine blk_far ?_ NB499_467.out _ | refine blk_set ?_ _ _)); (with_reducible first | exact BK429.out | exact BK467.out | exact BK499.out))) rfl (by kernel_rfl) ?_) | ((with_reducible refine gate_dst (N := 2) rfl ?_); refine be_ (N := 2) (cs := #[.int .i64 a0_0, .int .i64 a0_1, .int .i64 a0_2, .int .i64 a0_3, .int .i64 a0_4, .int .i64 a0_5, .int .i64 a0_6, .int .i64 a0_7, .int .i64 a0_8, .int .i64 a0_9, .int .i64 a0_10, .int .i64 a0_11, .int .i64 a0_12, .int .i64 a0_13, .int .i64 a0_14, .int .i64 a0_15, .int .i64 a0_16, .int .i64 a0_17, .int .i64 a0_18, .int .i64 a0_19, .int .i64 a0_20, .string a0_21, .string a0_22, .slice A0_23 l0_23.length c0_23, .slice A0_24 l0_24.length c0_24]) (t := 27) ?_; intro gb429 hg w21 hbox hb; have n0_ := Aside0.mk (below_step (qb_ HB.out) hb); have n1_ := Aside0.mk (hbox); have n2_ := Aside0.mk (bz_ hg (qb_ HB.out) : w.heap.size ≤ gb429); have n3_ := n2_; clear HB; have HB := n0_; have BK429 := n1_; have GW429 := n2_; have GE429 := n3_; clear n0_ n1_ n2_ n3_; clear hb hbox hg; obtain ⟨Z22_0, Z22_1, Z22_2, Z22_3, Z22_4, Z22_5, Z22_6, Z22_7, Z22_8, Z22_9, Z22_10, Z22_11, Z22_12, Z22_13, Z22_14, Z22_15, Z22_16, Z22_17, Z22_18, Z22_19, Z22_20, Z22_21, Z22_22, Z22_23, Z22_24, Y22_0, Y22_1, Y22_2, Y22_3, Y22_4, Y22_5, Y22_6, Y22_7, Y22_8, Y22_9, Y22_10, Y22_11, Y22_12, Y22_13, Y22_14, Y22_15, Y22_16, Y22_17, Y22_18, Y22_19, Y22_20, Y22_21, Y22_22, Y22_23, Y22_24⟩ := cz25_ BK429.out) | ((with_reducible refine gate_callee (f := 8) rfl ?_); refine goesL_ (some 16) rfl rfl Tryd.func8 (by kernel_rfl) rfl #[.agg #[.int .i64 a0_0, .int .i64 a0_1, .int .i64 a0_2, .int .i64 a0_3, .int .i64 a0_4, .int .i64 a0_5, .int .i64 a0_6, .int .i64 a0_7, .int .i64 a0_8, .int .i64 a0_9, .int .i64 a0_10, .int .i64 a0_11, .int .i64 a0_12, .int .i64 a0_13, .int .i64 a0_14, .int .i64 a0_15, .int .i64 a0_16, .int .i64 a0_17, .int .i64 a0_18, .int .i64 a0_19, .int .i64 a0_20, .string a0_21, .string a0_22, .slice A0_23 l0_23.length c0_23, .slice A0_24 l0_24.length c0_24]] rfl ql_ ?_; (with_reducible refine (corebankref38_Great.calls k a0_0 a0_1 a0_2 a0_3 a0_4 a0_5 a0_6 a0_7 a0_8 a0_9 a0_10 a0_11 a0_12 a0_13 a0_14 a0_15 a0_16 a0_17 a0_18 a0_19 a0_20 a0_21 a0_22 _ _ l0_23 _ _ l0_24 false _ ?side1 ?side2 ?side3 ?side4 A3.out).mono ?_); (case side1 => repeat (first | exact (Kd.C_below HR0_23.out HB.out) | (with_reducible refine Kd.C_alloc ?_ _) | (with_reducible refine Kd.C_drewN ?_ _) | (with_reducible refine Kd.C_drew ?_))); (case side2 => exact HC0_23.out); (case side3 => repeat (first | exact (Kd.C_below HR0_24.out HB.out) | (with_reducible refine Kd.C_alloc ?_ _) | (with_reducible refine Kd.C_drewN ?_ _) | (with_reducible refine Kd.C_drew ?_))); (case side4 => exact HC0_24.out); rintro e w23 ⟨rfl, hb⟩; refine ⟨_, rfl, ?_⟩; have n0_ := Aside0.mk (blk_below (qk_ BK429.out) hb); have n1_ := Aside0.mk (below_step (qb1_ GE429.out HB.out) hb); clear BK429; clear HB; have BK429 := n0_; have HB := n1_; clear n0_ n1_; (try clear hb); (try clear hb2); (try clear hk); (try clear hi); obtain ⟨Z24_0, Z24_1, Z24_2, Z24_3, Z24_4, Z24_5, Z24_6, Z24_7, Z24_8, Z24_9, Z24_10, Z24_11, Z24_12, Z24_13, Z24_14, Z24_15, Z24_16, Z24_17, Z24_18, Z24_19, Z24_20, Z24_21, Z24_22, Z24_23, Z24_24, Y24_0, Y24_1, Y24_2, Y24_3, Y24_4, Y24_5, Y24_6, Y24_7, Y24_8, Y24_9, Y24_10, Y24_11, Y24_12, Y24_13, Y24_14, Y24_15, Y24_16, Y24_17, Y24_18, Y24_19, Y24_20, Y24_21, Y24_22, Y24_23, Y24_24⟩ := cz25_ BK429.out) | ((with_reducible refine gate_callee (f := 14) rfl ?_); refine goesL_ (some 21) rfl rfl Tryd.func14 (by kernel_rfl) rfl #[.agg #[.int .i64 a0_0, .int .i64 a0_1, .int .i64 a0_2, .int .i64 a0_3, .int .i64 a0_4, .int .i64 a0_5, .int .i64 a0_6, .int .i64 a0_7, .int .i64 a0_8, .int .i64 a0_9, .int .i64 a0_10, .int .i64 a0_11, .int .i64 a0_12, .int .i64 a0_13, .int .i64 a0_14, .int .i64 a0_15, .int .i64 a0_16, .int .i64 a0_17, .int .i64 a0_18, .int .i64 a0_19, .int .i64 a0_20, .string a0_21, .string a0_22, .slice A0_23 l0_23.length c0_23, .slice A0_24 l0_24.length c0_24], .int .i64 a1] rfl ql_ ?_; (with_reducible refine (provision_Expected.calls (hG := by first | exact hG | (with_reducible exact GW.below hG (qb1_ GE429.out HB.out)) | (with_reducible repeat (first | exact hG | apply GW.drewN | apply GW.drew))) k a0_0 a0_1 a0_2 a0_3 a0_4 a0_5 a0_6 a0_7 a0_8 a0_9 a0_10 a0_11 a0_12 a0_13 a0_14 a0_15 a0_16 a0_17 a0_18 a0_19 a0_20 a0_21 a0_22 _ _ l0_23 _ _ l0_24 a1 t432 t433 _ ?side1 ?side2 ?side3 ?side4 A10.out).mono ?_); (case side1 => repeat (first | exact (Kd.C_below HR0_23.out HB.out) | (with_reducible refine Kd.C_alloc ?_ _) | (with_reducible refine Kd.C_drewN ?_ _) | (with_reducible refine Kd.C_drew ?_))); (case side2 => exact HC0_23.out); (case side3 => repeat (first | exact (Kd.C_below HR0_24.out HB.out) | (with_reducible refine Kd.C_alloc ?_ _) | (with_reducible refine Kd.C_drewN ?_ _) | (with_reducible refine Kd.C_drew ?_))); (case side4 => exact HC0_24.out); rintro e w25 ⟨rfl, hb⟩; refine ⟨_, rfl, ?_⟩; have n0_ := Aside0.mk (blk_below (qk_ BK429.out) hb); have n1_ := Aside0.mk (below_step (qb1_ GE429.out HB.out) hb); clear BK429; clear HB; have BK429 := n0_; have HB := n1_; clear n0_ n1_; (try clear hb); (try clear hb2); (try clear hk); (try clear hi); obtain ⟨Z26_0, Z26_1, Z26_2, Z26_3, Z26_4, Z26_5, Z26_6, Z26_7, Z26_8, Z26_9, Z26_10, Z26_11, Z26_12, Z26_13, Z26_14, Z26_15, Z26_16, Z26_17, Z26_18, Z26_19, Z26_20, Z26_21, Z26_22, Z26_23, Z26_24, Y26_0, Y26_1, Y26_2, Y26_3, Y26_4, Y26_5, Y26_6, Y26_7, Y26_8, Y26_9, Y26_10, Y26_11, Y26_12, Y26_13, Y26_14, Y26_15, Y26_16, Y26_17, Y26_18, Y26_19, Y26_20, Y26_21, Y26_22, Y26_23, Y26_24⟩ := cz25_ BK429.out) | ((with_reducible refine gate_callee (f := 15) rfl ?_); refine goesL_ (some 27) rfl rfl Tryd.func15 (by kernel_rfl) rfl #[.agg #[.int .i64 a0_0, .int .i64 a0_1, .int .i64 a0_2, .int .i64 a0_3, .int .i64 a0_4, .int .i64 a0_5, .int .i64 a0_6, .int .i64 a0_7, .int .i64 a0_8, .int .i64 a0_9, .int .i64 a0_10, .int .i64 a0_11, .int .i64 a0_12, .int .i64 a0_13, .int .i64 a0_14, .int .i64 a0_15, .int .i64 a0_16, .int .i64 a0_17, .int .i64 a0_18, .int .i64 a0_19, .int .i64 a0_20, .string a0_21, .string a0_22, .slice A0_23 l0_23.length c0_23, .slice A0_24 l0_24.length c0_24], .int .i64 a1] rfl ql_ ?_; (with_reducible refine (corebankref38_Expected.calls k a0_0 a0_1 a0_2 a0_3 a0_4 a0_5 a0_6 a0_7 a0_8 a0_9 a0_10 a0_11 a0_12 a0_13 a0_14 a0_15 a0_16 a0_17 a0_18 a0_19 a0_20 a0_21 a0_22 _ _ l0_23 _ _ l0_24 a1 t434 t435 _ ?side1 ?side2 ?side3 ?side4 A11.out).mono ?_); (case side1 => repeat (first | exact (Kd.C_below HR0_23.out HB.out) | (with_reducible refine Kd.C_alloc ?_ _) | (with_reducible refine Kd.C_drewN ?_ _) | (with_reducible refine Kd.C_drew ?_))); (case side2 => exact HC0_23.out); (case side3 => repeat (first | exact (Kd.C_below HR0_24.out HB.out) | (with_reducible refine Kd.C_alloc ?_ _) | (with_reducible refine Kd.C_drewN ?_ _) | (with_reducible refine Kd.C_drew ?_))); (case side4 => exact HC0_24.out); rintro e w27 ⟨rfl, hb⟩; refine ⟨_, rfl, ?_⟩; have n0_ := Aside0.mk (blk_below (qk_ BK429.out) hb); have n1_ := Aside0.mk (below_step (qb1_ GE429.out HB.out) hb); clear BK429; clear HB; have BK429 := n0_; have HB := n1_; clear n0_ n1_; (try clear hb); (try clear hb2); (try clear hk); (try clear hi); obtain ⟨Z28_0, Z28_1, Z28_2, Z28_3, Z28_4, Z28_5, Z28_6, Z28_7, Z28_8, Z28_9, Z28_10, Z28_11, Z28_12, Z28_13, Z28_14, Z28_15, Z28_16, Z28_17, Z28_18, Z28_19, Z28_20, Z28_21, Z28_22, Z28_23, Z28_24, Y28_0, Y28_1, Y28_2, Y28_3, Y28_4, Y28_5, Y28_6, Y28_7, Y28_8, Y28_9, Y28_10, Y28_11, Y28_12, Y28_13, Y28_14, Y28_15, Y28_16, Y28_17, Y28_18, Y28_19, Y28_20, Y28_21, Y28_22, Y28_23, Y28_24⟩ := cz25_ BK429.out) | ((with_reducible refine gate_callee (f := 16) rfl ?_); refine goesL_ (some 33) rfl rfl Tryd.func16 (by kernel_rfl) rfl #[.agg #[.int .i64 a0_0, .int .i64 a0_1, .int .i64 a0_2, .int .i64 a0_3, .int .i64 a0_4, .int .i64 a0_5, .int .i64 a0_6, .int .i64 a0_7, .int .i64 a0_8, .int .i64 a0_9, .int .i64 a0_10, .int .i64 a0_11, .int .i64 a0_12, .int .i64 a0_13, .int .i64 a0_14, .int .i64 a0_15, .int .i64 a0_16, .int .i64 a0_17, .int .i64 a0_18, .int .i64 a0_19, .int .i64 a0_20, .string a0_21, .string a0_22, .slice A0_23 l0_23.length c0_23, .slice A0_24 l0_24.length c0_24], .int .i64 a1] rfl ql_ ?_; (with_reducible refine (provision_Move.calls (hG := by first | exact hG | (with_reducible exact GW.below hG (qb1_ GE429.out HB.out)) | (with_reducible repeat (first | exact hG | apply GW.drewN | apply GW.drew))) k a0_0 a0_1 a0_2 a0_3 a0_4 a0_5 a0_6 a0_7 a0_8 a0_9 a0_10 a0_11 a0_12 a0_13 a0_14 a0_15 a0_16 a0_17 a0_18 a0_19 a0_20 a0_21 a0_22 _ _ l0_23 _ _ l0_24 a1 t436 t437 t438 t439 t440 t441 t442 t443 t444 t445 t446 t447 t448 t449 t450 t451 t452 t453 t454 t455 t456 t457 t458 t459 t462 t465 t466 _ ?side1 ?side2 ?side3 ?side4 A12.out).mono ?_); (case side1 => repeat (first | exact (Kd.C_below HR0_23.out HB.out) | (with_reducible refine Kd.C_alloc ?_ _) | (with_reducible refine Kd.C_drewN ?_ _) | (with_reducible refine Kd.C_drew ?_))); (case side2 => exact HC0_23.out); (case side3 => repeat (first | exact (Kd.C_below HR0_24.out HB.out) | (with_reducible refine Kd.C_alloc ?_ _) | (with_reducible refine Kd.C_drewN ?_ _) | (with_reducible refine Kd.C_drew ?_))); (case side4 => exact HC0_24.out); rintro e w29 ⟨v460, v463, rfl, ho0, ho1, hb⟩; refine ⟨_, rfl, ?_⟩; have n0_ := Aside0.mk (Kd.R_lower ho0 (below_size (qb1_ GE429.out HB.out))); have n1_ := Aside0.mk (Kd.R_lower ho1 (below_size (qb1_ GE429.out HB.out))); have n2_ := Aside0.mk (blk_below (qk_ BK429.out) hb); have n3_ := Aside0.mk (below_step (qb1_ GE429.out HB.out) hb); clear BK429; clear HB; have HO461 := n0_; have HO464 := n1_; have BK429 := n2_; have HB := n3_; clear n0_ n1_ n2_ n3_; (try clear hb); (try clear hb2); (try clear hk); (try clear hi); (try clear ho0); (try clear ho1)) | ((with_reducible refine gate_dst (N := 9) rfl ?_); refine be_ (N := 9) (cs := #[.int .i64 0, .int .i64 0, .int .i64 0, .int .i64 0, .int .i64 0, .int .i64 0, .int .i64 0, .int .i64 0, .int .i64 0, .int .i64 0, .int .i64 0, .int .i64 0, .int .i64 0, .int .i64 0, .int .i64 0, .int .i64 0, .int .i64 0, .int .i64 0, .int .i64 0, .int .i64 0, .int .i64 0, .string (⟨#[]⟩ : ByteArray), .string (⟨#[]⟩ : ByteArray), .slice none 0 0, .slice none 0 0]) (t := 27) ?_; intro gb467 hg w30 hbox hb; have n0_ := Aside0.mk (Kd.R_below (by (with_reducible repeat (first | apply Kd.R_alloc | apply Kd.R_drewN | apply Kd.R_drew)); exact HO461.out) hb); have n1_ := Aside0.mk (Kd.R_below (by (with_reducible repeat (first | apply Kd.R_alloc | apply Kd.R_drewN | apply Kd.R_drew)); exact HO464.out) hb); have n2_ := Aside0.mk (blk_below (qk_ BK429.out) hb); have n3_ := Aside0.mk (below_step (qb1_ GE429.out HB.out) hb); have n4_ := Aside0.mk (hbox); have n5_ := Aside0.mk (bz_ hg (qb1_ GE429.out HB.out) : w.heap.size ≤ gb467); have n6_ := n5_; have n7_ := Aside0.mk (nl_ hg (qk_ BK429.out) : gb429 ≠ gb467); have n8_ := Aside0.mk (ng_ hg (qk_ BK429.out) : gb467 ≠ gb429); clear HO461; clear HO464; clear BK429; clear HB; have HO461 := n0_; have HO464 := n1_; have BK429 := n2_; have HB := n3_; have BK467 := n4_; have GW467 := n5_; have GE467 := n6_; have NB429_467 := n7_; have NB467_429 := n8_; clear n0_ n1_ n2_ n3_ n4_ n5_ n6_ n7_ n8_; clear hb hbox hg; have hnb31 := NB467_429.out; have hnc31 := NB429_467.out; obtain ⟨Z32_0, Z32_1, Z32_2, Z32_3, Z32_4, Z32_5, Z32_6, Z32_7, Z32_8, Z32_9, Z32_10, Z32_11, Z32_12, Z32_13, Z32_14, Z32_15, Z32_16, Z32_17, Z32_18, Z32_19, Z32_20, Z32_21, Z32_22, Z32_23, Z32_24, Y32_0, Y32_1, Y32_2, Y32_3, Y32_4, Y32_5, Y32_6, Y32_7, Y32_8, Y32_9, Y32_10, Y32_11, Y32_12, Y32_13, Y32_14, Y32_15, Y32_16, Y32_17, Y32_18, Y32_19, Y32_20, Y32_21, Y32_22, Y32_23, Y32_24⟩ := cz25_ BK467.out; obtain ⟨Ao33, co33, eo33⟩ := Kd.R_slice HO461.out; subst eo33; obtain ⟨Ao34, co34, eo34⟩ := Kd.R_slice HO464.out; subst eo34) | ((with_reducible refine gate_store (t := 27) (p := 9) rfl ?_); refine st54_ (g := gb467) (t := 27) (old := ?rop54_0) #[.int .i64 t436, .int .i64 t437, .int .i64 t438, .int .i64 t439, .int .i64 t440, .int .i64 t441, .int .i64 t442, .int .i64 t443, .int .i64 t444, .int .i64 t445, .int .i64 t446, .int .i64 t447, .int .i64 t448, .int .i64 t449, .int .i64 t450, .int .i64 t451, .int .i64 t452, .int .i64 t453, .int .i64 t454, .int .i64 t455, .int .i64 t456, .string t457, .string t458, .slice Ao33 t459.length co33, .slice Ao34 t462.length co34] rfl rfl rfl rfl ?rvp54_0 ?rbp54_0 ?rip54_0 ?rsp54_0 ?rcp54_0 ?_; (case rvp54_0 => rfl); (case rbp54_0 => first | exact BK467.out | ((repeat (first | (with_reducible first | refine blk_drewN ?_ _ | refine blk_drew ?_ | refine blk_alloc ?_ _) | refine blk_far ?_ NB467_429.out _ | refine blk_far ?_ NB467_499.out _)); (with_reducible exact BK467.out))); (case rip54_0 => kernel_rfl); (case rsp54_0 => rfl); (case rcp54_0 => rfl); intro w35 hnew_ hoth_ hbel_; have n0_ : Aside0 (Kd.R k54 54 w35 w.heap.size (fun _ => True) (.slice Ao33 t459.length co33) t459) := ⟨(by exact (by (with_reducible repeat (first | apply Kd.R_alloc | apply Kd.R_drewN | apply Kd.R_drew)); exact Kd.R_mono (Kd.R_move (Kd.R_types HO461.out BK467.out (by decide)) (fun k hk => hoth_ k (hk.2))) (fun _ hk => trivial)))⟩; have n1_ : Aside0 (Kd.R k50 50 w35 w.heap.size (fun _ => True) (.slice Ao34 t462.length co34) t462) := ⟨(by exact (by (with_reducible repeat (first | apply Kd.R_alloc | apply Kd.R_drewN | apply Kd.R_drew)); exact Kd.R_mono (Kd.R_move (Kd.R_types HO464.out BK467.out (by decide)) (fun k hk => hoth_ k (hk.2))) (fun _ hk => trivial)))⟩; have n2_ : Aside0 (w35.heap[gb429]? = some (.cells #[.int .i64 a0_0, .int .i64 a0_1, .int .i64 a0_2, .int .i64 a0_3, .int .i64 a0_4, .int .i64 a0_5, .int .i64 a0_6, .int .i64 a0_7, .int .i64 a0_8, .int .i64 a0_9, .int .i64 a0_10, .int .i64 a0_11, .int .i64 a0_12, .int .i64 a0_13, .int .i64 a0_14, .int .i64 a0_15, .int .i64 a0_16, .int .i64 a0_17, .int .i64 a0_18, .int .i64 a0_19, .int .i64 a0_20, .string a0_21, .string a0_22, .slice A0_23 l0_23.length c0_23, .slice A0_24 l0_24.length c0_24] 27 (0, 0))) := ⟨(hoth_ _ NB429_467.out).trans (by exact (qk_ BK429.out))⟩; have n3_ : Aside0 (w35.heap[gb467]? = some (.cells #[.int .i64 t436, .int .i64 t437, .int .i64 t438, .int .i64 t439, .int .i64 t440, .int .i64 t441, .int .i64 t442, .int .i64 t443, .int .i64 t444, .int .i64 t445, .int .i64 t446, .int .i64 t447, .int .i64 t448, .int .i64 t449, .int .i64 t450, .int .i64 t451, .int .i64 t452, .int .i64 t453, .int .i64 t454, .int .i64 t455, .int .i64 t456, .string t457, .string t458, .slice Ao33 t459.length co33, .slice Ao34 t462.length co34] 27 (0, 0))) := ⟨hnew_⟩; have n4_ : Aside0 (Below w.heap.size w w35) := ⟨hbel_ _ _ (qb2_ GE429.out GE467.out HB.out) GE467.out⟩; clear hnew_ hoth_ hbel_; clear HO461; clear HO464; clear BK429; clear BK467; clear HB; have HO461 := n0_; have HO464 := n1_; have BK429 := n2_; have BK467 := n3_; have HB := n4_; clear n0_ n1_ n2_ n3_ n4_; obtain ⟨Z36_0, Z36_1, Z36_2, Z36_3, Z36_4, Z36_5, Z36_6, Z36_7, Z36_8, Z36_9, Z36_10, Z36_11, Z36_12, Z36_13, Z36_14, Z36_15, Z36_16, Z36_17, Z36_18, Z36_19, Z36_20, Z36_21, Z36_22, Z36_23, Z36_24, Y36_0, Y36_1, Y36_2, Y36_3, Y36_4, Y36_5, Y36_6, Y36_7, Y36_8, Y36_9, Y36_10, Y36_11, Y36_12, Y36_13, Y36_14, Y36_15, Y36_16, Y36_17, Y36_18, Y36_19, Y36_20, Y36_21, Y36_22, Y36_23, Y36_24⟩ := cz25_ BK429.out) | ((with_reducible refine gate_callee (f := 17) rfl ?_); refine goesL_ (some 40) rfl rfl Tryd.func17 (by kernel_rfl) rfl #[.agg #[.int .i64 a0_0, .int .i64 a0_1, .int .i64 a0_2, .int .i64 a0_3, .int .i64 a0_4, .int .i64 a0_5, .int .i64 a0_6, .int .i64 a0_7, .int .i64 a0_8, .int .i64 a0_9, .int .i64 a0_10, .int .i64 a0_11, .int .i64 a0_12, .int .i64 a0_13, .int .i64 a0_14, .int .i64 a0_15, .int .i64 a0_16, .int .i64 a0_17, .int .i64 a0_18, .int .i64 a0_19, .int .i64 a0_20, .string a0_21, .string a0_22, .slice A0_23 l0_23.length c0_23, .slice A0_24 l0_24.length c0_24], .int .i64 a1] rfl ql_ ?_; (with_reducible refine (corebankref38_Move.calls k a0_0 a0_1 a0_2 a0_3 a0_4 a0_5 a0_6 a0_7 a0_8 a0_9 a0_10 a0_11 a0_12 a0_13 a0_14 a0_15 a0_16 a0_17 a0_18 a0_19 a0_20 a0_21 a0_22 (fun k_ => k_ < w.heap.size) _ _ l0_23 (fun k_ => k_ < w.heap.size) _ _ l0_24 a1 t468 t469 t470 t471 t472 t473 t474 t475 t476 t477 t478 t479 t480 t481 t482 t483 t484 t485 t486 t487 t488 t489 t490 t491 t494 t497 t498 _ ?side1 ?side2 A13.out).mono ?_); (case side1 => exact Kd.V_mk HC0_23.out (Kd.F_below (Kd.C_F k54_heap HR0_23.out) (qb2_ GE429.out GE467.out HB.out))); (case side2 => exact Kd.V_mk HC0_24.out (Kd.F_below (Kd.C_F k50_heap HR0_24.out) (qb2_ GE429.out GE467.out HB.out))); rintro e w37 ⟨v492, v495, rfl, ho0, ho1, hb⟩; refine ⟨_, rfl, ?_⟩; have n0_ := Aside0.mk (Kd.R_below (by (with_reducible repeat (first | apply Kd.R_alloc | apply Kd.R_drewN | apply Kd.R_drew)); exact HO461.out) hb); have n1_ := Aside0.mk (Kd.R_below (by (with_reducible repeat (first | apply Kd.R_alloc | apply Kd.R_drewN | apply Kd.R_drew)); exact HO464.out) hb); have n2_ := Aside0.mk (Kd.V_lower (Kd.V_mono (ok' := fun k_ => some k_ ≠ (.slice Ao33 t459.length co33 : Value).ownBlock ∧ some k_ ≠ (.slice Ao34 t462.length co34 : Value).ownBlock ∧ k_ ≠ gb429 ∧ k_ ≠ gb467) ho0 (fun k_ hk_ => ⟨Or.elim hk_ (fun hs_ => Or.elim hs_ (fun hs_ => fun e_ => Nat.not_le.2 hs_ (Kd.R_base HO461.out k_ e_.symm)) (fun hs_ => fun e_ => Nat.not_le.2 hs_ (Kd.R_base HO461.out k_ e_.symm))) (fun hn_ => (Kd.fresh' (Kd.R_lt (by (with_reducible repeat (first | apply Kd.R_alloc | apply Kd.R_drewN | apply Kd.R_drew)); exact HO461.out)) k_ hn_)), Or.elim hk_ (fun hs_ => Or.elim hs_ (fun hs_ => fun e_ => Nat.not_le.2 hs_ (Kd.R_base HO464.out k_ e_.symm)) (fun hs_ => fun e_ => Nat.not_le.2 hs_ (Kd.R_base HO464.out k_ e_.symm))) (fun hn_ => (Kd.fresh' (Kd.R_lt (by (with_reducible repeat (first | apply Kd.R_alloc | apply Kd.R_drewN | apply Kd.R_drew)); exact HO464.out)) k_ hn_)), Or.elim hk_ (fun hs_ => Or.elim hs_ (fun hs_ => fun e_ => Nat.not_le.2 hs_ (by rw [e_]; exact GW429.out)) (fun hs_ => fun e_ => Nat.not_le.2 hs_ (by rw [e_]; exact GW429.out))) (fun hn_ => (Kd.freshB (g := gb429) (o := .cells #[.int .i64 a0_0, .int .i64 a0_1, .int .i64 a0_2, .int .i64 a0_3, .int .i64 a0_4, .int .i64 a0_5, .int .i64 a0_6, .int .i64 a0_7, .int .i64 a0_8, .int .i64 a0_9, .int .i64 a0_10, .int .i64 a0_11, .int .i64 a0_12, .int .i64 a0_13, .int .i64 a0_14, .int .i64 a0_15, .int .i64 a0_16, .int .i64 a0_17, .int .i64 a0_18, .int .i64 a0_19, .int .i64 a0_20, .string a0_21, .string a0_22, .slice A0_23 l0_23.length c0_23, .slice A0_24 l0_24.length c0_24] 27 (0, 0)) (qk_ BK429.out) k_ hn_)), Or.elim hk_ (fun hs_ => Or.elim hs_ (fun hs_ => fun e_ => Nat.not_le.2 hs_ (by rw [e_]; exact GW467.out)) (fun hs_ => fun e_ => Nat.not_le.2 hs_ (by rw [e_]; exact GW467.out))) (fun hn_ => (Kd.freshB (g := gb467) (o := .cells #[.int .i64 t436, .int .i64 t437, .int .i64 t438, .int .i64 t439, .int .i64 t440, .int .i64 t441, .int .i64 t442, .int .i64 t443, .int .i64 t444, .int .i64 t445, .int .i64 t446, .int .i64 t447, .int .i64 t448, .int .i64 t449, .int .i64 t450, .int .i64 t451, .int .i64 t452, .int .i64 t453, .int .i64 t454, .int .i64 t455, .int .i64 t456, .string t457, .string t458, .slice Ao33 t459.length co33, .slice Ao34 t462.length co34] 27 (0, 0)) (qk_ BK467.out) k_ hn_))⟩)) (below_size (qb2_ GE429.out GE467.out HB.out))); have n3_ := Aside0.mk (Kd.V_lower (Kd.V_mono (ok' := fun k_ => some k_ ≠ (.slice Ao33 t459.length co33 : Value).ownBlock ∧ some k_ ≠ (.slice Ao34 t462.length co34 : Value).ownBlock ∧ k_ ≠ gb429 ∧ k_ ≠ gb467) ho1 (fun k_ hk_ => ⟨Or.elim hk_ (fun hs_ => Or.elim hs_ (fun hs_ => fun e_ => Nat.not_le.2 hs_ (Kd.R_base HO461.out k_ e_.symm)) (fun hs_ => fun e_ => Nat.not_le.2 hs_ (Kd.R_base HO461.out k_ e_.symm))) (fun hn_ => (Kd.fresh' (Kd.R_lt (by (with_reducible repeat (first | apply Kd.R_alloc | apply Kd.R_drewN | apply Kd.R_drew)); exact HO461.out)) k_ hn_)), Or.elim hk_ (fun hs_ => Or.elim hs_ (fun hs_ => fun e_ => Nat.not_le.2 hs_ (Kd.R_base HO464.out k_ e_.symm)) (fun hs_ => fun e_ => Nat.not_le.2 hs_ (Kd.R_base HO464.out k_ e_.symm))) (fun hn_ => (Kd.fresh' (Kd.R_lt (by (with_reducible repeat (first | apply Kd.R_alloc | apply Kd.R_drewN | apply Kd.R_drew)); exact HO464.out)) k_ hn_)), Or.elim hk_ (fun hs_ => Or.elim hs_ (fun hs_ => fun e_ => Nat.not_le.2 hs_ (by rw [e_]; exact GW429.out)) (fun hs_ => fun e_ => Nat.not_le.2 hs_ (by rw [e_]; exact GW429.out))) (fun hn_ => (Kd.freshB (g := gb429) (o := .cells #[.int .i64 a0_0, .int .i64 a0_1, .int .i64 a0_2, .int .i64 a0_3, .int .i64 a0_4, .int .i64 a0_5, .int .i64 a0_6, .int .i64 a0_7, .int .i64 a0_8, .int .i64 a0_9, .int .i64 a0_10, .int .i64 a0_11, .int .i64 a0_12, .int .i64 a0_13, .int .i64 a0_14, .int .i64 a0_15, .int .i64 a0_16, .int .i64 a0_17, .int .i64 a0_18, .int .i64 a0_19, .int .i64 a0_20, .string a0_21, .string a0_22, .slice A0_23 l0_23.length c0_23, .slice A0_24 l0_24.length c0_24] 27 (0, 0)) (qk_ BK429.out) k_ hn_)), Or.elim hk_ (fun hs_ => Or.elim hs_ (fun hs_ => fun e_ => Nat.not_le.2 hs_ (by rw [e_]; exact GW467.out)) (fun hs_ => fun e_ => Nat.not_le.2 hs_ (by rw [e_]; exact GW467.out))) (fun hn_ => (Kd.freshB (g := gb467) (o := .cells #[.int .i64 t436, .int .i64 t437, .int .i64 t438, .int .i64 t439, .int .i64 t440, .int .i64 t441, .int .i64 t442, .int .i64 t443, .int .i64 t444, .int .i64 t445, .int .i64 t446, .int .i64 t447, .int .i64 t448, .int .i64 t449, .int .i64 t450, .int .i64 t451, .int .i64 t452, .int .i64 t453, .int .i64 t454, .int .i64 t455, .int .i64 t456, .string t457, .string t458, .slice Ao33 t459.length co33, .slice Ao34 t462.length co34] 27 (0, 0)) (qk_ BK467.out) k_ hn_))⟩)) (below_size (qb2_ GE429.out GE467.out HB.out))); have n4_ := Aside0.mk (blk_below (qk_ BK429.out) hb); have n5_ := Aside0.mk (blk_below (qk_ BK467.out) hb); have n6_ := Aside0.mk (below_step (qb2_ GE429.out GE467.out HB.out) hb); clear HO461; clear HO464; clear BK429; clear BK467; clear HB; have HO461 := n0_; have HO464 := n1_; have HO493 := n2_; have HO496 := n3_; have BK429 := n4_; have BK467 := n5_; have HB := n6_; clear n0_ n1_ n2_ n3_ n4_ n5_ n6_; (try clear hb); (try clear hb2); (try clear hk); (try clear hi); (try clear ho0); (try clear ho1)) | ((with_reducible refine gate_dst (N := 12) rfl ?_); refine be_ (N := 12) (cs := #[.int .i64 0, .int .i64 0, .int .i64 0, .int .i64 0, .int .i64 0, .int .i64 0, .int .i64 0, .int .i64 0, .int .i64 0, .int .i64 0, .int .i64 0, .int .i64 0, .int .i64 0, .int .i64 0, .int .i64 0, .int .i64 0, .int .i64 0, .int .i64 0, .int .i64 0, .int .i64 0, .int .i64 0, .string (⟨#[]⟩ : ByteArray), .string (⟨#[]⟩ : ByteArray), .slice none 0 0, .slice none 0 0]) (t := 27) ?_; intro gb499 hg w38 hbox hb; have n0_ := Aside0.mk (Kd.R_below (by (with_reducible repeat (first | apply Kd.R_alloc | apply Kd.R_drewN | apply Kd.R_drew)); exact HO461.out) hb); have n1_ := Aside0.mk (Kd.R_below (by (with_reducible repeat (first | apply Kd.R_alloc | apply Kd.R_drewN | apply Kd.R_drew)); exact HO464.out) hb); have n2_ := Aside0.mk (Kd.V_below (Kd.V_elderB (by (with_reducible repeat (first | apply Kd.V_alloc | apply Kd.V_drewN | apply Kd.V_drew)); exact HO493.out) gb499 (Nat.le_of_eq hg.symm)) hb); have n3_ := Aside0.mk (Kd.V_below (Kd.V_elderB (by (with_reducible repeat (first | apply Kd.V_alloc | apply Kd.V_drewN | apply Kd.V_drew)); exact HO496.out) gb499 (Nat.le_of_eq hg.symm)) hb); have n4_ := Aside0.mk (blk_below (qk_ BK429.out) hb); have n5_ := Aside0.mk (blk_below (qk_ BK467.out) hb); have n6_ := Aside0.mk (below_step (qb2_ GE429.out GE467.out HB.out) hb); have n7_ := Aside0.mk (hbox); have n8_ := Aside0.mk (bz_ hg (qb2_ GE429.out GE467.out HB.out) : w.heap.size ≤ gb499); have n9_ := n8_; have n10_ := Aside0.mk (nl_ hg (qk_ BK429.out) : gb429 ≠ gb499); have n11_ := Aside0.mk (ng_ hg (qk_ BK429.out) : gb499 ≠ gb429); have n12_ := Aside0.mk (nl_ hg (qk_ BK467.out) : gb467 ≠ gb499); have n13_ := Aside0.mk (ng_ hg (qk_ BK467.out) : gb499 ≠ gb467); clear HO461; clear HO464; clear HO493; clear HO496; clear BK429; clear BK467; clear HB; have HO461 := n0_; have HO464 := n1_; have HO493 := n2_; have HO496 := n3_; have BK429 := n4_; have BK467 := n5_; have HB := n6_; have BK499 := n7_; have GW499 := n8_; have GE499 := n9_; have NB429_499 := n10_; have NB499_429 := n11_; have NB467_499 := n12_; have NB499_467 := n13_; clear n0_ n1_ n2_ n3_ n4_ n5_ n6_ n7_ n8_ n9_ n10_ n11_ n12_ n13_; clear hb hbox hg; have hnb39 := NB499_429.out; have hnc39 := NB429_499.out; have hnb40 := NB499_467.out; have hnc40 := NB467_499.out; obtain ⟨Z41_0, Z41_1, Z41_2, Z41_3, Z41_4, Z41_5, Z41_6, Z41_7, Z41_8, Z41_9, Z41_10, Z41_11, Z41_12, Z41_13, Z41_14, Z41_15, Z41_16, Z41_17, Z41_18, Z41_19, Z41_20, Z41_21, Z41_22, Z41_23, Z41_24, Y41_0, Y41_1, Y41_2, Y41_3, Y41_4, Y41_5, Y41_6, Y41_7, Y41_8, Y41_9, Y41_10, Y41_11, Y41_12, Y41_13, Y41_14, Y41_15, Y41_16, Y41_17, Y41_18, Y41_19, Y41_20, Y41_21, Y41_22, Y41_23, Y41_24⟩ := cz25_ BK499.out; obtain ⟨Ao42, co42, eo42⟩ := Kd.V_slice HO493.out; subst eo42; obtain ⟨Ao43, co43, eo43⟩ := Kd.V_slice HO496.out; subst eo43; obtain ⟨Z44_0, Z44_1, Z44_2, Z44_3, Z44_4, Z44_5, Z44_6, Z44_7, Z44_8, Z44_9, Z44_10, Z44_11, Z44_12, Z44_13, Z44_14, Z44_15, Z44_16, Z44_17, Z44_18, Z44_19, Z44_20, Z44_21, Z44_22, Z44_23, Z44_24, Y44_0, Y44_1, Y44_2, Y44_3, Y44_4, Y44_5, Y44_6, Y44_7, Y44_8, Y44_9, Y44_10, Y44_11, Y44_12, Y44_13, Y44_14, Y44_15, Y44_16, Y44_17, Y44_18, Y44_19, Y44_20, Y44_21, Y44_22, Y44_23, Y44_24⟩ := cz25_ BK467.out) | ((with_reducible refine gate_store (t := 27) rfl ?_); refine st54_ (g := gb499) (t := 27) (old := ?roz54_499) #[.int .i64 t468, .int .i64 t469, .int .i64 t470, .int .i64 t471, .int .i64 t472, .int .i64 t473, .int .i64 t474, .int .i64 t475, .int .i64 t476, .int .i64 t477, .int .i64 t478, .int .i64 t479, .int .i64 t480, .int .i64 t481, .int .i64 t482, .int .i64 t483, .int .i64 t484, .int .i64 t485, .int .i64 t486, .int .i64 t487, .int .i64 t488, .string t489, .string t490, .slice Ao42 t491.length co42, .slice Ao43 t494.length co43] rfl rfl rfl rfl ?rvz54_499 ?rbz54_499 ?riz54_499 ?rsz54_499 ?rcz54_499 ?_; (case rvz54_499 => rfl); (case rbz54_499 => exact BK499.out); (case riz54_499 => kernel_rfl); (case rsz54_499 => rfl); (case rcz54_499 => rfl); intro wz_ hnew_ hoth_ hbel_; have n0_ := Aside0.mk (Kd.R_mono (Kd.R_move (Kd.R_types HO461.out BK499.out (by decide)) (fun k hk => hoth_ k (hk.2))) (fun _ h_ => h_.1)); have n1_ := Aside0.mk (Kd.R_mono (Kd.R_move (Kd.R_types HO464.out BK499.out (by decide)) (fun k hk => hoth_ k (hk.2))) (fun _ h_ => h_.1)); have n2_ := Aside0.mk (Kd.V_mono (Kd.V_step (Kd.V_mono HO493.out (fun k_ hk => (⟨hk, hk.2⟩ : _ ∧ k_ ≠ gb499))) (fun k hk _ => hoth_ k (hk.2))) (fun _ h_ => h_.1)); have n3_ := Aside0.mk (Kd.V_mono (Kd.V_step (Kd.V_mono HO496.out (fun k_ hk => (⟨hk, hk.2⟩ : _ ∧ k_ ≠ gb499))) (fun k hk _ => hoth_ k (hk.2))) (fun _ h_ => h_.1)); have n4_ := Aside0.mk ((hoth_ _ NB429_499.out).trans BK429.out); have n5_ := Aside0.mk ((hoth_ _ NB467_499.out).trans BK467.out); have n6_ := Aside0.mk (hnew_); have n7_ := Aside0.mk (hbel_ _ _ (qb3_ GE429.out GE467.out GE499.out HB.out) GE499.out); clear HO461; clear HO464; clear HO493; clear HO496; clear BK429; clear BK467; clear BK499; clear HB; have HO461 := n0_; have HO464 := n1_; have HO493 := n2_; have HO496 := n3_; have BK429 := n4_; have BK467 := n5_; have BK499 := n6_; have HB := n7_; clear n0_ n1_ n2_ n3_ n4_ n5_ n6_ n7_; clear hnew_ hoth_ hbel_) | (go_at_call 18; (with_reducible refine (corebankref34_Same.calls1 k t436 t437 t438 t439 t440 t441 t442 t443 t444 t445 t446 t447 t448 t449 t450 t451 t452 t453 t454 t455 t456 t457 t458 _ _ t459 _ _ t462 t468 t469 t470 t471 t472 t473 t474 t475 t476 t477 t478 t479 t480 t481 t482 t483 t484 t485 t486 t487 t488 t489 t490 _ _ t491 _ _ t494 _ ?side1 ?side2 ?side3 ?side4 ?side5 ?side6 ?side7 ?side8 A16.out).mono ?_); (case side1 => refine (Kd.R_reads' (e := 54) (base := w.heap.size) (ok := fun k_ => True) (n := t459.length) (c := co33) ?_).2.2; exact (by (with_reducible repeat (first | apply Kd.R_alloc | apply Kd.R_drewN | apply Kd.R_drew)); exact HO461.out)); (case side2 => exact (Kd.R_reads' HO461.out).2.1); (case side3 => refine (Kd.R_reads' (e := 50) (base := w.heap.size) (ok := fun k_ => True) (n := t462.length) (c := co34) ?_).2.2; exact (by (with_reducible repeat (first | apply Kd.R_alloc | apply Kd.R_drewN | apply Kd.R_drew)); exact HO464.out)); (case side4 => exact (Kd.R_reads' HO464.out).2.1); (case side5 => refine (Kd.V_reads' (e := 54) (base := w.heap.size) (ok := fun k_ => ((some k_ ≠ (.slice Ao33 t459.length co33 : Value).ownBlock ∧ (some k_ ≠ (.slice Ao34 t462.length co34 : Value).ownBlock ∧ (k_ ≠ gb429 ∧ k_ ≠ gb467))) ∧ k_ ≠ gb499)) (n := t491.length) (c := co42) ?_).2.2; exact (by (with_reducible repeat (first | apply Kd.V_alloc | apply Kd.V_drewN | apply Kd.V_drew)); exact HO493.out)); (case side6 => exact (Kd.V_reads' HO493.out).2.1); (case side7 => refine (Kd.V_reads' (e := 50) (base := w.heap.size) (ok := fun k_ => ((some k_ ≠ (.slice Ao33 t459.length co33 : Value).ownBlock ∧ (some k_ ≠ (.slice Ao34 t462.length co34 : Value).ownBlock ∧ (k_ ≠ gb429 ∧ k_ ≠ gb467))) ∧ k_ ≠ gb499)) (n := t494.length) (c := co43) ?_).2.2; exact (by (with_reducible repeat (first | apply Kd.V_alloc | apply Kd.V_drewN | apply Kd.V_drew)); exact HO496.out)); (case side8 => exact (Kd.V_reads' HO496.out).2.1); rintro e w45 ⟨rfl, hb⟩; have n0_ := Aside0.mk (Kd.R_below (by (with_reducible repeat (first | apply Kd.R_alloc | apply Kd.R_drewN | apply Kd.R_drew)); exact HO461.out) hb); have n1_ := Aside0.mk (Kd.R_below (by (with_reducible repeat (first | apply Kd.R_alloc | apply Kd.R_drewN | apply Kd.R_drew)); exact HO464.out) hb); have n2_ := Aside0.mk (Kd.V_below (by (with_reducible repeat (first | apply Kd.V_alloc | apply Kd.V_drewN | apply Kd.V_drew)); exact HO493.out) hb); have n3_ := Aside0.mk (Kd.V_below (by (with_reducible repeat (first | apply Kd.V_alloc | apply Kd.V_drewN | apply Kd.V_drew)); exact HO496.out) hb); have n4_ := Aside0.mk (blk_below (qk_ BK429.out) hb); have n5_ := Aside0.mk (blk_below (qk_ BK467.out) hb); have n6_ := Aside0.mk (blk_below (qk_ BK499.out) hb); have n7_ := Aside0.mk (below_step (qb3_ GE429.out GE467.out GE499.out HB.out) hb); clear HO461; clear HO464; clear HO493; clear HO496; clear BK429; clear BK467; clear BK499; clear HB; have HO461 := n0_; have HO464 := n1_; have HO493 := n2_; have HO496 := n3_; have BK429 := n4_; have BK467 := n5_; have BK499 := n6_; have HB := n7_; clear n0_ n1_ n2_ n3_ n4_ n5_ n6_ n7_; (try clear hb); (try clear hb2); (try clear hk); (try clear hi)) | (go_at_call 13; (with_reducible refine (corebanklaw38_Live.calls (hG := by first | exact hG | (with_reducible exact GW.below hG (qb3_ GE429.out GE467.out GE499.out HB.out)) | (with_reducible repeat (first | exact hG | apply GW.drewN | apply GW.drew))) k  t501 _ A20.out).mono ?_); rintro e w46 ⟨rfl, hb⟩; have n0_ := Aside0.mk (Kd.R_below (by (with_reducible repeat (first | apply Kd.R_alloc | apply Kd.R_drewN | apply Kd.R_drew)); exact HO461.out) hb); have n1_ := Aside0.mk (Kd.R_below (by (with_reducible repeat (first | apply Kd.R_alloc | apply Kd.R_drewN | apply Kd.R_drew)); exact HO464.out) hb); have n2_ := Aside0.mk (Kd.V_below (by (with_reducible repeat (first | apply Kd.V_alloc | apply Kd.V_drewN | apply Kd.V_drew)); exact HO493.out) hb); have n3_ := Aside0.mk (Kd.V_below (by (with_reducible repeat (first | apply Kd.V_alloc | apply Kd.V_drewN | apply Kd.V_drew)); exact HO496.out) hb); have n4_ := Aside0.mk (blk_below (qk_ BK429.out) hb); have n5_ := Aside0.mk (blk_below (qk_ BK467.out) hb); have n6_ := Aside0.mk (blk_below (qk_ BK499.out) hb); have n7_ := Aside0.mk (below_step (qb3_ GE429.out GE467.out GE499.out HB.out) hb); clear HO461; clear HO464; clear HO493; clear HO496; clear BK429; clear BK467; clear BK499; clear HB; have HO461 := n0_; have HO464 := n1_; have HO493 := n2_; have HO496 := n3_; have BK429 := n4_; have BK467 := n5_; have BK499 := n6_; have HB := n7_; clear n0_ n1_ n2_ n3_ n4_ n5_ n6_ n7_; (try clear hb); (try clear hb2); (try clear hk); (try clear hi)))
       go_ret
       exact ⟨qe_, qb3_ GE429.out GE467.out GE499.out HB.out⟩
      ·rw [if_neg c19] at H
       have c19b0 : (t466 == t498) = false := beq_eq_false_iff_ne.mpr c19
       have c19b1 : (t466 != t498) = true := bne_iff_ne.mpr c19
       exact absurd H (by simp)
     ·rw [if_neg c18] at H
      have c18b0 : (t465 == t497) = false := beq_eq_false_iff_ne.mpr c18
      have c18b1 : (t465 != t497) = true := bne_iff_ne.mpr c18
      exact absurd H (by simp)
    ·replace c17 := Bool.eq_false_iff.mpr c17
     subst c17
     have H1 : (some false) = some true := by rw [if_neg (show ¬ (false = true) by decide)] at H; exact H
     clear H
     have H := H1
     clear H1
     exact absurd H (by simp)
   ·rw [if_neg c15] at H
    have c15b0 : (t433 == t435) = false := beq_eq_false_iff_ne.mpr c15
    have c15b1 : (t433 != t435) = true := bne_iff_ne.mpr c15
    exact absurd H (by simp)
  ·rw [if_neg c14] at H
   have c14b0 : (t432 == t434) = false := beq_eq_false_iff_ne.mpr c14
   have c14b1 : (t432 != t434) = true := bne_iff_ne.mpr c14
   exact absurd H (by simp)
end Go.Proofs.YtjkjiibhdpcpkaaDoor.PS
end
