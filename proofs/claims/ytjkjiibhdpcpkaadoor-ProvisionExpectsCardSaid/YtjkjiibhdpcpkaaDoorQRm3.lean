import Derived.Test.YtjkjiibhdpcpkaaDoorQRm2
section
namespace Go.Proofs.YtjkjiibhdpcpkaaDoor.PS
open Go.RowKit Go.Proofs.YtjkjiibhdpcpkaaDoorW.PrintWords Go.Proofs.YtjkjiibhdpcpkaaDoorW.PrintLast
set_option linter.unusedVariables false
set_option linter.unusedSimpArgs false
mutual
def arrears_Days.l0 : Nat → Int → Int → Int → List (S54) → Int → Int → Int → Int → Int → Int → Int → Int → Int → Int → Int → Int → Int → Int → Int → Int → Int → Int → Int → Int → Int → Int → Int → ByteArray → ByteArray → List (S54) → List (S50) → Option (Int)
 | 0, _, _, _, _, _, _, _, _, _, _, _, _, _, _, _, _, _, _, _, _, _, _, _, _, _, _, _, _, _, _, _ => none
 | k + 1, x1, x5, x6, x10, x11, x12, x105000, x105001, x105002, x105003, x105004, x105005, x105006, x105007, x105008, x105009, x105010, x105011, x105012, x105013, x105014, x105015, x105016, x105017, x105018, x105019, x105020, x105021, x105022, x105023, x105024 => if x12 < x11 then (if 0 ≤ x12 then (if x12 < (x10.length : Int) then (if ((rd_T54 x10 x12).f1) ≤ x1 then (if x105003 < (wrap64 (x5 + ((rd_T54 x10 x12).f2))) then (arrears_Days.j1 k x1 (wrap64 (x5 + ((rd_T54 x10 x12).f2))) (wrap64 (x6 + ((rd_T54 x10 x12).f3))) x10 x11 x12 true x105000 x105001 x105002 x105003 x105004 x105005 x105006 x105007 x105008 x105009 x105010 x105011 x105012 x105013 x105014 x105015 x105016 x105017 x105018 x105019 x105020 x105021 x105022 x105023 x105024 ((rd_T54 x10 x12).f0) ((rd_T54 x10 x12).f1) ((rd_T54 x10 x12).f2) ((rd_T54 x10 x12).f3)) else (arrears_Days.j1 k x1 (wrap64 (x5 + ((rd_T54 x10 x12).f2))) (wrap64 (x6 + ((rd_T54 x10 x12).f3))) x10 x11 x12 (decide (x105004 < (wrap64 (x6 + ((rd_T54 x10 x12).f3))))) x105000 x105001 x105002 x105003 x105004 x105005 x105006 x105007 x105008 x105009 x105010 x105011 x105012 x105013 x105014 x105015 x105016 x105017 x105018 x105019 x105020 x105021 x105022 x105023 x105024 ((rd_T54 x10 x12).f0) ((rd_T54 x10 x12).f1) ((rd_T54 x10 x12).f2) ((rd_T54 x10 x12).f3))) else (arrears_Days.j1 k x1 (wrap64 (x5 + ((rd_T54 x10 x12).f2))) (wrap64 (x6 + ((rd_T54 x10 x12).f3))) x10 x11 x12 false x105000 x105001 x105002 x105003 x105004 x105005 x105006 x105007 x105008 x105009 x105010 x105011 x105012 x105013 x105014 x105015 x105016 x105017 x105018 x105019 x105020 x105021 x105022 x105023 x105024 ((rd_T54 x10 x12).f0) ((rd_T54 x10 x12).f1) ((rd_T54 x10 x12).f2) ((rd_T54 x10 x12).f3))) else (none)) else (none)) else (some 0)
def arrears_Days.j1 : Nat → Int → Int → Int → List (S54) → Int → Int → Bool → Int → Int → Int → Int → Int → Int → Int → Int → Int → Int → Int → Int → Int → Int → Int → Int → Int → Int → Int → Int → Int → ByteArray → ByteArray → List (S54) → List (S50) → Int → Int → Int → Int → Option (Int)
 | 0, _, _, _, _, _, _, _, _, _, _, _, _, _, _, _, _, _, _, _, _, _, _, _, _, _, _, _, _, _, _, _, _, _, _, _, _ => none
 | k + 1, x1, x5, x6, x10, x11, x12, x39, x105000, x105001, x105002, x105003, x105004, x105005, x105006, x105007, x105008, x105009, x105010, x105011, x105012, x105013, x105014, x105015, x105016, x105017, x105018, x105019, x105020, x105021, x105022, x105023, x105024, x107000, x107001, x107002, x107003 => if x39 = true then (some (wrap64 (x1 - x107001))) else (arrears_Days.l0 k x1 x5 x6 x10 x11 (wrap64 (x12 + 1)) x105000 x105001 x105002 x105003 x105004 x105005 x105006 x105007 x105008 x105009 x105010 x105011 x105012 x105013 x105014 x105015 x105016 x105017 x105018 x105019 x105020 x105021 x105022 x105023 x105024)
end
def arrears_Days.f (k : Nat) (a0_0 a0_1 a0_2 a0_3 a0_4 a0_5 a0_6 a0_7 a0_8 a0_9 a0_10 a0_11 a0_12 a0_13 a0_14 a0_15 a0_16 a0_17 a0_18 a0_19 a0_20 : Int) (a0_21 a0_22 : ByteArray) (l0_23 : List (S54)) (l0_24 : List (S50)) (a1 : Int) : Option (Int) := arrears_Days.l0 k a1 0 0 l0_23 (l0_23.length : Int) 0 a0_0 a0_1 a0_2 a0_3 a0_4 a0_5 a0_6 a0_7 a0_8 a0_9 a0_10 a0_11 a0_12 a0_13 a0_14 a0_15 a0_16 a0_17 a0_18 a0_19 a0_20 a0_21 a0_22 l0_23 l0_24
theorem arrears_Days.mono_l : ∀ k, (∀ y0 y1 y2 y3 y4 y5 y6 y7 y8 y9 y10 y11 y12 y13 y14 y15 y16 y17 y18 y19 y20 y21 y22 y23 y24 y25 y26 y27 y28 y29 y30, LeO (arrears_Days.l0 k y0 y1 y2 y3 y4 y5 y6 y7 y8 y9 y10 y11 y12 y13 y14 y15 y16 y17 y18 y19 y20 y21 y22 y23 y24 y25 y26 y27 y28 y29 y30) (arrears_Days.l0 (k + 1) y0 y1 y2 y3 y4 y5 y6 y7 y8 y9 y10 y11 y12 y13 y14 y15 y16 y17 y18 y19 y20 y21 y22 y23 y24 y25 y26 y27 y28 y29 y30)) ∧ (∀ y0 y1 y2 y3 y4 y5 y6 y7 y8 y9 y10 y11 y12 y13 y14 y15 y16 y17 y18 y19 y20 y21 y22 y23 y24 y25 y26 y27 y28 y29 y30 y31 y32 y33 y34 y35, LeO (arrears_Days.j1 k y0 y1 y2 y3 y4 y5 y6 y7 y8 y9 y10 y11 y12 y13 y14 y15 y16 y17 y18 y19 y20 y21 y22 y23 y24 y25 y26 y27 y28 y29 y30 y31 y32 y33 y34 y35) (arrears_Days.j1 (k + 1) y0 y1 y2 y3 y4 y5 y6 y7 y8 y9 y10 y11 y12 y13 y14 y15 y16 y17 y18 y19 y20 y21 y22 y23 y24 y25 y26 y27 y28 y29 y30 y31 y32 y33 y34 y35))
 | 0 => ⟨fun _ _ _ _ _ _ _ _ _ _ _ _ _ _ _ _ _ _ _ _ _ _ _ _ _ _ _ _ _ _ _ r h => by simp [arrears_Days.l0] at h, fun _ _ _ _ _ _ _ _ _ _ _ _ _ _ _ _ _ _ _ _ _ _ _ _ _ _ _ _ _ _ _ _ _ _ _ _ r h => by simp [arrears_Days.j1] at h⟩
 | k + 1 => by
  obtain ⟨ih0, ih1⟩ := arrears_Days.mono_l k
  refine ⟨?_, ?_⟩
  ·intro y0 y1 y2 y3 y4 y5 y6 y7 y8 y9 y10 y11 y12 y13 y14 y15 y16 y17 y18 y19 y20 y21 y22 y23 y24 y25 y26 y27 y28 y29 y30
   unfold arrears_Days.l0
   repeat' first
   | (with_reducible exact ih0 _ _ _ _ _ _ _ _ _ _ _ _ _ _ _ _ _ _ _ _ _ _ _ _ _ _ _ _ _ _ _)
   | (with_reducible exact ih1 _ _ _ _ _ _ _ _ _ _ _ _ _ _ _ _ _ _ _ _ _ _ _ _ _ _ _ _ _ _ _ _ _ _ _ _)
   | (with_reducible exact LeO.refl _)
   | (with_reducible exact LeO.none _)
   | (with_reducible refine LeO.ite ?_ ?_)
   | (with_reducible refine LeO.bind ?_ (fun _ => ?_))
   | exact ih0 _ _ _ _ _ _ _ _ _ _ _ _ _ _ _ _ _ _ _ _ _ _ _ _ _ _ _ _ _ _ _
   | exact ih1 _ _ _ _ _ _ _ _ _ _ _ _ _ _ _ _ _ _ _ _ _ _ _ _ _ _ _ _ _ _ _ _ _ _ _ _
   | exact LeO.none _
   | refine LeO.ite ?_ ?_
   | refine LeO.bind ?_ (fun _ => ?_)
  ·intro y0 y1 y2 y3 y4 y5 y6 y7 y8 y9 y10 y11 y12 y13 y14 y15 y16 y17 y18 y19 y20 y21 y22 y23 y24 y25 y26 y27 y28 y29 y30 y31 y32 y33 y34 y35
   unfold arrears_Days.j1
   repeat' first
   | (with_reducible exact ih0 _ _ _ _ _ _ _ _ _ _ _ _ _ _ _ _ _ _ _ _ _ _ _ _ _ _ _ _ _ _ _)
   | (with_reducible exact ih1 _ _ _ _ _ _ _ _ _ _ _ _ _ _ _ _ _ _ _ _ _ _ _ _ _ _ _ _ _ _ _ _ _ _ _ _)
   | (with_reducible exact LeO.refl _)
   | (with_reducible exact LeO.none _)
   | (with_reducible refine LeO.ite ?_ ?_)
   | (with_reducible refine LeO.bind ?_ (fun _ => ?_))
   | exact ih0 _ _ _ _ _ _ _ _ _ _ _ _ _ _ _ _ _ _ _ _ _ _ _ _ _ _ _ _ _ _ _
   | exact ih1 _ _ _ _ _ _ _ _ _ _ _ _ _ _ _ _ _ _ _ _ _ _ _ _ _ _ _ _ _ _ _ _ _ _ _ _
   | exact LeO.none _
   | refine LeO.ite ?_ ?_
   | refine LeO.bind ?_ (fun _ => ?_)
theorem arrears_Days.mono : ∀ a0 a1 a2 a3 a4 a5 a6 a7 a8 a9 a10 a11 a12 a13 a14 a15 a16 a17 a18 a19 a20 a21 a22 a23 a24 a25 k, LeO (arrears_Days.f k a0 a1 a2 a3 a4 a5 a6 a7 a8 a9 a10 a11 a12 a13 a14 a15 a16 a17 a18 a19 a20 a21 a22 a23 a24 a25) (arrears_Days.f (k + 1) a0 a1 a2 a3 a4 a5 a6 a7 a8 a9 a10 a11 a12 a13 a14 a15 a16 a17 a18 a19 a20 a21 a22 a23 a24 a25) := by
 intro a0 a1 a2 a3 a4 a5 a6 a7 a8 a9 a10 a11 a12 a13 a14 a15 a16 a17 a18 a19 a20 a21 a22 a23 a24 a25 k
 obtain ⟨ih0, ih1⟩ := arrears_Days.mono_l k
 unfold arrears_Days.f
 repeat' first
   | (with_reducible exact ih0 _ _ _ _ _ _ _ _ _ _ _ _ _ _ _ _ _ _ _ _ _ _ _ _ _ _ _ _ _ _ _)
   | (with_reducible exact ih1 _ _ _ _ _ _ _ _ _ _ _ _ _ _ _ _ _ _ _ _ _ _ _ _ _ _ _ _ _ _ _ _ _ _ _ _)
   | (with_reducible exact LeO.refl _)
   | (with_reducible exact LeO.none _)
   | (with_reducible refine LeO.ite ?_ ?_)
   | (with_reducible refine LeO.bind ?_ (fun _ => ?_))
   | exact ih0 _ _ _ _ _ _ _ _ _ _ _ _ _ _ _ _ _ _ _ _ _ _ _ _ _ _ _ _ _ _ _
   | exact ih1 _ _ _ _ _ _ _ _ _ _ _ _ _ _ _ _ _ _ _ _ _ _ _ _ _ _ _ _ _ _ _ _ _ _ _ _
   | exact LeO.none _
   | refine LeO.ite ?_ ?_
   | refine LeO.bind ?_ (fun _ => ?_)
set_option maxHeartbeats 8000000 in
set_option maxRecDepth 100000 in
theorem arrears_Days.calls (k : Nat) (a0_0 a0_1 a0_2 a0_3 a0_4 a0_5 a0_6 a0_7 a0_8 a0_9 a0_10 a0_11 a0_12 a0_13 a0_14 a0_15 a0_16 a0_17 a0_18 a0_19 a0_20 : Int) (a0_21 a0_22 : ByteArray) (A0_23 : Option Addr) (c0_23 : Nat) (l0_23 : List (S54)) (A0_24 : Option Addr) (c0_24 : Nat) (l0_24 : List (S50)) (a1 r : Int) (w : World) (hr0_23 : Kd.C k54 w A0_23 l0_23.length l0_23) (hc0_23 : l0_23.length ≤ c0_23) (hr0_24 : Kd.C k50 w A0_24 l0_24.length l0_24) (hc0_24 : l0_24.length ≤ c0_24) (h : arrears_Days.f k a0_0 a0_1 a0_2 a0_3 a0_4 a0_5 a0_6 a0_7 a0_8 a0_9 a0_10 a0_11 a0_12 a0_13 a0_14 a0_15 a0_16 a0_17 a0_18 a0_19 a0_20 a0_21 a0_22 l0_23 l0_24 a1 = some r) :
  Calls Tryd.prog 26 #[.agg #[.int .i64 a0_0, .int .i64 a0_1, .int .i64 a0_2, .int .i64 a0_3, .int .i64 a0_4, .int .i64 a0_5, .int .i64 a0_6, .int .i64 a0_7, .int .i64 a0_8, .int .i64 a0_9, .int .i64 a0_10, .int .i64 a0_11, .int .i64 a0_12, .int .i64 a0_13, .int .i64 a0_14, .int .i64 a0_15, .int .i64 a0_16, .int .i64 a0_17, .int .i64 a0_18, .int .i64 a0_19, .int .i64 a0_20, .string a0_21, .string a0_22, .slice A0_23 l0_23.length c0_23, .slice A0_24 l0_24.length c0_24], .int .i64 a1] w fun e w' => e = .returned (.int .i64 r) ∧ Below w.heap.size w w' := by
 have hu27 := Tryd.underlying27
 have hu54 := Tryd.underlying54
 have HR0_23 := Aside0.mk hr0_23
 have HC0_23 := Aside0.mk hc0_23
 clear hr0_23 hc0_23
 have HR0_24 := Aside0.mk hr0_24
 have HC0_24 := Aside0.mk hc0_24
 clear hr0_24 hc0_24
 have HB := Aside0.mk (Below.refl w.heap.size w)
 have H : (arrears_Days.l0 k a1 0 0 l0_23 (l0_23.length : Int) 0 a0_0 a0_1 a0_2 a0_3 a0_4 a0_5 a0_6 a0_7 a0_8 a0_9 a0_10 a0_11 a0_12 a0_13 a0_14 a0_15 a0_16 a0_17 a0_18 a0_19 a0_20 a0_21 a0_22 l0_23 l0_24) = some r := h
 clear h
 have H' := Aside0.mk H
 clear H
 go_enter Tryd.func26, Tryd.ntmps26
 go_wp2_with (first | ((with_reducible refine gate_load_ (t := 27) rfl ?_); refine ld_ (t := 27) (cs := ?cs_) Tryd.underlying27 rfl rfl rfl ?hb_ rfl ?hi_ ?_; (case hb_ => (repeat (first | (with_reducible first | refine blk_drewN ?_ _ | refine blk_drew ?_ | refine blk_alloc ?_ _) | refine blk_far ?_ NB104_106.out _ | refine blk_set ?_ _ _)); (with_reducible first | exact BK104.out)); (case hi_ => kernel_rfl)) | ((with_reducible refine gate_dst (N := 2) rfl ?_); refine be_ (N := 2) (cs := #[.int .i64 a0_0, .int .i64 a0_1, .int .i64 a0_2, .int .i64 a0_3, .int .i64 a0_4, .int .i64 a0_5, .int .i64 a0_6, .int .i64 a0_7, .int .i64 a0_8, .int .i64 a0_9, .int .i64 a0_10, .int .i64 a0_11, .int .i64 a0_12, .int .i64 a0_13, .int .i64 a0_14, .int .i64 a0_15, .int .i64 a0_16, .int .i64 a0_17, .int .i64 a0_18, .int .i64 a0_19, .int .i64 a0_20, .string a0_21, .string a0_22, .slice A0_23 l0_23.length c0_23, .slice A0_24 l0_24.length c0_24]) (t := 27) ?_; intro gb104 hg w3 hbox hb; have n0_ := Aside0.mk (below_step (qb_ HB.out) hb); have n1_ := Aside0.mk (hbox); have n2_ := Aside0.mk (bz_ hg (qb_ HB.out) : w.heap.size ≤ gb104); have n3_ := n2_; clear HB; have HB := n0_; have BK104 := n1_; have GW104 := n2_; have GE104 := n3_; clear n0_ n1_ n2_ n3_; clear hb hbox hg; obtain ⟨Z4_0, Z4_1, Z4_2, Z4_3, Z4_4, Z4_5, Z4_6, Z4_7, Z4_8, Z4_9, Z4_10, Z4_11, Z4_12, Z4_13, Z4_14, Z4_15, Z4_16, Z4_17, Z4_18, Z4_19, Z4_20, Z4_21, Z4_22, Z4_23, Z4_24, Y4_0, Y4_1, Y4_2, Y4_3, Y4_4, Y4_5, Y4_6, Y4_7, Y4_8, Y4_9, Y4_10, Y4_11, Y4_12, Y4_13, Y4_14, Y4_15, Y4_16, Y4_17, Y4_18, Y4_19, Y4_20, Y4_21, Y4_22, Y4_23, Y4_24⟩ := cz25_ BK104.out))
 go_loopg [5, 6, 12] k (fun kq v5 v6 v12 w' => ∃ (x5_1 x6_1 x12_1 : Int), v5 = .int .i64 x5_1 ∧ v6 = .int .i64 x6_1 ∧ v12 = .int .i64 x12_1 ∧ Aside0 (arrears_Days.l0 kq a1 x5_1 x6_1 l0_23 (l0_23.length : Int) x12_1 a0_0 a0_1 a0_2 a0_3 a0_4 a0_5 a0_6 a0_7 a0_8 a0_9 a0_10 a0_11 a0_12 a0_13 a0_14 a0_15 a0_16 a0_17 a0_18 a0_19 a0_20 a0_21 a0_22 l0_23 l0_24 = some r) ∧ Aside0 (kq ≤ k) ∧ Aside0 (w'.heap[gb104]? = some (.cells #[.int .i64 a0_0, .int .i64 a0_1, .int .i64 a0_2, .int .i64 a0_3, .int .i64 a0_4, .int .i64 a0_5, .int .i64 a0_6, .int .i64 a0_7, .int .i64 a0_8, .int .i64 a0_9, .int .i64 a0_10, .int .i64 a0_11, .int .i64 a0_12, .int .i64 a0_13, .int .i64 a0_14, .int .i64 a0_15, .int .i64 a0_16, .int .i64 a0_17, .int .i64 a0_18, .int .i64 a0_19, .int .i64 a0_20, .string a0_21, .string a0_22, (.slice A0_23 l0_23.length c0_23), (.slice A0_24 l0_24.length c0_24)] 27 (0, 0))) ∧ Aside0 (Below w.heap.size w w'))
 case atStart => exact ⟨(0), (0), (0), qs_, qs_, qs_, H', ⟨Nat.le_refl _⟩, ⟨qk_ BK104.out⟩, ⟨qb1_ GE104.out HB.out⟩⟩
 case round =>
  clear H'
  try clear c2
  try clear p2
  (try clear Z4_0 Z4_1 Z4_10 Z4_11 Z4_12 Z4_13 Z4_14 Z4_15 Z4_16 Z4_17 Z4_18 Z4_19 Z4_2 Z4_20 Z4_21 Z4_22 Z4_23 Z4_24 Z4_3 Z4_4 Z4_5 Z4_6 Z4_7 Z4_8 Z4_9 Y4_0 Y4_1 Y4_10 Y4_11 Y4_12 Y4_13 Y4_14 Y4_15 Y4_16 Y4_17 Y4_18 Y4_19 Y4_2 Y4_20 Y4_21 Y4_22 Y4_23 Y4_24 Y4_3 Y4_4 Y4_5 Y4_6 Y4_7 Y4_8 Y4_9)
  obtain ⟨x5_1, x6_1, x12_1, rfl, rfl, rfl, HA, HK1, BK104, HB⟩ := hrel
  cases gk with
  | zero => exact absurd HA.out (by simp [arrears_Days.l0])
  | succ k1 =>
   have H := HA.out
   clear HA
   simp only [arrears_Days.l0] at H
   by_cases c5 : x12_1 < (l0_23.length : Int)
   ·rw [if_pos c5] at H
    have c5b0 : decide (x12_1 < (l0_23.length : Int)) = true := decide_eq_true c5
    clear c5
    by_cases c6 : 0 ≤ x12_1
    ·rw [if_pos c6] at H
     have c6b0 : decide (0 ≤ x12_1) = true := decide_eq_true c6
     clear c6
     by_cases c7 : x12_1 < (l0_23.length : Int)
     ·rw [if_pos c7] at H
      have c7b0 : decide (x12_1 < (l0_23.length : Int)) = true := decide_eq_true c7
      clear c7
      have HC8 := Aside0.mk H
      clear H
      have p105 : 0 ≤ (x12_1 : Int) := of_decide_eq_true (by first | (with_reducible assumption) | assumption)
      have q105 : x12_1 < (l0_23.length : Int) := of_decide_eq_true (by first | (with_reducible assumption) | assumption)
      obtain ⟨ad105, e105, hx105_0, hx105_1, hx105_2, hx105_3⟩ := at_T54 HR0_23.out x12_1 p105 q105
      cases e105
      replace hx105_0 := bx_ HB.out hx105_0
      replace hx105_1 := bx_ HB.out hx105_1
      replace hx105_2 := bx_ HB.out hx105_2
      replace hx105_3 := bx_ HB.out hx105_3
      replace p105 := eq_true p105
      replace q105 := eq_true q105
      go_upto_region 7 with (first | ((with_reducible refine gate_load_ (t := 27) rfl ?_); refine ld_ (t := 27) (cs := ?cs_) Tryd.underlying27 rfl rfl rfl ?hb_ rfl ?hi_ ?_; (case hb_ => (repeat (first | (with_reducible first | refine blk_drewN ?_ _ | refine blk_drew ?_ | refine blk_alloc ?_ _) | refine blk_far ?_ NB104_106.out _ | refine blk_set ?_ _ _)); (with_reducible first | exact BK104.out)); (case hi_ => kernel_rfl)) | ((with_reducible refine gate_dst (N := 8) rfl ?_); refine be_ (N := 8) (cs := #[.int .i64 0, .int .i64 0, .int .i64 0, .int .i64 0]) (t := 54) ?_; intro gb106 hg w9 hbox hb; have n0_ := Aside0.mk (blk_below (qk_ BK104.out) hb); have n1_ := Aside0.mk (below_step (qb1_ GE104.out HB.out) hb); have n2_ := Aside0.mk (hbox); have n3_ := Aside0.mk (bz_ hg (qb1_ GE104.out HB.out) : w.heap.size ≤ gb106); have n4_ := n3_; have n5_ := Aside0.mk (nl_ hg (qk_ BK104.out) : gb104 ≠ gb106); have n6_ := Aside0.mk (ng_ hg (qk_ BK104.out) : gb106 ≠ gb104); clear BK104; clear HB; have BK104 := n0_; have HB := n1_; have BK106 := n2_; have GW106 := n3_; have GE106 := n4_; have NB104_106 := n5_; have NB106_104 := n6_; clear n0_ n1_ n2_ n3_ n4_ n5_ n6_; clear hb hbox hg; have hnb10 := NB106_104.out; have hnc10 := NB104_106.out; obtain ⟨Z11_0, Z11_1, Z11_2, Z11_3, Y11_0, Y11_1, Y11_2, Y11_3⟩ := cz4_ BK106.out))
      (try simp only [Act.put, List.setIfInBounds_toArray, List.set_cons_zero, List.set_cons_succ])
      go_cut [39] (fun v39 wc => ∃ (kq : Nat) (x39_7 : Bool), v39 = .bool x39_7 ∧ Aside0 (arrears_Days.j1 kq a1 (wrap64 (x5_1 + ((rd_T54 l0_23 x12_1).f2))) (wrap64 (x6_1 + ((rd_T54 l0_23 x12_1).f3))) l0_23 (l0_23.length : Int) x12_1 x39_7 a0_0 a0_1 a0_2 a0_3 a0_4 a0_5 a0_6 a0_7 a0_8 a0_9 a0_10 a0_11 a0_12 a0_13 a0_14 a0_15 a0_16 a0_17 a0_18 a0_19 a0_20 a0_21 a0_22 l0_23 l0_24 ((rd_T54 l0_23 x12_1).f0) ((rd_T54 l0_23 x12_1).f1) ((rd_T54 l0_23 x12_1).f2) ((rd_T54 l0_23 x12_1).f3) = some r) ∧ Aside0 (kq ≤ k1) ∧ Aside0 (wc.heap[gb104]? = some (.cells #[.int .i64 a0_0, .int .i64 a0_1, .int .i64 a0_2, .int .i64 a0_3, .int .i64 a0_4, .int .i64 a0_5, .int .i64 a0_6, .int .i64 a0_7, .int .i64 a0_8, .int .i64 a0_9, .int .i64 a0_10, .int .i64 a0_11, .int .i64 a0_12, .int .i64 a0_13, .int .i64 a0_14, .int .i64 a0_15, .int .i64 a0_16, .int .i64 a0_17, .int .i64 a0_18, .int .i64 a0_19, .int .i64 a0_20, .string a0_21, .string a0_22, (.slice (some ad105) l0_23.length c0_23), (.slice A0_24 l0_24.length c0_24)] 27 (0, 0))) ∧ Aside0 (wc.heap[gb106]? = some (.cells #[.int .i64 ((rd_T54 l0_23 x12_1).f0), .int .i64 ((rd_T54 l0_23 x12_1).f1), .int .i64 ((rd_T54 l0_23 x12_1).f2), .int .i64 ((rd_T54 l0_23 x12_1).f3)] 54 (0, 0))) ∧ Aside0 (Below w.heap.size w wc))
      case first =>
       have H := HC8.out
       clear HC8
       by_cases c12 : ((rd_T54 l0_23 x12_1).f1) ≤ a1
       ·rw [if_pos c12] at H
        have c12b0 : decide (((rd_T54 l0_23 x12_1).f1) ≤ a1) = true := decide_eq_true c12
        clear c12
        (first | rw [c12b0] | (simp only [i64_w, i32_w]; rw [c12b0]) | skip)
        by_cases c13 : a0_3 < (wrap64 (x5_1 + ((rd_T54 l0_23 x12_1).f2)))
        ·rw [if_pos c13] at H
         have c13b0 : decide (a0_3 < (wrap64 (x5_1 + ((rd_T54 l0_23 x12_1).f2)))) = true := decide_eq_true c13
         clear c13
         have H' := Aside0.mk H
         clear H
         have hnb14 := NB106_104.out
         have hnc14 := NB104_106.out
         obtain ⟨Z15_0, Z15_1, Z15_2, Z15_3, Y15_0, Y15_1, Y15_2, Y15_3⟩ := cz4_ BK106.out
         obtain ⟨Z16_0, Z16_1, Z16_2, Z16_3, Z16_4, Z16_5, Z16_6, Z16_7, Z16_8, Z16_9, Z16_10, Z16_11, Z16_12, Z16_13, Z16_14, Z16_15, Z16_16, Z16_17, Z16_18, Z16_19, Z16_20, Z16_21, Z16_22, Z16_23, Z16_24, Y16_0, Y16_1, Y16_2, Y16_3, Y16_4, Y16_5, Y16_6, Y16_7, Y16_8, Y16_9, Y16_10, Y16_11, Y16_12, Y16_13, Y16_14, Y16_15, Y16_16, Y16_17, Y16_18, Y16_19, Y16_20, Y16_21, Y16_22, Y16_23, Y16_24⟩ := cz25_ BK104.out
         go_wp2
         go_meet
         case rel => exact ⟨_, (true), qs_, H', ⟨by have := HK1.out; first | omega | exact Nat.le_refl _⟩, ⟨qffff_ NB104_106.out NB104_106.out NB104_106.out NB104_106.out BK104.out⟩, ⟨by (with_reducible repeat (first | refine blk_drewN ?_ _ | refine blk_drew ?_ | refine blk_alloc ?_ _)); refine blk_put (cs := #[.int .i64 ((rd_T54 l0_23 x12_1).f0), .int .i64 ((rd_T54 l0_23 x12_1).f1), .int .i64 ((rd_T54 l0_23 x12_1).f2), .int .i64 0]) ?_ 3 _ rfl; (with_reducible repeat (first | refine blk_drewN ?_ _ | refine blk_drew ?_ | refine blk_alloc ?_ _)); refine blk_put (cs := #[.int .i64 ((rd_T54 l0_23 x12_1).f0), .int .i64 ((rd_T54 l0_23 x12_1).f1), .int .i64 0, .int .i64 0]) ?_ 2 _ rfl; (with_reducible repeat (first | refine blk_drewN ?_ _ | refine blk_drew ?_ | refine blk_alloc ?_ _)); refine blk_put (cs := #[.int .i64 ((rd_T54 l0_23 x12_1).f0), .int .i64 0, .int .i64 0, .int .i64 0]) ?_ 1 _ rfl; (with_reducible repeat (first | refine blk_drewN ?_ _ | refine blk_drew ?_ | refine blk_alloc ?_ _)); refine blk_put (cs := #[.int .i64 0, .int .i64 0, .int .i64 0, .int .i64 0]) ?_ 0 _ rfl; (with_reducible repeat (first | refine blk_drewN ?_ _ | refine blk_drew ?_ | refine blk_alloc ?_ _)); exact BK106.out⟩, ⟨qb2_ GE104.out GE106.out HB.out⟩⟩
        ·rw [if_neg c13] at H
         have c13b0 : decide (a0_3 < (wrap64 (x5_1 + ((rd_T54 l0_23 x12_1).f2)))) = false := decide_eq_false c13
         clear c13
         have H' := Aside0.mk H
         clear H
         have hnb17 := NB106_104.out
         have hnc17 := NB104_106.out
         obtain ⟨Z18_0, Z18_1, Z18_2, Z18_3, Y18_0, Y18_1, Y18_2, Y18_3⟩ := cz4_ BK106.out
         obtain ⟨Z19_0, Z19_1, Z19_2, Z19_3, Z19_4, Z19_5, Z19_6, Z19_7, Z19_8, Z19_9, Z19_10, Z19_11, Z19_12, Z19_13, Z19_14, Z19_15, Z19_16, Z19_17, Z19_18, Z19_19, Z19_20, Z19_21, Z19_22, Z19_23, Z19_24, Y19_0, Y19_1, Y19_2, Y19_3, Y19_4, Y19_5, Y19_6, Y19_7, Y19_8, Y19_9, Y19_10, Y19_11, Y19_12, Y19_13, Y19_14, Y19_15, Y19_16, Y19_17, Y19_18, Y19_19, Y19_20, Y19_21, Y19_22, Y19_23, Y19_24⟩ := cz25_ BK104.out
         go_wp2
         go_meet
         case rel => exact ⟨_, (decide (a0_4 < (wrap64 (x6_1 + ((rd_T54 l0_23 x12_1).f3))))), qs_, H', ⟨by have := HK1.out; first | omega | exact Nat.le_refl _⟩, ⟨qffff_ NB104_106.out NB104_106.out NB104_106.out NB104_106.out BK104.out⟩, ⟨by (with_reducible repeat (first | refine blk_drewN ?_ _ | refine blk_drew ?_ | refine blk_alloc ?_ _)); refine blk_put (cs := #[.int .i64 ((rd_T54 l0_23 x12_1).f0), .int .i64 ((rd_T54 l0_23 x12_1).f1), .int .i64 ((rd_T54 l0_23 x12_1).f2), .int .i64 0]) ?_ 3 _ rfl; (with_reducible repeat (first | refine blk_drewN ?_ _ | refine blk_drew ?_ | refine blk_alloc ?_ _)); refine blk_put (cs := #[.int .i64 ((rd_T54 l0_23 x12_1).f0), .int .i64 ((rd_T54 l0_23 x12_1).f1), .int .i64 0, .int .i64 0]) ?_ 2 _ rfl; (with_reducible repeat (first | refine blk_drewN ?_ _ | refine blk_drew ?_ | refine blk_alloc ?_ _)); refine blk_put (cs := #[.int .i64 ((rd_T54 l0_23 x12_1).f0), .int .i64 0, .int .i64 0, .int .i64 0]) ?_ 1 _ rfl; (with_reducible repeat (first | refine blk_drewN ?_ _ | refine blk_drew ?_ | refine blk_alloc ?_ _)); refine blk_put (cs := #[.int .i64 0, .int .i64 0, .int .i64 0, .int .i64 0]) ?_ 0 _ rfl; (with_reducible repeat (first | refine blk_drewN ?_ _ | refine blk_drew ?_ | refine blk_alloc ?_ _)); exact BK106.out⟩, ⟨qb2_ GE104.out GE106.out HB.out⟩⟩
       ·rw [if_neg c12] at H
        have c12b0 : decide (((rd_T54 l0_23 x12_1).f1) ≤ a1) = false := decide_eq_false c12
        clear c12
        (first | rw [c12b0] | (simp only [i64_w, i32_w]; rw [c12b0]) | skip)
        have H' := Aside0.mk H
        clear H
        have hnb20 := NB106_104.out
        have hnc20 := NB104_106.out
        obtain ⟨Z21_0, Z21_1, Z21_2, Z21_3, Y21_0, Y21_1, Y21_2, Y21_3⟩ := cz4_ BK106.out
        go_wp2
        go_meet
        case rel => exact ⟨_, (false), qs_, H', ⟨by have := HK1.out; first | omega | exact Nat.le_refl _⟩, ⟨qffff_ NB104_106.out NB104_106.out NB104_106.out NB104_106.out BK104.out⟩, ⟨by (with_reducible repeat (first | refine blk_drewN ?_ _ | refine blk_drew ?_ | refine blk_alloc ?_ _)); refine blk_put (cs := #[.int .i64 ((rd_T54 l0_23 x12_1).f0), .int .i64 ((rd_T54 l0_23 x12_1).f1), .int .i64 ((rd_T54 l0_23 x12_1).f2), .int .i64 0]) ?_ 3 _ rfl; (with_reducible repeat (first | refine blk_drewN ?_ _ | refine blk_drew ?_ | refine blk_alloc ?_ _)); refine blk_put (cs := #[.int .i64 ((rd_T54 l0_23 x12_1).f0), .int .i64 ((rd_T54 l0_23 x12_1).f1), .int .i64 0, .int .i64 0]) ?_ 2 _ rfl; (with_reducible repeat (first | refine blk_drewN ?_ _ | refine blk_drew ?_ | refine blk_alloc ?_ _)); refine blk_put (cs := #[.int .i64 ((rd_T54 l0_23 x12_1).f0), .int .i64 0, .int .i64 0, .int .i64 0]) ?_ 1 _ rfl; (with_reducible repeat (first | refine blk_drewN ?_ _ | refine blk_drew ?_ | refine blk_alloc ?_ _)); refine blk_put (cs := #[.int .i64 0, .int .i64 0, .int .i64 0, .int .i64 0]) ?_ 0 _ rfl; (with_reducible repeat (first | refine blk_drewN ?_ _ | refine blk_drew ?_ | refine blk_alloc ?_ _)); exact BK106.out⟩, ⟨qb2_ GE104.out GE106.out HB.out⟩⟩
      case rest =>
       clear HC8
       try clear c1
       try clear p1
       try clear q1
       try clear hx1
       try clear c2
       try clear p2
       try clear c5
       try clear c5b0
       try clear c6
       try clear c6b0
       try clear p6
       try clear c7
       try clear c7b0
       try clear c10
       try clear p10
       try clear q10
       try clear hx10
       try clear c12
       try clear c12b0
       try clear c13
       try clear c13b0
       try clear c14
       try clear c17
       try clear c20
       (try clear Z11_0 Z11_1 Z11_2 Z11_3 Y11_0 Y11_1 Y11_2 Y11_3)
       (try clear Z15_0 Z15_1 Z15_2 Z15_3 Y15_0 Y15_1 Y15_2 Y15_3)
       (try clear Z16_0 Z16_1 Z16_10 Z16_11 Z16_12 Z16_13 Z16_14 Z16_15 Z16_16 Z16_17 Z16_18 Z16_19 Z16_2 Z16_20 Z16_21 Z16_22 Z16_23 Z16_24 Z16_3 Z16_4 Z16_5 Z16_6 Z16_7 Z16_8 Z16_9 Y16_0 Y16_1 Y16_10 Y16_11 Y16_12 Y16_13 Y16_14 Y16_15 Y16_16 Y16_17 Y16_18 Y16_19 Y16_2 Y16_20 Y16_21 Y16_22 Y16_23 Y16_24 Y16_3 Y16_4 Y16_5 Y16_6 Y16_7 Y16_8 Y16_9)
       (try clear Z18_0 Z18_1 Z18_2 Z18_3 Y18_0 Y18_1 Y18_2 Y18_3)
       (try clear Z19_0 Z19_1 Z19_10 Z19_11 Z19_12 Z19_13 Z19_14 Z19_15 Z19_16 Z19_17 Z19_18 Z19_19 Z19_2 Z19_20 Z19_21 Z19_22 Z19_23 Z19_24 Z19_3 Z19_4 Z19_5 Z19_6 Z19_7 Z19_8 Z19_9 Y19_0 Y19_1 Y19_10 Y19_11 Y19_12 Y19_13 Y19_14 Y19_15 Y19_16 Y19_17 Y19_18 Y19_19 Y19_2 Y19_20 Y19_21 Y19_22 Y19_23 Y19_24 Y19_3 Y19_4 Y19_5 Y19_6 Y19_7 Y19_8 Y19_9)
       (try clear Z21_0 Z21_1 Z21_2 Z21_3 Y21_0 Y21_1 Y21_2 Y21_3)
       (try clear Z4_0 Z4_1 Z4_10 Z4_11 Z4_12 Z4_13 Z4_14 Z4_15 Z4_16 Z4_17 Z4_18 Z4_19 Z4_2 Z4_20 Z4_21 Z4_22 Z4_23 Z4_24 Z4_3 Z4_4 Z4_5 Z4_6 Z4_7 Z4_8 Z4_9 Y4_0 Y4_1 Y4_10 Y4_11 Y4_12 Y4_13 Y4_14 Y4_15 Y4_16 Y4_17 Y4_18 Y4_19 Y4_2 Y4_20 Y4_21 Y4_22 Y4_23 Y4_24 Y4_3 Y4_4 Y4_5 Y4_6 Y4_7 Y4_8 Y4_9)
       try clear hx105_0
       try clear hx105_1
       try clear hx105_2
       try clear hx105_3
       try clear p105
       try clear p2
       try clear q105
       obtain ⟨kq, x39_7, rfl, HA, HJ7, BK104, BK106, HB⟩ := hcut
       cases kq with
       | zero => exact absurd HA.out (by simp [arrears_Days.j1])
       | succ kj7 =>
        have H := HA.out
        clear HA
        simp only [arrears_Days.j1] at H
        by_cases c22 : x39_7 = true
        ·subst c22
         have H1 : (some (wrap64 (a1 - ((rd_T54 l0_23 x12_1).f1)))) = some r := by rw [if_pos rfl] at H; exact H
         clear H
         have H := H1
         clear H1
         obtain rfl := Option.some.inj H
         have hnb23 := NB106_104.out
         have hnc23 := NB104_106.out
         obtain ⟨Z24_0, Z24_1, Z24_2, Z24_3, Y24_0, Y24_1, Y24_2, Y24_3⟩ := cz4_ BK106.out
         go_wp2
         go_ret
         exact ⟨qe_, qb2_ GE104.out GE106.out HB.out⟩
        ·replace c22 := Bool.eq_false_iff.mpr c22
         subst c22
         have H1 : (arrears_Days.l0 kj7 a1 (wrap64 (x5_1 + ((rd_T54 l0_23 x12_1).f2))) (wrap64 (x6_1 + ((rd_T54 l0_23 x12_1).f3))) l0_23 (l0_23.length : Int) (wrap64 (x12_1 + 1)) a0_0 a0_1 a0_2 a0_3 a0_4 a0_5 a0_6 a0_7 a0_8 a0_9 a0_10 a0_11 a0_12 a0_13 a0_14 a0_15 a0_16 a0_17 a0_18 a0_19 a0_20 a0_21 a0_22 l0_23 l0_24) = some r := by rw [if_neg (show ¬ (false = true) by decide)] at H; exact H
         clear H
         have H := H1
         clear H1
         have H' := Aside0.mk H
         clear H
         go_wp2
         go_roundg kj7
         case measure => have := HK1.out; have := HJ7.out; omega
         case rel => exact ⟨((wrap64 (x5_1 + ((rd_T54 l0_23 x12_1).f2)))), ((wrap64 (x6_1 + ((rd_T54 l0_23 x12_1).f3)))), (wrap64 (x12_1 + 1)), qs_, qs_, qs_, H', ⟨by have := HK1.out; have := HJ7.out; omega⟩, ⟨qk_ BK104.out⟩, ⟨qb2_ GE104.out GE106.out HB.out⟩⟩
     ·rw [if_neg c7] at H
      exact absurd H (by simp)
    ·rw [if_neg c6] at H
     exact absurd H (by simp)
   ·rw [if_neg c5] at H
    have c5b0 : decide (x12_1 < (l0_23.length : Int)) = false := decide_eq_false c5
    clear c5
    obtain rfl := Option.some.inj H
    go_wp2
    go_ret
    exact ⟨qe_, qb1_ GE104.out HB.out⟩
def provision_Stage.f (k : Nat) (a0_0 a0_1 a0_2 a0_3 a0_4 a0_5 a0_6 a0_7 a0_8 a0_9 a0_10 a0_11 a0_12 a0_13 a0_14 a0_15 a0_16 a0_17 a0_18 a0_19 a0_20 : Int) (a0_21 a0_22 : ByteArray) (l0_23 : List (S54)) (l0_24 : List (S50)) (a1 : Int) : Option (Int) := if a0_2 = 1 then ((arrears_Days.f k a0_0 a0_1 a0_2 a0_3 a0_4 a0_5 a0_6 a0_7 a0_8 a0_9 a0_10 a0_11 a0_12 a0_13 a0_14 a0_15 a0_16 a0_17 a0_18 a0_19 a0_20 a0_21 a0_22 l0_23 l0_24 a1).bind fun t109 => ((arrears_Bucket.f t109).bind fun t110 => (if t110 = (0 : Int) then (some 1) else (if t110 = (1 : Int) then (some 1) else (if t110 = (2 : Int) then (some 2) else (if t110 = (3 : Int) then (some 2) else (if t110 = (4 : Int) then (some 3) else (none)))))))) else (some 0)
theorem provision_Stage.mono : ∀ a0 a1 a2 a3 a4 a5 a6 a7 a8 a9 a10 a11 a12 a13 a14 a15 a16 a17 a18 a19 a20 a21 a22 a23 a24 a25 k, LeO (provision_Stage.f k a0 a1 a2 a3 a4 a5 a6 a7 a8 a9 a10 a11 a12 a13 a14 a15 a16 a17 a18 a19 a20 a21 a22 a23 a24 a25) (provision_Stage.f (k + 1) a0 a1 a2 a3 a4 a5 a6 a7 a8 a9 a10 a11 a12 a13 a14 a15 a16 a17 a18 a19 a20 a21 a22 a23 a24 a25) := by
 intro a0 a1 a2 a3 a4 a5 a6 a7 a8 a9 a10 a11 a12 a13 a14 a15 a16 a17 a18 a19 a20 a21 a22 a23 a24 a25 k
 unfold provision_Stage.f
 repeat' first
   | (with_reducible exact arrears_Days.mono _ _ _ _ _ _ _ _ _ _ _ _ _ _ _ _ _ _ _ _ _ _ _ _ _ _ _)
   | (with_reducible exact LeO.refl _)
   | (with_reducible exact LeO.none _)
   | (with_reducible refine LeO.ite ?_ ?_)
   | (with_reducible refine LeO.bind ?_ (fun _ => ?_))
   | exact arrears_Days.mono _ _ _ _ _ _ _ _ _ _ _ _ _ _ _ _ _ _ _ _ _ _ _ _ _ _ _
   | exact LeO.none _
   | refine LeO.ite ?_ ?_
   | refine LeO.bind ?_ (fun _ => ?_)
set_option maxHeartbeats 8000000 in
set_option maxRecDepth 100000 in
theorem provision_Stage.calls (k : Nat) (a0_0 a0_1 a0_2 a0_3 a0_4 a0_5 a0_6 a0_7 a0_8 a0_9 a0_10 a0_11 a0_12 a0_13 a0_14 a0_15 a0_16 a0_17 a0_18 a0_19 a0_20 : Int) (a0_21 a0_22 : ByteArray) (A0_23 : Option Addr) (c0_23 : Nat) (l0_23 : List (S54)) (A0_24 : Option Addr) (c0_24 : Nat) (l0_24 : List (S50)) (a1 r : Int) (w : World) (hG : GW w) (hr0_23 : Kd.C k54 w A0_23 l0_23.length l0_23) (hc0_23 : l0_23.length ≤ c0_23) (hr0_24 : Kd.C k50 w A0_24 l0_24.length l0_24) (hc0_24 : l0_24.length ≤ c0_24) (h : provision_Stage.f k a0_0 a0_1 a0_2 a0_3 a0_4 a0_5 a0_6 a0_7 a0_8 a0_9 a0_10 a0_11 a0_12 a0_13 a0_14 a0_15 a0_16 a0_17 a0_18 a0_19 a0_20 a0_21 a0_22 l0_23 l0_24 a1 = some r) :
  Calls Tryd.prog 9 #[.agg #[.int .i64 a0_0, .int .i64 a0_1, .int .i64 a0_2, .int .i64 a0_3, .int .i64 a0_4, .int .i64 a0_5, .int .i64 a0_6, .int .i64 a0_7, .int .i64 a0_8, .int .i64 a0_9, .int .i64 a0_10, .int .i64 a0_11, .int .i64 a0_12, .int .i64 a0_13, .int .i64 a0_14, .int .i64 a0_15, .int .i64 a0_16, .int .i64 a0_17, .int .i64 a0_18, .int .i64 a0_19, .int .i64 a0_20, .string a0_21, .string a0_22, .slice A0_23 l0_23.length c0_23, .slice A0_24 l0_24.length c0_24], .int .i64 a1] w fun e w' => e = .returned (.int .i64 r) ∧ Below w.heap.size w w' := by
 have hu27 := Tryd.underlying27
 have hu51 := Tryd.underlying51
 have HR0_23 := Aside0.mk hr0_23
 have HC0_23 := Aside0.mk hc0_23
 clear hr0_23 hc0_23
 have HR0_24 := Aside0.mk hr0_24
 have HC0_24 := Aside0.mk hc0_24
 clear hr0_24 hc0_24
 have HB := Aside0.mk (Below.refl w.heap.size w)
 have H : (if a0_2 = 1 then ((arrears_Days.f k a0_0 a0_1 a0_2 a0_3 a0_4 a0_5 a0_6 a0_7 a0_8 a0_9 a0_10 a0_11 a0_12 a0_13 a0_14 a0_15 a0_16 a0_17 a0_18 a0_19 a0_20 a0_21 a0_22 l0_23 l0_24 a1).bind fun t109 => ((arrears_Bucket.f t109).bind fun t110 => (if t110 = (0 : Int) then (some 1) else (if t110 = (1 : Int) then (some 1) else (if t110 = (2 : Int) then (some 2) else (if t110 = (3 : Int) then (some 2) else (if t110 = (4 : Int) then (some 3) else (none)))))))) else (some 0)) = some r := h
 clear h
 by_cases c3 : a0_2 = 1
 ·rw [if_pos c3] at H
  have c3b0 : (a0_2 == 1) = true := beq_iff_eq.mpr c3
  have c3b1 : (a0_2 != 1) = false := bne_eq_false_iff_eq.mpr c3
  clear c3
  replace H := Option.bind_eq_some_iff.mp H
  obtain ⟨t109, A40, H⟩ := H
  replace H : ((arrears_Bucket.f t109).bind fun t110 => (if t110 = (0 : Int) then (some 1) else (if t110 = (1 : Int) then (some 1) else (if t110 = (2 : Int) then (some 2) else (if t110 = (3 : Int) then (some 2) else (if t110 = (4 : Int) then (some 3) else (none))))))) = some r := H
  have A4 := Aside0.mk A40
  clear A40
  replace H := Option.bind_eq_some_iff.mp H
  obtain ⟨t110, A50, H⟩ := H
  replace H : (if t110 = (0 : Int) then (some 1) else (if t110 = (1 : Int) then (some 1) else (if t110 = (2 : Int) then (some 2) else (if t110 = (3 : Int) then (some 2) else (if t110 = (4 : Int) then (some 3) else (none)))))) = some r := H
  have A5 := Aside0.mk A50
  clear A50
  by_cases c6 : t110 = (0 : Int)
  ·rw [if_pos c6] at H
   subst c6
   obtain rfl := Option.some.inj H
   go_enter Tryd.func9, Tryd.ntmps9
   go_wp2_with (first | ((with_reducible refine gate_load_ (t := 27) rfl ?_); refine ld_ (t := 27) (cs := ?cs_) Tryd.underlying27 rfl rfl rfl ?hb_ rfl ?hi_ ?_; (case hb_ => (repeat (first | (with_reducible first | refine blk_drewN ?_ _ | refine blk_drew ?_ | refine blk_alloc ?_ _) | refine blk_far ?_ NB107_108.out _ | refine blk_set ?_ _ _)); (with_reducible first | exact BK107.out)); (case hi_ => kernel_rfl)) | ((with_reducible refine gate_dst (N := 2) rfl ?_); refine be_ (N := 2) (cs := #[.int .i64 a0_0, .int .i64 a0_1, .int .i64 a0_2, .int .i64 a0_3, .int .i64 a0_4, .int .i64 a0_5, .int .i64 a0_6, .int .i64 a0_7, .int .i64 a0_8, .int .i64 a0_9, .int .i64 a0_10, .int .i64 a0_11, .int .i64 a0_12, .int .i64 a0_13, .int .i64 a0_14, .int .i64 a0_15, .int .i64 a0_16, .int .i64 a0_17, .int .i64 a0_18, .int .i64 a0_19, .int .i64 a0_20, .string a0_21, .string a0_22, .slice A0_23 l0_23.length c0_23, .slice A0_24 l0_24.length c0_24]) (t := 27) ?_; intro gb107 hg w7 hbox hb; have n0_ := Aside0.mk (below_step (qb_ HB.out) hb); have n1_ := Aside0.mk (hbox); have n2_ := Aside0.mk (bz_ hg (qb_ HB.out) : w.heap.size ≤ gb107); have n3_ := n2_; clear HB; have HB := n0_; have BK107 := n1_; have GW107 := n2_; have GE107 := n3_; clear n0_ n1_ n2_ n3_; clear hb hbox hg; obtain ⟨Z8_0, Z8_1, Z8_2, Z8_3, Z8_4, Z8_5, Z8_6, Z8_7, Z8_8, Z8_9, Z8_10, Z8_11, Z8_12, Z8_13, Z8_14, Z8_15, Z8_16, Z8_17, Z8_18, Z8_19, Z8_20, Z8_21, Z8_22, Z8_23, Z8_24, Y8_0, Y8_1, Y8_2, Y8_3, Y8_4, Y8_5, Y8_6, Y8_7, Y8_8, Y8_9, Y8_10, Y8_11, Y8_12, Y8_13, Y8_14, Y8_15, Y8_16, Y8_17, Y8_18, Y8_19, Y8_20, Y8_21, Y8_22, Y8_23, Y8_24⟩ := cz25_ BK107.out) | ((with_reducible refine gate_dst (N := 5) rfl ?_); refine be_ (N := 5) (cs := #[.int .i64 0, .int .i64 0, .int .i64 0, .int .i64 0, .int .i64 0]) (t := 51) ?_; intro gb108 hg w9 hbox hb; have n0_ := Aside0.mk (blk_below (qk_ BK107.out) hb); have n1_ := Aside0.mk (below_step (qb1_ GE107.out HB.out) hb); have n2_ := Aside0.mk (hbox); have n3_ := Aside0.mk (bz_ hg (qb1_ GE107.out HB.out) : w.heap.size ≤ gb108); have n4_ := n3_; have n5_ := Aside0.mk (nl_ hg (qk_ BK107.out) : gb107 ≠ gb108); have n6_ := Aside0.mk (ng_ hg (qk_ BK107.out) : gb108 ≠ gb107); clear BK107; clear HB; have BK107 := n0_; have HB := n1_; have BK108 := n2_; have GW108 := n3_; have GE108 := n4_; have NB107_108 := n5_; have NB108_107 := n6_; clear n0_ n1_ n2_ n3_ n4_ n5_ n6_; clear hb hbox hg; have hnb10 := NB108_107.out; have hnc10 := NB107_108.out; obtain ⟨Z11_0, Z11_1, Z11_2, Z11_3, Z11_4, Y11_0, Y11_1, Y11_2, Y11_3, Y11_4⟩ := cz5_ BK108.out; obtain ⟨Z12_0, Z12_1, Z12_2, Z12_3, Z12_4, Z12_5, Z12_6, Z12_7, Z12_8, Z12_9, Z12_10, Z12_11, Z12_12, Z12_13, Z12_14, Z12_15, Z12_16, Z12_17, Z12_18, Z12_19, Z12_20, Z12_21, Z12_22, Z12_23, Z12_24, Y12_0, Y12_1, Y12_2, Y12_3, Y12_4, Y12_5, Y12_6, Y12_7, Y12_8, Y12_9, Y12_10, Y12_11, Y12_12, Y12_13, Y12_14, Y12_15, Y12_16, Y12_17, Y12_18, Y12_19, Y12_20, Y12_21, Y12_22, Y12_23, Y12_24⟩ := cz25_ BK107.out) | ((with_reducible refine gate_callee (f := 26) rfl ?_); refine goesL_ (some 12) rfl rfl Tryd.func26 (by kernel_rfl) rfl #[.agg #[.int .i64 a0_0, .int .i64 a0_1, .int .i64 a0_2, .int .i64 a0_3, .int .i64 a0_4, .int .i64 a0_5, .int .i64 a0_6, .int .i64 a0_7, .int .i64 a0_8, .int .i64 a0_9, .int .i64 a0_10, .int .i64 a0_11, .int .i64 a0_12, .int .i64 a0_13, .int .i64 a0_14, .int .i64 a0_15, .int .i64 a0_16, .int .i64 a0_17, .int .i64 a0_18, .int .i64 a0_19, .int .i64 a0_20, .string a0_21, .string a0_22, .slice A0_23 l0_23.length c0_23, .slice A0_24 l0_24.length c0_24], .int .i64 a1] rfl ql_ ?_; (with_reducible refine (arrears_Days.calls k a0_0 a0_1 a0_2 a0_3 a0_4 a0_5 a0_6 a0_7 a0_8 a0_9 a0_10 a0_11 a0_12 a0_13 a0_14 a0_15 a0_16 a0_17 a0_18 a0_19 a0_20 a0_21 a0_22 _ _ l0_23 _ _ l0_24 a1 t109 _ ?side1 ?side2 ?side3 ?side4 A4.out).mono ?_); (case side1 => exact Kd.C_below HR0_23.out (qb2_ GE107.out GE108.out HB.out)); (case side2 => exact HC0_23.out); (case side3 => exact Kd.C_below HR0_24.out (qb2_ GE107.out GE108.out HB.out)); (case side4 => exact HC0_24.out); rintro e w13 ⟨rfl, hb⟩; refine ⟨_, rfl, ?_⟩; have n0_ := Aside0.mk (blk_below (g := gb107) (o := .cells #[.int .i64 a0_0, .int .i64 a0_1, .int .i64 a0_2, .int .i64 a0_3, .int .i64 a0_4, .int .i64 a0_5, .int .i64 a0_6, .int .i64 a0_7, .int .i64 a0_8, .int .i64 a0_9, .int .i64 a0_10, .int .i64 a0_11, .int .i64 a0_12, .int .i64 a0_13, .int .i64 a0_14, .int .i64 a0_15, .int .i64 a0_16, .int .i64 a0_17, .int .i64 a0_18, .int .i64 a0_19, .int .i64 a0_20, .string a0_21, .string a0_22, .slice A0_23 l0_23.length c0_23, .slice A0_24 l0_24.length c0_24] 27 (0, 0)) (by (with_reducible repeat (first | refine blk_drewN ?_ _ | refine blk_drew ?_ | refine blk_alloc ?_ _)); refine blk_far ?_ NB107_108.out _; (with_reducible repeat (first | refine blk_drewN ?_ _ | refine blk_drew ?_ | refine blk_alloc ?_ _)); refine blk_far ?_ NB107_108.out _; (with_reducible repeat (first | refine blk_drewN ?_ _ | refine blk_drew ?_ | refine blk_alloc ?_ _)); refine blk_far ?_ NB107_108.out _; (with_reducible repeat (first | refine blk_drewN ?_ _ | refine blk_drew ?_ | refine blk_alloc ?_ _)); refine blk_far ?_ NB107_108.out _; (with_reducible repeat (first | refine blk_drewN ?_ _ | refine blk_drew ?_ | refine blk_alloc ?_ _)); refine blk_far ?_ NB107_108.out _; (with_reducible repeat (first | refine blk_drewN ?_ _ | refine blk_drew ?_ | refine blk_alloc ?_ _)); exact BK107.out) hb); have n1_ := Aside0.mk (blk_below (g := gb108) (o := .cells #[.int .i64 1, .int .i64 1, .int .i64 2, .int .i64 2, .int .i64 3] 51 (0, 0)) (by (with_reducible repeat (first | refine blk_drewN ?_ _ | refine blk_drew ?_ | refine blk_alloc ?_ _)); refine blk_put (cs := #[.int .i64 1, .int .i64 1, .int .i64 2, .int .i64 2, .int .i64 0]) ?_ 4 _ rfl; (with_reducible repeat (first | refine blk_drewN ?_ _ | refine blk_drew ?_ | refine blk_alloc ?_ _)); refine blk_put (cs := #[.int .i64 1, .int .i64 1, .int .i64 2, .int .i64 0, .int .i64 0]) ?_ 3 _ rfl; (with_reducible repeat (first | refine blk_drewN ?_ _ | refine blk_drew ?_ | refine blk_alloc ?_ _)); refine blk_put (cs := #[.int .i64 1, .int .i64 1, .int .i64 0, .int .i64 0, .int .i64 0]) ?_ 2 _ rfl; (with_reducible repeat (first | refine blk_drewN ?_ _ | refine blk_drew ?_ | refine blk_alloc ?_ _)); refine blk_put (cs := #[.int .i64 1, .int .i64 0, .int .i64 0, .int .i64 0, .int .i64 0]) ?_ 1 _ rfl; (with_reducible repeat (first | refine blk_drewN ?_ _ | refine blk_drew ?_ | refine blk_alloc ?_ _)); refine blk_put (cs := #[.int .i64 0, .int .i64 0, .int .i64 0, .int .i64 0, .int .i64 0]) ?_ 0 _ rfl; (with_reducible repeat (first | refine blk_drewN ?_ _ | refine blk_drew ?_ | refine blk_alloc ?_ _)); exact BK108.out) hb); have n2_ := Aside0.mk (below_step (qb2_ GE107.out GE108.out HB.out) hb); clear BK107; clear BK108; clear HB; have BK107 := n0_; have BK108 := n1_; have HB := n2_; clear n0_ n1_ n2_; (try clear hb); (try clear hb2); (try clear hk); (try clear hi)) | ((with_reducible refine gate_callee (f := 25) rfl ?_); refine goesL_ (some 13) rfl rfl Tryd.func25 (by kernel_rfl) rfl #[.int .i64 t109] rfl ql_ ?_; (with_reducible refine (arrears_Bucket.calls (hG := by first | exact hG | (with_reducible exact GW.below hG (qb2_ GE107.out GE108.out HB.out)) | (with_reducible repeat (first | exact hG | apply GW.drewN | apply GW.drew))) t109 0 _ A5.out).mono ?_); rintro e w14 ⟨rfl, hb⟩; refine ⟨_, rfl, ?_⟩; have n0_ := Aside0.mk (blk_below (qk_ BK107.out) hb); have n1_ := Aside0.mk (blk_below (qk_ BK108.out) hb); have n2_ := Aside0.mk (below_step (qb2_ GE107.out GE108.out HB.out) hb); clear BK107; clear BK108; clear HB; have BK107 := n0_; have BK108 := n1_; have HB := n2_; clear n0_ n1_ n2_; (try clear hb); (try clear hb2); (try clear hk); (try clear hi); obtain ⟨Z15_0, Z15_1, Z15_2, Z15_3, Z15_4, Y15_0, Y15_1, Y15_2, Y15_3, Y15_4⟩ := cz5_ BK108.out))
   go_ret
   exact ⟨qe_, qb2_ GE107.out GE108.out HB.out⟩
  ·rw [if_neg c6] at H
   have c6b0 : (t110 == (0 : Int)) = false := beq_eq_false_iff_ne.mpr c6
   have c6b1 : (t110 != (0 : Int)) = true := bne_iff_ne.mpr c6
   by_cases c16 : t110 = (1 : Int)
   ·rw [if_pos c16] at H
    subst c16
    obtain rfl := Option.some.inj H
    go_enter Tryd.func9, Tryd.ntmps9
    go_wp2_with (first | ((with_reducible refine gate_load_ (t := 27) rfl ?_); refine ld_ (t := 27) (cs := ?cs_) Tryd.underlying27 rfl rfl rfl ?hb_ rfl ?hi_ ?_; (case hb_ => (repeat (first | (with_reducible first | refine blk_drewN ?_ _ | refine blk_drew ?_ | refine blk_alloc ?_ _) | refine blk_far ?_ NB107_108.out _ | refine blk_set ?_ _ _)); (with_reducible first | exact BK107.out)); (case hi_ => kernel_rfl)) | ((with_reducible refine gate_dst (N := 2) rfl ?_); refine be_ (N := 2) (cs := #[.int .i64 a0_0, .int .i64 a0_1, .int .i64 a0_2, .int .i64 a0_3, .int .i64 a0_4, .int .i64 a0_5, .int .i64 a0_6, .int .i64 a0_7, .int .i64 a0_8, .int .i64 a0_9, .int .i64 a0_10, .int .i64 a0_11, .int .i64 a0_12, .int .i64 a0_13, .int .i64 a0_14, .int .i64 a0_15, .int .i64 a0_16, .int .i64 a0_17, .int .i64 a0_18, .int .i64 a0_19, .int .i64 a0_20, .string a0_21, .string a0_22, .slice A0_23 l0_23.length c0_23, .slice A0_24 l0_24.length c0_24]) (t := 27) ?_; intro gb107 hg w17 hbox hb; have n0_ := Aside0.mk (below_step (qb_ HB.out) hb); have n1_ := Aside0.mk (hbox); have n2_ := Aside0.mk (bz_ hg (qb_ HB.out) : w.heap.size ≤ gb107); have n3_ := n2_; clear HB; have HB := n0_; have BK107 := n1_; have GW107 := n2_; have GE107 := n3_; clear n0_ n1_ n2_ n3_; clear hb hbox hg; obtain ⟨Z18_0, Z18_1, Z18_2, Z18_3, Z18_4, Z18_5, Z18_6, Z18_7, Z18_8, Z18_9, Z18_10, Z18_11, Z18_12, Z18_13, Z18_14, Z18_15, Z18_16, Z18_17, Z18_18, Z18_19, Z18_20, Z18_21, Z18_22, Z18_23, Z18_24, Y18_0, Y18_1, Y18_2, Y18_3, Y18_4, Y18_5, Y18_6, Y18_7, Y18_8, Y18_9, Y18_10, Y18_11, Y18_12, Y18_13, Y18_14, Y18_15, Y18_16, Y18_17, Y18_18, Y18_19, Y18_20, Y18_21, Y18_22, Y18_23, Y18_24⟩ := cz25_ BK107.out) | ((with_reducible refine gate_dst (N := 5) rfl ?_); refine be_ (N := 5) (cs := #[.int .i64 0, .int .i64 0, .int .i64 0, .int .i64 0, .int .i64 0]) (t := 51) ?_; intro gb108 hg w19 hbox hb; have n0_ := Aside0.mk (blk_below (qk_ BK107.out) hb); have n1_ := Aside0.mk (below_step (qb1_ GE107.out HB.out) hb); have n2_ := Aside0.mk (hbox); have n3_ := Aside0.mk (bz_ hg (qb1_ GE107.out HB.out) : w.heap.size ≤ gb108); have n4_ := n3_; have n5_ := Aside0.mk (nl_ hg (qk_ BK107.out) : gb107 ≠ gb108); have n6_ := Aside0.mk (ng_ hg (qk_ BK107.out) : gb108 ≠ gb107); clear BK107; clear HB; have BK107 := n0_; have HB := n1_; have BK108 := n2_; have GW108 := n3_; have GE108 := n4_; have NB107_108 := n5_; have NB108_107 := n6_; clear n0_ n1_ n2_ n3_ n4_ n5_ n6_; clear hb hbox hg; have hnb20 := NB108_107.out; have hnc20 := NB107_108.out; obtain ⟨Z21_0, Z21_1, Z21_2, Z21_3, Z21_4, Y21_0, Y21_1, Y21_2, Y21_3, Y21_4⟩ := cz5_ BK108.out; obtain ⟨Z22_0, Z22_1, Z22_2, Z22_3, Z22_4, Z22_5, Z22_6, Z22_7, Z22_8, Z22_9, Z22_10, Z22_11, Z22_12, Z22_13, Z22_14, Z22_15, Z22_16, Z22_17, Z22_18, Z22_19, Z22_20, Z22_21, Z22_22, Z22_23, Z22_24, Y22_0, Y22_1, Y22_2, Y22_3, Y22_4, Y22_5, Y22_6, Y22_7, Y22_8, Y22_9, Y22_10, Y22_11, Y22_12, Y22_13, Y22_14, Y22_15, Y22_16, Y22_17, Y22_18, Y22_19, Y22_20, Y22_21, Y22_22, Y22_23, Y22_24⟩ := cz25_ BK107.out) | ((with_reducible refine gate_callee (f := 26) rfl ?_); refine goesL_ (some 12) rfl rfl Tryd.func26 (by kernel_rfl) rfl #[.agg #[.int .i64 a0_0, .int .i64 a0_1, .int .i64 a0_2, .int .i64 a0_3, .int .i64 a0_4, .int .i64 a0_5, .int .i64 a0_6, .int .i64 a0_7, .int .i64 a0_8, .int .i64 a0_9, .int .i64 a0_10, .int .i64 a0_11, .int .i64 a0_12, .int .i64 a0_13, .int .i64 a0_14, .int .i64 a0_15, .int .i64 a0_16, .int .i64 a0_17, .int .i64 a0_18, .int .i64 a0_19, .int .i64 a0_20, .string a0_21, .string a0_22, .slice A0_23 l0_23.length c0_23, .slice A0_24 l0_24.length c0_24], .int .i64 a1] rfl ql_ ?_; (with_reducible refine (arrears_Days.calls k a0_0 a0_1 a0_2 a0_3 a0_4 a0_5 a0_6 a0_7 a0_8 a0_9 a0_10 a0_11 a0_12 a0_13 a0_14 a0_15 a0_16 a0_17 a0_18 a0_19 a0_20 a0_21 a0_22 _ _ l0_23 _ _ l0_24 a1 t109 _ ?side1 ?side2 ?side3 ?side4 A4.out).mono ?_); (case side1 => exact Kd.C_below HR0_23.out (qb2_ GE107.out GE108.out HB.out)); (case side2 => exact HC0_23.out); (case side3 => exact Kd.C_below HR0_24.out (qb2_ GE107.out GE108.out HB.out)); (case side4 => exact HC0_24.out); rintro e w23 ⟨rfl, hb⟩; refine ⟨_, rfl, ?_⟩; have n0_ := Aside0.mk (blk_below (g := gb107) (o := .cells #[.int .i64 a0_0, .int .i64 a0_1, .int .i64 a0_2, .int .i64 a0_3, .int .i64 a0_4, .int .i64 a0_5, .int .i64 a0_6, .int .i64 a0_7, .int .i64 a0_8, .int .i64 a0_9, .int .i64 a0_10, .int .i64 a0_11, .int .i64 a0_12, .int .i64 a0_13, .int .i64 a0_14, .int .i64 a0_15, .int .i64 a0_16, .int .i64 a0_17, .int .i64 a0_18, .int .i64 a0_19, .int .i64 a0_20, .string a0_21, .string a0_22, .slice A0_23 l0_23.length c0_23, .slice A0_24 l0_24.length c0_24] 27 (0, 0)) (by (with_reducible repeat (first | refine blk_drewN ?_ _ | refine blk_drew ?_ | refine blk_alloc ?_ _)); refine blk_far ?_ NB107_108.out _; (with_reducible repeat (first | refine blk_drewN ?_ _ | refine blk_drew ?_ | refine blk_alloc ?_ _)); refine blk_far ?_ NB107_108.out _; (with_reducible repeat (first | refine blk_drewN ?_ _ | refine blk_drew ?_ | refine blk_alloc ?_ _)); refine blk_far ?_ NB107_108.out _; (with_reducible repeat (first | refine blk_drewN ?_ _ | refine blk_drew ?_ | refine blk_alloc ?_ _)); refine blk_far ?_ NB107_108.out _; (with_reducible repeat (first | refine blk_drewN ?_ _ | refine blk_drew ?_ | refine blk_alloc ?_ _)); refine blk_far ?_ NB107_108.out _; (with_reducible repeat (first | refine blk_drewN ?_ _ | refine blk_drew ?_ | refine blk_alloc ?_ _)); exact BK107.out) hb); have n1_ := Aside0.mk (blk_below (g := gb108) (o := .cells #[.int .i64 1, .int .i64 1, .int .i64 2, .int .i64 2, .int .i64 3] 51 (0, 0)) (by (with_reducible repeat (first | refine blk_drewN ?_ _ | refine blk_drew ?_ | refine blk_alloc ?_ _)); refine blk_put (cs := #[.int .i64 1, .int .i64 1, .int .i64 2, .int .i64 2, .int .i64 0]) ?_ 4 _ rfl; (with_reducible repeat (first | refine blk_drewN ?_ _ | refine blk_drew ?_ | refine blk_alloc ?_ _)); refine blk_put (cs := #[.int .i64 1, .int .i64 1, .int .i64 2, .int .i64 0, .int .i64 0]) ?_ 3 _ rfl; (with_reducible repeat (first | refine blk_drewN ?_ _ | refine blk_drew ?_ | refine blk_alloc ?_ _)); refine blk_put (cs := #[.int .i64 1, .int .i64 1, .int .i64 0, .int .i64 0, .int .i64 0]) ?_ 2 _ rfl; (with_reducible repeat (first | refine blk_drewN ?_ _ | refine blk_drew ?_ | refine blk_alloc ?_ _)); refine blk_put (cs := #[.int .i64 1, .int .i64 0, .int .i64 0, .int .i64 0, .int .i64 0]) ?_ 1 _ rfl; (with_reducible repeat (first | refine blk_drewN ?_ _ | refine blk_drew ?_ | refine blk_alloc ?_ _)); refine blk_put (cs := #[.int .i64 0, .int .i64 0, .int .i64 0, .int .i64 0, .int .i64 0]) ?_ 0 _ rfl; (with_reducible repeat (first | refine blk_drewN ?_ _ | refine blk_drew ?_ | refine blk_alloc ?_ _)); exact BK108.out) hb); have n2_ := Aside0.mk (below_step (qb2_ GE107.out GE108.out HB.out) hb); clear BK107; clear BK108; clear HB; have BK107 := n0_; have BK108 := n1_; have HB := n2_; clear n0_ n1_ n2_; (try clear hb); (try clear hb2); (try clear hk); (try clear hi)) | ((with_reducible refine gate_callee (f := 25) rfl ?_); refine goesL_ (some 13) rfl rfl Tryd.func25 (by kernel_rfl) rfl #[.int .i64 t109] rfl ql_ ?_; (with_reducible refine (arrears_Bucket.calls (hG := by first | exact hG | (with_reducible exact GW.below hG (qb2_ GE107.out GE108.out HB.out)) | (with_reducible repeat (first | exact hG | apply GW.drewN | apply GW.drew))) t109 1 _ A5.out).mono ?_); rintro e w24 ⟨rfl, hb⟩; refine ⟨_, rfl, ?_⟩; have n0_ := Aside0.mk (blk_below (qk_ BK107.out) hb); have n1_ := Aside0.mk (blk_below (qk_ BK108.out) hb); have n2_ := Aside0.mk (below_step (qb2_ GE107.out GE108.out HB.out) hb); clear BK107; clear BK108; clear HB; have BK107 := n0_; have BK108 := n1_; have HB := n2_; clear n0_ n1_ n2_; (try clear hb); (try clear hb2); (try clear hk); (try clear hi); obtain ⟨Z25_0, Z25_1, Z25_2, Z25_3, Z25_4, Y25_0, Y25_1, Y25_2, Y25_3, Y25_4⟩ := cz5_ BK108.out))
    go_ret
    exact ⟨qe_, qb2_ GE107.out GE108.out HB.out⟩
   ·rw [if_neg c16] at H
    have c16b0 : (t110 == (1 : Int)) = false := beq_eq_false_iff_ne.mpr c16
    have c16b1 : (t110 != (1 : Int)) = true := bne_iff_ne.mpr c16
    by_cases c26 : t110 = (2 : Int)
    ·rw [if_pos c26] at H
     subst c26
     obtain rfl := Option.some.inj H
     go_enter Tryd.func9, Tryd.ntmps9
     go_wp2_with (first | ((with_reducible refine gate_load_ (t := 27) rfl ?_); refine ld_ (t := 27) (cs := ?cs_) Tryd.underlying27 rfl rfl rfl ?hb_ rfl ?hi_ ?_; (case hb_ => (repeat (first | (with_reducible first | refine blk_drewN ?_ _ | refine blk_drew ?_ | refine blk_alloc ?_ _) | refine blk_far ?_ NB107_108.out _ | refine blk_set ?_ _ _)); (with_reducible first | exact BK107.out)); (case hi_ => kernel_rfl)) | ((with_reducible refine gate_dst (N := 2) rfl ?_); refine be_ (N := 2) (cs := #[.int .i64 a0_0, .int .i64 a0_1, .int .i64 a0_2, .int .i64 a0_3, .int .i64 a0_4, .int .i64 a0_5, .int .i64 a0_6, .int .i64 a0_7, .int .i64 a0_8, .int .i64 a0_9, .int .i64 a0_10, .int .i64 a0_11, .int .i64 a0_12, .int .i64 a0_13, .int .i64 a0_14, .int .i64 a0_15, .int .i64 a0_16, .int .i64 a0_17, .int .i64 a0_18, .int .i64 a0_19, .int .i64 a0_20, .string a0_21, .string a0_22, .slice A0_23 l0_23.length c0_23, .slice A0_24 l0_24.length c0_24]) (t := 27) ?_; intro gb107 hg w27 hbox hb; have n0_ := Aside0.mk (below_step (qb_ HB.out) hb); have n1_ := Aside0.mk (hbox); have n2_ := Aside0.mk (bz_ hg (qb_ HB.out) : w.heap.size ≤ gb107); have n3_ := n2_; clear HB; have HB := n0_; have BK107 := n1_; have GW107 := n2_; have GE107 := n3_; clear n0_ n1_ n2_ n3_; clear hb hbox hg; obtain ⟨Z28_0, Z28_1, Z28_2, Z28_3, Z28_4, Z28_5, Z28_6, Z28_7, Z28_8, Z28_9, Z28_10, Z28_11, Z28_12, Z28_13, Z28_14, Z28_15, Z28_16, Z28_17, Z28_18, Z28_19, Z28_20, Z28_21, Z28_22, Z28_23, Z28_24, Y28_0, Y28_1, Y28_2, Y28_3, Y28_4, Y28_5, Y28_6, Y28_7, Y28_8, Y28_9, Y28_10, Y28_11, Y28_12, Y28_13, Y28_14, Y28_15, Y28_16, Y28_17, Y28_18, Y28_19, Y28_20, Y28_21, Y28_22, Y28_23, Y28_24⟩ := cz25_ BK107.out) | ((with_reducible refine gate_dst (N := 5) rfl ?_); refine be_ (N := 5) (cs := #[.int .i64 0, .int .i64 0, .int .i64 0, .int .i64 0, .int .i64 0]) (t := 51) ?_; intro gb108 hg w29 hbox hb; have n0_ := Aside0.mk (blk_below (qk_ BK107.out) hb); have n1_ := Aside0.mk (below_step (qb1_ GE107.out HB.out) hb); have n2_ := Aside0.mk (hbox); have n3_ := Aside0.mk (bz_ hg (qb1_ GE107.out HB.out) : w.heap.size ≤ gb108); have n4_ := n3_; have n5_ := Aside0.mk (nl_ hg (qk_ BK107.out) : gb107 ≠ gb108); have n6_ := Aside0.mk (ng_ hg (qk_ BK107.out) : gb108 ≠ gb107); clear BK107; clear HB; have BK107 := n0_; have HB := n1_; have BK108 := n2_; have GW108 := n3_; have GE108 := n4_; have NB107_108 := n5_; have NB108_107 := n6_; clear n0_ n1_ n2_ n3_ n4_ n5_ n6_; clear hb hbox hg; have hnb30 := NB108_107.out; have hnc30 := NB107_108.out; obtain ⟨Z31_0, Z31_1, Z31_2, Z31_3, Z31_4, Y31_0, Y31_1, Y31_2, Y31_3, Y31_4⟩ := cz5_ BK108.out; obtain ⟨Z32_0, Z32_1, Z32_2, Z32_3, Z32_4, Z32_5, Z32_6, Z32_7, Z32_8, Z32_9, Z32_10, Z32_11, Z32_12, Z32_13, Z32_14, Z32_15, Z32_16, Z32_17, Z32_18, Z32_19, Z32_20, Z32_21, Z32_22, Z32_23, Z32_24, Y32_0, Y32_1, Y32_2, Y32_3, Y32_4, Y32_5, Y32_6, Y32_7, Y32_8, Y32_9, Y32_10, Y32_11, Y32_12, Y32_13, Y32_14, Y32_15, Y32_16, Y32_17, Y32_18, Y32_19, Y32_20, Y32_21, Y32_22, Y32_23, Y32_24⟩ := cz25_ BK107.out) | ((with_reducible refine gate_callee (f := 26) rfl ?_); refine goesL_ (some 12) rfl rfl Tryd.func26 (by kernel_rfl) rfl #[.agg #[.int .i64 a0_0, .int .i64 a0_1, .int .i64 a0_2, .int .i64 a0_3, .int .i64 a0_4, .int .i64 a0_5, .int .i64 a0_6, .int .i64 a0_7, .int .i64 a0_8, .int .i64 a0_9, .int .i64 a0_10, .int .i64 a0_11, .int .i64 a0_12, .int .i64 a0_13, .int .i64 a0_14, .int .i64 a0_15, .int .i64 a0_16, .int .i64 a0_17, .int .i64 a0_18, .int .i64 a0_19, .int .i64 a0_20, .string a0_21, .string a0_22, .slice A0_23 l0_23.length c0_23, .slice A0_24 l0_24.length c0_24], .int .i64 a1] rfl ql_ ?_; (with_reducible refine (arrears_Days.calls k a0_0 a0_1 a0_2 a0_3 a0_4 a0_5 a0_6 a0_7 a0_8 a0_9 a0_10 a0_11 a0_12 a0_13 a0_14 a0_15 a0_16 a0_17 a0_18 a0_19 a0_20 a0_21 a0_22 _ _ l0_23 _ _ l0_24 a1 t109 _ ?side1 ?side2 ?side3 ?side4 A4.out).mono ?_); (case side1 => exact Kd.C_below HR0_23.out (qb2_ GE107.out GE108.out HB.out)); (case side2 => exact HC0_23.out); (case side3 => exact Kd.C_below HR0_24.out (qb2_ GE107.out GE108.out HB.out)); (case side4 => exact HC0_24.out); rintro e w33 ⟨rfl, hb⟩; refine ⟨_, rfl, ?_⟩; have n0_ := Aside0.mk (blk_below (g := gb107) (o := .cells #[.int .i64 a0_0, .int .i64 a0_1, .int .i64 a0_2, .int .i64 a0_3, .int .i64 a0_4, .int .i64 a0_5, .int .i64 a0_6, .int .i64 a0_7, .int .i64 a0_8, .int .i64 a0_9, .int .i64 a0_10, .int .i64 a0_11, .int .i64 a0_12, .int .i64 a0_13, .int .i64 a0_14, .int .i64 a0_15, .int .i64 a0_16, .int .i64 a0_17, .int .i64 a0_18, .int .i64 a0_19, .int .i64 a0_20, .string a0_21, .string a0_22, .slice A0_23 l0_23.length c0_23, .slice A0_24 l0_24.length c0_24] 27 (0, 0)) (by (with_reducible repeat (first | refine blk_drewN ?_ _ | refine blk_drew ?_ | refine blk_alloc ?_ _)); refine blk_far ?_ NB107_108.out _; (with_reducible repeat (first | refine blk_drewN ?_ _ | refine blk_drew ?_ | refine blk_alloc ?_ _)); refine blk_far ?_ NB107_108.out _; (with_reducible repeat (first | refine blk_drewN ?_ _ | refine blk_drew ?_ | refine blk_alloc ?_ _)); refine blk_far ?_ NB107_108.out _; (with_reducible repeat (first | refine blk_drewN ?_ _ | refine blk_drew ?_ | refine blk_alloc ?_ _)); refine blk_far ?_ NB107_108.out _; (with_reducible repeat (first | refine blk_drewN ?_ _ | refine blk_drew ?_ | refine blk_alloc ?_ _)); refine blk_far ?_ NB107_108.out _; (with_reducible repeat (first | refine blk_drewN ?_ _ | refine blk_drew ?_ | refine blk_alloc ?_ _)); exact BK107.out) hb); have n1_ := Aside0.mk (blk_below (g := gb108) (o := .cells #[.int .i64 1, .int .i64 1, .int .i64 2, .int .i64 2, .int .i64 3] 51 (0, 0)) (by (with_reducible repeat (first | refine blk_drewN ?_ _ | refine blk_drew ?_ | refine blk_alloc ?_ _)); refine blk_put (cs := #[.int .i64 1, .int .i64 1, .int .i64 2, .int .i64 2, .int .i64 0]) ?_ 4 _ rfl; (with_reducible repeat (first | refine blk_drewN ?_ _ | refine blk_drew ?_ | refine blk_alloc ?_ _)); refine blk_put (cs := #[.int .i64 1, .int .i64 1, .int .i64 2, .int .i64 0, .int .i64 0]) ?_ 3 _ rfl; (with_reducible repeat (first | refine blk_drewN ?_ _ | refine blk_drew ?_ | refine blk_alloc ?_ _)); refine blk_put (cs := #[.int .i64 1, .int .i64 1, .int .i64 0, .int .i64 0, .int .i64 0]) ?_ 2 _ rfl; (with_reducible repeat (first | refine blk_drewN ?_ _ | refine blk_drew ?_ | refine blk_alloc ?_ _)); refine blk_put (cs := #[.int .i64 1, .int .i64 0, .int .i64 0, .int .i64 0, .int .i64 0]) ?_ 1 _ rfl; (with_reducible repeat (first | refine blk_drewN ?_ _ | refine blk_drew ?_ | refine blk_alloc ?_ _)); refine blk_put (cs := #[.int .i64 0, .int .i64 0, .int .i64 0, .int .i64 0, .int .i64 0]) ?_ 0 _ rfl; (with_reducible repeat (first | refine blk_drewN ?_ _ | refine blk_drew ?_ | refine blk_alloc ?_ _)); exact BK108.out) hb); have n2_ := Aside0.mk (below_step (qb2_ GE107.out GE108.out HB.out) hb); clear BK107; clear BK108; clear HB; have BK107 := n0_; have BK108 := n1_; have HB := n2_; clear n0_ n1_ n2_; (try clear hb); (try clear hb2); (try clear hk); (try clear hi)) | ((with_reducible refine gate_callee (f := 25) rfl ?_); refine goesL_ (some 13) rfl rfl Tryd.func25 (by kernel_rfl) rfl #[.int .i64 t109] rfl ql_ ?_; (with_reducible refine (arrears_Bucket.calls (hG := by first | exact hG | (with_reducible exact GW.below hG (qb2_ GE107.out GE108.out HB.out)) | (with_reducible repeat (first | exact hG | apply GW.drewN | apply GW.drew))) t109 2 _ A5.out).mono ?_); rintro e w34 ⟨rfl, hb⟩; refine ⟨_, rfl, ?_⟩; have n0_ := Aside0.mk (blk_below (qk_ BK107.out) hb); have n1_ := Aside0.mk (blk_below (qk_ BK108.out) hb); have n2_ := Aside0.mk (below_step (qb2_ GE107.out GE108.out HB.out) hb); clear BK107; clear BK108; clear HB; have BK107 := n0_; have BK108 := n1_; have HB := n2_; clear n0_ n1_ n2_; (try clear hb); (try clear hb2); (try clear hk); (try clear hi); obtain ⟨Z35_0, Z35_1, Z35_2, Z35_3, Z35_4, Y35_0, Y35_1, Y35_2, Y35_3, Y35_4⟩ := cz5_ BK108.out))
     go_ret
     exact ⟨qe_, qb2_ GE107.out GE108.out HB.out⟩
    ·rw [if_neg c26] at H
     have c26b0 : (t110 == (2 : Int)) = false := beq_eq_false_iff_ne.mpr c26
     have c26b1 : (t110 != (2 : Int)) = true := bne_iff_ne.mpr c26
     by_cases c36 : t110 = (3 : Int)
     ·rw [if_pos c36] at H
      subst c36
      obtain rfl := Option.some.inj H
      go_enter Tryd.func9, Tryd.ntmps9
      go_wp2_with (first | ((with_reducible refine gate_load_ (t := 27) rfl ?_); refine ld_ (t := 27) (cs := ?cs_) Tryd.underlying27 rfl rfl rfl ?hb_ rfl ?hi_ ?_; (case hb_ => (repeat (first | (with_reducible first | refine blk_drewN ?_ _ | refine blk_drew ?_ | refine blk_alloc ?_ _) | refine blk_far ?_ NB107_108.out _ | refine blk_set ?_ _ _)); (with_reducible first | exact BK107.out)); (case hi_ => kernel_rfl)) | ((with_reducible refine gate_dst (N := 2) rfl ?_); refine be_ (N := 2) (cs := #[.int .i64 a0_0, .int .i64 a0_1, .int .i64 a0_2, .int .i64 a0_3, .int .i64 a0_4, .int .i64 a0_5, .int .i64 a0_6, .int .i64 a0_7, .int .i64 a0_8, .int .i64 a0_9, .int .i64 a0_10, .int .i64 a0_11, .int .i64 a0_12, .int .i64 a0_13, .int .i64 a0_14, .int .i64 a0_15, .int .i64 a0_16, .int .i64 a0_17, .int .i64 a0_18, .int .i64 a0_19, .int .i64 a0_20, .string a0_21, .string a0_22, .slice A0_23 l0_23.length c0_23, .slice A0_24 l0_24.length c0_24]) (t := 27) ?_; intro gb107 hg w37 hbox hb; have n0_ := Aside0.mk (below_step (qb_ HB.out) hb); have n1_ := Aside0.mk (hbox); have n2_ := Aside0.mk (bz_ hg (qb_ HB.out) : w.heap.size ≤ gb107); have n3_ := n2_; clear HB; have HB := n0_; have BK107 := n1_; have GW107 := n2_; have GE107 := n3_; clear n0_ n1_ n2_ n3_; clear hb hbox hg; obtain ⟨Z38_0, Z38_1, Z38_2, Z38_3, Z38_4, Z38_5, Z38_6, Z38_7, Z38_8, Z38_9, Z38_10, Z38_11, Z38_12, Z38_13, Z38_14, Z38_15, Z38_16, Z38_17, Z38_18, Z38_19, Z38_20, Z38_21, Z38_22, Z38_23, Z38_24, Y38_0, Y38_1, Y38_2, Y38_3, Y38_4, Y38_5, Y38_6, Y38_7, Y38_8, Y38_9, Y38_10, Y38_11, Y38_12, Y38_13, Y38_14, Y38_15, Y38_16, Y38_17, Y38_18, Y38_19, Y38_20, Y38_21, Y38_22, Y38_23, Y38_24⟩ := cz25_ BK107.out) | ((with_reducible refine gate_dst (N := 5) rfl ?_); refine be_ (N := 5) (cs := #[.int .i64 0, .int .i64 0, .int .i64 0, .int .i64 0, .int .i64 0]) (t := 51) ?_; intro gb108 hg w39 hbox hb; have n0_ := Aside0.mk (blk_below (qk_ BK107.out) hb); have n1_ := Aside0.mk (below_step (qb1_ GE107.out HB.out) hb); have n2_ := Aside0.mk (hbox); have n3_ := Aside0.mk (bz_ hg (qb1_ GE107.out HB.out) : w.heap.size ≤ gb108); have n4_ := n3_; have n5_ := Aside0.mk (nl_ hg (qk_ BK107.out) : gb107 ≠ gb108); have n6_ := Aside0.mk (ng_ hg (qk_ BK107.out) : gb108 ≠ gb107); clear BK107; clear HB; have BK107 := n0_; have HB := n1_; have BK108 := n2_; have GW108 := n3_; have GE108 := n4_; have NB107_108 := n5_; have NB108_107 := n6_; clear n0_ n1_ n2_ n3_ n4_ n5_ n6_; clear hb hbox hg; have hnb40 := NB108_107.out; have hnc40 := NB107_108.out; obtain ⟨Z41_0, Z41_1, Z41_2, Z41_3, Z41_4, Y41_0, Y41_1, Y41_2, Y41_3, Y41_4⟩ := cz5_ BK108.out; obtain ⟨Z42_0, Z42_1, Z42_2, Z42_3, Z42_4, Z42_5, Z42_6, Z42_7, Z42_8, Z42_9, Z42_10, Z42_11, Z42_12, Z42_13, Z42_14, Z42_15, Z42_16, Z42_17, Z42_18, Z42_19, Z42_20, Z42_21, Z42_22, Z42_23, Z42_24, Y42_0, Y42_1, Y42_2, Y42_3, Y42_4, Y42_5, Y42_6, Y42_7, Y42_8, Y42_9, Y42_10, Y42_11, Y42_12, Y42_13, Y42_14, Y42_15, Y42_16, Y42_17, Y42_18, Y42_19, Y42_20, Y42_21, Y42_22, Y42_23, Y42_24⟩ := cz25_ BK107.out) | ((with_reducible refine gate_callee (f := 26) rfl ?_); refine goesL_ (some 12) rfl rfl Tryd.func26 (by kernel_rfl) rfl #[.agg #[.int .i64 a0_0, .int .i64 a0_1, .int .i64 a0_2, .int .i64 a0_3, .int .i64 a0_4, .int .i64 a0_5, .int .i64 a0_6, .int .i64 a0_7, .int .i64 a0_8, .int .i64 a0_9, .int .i64 a0_10, .int .i64 a0_11, .int .i64 a0_12, .int .i64 a0_13, .int .i64 a0_14, .int .i64 a0_15, .int .i64 a0_16, .int .i64 a0_17, .int .i64 a0_18, .int .i64 a0_19, .int .i64 a0_20, .string a0_21, .string a0_22, .slice A0_23 l0_23.length c0_23, .slice A0_24 l0_24.length c0_24], .int .i64 a1] rfl ql_ ?_; (with_reducible refine (arrears_Days.calls k a0_0 a0_1 a0_2 a0_3 a0_4 a0_5 a0_6 a0_7 a0_8 a0_9 a0_10 a0_11 a0_12 a0_13 a0_14 a0_15 a0_16 a0_17 a0_18 a0_19 a0_20 a0_21 a0_22 _ _ l0_23 _ _ l0_24 a1 t109 _ ?side1 ?side2 ?side3 ?side4 A4.out).mono ?_); (case side1 => exact Kd.C_below HR0_23.out (qb2_ GE107.out GE108.out HB.out)); (case side2 => exact HC0_23.out); (case side3 => exact Kd.C_below HR0_24.out (qb2_ GE107.out GE108.out HB.out)); (case side4 => exact HC0_24.out); rintro e w43 ⟨rfl, hb⟩; refine ⟨_, rfl, ?_⟩; have n0_ := Aside0.mk (blk_below (g := gb107) (o := .cells #[.int .i64 a0_0, .int .i64 a0_1, .int .i64 a0_2, .int .i64 a0_3, .int .i64 a0_4, .int .i64 a0_5, .int .i64 a0_6, .int .i64 a0_7, .int .i64 a0_8, .int .i64 a0_9, .int .i64 a0_10, .int .i64 a0_11, .int .i64 a0_12, .int .i64 a0_13, .int .i64 a0_14, .int .i64 a0_15, .int .i64 a0_16, .int .i64 a0_17, .int .i64 a0_18, .int .i64 a0_19, .int .i64 a0_20, .string a0_21, .string a0_22, .slice A0_23 l0_23.length c0_23, .slice A0_24 l0_24.length c0_24] 27 (0, 0)) (by (with_reducible repeat (first | refine blk_drewN ?_ _ | refine blk_drew ?_ | refine blk_alloc ?_ _)); refine blk_far ?_ NB107_108.out _; (with_reducible repeat (first | refine blk_drewN ?_ _ | refine blk_drew ?_ | refine blk_alloc ?_ _)); refine blk_far ?_ NB107_108.out _; (with_reducible repeat (first | refine blk_drewN ?_ _ | refine blk_drew ?_ | refine blk_alloc ?_ _)); refine blk_far ?_ NB107_108.out _; (with_reducible repeat (first | refine blk_drewN ?_ _ | refine blk_drew ?_ | refine blk_alloc ?_ _)); refine blk_far ?_ NB107_108.out _; (with_reducible repeat (first | refine blk_drewN ?_ _ | refine blk_drew ?_ | refine blk_alloc ?_ _)); refine blk_far ?_ NB107_108.out _; (with_reducible repeat (first | refine blk_drewN ?_ _ | refine blk_drew ?_ | refine blk_alloc ?_ _)); exact BK107.out) hb); have n1_ := Aside0.mk (blk_below (g := gb108) (o := .cells #[.int .i64 1, .int .i64 1, .int .i64 2, .int .i64 2, .int .i64 3] 51 (0, 0)) (by (with_reducible repeat (first | refine blk_drewN ?_ _ | refine blk_drew ?_ | refine blk_alloc ?_ _)); refine blk_put (cs := #[.int .i64 1, .int .i64 1, .int .i64 2, .int .i64 2, .int .i64 0]) ?_ 4 _ rfl; (with_reducible repeat (first | refine blk_drewN ?_ _ | refine blk_drew ?_ | refine blk_alloc ?_ _)); refine blk_put (cs := #[.int .i64 1, .int .i64 1, .int .i64 2, .int .i64 0, .int .i64 0]) ?_ 3 _ rfl; (with_reducible repeat (first | refine blk_drewN ?_ _ | refine blk_drew ?_ | refine blk_alloc ?_ _)); refine blk_put (cs := #[.int .i64 1, .int .i64 1, .int .i64 0, .int .i64 0, .int .i64 0]) ?_ 2 _ rfl; (with_reducible repeat (first | refine blk_drewN ?_ _ | refine blk_drew ?_ | refine blk_alloc ?_ _)); refine blk_put (cs := #[.int .i64 1, .int .i64 0, .int .i64 0, .int .i64 0, .int .i64 0]) ?_ 1 _ rfl; (with_reducible repeat (first | refine blk_drewN ?_ _ | refine blk_drew ?_ | refine blk_alloc ?_ _)); refine blk_put (cs := #[.int .i64 0, .int .i64 0, .int .i64 0, .int .i64 0, .int .i64 0]) ?_ 0 _ rfl; (with_reducible repeat (first | refine blk_drewN ?_ _ | refine blk_drew ?_ | refine blk_alloc ?_ _)); exact BK108.out) hb); have n2_ := Aside0.mk (below_step (qb2_ GE107.out GE108.out HB.out) hb); clear BK107; clear BK108; clear HB; have BK107 := n0_; have BK108 := n1_; have HB := n2_; clear n0_ n1_ n2_; (try clear hb); (try clear hb2); (try clear hk); (try clear hi)) | ((with_reducible refine gate_callee (f := 25) rfl ?_); refine goesL_ (some 13) rfl rfl Tryd.func25 (by kernel_rfl) rfl #[.int .i64 t109] rfl ql_ ?_; (with_reducible refine (arrears_Bucket.calls (hG := by first | exact hG | (with_reducible exact GW.below hG (qb2_ GE107.out GE108.out HB.out)) | (with_reducible repeat (first | exact hG | apply GW.drewN | apply GW.drew))) t109 3 _ A5.out).mono ?_); rintro e w44 ⟨rfl, hb⟩; refine ⟨_, rfl, ?_⟩; have n0_ := Aside0.mk (blk_below (qk_ BK107.out) hb); have n1_ := Aside0.mk (blk_below (qk_ BK108.out) hb); have n2_ := Aside0.mk (below_step (qb2_ GE107.out GE108.out HB.out) hb); clear BK107; clear BK108; clear HB; have BK107 := n0_; have BK108 := n1_; have HB := n2_; clear n0_ n1_ n2_; (try clear hb); (try clear hb2); (try clear hk); (try clear hi); obtain ⟨Z45_0, Z45_1, Z45_2, Z45_3, Z45_4, Y45_0, Y45_1, Y45_2, Y45_3, Y45_4⟩ := cz5_ BK108.out))
      go_ret
      exact ⟨qe_, qb2_ GE107.out GE108.out HB.out⟩
     ·rw [if_neg c36] at H
      have c36b0 : (t110 == (3 : Int)) = false := beq_eq_false_iff_ne.mpr c36
      have c36b1 : (t110 != (3 : Int)) = true := bne_iff_ne.mpr c36
      by_cases c46 : t110 = (4 : Int)
      ·rw [if_pos c46] at H
       subst c46
       obtain rfl := Option.some.inj H
       go_enter Tryd.func9, Tryd.ntmps9
       go_wp2_with (first | ((with_reducible refine gate_load_ (t := 27) rfl ?_); refine ld_ (t := 27) (cs := ?cs_) Tryd.underlying27 rfl rfl rfl ?hb_ rfl ?hi_ ?_; (case hb_ => (repeat (first | (with_reducible first | refine blk_drewN ?_ _ | refine blk_drew ?_ | refine blk_alloc ?_ _) | refine blk_far ?_ NB107_108.out _ | refine blk_set ?_ _ _)); (with_reducible first | exact BK107.out)); (case hi_ => kernel_rfl)) | ((with_reducible refine gate_dst (N := 2) rfl ?_); refine be_ (N := 2) (cs := #[.int .i64 a0_0, .int .i64 a0_1, .int .i64 a0_2, .int .i64 a0_3, .int .i64 a0_4, .int .i64 a0_5, .int .i64 a0_6, .int .i64 a0_7, .int .i64 a0_8, .int .i64 a0_9, .int .i64 a0_10, .int .i64 a0_11, .int .i64 a0_12, .int .i64 a0_13, .int .i64 a0_14, .int .i64 a0_15, .int .i64 a0_16, .int .i64 a0_17, .int .i64 a0_18, .int .i64 a0_19, .int .i64 a0_20, .string a0_21, .string a0_22, .slice A0_23 l0_23.length c0_23, .slice A0_24 l0_24.length c0_24]) (t := 27) ?_; intro gb107 hg w47 hbox hb; have n0_ := Aside0.mk (below_step (qb_ HB.out) hb); have n1_ := Aside0.mk (hbox); have n2_ := Aside0.mk (bz_ hg (qb_ HB.out) : w.heap.size ≤ gb107); have n3_ := n2_; clear HB; have HB := n0_; have BK107 := n1_; have GW107 := n2_; have GE107 := n3_; clear n0_ n1_ n2_ n3_; clear hb hbox hg; obtain ⟨Z48_0, Z48_1, Z48_2, Z48_3, Z48_4, Z48_5, Z48_6, Z48_7, Z48_8, Z48_9, Z48_10, Z48_11, Z48_12, Z48_13, Z48_14, Z48_15, Z48_16, Z48_17, Z48_18, Z48_19, Z48_20, Z48_21, Z48_22, Z48_23, Z48_24, Y48_0, Y48_1, Y48_2, Y48_3, Y48_4, Y48_5, Y48_6, Y48_7, Y48_8, Y48_9, Y48_10, Y48_11, Y48_12, Y48_13, Y48_14, Y48_15, Y48_16, Y48_17, Y48_18, Y48_19, Y48_20, Y48_21, Y48_22, Y48_23, Y48_24⟩ := cz25_ BK107.out) | ((with_reducible refine gate_dst (N := 5) rfl ?_); refine be_ (N := 5) (cs := #[.int .i64 0, .int .i64 0, .int .i64 0, .int .i64 0, .int .i64 0]) (t := 51) ?_; intro gb108 hg w49 hbox hb; have n0_ := Aside0.mk (blk_below (qk_ BK107.out) hb); have n1_ := Aside0.mk (below_step (qb1_ GE107.out HB.out) hb); have n2_ := Aside0.mk (hbox); have n3_ := Aside0.mk (bz_ hg (qb1_ GE107.out HB.out) : w.heap.size ≤ gb108); have n4_ := n3_; have n5_ := Aside0.mk (nl_ hg (qk_ BK107.out) : gb107 ≠ gb108); have n6_ := Aside0.mk (ng_ hg (qk_ BK107.out) : gb108 ≠ gb107); clear BK107; clear HB; have BK107 := n0_; have HB := n1_; have BK108 := n2_; have GW108 := n3_; have GE108 := n4_; have NB107_108 := n5_; have NB108_107 := n6_; clear n0_ n1_ n2_ n3_ n4_ n5_ n6_; clear hb hbox hg; have hnb50 := NB108_107.out; have hnc50 := NB107_108.out; obtain ⟨Z51_0, Z51_1, Z51_2, Z51_3, Z51_4, Y51_0, Y51_1, Y51_2, Y51_3, Y51_4⟩ := cz5_ BK108.out; obtain ⟨Z52_0, Z52_1, Z52_2, Z52_3, Z52_4, Z52_5, Z52_6, Z52_7, Z52_8, Z52_9, Z52_10, Z52_11, Z52_12, Z52_13, Z52_14, Z52_15, Z52_16, Z52_17, Z52_18, Z52_19, Z52_20, Z52_21, Z52_22, Z52_23, Z52_24, Y52_0, Y52_1, Y52_2, Y52_3, Y52_4, Y52_5, Y52_6, Y52_7, Y52_8, Y52_9, Y52_10, Y52_11, Y52_12, Y52_13, Y52_14, Y52_15, Y52_16, Y52_17, Y52_18, Y52_19, Y52_20, Y52_21, Y52_22, Y52_23, Y52_24⟩ := cz25_ BK107.out) | ((with_reducible refine gate_callee (f := 26) rfl ?_); refine goesL_ (some 12) rfl rfl Tryd.func26 (by kernel_rfl) rfl #[.agg #[.int .i64 a0_0, .int .i64 a0_1, .int .i64 a0_2, .int .i64 a0_3, .int .i64 a0_4, .int .i64 a0_5, .int .i64 a0_6, .int .i64 a0_7, .int .i64 a0_8, .int .i64 a0_9, .int .i64 a0_10, .int .i64 a0_11, .int .i64 a0_12, .int .i64 a0_13, .int .i64 a0_14, .int .i64 a0_15, .int .i64 a0_16, .int .i64 a0_17, .int .i64 a0_18, .int .i64 a0_19, .int .i64 a0_20, .string a0_21, .string a0_22, .slice A0_23 l0_23.length c0_23, .slice A0_24 l0_24.length c0_24], .int .i64 a1] rfl ql_ ?_; (with_reducible refine (arrears_Days.calls k a0_0 a0_1 a0_2 a0_3 a0_4 a0_5 a0_6 a0_7 a0_8 a0_9 a0_10 a0_11 a0_12 a0_13 a0_14 a0_15 a0_16 a0_17 a0_18 a0_19 a0_20 a0_21 a0_22 _ _ l0_23 _ _ l0_24 a1 t109 _ ?side1 ?side2 ?side3 ?side4 A4.out).mono ?_); (case side1 => exact Kd.C_below HR0_23.out (qb2_ GE107.out GE108.out HB.out)); (case side2 => exact HC0_23.out); (case side3 => exact Kd.C_below HR0_24.out (qb2_ GE107.out GE108.out HB.out)); (case side4 => exact HC0_24.out); rintro e w53 ⟨rfl, hb⟩; refine ⟨_, rfl, ?_⟩; have n0_ := Aside0.mk (blk_below (g := gb107) (o := .cells #[.int .i64 a0_0, .int .i64 a0_1, .int .i64 a0_2, .int .i64 a0_3, .int .i64 a0_4, .int .i64 a0_5, .int .i64 a0_6, .int .i64 a0_7, .int .i64 a0_8, .int .i64 a0_9, .int .i64 a0_10, .int .i64 a0_11, .int .i64 a0_12, .int .i64 a0_13, .int .i64 a0_14, .int .i64 a0_15, .int .i64 a0_16, .int .i64 a0_17, .int .i64 a0_18, .int .i64 a0_19, .int .i64 a0_20, .string a0_21, .string a0_22, .slice A0_23 l0_23.length c0_23, .slice A0_24 l0_24.length c0_24] 27 (0, 0)) (by (with_reducible repeat (first | refine blk_drewN ?_ _ | refine blk_drew ?_ | refine blk_alloc ?_ _)); refine blk_far ?_ NB107_108.out _; (with_reducible repeat (first | refine blk_drewN ?_ _ | refine blk_drew ?_ | refine blk_alloc ?_ _)); refine blk_far ?_ NB107_108.out _; (with_reducible repeat (first | refine blk_drewN ?_ _ | refine blk_drew ?_ | refine blk_alloc ?_ _)); refine blk_far ?_ NB107_108.out _; (with_reducible repeat (first | refine blk_drewN ?_ _ | refine blk_drew ?_ | refine blk_alloc ?_ _)); refine blk_far ?_ NB107_108.out _; (with_reducible repeat (first | refine blk_drewN ?_ _ | refine blk_drew ?_ | refine blk_alloc ?_ _)); refine blk_far ?_ NB107_108.out _; (with_reducible repeat (first | refine blk_drewN ?_ _ | refine blk_drew ?_ | refine blk_alloc ?_ _)); exact BK107.out) hb); have n1_ := Aside0.mk (blk_below (g := gb108) (o := .cells #[.int .i64 1, .int .i64 1, .int .i64 2, .int .i64 2, .int .i64 3] 51 (0, 0)) (by (with_reducible repeat (first | refine blk_drewN ?_ _ | refine blk_drew ?_ | refine blk_alloc ?_ _)); refine blk_put (cs := #[.int .i64 1, .int .i64 1, .int .i64 2, .int .i64 2, .int .i64 0]) ?_ 4 _ rfl; (with_reducible repeat (first | refine blk_drewN ?_ _ | refine blk_drew ?_ | refine blk_alloc ?_ _)); refine blk_put (cs := #[.int .i64 1, .int .i64 1, .int .i64 2, .int .i64 0, .int .i64 0]) ?_ 3 _ rfl; (with_reducible repeat (first | refine blk_drewN ?_ _ | refine blk_drew ?_ | refine blk_alloc ?_ _)); refine blk_put (cs := #[.int .i64 1, .int .i64 1, .int .i64 0, .int .i64 0, .int .i64 0]) ?_ 2 _ rfl; (with_reducible repeat (first | refine blk_drewN ?_ _ | refine blk_drew ?_ | refine blk_alloc ?_ _)); refine blk_put (cs := #[.int .i64 1, .int .i64 0, .int .i64 0, .int .i64 0, .int .i64 0]) ?_ 1 _ rfl; (with_reducible repeat (first | refine blk_drewN ?_ _ | refine blk_drew ?_ | refine blk_alloc ?_ _)); refine blk_put (cs := #[.int .i64 0, .int .i64 0, .int .i64 0, .int .i64 0, .int .i64 0]) ?_ 0 _ rfl; (with_reducible repeat (first | refine blk_drewN ?_ _ | refine blk_drew ?_ | refine blk_alloc ?_ _)); exact BK108.out) hb); have n2_ := Aside0.mk (below_step (qb2_ GE107.out GE108.out HB.out) hb); clear BK107; clear BK108; clear HB; have BK107 := n0_; have BK108 := n1_; have HB := n2_; clear n0_ n1_ n2_; (try clear hb); (try clear hb2); (try clear hk); (try clear hi)) | ((with_reducible refine gate_callee (f := 25) rfl ?_); refine goesL_ (some 13) rfl rfl Tryd.func25 (by kernel_rfl) rfl #[.int .i64 t109] rfl ql_ ?_; (with_reducible refine (arrears_Bucket.calls (hG := by first | exact hG | (with_reducible exact GW.below hG (qb2_ GE107.out GE108.out HB.out)) | (with_reducible repeat (first | exact hG | apply GW.drewN | apply GW.drew))) t109 4 _ A5.out).mono ?_); rintro e w54 ⟨rfl, hb⟩; refine ⟨_, rfl, ?_⟩; have n0_ := Aside0.mk (blk_below (qk_ BK107.out) hb); have n1_ := Aside0.mk (blk_below (qk_ BK108.out) hb); have n2_ := Aside0.mk (below_step (qb2_ GE107.out GE108.out HB.out) hb); clear BK107; clear BK108; clear HB; have BK107 := n0_; have BK108 := n1_; have HB := n2_; clear n0_ n1_ n2_; (try clear hb); (try clear hb2); (try clear hk); (try clear hi); obtain ⟨Z55_0, Z55_1, Z55_2, Z55_3, Z55_4, Y55_0, Y55_1, Y55_2, Y55_3, Y55_4⟩ := cz5_ BK108.out))
       go_ret
       exact ⟨qe_, qb2_ GE107.out GE108.out HB.out⟩
      ·rw [if_neg c46] at H
       exact absurd H (by simp)
 ·rw [if_neg c3] at H
  have c3b0 : (a0_2 == 1) = false := beq_eq_false_iff_ne.mpr c3
  have c3b1 : (a0_2 != 1) = true := bne_iff_ne.mpr c3
  obtain rfl := Option.some.inj H
  go_enter Tryd.func9, Tryd.ntmps9
  go_wp2_with (first | ((with_reducible refine gate_load_ (t := 27) rfl ?_); refine ld_ (t := 27) (cs := ?cs_) Tryd.underlying27 rfl rfl rfl ?hb_ rfl ?hi_ ?_; (case hb_ => (repeat (first | (with_reducible first | refine blk_drewN ?_ _ | refine blk_drew ?_ | refine blk_alloc ?_ _) | refine blk_far ?_ NB107_108.out _ | refine blk_set ?_ _ _)); (with_reducible first | exact BK107.out)); (case hi_ => kernel_rfl)) | ((with_reducible refine gate_dst (N := 2) rfl ?_); refine be_ (N := 2) (cs := #[.int .i64 a0_0, .int .i64 a0_1, .int .i64 a0_2, .int .i64 a0_3, .int .i64 a0_4, .int .i64 a0_5, .int .i64 a0_6, .int .i64 a0_7, .int .i64 a0_8, .int .i64 a0_9, .int .i64 a0_10, .int .i64 a0_11, .int .i64 a0_12, .int .i64 a0_13, .int .i64 a0_14, .int .i64 a0_15, .int .i64 a0_16, .int .i64 a0_17, .int .i64 a0_18, .int .i64 a0_19, .int .i64 a0_20, .string a0_21, .string a0_22, .slice A0_23 l0_23.length c0_23, .slice A0_24 l0_24.length c0_24]) (t := 27) ?_; intro gb107 hg w56 hbox hb; have n0_ := Aside0.mk (below_step (qb_ HB.out) hb); have n1_ := Aside0.mk (hbox); have n2_ := Aside0.mk (bz_ hg (qb_ HB.out) : w.heap.size ≤ gb107); have n3_ := n2_; clear HB; have HB := n0_; have BK107 := n1_; have GW107 := n2_; have GE107 := n3_; clear n0_ n1_ n2_ n3_; clear hb hbox hg; obtain ⟨Z57_0, Z57_1, Z57_2, Z57_3, Z57_4, Z57_5, Z57_6, Z57_7, Z57_8, Z57_9, Z57_10, Z57_11, Z57_12, Z57_13, Z57_14, Z57_15, Z57_16, Z57_17, Z57_18, Z57_19, Z57_20, Z57_21, Z57_22, Z57_23, Z57_24, Y57_0, Y57_1, Y57_2, Y57_3, Y57_4, Y57_5, Y57_6, Y57_7, Y57_8, Y57_9, Y57_10, Y57_11, Y57_12, Y57_13, Y57_14, Y57_15, Y57_16, Y57_17, Y57_18, Y57_19, Y57_20, Y57_21, Y57_22, Y57_23, Y57_24⟩ := cz25_ BK107.out))
  go_ret
  exact ⟨qe_, qb1_ GE107.out HB.out⟩
def corebankref37_Bucket.f (a0 : Int) : Option (Int) := if a0 ≤ 0 then (some 0) else (if a0 ≤ 30 then (some 1) else (if a0 ≤ 60 then (some 2) else (if a0 ≤ 90 then (some 3) else (some 4))))
set_option maxHeartbeats 8000000 in
set_option maxRecDepth 100000 in
theorem corebankref37_Bucket.calls (a0 r : Int) (w : World) (h : corebankref37_Bucket.f a0 = some r) :
  Calls Tryd.prog 27 #[.int .i64 a0] w fun e w' => e = .returned (.int .i64 r) ∧ Drawn0 w w' := by
 have H : (if a0 ≤ 0 then (some 0) else (if a0 ≤ 30 then (some 1) else (if a0 ≤ 60 then (some 2) else (if a0 ≤ 90 then (some 3) else (some 4))))) = some r := h
 clear h
 by_cases c2 : a0 ≤ 0
 ·rw [if_pos c2] at H
  have c2b0 : decide (a0 ≤ 0) = true := decide_eq_true c2
  clear c2
  obtain rfl := Option.some.inj H
  go_enter Tryd.func27, Tryd.ntmps27
  go_wp2
  go_ret
  exact ⟨by first | rfl | (simp; done) | (simp [*]; done), by repeat (first | exact Drawn0.refl _ | apply Drawn0.step)⟩
 ·rw [if_neg c2] at H
  have c2b0 : decide (a0 ≤ 0) = false := decide_eq_false c2
  clear c2
  by_cases c3 : a0 ≤ 30
  ·rw [if_pos c3] at H
   have c3b0 : decide (a0 ≤ 30) = true := decide_eq_true c3
   clear c3
   obtain rfl := Option.some.inj H
   go_enter Tryd.func27, Tryd.ntmps27
   go_wp2
   go_ret
   exact ⟨by first | rfl | (simp; done) | (simp [*]; done), by repeat (first | exact Drawn0.refl _ | apply Drawn0.step)⟩
  ·rw [if_neg c3] at H
   have c3b0 : decide (a0 ≤ 30) = false := decide_eq_false c3
   clear c3
   by_cases c4 : a0 ≤ 60
   ·rw [if_pos c4] at H
    have c4b0 : decide (a0 ≤ 60) = true := decide_eq_true c4
    clear c4
    obtain rfl := Option.some.inj H
    go_enter Tryd.func27, Tryd.ntmps27
    go_wp2
    go_ret
    exact ⟨by first | rfl | (simp; done) | (simp [*]; done), by repeat (first | exact Drawn0.refl _ | apply Drawn0.step)⟩
   ·rw [if_neg c4] at H
    have c4b0 : decide (a0 ≤ 60) = false := decide_eq_false c4
    clear c4
    by_cases c5 : a0 ≤ 90
    ·rw [if_pos c5] at H
     have c5b0 : decide (a0 ≤ 90) = true := decide_eq_true c5
     clear c5
     obtain rfl := Option.some.inj H
     go_enter Tryd.func27, Tryd.ntmps27
     go_wp2
     go_ret
     exact ⟨by first | rfl | (simp; done) | (simp [*]; done), by repeat (first | exact Drawn0.refl _ | apply Drawn0.step)⟩
    ·rw [if_neg c5] at H
     have c5b0 : decide (a0 ≤ 90) = false := decide_eq_false c5
     clear c5
     obtain rfl := Option.some.inj H
     go_enter Tryd.func27, Tryd.ntmps27
     go_wp2
     go_ret
     exact ⟨by first | rfl | (simp; done) | (simp [*]; done), by repeat (first | exact Drawn0.refl _ | apply Drawn0.step)⟩
mutual
def corebankref38_Stage.j0 : Nat → Int → Bool → Option (Int)
 | 0, _, _ => none
 | k + 1, x11, x12 => if x12 = true then (some 1) else (if x11 = 2 then (corebankref38_Stage.j1 k (x11 == 2)) else (corebankref38_Stage.j1 k (x11 == 3)))
def corebankref38_Stage.j1 : Nat → Bool → Option (Int)
 | 0, _ => none
 | k + 1, x15 => if x15 = true then (some 2) else (some 3)
end
def corebankref38_Stage.f (k : Nat) (a0_0 a0_1 a0_2 a0_3 a0_4 a0_5 a0_6 a0_7 a0_8 a0_9 a0_10 a0_11 a0_12 a0_13 a0_14 a0_15 a0_16 a0_17 a0_18 a0_19 a0_20 : Int) (a0_21 a0_22 : ByteArray) (l0_23 : List (S54)) (l0_24 : List (S50)) (a1 : Int) : Option (Int) := if a0_2 = 1 then ((corebankref37_Days.f k a0_0 a0_1 a0_2 a0_3 a0_4 a0_5 a0_6 a0_7 a0_8 a0_9 a0_10 a0_11 a0_12 a0_13 a0_14 a0_15 a0_16 a0_17 a0_18 a0_19 a0_20 a0_21 a0_22 l0_23 l0_24 a1).bind fun t115 => ((corebankref37_Bucket.f t115).bind fun t116 => (if t116 = 0 then (corebankref38_Stage.j0 k t116 (t116 == 0)) else (corebankref38_Stage.j0 k t116 (t116 == 1))))) else (some 0)
set_option maxHeartbeats 8000000 in
set_option maxRecDepth 100000 in
theorem corebankref38_Stage.calls (k : Nat) (a0_0 a0_1 a0_2 a0_3 a0_4 a0_5 a0_6 a0_7 a0_8 a0_9 a0_10 a0_11 a0_12 a0_13 a0_14 a0_15 a0_16 a0_17 a0_18 a0_19 a0_20 : Int) (a0_21 a0_22 : ByteArray) (A0_23 : Option Addr) (c0_23 : Nat) (l0_23 : List (S54)) (A0_24 : Option Addr) (c0_24 : Nat) (l0_24 : List (S50)) (a1 r : Int) (w : World) (hr0_23 : Kd.C k54 w A0_23 l0_23.length l0_23) (hc0_23 : l0_23.length ≤ c0_23) (hr0_24 : Kd.C k50 w A0_24 l0_24.length l0_24) (hc0_24 : l0_24.length ≤ c0_24) (h : corebankref38_Stage.f k a0_0 a0_1 a0_2 a0_3 a0_4 a0_5 a0_6 a0_7 a0_8 a0_9 a0_10 a0_11 a0_12 a0_13 a0_14 a0_15 a0_16 a0_17 a0_18 a0_19 a0_20 a0_21 a0_22 l0_23 l0_24 a1 = some r) :
  Calls Tryd.prog 10 #[.agg #[.int .i64 a0_0, .int .i64 a0_1, .int .i64 a0_2, .int .i64 a0_3, .int .i64 a0_4, .int .i64 a0_5, .int .i64 a0_6, .int .i64 a0_7, .int .i64 a0_8, .int .i64 a0_9, .int .i64 a0_10, .int .i64 a0_11, .int .i64 a0_12, .int .i64 a0_13, .int .i64 a0_14, .int .i64 a0_15, .int .i64 a0_16, .int .i64 a0_17, .int .i64 a0_18, .int .i64 a0_19, .int .i64 a0_20, .string a0_21, .string a0_22, .slice A0_23 l0_23.length c0_23, .slice A0_24 l0_24.length c0_24], .int .i64 a1] w fun e w' => e = .returned (.int .i64 r) ∧ Below w.heap.size w w' := by
 have hu27 := Tryd.underlying27
 have HR0_23 := Aside0.mk hr0_23
 have HC0_23 := Aside0.mk hc0_23
 clear hr0_23 hc0_23
 have HR0_24 := Aside0.mk hr0_24
 have HC0_24 := Aside0.mk hc0_24
 clear hr0_24 hc0_24
 have HB := Aside0.mk (Below.refl w.heap.size w)
 have H : (if a0_2 = 1 then ((corebankref37_Days.f k a0_0 a0_1 a0_2 a0_3 a0_4 a0_5 a0_6 a0_7 a0_8 a0_9 a0_10 a0_11 a0_12 a0_13 a0_14 a0_15 a0_16 a0_17 a0_18 a0_19 a0_20 a0_21 a0_22 l0_23 l0_24 a1).bind fun t115 => ((corebankref37_Bucket.f t115).bind fun t116 => (if t116 = 0 then (corebankref38_Stage.j0 k t116 (t116 == 0)) else (corebankref38_Stage.j0 k t116 (t116 == 1))))) else (some 0)) = some r := h
 clear h
 by_cases c3 : a0_2 = 1
 ·rw [if_pos c3] at H
  have c3b0 : (a0_2 == 1) = true := beq_iff_eq.mpr c3
  have c3b1 : (a0_2 != 1) = false := bne_eq_false_iff_eq.mpr c3
  clear c3
  replace H := Option.bind_eq_some_iff.mp H
  obtain ⟨t115, A40, H⟩ := H
  replace H : ((corebankref37_Bucket.f t115).bind fun t116 => (if t116 = 0 then (corebankref38_Stage.j0 k t116 (t116 == 0)) else (corebankref38_Stage.j0 k t116 (t116 == 1)))) = some r := H
  have A4 := Aside0.mk A40
  clear A40
  replace H := Option.bind_eq_some_iff.mp H
  obtain ⟨t116, A50, H⟩ := H
  replace H : (if t116 = 0 then (corebankref38_Stage.j0 k t116 (t116 == 0)) else (corebankref38_Stage.j0 k t116 (t116 == 1))) = some r := H
  have A5 := Aside0.mk A50
  clear A50
  have HC6 := Aside0.mk H
  clear H
  go_enter Tryd.func10, Tryd.ntmps10
  go_upto_if 12 with (first | ((with_reducible refine gate_load_ (t := 27) rfl ?_); refine ld_ (t := 27) (cs := ?cs_) Tryd.underlying27 rfl rfl rfl ?hb_ rfl ?hi_ ?_; (case hb_ => (repeat (first | (with_reducible first | refine blk_drewN ?_ _ | refine blk_drew ?_ | refine blk_alloc ?_ _) | refine blk_set ?_ _ _)); (with_reducible first | exact BK114.out)); (case hi_ => kernel_rfl)) | ((with_reducible refine gate_dst (N := 2) rfl ?_); refine be_ (N := 2) (cs := #[.int .i64 a0_0, .int .i64 a0_1, .int .i64 a0_2, .int .i64 a0_3, .int .i64 a0_4, .int .i64 a0_5, .int .i64 a0_6, .int .i64 a0_7, .int .i64 a0_8, .int .i64 a0_9, .int .i64 a0_10, .int .i64 a0_11, .int .i64 a0_12, .int .i64 a0_13, .int .i64 a0_14, .int .i64 a0_15, .int .i64 a0_16, .int .i64 a0_17, .int .i64 a0_18, .int .i64 a0_19, .int .i64 a0_20, .string a0_21, .string a0_22, .slice A0_23 l0_23.length c0_23, .slice A0_24 l0_24.length c0_24]) (t := 27) ?_; intro gb114 hg w7 hbox hb; have n0_ := Aside0.mk (below_step (qb_ HB.out) hb); have n1_ := Aside0.mk (hbox); have n2_ := Aside0.mk (bz_ hg (qb_ HB.out) : w.heap.size ≤ gb114); have n3_ := n2_; clear HB; have HB := n0_; have BK114 := n1_; have GW114 := n2_; have GE114 := n3_; clear n0_ n1_ n2_ n3_; clear hb hbox hg; obtain ⟨Z8_0, Z8_1, Z8_2, Z8_3, Z8_4, Z8_5, Z8_6, Z8_7, Z8_8, Z8_9, Z8_10, Z8_11, Z8_12, Z8_13, Z8_14, Z8_15, Z8_16, Z8_17, Z8_18, Z8_19, Z8_20, Z8_21, Z8_22, Z8_23, Z8_24, Y8_0, Y8_1, Y8_2, Y8_3, Y8_4, Y8_5, Y8_6, Y8_7, Y8_8, Y8_9, Y8_10, Y8_11, Y8_12, Y8_13, Y8_14, Y8_15, Y8_16, Y8_17, Y8_18, Y8_19, Y8_20, Y8_21, Y8_22, Y8_23, Y8_24⟩ := cz25_ BK114.out) | ((with_reducible refine gate_callee (f := 28) rfl ?_); refine goesL_ (some 10) rfl rfl Tryd.func28 (by kernel_rfl) rfl #[.agg #[.int .i64 a0_0, .int .i64 a0_1, .int .i64 a0_2, .int .i64 a0_3, .int .i64 a0_4, .int .i64 a0_5, .int .i64 a0_6, .int .i64 a0_7, .int .i64 a0_8, .int .i64 a0_9, .int .i64 a0_10, .int .i64 a0_11, .int .i64 a0_12, .int .i64 a0_13, .int .i64 a0_14, .int .i64 a0_15, .int .i64 a0_16, .int .i64 a0_17, .int .i64 a0_18, .int .i64 a0_19, .int .i64 a0_20, .string a0_21, .string a0_22, .slice A0_23 l0_23.length c0_23, .slice A0_24 l0_24.length c0_24], .int .i64 a1] rfl ql_ ?_; (with_reducible refine (corebankref37_Days.calls k a0_0 a0_1 a0_2 a0_3 a0_4 a0_5 a0_6 a0_7 a0_8 a0_9 a0_10 a0_11 a0_12 a0_13 a0_14 a0_15 a0_16 a0_17 a0_18 a0_19 a0_20 a0_21 a0_22 _ _ l0_23 _ _ l0_24 a1 t115 _ ?side1 ?side2 ?side3 ?side4 A4.out).mono ?_); (case side1 => repeat (first | exact (Kd.C_below HR0_23.out HB.out) | (with_reducible refine Kd.C_alloc ?_ _) | (with_reducible refine Kd.C_drewN ?_ _) | (with_reducible refine Kd.C_drew ?_))); (case side2 => exact HC0_23.out); (case side3 => repeat (first | exact (Kd.C_below HR0_24.out HB.out) | (with_reducible refine Kd.C_alloc ?_ _) | (with_reducible refine Kd.C_drewN ?_ _) | (with_reducible refine Kd.C_drew ?_))); (case side4 => exact HC0_24.out); rintro e w9 ⟨rfl, hb⟩; refine ⟨_, rfl, ?_⟩; have n0_ := Aside0.mk (blk_below (qk_ BK114.out) hb); have n1_ := Aside0.mk (below_step (qb1_ GE114.out HB.out) hb); clear BK114; clear HB; have BK114 := n0_; have HB := n1_; clear n0_ n1_; (try clear hb); (try clear hb2); (try clear hk); (try clear hi)) | ((with_reducible refine gate_callee (f := 27) rfl ?_); refine goesL_ (some 11) rfl rfl Tryd.func27 (by kernel_rfl) rfl #[.int .i64 t115] rfl ql_ ?_; (with_reducible refine (corebankref37_Bucket.calls t115 t116 _ A5.out).mono ?_); rintro e w' ⟨rfl, ⟨nd, rfl⟩⟩; refine ⟨_, rfl, ?_⟩))
  (try simp only [Act.put, List.setIfInBounds_toArray, List.set_cons_zero, List.set_cons_succ])
  go_cut [12] (fun v12 wc => ∃ (kq : Nat) (x12_5 : Bool), v12 = .bool x12_5 ∧ Aside0 (corebankref38_Stage.j0 kq t116 x12_5 = some r) ∧ Aside0 (kq ≤ k) ∧ Aside0 (wc.heap[gb114]? = some (.cells #[.int .i64 a0_0, .int .i64 a0_1, .int .i64 a0_2, .int .i64 a0_3, .int .i64 a0_4, .int .i64 a0_5, .int .i64 a0_6, .int .i64 a0_7, .int .i64 a0_8, .int .i64 a0_9, .int .i64 a0_10, .int .i64 a0_11, .int .i64 a0_12, .int .i64 a0_13, .int .i64 a0_14, .int .i64 a0_15, .int .i64 a0_16, .int .i64 a0_17, .int .i64 a0_18, .int .i64 a0_19, .int .i64 a0_20, .string a0_21, .string a0_22, (.slice A0_23 l0_23.length c0_23), (.slice A0_24 l0_24.length c0_24)] 27 (0, 0))) ∧ Aside0 (Below w.heap.size w wc))
  case first =>
   have H := HC6.out
   clear HC6
   by_cases c10 : t116 = 0
   ·rw [if_pos c10] at H
    have c10b0 : (t116 == 0) = true := beq_iff_eq.mpr c10
    have c10b1 : (t116 != 0) = false := bne_eq_false_iff_eq.mpr c10
    clear c10
    (first | rw [c10b0] | (simp only [i64_w, i32_w]; rw [c10b0]) | skip)
    have H' := Aside0.mk H
    clear H
    go_wp2
    go_meet
    case rel => exact ⟨_, ((t116 == 0)), qs_, H', ⟨qo_⟩, ⟨qk_ BK114.out⟩, ⟨qb1_ GE114.out HB.out⟩⟩
   ·rw [if_neg c10] at H
    have c10b0 : (t116 == 0) = false := beq_eq_false_iff_ne.mpr c10
    have c10b1 : (t116 != 0) = true := bne_iff_ne.mpr c10
    (first | rw [c10b0] | (simp only [i64_w, i32_w]; rw [c10b0]) | skip)
    have H' := Aside0.mk H
    clear H
    go_wp2
    go_meet
    case rel => exact ⟨_, ((t116 == 1)), qs_, H', ⟨qo_⟩, ⟨qk_ BK114.out⟩, ⟨qb1_ GE114.out HB.out⟩⟩
  case rest =>
   clear HC6
   try clear c1
   try clear c2
   try clear p2
   try clear c3
   try clear c3b0
   try clear c3b1
   try clear c10
   try clear c10b0
   try clear c10b1
   (try clear Z8_0 Z8_1 Z8_10 Z8_11 Z8_12 Z8_13 Z8_14 Z8_15 Z8_16 Z8_17 Z8_18 Z8_19 Z8_2 Z8_20 Z8_21 Z8_22 Z8_23 Z8_24 Z8_3 Z8_4 Z8_5 Z8_6 Z8_7 Z8_8 Z8_9 Y8_0 Y8_1 Y8_10 Y8_11 Y8_12 Y8_13 Y8_14 Y8_15 Y8_16 Y8_17 Y8_18 Y8_19 Y8_2 Y8_20 Y8_21 Y8_22 Y8_23 Y8_24 Y8_3 Y8_4 Y8_5 Y8_6 Y8_7 Y8_8 Y8_9)
   obtain ⟨kq, x12_5, rfl, HA, HJ5, BK114, HB⟩ := hcut
   cases kq with
   | zero => exact absurd HA.out (by simp [corebankref38_Stage.j0])
   | succ kj5 =>
    have H := HA.out
    clear HA
    simp only [corebankref38_Stage.j0] at H
    by_cases c11 : x12_5 = true
    ·subst c11
     have H1 : (some 1) = some r := by rw [if_pos rfl] at H; exact H
     clear H
     have H := H1
     clear H1
     obtain rfl := Option.some.inj H
     go_wp2
     go_ret
     exact ⟨qe_, qb1_ GE114.out HB.out⟩
    ·replace c11 := Bool.eq_false_iff.mpr c11
     subst c11
     have H1 : (if t116 = 2 then (corebankref38_Stage.j1 kj5 (t116 == 2)) else (corebankref38_Stage.j1 kj5 (t116 == 3))) = some r := by rw [if_neg (show ¬ (false = true) by decide)] at H; exact H
     clear H
     have H := H1
     clear H1
     have HC12 := Aside0.mk H
     clear H
     go_upto_if 15 with (fail)
     go_cut [15] (fun v15 wc => ∃ (kq : Nat) (x15_11 : Bool), v15 = .bool x15_11 ∧ Aside0 (corebankref38_Stage.j1 kq x15_11 = some r) ∧ Aside0 (kq ≤ kj5) ∧ Aside0 (wc.heap[gb114]? = some (.cells #[.int .i64 a0_0, .int .i64 a0_1, .int .i64 a0_2, .int .i64 a0_3, .int .i64 a0_4, .int .i64 a0_5, .int .i64 a0_6, .int .i64 a0_7, .int .i64 a0_8, .int .i64 a0_9, .int .i64 a0_10, .int .i64 a0_11, .int .i64 a0_12, .int .i64 a0_13, .int .i64 a0_14, .int .i64 a0_15, .int .i64 a0_16, .int .i64 a0_17, .int .i64 a0_18, .int .i64 a0_19, .int .i64 a0_20, .string a0_21, .string a0_22, (.slice A0_23 l0_23.length c0_23), (.slice A0_24 l0_24.length c0_24)] 27 (0, 0))) ∧ Aside0 (Below w.heap.size w wc))
     case first =>
      have H := HC12.out
      clear HC12
      by_cases c13 : t116 = 2
      ·rw [if_pos c13] at H
       have c13b0 : (t116 == 2) = true := beq_iff_eq.mpr c13
       have c13b1 : (t116 != 2) = false := bne_eq_false_iff_eq.mpr c13
       clear c13
       (first | rw [c13b0] | (simp only [i64_w, i32_w]; rw [c13b0]) | skip)
       have H' := Aside0.mk H
       clear H
       go_wp2
       go_meet
       case rel => exact ⟨_, ((t116 == 2)), qs_, H', ⟨by have := HJ5.out; first | omega | exact Nat.le_refl _⟩, ⟨qk_ BK114.out⟩, ⟨qb1_ GE114.out HB.out⟩⟩
      ·rw [if_neg c13] at H
       have c13b0 : (t116 == 2) = false := beq_eq_false_iff_ne.mpr c13
       have c13b1 : (t116 != 2) = true := bne_iff_ne.mpr c13
       (first | rw [c13b0] | (simp only [i64_w, i32_w]; rw [c13b0]) | skip)
       have H' := Aside0.mk H
       clear H
       go_wp2
       go_meet
       case rel => exact ⟨_, ((t116 == 3)), qs_, H', ⟨by have := HJ5.out; first | omega | exact Nat.le_refl _⟩, ⟨qk_ BK114.out⟩, ⟨qb1_ GE114.out HB.out⟩⟩
     case rest =>
      clear HC12
      try clear c1
      try clear c2
      try clear p2
      try clear c3
      try clear c3b0
      try clear c3b1
      try clear c10
      try clear c10b0
      try clear c10b1
      try clear c11
      try clear c13
      try clear c13b0
      try clear c13b1
      (try clear Z8_0 Z8_1 Z8_10 Z8_11 Z8_12 Z8_13 Z8_14 Z8_15 Z8_16 Z8_17 Z8_18 Z8_19 Z8_2 Z8_20 Z8_21 Z8_22 Z8_23 Z8_24 Z8_3 Z8_4 Z8_5 Z8_6 Z8_7 Z8_8 Z8_9 Y8_0 Y8_1 Y8_10 Y8_11 Y8_12 Y8_13 Y8_14 Y8_15 Y8_16 Y8_17 Y8_18 Y8_19 Y8_2 Y8_20 Y8_21 Y8_22 Y8_23 Y8_24 Y8_3 Y8_4 Y8_5 Y8_6 Y8_7 Y8_8 Y8_9)
      try clear p2
      obtain ⟨kq, x15_11, rfl, HA, HJ11, BK114, HB⟩ := hcut
      cases kq with
      | zero => exact absurd HA.out (by simp [corebankref38_Stage.j1])
      | succ kj11 =>
       have H := HA.out
       clear HA
       simp only [corebankref38_Stage.j1] at H
       by_cases c14 : x15_11 = true
       ·subst c14
        have H1 : (some 2) = some r := by rw [if_pos rfl] at H; exact H
        clear H
        have H := H1
        clear H1
        obtain rfl := Option.some.inj H
        go_wp2
        go_ret
        exact ⟨qe_, qb1_ GE114.out HB.out⟩
       ·replace c14 := Bool.eq_false_iff.mpr c14
        subst c14
        have H1 : (some 3) = some r := by rw [if_neg (show ¬ (false = true) by decide)] at H; exact H
        clear H
        have H := H1
        clear H1
        obtain rfl := Option.some.inj H
        go_wp2
        go_ret
        exact ⟨qe_, qb1_ GE114.out HB.out⟩
 ·rw [if_neg c3] at H
  have c3b0 : (a0_2 == 1) = false := beq_eq_false_iff_ne.mpr c3
  have c3b1 : (a0_2 != 1) = true := bne_iff_ne.mpr c3
  obtain rfl := Option.some.inj H
  go_enter Tryd.func10, Tryd.ntmps10
  go_wp2_with (first | ((with_reducible refine gate_load_ (t := 27) rfl ?_); refine ld_ (t := 27) (cs := ?cs_) Tryd.underlying27 rfl rfl rfl ?hb_ rfl ?hi_ ?_; (case hb_ => (repeat (first | (with_reducible first | refine blk_drewN ?_ _ | refine blk_drew ?_ | refine blk_alloc ?_ _) | refine blk_set ?_ _ _)); (with_reducible first | exact BK114.out)); (case hi_ => kernel_rfl)) | ((with_reducible refine gate_dst (N := 2) rfl ?_); refine be_ (N := 2) (cs := #[.int .i64 a0_0, .int .i64 a0_1, .int .i64 a0_2, .int .i64 a0_3, .int .i64 a0_4, .int .i64 a0_5, .int .i64 a0_6, .int .i64 a0_7, .int .i64 a0_8, .int .i64 a0_9, .int .i64 a0_10, .int .i64 a0_11, .int .i64 a0_12, .int .i64 a0_13, .int .i64 a0_14, .int .i64 a0_15, .int .i64 a0_16, .int .i64 a0_17, .int .i64 a0_18, .int .i64 a0_19, .int .i64 a0_20, .string a0_21, .string a0_22, .slice A0_23 l0_23.length c0_23, .slice A0_24 l0_24.length c0_24]) (t := 27) ?_; intro gb114 hg w15 hbox hb; have n0_ := Aside0.mk (below_step (qb_ HB.out) hb); have n1_ := Aside0.mk (hbox); have n2_ := Aside0.mk (bz_ hg (qb_ HB.out) : w.heap.size ≤ gb114); have n3_ := n2_; clear HB; have HB := n0_; have BK114 := n1_; have GW114 := n2_; have GE114 := n3_; clear n0_ n1_ n2_ n3_; clear hb hbox hg; obtain ⟨Z16_0, Z16_1, Z16_2, Z16_3, Z16_4, Z16_5, Z16_6, Z16_7, Z16_8, Z16_9, Z16_10, Z16_11, Z16_12, Z16_13, Z16_14, Z16_15, Z16_16, Z16_17, Z16_18, Z16_19, Z16_20, Z16_21, Z16_22, Z16_23, Z16_24, Y16_0, Y16_1, Y16_2, Y16_3, Y16_4, Y16_5, Y16_6, Y16_7, Y16_8, Y16_9, Y16_10, Y16_11, Y16_12, Y16_13, Y16_14, Y16_15, Y16_16, Y16_17, Y16_18, Y16_19, Y16_20, Y16_21, Y16_22, Y16_23, Y16_24⟩ := cz25_ BK114.out))
  go_ret
  exact ⟨qe_, qb1_ GE114.out HB.out⟩
end Go.Proofs.YtjkjiibhdpcpkaaDoor.PS
end
