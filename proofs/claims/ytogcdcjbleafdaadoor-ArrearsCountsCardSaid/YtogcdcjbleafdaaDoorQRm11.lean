import Derived.Test.YtogcdcjbleafdaaDoorQRm2
import Derived.Test.YtogcdcjbleafdaaDoorQRm4
import Derived.Test.YtogcdcjbleafdaaDoorQRm5
import Derived.Test.YtogcdcjbleafdaaDoorQRm7
import Derived.Test.YtogcdcjbleafdaaDoorQRm10
section
namespace Go.Proofs.YtogcdcjbleafdaaDoor.PS
open Go.RowKit Go.Proofs.YtogcdcjbleafdaaDoorW.PrintWords Go.Proofs.YtogcdcjbleafdaaDoorW.PrintLast Go.Proofs.YtogcdcjbleafdaaDoorW.PrintMore
attribute [local go_sem] max2_int min2_int max_two min_two
set_option linter.unusedVariables false
set_option linter.unusedSimpArgs false
mutual
def arrears_Charge.j0 : Nat → Int → Bool → Int → Int → Int → Int → Int → Int → Int → Int → Int → Int → Int → Int → Int → Int → Int → Int → Int → Int → Int → Int → Int → ByteArray → ByteArray → List (S67) → List (S70) → Option (Int × Int × Int × Int × Int × Int × Int × Int × Int × Int × Int × Int × Int × Int × Int × Int × Int × Int × Int × Int × Int × ByteArray × ByteArray × (List (S67)) × (List (S70)) × Int × Int)
 | 0, _, _, _, _, _, _, _, _, _, _, _, _, _, _, _, _, _, _, _, _, _, _, _, _, _, _, _ => none
 | k + 1, x1, x11, x277000, x277001, x277002, x277003, x277004, x277005, x277006, x277007, x277008, x277009, x277010, x277011, x277012, x277013, x277014, x277015, x277016, x277017, x277018, x277019, x277020, x277021, x277022, x277023, x277024 => if x11 = true then (some (0, 0, 0, 0, 0, 0, 0, 0, 0, 0, 0, 0, 0, 0, 0, 0, 0, 0, 0, 0, 0, (⟨#[]⟩ : ByteArray), (⟨#[]⟩ : ByteArray), ([] : List (S67)), ([] : List (S70)), 0, 1)) else (if x277002 = 1 then (if x1 < x277007 then (some (0, 0, 0, 0, 0, 0, 0, 0, 0, 0, 0, 0, 0, 0, 0, 0, 0, 0, 0, 0, 0, (⟨#[]⟩ : ByteArray), (⟨#[]⟩ : ByteArray), ([] : List (S67)), ([] : List (S70)), 0, 10)) else ((arrears_Penalty.f k x277000 x277001 x277002 x277003 x277004 x277005 x277006 x277007 x277008 x277009 x277010 x277011 x277012 x277013 x277014 x277015 x277016 x277017 x277018 x277019 x277020 x277021 x277022 x277023 x277024 x277007 x1).bind fun bt280 => (if bt280.2.2 = 0 then ((rounding_Amount.f bt280.1 bt280.2.1 6).bind fun bt284 => (if bt284.2.2.2 = 0 then (arrears_Charge.j1 k x1 bt284.1 (decide ((wrap64 (x277006 + bt284.1)) > 1000000000000)) x277000 x277001 x277002 x277003 x277004 x277005 x277006 x277007 x277008 x277009 x277010 x277011 x277012 x277013 x277014 x277015 x277016 x277017 x277018 x277019 x277020 x277021 x277022 x277023 x277024) else (arrears_Charge.j1 k x1 bt284.1 true x277000 x277001 x277002 x277003 x277004 x277005 x277006 x277007 x277008 x277009 x277010 x277011 x277012 x277013 x277014 x277015 x277016 x277017 x277018 x277019 x277020 x277021 x277022 x277023 x277024))) else (some (0, 0, 0, 0, 0, 0, 0, 0, 0, 0, 0, 0, 0, 0, 0, 0, 0, 0, 0, 0, 0, (⟨#[]⟩ : ByteArray), (⟨#[]⟩ : ByteArray), ([] : List (S67)), ([] : List (S70)), 0, bt280.2.2))))) else (some (0, 0, 0, 0, 0, 0, 0, 0, 0, 0, 0, 0, 0, 0, 0, 0, 0, 0, 0, 0, 0, (⟨#[]⟩ : ByteArray), (⟨#[]⟩ : ByteArray), ([] : List (S67)), ([] : List (S70)), 0, 17)))
def arrears_Charge.j1 : Nat → Int → Int → Bool → Int → Int → Int → Int → Int → Int → Int → Int → Int → Int → Int → Int → Int → Int → Int → Int → Int → Int → Int → Int → Int → ByteArray → ByteArray → List (S67) → List (S70) → Option (Int × Int × Int × Int × Int × Int × Int × Int × Int × Int × Int × Int × Int × Int × Int × Int × Int × Int × Int × Int × Int × ByteArray × ByteArray × (List (S67)) × (List (S70)) × Int × Int)
 | 0, _, _, _, _, _, _, _, _, _, _, _, _, _, _, _, _, _, _, _, _, _, _, _, _, _, _, _, _ => none
 | k + 1, x1, x9, x58, x277000, x277001, x277002, x277003, x277004, x277005, x277006, x277007, x277008, x277009, x277010, x277011, x277012, x277013, x277014, x277015, x277016, x277017, x277018, x277019, x277020, x277021, x277022, x277023, x277024 => if x58 = true then (some (0, 0, 0, 0, 0, 0, 0, 0, 0, 0, 0, 0, 0, 0, 0, 0, 0, 0, 0, 0, 0, (⟨#[]⟩ : ByteArray), (⟨#[]⟩ : ByteArray), ([] : List (S67)), ([] : List (S70)), 0, 6)) else ((api_Due_34.f x277023).bind fun t289 => ((api_Change.f x277024).bind fun t292 => (some (x277000, x277001, x277002, x277003, x277004, x277005, wrap64 (x277006 + x9), x1, x277008, x277009, x277010, x277011, x277012, x277013, x277014, x277015, x277016, x277017, x277018, x277019, x277020, x277021, x277022, t289, t292, x9, 0))))
end
def arrears_Charge.f (k : Nat) (a0_0 a0_1 a0_2 a0_3 a0_4 a0_5 a0_6 a0_7 a0_8 a0_9 a0_10 a0_11 a0_12 a0_13 a0_14 a0_15 a0_16 a0_17 a0_18 a0_19 a0_20 : Int) (a0_21 a0_22 : ByteArray) (l0_23 : List (S67)) (l0_24 : List (S70)) (a1 : Int) : Option (Int × Int × Int × Int × Int × Int × Int × Int × Int × Int × Int × Int × Int × Int × Int × Int × Int × Int × Int × Int × Int × ByteArray × ByteArray × (List (S67)) × (List (S70)) × Int × Int) := (loan_Check.f k a0_0 a0_1 a0_2 a0_3 a0_4 a0_5 a0_6 a0_7 a0_8 a0_9 a0_10 a0_11 a0_12 a0_13 a0_14 a0_15 a0_16 a0_17 a0_18 a0_19 a0_20 a0_21 a0_22 l0_23 l0_24).bind fun t278 => (if t278 = 0 then ((arrears_day.f a1).bind fun t279 => (arrears_Charge.j0 k a1 (!t279) a0_0 a0_1 a0_2 a0_3 a0_4 a0_5 a0_6 a0_7 a0_8 a0_9 a0_10 a0_11 a0_12 a0_13 a0_14 a0_15 a0_16 a0_17 a0_18 a0_19 a0_20 a0_21 a0_22 l0_23 l0_24)) else (arrears_Charge.j0 k a1 true a0_0 a0_1 a0_2 a0_3 a0_4 a0_5 a0_6 a0_7 a0_8 a0_9 a0_10 a0_11 a0_12 a0_13 a0_14 a0_15 a0_16 a0_17 a0_18 a0_19 a0_20 a0_21 a0_22 l0_23 l0_24))
theorem arrears_Charge.mono_l : ∀ k, (∀ y0 y1 y2 y3 y4 y5 y6 y7 y8 y9 y10 y11 y12 y13 y14 y15 y16 y17 y18 y19 y20 y21 y22 y23 y24 y25 y26, LeO (arrears_Charge.j0 k y0 y1 y2 y3 y4 y5 y6 y7 y8 y9 y10 y11 y12 y13 y14 y15 y16 y17 y18 y19 y20 y21 y22 y23 y24 y25 y26) (arrears_Charge.j0 (k + 1) y0 y1 y2 y3 y4 y5 y6 y7 y8 y9 y10 y11 y12 y13 y14 y15 y16 y17 y18 y19 y20 y21 y22 y23 y24 y25 y26)) ∧ (∀ y0 y1 y2 y3 y4 y5 y6 y7 y8 y9 y10 y11 y12 y13 y14 y15 y16 y17 y18 y19 y20 y21 y22 y23 y24 y25 y26 y27, LeO (arrears_Charge.j1 k y0 y1 y2 y3 y4 y5 y6 y7 y8 y9 y10 y11 y12 y13 y14 y15 y16 y17 y18 y19 y20 y21 y22 y23 y24 y25 y26 y27) (arrears_Charge.j1 (k + 1) y0 y1 y2 y3 y4 y5 y6 y7 y8 y9 y10 y11 y12 y13 y14 y15 y16 y17 y18 y19 y20 y21 y22 y23 y24 y25 y26 y27))
 | 0 => ⟨fun _ _ _ _ _ _ _ _ _ _ _ _ _ _ _ _ _ _ _ _ _ _ _ _ _ _ _ r h => by simp [arrears_Charge.j0] at h, fun _ _ _ _ _ _ _ _ _ _ _ _ _ _ _ _ _ _ _ _ _ _ _ _ _ _ _ _ r h => by simp [arrears_Charge.j1] at h⟩
 | k + 1 => by
  obtain ⟨ih0, ih1⟩ := arrears_Charge.mono_l k
  refine ⟨?_, ?_⟩
  ·intro y0 y1 y2 y3 y4 y5 y6 y7 y8 y9 y10 y11 y12 y13 y14 y15 y16 y17 y18 y19 y20 y21 y22 y23 y24 y25 y26
   unfold arrears_Charge.j0
   repeat' first
   | (with_reducible apply ih0)
   | (with_reducible apply ih1)
   | (with_reducible apply arrears_Penalty.mono)
   | (with_reducible apply loan_Check.mono)
   | (with_reducible exact LeO.refl _)
   | (with_reducible exact LeO.none _)
   | (with_reducible refine LeO.ite ?_ ?_)
   | (with_reducible refine LeO.bind ?_ (fun _ => ?_))
   | apply ih0
   | apply ih1
   | apply arrears_Penalty.mono
   | apply loan_Check.mono
   | exact LeO.none _
   | refine LeO.ite ?_ ?_
   | refine LeO.bind ?_ (fun _ => ?_)
  ·intro y0 y1 y2 y3 y4 y5 y6 y7 y8 y9 y10 y11 y12 y13 y14 y15 y16 y17 y18 y19 y20 y21 y22 y23 y24 y25 y26 y27
   unfold arrears_Charge.j1
   repeat' first
   | (with_reducible apply ih0)
   | (with_reducible apply ih1)
   | (with_reducible apply arrears_Penalty.mono)
   | (with_reducible apply loan_Check.mono)
   | (with_reducible exact LeO.refl _)
   | (with_reducible exact LeO.none _)
   | (with_reducible refine LeO.ite ?_ ?_)
   | (with_reducible refine LeO.bind ?_ (fun _ => ?_))
   | apply ih0
   | apply ih1
   | apply arrears_Penalty.mono
   | apply loan_Check.mono
   | exact LeO.none _
   | refine LeO.ite ?_ ?_
   | refine LeO.bind ?_ (fun _ => ?_)
theorem arrears_Charge.mono : ∀ a0 a1 a2 a3 a4 a5 a6 a7 a8 a9 a10 a11 a12 a13 a14 a15 a16 a17 a18 a19 a20 a21 a22 a23 a24 a25 k, LeO (arrears_Charge.f k a0 a1 a2 a3 a4 a5 a6 a7 a8 a9 a10 a11 a12 a13 a14 a15 a16 a17 a18 a19 a20 a21 a22 a23 a24 a25) (arrears_Charge.f (k + 1) a0 a1 a2 a3 a4 a5 a6 a7 a8 a9 a10 a11 a12 a13 a14 a15 a16 a17 a18 a19 a20 a21 a22 a23 a24 a25) := by
 intro a0 a1 a2 a3 a4 a5 a6 a7 a8 a9 a10 a11 a12 a13 a14 a15 a16 a17 a18 a19 a20 a21 a22 a23 a24 a25 k
 obtain ⟨ih0, ih1⟩ := arrears_Charge.mono_l k
 unfold arrears_Charge.f
 repeat' first
   | (with_reducible apply ih0)
   | (with_reducible apply ih1)
   | (with_reducible apply arrears_Penalty.mono)
   | (with_reducible apply loan_Check.mono)
   | (with_reducible exact LeO.refl _)
   | (with_reducible exact LeO.none _)
   | (with_reducible refine LeO.ite ?_ ?_)
   | (with_reducible refine LeO.bind ?_ (fun _ => ?_))
   | apply ih0
   | apply ih1
   | apply arrears_Penalty.mono
   | apply loan_Check.mono
   | exact LeO.none _
   | refine LeO.ite ?_ ?_
   | refine LeO.bind ?_ (fun _ => ?_)
def arrears_Charge.T15 : Bool × List (List Nat × List Nat) := (true, [([], []), ([0], [0]), ([1], [1]), ([], []), ([3], [3]), ([4, 2], [4]), ([0, 1, 2, 3, 4], []), ([6, 2, 5, 0, 1, 2, 3, 4], [2, 6]), ([0, 1, 2, 3, 4, 5, 6, 7], []), ([8, 5, 7, 0, 1, 2, 3, 4, 5, 6, 7], [5, 8])])
def arrears_Charge.B15 : List Nat := [0, 1, 3, 0, 8, 31, 31, 127, 255, 511]
theorem arrears_Charge.tab15 : rtab .any (opsOf Tryd.f11 15) = arrears_Charge.T15 := by kernel_rfl
theorem arrears_Charge.bits15 : waitsOk arrears_Charge.T15.2 arrears_Charge.B15 = true := by kernel_rfl
set_option maxHeartbeats 8000000 in
set_option maxRecDepth 100000 in
theorem arrears_Charge.calls (k : Nat) (a0_0 a0_1 a0_2 a0_3 a0_4 a0_5 a0_6 a0_7 a0_8 a0_9 a0_10 a0_11 a0_12 a0_13 a0_14 a0_15 a0_16 a0_17 a0_18 a0_19 a0_20 : Int) (a0_21 a0_22 : ByteArray) (A0_23 : Option Addr) (c0_23 : Nat) (l0_23 : List (S67)) (A0_24 : Option Addr) (c0_24 : Nat) (l0_24 : List (S70)) (a1 r1 r2 r3 r4 r5 r6 r7 r8 r9 r10 r11 r12 r13 r14 r15 r16 r17 r18 r19 r20 r21 : Int) (r22 r23 : ByteArray) (r24 : List (S67)) (r25 : List (S70)) (r26 r27 : Int) (w : World) (hG : GW w) (hr0_23 : Kd.C k67 w A0_23 l0_23.length l0_23) (hc0_23 : l0_23.length ≤ c0_23) (hr0_24 : Kd.C k70 w A0_24 l0_24.length l0_24) (hc0_24 : l0_24.length ≤ c0_24) (h : arrears_Charge.f k a0_0 a0_1 a0_2 a0_3 a0_4 a0_5 a0_6 a0_7 a0_8 a0_9 a0_10 a0_11 a0_12 a0_13 a0_14 a0_15 a0_16 a0_17 a0_18 a0_19 a0_20 a0_21 a0_22 l0_23 l0_24 a1 = some (r1, r2, r3, r4, r5, r6, r7, r8, r9, r10, r11, r12, r13, r14, r15, r16, r17, r18, r19, r20, r21, r22, r23, r24, r25, r26, r27)) :
  Calls Tryd.prog 11 #[.agg #[.int .i64 a0_0, .int .i64 a0_1, .int .i64 a0_2, .int .i64 a0_3, .int .i64 a0_4, .int .i64 a0_5, .int .i64 a0_6, .int .i64 a0_7, .int .i64 a0_8, .int .i64 a0_9, .int .i64 a0_10, .int .i64 a0_11, .int .i64 a0_12, .int .i64 a0_13, .int .i64 a0_14, .int .i64 a0_15, .int .i64 a0_16, .int .i64 a0_17, .int .i64 a0_18, .int .i64 a0_19, .int .i64 a0_20, .string a0_21, .string a0_22, .slice A0_23 l0_23.length c0_23, .slice A0_24 l0_24.length c0_24], .int .i64 a1] w fun e w' => ∃ v23_ v24_ : Value, e = .returned (.tuple #[.agg #[.int .i64 r1, .int .i64 r2, .int .i64 r3, .int .i64 r4, .int .i64 r5, .int .i64 r6, .int .i64 r7, .int .i64 r8, .int .i64 r9, .int .i64 r10, .int .i64 r11, .int .i64 r12, .int .i64 r13, .int .i64 r14, .int .i64 r15, .int .i64 r16, .int .i64 r17, .int .i64 r18, .int .i64 r19, .int .i64 r20, .int .i64 r21, .string r22, .string r23, v23_, v24_], .int .i64 r26, .int .i64 r27]) ∧ Kd.R k67 67 w' w.heap.size (fun _ => True) v23_ r24 ∧ Kd.R k70 70 w' w.heap.size (fun _ => True) v24_ r25 ∧ Below w.heap.size w w' := by
 have hu27 := Tryd.underlying27
 have hu32 := Tryd.underlying32
 have HR0_23 := am_ hr0_23
 have HC0_23 := am_ hc0_23
 clear hr0_23 hc0_23
 have HR0_24 := am_ hr0_24
 have HC0_24 := am_ hc0_24
 clear hr0_24 hc0_24
 have HB := am_ (Below.refl w.heap.size w)
 have H := h
 clear h
 unfold arrears_Charge.f at H
 have HC3 := am_ H
 clear H
 go_enter Tryd.func11, Tryd.ntmps11
 go_upto_region 1 with (first | ((with_reducible refine gate_load_ (t := 27) rfl ?_); refine ld_ (t := 27) Tryd.underlying27 rfl rfl rfl (by (repeat (first | (with_reducible first | refine blk_drewN ?_ _ | refine blk_drew ?_ | refine blk_alloc ?_ _) | refine blk_far ?_ NB276_277.out _ | refine blk_far ?_ NB276_283.out _ | refine blk_far ?_ NB276_288.out _ | refine blk_far ?_ NB277_276.out _ | refine blk_far ?_ NB277_283.out _ | refine blk_far ?_ NB277_288.out _ | refine blk_set ?_ _ _)); (with_reducible first | exact BK276.out | exact BK277.out)) rfl (by kernel_rfl) ?_) | ((with_reducible refine gate_load_ (t := 27) rfl ?_); refine ldgA_ (t := 27) Tryd.underlying27 rfl (by rfl) rfl (by (repeat (first | (with_reducible first | refine blk_drewN ?_ _ | refine blk_drew ?_ | refine blk_alloc ?_ _) | refine blk_far ?_ NB276_277.out _ | refine blk_far ?_ NB276_283.out _ | refine blk_far ?_ NB276_288.out _ | refine blk_far ?_ NB277_276.out _ | refine blk_far ?_ NB277_283.out _ | refine blk_far ?_ NB277_288.out _ | refine blk_set ?_ _ _)); (with_reducible first | exact BK276.out | exact BK277.out)) rfl (by kernel_rfl) ?_) | ((with_reducible refine gate_dst (N := 2) rfl ?_); refine be_ (N := 2) (cs := #[.int .i64 a0_0, .int .i64 a0_1, .int .i64 a0_2, .int .i64 a0_3, .int .i64 a0_4, .int .i64 a0_5, .int .i64 a0_6, .int .i64 a0_7, .int .i64 a0_8, .int .i64 a0_9, .int .i64 a0_10, .int .i64 a0_11, .int .i64 a0_12, .int .i64 a0_13, .int .i64 a0_14, .int .i64 a0_15, .int .i64 a0_16, .int .i64 a0_17, .int .i64 a0_18, .int .i64 a0_19, .int .i64 a0_20, .string a0_21, .string a0_22, .slice A0_23 l0_23.length c0_23, .slice A0_24 l0_24.length c0_24]) (t := 27) ?_; intro gb276 hg w4 hbox hb; have BK276 := am_ (hbox); have GE276 := am_ (bz_ hg (qb_ HB.out) : w.heap.size ≤ gb276); replace HB := am_ (below_step (qb_ HB.out) hb); clear hb hbox hg) | ((with_reducible refine gate_dst (N := 4) rfl ?_); refine be_ (N := 4) (cs := #[.int .i64 0, .int .i64 0, .int .i64 0, .int .i64 0, .int .i64 0, .int .i64 0, .int .i64 0, .int .i64 0, .int .i64 0, .int .i64 0, .int .i64 0, .int .i64 0, .int .i64 0, .int .i64 0, .int .i64 0, .int .i64 0, .int .i64 0, .int .i64 0, .int .i64 0, .int .i64 0, .int .i64 0, .string (⟨#[]⟩ : ByteArray), .string (⟨#[]⟩ : ByteArray), .slice none 0 0, .slice none 0 0]) (t := 27) ?_; intro gb277 hg w5 hbox hb; have BK277 := am_ (hbox); have GE277 := am_ (bz_ hg (qb1_ GE276.out HB.out) : w.heap.size ≤ gb277); replace HB := am_ (below_step (qb1_ GE276.out HB.out) hb); have NB276_277 := am_ (nl_ hg (qk_ BK276.out) : gb276 ≠ gb277); have NB277_276 := am_ (ng_ hg (qk_ BK276.out) : gb277 ≠ gb276); replace BK276 := am_ (blk_below (qk_ BK276.out) hb); clear hb hbox hg))
 (try simp only [Act.put, List.setIfInBounds_toArray, List.set_cons_zero, List.set_cons_succ])
 go_cut [11] (fun v11 wc => ∃ (kq : Nat) (x11_2 : Bool), v11 = .bool x11_2 ∧ Aside0 (arrears_Charge.j0 kq a1 x11_2 a0_0 a0_1 a0_2 a0_3 a0_4 a0_5 a0_6 a0_7 a0_8 a0_9 a0_10 a0_11 a0_12 a0_13 a0_14 a0_15 a0_16 a0_17 a0_18 a0_19 a0_20 a0_21 a0_22 l0_23 l0_24 = some (r1, r2, r3, r4, r5, r6, r7, r8, r9, r10, r11, r12, r13, r14, r15, r16, r17, r18, r19, r20, r21, r22, r23, r24, r25, r26, r27)) ∧ Aside0 (kq ≤ k) ∧ Aside0 (wc.heap[gb276]? = some (.cells #[.int .i64 a0_0, .int .i64 a0_1, .int .i64 a0_2, .int .i64 a0_3, .int .i64 a0_4, .int .i64 a0_5, .int .i64 a0_6, .int .i64 a0_7, .int .i64 a0_8, .int .i64 a0_9, .int .i64 a0_10, .int .i64 a0_11, .int .i64 a0_12, .int .i64 a0_13, .int .i64 a0_14, .int .i64 a0_15, .int .i64 a0_16, .int .i64 a0_17, .int .i64 a0_18, .int .i64 a0_19, .int .i64 a0_20, .string a0_21, .string a0_22, (.slice A0_23 l0_23.length c0_23), (.slice A0_24 l0_24.length c0_24)] 27 (0, 0))) ∧ Aside0 (wc.heap[gb277]? = some (.cells #[.int .i64 0, .int .i64 0, .int .i64 0, .int .i64 0, .int .i64 0, .int .i64 0, .int .i64 0, .int .i64 0, .int .i64 0, .int .i64 0, .int .i64 0, .int .i64 0, .int .i64 0, .int .i64 0, .int .i64 0, .int .i64 0, .int .i64 0, .int .i64 0, .int .i64 0, .int .i64 0, .int .i64 0, .string (⟨#[]⟩ : ByteArray), .string (⟨#[]⟩ : ByteArray), (.slice none 0 0), (.slice none 0 0)] 27 (0, 0))) ∧ Aside0 (Below w.heap.size w wc))
 case first =>
  have H := HC3.out
  clear HC3
  replace H := Option.bind_eq_some_iff.mp H
  obtain ⟨t278, A60, H⟩ := H
  (try dsimp only at H)
  have A6 := am_ A60
  clear A60
  by_cases c7 : t278 = 0
  ·rw [if_pos c7] at H
   have c7b0 : (t278 == 0) = true := beq_iff_eq.mpr c7
   have c7b1 : (t278 != 0) = false := bne_eq_false_iff_eq.mpr c7
   clear c7
   (first | rw [c7b0] | (simp only [i64_w, i32_w]; rw [c7b0]) | skip)
   replace H := Option.bind_eq_some_iff.mp H
   obtain ⟨t279, A80, H⟩ := H
   (try dsimp only at H)
   have A8 := am_ A80
   clear A80
   have H' := am_ H
   clear H
   have hnb9 := NB276_277.out
   have hnc9 := NB277_276.out
   obtain ⟨Z10_0, Z10_1, Z10_2, Z10_3, Z10_4, Z10_5, Z10_6, Z10_7, Z10_8, Z10_9, Z10_10, Z10_11, Z10_12, Z10_13, Z10_14, Z10_15, Z10_16, Z10_17, Z10_18, Z10_19, Z10_20, Z10_21, Z10_22, Z10_23, Z10_24, Y10_0, Y10_1, Y10_2, Y10_3, Y10_4, Y10_5, Y10_6, Y10_7, Y10_8, Y10_9, Y10_10, Y10_11, Y10_12, Y10_13, Y10_14, Y10_15, Y10_16, Y10_17, Y10_18, Y10_19, Y10_20, Y10_21, Y10_22, Y10_23, Y10_24⟩ := cz25_ BK276.out
   go_wp2_with (first | ((with_reducible refine gate_load_ (t := 27) rfl ?_); refine ld_ (t := 27) Tryd.underlying27 rfl rfl rfl (by (repeat (first | (with_reducible first | refine blk_drewN ?_ _ | refine blk_drew ?_ | refine blk_alloc ?_ _) | refine blk_far ?_ NB276_277.out _ | refine blk_far ?_ NB276_283.out _ | refine blk_far ?_ NB276_288.out _ | refine blk_far ?_ NB277_276.out _ | refine blk_far ?_ NB277_283.out _ | refine blk_far ?_ NB277_288.out _ | refine blk_set ?_ _ _)); (with_reducible first | exact BK276.out | exact BK277.out)) rfl (by kernel_rfl) ?_) | ((with_reducible refine gate_load_ (t := 27) rfl ?_); refine ldgA_ (t := 27) Tryd.underlying27 rfl (by rfl) rfl (by (repeat (first | (with_reducible first | refine blk_drewN ?_ _ | refine blk_drew ?_ | refine blk_alloc ?_ _) | refine blk_far ?_ NB276_277.out _ | refine blk_far ?_ NB276_283.out _ | refine blk_far ?_ NB276_288.out _ | refine blk_far ?_ NB277_276.out _ | refine blk_far ?_ NB277_283.out _ | refine blk_far ?_ NB277_288.out _ | refine blk_set ?_ _ _)); (with_reducible first | exact BK276.out | exact BK277.out)) rfl (by kernel_rfl) ?_) | ((with_reducible refine gate_callee (f := 13) rfl ?_); refine goesL_ (some 13) rfl rfl Tryd.func13 (by kernel_rfl) rfl #[.agg #[.int .i64 a0_0, .int .i64 a0_1, .int .i64 a0_2, .int .i64 a0_3, .int .i64 a0_4, .int .i64 a0_5, .int .i64 a0_6, .int .i64 a0_7, .int .i64 a0_8, .int .i64 a0_9, .int .i64 a0_10, .int .i64 a0_11, .int .i64 a0_12, .int .i64 a0_13, .int .i64 a0_14, .int .i64 a0_15, .int .i64 a0_16, .int .i64 a0_17, .int .i64 a0_18, .int .i64 a0_19, .int .i64 a0_20, .string a0_21, .string a0_22, .slice A0_23 l0_23.length c0_23, .slice A0_24 l0_24.length c0_24]] rfl ql_ ?_; (with_reducible refine (loan_Check.calls k a0_0 a0_1 a0_2 a0_3 a0_4 a0_5 a0_6 a0_7 a0_8 a0_9 a0_10 a0_11 a0_12 a0_13 a0_14 a0_15 a0_16 a0_17 a0_18 a0_19 a0_20 a0_21 a0_22 _ _ l0_23 _ _ l0_24 t278 _ ?side1 ?side2 ?side3 ?side4 A6.out).mono ?_); (case side1 => repeat (first | exact (Kd.C_below HR0_23.out HB.out) | (with_reducible refine Kd.C_alloc ?_ _) | (with_reducible refine Kd.C_drewN ?_ _) | (with_reducible refine Kd.C_drew ?_))); (case side2 => exact HC0_23.out); (case side3 => repeat (first | exact (Kd.C_below HR0_24.out HB.out) | (with_reducible refine Kd.C_alloc ?_ _) | (with_reducible refine Kd.C_drewN ?_ _) | (with_reducible refine Kd.C_drew ?_))); (case side4 => exact HC0_24.out); rintro e w11 ⟨rfl, hb⟩; refine ⟨_, rfl, ?_⟩; replace BK276 := am_ (blk_below (qk_ BK276.out) hb); replace BK277 := am_ (blk_below (qk_ BK277.out) hb); replace HB := am_ (below_step (qb2_ GE276.out GE277.out HB.out) hb); (try clear hb)) | (go_at_call 26; (with_reducible refine (arrears_day.calls a1 t279 _ A8.out).mono ?_); rintro e w' ⟨rfl, ⟨nd, rfl⟩⟩))
   go_meet
   case rel => exact ⟨_, (!t279), qs_, H', ⟨qo_⟩, ⟨qk_ BK276.out⟩, ⟨qk_ BK277.out⟩, ⟨qb2_ GE276.out GE277.out HB.out⟩⟩
  ·rw [if_neg c7] at H
   have c7b0 : (t278 == 0) = false := beq_eq_false_iff_ne.mpr c7
   have c7b1 : (t278 != 0) = true := bne_iff_ne.mpr c7
   (first | rw [c7b0] | (simp only [i64_w, i32_w]; rw [c7b0]) | skip)
   have H' := am_ H
   clear H
   have hnb12 := NB276_277.out
   have hnc12 := NB277_276.out
   obtain ⟨Z13_0, Z13_1, Z13_2, Z13_3, Z13_4, Z13_5, Z13_6, Z13_7, Z13_8, Z13_9, Z13_10, Z13_11, Z13_12, Z13_13, Z13_14, Z13_15, Z13_16, Z13_17, Z13_18, Z13_19, Z13_20, Z13_21, Z13_22, Z13_23, Z13_24, Y13_0, Y13_1, Y13_2, Y13_3, Y13_4, Y13_5, Y13_6, Y13_7, Y13_8, Y13_9, Y13_10, Y13_11, Y13_12, Y13_13, Y13_14, Y13_15, Y13_16, Y13_17, Y13_18, Y13_19, Y13_20, Y13_21, Y13_22, Y13_23, Y13_24⟩ := cz25_ BK276.out
   go_wp2_with (first | ((with_reducible refine gate_load_ (t := 27) rfl ?_); refine ld_ (t := 27) Tryd.underlying27 rfl rfl rfl (by (repeat (first | (with_reducible first | refine blk_drewN ?_ _ | refine blk_drew ?_ | refine blk_alloc ?_ _) | refine blk_far ?_ NB276_277.out _ | refine blk_far ?_ NB276_283.out _ | refine blk_far ?_ NB276_288.out _ | refine blk_far ?_ NB277_276.out _ | refine blk_far ?_ NB277_283.out _ | refine blk_far ?_ NB277_288.out _ | refine blk_set ?_ _ _)); (with_reducible first | exact BK276.out | exact BK277.out)) rfl (by kernel_rfl) ?_) | ((with_reducible refine gate_load_ (t := 27) rfl ?_); refine ldgA_ (t := 27) Tryd.underlying27 rfl (by rfl) rfl (by (repeat (first | (with_reducible first | refine blk_drewN ?_ _ | refine blk_drew ?_ | refine blk_alloc ?_ _) | refine blk_far ?_ NB276_277.out _ | refine blk_far ?_ NB276_283.out _ | refine blk_far ?_ NB276_288.out _ | refine blk_far ?_ NB277_276.out _ | refine blk_far ?_ NB277_283.out _ | refine blk_far ?_ NB277_288.out _ | refine blk_set ?_ _ _)); (with_reducible first | exact BK276.out | exact BK277.out)) rfl (by kernel_rfl) ?_) | ((with_reducible refine gate_callee (f := 13) rfl ?_); refine goesL_ (some 13) rfl rfl Tryd.func13 (by kernel_rfl) rfl #[.agg #[.int .i64 a0_0, .int .i64 a0_1, .int .i64 a0_2, .int .i64 a0_3, .int .i64 a0_4, .int .i64 a0_5, .int .i64 a0_6, .int .i64 a0_7, .int .i64 a0_8, .int .i64 a0_9, .int .i64 a0_10, .int .i64 a0_11, .int .i64 a0_12, .int .i64 a0_13, .int .i64 a0_14, .int .i64 a0_15, .int .i64 a0_16, .int .i64 a0_17, .int .i64 a0_18, .int .i64 a0_19, .int .i64 a0_20, .string a0_21, .string a0_22, .slice A0_23 l0_23.length c0_23, .slice A0_24 l0_24.length c0_24]] rfl ql_ ?_; (with_reducible refine (loan_Check.calls k a0_0 a0_1 a0_2 a0_3 a0_4 a0_5 a0_6 a0_7 a0_8 a0_9 a0_10 a0_11 a0_12 a0_13 a0_14 a0_15 a0_16 a0_17 a0_18 a0_19 a0_20 a0_21 a0_22 _ _ l0_23 _ _ l0_24 t278 _ ?side1 ?side2 ?side3 ?side4 A6.out).mono ?_); (case side1 => repeat (first | exact (Kd.C_below HR0_23.out HB.out) | (with_reducible refine Kd.C_alloc ?_ _) | (with_reducible refine Kd.C_drewN ?_ _) | (with_reducible refine Kd.C_drew ?_))); (case side2 => exact HC0_23.out); (case side3 => repeat (first | exact (Kd.C_below HR0_24.out HB.out) | (with_reducible refine Kd.C_alloc ?_ _) | (with_reducible refine Kd.C_drewN ?_ _) | (with_reducible refine Kd.C_drew ?_))); (case side4 => exact HC0_24.out); rintro e w14 ⟨rfl, hb⟩; refine ⟨_, rfl, ?_⟩; replace BK276 := am_ (blk_below (qk_ BK276.out) hb); replace BK277 := am_ (blk_below (qk_ BK277.out) hb); replace HB := am_ (below_step (qb2_ GE276.out GE277.out HB.out) hb); (try clear hb)))
   go_meet
   case rel => exact ⟨_, (true), qs_, H', ⟨qo_⟩, ⟨qk_ BK276.out⟩, ⟨qk_ BK277.out⟩, ⟨qb2_ GE276.out GE277.out HB.out⟩⟩
 case rest =>
  clear HC3
  try clear c1
  try clear p2
  try clear c7
  try clear c7b0
  try clear c7b1
  try clear c9
  try clear c11
  try clear c12
  try clear c13
  (try clear Z10_0 Z10_1 Z10_10 Z10_11 Z10_12 Z10_13 Z10_14 Z10_15 Z10_16 Z10_17 Z10_18 Z10_19 Z10_2 Z10_20 Z10_21 Z10_22 Z10_23 Z10_24 Z10_3 Z10_4 Z10_5 Z10_6 Z10_7 Z10_8 Z10_9 Y10_0 Y10_1 Y10_10 Y10_11 Y10_12 Y10_13 Y10_14 Y10_15 Y10_16 Y10_17 Y10_18 Y10_19 Y10_2 Y10_20 Y10_21 Y10_22 Y10_23 Y10_24 Y10_3 Y10_4 Y10_5 Y10_6 Y10_7 Y10_8 Y10_9)
  (try clear Z13_0 Z13_1 Z13_10 Z13_11 Z13_12 Z13_13 Z13_14 Z13_15 Z13_16 Z13_17 Z13_18 Z13_19 Z13_2 Z13_20 Z13_21 Z13_22 Z13_23 Z13_24 Z13_3 Z13_4 Z13_5 Z13_6 Z13_7 Z13_8 Z13_9 Y13_0 Y13_1 Y13_10 Y13_11 Y13_12 Y13_13 Y13_14 Y13_15 Y13_16 Y13_17 Y13_18 Y13_19 Y13_2 Y13_20 Y13_21 Y13_22 Y13_23 Y13_24 Y13_3 Y13_4 Y13_5 Y13_6 Y13_7 Y13_8 Y13_9)
  obtain ⟨kq, x11_2, rfl, HA, HJ2, BK276, BK277, HB⟩ := hcut
  cases kq with
  | zero => exact absurd HA.out (by simp [arrears_Charge.j0])
  | succ kj2 =>
   have H := HA.out
   clear HA
   simp only [arrears_Charge.j0] at H
   by_cases c15 : x11_2 = true
   ·subst c15
    rw [if_pos rfl] at H
    simp only [Option.some.injEq, Prod.mk.injEq] at H
    obtain ⟨rfl, rfl, rfl, rfl, rfl, rfl, rfl, rfl, rfl, rfl, rfl, rfl, rfl, rfl, rfl, rfl, rfl, rfl, rfl, rfl, rfl, rfl, rfl, rfl, rfl, rfl, rfl⟩ := H
    have hnb16 := NB277_276.out
    have hnc16 := NB276_277.out
    obtain ⟨Z17_0, Z17_1, Z17_2, Z17_3, Z17_4, Z17_5, Z17_6, Z17_7, Z17_8, Z17_9, Z17_10, Z17_11, Z17_12, Z17_13, Z17_14, Z17_15, Z17_16, Z17_17, Z17_18, Z17_19, Z17_20, Z17_21, Z17_22, Z17_23, Z17_24, Y17_0, Y17_1, Y17_2, Y17_3, Y17_4, Y17_5, Y17_6, Y17_7, Y17_8, Y17_9, Y17_10, Y17_11, Y17_12, Y17_13, Y17_14, Y17_15, Y17_16, Y17_17, Y17_18, Y17_19, Y17_20, Y17_21, Y17_22, Y17_23, Y17_24⟩ := cz25_ BK277.out
    go_wp2_with (first | ((with_reducible refine gate_store (t := 27) rfl ?_); refine stA_ (g := gb277) (t := 27) (old := ?ro29_0) #[.int .i64 0, .int .i64 0, .int .i64 0, .int .i64 0, .int .i64 0, .int .i64 0, .int .i64 0, .int .i64 0, .int .i64 0, .int .i64 0, .int .i64 0, .int .i64 0, .int .i64 0, .int .i64 0, .int .i64 0, .int .i64 0, .int .i64 0, .int .i64 0, .int .i64 0, .int .i64 0, .int .i64 0, .string (⟨#[]⟩ : ByteArray), .string (⟨#[]⟩ : ByteArray), .slice none 0 0, .slice none 0 0] rfl rfl rfl rfl ?rv29_0 ?rb29_0 ?ri29_0 ?rs29_0 ?rc29_0 ?_; (case rv29_0 => rfl); (case rb29_0 => (repeat (first | (with_reducible first | refine blk_drewN ?_ _ | refine blk_drew ?_ | refine blk_alloc ?_ _) | refine blk_far ?_ NB277_276.out _ | refine blk_far ?_ NB277_283.out _ | refine blk_far ?_ NB277_288.out _)); (with_reducible exact BK277.out)); (case ri29_0 => kernel_rfl); (case rs29_0 => rfl); (case rc29_0 => rfl); intro w_ hnew_ hoth_ hbel_))
    refine bodyPost_ret (results_ctt rfl _ _ gb277 27 #[.int .i64 0, .int .i64 0, .int .i64 0, .int .i64 0, .int .i64 0, .int .i64 0, .int .i64 0, .int .i64 0, .int .i64 0, .int .i64 0, .int .i64 0, .int .i64 0, .int .i64 0, .int .i64 0, .int .i64 0, .int .i64 0, .int .i64 0, .int .i64 0, .int .i64 0, .int .i64 0, .int .i64 0, .string (⟨#[]⟩ : ByteArray), .string (⟨#[]⟩ : ByteArray), .slice none 0 0, .slice none 0 0] (0, 0) _ rfl hnew_ Tryd.underlying27 rfl (by kernel_rfl)) rfl ?_
    exact ⟨_, _, qe_, by first | exact Kd.R_nil _ _ _ _ _ | exact Kd.N_nil _ _ _ _ _ | exact Kd.V_nil _ _ _ _ _ | exact Kd.Q_nil _ _ _ _ _ | exact Kd.S_nil _ _ _ _ _, by first | exact Kd.R_nil _ _ _ _ _ | exact Kd.N_nil _ _ _ _ _ | exact Kd.V_nil _ _ _ _ _ | exact Kd.Q_nil _ _ _ _ _ | exact Kd.S_nil _ _ _ _ _, hbel_ _ _ (qb2_ GE276.out GE277.out HB.out) GE277.out⟩
   ·replace c15 := Bool.eq_false_iff.mpr c15
    subst c15
    rw [if_neg (show ¬ (false = true) by decide)] at H
    by_cases c18 : a0_2 = 1
    ·rw [if_pos c18] at H
     have c18b0 : (a0_2 == 1) = true := beq_iff_eq.mpr c18
     have c18b1 : (a0_2 != 1) = false := bne_eq_false_iff_eq.mpr c18
     clear c18
     by_cases c19 : a1 < a0_7
     ·rw [if_pos c19] at H
      have c19b0 : decide (a1 < a0_7) = true := decide_eq_true c19
      clear c19
      simp only [Option.some.injEq, Prod.mk.injEq] at H
      obtain ⟨rfl, rfl, rfl, rfl, rfl, rfl, rfl, rfl, rfl, rfl, rfl, rfl, rfl, rfl, rfl, rfl, rfl, rfl, rfl, rfl, rfl, rfl, rfl, rfl, rfl, rfl, rfl⟩ := H
      have hnb20 := NB276_277.out
      have hnc20 := NB277_276.out
      obtain ⟨Z21_0, Z21_1, Z21_2, Z21_3, Z21_4, Z21_5, Z21_6, Z21_7, Z21_8, Z21_9, Z21_10, Z21_11, Z21_12, Z21_13, Z21_14, Z21_15, Z21_16, Z21_17, Z21_18, Z21_19, Z21_20, Z21_21, Z21_22, Z21_23, Z21_24, Y21_0, Y21_1, Y21_2, Y21_3, Y21_4, Y21_5, Y21_6, Y21_7, Y21_8, Y21_9, Y21_10, Y21_11, Y21_12, Y21_13, Y21_14, Y21_15, Y21_16, Y21_17, Y21_18, Y21_19, Y21_20, Y21_21, Y21_22, Y21_23, Y21_24⟩ := cz25_ BK276.out
      obtain ⟨Z22_0, Z22_1, Z22_2, Z22_3, Z22_4, Z22_5, Z22_6, Z22_7, Z22_8, Z22_9, Z22_10, Z22_11, Z22_12, Z22_13, Z22_14, Z22_15, Z22_16, Z22_17, Z22_18, Z22_19, Z22_20, Z22_21, Z22_22, Z22_23, Z22_24, Y22_0, Y22_1, Y22_2, Y22_3, Y22_4, Y22_5, Y22_6, Y22_7, Y22_8, Y22_9, Y22_10, Y22_11, Y22_12, Y22_13, Y22_14, Y22_15, Y22_16, Y22_17, Y22_18, Y22_19, Y22_20, Y22_21, Y22_22, Y22_23, Y22_24⟩ := cz25_ BK277.out
      go_wp2_with (first | ((with_reducible refine gate_store (t := 27) rfl ?_); refine stA_ (g := gb277) (t := 27) (old := ?ro29_1) #[.int .i64 0, .int .i64 0, .int .i64 0, .int .i64 0, .int .i64 0, .int .i64 0, .int .i64 0, .int .i64 0, .int .i64 0, .int .i64 0, .int .i64 0, .int .i64 0, .int .i64 0, .int .i64 0, .int .i64 0, .int .i64 0, .int .i64 0, .int .i64 0, .int .i64 0, .int .i64 0, .int .i64 0, .string (⟨#[]⟩ : ByteArray), .string (⟨#[]⟩ : ByteArray), .slice none 0 0, .slice none 0 0] rfl rfl rfl rfl ?rv29_1 ?rb29_1 ?ri29_1 ?rs29_1 ?rc29_1 ?_; (case rv29_1 => rfl); (case rb29_1 => (repeat (first | (with_reducible first | refine blk_drewN ?_ _ | refine blk_drew ?_ | refine blk_alloc ?_ _) | refine blk_far ?_ NB277_276.out _ | refine blk_far ?_ NB277_283.out _ | refine blk_far ?_ NB277_288.out _)); (with_reducible exact BK277.out)); (case ri29_1 => kernel_rfl); (case rs29_1 => rfl); (case rc29_1 => rfl); intro w_ hnew_ hoth_ hbel_))
      refine bodyPost_ret (results_ctt rfl _ _ gb277 27 #[.int .i64 0, .int .i64 0, .int .i64 0, .int .i64 0, .int .i64 0, .int .i64 0, .int .i64 0, .int .i64 0, .int .i64 0, .int .i64 0, .int .i64 0, .int .i64 0, .int .i64 0, .int .i64 0, .int .i64 0, .int .i64 0, .int .i64 0, .int .i64 0, .int .i64 0, .int .i64 0, .int .i64 0, .string (⟨#[]⟩ : ByteArray), .string (⟨#[]⟩ : ByteArray), .slice none 0 0, .slice none 0 0] (0, 0) _ rfl hnew_ Tryd.underlying27 rfl (by kernel_rfl)) rfl ?_
      exact ⟨_, _, qe_, by first | exact Kd.R_nil _ _ _ _ _ | exact Kd.N_nil _ _ _ _ _ | exact Kd.V_nil _ _ _ _ _ | exact Kd.Q_nil _ _ _ _ _ | exact Kd.S_nil _ _ _ _ _, by first | exact Kd.R_nil _ _ _ _ _ | exact Kd.N_nil _ _ _ _ _ | exact Kd.V_nil _ _ _ _ _ | exact Kd.Q_nil _ _ _ _ _ | exact Kd.S_nil _ _ _ _ _, hbel_ _ _ (qb2_ GE276.out GE277.out HB.out) GE277.out⟩
     ·rw [if_neg c19] at H
      have c19b0 : decide (a1 < a0_7) = false := decide_eq_false c19
      clear c19
      replace H := Option.bind_eq_some_iff.mp H
      obtain ⟨⟨t280, t281, t282⟩, A230, H⟩ := H
      (try dsimp only at H)
      have A23 := am_ A230
      clear A230
      by_cases c24 : t282 = 0
      ·rw [if_pos c24] at H
       have c24b0 : (t282 == 0) = true := beq_iff_eq.mpr c24
       have c24b1 : (t282 != 0) = false := bne_eq_false_iff_eq.mpr c24
       clear c24
       replace H := Option.bind_eq_some_iff.mp H
       obtain ⟨⟨t284, t285, t286, t287⟩, A250, H⟩ := H
       (try dsimp only at H)
       have A25 := am_ A250
       clear A250
       have HC26 := am_ H
       clear H
       have hnb27 := NB276_277.out
       have hnc27 := NB277_276.out
       obtain ⟨Z28_0, Z28_1, Z28_2, Z28_3, Z28_4, Z28_5, Z28_6, Z28_7, Z28_8, Z28_9, Z28_10, Z28_11, Z28_12, Z28_13, Z28_14, Z28_15, Z28_16, Z28_17, Z28_18, Z28_19, Z28_20, Z28_21, Z28_22, Z28_23, Z28_24, Y28_0, Y28_1, Y28_2, Y28_3, Y28_4, Y28_5, Y28_6, Y28_7, Y28_8, Y28_9, Y28_10, Y28_11, Y28_12, Y28_13, Y28_14, Y28_15, Y28_16, Y28_17, Y28_18, Y28_19, Y28_20, Y28_21, Y28_22, Y28_23, Y28_24⟩ := cz25_ BK276.out
       go_upto_region 11 with (first | ((with_reducible refine gate_load_ (t := 27) rfl ?_); refine ld_ (t := 27) Tryd.underlying27 rfl rfl rfl (by (repeat (first | (with_reducible first | refine blk_drewN ?_ _ | refine blk_drew ?_ | refine blk_alloc ?_ _) | refine blk_far ?_ NB276_277.out _ | refine blk_far ?_ NB276_283.out _ | refine blk_far ?_ NB276_288.out _ | refine blk_far ?_ NB277_276.out _ | refine blk_far ?_ NB277_283.out _ | refine blk_far ?_ NB277_288.out _ | refine blk_set ?_ _ _)); (with_reducible first | exact BK276.out | exact BK277.out)) rfl (by kernel_rfl) ?_) | ((with_reducible refine gate_load_ (t := 27) rfl ?_); refine ldgA_ (t := 27) Tryd.underlying27 rfl (by rfl) rfl (by (repeat (first | (with_reducible first | refine blk_drewN ?_ _ | refine blk_drew ?_ | refine blk_alloc ?_ _) | refine blk_far ?_ NB276_277.out _ | refine blk_far ?_ NB276_283.out _ | refine blk_far ?_ NB276_288.out _ | refine blk_far ?_ NB277_276.out _ | refine blk_far ?_ NB277_283.out _ | refine blk_far ?_ NB277_288.out _ | refine blk_set ?_ _ _)); (with_reducible first | exact BK276.out | exact BK277.out)) rfl (by kernel_rfl) ?_) | ((with_reducible refine gate_callee (f := 9) rfl ?_); refine goesL_ (some 37) rfl rfl Tryd.func9 (by kernel_rfl) rfl #[.agg #[.int .i64 a0_0, .int .i64 a0_1, .int .i64 a0_2, .int .i64 a0_3, .int .i64 a0_4, .int .i64 a0_5, .int .i64 a0_6, .int .i64 a0_7, .int .i64 a0_8, .int .i64 a0_9, .int .i64 a0_10, .int .i64 a0_11, .int .i64 a0_12, .int .i64 a0_13, .int .i64 a0_14, .int .i64 a0_15, .int .i64 a0_16, .int .i64 a0_17, .int .i64 a0_18, .int .i64 a0_19, .int .i64 a0_20, .string a0_21, .string a0_22, .slice A0_23 l0_23.length c0_23, .slice A0_24 l0_24.length c0_24], .int .i64 a0_7, .int .i64 a1] rfl ql_ ?_; (with_reducible refine (arrears_Penalty.calls kj2 a0_0 a0_1 a0_2 a0_3 a0_4 a0_5 a0_6 a0_7 a0_8 a0_9 a0_10 a0_11 a0_12 a0_13 a0_14 a0_15 a0_16 a0_17 a0_18 a0_19 a0_20 a0_21 a0_22 _ _ l0_23 _ _ l0_24 a0_7 a1 t280 t281 t282 _ ?side1 ?side2 ?side3 ?side4 A23.out).mono ?_); (case side1 => repeat (first | exact (Kd.C_below HR0_23.out HB.out) | (with_reducible refine Kd.C_alloc ?_ _) | (with_reducible refine Kd.C_drewN ?_ _) | (with_reducible refine Kd.C_drew ?_))); (case side2 => exact HC0_23.out); (case side3 => repeat (first | exact (Kd.C_below HR0_24.out HB.out) | (with_reducible refine Kd.C_alloc ?_ _) | (with_reducible refine Kd.C_drewN ?_ _) | (with_reducible refine Kd.C_drew ?_))); (case side4 => exact HC0_24.out); rintro e w29 ⟨rfl, hb⟩; refine ⟨_, rfl, ?_⟩; replace BK276 := am_ (blk_below (qk_ BK276.out) hb); replace BK277 := am_ (blk_below (qk_ BK277.out) hb); replace HB := am_ (below_step (qb2_ GE276.out GE277.out HB.out) hb); (try clear hb)) | ((with_reducible refine gate_dst (N := 7) rfl ?_); refine be_ (N := 7) (cs := #[.int .i64 0, .int .u64 0]) (t := 32) ?_; intro gb283 hg w30 hbox hb; have BK283 := am_ (hbox); have GE283 := am_ (bz_ hg (qb2_ GE276.out GE277.out HB.out) : w.heap.size ≤ gb283); replace HB := am_ (below_step (qb2_ GE276.out GE277.out HB.out) hb); have NB276_283 := am_ (nl_ hg (qk_ BK276.out) : gb276 ≠ gb283); have NB283_276 := am_ (ng_ hg (qk_ BK276.out) : gb283 ≠ gb276); replace BK276 := am_ (blk_below (qk_ BK276.out) hb); have NB277_283 := am_ (nl_ hg (qk_ BK277.out) : gb277 ≠ gb283); have NB283_277 := am_ (ng_ hg (qk_ BK277.out) : gb283 ≠ gb277); replace BK277 := am_ (blk_below (qk_ BK277.out) hb); clear hb hbox hg; have hnb31 := NB283_276.out; have hnc31 := NB276_283.out; have hnb32 := NB283_277.out; have hnc32 := NB277_283.out; obtain ⟨Z33_0, Z33_1, Y33_0, Y33_1⟩ := cz2_ BK283.out) | ((with_reducible refine gate_callee (f := 33) rfl ?_); refine goesL_ (some 46) rfl rfl Tryd.func33 (by kernel_rfl) rfl #[.agg #[.int .i64 t280, .int .u64 t281], .int .i64 6] rfl ql_ ?_; (with_reducible refine (rounding_Amount.calls (hG := by first | exact hG | (with_reducible exact GW.below hG (qb3_ GE276.out GE277.out GE283.out HB.out)) | (with_reducible repeat (first | exact hG | apply GW.drewN | apply GW.drew))) t280 t281 6 t284 t285 t286 t287 _ A25.out).mono ?_); rintro e w34 ⟨rfl, hb⟩; refine ⟨_, rfl, ?_⟩; replace BK276 := am_ (blk_below (g := gb276) (o := .cells #[.int .i64 a0_0, .int .i64 a0_1, .int .i64 a0_2, .int .i64 a0_3, .int .i64 a0_4, .int .i64 a0_5, .int .i64 a0_6, .int .i64 a0_7, .int .i64 a0_8, .int .i64 a0_9, .int .i64 a0_10, .int .i64 a0_11, .int .i64 a0_12, .int .i64 a0_13, .int .i64 a0_14, .int .i64 a0_15, .int .i64 a0_16, .int .i64 a0_17, .int .i64 a0_18, .int .i64 a0_19, .int .i64 a0_20, .string a0_21, .string a0_22, .slice A0_23 l0_23.length c0_23, .slice A0_24 l0_24.length c0_24] 27 (0, 0)) (qff_ NB276_283.out NB276_283.out BK276.out) hb); replace BK277 := am_ (blk_below (g := gb277) (o := .cells #[.int .i64 0, .int .i64 0, .int .i64 0, .int .i64 0, .int .i64 0, .int .i64 0, .int .i64 0, .int .i64 0, .int .i64 0, .int .i64 0, .int .i64 0, .int .i64 0, .int .i64 0, .int .i64 0, .int .i64 0, .int .i64 0, .int .i64 0, .int .i64 0, .int .i64 0, .int .i64 0, .int .i64 0, .string (⟨#[]⟩ : ByteArray), .string (⟨#[]⟩ : ByteArray), .slice none 0 0, .slice none 0 0] 27 (0, 0)) (qff_ NB277_283.out NB277_283.out BK277.out) hb); replace BK283 := am_ (blk_below (g := gb283) (o := .cells #[.int .i64 t280, .int .u64 t281] 32 (0, 0)) (qpp_ #[.int .i64 t280, .int .u64 0] 1 #[.int .i64 0, .int .u64 0] 0 BK283.out) hb); replace HB := am_ (below_step (qb3_ GE276.out GE277.out GE283.out HB.out) hb); (try clear hb)) | ((with_reducible refine gate_dst (N := 10) rfl ?_); refine be_ (N := 10) (cs := #[.int .i64 0, .int .u64 0]) (t := 32) ?_; intro gb288 hg w35 hbox hb; have BK288 := am_ (hbox); have GE288 := am_ (bz_ hg (qb3_ GE276.out GE277.out GE283.out HB.out) : w.heap.size ≤ gb288); replace HB := am_ (below_step (qb3_ GE276.out GE277.out GE283.out HB.out) hb); have NB276_288 := am_ (nl_ hg (qk_ BK276.out) : gb276 ≠ gb288); have NB288_276 := am_ (ng_ hg (qk_ BK276.out) : gb288 ≠ gb276); replace BK276 := am_ (blk_below (qk_ BK276.out) hb); have NB277_288 := am_ (nl_ hg (qk_ BK277.out) : gb277 ≠ gb288); have NB288_277 := am_ (ng_ hg (qk_ BK277.out) : gb288 ≠ gb277); replace BK277 := am_ (blk_below (qk_ BK277.out) hb); have NB283_288 := am_ (nl_ hg (qk_ BK283.out) : gb283 ≠ gb288); have NB288_283 := am_ (ng_ hg (qk_ BK283.out) : gb288 ≠ gb283); replace BK283 := am_ (blk_below (qk_ BK283.out) hb); clear hb hbox hg; have hnb36 := NB288_276.out; have hnc36 := NB276_288.out; have hnb37 := NB288_277.out; have hnc37 := NB277_288.out; have hnb38 := NB288_283.out; have hnc38 := NB283_288.out; obtain ⟨Z39_0, Z39_1, Y39_0, Y39_1⟩ := cz2_ BK288.out))
       (try simp only [Act.put, List.setIfInBounds_toArray, List.set_cons_zero, List.set_cons_succ])
       go_cut [58] (fun v58 wc => ∃ (kq : Nat) (x58_25 : Bool), v58 = .bool x58_25 ∧ Aside0 (arrears_Charge.j1 kq a1 t284 x58_25 a0_0 a0_1 a0_2 a0_3 a0_4 a0_5 a0_6 a0_7 a0_8 a0_9 a0_10 a0_11 a0_12 a0_13 a0_14 a0_15 a0_16 a0_17 a0_18 a0_19 a0_20 a0_21 a0_22 l0_23 l0_24 = some (r1, r2, r3, r4, r5, r6, r7, r8, r9, r10, r11, r12, r13, r14, r15, r16, r17, r18, r19, r20, r21, r22, r23, r24, r25, r26, r27)) ∧ Aside0 (kq ≤ kj2) ∧ Aside0 (wc.heap[gb276]? = some (.cells #[.int .i64 a0_0, .int .i64 a0_1, .int .i64 a0_2, .int .i64 a0_3, .int .i64 a0_4, .int .i64 a0_5, .int .i64 a0_6, .int .i64 a0_7, .int .i64 a0_8, .int .i64 a0_9, .int .i64 a0_10, .int .i64 a0_11, .int .i64 a0_12, .int .i64 a0_13, .int .i64 a0_14, .int .i64 a0_15, .int .i64 a0_16, .int .i64 a0_17, .int .i64 a0_18, .int .i64 a0_19, .int .i64 a0_20, .string a0_21, .string a0_22, (.slice A0_23 l0_23.length c0_23), (.slice A0_24 l0_24.length c0_24)] 27 (0, 0))) ∧ Aside0 (wc.heap[gb277]? = some (.cells #[.int .i64 0, .int .i64 0, .int .i64 0, .int .i64 0, .int .i64 0, .int .i64 0, .int .i64 0, .int .i64 0, .int .i64 0, .int .i64 0, .int .i64 0, .int .i64 0, .int .i64 0, .int .i64 0, .int .i64 0, .int .i64 0, .int .i64 0, .int .i64 0, .int .i64 0, .int .i64 0, .int .i64 0, .string (⟨#[]⟩ : ByteArray), .string (⟨#[]⟩ : ByteArray), (.slice none 0 0), (.slice none 0 0)] 27 (0, 0))) ∧ Aside0 (wc.heap[gb283]? = some (.cells #[.int .i64 t280, .int .u64 t281] 32 (0, 0))) ∧ Aside0 (wc.heap[gb288]? = some (.cells #[.int .i64 t285, .int .u64 t286] 32 (0, 0))) ∧ Aside0 (Below w.heap.size w wc))
       case first =>
        have H := HC26.out
        clear HC26
        by_cases c40 : t287 = 0
        ·rw [if_pos c40] at H
         have c40b0 : (t287 == 0) = true := beq_iff_eq.mpr c40
         have c40b1 : (t287 != 0) = false := bne_eq_false_iff_eq.mpr c40
         clear c40
         (first | rw [c40b0] | (simp only [i64_w, i32_w]; rw [c40b0]) | skip)
         have H' := am_ H
         clear H
         have hnb41 := NB276_277.out
         have hnc41 := NB277_276.out
         have hnb42 := NB276_283.out
         have hnc42 := NB283_276.out
         have hnb43 := NB276_288.out
         have hnc43 := NB288_276.out
         obtain ⟨Z44_0, Z44_1, Z44_2, Z44_3, Z44_4, Z44_5, Z44_6, Z44_7, Z44_8, Z44_9, Z44_10, Z44_11, Z44_12, Z44_13, Z44_14, Z44_15, Z44_16, Z44_17, Z44_18, Z44_19, Z44_20, Z44_21, Z44_22, Z44_23, Z44_24, Y44_0, Y44_1, Y44_2, Y44_3, Y44_4, Y44_5, Y44_6, Y44_7, Y44_8, Y44_9, Y44_10, Y44_11, Y44_12, Y44_13, Y44_14, Y44_15, Y44_16, Y44_17, Y44_18, Y44_19, Y44_20, Y44_21, Y44_22, Y44_23, Y44_24⟩ := cz25_ BK276.out
         go_wp2
         go_meet
         case rel => exact ⟨_, (decide ((wrap64 (a0_6 + t284)) > 1000000000000)), qs_, H', ⟨by have := HJ2.out; first | omega | exact Nat.le_refl _⟩, ⟨qff_ NB276_288.out NB276_288.out BK276.out⟩, ⟨qff_ NB277_288.out NB277_288.out BK277.out⟩, ⟨qff_ NB283_288.out NB283_288.out BK283.out⟩, ⟨qpp_ #[.int .i64 t285, .int .u64 0] 1 #[.int .i64 0, .int .u64 0] 0 BK288.out⟩, ⟨qb4_ GE276.out GE277.out GE283.out GE288.out HB.out⟩⟩
        ·rw [if_neg c40] at H
         have c40b0 : (t287 == 0) = false := beq_eq_false_iff_ne.mpr c40
         have c40b1 : (t287 != 0) = true := bne_iff_ne.mpr c40
         (first | rw [c40b0] | (simp only [i64_w, i32_w]; rw [c40b0]) | skip)
         have H' := am_ H
         clear H
         go_wp2
         go_meet
         case rel => exact ⟨_, (true), qs_, H', ⟨by have := HJ2.out; first | omega | exact Nat.le_refl _⟩, ⟨qff_ NB276_288.out NB276_288.out BK276.out⟩, ⟨qff_ NB277_288.out NB277_288.out BK277.out⟩, ⟨qff_ NB283_288.out NB283_288.out BK283.out⟩, ⟨qpp_ #[.int .i64 t285, .int .u64 0] 1 #[.int .i64 0, .int .u64 0] 0 BK288.out⟩, ⟨qb4_ GE276.out GE277.out GE283.out GE288.out HB.out⟩⟩
       case rest =>
        clear HC26
        try clear c1
        try clear c2
        try clear p2
        try clear c3
        try clear c4
        try clear p6
        try clear c7
        try clear c7b0
        try clear c7b1
        try clear c9
        try clear c11
        try clear c12
        try clear c13
        try clear c15
        try clear c16
        try clear c18
        try clear c18b0
        try clear c18b1
        try clear c19
        try clear c19b0
        try clear c20
        try clear c24
        try clear c24b0
        try clear c24b1
        try clear c27
        try clear c31
        try clear c32
        try clear c33
        try clear c36
        try clear c37
        try clear c38
        try clear c40
        try clear c40b0
        try clear c40b1
        try clear c41
        try clear c42
        try clear c43
        (try clear Z10_0 Z10_1 Z10_10 Z10_11 Z10_12 Z10_13 Z10_14 Z10_15 Z10_16 Z10_17 Z10_18 Z10_19 Z10_2 Z10_20 Z10_21 Z10_22 Z10_23 Z10_24 Z10_3 Z10_4 Z10_5 Z10_6 Z10_7 Z10_8 Z10_9 Y10_0 Y10_1 Y10_10 Y10_11 Y10_12 Y10_13 Y10_14 Y10_15 Y10_16 Y10_17 Y10_18 Y10_19 Y10_2 Y10_20 Y10_21 Y10_22 Y10_23 Y10_24 Y10_3 Y10_4 Y10_5 Y10_6 Y10_7 Y10_8 Y10_9)
        (try clear Z13_0 Z13_1 Z13_10 Z13_11 Z13_12 Z13_13 Z13_14 Z13_15 Z13_16 Z13_17 Z13_18 Z13_19 Z13_2 Z13_20 Z13_21 Z13_22 Z13_23 Z13_24 Z13_3 Z13_4 Z13_5 Z13_6 Z13_7 Z13_8 Z13_9 Y13_0 Y13_1 Y13_10 Y13_11 Y13_12 Y13_13 Y13_14 Y13_15 Y13_16 Y13_17 Y13_18 Y13_19 Y13_2 Y13_20 Y13_21 Y13_22 Y13_23 Y13_24 Y13_3 Y13_4 Y13_5 Y13_6 Y13_7 Y13_8 Y13_9)
        (try clear Z17_0 Z17_1 Z17_10 Z17_11 Z17_12 Z17_13 Z17_14 Z17_15 Z17_16 Z17_17 Z17_18 Z17_19 Z17_2 Z17_20 Z17_21 Z17_22 Z17_23 Z17_24 Z17_3 Z17_4 Z17_5 Z17_6 Z17_7 Z17_8 Z17_9 Y17_0 Y17_1 Y17_10 Y17_11 Y17_12 Y17_13 Y17_14 Y17_15 Y17_16 Y17_17 Y17_18 Y17_19 Y17_2 Y17_20 Y17_21 Y17_22 Y17_23 Y17_24 Y17_3 Y17_4 Y17_5 Y17_6 Y17_7 Y17_8 Y17_9)
        (try clear Z21_0 Z21_1 Z21_10 Z21_11 Z21_12 Z21_13 Z21_14 Z21_15 Z21_16 Z21_17 Z21_18 Z21_19 Z21_2 Z21_20 Z21_21 Z21_22 Z21_23 Z21_24 Z21_3 Z21_4 Z21_5 Z21_6 Z21_7 Z21_8 Z21_9 Y21_0 Y21_1 Y21_10 Y21_11 Y21_12 Y21_13 Y21_14 Y21_15 Y21_16 Y21_17 Y21_18 Y21_19 Y21_2 Y21_20 Y21_21 Y21_22 Y21_23 Y21_24 Y21_3 Y21_4 Y21_5 Y21_6 Y21_7 Y21_8 Y21_9)
        (try clear Z22_0 Z22_1 Z22_10 Z22_11 Z22_12 Z22_13 Z22_14 Z22_15 Z22_16 Z22_17 Z22_18 Z22_19 Z22_2 Z22_20 Z22_21 Z22_22 Z22_23 Z22_24 Z22_3 Z22_4 Z22_5 Z22_6 Z22_7 Z22_8 Z22_9 Y22_0 Y22_1 Y22_10 Y22_11 Y22_12 Y22_13 Y22_14 Y22_15 Y22_16 Y22_17 Y22_18 Y22_19 Y22_2 Y22_20 Y22_21 Y22_22 Y22_23 Y22_24 Y22_3 Y22_4 Y22_5 Y22_6 Y22_7 Y22_8 Y22_9)
        (try clear Z28_0 Z28_1 Z28_10 Z28_11 Z28_12 Z28_13 Z28_14 Z28_15 Z28_16 Z28_17 Z28_18 Z28_19 Z28_2 Z28_20 Z28_21 Z28_22 Z28_23 Z28_24 Z28_3 Z28_4 Z28_5 Z28_6 Z28_7 Z28_8 Z28_9 Y28_0 Y28_1 Y28_10 Y28_11 Y28_12 Y28_13 Y28_14 Y28_15 Y28_16 Y28_17 Y28_18 Y28_19 Y28_2 Y28_20 Y28_21 Y28_22 Y28_23 Y28_24 Y28_3 Y28_4 Y28_5 Y28_6 Y28_7 Y28_8 Y28_9)
        (try clear Z33_0 Z33_1 Y33_0 Y33_1)
        (try clear Z39_0 Z39_1 Y39_0 Y39_1)
        (try clear Z44_0 Z44_1 Z44_10 Z44_11 Z44_12 Z44_13 Z44_14 Z44_15 Z44_16 Z44_17 Z44_18 Z44_19 Z44_2 Z44_20 Z44_21 Z44_22 Z44_23 Z44_24 Z44_3 Z44_4 Z44_5 Z44_6 Z44_7 Z44_8 Z44_9 Y44_0 Y44_1 Y44_10 Y44_11 Y44_12 Y44_13 Y44_14 Y44_15 Y44_16 Y44_17 Y44_18 Y44_19 Y44_2 Y44_20 Y44_21 Y44_22 Y44_23 Y44_24 Y44_3 Y44_4 Y44_5 Y44_6 Y44_7 Y44_8 Y44_9)
        try clear p2
        obtain ⟨kq, x58_25, rfl, HA, HJ25, BK276, BK277, BK283, BK288, HB⟩ := hcut
        cases kq with
        | zero => exact absurd HA.out (by simp [arrears_Charge.j1])
        | succ kj25 =>
         have H := HA.out
         clear HA
         simp only [arrears_Charge.j1] at H
         by_cases c45 : x58_25 = true
         ·subst c45
          rw [if_pos rfl] at H
          simp only [Option.some.injEq, Prod.mk.injEq] at H
          obtain ⟨rfl, rfl, rfl, rfl, rfl, rfl, rfl, rfl, rfl, rfl, rfl, rfl, rfl, rfl, rfl, rfl, rfl, rfl, rfl, rfl, rfl, rfl, rfl, rfl, rfl, rfl, rfl⟩ := H
          have hnb46 := NB277_276.out
          have hnc46 := NB276_277.out
          have hnb47 := NB277_283.out
          have hnc47 := NB283_277.out
          have hnb48 := NB277_288.out
          have hnc48 := NB288_277.out
          obtain ⟨Z49_0, Z49_1, Z49_2, Z49_3, Z49_4, Z49_5, Z49_6, Z49_7, Z49_8, Z49_9, Z49_10, Z49_11, Z49_12, Z49_13, Z49_14, Z49_15, Z49_16, Z49_17, Z49_18, Z49_19, Z49_20, Z49_21, Z49_22, Z49_23, Z49_24, Y49_0, Y49_1, Y49_2, Y49_3, Y49_4, Y49_5, Y49_6, Y49_7, Y49_8, Y49_9, Y49_10, Y49_11, Y49_12, Y49_13, Y49_14, Y49_15, Y49_16, Y49_17, Y49_18, Y49_19, Y49_20, Y49_21, Y49_22, Y49_23, Y49_24⟩ := cz25_ BK277.out
          go_wp2_with (first | ((with_reducible refine gate_store (t := 27) rfl ?_); refine stA_ (g := gb277) (t := 27) (old := ?ro29_2) #[.int .i64 0, .int .i64 0, .int .i64 0, .int .i64 0, .int .i64 0, .int .i64 0, .int .i64 0, .int .i64 0, .int .i64 0, .int .i64 0, .int .i64 0, .int .i64 0, .int .i64 0, .int .i64 0, .int .i64 0, .int .i64 0, .int .i64 0, .int .i64 0, .int .i64 0, .int .i64 0, .int .i64 0, .string (⟨#[]⟩ : ByteArray), .string (⟨#[]⟩ : ByteArray), .slice none 0 0, .slice none 0 0] rfl rfl rfl rfl ?rv29_2 ?rb29_2 ?ri29_2 ?rs29_2 ?rc29_2 ?_; (case rv29_2 => rfl); (case rb29_2 => (repeat (first | (with_reducible first | refine blk_drewN ?_ _ | refine blk_drew ?_ | refine blk_alloc ?_ _) | refine blk_far ?_ NB277_276.out _ | refine blk_far ?_ NB277_283.out _ | refine blk_far ?_ NB277_288.out _)); (with_reducible exact BK277.out)); (case ri29_2 => kernel_rfl); (case rs29_2 => rfl); (case rc29_2 => rfl); intro w_ hnew_ hoth_ hbel_))
          refine bodyPost_ret (results_ctt rfl _ _ gb277 27 #[.int .i64 0, .int .i64 0, .int .i64 0, .int .i64 0, .int .i64 0, .int .i64 0, .int .i64 0, .int .i64 0, .int .i64 0, .int .i64 0, .int .i64 0, .int .i64 0, .int .i64 0, .int .i64 0, .int .i64 0, .int .i64 0, .int .i64 0, .int .i64 0, .int .i64 0, .int .i64 0, .int .i64 0, .string (⟨#[]⟩ : ByteArray), .string (⟨#[]⟩ : ByteArray), .slice none 0 0, .slice none 0 0] (0, 0) _ rfl hnew_ Tryd.underlying27 rfl (by kernel_rfl)) rfl ?_
          exact ⟨_, _, qe_, by first | exact Kd.R_nil _ _ _ _ _ | exact Kd.N_nil _ _ _ _ _ | exact Kd.V_nil _ _ _ _ _ | exact Kd.Q_nil _ _ _ _ _ | exact Kd.S_nil _ _ _ _ _, by first | exact Kd.R_nil _ _ _ _ _ | exact Kd.N_nil _ _ _ _ _ | exact Kd.V_nil _ _ _ _ _ | exact Kd.Q_nil _ _ _ _ _ | exact Kd.S_nil _ _ _ _ _, hbel_ _ _ (qb4_ GE276.out GE277.out GE283.out GE288.out HB.out) GE277.out⟩
         ·replace c45 := Bool.eq_false_iff.mpr c45
          subst c45
          rw [if_neg (show ¬ (false = true) by decide)] at H
          replace H := Option.bind_eq_some_iff.mp H
          obtain ⟨t289, A500, H⟩ := H
          (try dsimp only at H)
          have A50 := am_ A500
          clear A500
          replace H := Option.bind_eq_some_iff.mp H
          obtain ⟨t292, A510, H⟩ := H
          (try dsimp only at H)
          have A51 := am_ A510
          clear A510
          simp only [Option.some.injEq, Prod.mk.injEq] at H
          obtain ⟨rfl, rfl, rfl, rfl, rfl, rfl, rfl, rfl, rfl, rfl, rfl, rfl, rfl, rfl, rfl, rfl, rfl, rfl, rfl, rfl, rfl, rfl, rfl, rfl, rfl, rfl, rfl⟩ := H
          have hnb52 := NB276_277.out
          have hnc52 := NB277_276.out
          have hnb53 := NB276_283.out
          have hnc53 := NB283_276.out
          have hnb54 := NB276_288.out
          have hnc54 := NB288_276.out
          obtain ⟨Z55_0, Z55_1, Z55_2, Z55_3, Z55_4, Z55_5, Z55_6, Z55_7, Z55_8, Z55_9, Z55_10, Z55_11, Z55_12, Z55_13, Z55_14, Z55_15, Z55_16, Z55_17, Z55_18, Z55_19, Z55_20, Z55_21, Z55_22, Z55_23, Z55_24, Y55_0, Y55_1, Y55_2, Y55_3, Y55_4, Y55_5, Y55_6, Y55_7, Y55_8, Y55_9, Y55_10, Y55_11, Y55_12, Y55_13, Y55_14, Y55_15, Y55_16, Y55_17, Y55_18, Y55_19, Y55_20, Y55_21, Y55_22, Y55_23, Y55_24⟩ := cz25_ BK276.out
          try go_wp2
          have n0_ : Aside0 (((wc.setCell ⟨gb276, 6, none⟩ (.int .i64 (wrap64 (a0_6 + t284)))).setCell ⟨gb276, 7, none⟩ (.int .i64 a1)).heap[gb276]? = some (.cells #[.int .i64 a0_0, .int .i64 a0_1, .int .i64 a0_2, .int .i64 a0_3, .int .i64 a0_4, .int .i64 a0_5, .int .i64 (wrap64 (a0_6 + t284)), .int .i64 a1, .int .i64 a0_8, .int .i64 a0_9, .int .i64 a0_10, .int .i64 a0_11, .int .i64 a0_12, .int .i64 a0_13, .int .i64 a0_14, .int .i64 a0_15, .int .i64 a0_16, .int .i64 a0_17, .int .i64 a0_18, .int .i64 a0_19, .int .i64 a0_20, .string a0_21, .string a0_22, .slice A0_23 l0_23.length c0_23, .slice A0_24 l0_24.length c0_24] 27 (0, 0))) := ⟨qpp_ #[.int .i64 a0_0, .int .i64 a0_1, .int .i64 a0_2, .int .i64 a0_3, .int .i64 a0_4, .int .i64 a0_5, .int .i64 (wrap64 (a0_6 + t284)), .int .i64 a0_7, .int .i64 a0_8, .int .i64 a0_9, .int .i64 a0_10, .int .i64 a0_11, .int .i64 a0_12, .int .i64 a0_13, .int .i64 a0_14, .int .i64 a0_15, .int .i64 a0_16, .int .i64 a0_17, .int .i64 a0_18, .int .i64 a0_19, .int .i64 a0_20, .string a0_21, .string a0_22, .slice A0_23 l0_23.length c0_23, .slice A0_24 l0_24.length c0_24] 7 #[.int .i64 a0_0, .int .i64 a0_1, .int .i64 a0_2, .int .i64 a0_3, .int .i64 a0_4, .int .i64 a0_5, .int .i64 a0_6, .int .i64 a0_7, .int .i64 a0_8, .int .i64 a0_9, .int .i64 a0_10, .int .i64 a0_11, .int .i64 a0_12, .int .i64 a0_13, .int .i64 a0_14, .int .i64 a0_15, .int .i64 a0_16, .int .i64 a0_17, .int .i64 a0_18, .int .i64 a0_19, .int .i64 a0_20, .string a0_21, .string a0_22, .slice A0_23 l0_23.length c0_23, .slice A0_24 l0_24.length c0_24] 6 BK276.out⟩
          have n1_ : Aside0 (((wc.setCell ⟨gb276, 6, none⟩ (.int .i64 (wrap64 (a0_6 + t284)))).setCell ⟨gb276, 7, none⟩ (.int .i64 a1)).heap[gb277]? = some (.cells #[.int .i64 0, .int .i64 0, .int .i64 0, .int .i64 0, .int .i64 0, .int .i64 0, .int .i64 0, .int .i64 0, .int .i64 0, .int .i64 0, .int .i64 0, .int .i64 0, .int .i64 0, .int .i64 0, .int .i64 0, .int .i64 0, .int .i64 0, .int .i64 0, .int .i64 0, .int .i64 0, .int .i64 0, .string (⟨#[]⟩ : ByteArray), .string (⟨#[]⟩ : ByteArray), .slice none 0 0, .slice none 0 0] 27 (0, 0))) := ⟨qff_ NB277_276.out NB277_276.out BK277.out⟩
          have n2_ : Aside0 (((wc.setCell ⟨gb276, 6, none⟩ (.int .i64 (wrap64 (a0_6 + t284)))).setCell ⟨gb276, 7, none⟩ (.int .i64 a1)).heap[gb283]? = some (.cells #[.int .i64 t280, .int .u64 t281] 32 (0, 0))) := ⟨qff_ NB283_276.out NB283_276.out BK283.out⟩
          have n4_ : Aside0 (Below w.heap.size w ((wc.setCell ⟨gb276, 6, none⟩ (.int .i64 (wrap64 (a0_6 + t284)))).setCell ⟨gb276, 7, none⟩ (.int .i64 a1))) := ⟨qb4_ GE276.out GE277.out GE283.out GE288.out HB.out⟩
          (try clear BK276)
          (try clear BK277)
          (try clear BK283)
          (try clear BK288)
          (try clear HB)
          generalize ((wc.setCell ⟨gb276, 6, none⟩ (.int .i64 (wrap64 (a0_6 + t284)))).setCell ⟨gb276, 7, none⟩ (.int .i64 a1)) = w56 at n0_ n1_ n2_ n4_ ⊢
          have BK276 := n0_
          have BK277 := n1_
          have BK283 := n2_
          have HB := n4_
          clear n0_ n1_ n2_ n4_
          have n0_ := am_ (blk_drew BK276.out)
          have n1_ := am_ (blk_drew BK277.out)
          have n2_ := am_ (blk_drew BK283.out)
          have n4_ := am_ (below_drew1 HB.out)
          clear BK276
          clear BK277
          clear BK283
          (try clear BK288)
          clear HB
          have BK276 := n0_
          have BK277 := n1_
          have BK283 := n2_
          have HB := n4_
          clear n0_ n1_ n2_ n4_
          refine start_ (n := 10) (S := cS25_ gb276 (.int .i64 a0_0) (.int .i64 a0_1) (.int .i64 a0_2) (.int .i64 a0_3) (.int .i64 a0_4) (.int .i64 a0_5) (.int .i64 (wrap64 (a0_6 + t284))) (.int .i64 a1) (.int .i64 a0_8) (.int .i64 a0_9) (.int .i64 a0_10) (.int .i64 a0_11) (.int .i64 a0_12) (.int .i64 a0_13) (.int .i64 a0_14) (.int .i64 a0_15) (.int .i64 a0_16) (.int .i64 a0_17) (.int .i64 a0_18) (.int .i64 a0_19) (.int .i64 a0_20) (.string a0_21) (.string a0_22) (.slice A0_23 l0_23.length c0_23) (.slice A0_24 l0_24.length c0_24)) (ds := [7, 9]) (nb_ 10 0) (by kernel_rfl) rfl rfl (cc25_ BK276.out) (fun hHeld => ?_); refine with_tabW arrears_Charge.tab15 arrears_Charge.bits15 (fun HT_ HW_ => ?_)
          generalize w56.drew = w57 at BK276 BK277 BK283 HB hHeld ⊢
          refine pz_ 0 67 (nb_ 10 1) HT_.out ?_
          refine pz_ 3 70 (nb_ 10 9) HT_.out ?_
          refine take_ (i := 1) (N := some 68) (v := ?_) (a' := ?_) (nb_ 10 11) rfl rfl (take_ofW HT_.out HW_.out (by kernel_rfl)) (fun _ _ _ h => h) (Or.inl ⟨by rfl, ?_⟩) hHeld ?_ ?_
          rotate_left
          ·rintro w' hs_
           first
           | (refine Eq.trans (ldx_ (by rfl) (by rfl) (ldS_ hs_)) ?_; with_reducible rfl)
           | (obtain ⟨s0, s1, s2, s3, s4, s5, s6, s7, s8, s9, s10, s11, s12, s13, s14, s15, s16, s17, s18, s19, s20, s21, s22, s23, s24⟩ := hs_; go_simp; with_reducible rfl)
          rotate_left
          ·simp only [Act.put, List.setIfInBounds_toArray, List.set_cons_zero, List.set_cons_succ, i64_w, i32_w]
           rfl
          refine take_ (i := 4) (N := some 71) (v := ?_) (a' := ?_) (nb_ 10 27) rfl rfl (take_ofW HT_.out HW_.out (by kernel_rfl)) (fun _ _ _ h => h) (Or.inl ⟨by rfl, ?_⟩) hHeld ?_ ?_
          rotate_left
          ·rintro w' hs_
           first
           | (refine Eq.trans (ldx_ (by rfl) (by rfl) (ldS_ hs_)) ?_; with_reducible rfl)
           | (obtain ⟨s0, s1, s2, s3, s4, s5, s6, s7, s8, s9, s10, s11, s12, s13, s14, s15, s16, s17, s18, s19, s20, s21, s22, s23, s24⟩ := hs_; go_simp; with_reducible rfl)
          rotate_left
          ·simp only [Act.put, List.setIfInBounds_toArray, List.set_cons_zero, List.set_cons_succ, i64_w, i32_w]
           rfl
          refine on_ 2 69 (nb_ 10 31) HT_.out (fun K hK => ?_)
          refine goes_ Tryd.func34 (by kernel_rfl) rfl #[.slice A0_23 l0_23.length c0_23] (by rfl) rfl rfl ql_ ?_
          with_reducible refine (api_Due_34.calls _ _ l0_23 t289 _ ?side1 ?side2 A50.out).mono ?_
          (case side1 => repeat (first | exact (Kd.C_below HR0_23.out HB.out) | (with_reducible refine Kd.C_alloc ?_ _) | (with_reducible refine Kd.C_drewN ?_ _) | (with_reducible refine Kd.C_drew ?_)))
          (case side2 => exact HC0_23.out)
          rintro e w58 ⟨v290, rfl, ho0, hb⟩
          refine ⟨_, rfl, ?_⟩
          have HO291 := am_ (Kd.R_lower ho0 (below_size (qb4_ GE276.out GE277.out GE283.out GE288.out HB.out)))
          replace BK276 := am_ (blk_below (qk_ BK276.out) hb)
          replace BK277 := am_ (blk_below (qk_ BK277.out) hb)
          replace BK283 := am_ (blk_below (qk_ BK283.out) hb)
          replace HB := am_ (below_step (qb4_ GE276.out GE277.out GE283.out GE288.out HB.out) hb)
          (try clear hb)
          (try clear ho0)
          refine hK.out _ _ (cc25_ BK276.out) (fun hHeld => ?_)
          clear hK K
          refine no_ ?_
          refine pz_ 6 73 (nb_ 10 95) HT_.out ?_
          refine on_ 5 72 (nb_ 10 127) HT_.out (fun K hK => ?_)
          refine goes_ Tryd.func35 (by kernel_rfl) rfl #[.slice A0_24 l0_24.length c0_24] (by rfl) rfl rfl ql_ ?_
          with_reducible refine (api_Change.calls _ _ l0_24 t292 _ ?side1 ?side2 A51.out).mono ?_
          (case side1 => repeat (first | exact (Kd.C_below HR0_24.out HB.out) | (with_reducible refine Kd.C_alloc ?_ _) | (with_reducible refine Kd.C_drewN ?_ _) | (with_reducible refine Kd.C_drew ?_)))
          (case side2 => exact HC0_24.out)
          rintro e w59 ⟨v293, rfl, ho0, hb⟩
          refine ⟨_, rfl, ?_⟩
          replace HO291 := am_ (Kd.R_below (by (with_reducible repeat (first | apply Kd.R_alloc | apply Kd.R_drewN | apply Kd.R_drew)); exact HO291.out) hb)
          have HO294 := am_ (Kd.R_lower ho0 (below_size (qb4_ GE276.out GE277.out GE283.out GE288.out HB.out)))
          replace BK276 := am_ (blk_below (qk_ BK276.out) hb)
          replace BK277 := am_ (blk_below (qk_ BK277.out) hb)
          replace BK283 := am_ (blk_below (qk_ BK283.out) hb)
          replace HB := am_ (below_step (qb4_ GE276.out GE277.out GE283.out GE288.out HB.out) hb)
          (try clear hb)
          (try clear ho0)
          obtain ⟨Ao60, co60, eo60⟩ := Kd.R_slice HO291.out
          (first | subst eo60 | (injection eo60 with f1_ f2_ f3_; have f4_ := f1_.symm; have f5_ := f3_.symm; clear f1_ f2_ f3_; subst f4_; subst f5_))
          obtain ⟨Ao62, co62, eo62⟩ := Kd.R_slice HO294.out
          (first | subst eo62 | (injection eo62 with f1_ f2_ f3_; have f4_ := f1_.symm; have f5_ := f3_.symm; clear f1_ f2_ f3_; subst f4_; subst f5_))
          refine hK.out _ _ (cc25_ BK276.out) (fun hHeld => ?_)
          clear hK K
          refine no_ ?_
          refine last_ (i := 7) (N := none) (nb_ 10 255) rfl rfl (one_of HT_.out (by kernel_rfl)) (by decide) (fun K hK => ?_)
          have hs61 : w59.cell? ⟨gb276, 23, none⟩ = some (.slice A0_23 l0_23.length c0_23) := (blk_cell BK276.out 23).trans rfl
          have hfs61 := blk_frozen BK276.out 23
          have hns61_1 := NB277_276.out
          have hns61_2 := NB283_276.out
          have hns61_3 := NB288_276.out
          have hms61_1 := NB276_277.out
          have hms61_2 := NB276_283.out
          have hms61_3 := NB276_288.out
          refine skip_ (w1 := ?_) (by rfl) rfl ?_ ?_
          rotate_left
          ·go_simp
           rfl
          refine hK.out _ _ ?_
          clear hK K
          refine pz_ 8 74 (nb_ 10 511) HT_.out ?_
          refine last_ (i := 9) (N := none) (nb_ 10 1023) rfl rfl (one_of HT_.out (by kernel_rfl)) (by decide) (fun K hK => ?_)
          have hs63 : w59.cell? ⟨gb276, 24, none⟩ = some (.slice A0_24 l0_24.length c0_24) := (blk_cell BK276.out 24).trans rfl
          have hfs63 := blk_frozen BK276.out 24
          have hns63_1 := NB277_276.out
          have hns63_2 := NB283_276.out
          have hns63_3 := NB288_276.out
          have hms63_1 := NB276_277.out
          have hms63_2 := NB276_283.out
          have hms63_3 := NB276_288.out
          refine skip_ (w1 := ?_) (by rfl) rfl ?_ ?_
          rotate_left
          ·go_simp
           rfl
          refine hK.out _ _ ?_
          clear hK K
          refine done_ (done_of HT_.out (by kernel_rfl)) ?_
          obtain ⟨Z64_0, Z64_1, Z64_2, Z64_3, Z64_4, Z64_5, Z64_6, Z64_7, Z64_8, Z64_9, Z64_10, Z64_11, Z64_12, Z64_13, Z64_14, Z64_15, Z64_16, Z64_17, Z64_18, Z64_19, Z64_20, Z64_21, Z64_22, Z64_23, Z64_24, Y64_0, Y64_1, Y64_2, Y64_3, Y64_4, Y64_5, Y64_6, Y64_7, Y64_8, Y64_9, Y64_10, Y64_11, Y64_12, Y64_13, Y64_14, Y64_15, Y64_16, Y64_17, Y64_18, Y64_19, Y64_20, Y64_21, Y64_22, Y64_23, Y64_24⟩ := cz25_ BK276.out
          have hnb65 := NB277_283.out
          have hnc65 := NB283_277.out
          have hnb66 := NB277_288.out
          have hnc66 := NB288_277.out
          obtain ⟨Z67_0, Z67_1, Z67_2, Z67_3, Z67_4, Z67_5, Z67_6, Z67_7, Z67_8, Z67_9, Z67_10, Z67_11, Z67_12, Z67_13, Z67_14, Z67_15, Z67_16, Z67_17, Z67_18, Z67_19, Z67_20, Z67_21, Z67_22, Z67_23, Z67_24, Y67_0, Y67_1, Y67_2, Y67_3, Y67_4, Y67_5, Y67_6, Y67_7, Y67_8, Y67_9, Y67_10, Y67_11, Y67_12, Y67_13, Y67_14, Y67_15, Y67_16, Y67_17, Y67_18, Y67_19, Y67_20, Y67_21, Y67_22, Y67_23, Y67_24⟩ := cz25_ BK277.out
          go_wp2_with (first | ((with_reducible refine gate_load_ (t := 27) rfl ?_); refine ld_ (t := 27) Tryd.underlying27 rfl rfl rfl (blk_set (blk_set BK276.out 23 _) 24 _) rfl (by kernel_rfl) ?_) | ((with_reducible refine gate_store (t := 27) rfl ?_); refine stA_ (g := gb277) (t := 27) (old := ?ro29_3) #[.int .i64 a0_0, .int .i64 a0_1, .int .i64 a0_2, .int .i64 a0_3, .int .i64 a0_4, .int .i64 a0_5, .int .i64 (wrap64 (a0_6 + t284)), .int .i64 a1, .int .i64 a0_8, .int .i64 a0_9, .int .i64 a0_10, .int .i64 a0_11, .int .i64 a0_12, .int .i64 a0_13, .int .i64 a0_14, .int .i64 a0_15, .int .i64 a0_16, .int .i64 a0_17, .int .i64 a0_18, .int .i64 a0_19, .int .i64 a0_20, .string a0_21, .string a0_22, .slice Ao60 t289.length co60, .slice Ao62 t292.length co62] rfl rfl rfl rfl ?rv29_3 ?rb29_3 ?ri29_3 ?rs29_3 ?rc29_3 ?_; (case rv29_3 => rfl); (case rb29_3 => first | exact (blk_far (blk_far BK277.out NB277_276.out _) NB277_276.out _) | ((repeat (first | (with_reducible first | refine blk_drewN ?_ _ | refine blk_drew ?_ | refine blk_alloc ?_ _) | refine blk_far ?_ NB277_276.out _ | refine blk_far ?_ NB277_283.out _ | refine blk_far ?_ NB277_288.out _)); (with_reducible exact BK277.out))); (case ri29_3 => kernel_rfl); (case rs29_3 => rfl); (case rc29_3 => rfl); intro w_ hnew_ hoth_ hbel_))
          refine bodyPost_ret (results_ctt rfl _ _ gb277 27 #[.int .i64 a0_0, .int .i64 a0_1, .int .i64 a0_2, .int .i64 a0_3, .int .i64 a0_4, .int .i64 a0_5, .int .i64 (wrap64 (a0_6 + t284)), .int .i64 a1, .int .i64 a0_8, .int .i64 a0_9, .int .i64 a0_10, .int .i64 a0_11, .int .i64 a0_12, .int .i64 a0_13, .int .i64 a0_14, .int .i64 a0_15, .int .i64 a0_16, .int .i64 a0_17, .int .i64 a0_18, .int .i64 a0_19, .int .i64 a0_20, .string a0_21, .string a0_22, .slice Ao60 t289.length co60, .slice Ao62 t292.length co62] (0, 0) _ rfl hnew_ Tryd.underlying27 rfl (by kernel_rfl)) rfl ?_
          exact ⟨_, _, qe_, by (with_reducible repeat (first | apply Kd.R_alloc | apply Kd.R_drewN | apply Kd.R_drew)); exact Kd.R_mono (Kd.R_move (Kd.R_far (p := ⟨gb276, 24, none⟩) (Kd.R_far (p := ⟨gb276, 23, none⟩) (Kd.R_types (Kd.R_types HO291.out BK276.out (by decide)) BK277.out (by decide)) (fun _ hk => hk.1.2) (.slice Ao60 t289.length co60)) (fun _ hk => hk.1.2) (.slice Ao62 t292.length co62)) (fun k hk => hoth_ k (hk.2))) (fun _ hk => trivial), by (with_reducible repeat (first | apply Kd.R_alloc | apply Kd.R_drewN | apply Kd.R_drew)); exact Kd.R_mono (Kd.R_move (Kd.R_far (p := ⟨gb276, 24, none⟩) (Kd.R_far (p := ⟨gb276, 23, none⟩) (Kd.R_types (Kd.R_types HO294.out BK276.out (by decide)) BK277.out (by decide)) (fun _ hk => hk.1.2) (.slice Ao60 t289.length co60)) (fun _ hk => hk.1.2) (.slice Ao62 t292.length co62)) (fun k hk => hoth_ k (hk.2))) (fun _ hk => trivial), hbel_ _ _ (qb4_ GE276.out GE277.out GE283.out GE288.out HB.out) GE277.out⟩
      ·rw [if_neg c24] at H
       have c24b0 : (t282 == 0) = false := beq_eq_false_iff_ne.mpr c24
       have c24b1 : (t282 != 0) = true := bne_iff_ne.mpr c24
       simp only [Option.some.injEq, Prod.mk.injEq] at H
       obtain ⟨rfl, rfl, rfl, rfl, rfl, rfl, rfl, rfl, rfl, rfl, rfl, rfl, rfl, rfl, rfl, rfl, rfl, rfl, rfl, rfl, rfl, rfl, rfl, rfl, rfl, rfl, rfl⟩ := H
       have hnb68 := NB276_277.out
       have hnc68 := NB277_276.out
       obtain ⟨Z69_0, Z69_1, Z69_2, Z69_3, Z69_4, Z69_5, Z69_6, Z69_7, Z69_8, Z69_9, Z69_10, Z69_11, Z69_12, Z69_13, Z69_14, Z69_15, Z69_16, Z69_17, Z69_18, Z69_19, Z69_20, Z69_21, Z69_22, Z69_23, Z69_24, Y69_0, Y69_1, Y69_2, Y69_3, Y69_4, Y69_5, Y69_6, Y69_7, Y69_8, Y69_9, Y69_10, Y69_11, Y69_12, Y69_13, Y69_14, Y69_15, Y69_16, Y69_17, Y69_18, Y69_19, Y69_20, Y69_21, Y69_22, Y69_23, Y69_24⟩ := cz25_ BK276.out
       go_wp2_with (first | ((with_reducible refine gate_store (t := 27) rfl ?_); refine stA_ (g := gb277) (t := 27) (old := ?ro29_4) #[.int .i64 0, .int .i64 0, .int .i64 0, .int .i64 0, .int .i64 0, .int .i64 0, .int .i64 0, .int .i64 0, .int .i64 0, .int .i64 0, .int .i64 0, .int .i64 0, .int .i64 0, .int .i64 0, .int .i64 0, .int .i64 0, .int .i64 0, .int .i64 0, .int .i64 0, .int .i64 0, .int .i64 0, .string (⟨#[]⟩ : ByteArray), .string (⟨#[]⟩ : ByteArray), .slice none 0 0, .slice none 0 0] rfl rfl rfl rfl ?rv29_4 ?rb29_4 ?ri29_4 ?rs29_4 ?rc29_4 ?_; (case rv29_4 => rfl); (case rb29_4 => (repeat (first | (with_reducible first | refine blk_drewN ?_ _ | refine blk_drew ?_ | refine blk_alloc ?_ _) | refine blk_far ?_ NB277_276.out _ | refine blk_far ?_ NB277_283.out _ | refine blk_far ?_ NB277_288.out _)); (with_reducible exact BK277.out)); (case ri29_4 => kernel_rfl); (case rs29_4 => rfl); (case rc29_4 => rfl); intro w_ hnew_ hoth_ hbel_) | ((with_reducible refine gate_load_ (t := 27) rfl ?_); refine ld_ (t := 27) Tryd.underlying27 rfl rfl rfl (by (repeat (first | (with_reducible first | refine blk_drewN ?_ _ | refine blk_drew ?_ | refine blk_alloc ?_ _) | refine blk_far ?_ NB276_277.out _ | refine blk_far ?_ NB276_283.out _ | refine blk_far ?_ NB276_288.out _ | refine blk_far ?_ NB277_276.out _ | refine blk_far ?_ NB277_283.out _ | refine blk_far ?_ NB277_288.out _ | refine blk_set ?_ _ _)); (with_reducible first | exact BK276.out | exact BK277.out)) rfl (by kernel_rfl) ?_) | ((with_reducible refine gate_load_ (t := 27) rfl ?_); refine ldgA_ (t := 27) Tryd.underlying27 rfl (by rfl) rfl (by (repeat (first | (with_reducible first | refine blk_drewN ?_ _ | refine blk_drew ?_ | refine blk_alloc ?_ _) | refine blk_far ?_ NB276_277.out _ | refine blk_far ?_ NB276_283.out _ | refine blk_far ?_ NB276_288.out _ | refine blk_far ?_ NB277_276.out _ | refine blk_far ?_ NB277_283.out _ | refine blk_far ?_ NB277_288.out _ | refine blk_set ?_ _ _)); (with_reducible first | exact BK276.out | exact BK277.out)) rfl (by kernel_rfl) ?_) | ((with_reducible refine gate_callee (f := 9) rfl ?_); refine goesL_ (some 37) rfl rfl Tryd.func9 (by kernel_rfl) rfl #[.agg #[.int .i64 a0_0, .int .i64 a0_1, .int .i64 a0_2, .int .i64 a0_3, .int .i64 a0_4, .int .i64 a0_5, .int .i64 a0_6, .int .i64 a0_7, .int .i64 a0_8, .int .i64 a0_9, .int .i64 a0_10, .int .i64 a0_11, .int .i64 a0_12, .int .i64 a0_13, .int .i64 a0_14, .int .i64 a0_15, .int .i64 a0_16, .int .i64 a0_17, .int .i64 a0_18, .int .i64 a0_19, .int .i64 a0_20, .string a0_21, .string a0_22, .slice A0_23 l0_23.length c0_23, .slice A0_24 l0_24.length c0_24], .int .i64 a0_7, .int .i64 a1] rfl ql_ ?_; (with_reducible refine (arrears_Penalty.calls kj2 a0_0 a0_1 a0_2 a0_3 a0_4 a0_5 a0_6 a0_7 a0_8 a0_9 a0_10 a0_11 a0_12 a0_13 a0_14 a0_15 a0_16 a0_17 a0_18 a0_19 a0_20 a0_21 a0_22 _ _ l0_23 _ _ l0_24 a0_7 a1 t280 t281 t282 _ ?side1 ?side2 ?side3 ?side4 A23.out).mono ?_); (case side1 => repeat (first | exact (Kd.C_below HR0_23.out HB.out) | (with_reducible refine Kd.C_alloc ?_ _) | (with_reducible refine Kd.C_drewN ?_ _) | (with_reducible refine Kd.C_drew ?_))); (case side2 => exact HC0_23.out); (case side3 => repeat (first | exact (Kd.C_below HR0_24.out HB.out) | (with_reducible refine Kd.C_alloc ?_ _) | (with_reducible refine Kd.C_drewN ?_ _) | (with_reducible refine Kd.C_drew ?_))); (case side4 => exact HC0_24.out); rintro e w70 ⟨rfl, hb⟩; refine ⟨_, rfl, ?_⟩; replace BK276 := am_ (blk_below (qk_ BK276.out) hb); replace BK277 := am_ (blk_below (qk_ BK277.out) hb); replace HB := am_ (below_step (qb2_ GE276.out GE277.out HB.out) hb); (try clear hb)) | ((with_reducible refine gate_dst (N := 7) rfl ?_); refine be_ (N := 7) (cs := #[.int .i64 0, .int .u64 0]) (t := 32) ?_; intro gb283 hg w71 hbox hb; have BK283 := am_ (hbox); have GE283 := am_ (bz_ hg (qb2_ GE276.out GE277.out HB.out) : w.heap.size ≤ gb283); replace HB := am_ (below_step (qb2_ GE276.out GE277.out HB.out) hb); have NB276_283 := am_ (nl_ hg (qk_ BK276.out) : gb276 ≠ gb283); have NB283_276 := am_ (ng_ hg (qk_ BK276.out) : gb283 ≠ gb276); replace BK276 := am_ (blk_below (qk_ BK276.out) hb); have NB277_283 := am_ (nl_ hg (qk_ BK277.out) : gb277 ≠ gb283); have NB283_277 := am_ (ng_ hg (qk_ BK277.out) : gb283 ≠ gb277); replace BK277 := am_ (blk_below (qk_ BK277.out) hb); clear hb hbox hg; have hnb72 := NB283_276.out; have hnc72 := NB276_283.out; have hnb73 := NB283_277.out; have hnc73 := NB277_283.out; obtain ⟨Z74_0, Z74_1, Y74_0, Y74_1⟩ := cz2_ BK283.out; obtain ⟨Z75_0, Z75_1, Z75_2, Z75_3, Z75_4, Z75_5, Z75_6, Z75_7, Z75_8, Z75_9, Z75_10, Z75_11, Z75_12, Z75_13, Z75_14, Z75_15, Z75_16, Z75_17, Z75_18, Z75_19, Z75_20, Z75_21, Z75_22, Z75_23, Z75_24, Y75_0, Y75_1, Y75_2, Y75_3, Y75_4, Y75_5, Y75_6, Y75_7, Y75_8, Y75_9, Y75_10, Y75_11, Y75_12, Y75_13, Y75_14, Y75_15, Y75_16, Y75_17, Y75_18, Y75_19, Y75_20, Y75_21, Y75_22, Y75_23, Y75_24⟩ := cz25_ BK277.out))
       refine bodyPost_ret (results_ctt rfl _ _ gb277 27 #[.int .i64 0, .int .i64 0, .int .i64 0, .int .i64 0, .int .i64 0, .int .i64 0, .int .i64 0, .int .i64 0, .int .i64 0, .int .i64 0, .int .i64 0, .int .i64 0, .int .i64 0, .int .i64 0, .int .i64 0, .int .i64 0, .int .i64 0, .int .i64 0, .int .i64 0, .int .i64 0, .int .i64 0, .string (⟨#[]⟩ : ByteArray), .string (⟨#[]⟩ : ByteArray), .slice none 0 0, .slice none 0 0] (0, 0) _ rfl hnew_ Tryd.underlying27 rfl (by kernel_rfl)) rfl ?_
       exact ⟨_, _, qe_, by first | exact Kd.R_nil _ _ _ _ _ | exact Kd.N_nil _ _ _ _ _ | exact Kd.V_nil _ _ _ _ _ | exact Kd.Q_nil _ _ _ _ _ | exact Kd.S_nil _ _ _ _ _, by first | exact Kd.R_nil _ _ _ _ _ | exact Kd.N_nil _ _ _ _ _ | exact Kd.V_nil _ _ _ _ _ | exact Kd.Q_nil _ _ _ _ _ | exact Kd.S_nil _ _ _ _ _, hbel_ _ _ (qb3_ GE276.out GE277.out GE283.out HB.out) GE277.out⟩
    ·rw [if_neg c18] at H
     have c18b0 : (a0_2 == 1) = false := beq_eq_false_iff_ne.mpr c18
     have c18b1 : (a0_2 != 1) = true := bne_iff_ne.mpr c18
     simp only [Option.some.injEq, Prod.mk.injEq] at H
     obtain ⟨rfl, rfl, rfl, rfl, rfl, rfl, rfl, rfl, rfl, rfl, rfl, rfl, rfl, rfl, rfl, rfl, rfl, rfl, rfl, rfl, rfl, rfl, rfl, rfl, rfl, rfl, rfl⟩ := H
     have hnb76 := NB276_277.out
     have hnc76 := NB277_276.out
     obtain ⟨Z77_0, Z77_1, Z77_2, Z77_3, Z77_4, Z77_5, Z77_6, Z77_7, Z77_8, Z77_9, Z77_10, Z77_11, Z77_12, Z77_13, Z77_14, Z77_15, Z77_16, Z77_17, Z77_18, Z77_19, Z77_20, Z77_21, Z77_22, Z77_23, Z77_24, Y77_0, Y77_1, Y77_2, Y77_3, Y77_4, Y77_5, Y77_6, Y77_7, Y77_8, Y77_9, Y77_10, Y77_11, Y77_12, Y77_13, Y77_14, Y77_15, Y77_16, Y77_17, Y77_18, Y77_19, Y77_20, Y77_21, Y77_22, Y77_23, Y77_24⟩ := cz25_ BK276.out
     obtain ⟨Z78_0, Z78_1, Z78_2, Z78_3, Z78_4, Z78_5, Z78_6, Z78_7, Z78_8, Z78_9, Z78_10, Z78_11, Z78_12, Z78_13, Z78_14, Z78_15, Z78_16, Z78_17, Z78_18, Z78_19, Z78_20, Z78_21, Z78_22, Z78_23, Z78_24, Y78_0, Y78_1, Y78_2, Y78_3, Y78_4, Y78_5, Y78_6, Y78_7, Y78_8, Y78_9, Y78_10, Y78_11, Y78_12, Y78_13, Y78_14, Y78_15, Y78_16, Y78_17, Y78_18, Y78_19, Y78_20, Y78_21, Y78_22, Y78_23, Y78_24⟩ := cz25_ BK277.out
     go_wp2_with (first | ((with_reducible refine gate_store (t := 27) rfl ?_); refine stA_ (g := gb277) (t := 27) (old := ?ro29_5) #[.int .i64 0, .int .i64 0, .int .i64 0, .int .i64 0, .int .i64 0, .int .i64 0, .int .i64 0, .int .i64 0, .int .i64 0, .int .i64 0, .int .i64 0, .int .i64 0, .int .i64 0, .int .i64 0, .int .i64 0, .int .i64 0, .int .i64 0, .int .i64 0, .int .i64 0, .int .i64 0, .int .i64 0, .string (⟨#[]⟩ : ByteArray), .string (⟨#[]⟩ : ByteArray), .slice none 0 0, .slice none 0 0] rfl rfl rfl rfl ?rv29_5 ?rb29_5 ?ri29_5 ?rs29_5 ?rc29_5 ?_; (case rv29_5 => rfl); (case rb29_5 => (repeat (first | (with_reducible first | refine blk_drewN ?_ _ | refine blk_drew ?_ | refine blk_alloc ?_ _) | refine blk_far ?_ NB277_276.out _ | refine blk_far ?_ NB277_283.out _ | refine blk_far ?_ NB277_288.out _)); (with_reducible exact BK277.out)); (case ri29_5 => kernel_rfl); (case rs29_5 => rfl); (case rc29_5 => rfl); intro w_ hnew_ hoth_ hbel_))
     refine bodyPost_ret (results_ctt rfl _ _ gb277 27 #[.int .i64 0, .int .i64 0, .int .i64 0, .int .i64 0, .int .i64 0, .int .i64 0, .int .i64 0, .int .i64 0, .int .i64 0, .int .i64 0, .int .i64 0, .int .i64 0, .int .i64 0, .int .i64 0, .int .i64 0, .int .i64 0, .int .i64 0, .int .i64 0, .int .i64 0, .int .i64 0, .int .i64 0, .string (⟨#[]⟩ : ByteArray), .string (⟨#[]⟩ : ByteArray), .slice none 0 0, .slice none 0 0] (0, 0) _ rfl hnew_ Tryd.underlying27 rfl (by kernel_rfl)) rfl ?_
     exact ⟨_, _, qe_, by first | exact Kd.R_nil _ _ _ _ _ | exact Kd.N_nil _ _ _ _ _ | exact Kd.V_nil _ _ _ _ _ | exact Kd.Q_nil _ _ _ _ _ | exact Kd.S_nil _ _ _ _ _, by first | exact Kd.R_nil _ _ _ _ _ | exact Kd.N_nil _ _ _ _ _ | exact Kd.V_nil _ _ _ _ _ | exact Kd.Q_nil _ _ _ _ _ | exact Kd.S_nil _ _ _ _ _, hbel_ _ _ (qb2_ GE276.out GE277.out HB.out) GE277.out⟩
mutual
def arrears_Days.l0 : Nat → Int → Int → Int → List (S67) → Int → Int → Int → Int → Int → Int → Int → Int → Int → Int → Int → Int → Int → Int → Int → Int → Int → Int → Int → Int → Int → Int → Int → ByteArray → ByteArray → List (S67) → List (S70) → Option (Int)
 | 0, _, _, _, _, _, _, _, _, _, _, _, _, _, _, _, _, _, _, _, _, _, _, _, _, _, _, _, _, _, _, _ => none
 | k + 1, x1, x5, x6, x10, x11, x12, x296000, x296001, x296002, x296003, x296004, x296005, x296006, x296007, x296008, x296009, x296010, x296011, x296012, x296013, x296014, x296015, x296016, x296017, x296018, x296019, x296020, x296021, x296022, x296023, x296024 => if x12 < x11 then (if 0 ≤ x12 then (if x12 < (x10.length : Int) then (if ((rd_T67 x10 x12).f1) ≤ x1 then (if x296003 < (wrap64 (x5 + ((rd_T67 x10 x12).f2))) then (arrears_Days.j1 k x1 (wrap64 (x5 + ((rd_T67 x10 x12).f2))) (wrap64 (x6 + ((rd_T67 x10 x12).f3))) x10 x11 x12 true x296000 x296001 x296002 x296003 x296004 x296005 x296006 x296007 x296008 x296009 x296010 x296011 x296012 x296013 x296014 x296015 x296016 x296017 x296018 x296019 x296020 x296021 x296022 x296023 x296024 ((rd_T67 x10 x12).f0) ((rd_T67 x10 x12).f1) ((rd_T67 x10 x12).f2) ((rd_T67 x10 x12).f3)) else (arrears_Days.j1 k x1 (wrap64 (x5 + ((rd_T67 x10 x12).f2))) (wrap64 (x6 + ((rd_T67 x10 x12).f3))) x10 x11 x12 (decide (x296004 < (wrap64 (x6 + ((rd_T67 x10 x12).f3))))) x296000 x296001 x296002 x296003 x296004 x296005 x296006 x296007 x296008 x296009 x296010 x296011 x296012 x296013 x296014 x296015 x296016 x296017 x296018 x296019 x296020 x296021 x296022 x296023 x296024 ((rd_T67 x10 x12).f0) ((rd_T67 x10 x12).f1) ((rd_T67 x10 x12).f2) ((rd_T67 x10 x12).f3))) else (arrears_Days.j1 k x1 (wrap64 (x5 + ((rd_T67 x10 x12).f2))) (wrap64 (x6 + ((rd_T67 x10 x12).f3))) x10 x11 x12 false x296000 x296001 x296002 x296003 x296004 x296005 x296006 x296007 x296008 x296009 x296010 x296011 x296012 x296013 x296014 x296015 x296016 x296017 x296018 x296019 x296020 x296021 x296022 x296023 x296024 ((rd_T67 x10 x12).f0) ((rd_T67 x10 x12).f1) ((rd_T67 x10 x12).f2) ((rd_T67 x10 x12).f3))) else (none)) else (none)) else (some 0)
def arrears_Days.j1 : Nat → Int → Int → Int → List (S67) → Int → Int → Bool → Int → Int → Int → Int → Int → Int → Int → Int → Int → Int → Int → Int → Int → Int → Int → Int → Int → Int → Int → Int → Int → ByteArray → ByteArray → List (S67) → List (S70) → Int → Int → Int → Int → Option (Int)
 | 0, _, _, _, _, _, _, _, _, _, _, _, _, _, _, _, _, _, _, _, _, _, _, _, _, _, _, _, _, _, _, _, _, _, _, _, _ => none
 | k + 1, x1, x5, x6, x10, x11, x12, x39, x296000, x296001, x296002, x296003, x296004, x296005, x296006, x296007, x296008, x296009, x296010, x296011, x296012, x296013, x296014, x296015, x296016, x296017, x296018, x296019, x296020, x296021, x296022, x296023, x296024, x298000, x298001, x298002, x298003 => if x39 = true then (some (wrap64 (x1 - x298001))) else (arrears_Days.l0 k x1 x5 x6 x10 x11 (wrap64 (x12 + 1)) x296000 x296001 x296002 x296003 x296004 x296005 x296006 x296007 x296008 x296009 x296010 x296011 x296012 x296013 x296014 x296015 x296016 x296017 x296018 x296019 x296020 x296021 x296022 x296023 x296024)
end
def arrears_Days.f (k : Nat) (a0_0 a0_1 a0_2 a0_3 a0_4 a0_5 a0_6 a0_7 a0_8 a0_9 a0_10 a0_11 a0_12 a0_13 a0_14 a0_15 a0_16 a0_17 a0_18 a0_19 a0_20 : Int) (a0_21 a0_22 : ByteArray) (l0_23 : List (S67)) (l0_24 : List (S70)) (a1 : Int) : Option (Int) := arrears_Days.l0 k a1 0 0 l0_23 (l0_23.length : Int) 0 a0_0 a0_1 a0_2 a0_3 a0_4 a0_5 a0_6 a0_7 a0_8 a0_9 a0_10 a0_11 a0_12 a0_13 a0_14 a0_15 a0_16 a0_17 a0_18 a0_19 a0_20 a0_21 a0_22 l0_23 l0_24
theorem arrears_Days.mono_l : ∀ k, (∀ y0 y1 y2 y3 y4 y5 y6 y7 y8 y9 y10 y11 y12 y13 y14 y15 y16 y17 y18 y19 y20 y21 y22 y23 y24 y25 y26 y27 y28 y29 y30, LeO (arrears_Days.l0 k y0 y1 y2 y3 y4 y5 y6 y7 y8 y9 y10 y11 y12 y13 y14 y15 y16 y17 y18 y19 y20 y21 y22 y23 y24 y25 y26 y27 y28 y29 y30) (arrears_Days.l0 (k + 1) y0 y1 y2 y3 y4 y5 y6 y7 y8 y9 y10 y11 y12 y13 y14 y15 y16 y17 y18 y19 y20 y21 y22 y23 y24 y25 y26 y27 y28 y29 y30)) ∧ (∀ y0 y1 y2 y3 y4 y5 y6 y7 y8 y9 y10 y11 y12 y13 y14 y15 y16 y17 y18 y19 y20 y21 y22 y23 y24 y25 y26 y27 y28 y29 y30 y31 y32 y33 y34 y35, LeO (arrears_Days.j1 k y0 y1 y2 y3 y4 y5 y6 y7 y8 y9 y10 y11 y12 y13 y14 y15 y16 y17 y18 y19 y20 y21 y22 y23 y24 y25 y26 y27 y28 y29 y30 y31 y32 y33 y34 y35) (arrears_Days.j1 (k + 1) y0 y1 y2 y3 y4 y5 y6 y7 y8 y9 y10 y11 y12 y13 y14 y15 y16 y17 y18 y19 y20 y21 y22 y23 y24 y25 y26 y27 y28 y29 y30 y31 y32 y33 y34 y35))
 | 0 => ⟨fun _ _ _ _ _ _ _ _ _ _ _ _ _ _ _ _ _ _ _ _ _ _ _ _ _ _ _ _ _ _ _ r h => by simp [arrears_Days.l0] at h, fun _ _ _ _ _ _ _ _ _ _ _ _ _ _ _ _ _ _ _ _ _ _ _ _ _ _ _ _ _ _ _ _ _ _ _ _ r h => by simp [arrears_Days.j1] at h⟩
 | k + 1 => by
  obtain ⟨ih0, ih1⟩ := arrears_Days.mono_l k
  refine ⟨?_, ?_⟩
  ·intro y0 y1 y2 y3 y4 y5 y6 y7 y8 y9 y10 y11 y12 y13 y14 y15 y16 y17 y18 y19 y20 y21 y22 y23 y24 y25 y26 y27 y28 y29 y30
   unfold arrears_Days.l0
   repeat' first
   | (with_reducible apply ih0)
   | (with_reducible apply ih1)
   | (with_reducible exact LeO.refl _)
   | (with_reducible exact LeO.none _)
   | (with_reducible refine LeO.ite ?_ ?_)
   | (with_reducible refine LeO.bind ?_ (fun _ => ?_))
   | apply ih0
   | apply ih1
   | exact LeO.none _
   | refine LeO.ite ?_ ?_
   | refine LeO.bind ?_ (fun _ => ?_)
  ·intro y0 y1 y2 y3 y4 y5 y6 y7 y8 y9 y10 y11 y12 y13 y14 y15 y16 y17 y18 y19 y20 y21 y22 y23 y24 y25 y26 y27 y28 y29 y30 y31 y32 y33 y34 y35
   unfold arrears_Days.j1
   repeat' first
   | (with_reducible apply ih0)
   | (with_reducible apply ih1)
   | (with_reducible exact LeO.refl _)
   | (with_reducible exact LeO.none _)
   | (with_reducible refine LeO.ite ?_ ?_)
   | (with_reducible refine LeO.bind ?_ (fun _ => ?_))
   | apply ih0
   | apply ih1
   | exact LeO.none _
   | refine LeO.ite ?_ ?_
   | refine LeO.bind ?_ (fun _ => ?_)
theorem arrears_Days.mono : ∀ a0 a1 a2 a3 a4 a5 a6 a7 a8 a9 a10 a11 a12 a13 a14 a15 a16 a17 a18 a19 a20 a21 a22 a23 a24 a25 k, LeO (arrears_Days.f k a0 a1 a2 a3 a4 a5 a6 a7 a8 a9 a10 a11 a12 a13 a14 a15 a16 a17 a18 a19 a20 a21 a22 a23 a24 a25) (arrears_Days.f (k + 1) a0 a1 a2 a3 a4 a5 a6 a7 a8 a9 a10 a11 a12 a13 a14 a15 a16 a17 a18 a19 a20 a21 a22 a23 a24 a25) := by
 intro a0 a1 a2 a3 a4 a5 a6 a7 a8 a9 a10 a11 a12 a13 a14 a15 a16 a17 a18 a19 a20 a21 a22 a23 a24 a25 k
 obtain ⟨ih0, ih1⟩ := arrears_Days.mono_l k
 unfold arrears_Days.f
 repeat' first
   | (with_reducible apply ih0)
   | (with_reducible apply ih1)
   | (with_reducible exact LeO.refl _)
   | (with_reducible exact LeO.none _)
   | (with_reducible refine LeO.ite ?_ ?_)
   | (with_reducible refine LeO.bind ?_ (fun _ => ?_))
   | apply ih0
   | apply ih1
   | exact LeO.none _
   | refine LeO.ite ?_ ?_
   | refine LeO.bind ?_ (fun _ => ?_)
set_option maxHeartbeats 8000000 in
set_option maxRecDepth 100000 in
theorem arrears_Days.calls (k : Nat) (a0_0 a0_1 a0_2 a0_3 a0_4 a0_5 a0_6 a0_7 a0_8 a0_9 a0_10 a0_11 a0_12 a0_13 a0_14 a0_15 a0_16 a0_17 a0_18 a0_19 a0_20 : Int) (a0_21 a0_22 : ByteArray) (A0_23 : Option Addr) (c0_23 : Nat) (l0_23 : List (S67)) (A0_24 : Option Addr) (c0_24 : Nat) (l0_24 : List (S70)) (a1 r : Int) (w : World) (hr0_23 : Kd.C k67 w A0_23 l0_23.length l0_23) (hc0_23 : l0_23.length ≤ c0_23) (hr0_24 : Kd.C k70 w A0_24 l0_24.length l0_24) (hc0_24 : l0_24.length ≤ c0_24) (h : arrears_Days.f k a0_0 a0_1 a0_2 a0_3 a0_4 a0_5 a0_6 a0_7 a0_8 a0_9 a0_10 a0_11 a0_12 a0_13 a0_14 a0_15 a0_16 a0_17 a0_18 a0_19 a0_20 a0_21 a0_22 l0_23 l0_24 a1 = some r) :
  Calls Tryd.prog 15 #[.agg #[.int .i64 a0_0, .int .i64 a0_1, .int .i64 a0_2, .int .i64 a0_3, .int .i64 a0_4, .int .i64 a0_5, .int .i64 a0_6, .int .i64 a0_7, .int .i64 a0_8, .int .i64 a0_9, .int .i64 a0_10, .int .i64 a0_11, .int .i64 a0_12, .int .i64 a0_13, .int .i64 a0_14, .int .i64 a0_15, .int .i64 a0_16, .int .i64 a0_17, .int .i64 a0_18, .int .i64 a0_19, .int .i64 a0_20, .string a0_21, .string a0_22, .slice A0_23 l0_23.length c0_23, .slice A0_24 l0_24.length c0_24], .int .i64 a1] w fun e w' => e = .returned (.int .i64 r) ∧ Below w.heap.size w w' := by
 have hu27 := Tryd.underlying27
 have hu67 := Tryd.underlying67
 have HR0_23 := am_ hr0_23
 have HC0_23 := am_ hc0_23
 clear hr0_23 hc0_23
 have HR0_24 := am_ hr0_24
 have HC0_24 := am_ hc0_24
 clear hr0_24 hc0_24
 have HB := am_ (Below.refl w.heap.size w)
 have H := h
 clear h
 unfold arrears_Days.f at H
 have H' := am_ H
 clear H
 go_enter Tryd.func15, Tryd.ntmps15
 go_wp2_with (first | ((with_reducible refine gate_load_ (t := 27) rfl ?_); refine ld_ (t := 27) Tryd.underlying27 rfl rfl rfl (by (repeat (first | (with_reducible first | refine blk_drewN ?_ _ | refine blk_drew ?_ | refine blk_alloc ?_ _) | refine blk_far ?_ NB295_297.out _ | refine blk_set ?_ _ _)); (with_reducible first | exact BK295.out)) rfl (by kernel_rfl) ?_) | ((with_reducible refine gate_load_ (t := 27) rfl ?_); refine ldgA_ (t := 27) Tryd.underlying27 rfl (by rfl) rfl (by (repeat (first | (with_reducible first | refine blk_drewN ?_ _ | refine blk_drew ?_ | refine blk_alloc ?_ _) | refine blk_far ?_ NB295_297.out _ | refine blk_set ?_ _ _)); (with_reducible first | exact BK295.out)) rfl (by kernel_rfl) ?_) | ((with_reducible refine gate_dst (N := 2) rfl ?_); refine be_ (N := 2) (cs := #[.int .i64 a0_0, .int .i64 a0_1, .int .i64 a0_2, .int .i64 a0_3, .int .i64 a0_4, .int .i64 a0_5, .int .i64 a0_6, .int .i64 a0_7, .int .i64 a0_8, .int .i64 a0_9, .int .i64 a0_10, .int .i64 a0_11, .int .i64 a0_12, .int .i64 a0_13, .int .i64 a0_14, .int .i64 a0_15, .int .i64 a0_16, .int .i64 a0_17, .int .i64 a0_18, .int .i64 a0_19, .int .i64 a0_20, .string a0_21, .string a0_22, .slice A0_23 l0_23.length c0_23, .slice A0_24 l0_24.length c0_24]) (t := 27) ?_; intro gb295 hg w3 hbox hb; have BK295 := am_ (hbox); have GE295 := am_ (bz_ hg (qb_ HB.out) : w.heap.size ≤ gb295); replace HB := am_ (below_step (qb_ HB.out) hb); clear hb hbox hg; obtain ⟨Z4_0, Z4_1, Z4_2, Z4_3, Z4_4, Z4_5, Z4_6, Z4_7, Z4_8, Z4_9, Z4_10, Z4_11, Z4_12, Z4_13, Z4_14, Z4_15, Z4_16, Z4_17, Z4_18, Z4_19, Z4_20, Z4_21, Z4_22, Z4_23, Z4_24, Y4_0, Y4_1, Y4_2, Y4_3, Y4_4, Y4_5, Y4_6, Y4_7, Y4_8, Y4_9, Y4_10, Y4_11, Y4_12, Y4_13, Y4_14, Y4_15, Y4_16, Y4_17, Y4_18, Y4_19, Y4_20, Y4_21, Y4_22, Y4_23, Y4_24⟩ := cz25_ BK295.out))
 go_loopg [5, 6, 12] k (fun kq v5 v6 v12 w' => ∃ (x5_1 x6_1 x12_1 : Int), v5 = .int .i64 x5_1 ∧ v6 = .int .i64 x6_1 ∧ v12 = .int .i64 x12_1 ∧ Aside0 (arrears_Days.l0 kq a1 x5_1 x6_1 l0_23 (l0_23.length : Int) x12_1 a0_0 a0_1 a0_2 a0_3 a0_4 a0_5 a0_6 a0_7 a0_8 a0_9 a0_10 a0_11 a0_12 a0_13 a0_14 a0_15 a0_16 a0_17 a0_18 a0_19 a0_20 a0_21 a0_22 l0_23 l0_24 = some r) ∧ Aside0 (kq ≤ k) ∧ Aside0 (w'.heap[gb295]? = some (.cells #[.int .i64 a0_0, .int .i64 a0_1, .int .i64 a0_2, .int .i64 a0_3, .int .i64 a0_4, .int .i64 a0_5, .int .i64 a0_6, .int .i64 a0_7, .int .i64 a0_8, .int .i64 a0_9, .int .i64 a0_10, .int .i64 a0_11, .int .i64 a0_12, .int .i64 a0_13, .int .i64 a0_14, .int .i64 a0_15, .int .i64 a0_16, .int .i64 a0_17, .int .i64 a0_18, .int .i64 a0_19, .int .i64 a0_20, .string a0_21, .string a0_22, (.slice A0_23 l0_23.length c0_23), (.slice A0_24 l0_24.length c0_24)] 27 (0, 0))) ∧ Aside0 (Below w.heap.size w w'))
 case atStart => exact ⟨(0), (0), (0), qs_, qs_, qs_, H', ⟨Nat.le_refl _⟩, ⟨qk_ BK295.out⟩, ⟨qb1_ GE295.out HB.out⟩⟩
 case round =>
  clear H'
  try clear c1
  try clear p2
  (try clear Z4_0 Z4_1 Z4_10 Z4_11 Z4_12 Z4_13 Z4_14 Z4_15 Z4_16 Z4_17 Z4_18 Z4_19 Z4_2 Z4_20 Z4_21 Z4_22 Z4_23 Z4_24 Z4_3 Z4_4 Z4_5 Z4_6 Z4_7 Z4_8 Z4_9 Y4_0 Y4_1 Y4_10 Y4_11 Y4_12 Y4_13 Y4_14 Y4_15 Y4_16 Y4_17 Y4_18 Y4_19 Y4_2 Y4_20 Y4_21 Y4_22 Y4_23 Y4_24 Y4_3 Y4_4 Y4_5 Y4_6 Y4_7 Y4_8 Y4_9)
  obtain ⟨x5_1, x6_1, x12_1, rfl, rfl, rfl, HA, HK1, BK295, HB⟩ := hrel
  cases gk with
  | zero => exact absurd HA.out (by simp [arrears_Days.l0])
  | succ k1 =>
   have H := HA.out
   clear HA
   simp only [arrears_Days.l0] at H
   by_cases c5 : x12_1 < (l0_23.length : Int)
   ·rw [if_pos c5] at H
    have c5b0 : decide (x12_1 < (l0_23.length : Int)) = true := decide_eq_true c5
    clear c5
    by_cases c6 : 0 ≤ x12_1
    ·rw [if_pos c6] at H
     have c6b0 : decide (0 ≤ x12_1) = true := decide_eq_true c6
     clear c6
     by_cases c7 : x12_1 < (l0_23.length : Int)
     ·rw [if_pos c7] at H
      have c7b0 : decide (x12_1 < (l0_23.length : Int)) = true := decide_eq_true c7
      clear c7
      have HC8 := am_ H
      clear H
      have p296 : 0 ≤ (x12_1 : Int) := of_decide_eq_true (by first | (with_reducible assumption) | assumption)
      have q296 : x12_1 < (l0_23.length : Int) := of_decide_eq_true (by first | (with_reducible assumption) | assumption)
      obtain ⟨ad296, e296, hx296_0, hx296_1, hx296_2, hx296_3⟩ := at_T67 HR0_23.out x12_1 p296 q296
      cases e296
      replace hx296_0 := bx_ HB.out hx296_0
      replace hx296_1 := bx_ HB.out hx296_1
      replace hx296_2 := bx_ HB.out hx296_2
      replace hx296_3 := bx_ HB.out hx296_3
      replace p296 := eq_true p296
      replace q296 := eq_true q296
      go_upto_region 7 with (first | ((with_reducible refine gate_load_ (t := 27) rfl ?_); refine ld_ (t := 27) Tryd.underlying27 rfl rfl rfl (by (repeat (first | (with_reducible first | refine blk_drewN ?_ _ | refine blk_drew ?_ | refine blk_alloc ?_ _) | refine blk_far ?_ NB295_297.out _ | refine blk_set ?_ _ _)); (with_reducible first | exact BK295.out)) rfl (by kernel_rfl) ?_) | ((with_reducible refine gate_load_ (t := 27) rfl ?_); refine ldgA_ (t := 27) Tryd.underlying27 rfl (by rfl) rfl (by (repeat (first | (with_reducible first | refine blk_drewN ?_ _ | refine blk_drew ?_ | refine blk_alloc ?_ _) | refine blk_far ?_ NB295_297.out _ | refine blk_set ?_ _ _)); (with_reducible first | exact BK295.out)) rfl (by kernel_rfl) ?_) | ((with_reducible refine gate_dst (N := 8) rfl ?_); refine be_ (N := 8) (cs := #[.int .i64 0, .int .i64 0, .int .i64 0, .int .i64 0]) (t := 67) ?_; intro gb297 hg w9 hbox hb; have BK297 := am_ (hbox); have GE297 := am_ (bz_ hg (qb1_ GE295.out HB.out) : w.heap.size ≤ gb297); replace HB := am_ (below_step (qb1_ GE295.out HB.out) hb); have NB295_297 := am_ (nl_ hg (qk_ BK295.out) : gb295 ≠ gb297); have NB297_295 := am_ (ng_ hg (qk_ BK295.out) : gb297 ≠ gb295); replace BK295 := am_ (blk_below (qk_ BK295.out) hb); clear hb hbox hg; have hnb10 := NB297_295.out; have hnc10 := NB295_297.out; obtain ⟨Z11_0, Z11_1, Z11_2, Z11_3, Y11_0, Y11_1, Y11_2, Y11_3⟩ := cz4_ BK297.out))
      (try simp only [Act.put, List.setIfInBounds_toArray, List.set_cons_zero, List.set_cons_succ])
      go_cut [39] (fun v39 wc => ∃ (kq : Nat) (x39_7 : Bool), v39 = .bool x39_7 ∧ Aside0 (arrears_Days.j1 kq a1 (wrap64 (x5_1 + ((rd_T67 l0_23 x12_1).f2))) (wrap64 (x6_1 + ((rd_T67 l0_23 x12_1).f3))) l0_23 (l0_23.length : Int) x12_1 x39_7 a0_0 a0_1 a0_2 a0_3 a0_4 a0_5 a0_6 a0_7 a0_8 a0_9 a0_10 a0_11 a0_12 a0_13 a0_14 a0_15 a0_16 a0_17 a0_18 a0_19 a0_20 a0_21 a0_22 l0_23 l0_24 ((rd_T67 l0_23 x12_1).f0) ((rd_T67 l0_23 x12_1).f1) ((rd_T67 l0_23 x12_1).f2) ((rd_T67 l0_23 x12_1).f3) = some r) ∧ Aside0 (kq ≤ k1) ∧ Aside0 (wc.heap[gb295]? = some (.cells #[.int .i64 a0_0, .int .i64 a0_1, .int .i64 a0_2, .int .i64 a0_3, .int .i64 a0_4, .int .i64 a0_5, .int .i64 a0_6, .int .i64 a0_7, .int .i64 a0_8, .int .i64 a0_9, .int .i64 a0_10, .int .i64 a0_11, .int .i64 a0_12, .int .i64 a0_13, .int .i64 a0_14, .int .i64 a0_15, .int .i64 a0_16, .int .i64 a0_17, .int .i64 a0_18, .int .i64 a0_19, .int .i64 a0_20, .string a0_21, .string a0_22, (.slice (some ad296) l0_23.length c0_23), (.slice A0_24 l0_24.length c0_24)] 27 (0, 0))) ∧ Aside0 (wc.heap[gb297]? = some (.cells #[.int .i64 ((rd_T67 l0_23 x12_1).f0), .int .i64 ((rd_T67 l0_23 x12_1).f1), .int .i64 ((rd_T67 l0_23 x12_1).f2), .int .i64 ((rd_T67 l0_23 x12_1).f3)] 67 (0, 0))) ∧ Aside0 (Below w.heap.size w wc))
      case first =>
       have H := HC8.out
       clear HC8
       by_cases c12 : ((rd_T67 l0_23 x12_1).f1) ≤ a1
       ·rw [if_pos c12] at H
        have c12b0 : decide (((rd_T67 l0_23 x12_1).f1) ≤ a1) = true := decide_eq_true c12
        clear c12
        (first | rw [c12b0] | (simp only [i64_w, i32_w]; rw [c12b0]) | skip)
        by_cases c13 : a0_3 < (wrap64 (x5_1 + ((rd_T67 l0_23 x12_1).f2)))
        ·rw [if_pos c13] at H
         have c13b0 : decide (a0_3 < (wrap64 (x5_1 + ((rd_T67 l0_23 x12_1).f2)))) = true := decide_eq_true c13
         clear c13
         have H' := am_ H
         clear H
         have hnb14 := NB297_295.out
         have hnc14 := NB295_297.out
         obtain ⟨Z15_0, Z15_1, Z15_2, Z15_3, Y15_0, Y15_1, Y15_2, Y15_3⟩ := cz4_ BK297.out
         obtain ⟨Z16_0, Z16_1, Z16_2, Z16_3, Z16_4, Z16_5, Z16_6, Z16_7, Z16_8, Z16_9, Z16_10, Z16_11, Z16_12, Z16_13, Z16_14, Z16_15, Z16_16, Z16_17, Z16_18, Z16_19, Z16_20, Z16_21, Z16_22, Z16_23, Z16_24, Y16_0, Y16_1, Y16_2, Y16_3, Y16_4, Y16_5, Y16_6, Y16_7, Y16_8, Y16_9, Y16_10, Y16_11, Y16_12, Y16_13, Y16_14, Y16_15, Y16_16, Y16_17, Y16_18, Y16_19, Y16_20, Y16_21, Y16_22, Y16_23, Y16_24⟩ := cz25_ BK295.out
         go_wp2
         go_meet
         case rel => exact ⟨_, (true), qs_, H', ⟨by have := HK1.out; first | omega | exact Nat.le_refl _⟩, ⟨qffff_ NB295_297.out NB295_297.out NB295_297.out NB295_297.out BK295.out⟩, ⟨by (with_reducible repeat (first | refine blk_drewN ?_ _ | refine blk_drew ?_ | refine blk_alloc ?_ _)); refine blk_put (cs := #[.int .i64 ((rd_T67 l0_23 x12_1).f0), .int .i64 ((rd_T67 l0_23 x12_1).f1), .int .i64 ((rd_T67 l0_23 x12_1).f2), .int .i64 0]) ?_ 3 _ rfl; (with_reducible repeat (first | refine blk_drewN ?_ _ | refine blk_drew ?_ | refine blk_alloc ?_ _)); refine blk_put (cs := #[.int .i64 ((rd_T67 l0_23 x12_1).f0), .int .i64 ((rd_T67 l0_23 x12_1).f1), .int .i64 0, .int .i64 0]) ?_ 2 _ rfl; (with_reducible repeat (first | refine blk_drewN ?_ _ | refine blk_drew ?_ | refine blk_alloc ?_ _)); refine blk_put (cs := #[.int .i64 ((rd_T67 l0_23 x12_1).f0), .int .i64 0, .int .i64 0, .int .i64 0]) ?_ 1 _ rfl; (with_reducible repeat (first | refine blk_drewN ?_ _ | refine blk_drew ?_ | refine blk_alloc ?_ _)); refine blk_put (cs := #[.int .i64 0, .int .i64 0, .int .i64 0, .int .i64 0]) ?_ 0 _ rfl; (with_reducible repeat (first | refine blk_drewN ?_ _ | refine blk_drew ?_ | refine blk_alloc ?_ _)); exact BK297.out⟩, ⟨qb2_ GE295.out GE297.out HB.out⟩⟩
        ·rw [if_neg c13] at H
         have c13b0 : decide (a0_3 < (wrap64 (x5_1 + ((rd_T67 l0_23 x12_1).f2)))) = false := decide_eq_false c13
         clear c13
         have H' := am_ H
         clear H
         have hnb17 := NB297_295.out
         have hnc17 := NB295_297.out
         obtain ⟨Z18_0, Z18_1, Z18_2, Z18_3, Y18_0, Y18_1, Y18_2, Y18_3⟩ := cz4_ BK297.out
         obtain ⟨Z19_0, Z19_1, Z19_2, Z19_3, Z19_4, Z19_5, Z19_6, Z19_7, Z19_8, Z19_9, Z19_10, Z19_11, Z19_12, Z19_13, Z19_14, Z19_15, Z19_16, Z19_17, Z19_18, Z19_19, Z19_20, Z19_21, Z19_22, Z19_23, Z19_24, Y19_0, Y19_1, Y19_2, Y19_3, Y19_4, Y19_5, Y19_6, Y19_7, Y19_8, Y19_9, Y19_10, Y19_11, Y19_12, Y19_13, Y19_14, Y19_15, Y19_16, Y19_17, Y19_18, Y19_19, Y19_20, Y19_21, Y19_22, Y19_23, Y19_24⟩ := cz25_ BK295.out
         go_wp2
         go_meet
         case rel => exact ⟨_, (decide (a0_4 < (wrap64 (x6_1 + ((rd_T67 l0_23 x12_1).f3))))), qs_, H', ⟨by have := HK1.out; first | omega | exact Nat.le_refl _⟩, ⟨qffff_ NB295_297.out NB295_297.out NB295_297.out NB295_297.out BK295.out⟩, ⟨by (with_reducible repeat (first | refine blk_drewN ?_ _ | refine blk_drew ?_ | refine blk_alloc ?_ _)); refine blk_put (cs := #[.int .i64 ((rd_T67 l0_23 x12_1).f0), .int .i64 ((rd_T67 l0_23 x12_1).f1), .int .i64 ((rd_T67 l0_23 x12_1).f2), .int .i64 0]) ?_ 3 _ rfl; (with_reducible repeat (first | refine blk_drewN ?_ _ | refine blk_drew ?_ | refine blk_alloc ?_ _)); refine blk_put (cs := #[.int .i64 ((rd_T67 l0_23 x12_1).f0), .int .i64 ((rd_T67 l0_23 x12_1).f1), .int .i64 0, .int .i64 0]) ?_ 2 _ rfl; (with_reducible repeat (first | refine blk_drewN ?_ _ | refine blk_drew ?_ | refine blk_alloc ?_ _)); refine blk_put (cs := #[.int .i64 ((rd_T67 l0_23 x12_1).f0), .int .i64 0, .int .i64 0, .int .i64 0]) ?_ 1 _ rfl; (with_reducible repeat (first | refine blk_drewN ?_ _ | refine blk_drew ?_ | refine blk_alloc ?_ _)); refine blk_put (cs := #[.int .i64 0, .int .i64 0, .int .i64 0, .int .i64 0]) ?_ 0 _ rfl; (with_reducible repeat (first | refine blk_drewN ?_ _ | refine blk_drew ?_ | refine blk_alloc ?_ _)); exact BK297.out⟩, ⟨qb2_ GE295.out GE297.out HB.out⟩⟩
       ·rw [if_neg c12] at H
        have c12b0 : decide (((rd_T67 l0_23 x12_1).f1) ≤ a1) = false := decide_eq_false c12
        clear c12
        (first | rw [c12b0] | (simp only [i64_w, i32_w]; rw [c12b0]) | skip)
        have H' := am_ H
        clear H
        have hnb20 := NB297_295.out
        have hnc20 := NB295_297.out
        obtain ⟨Z21_0, Z21_1, Z21_2, Z21_3, Y21_0, Y21_1, Y21_2, Y21_3⟩ := cz4_ BK297.out
        go_wp2
        go_meet
        case rel => exact ⟨_, (false), qs_, H', ⟨by have := HK1.out; first | omega | exact Nat.le_refl _⟩, ⟨qffff_ NB295_297.out NB295_297.out NB295_297.out NB295_297.out BK295.out⟩, ⟨by (with_reducible repeat (first | refine blk_drewN ?_ _ | refine blk_drew ?_ | refine blk_alloc ?_ _)); refine blk_put (cs := #[.int .i64 ((rd_T67 l0_23 x12_1).f0), .int .i64 ((rd_T67 l0_23 x12_1).f1), .int .i64 ((rd_T67 l0_23 x12_1).f2), .int .i64 0]) ?_ 3 _ rfl; (with_reducible repeat (first | refine blk_drewN ?_ _ | refine blk_drew ?_ | refine blk_alloc ?_ _)); refine blk_put (cs := #[.int .i64 ((rd_T67 l0_23 x12_1).f0), .int .i64 ((rd_T67 l0_23 x12_1).f1), .int .i64 0, .int .i64 0]) ?_ 2 _ rfl; (with_reducible repeat (first | refine blk_drewN ?_ _ | refine blk_drew ?_ | refine blk_alloc ?_ _)); refine blk_put (cs := #[.int .i64 ((rd_T67 l0_23 x12_1).f0), .int .i64 0, .int .i64 0, .int .i64 0]) ?_ 1 _ rfl; (with_reducible repeat (first | refine blk_drewN ?_ _ | refine blk_drew ?_ | refine blk_alloc ?_ _)); refine blk_put (cs := #[.int .i64 0, .int .i64 0, .int .i64 0, .int .i64 0]) ?_ 0 _ rfl; (with_reducible repeat (first | refine blk_drewN ?_ _ | refine blk_drew ?_ | refine blk_alloc ?_ _)); exact BK297.out⟩, ⟨qb2_ GE295.out GE297.out HB.out⟩⟩
      case rest =>
       clear HC8
       try clear c1
       try clear c2
       try clear p2
       try clear q2
       try clear hx2
       try clear c5
       try clear c5b0
       try clear c6
       try clear c6b0
       try clear p6
       try clear c7
       try clear c7b0
       try clear c10
       try clear c12
       try clear c12b0
       try clear c13
       try clear c13b0
       try clear c14
       try clear c15
       try clear c17
       try clear c20
       (try clear Z11_0 Z11_1 Z11_2 Z11_3 Y11_0 Y11_1 Y11_2 Y11_3)
       (try clear Z15_0 Z15_1 Z15_2 Z15_3 Y15_0 Y15_1 Y15_2 Y15_3)
       (try clear Z16_0 Z16_1 Z16_10 Z16_11 Z16_12 Z16_13 Z16_14 Z16_15 Z16_16 Z16_17 Z16_18 Z16_19 Z16_2 Z16_20 Z16_21 Z16_22 Z16_23 Z16_24 Z16_3 Z16_4 Z16_5 Z16_6 Z16_7 Z16_8 Z16_9 Y16_0 Y16_1 Y16_10 Y16_11 Y16_12 Y16_13 Y16_14 Y16_15 Y16_16 Y16_17 Y16_18 Y16_19 Y16_2 Y16_20 Y16_21 Y16_22 Y16_23 Y16_24 Y16_3 Y16_4 Y16_5 Y16_6 Y16_7 Y16_8 Y16_9)
       (try clear Z18_0 Z18_1 Z18_2 Z18_3 Y18_0 Y18_1 Y18_2 Y18_3)
       (try clear Z19_0 Z19_1 Z19_10 Z19_11 Z19_12 Z19_13 Z19_14 Z19_15 Z19_16 Z19_17 Z19_18 Z19_19 Z19_2 Z19_20 Z19_21 Z19_22 Z19_23 Z19_24 Z19_3 Z19_4 Z19_5 Z19_6 Z19_7 Z19_8 Z19_9 Y19_0 Y19_1 Y19_10 Y19_11 Y19_12 Y19_13 Y19_14 Y19_15 Y19_16 Y19_17 Y19_18 Y19_19 Y19_2 Y19_20 Y19_21 Y19_22 Y19_23 Y19_24 Y19_3 Y19_4 Y19_5 Y19_6 Y19_7 Y19_8 Y19_9)
       (try clear Z21_0 Z21_1 Z21_2 Z21_3 Y21_0 Y21_1 Y21_2 Y21_3)
       (try clear Z4_0 Z4_1 Z4_10 Z4_11 Z4_12 Z4_13 Z4_14 Z4_15 Z4_16 Z4_17 Z4_18 Z4_19 Z4_2 Z4_20 Z4_21 Z4_22 Z4_23 Z4_24 Z4_3 Z4_4 Z4_5 Z4_6 Z4_7 Z4_8 Z4_9 Y4_0 Y4_1 Y4_10 Y4_11 Y4_12 Y4_13 Y4_14 Y4_15 Y4_16 Y4_17 Y4_18 Y4_19 Y4_2 Y4_20 Y4_21 Y4_22 Y4_23 Y4_24 Y4_3 Y4_4 Y4_5 Y4_6 Y4_7 Y4_8 Y4_9)
       try clear hx296_0
       try clear hx296_1
       try clear hx296_2
       try clear hx296_3
       try clear p2
       try clear p296
       try clear q296
       obtain ⟨kq, x39_7, rfl, HA, HJ7, BK295, BK297, HB⟩ := hcut
       cases kq with
       | zero => exact absurd HA.out (by simp [arrears_Days.j1])
       | succ kj7 =>
        have H := HA.out
        clear HA
        simp only [arrears_Days.j1] at H
        by_cases c22 : x39_7 = true
        ·subst c22
         rw [if_pos rfl] at H
         obtain rfl := Option.some.inj H
         have hnb23 := NB297_295.out
         have hnc23 := NB295_297.out
         obtain ⟨Z24_0, Z24_1, Z24_2, Z24_3, Y24_0, Y24_1, Y24_2, Y24_3⟩ := cz4_ BK297.out
         go_wp2
         go_ret
         exact ⟨qe_, qb2_ GE295.out GE297.out HB.out⟩
        ·replace c22 := Bool.eq_false_iff.mpr c22
         subst c22
         rw [if_neg (show ¬ (false = true) by decide)] at H
         have H' := am_ H
         clear H
         go_wp2
         go_roundg kj7
         case measure => have := HK1.out; have := HJ7.out; omega
         case rel => exact ⟨((wrap64 (x5_1 + ((rd_T67 l0_23 x12_1).f2)))), ((wrap64 (x6_1 + ((rd_T67 l0_23 x12_1).f3)))), (wrap64 (x12_1 + 1)), qs_, qs_, qs_, H', ⟨by have := HK1.out; have := HJ7.out; omega⟩, ⟨qk_ BK295.out⟩, ⟨qb2_ GE295.out GE297.out HB.out⟩⟩
     ·rw [if_neg c7] at H
      exact absurd H (by simp)
    ·rw [if_neg c6] at H
     exact absurd H (by simp)
   ·rw [if_neg c5] at H
    have c5b0 : decide (x12_1 < (l0_23.length : Int)) = false := decide_eq_false c5
    clear c5
    obtain rfl := Option.some.inj H
    go_wp2
    go_ret
    exact ⟨qe_, qb1_ GE295.out HB.out⟩
end Go.Proofs.YtogcdcjbleafdaaDoor.PS
end
