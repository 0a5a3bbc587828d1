import Derived.Test.YtogcdcjbleafdaaDoorQRm2
import Derived.Test.YtogcdcjbleafdaaDoorQRm4
import Derived.Test.YtogcdcjbleafdaaDoorQRm5
import Derived.Test.YtogcdcjbleafdaaDoorQRm6
section
namespace Go.Proofs.YtogcdcjbleafdaaDoor.PS
open Go.RowKit Go.Proofs.YtogcdcjbleafdaaDoorW.PrintWords Go.Proofs.YtogcdcjbleafdaaDoorW.PrintLast Go.Proofs.YtogcdcjbleafdaaDoorW.PrintMore
attribute [local go_sem] max2_int min2_int max_two min_two
set_option linter.unusedVariables false
set_option linter.unusedSimpArgs false
mutual
def arrears_Penalty.j0 : Nat → Int → Int → Bool → Int → Int → Int → Int → Int → Int → Int → Int → Int → Int → Int → Int → Int → Int → Int → Int → Int → Int → Int → Int → Int → ByteArray → ByteArray → List (S67) → List (S70) → Option (Int × Int × Int)
 | 0, _, _, _, _, _, _, _, _, _, _, _, _, _, _, _, _, _, _, _, _, _, _, _, _, _, _, _, _ => none
 | k + 1, x1, x2, x35, x202000, x202001, x202002, x202003, x202004, x202005, x202006, x202007, x202008, x202009, x202010, x202011, x202012, x202013, x202014, x202015, x202016, x202017, x202018, x202019, x202020, x202021, x202022, x202023, x202024 => if x35 = true then (some (0, 0, 1)) else (arrears_Penalty.l0 k x2 x1 x202000 x202001 x202002 x202003 x202004 x202005 x202006 x202007 x202008 x202009 x202010 x202011 x202012 x202013 x202014 x202015 x202016 x202017 x202018 x202019 x202020 x202021 x202022 x202023 x202024 0 0)
def arrears_Penalty.l0 : Nat → Int → Int → Int → Int → Int → Int → Int → Int → Int → Int → Int → Int → Int → Int → Int → Int → Int → Int → Int → Int → Int → Int → Int → ByteArray → ByteArray → List (S67) → List (S70) → Int → Int → Option (Int × Int × Int)
 | 0, _, _, _, _, _, _, _, _, _, _, _, _, _, _, _, _, _, _, _, _, _, _, _, _, _, _, _, _, _ => none
 | k + 1, x2, x9, x202000, x202001, x202002, x202003, x202004, x202005, x202006, x202007, x202008, x202009, x202010, x202011, x202012, x202013, x202014, x202015, x202016, x202017, x202018, x202019, x202020, x202021, x202022, x202023, x202024, x207000, x207001 => if x9 < x2 then ((arrears_Overdue.f k x202000 x202001 x202002 x202003 x202004 x202005 x202006 x202007 x202008 x202009 x202010 x202011 x202012 x202013 x202014 x202015 x202016 x202017 x202018 x202019 x202020 x202021 x202022 x202023 x202024 x9).bind fun t207 => ((wide_Mul.f t207 x202019).bind fun bt208 => ((daycount_Weight.f k 3 x9).bind fun t210 => ((wide_Scale.f bt208.1 bt208.2 t210).bind fun bt211 => (if bt211.2.2 = 0 then ((wide_Add.f x207000 x207001 bt211.1 bt211.2.1).bind fun bt215 => (if bt215.2.2 = 0 then (arrears_Penalty.l0 k x2 (wrap64 (x9 + 1)) x202000 x202001 x202002 x202003 x202004 x202005 x202006 x202007 x202008 x202009 x202010 x202011 x202012 x202013 x202014 x202015 x202016 x202017 x202018 x202019 x202020 x202021 x202022 x202023 x202024 bt215.1 bt215.2.1) else (some (0, 0, bt215.2.2)))) else (some (0, 0, bt211.2.2))))))) else (some (x207000, x207001, 0))
end
def arrears_Penalty.f (k : Nat) (a0_0 a0_1 a0_2 a0_3 a0_4 a0_5 a0_6 a0_7 a0_8 a0_9 a0_10 a0_11 a0_12 a0_13 a0_14 a0_15 a0_16 a0_17 a0_18 a0_19 a0_20 : Int) (a0_21 a0_22 : ByteArray) (l0_23 : List (S67)) (l0_24 : List (S70)) (a1 a2 : Int) : Option (Int × Int × Int) := (loan_Check.f k a0_0 a0_1 a0_2 a0_3 a0_4 a0_5 a0_6 a0_7 a0_8 a0_9 a0_10 a0_11 a0_12 a0_13 a0_14 a0_15 a0_16 a0_17 a0_18 a0_19 a0_20 a0_21 a0_22 l0_23 l0_24).bind fun t203 => (if t203 = 0 then ((arrears_day.f a1).bind fun t204 => (if t204 = true then ((arrears_day.f a2).bind fun t205 => (if t205 = true then (if a1 > a2 then (arrears_Penalty.j0 k a1 a2 true a0_0 a0_1 a0_2 a0_3 a0_4 a0_5 a0_6 a0_7 a0_8 a0_9 a0_10 a0_11 a0_12 a0_13 a0_14 a0_15 a0_16 a0_17 a0_18 a0_19 a0_20 a0_21 a0_22 l0_23 l0_24) else (arrears_Penalty.j0 k a1 a2 (decide ((wrap64 (a2 - a1)) > 4000)) a0_0 a0_1 a0_2 a0_3 a0_4 a0_5 a0_6 a0_7 a0_8 a0_9 a0_10 a0_11 a0_12 a0_13 a0_14 a0_15 a0_16 a0_17 a0_18 a0_19 a0_20 a0_21 a0_22 l0_23 l0_24)) else (arrears_Penalty.j0 k a1 a2 true a0_0 a0_1 a0_2 a0_3 a0_4 a0_5 a0_6 a0_7 a0_8 a0_9 a0_10 a0_11 a0_12 a0_13 a0_14 a0_15 a0_16 a0_17 a0_18 a0_19 a0_20 a0_21 a0_22 l0_23 l0_24))) else (arrears_Penalty.j0 k a1 a2 true a0_0 a0_1 a0_2 a0_3 a0_4 a0_5 a0_6 a0_7 a0_8 a0_9 a0_10 a0_11 a0_12 a0_13 a0_14 a0_15 a0_16 a0_17 a0_18 a0_19 a0_20 a0_21 a0_22 l0_23 l0_24))) else (arrears_Penalty.j0 k a1 a2 true a0_0 a0_1 a0_2 a0_3 a0_4 a0_5 a0_6 a0_7 a0_8 a0_9 a0_10 a0_11 a0_12 a0_13 a0_14 a0_15 a0_16 a0_17 a0_18 a0_19 a0_20 a0_21 a0_22 l0_23 l0_24))
theorem arrears_Penalty.mono_l : ∀ k, (∀ y0 y1 y2 y3 y4 y5 y6 y7 y8 y9 y10 y11 y12 y13 y14 y15 y16 y17 y18 y19 y20 y21 y22 y23 y24 y25 y26 y27, LeO (arrears_Penalty.j0 k y0 y1 y2 y3 y4 y5 y6 y7 y8 y9 y10 y11 y12 y13 y14 y15 y16 y17 y18 y19 y20 y21 y22 y23 y24 y25 y26 y27) (arrears_Penalty.j0 (k + 1) y0 y1 y2 y3 y4 y5 y6 y7 y8 y9 y10 y11 y12 y13 y14 y15 y16 y17 y18 y19 y20 y21 y22 y23 y24 y25 y26 y27)) ∧ (∀ y0 y1 y2 y3 y4 y5 y6 y7 y8 y9 y10 y11 y12 y13 y14 y15 y16 y17 y18 y19 y20 y21 y22 y23 y24 y25 y26 y27 y28, LeO (arrears_Penalty.l0 k y0 y1 y2 y3 y4 y5 y6 y7 y8 y9 y10 y11 y12 y13 y14 y15 y16 y17 y18 y19 y20 y21 y22 y23 y24 y25 y26 y27 y28) (arrears_Penalty.l0 (k + 1) y0 y1 y2 y3 y4 y5 y6 y7 y8 y9 y10 y11 y12 y13 y14 y15 y16 y17 y18 y19 y20 y21 y22 y23 y24 y25 y26 y27 y28))
 | 0 => ⟨fun _ _ _ _ _ _ _ _ _ _ _ _ _ _ _ _ _ _ _ _ _ _ _ _ _ _ _ _ r h => by simp [arrears_Penalty.j0] at h, fun _ _ _ _ _ _ _ _ _ _ _ _ _ _ _ _ _ _ _ _ _ _ _ _ _ _ _ _ _ r h => by simp [arrears_Penalty.l0] at h⟩
 | k + 1 => by
  obtain ⟨ih0, ih1⟩ := arrears_Penalty.mono_l k
  refine ⟨?_, ?_⟩
  ·intro y0 y1 y2 y3 y4 y5 y6 y7 y8 y9 y10 y11 y12 y13 y14 y15 y16 y17 y18 y19 y20 y21 y22 y23 y24 y25 y26 y27
   unfold arrears_Penalty.j0
   repeat' first
   | (with_reducible apply ih0)
   | (with_reducible apply ih1)
   | (with_reducible apply arrears_Overdue.mono)
   | (with_reducible exact daycount_Weight.mono _ _ _)
   | (with_reducible apply loan_Check.mono)
   | (with_reducible exact LeO.refl _)
   | (with_reducible exact LeO.none _)
   | (with_reducible refine LeO.ite ?_ ?_)
   | (with_reducible refine LeO.bind ?_ (fun _ => ?_))
   | apply ih0
   | apply ih1
   | apply arrears_Overdue.mono
   | exact daycount_Weight.mono _ _ _
   | apply loan_Check.mono
   | exact LeO.none _
   | refine LeO.ite ?_ ?_
   | refine LeO.bind ?_ (fun _ => ?_)
  ·intro y0 y1 y2 y3 y4 y5 y6 y7 y8 y9 y10 y11 y12 y13 y14 y15 y16 y17 y18 y19 y20 y21 y22 y23 y24 y25 y26 y27 y28
   unfold arrears_Penalty.l0
   repeat' first
   | (with_reducible apply ih0)
   | (with_reducible apply ih1)
   | (with_reducible apply arrears_Overdue.mono)
   | (with_reducible exact daycount_Weight.mono _ _ _)
   | (with_reducible apply loan_Check.mono)
   | (with_reducible exact LeO.refl _)
   | (with_reducible exact LeO.none _)
   | (with_reducible refine LeO.ite ?_ ?_)
   | (with_reducible refine LeO.bind ?_ (fun _ => ?_))
   | apply ih0
   | apply ih1
   | apply arrears_Overdue.mono
   | exact daycount_Weight.mono _ _ _
   | apply loan_Check.mono
   | exact LeO.none _
   | refine LeO.ite ?_ ?_
   | refine LeO.bind ?_ (fun _ => ?_)
theorem arrears_Penalty.mono : ∀ a0 a1 a2 a3 a4 a5 a6 a7 a8 a9 a10 a11 a12 a13 a14 a15 a16 a17 a18 a19 a20 a21 a22 a23 a24 a25 a26 k, LeO (arrears_Penalty.f k a0 a1 a2 a3 a4 a5 a6 a7 a8 a9 a10 a11 a12 a13 a14 a15 a16 a17 a18 a19 a20 a21 a22 a23 a24 a25 a26) (arrears_Penalty.f (k + 1) a0 a1 a2 a3 a4 a5 a6 a7 a8 a9 a10 a11 a12 a13 a14 a15 a16 a17 a18 a19 a20 a21 a22 a23 a24 a25 a26) := by
 intro a0 a1 a2 a3 a4 a5 a6 a7 a8 a9 a10 a11 a12 a13 a14 a15 a16 a17 a18 a19 a20 a21 a22 a23 a24 a25 a26 k
 obtain ⟨ih0, ih1⟩ := arrears_Penalty.mono_l k
 unfold arrears_Penalty.f
 repeat' first
   | (with_reducible apply ih0)
   | (with_reducible apply ih1)
   | (with_reducible apply arrears_Overdue.mono)
   | (with_reducible exact daycount_Weight.mono _ _ _)
   | (with_reducible apply loan_Check.mono)
   | (with_reducible exact LeO.refl _)
   | (with_reducible exact LeO.none _)
   | (with_reducible refine LeO.ite ?_ ?_)
   | (with_reducible refine LeO.bind ?_ (fun _ => ?_))
   | apply ih0
   | apply ih1
   | apply arrears_Overdue.mono
   | exact daycount_Weight.mono _ _ _
   | apply loan_Check.mono
   | exact LeO.none _
   | refine LeO.ite ?_ ?_
   | refine LeO.bind ?_ (fun _ => ?_)
def arrears_Penalty.T7 : Bool × List (List Nat × List Nat) := (true, [([], []), ([], []), ([0, 1], [0, 1]), ([], []), ([3], [3]), ([4], [4]), ([2, 5, 2], [2, 5]), ([], []), ([7, 6], [7]), ([6, 8, 8], [6, 8]), ([9], [9]), ([10], [10]), ([10], [10]), ([], []), ([13, 11, 9, 0, 1, 2, 3, 4, 5, 6, 7, 8, 9, 10, 11, 13], [11, 13]), ([12, 14, 0, 1, 2, 3, 4, 5, 6, 7, 8, 9, 10, 11, 12, 13, 14], [12])])
def arrears_Penalty.B7 : List Nat := [0, 0, 3, 0, 8, 24, 63, 0, 255, 511, 1023, 2047, 2047, 0, 12287, 32767]
theorem arrears_Penalty.tab7 : rtab .any (opsOf Tryd.f9 7) = arrears_Penalty.T7 := by kernel_rfl
theorem arrears_Penalty.bits7 : waitsOk arrears_Penalty.T7.2 arrears_Penalty.B7 = true := by kernel_rfl
set_option maxHeartbeats 8000000 in
set_option maxRecDepth 100000 in
theorem arrears_Penalty.calls (k : Nat) (a0_0 a0_1 a0_2 a0_3 a0_4 a0_5 a0_6 a0_7 a0_8 a0_9 a0_10 a0_11 a0_12 a0_13 a0_14 a0_15 a0_16 a0_17 a0_18 a0_19 a0_20 : Int) (a0_21 a0_22 : ByteArray) (A0_23 : Option Addr) (c0_23 : Nat) (l0_23 : List (S67)) (A0_24 : Option Addr) (c0_24 : Nat) (l0_24 : List (S70)) (a1 a2 r1 r2 r3 : Int) (w : World) (hr0_23 : Kd.C k67 w A0_23 l0_23.length l0_23) (hc0_23 : l0_23.length ≤ c0_23) (hr0_24 : Kd.C k70 w A0_24 l0_24.length l0_24) (hc0_24 : l0_24.length ≤ c0_24) (h : arrears_Penalty.f k a0_0 a0_1 a0_2 a0_3 a0_4 a0_5 a0_6 a0_7 a0_8 a0_9 a0_10 a0_11 a0_12 a0_13 a0_14 a0_15 a0_16 a0_17 a0_18 a0_19 a0_20 a0_21 a0_22 l0_23 l0_24 a1 a2 = some (r1, r2, r3)) :
  Calls Tryd.prog 9 #[.agg #[.int .i64 a0_0, .int .i64 a0_1, .int .i64 a0_2, .int .i64 a0_3, .int .i64 a0_4, .int .i64 a0_5, .int .i64 a0_6, .int .i64 a0_7, .int .i64 a0_8, .int .i64 a0_9, .int .i64 a0_10, .int .i64 a0_11, .int .i64 a0_12, .int .i64 a0_13, .int .i64 a0_14, .int .i64 a0_15, .int .i64 a0_16, .int .i64 a0_17, .int .i64 a0_18, .int .i64 a0_19, .int .i64 a0_20, .string a0_21, .string a0_22, .slice A0_23 l0_23.length c0_23, .slice A0_24 l0_24.length c0_24], .int .i64 a1, .int .i64 a2] w fun e w' => e = .returned (.tuple #[.agg #[.int .i64 r1, .int .u64 r2], .int .i64 r3]) ∧ Below w.heap.size w w' := by
 have hu27 := Tryd.underlying27
 have hu32 := Tryd.underlying32
 have HR0_23 := am_ hr0_23
 have HC0_23 := am_ hc0_23
 clear hr0_23 hc0_23
 have HR0_24 := am_ hr0_24
 have HC0_24 := am_ hc0_24
 clear hr0_24 hc0_24
 have HB := am_ (Below.refl w.heap.size w)
 have H := h
 clear h
 unfold arrears_Penalty.f at H
 have HC4 := am_ H
 clear H
 go_enter Tryd.func9, Tryd.ntmps9
 go_upto_region 1 with (first | ((with_reducible refine gate_load_ (t := 27) rfl ?_); refine ld_ (t := 27) Tryd.underlying27 rfl rfl rfl (by (repeat (first | (with_reducible first | refine blk_drewN ?_ _ | refine blk_drew ?_ | refine blk_alloc ?_ _) | refine blk_far ?_ NB201_202.out _ | refine blk_far ?_ NB201_206.out _ | refine blk_far ?_ NB201_214.out _ | refine blk_set ?_ _ _)); (with_reducible first | exact BK201.out)) rfl (by kernel_rfl) ?_) | ((with_reducible refine gate_load_ (t := 27) rfl ?_); refine ldgA_ (t := 27) Tryd.underlying27 rfl (by rfl) rfl (by (repeat (first | (with_reducible first | refine blk_drewN ?_ _ | refine blk_drew ?_ | refine blk_alloc ?_ _) | refine blk_far ?_ NB201_202.out _ | refine blk_far ?_ NB201_206.out _ | refine blk_far ?_ NB201_214.out _ | refine blk_set ?_ _ _)); (with_reducible first | exact BK201.out)) rfl (by kernel_rfl) ?_) | ((with_reducible refine gate_dst (N := 3) rfl ?_); refine be_ (N := 3) (cs := #[.int .i64 a0_0, .int .i64 a0_1, .int .i64 a0_2, .int .i64 a0_3, .int .i64 a0_4, .int .i64 a0_5, .int .i64 a0_6, .int .i64 a0_7, .int .i64 a0_8, .int .i64 a0_9, .int .i64 a0_10, .int .i64 a0_11, .int .i64 a0_12, .int .i64 a0_13, .int .i64 a0_14, .int .i64 a0_15, .int .i64 a0_16, .int .i64 a0_17, .int .i64 a0_18, .int .i64 a0_19, .int .i64 a0_20, .string a0_21, .string a0_22, .slice A0_23 l0_23.length c0_23, .slice A0_24 l0_24.length c0_24]) (t := 27) ?_; intro gb201 hg w5 hbox hb; have BK201 := am_ (hbox); have GE201 := am_ (bz_ hg (qb_ HB.out) : w.heap.size ≤ gb201); replace HB := am_ (below_step (qb_ HB.out) hb); clear hb hbox hg) | ((with_reducible refine gate_dst (N := 6) rfl ?_); refine be_ (N := 6) (cs := #[.int .i64 0, .int .u64 0]) (t := 32) ?_; intro gb202 hg w6 hbox hb; have BK202 := am_ (hbox); have GE202 := am_ (bz_ hg (qb1_ GE201.out HB.out) : w.heap.size ≤ gb202); replace HB := am_ (below_step (qb1_ GE201.out HB.out) hb); have NB201_202 := am_ (nl_ hg (qk_ BK201.out) : gb201 ≠ gb202); have NB202_201 := am_ (ng_ hg (qk_ BK201.out) : gb202 ≠ gb201); replace BK201 := am_ (blk_below (qk_ BK201.out) hb); clear hb hbox hg))
 (try simp only [Act.put, List.setIfInBounds_toArray, List.set_cons_zero, List.set_cons_succ])
 go_cut [35] (fun v35 wc => ∃ (kq : Nat) (x35_3 : Bool), v35 = .bool x35_3 ∧ Aside0 (arrears_Penalty.j0 kq a1 a2 x35_3 a0_0 a0_1 a0_2 a0_3 a0_4 a0_5 a0_6 a0_7 a0_8 a0_9 a0_10 a0_11 a0_12 a0_13 a0_14 a0_15 a0_16 a0_17 a0_18 a0_19 a0_20 a0_21 a0_22 l0_23 l0_24 = some (r1, r2, r3)) ∧ Aside0 (kq ≤ k) ∧ Aside0 (wc.heap[gb201]? = some (.cells #[.int .i64 a0_0, .int .i64 a0_1, .int .i64 a0_2, .int .i64 a0_3, .int .i64 a0_4, .int .i64 a0_5, .int .i64 a0_6, .int .i64 a0_7, .int .i64 a0_8, .int .i64 a0_9, .int .i64 a0_10, .int .i64 a0_11, .int .i64 a0_12, .int .i64 a0_13, .int .i64 a0_14, .int .i64 a0_15, .int .i64 a0_16, .int .i64 a0_17, .int .i64 a0_18, .int .i64 a0_19, .int .i64 a0_20, .string a0_21, .string a0_22, (.slice A0_23 l0_23.length c0_23), (.slice A0_24 l0_24.length c0_24)] 27 (0, 0))) ∧ Aside0 (wc.heap[gb202]? = some (.cells #[.int .i64 0, .int .u64 0] 32 (0, 0))) ∧ Aside0 (Below w.heap.size w wc))
 case first =>
  have H := HC4.out
  clear HC4
  replace H := Option.bind_eq_some_iff.mp H
  obtain ⟨t203, A70, H⟩ := H
  (try dsimp only at H)
  have A7 := am_ A70
  clear A70
  by_cases c8 : t203 = 0
  ·rw [if_pos c8] at H
   have c8b0 : (t203 == 0) = true := beq_iff_eq.mpr c8
   have c8b1 : (t203 != 0) = false := bne_eq_false_iff_eq.mpr c8
   clear c8
   (first | rw [c8b0] | (simp only [i64_w, i32_w]; rw [c8b0]) | skip)
   replace H := Option.bind_eq_some_iff.mp H
   obtain ⟨t204, A90, H⟩ := H
   (try dsimp only at H)
   have A9 := am_ A90
   clear A90
   by_cases c10 : t204 = true
   ·subst c10
    rw [if_pos rfl] at H
    replace H := Option.bind_eq_some_iff.mp H
    obtain ⟨t205, A110, H⟩ := H
    (try dsimp only at H)
    have A11 := am_ A110
    clear A110
    by_cases c12 : t205 = true
    ·subst c12
     rw [if_pos rfl] at H
     by_cases c13 : a1 > a2
     ·rw [if_pos c13] at H
      have c13b0 : decide (a2 < a1) = true := decide_eq_true c13
      clear c13
      have H' := am_ H
      clear H
      have hnb14 := NB201_202.out
      have hnc14 := NB202_201.out
      obtain ⟨Z15_0, Z15_1, Z15_2, Z15_3, Z15_4, Z15_5, Z15_6, Z15_7, Z15_8, Z15_9, Z15_10, Z15_11, Z15_12, Z15_13, Z15_14, Z15_15, Z15_16, Z15_17, Z15_18, Z15_19, Z15_20, Z15_21, Z15_22, Z15_23, Z15_24, Y15_0, Y15_1, Y15_2, Y15_3, Y15_4, Y15_5, Y15_6, Y15_7, Y15_8, Y15_9, Y15_10, Y15_11, Y15_12, Y15_13, Y15_14, Y15_15, Y15_16, Y15_17, Y15_18, Y15_19, Y15_20, Y15_21, Y15_22, Y15_23, Y15_24⟩ := cz25_ BK201.out
      go_wp2_with (first | ((with_reducible refine gate_load_ (t := 27) rfl ?_); refine ld_ (t := 27) Tryd.underlying27 rfl rfl rfl (by (repeat (first | (with_reducible first | refine blk_drewN ?_ _ | refine blk_drew ?_ | refine blk_alloc ?_ _) | refine blk_far ?_ NB201_202.out _ | refine blk_far ?_ NB201_206.out _ | refine blk_far ?_ NB201_214.out _ | refine blk_set ?_ _ _)); (with_reducible first | exact BK201.out)) rfl (by kernel_rfl) ?_) | ((with_reducible refine gate_load_ (t := 27) rfl ?_); refine ldgA_ (t := 27) Tryd.underlying27 rfl (by rfl) rfl (by (repeat (first | (with_reducible first | refine blk_drewN ?_ _ | refine blk_drew ?_ | refine blk_alloc ?_ _) | refine blk_far ?_ NB201_202.out _ | refine blk_far ?_ NB201_206.out _ | refine blk_far ?_ NB201_214.out _ | refine blk_set ?_ _ _)); (with_reducible first | exact BK201.out)) rfl (by kernel_rfl) ?_) | ((with_reducible refine gate_callee (f := 13) rfl ?_); refine goesL_ (some 13) rfl rfl Tryd.func13 (by kernel_rfl) rfl #[.agg #[.int .i64 a0_0, .int .i64 a0_1, .int .i64 a0_2, .int .i64 a0_3, .int .i64 a0_4, .int .i64 a0_5, .int .i64 a0_6, .int .i64 a0_7, .int .i64 a0_8, .int .i64 a0_9, .int .i64 a0_10, .int .i64 a0_11, .int .i64 a0_12, .int .i64 a0_13, .int .i64 a0_14, .int .i64 a0_15, .int .i64 a0_16, .int .i64 a0_17, .int .i64 a0_18, .int .i64 a0_19, .int .i64 a0_20, .string a0_21, .string a0_22, .slice A0_23 l0_23.length c0_23, .slice A0_24 l0_24.length c0_24]] rfl ql_ ?_; (with_reducible refine (loan_Check.calls k a0_0 a0_1 a0_2 a0_3 a0_4 a0_5 a0_6 a0_7 a0_8 a0_9 a0_10 a0_11 a0_12 a0_13 a0_14 a0_15 a0_16 a0_17 a0_18 a0_19 a0_20 a0_21 a0_22 _ _ l0_23 _ _ l0_24 t203 _ ?side1 ?side2 ?side3 ?side4 A7.out).mono ?_); (case side1 => repeat (first | exact (Kd.C_below HR0_23.out HB.out) | (with_reducible refine Kd.C_alloc ?_ _) | (with_reducible refine Kd.C_drewN ?_ _) | (with_reducible refine Kd.C_drew ?_))); (case side2 => exact HC0_23.out); (case side3 => repeat (first | exact (Kd.C_below HR0_24.out HB.out) | (with_reducible refine Kd.C_alloc ?_ _) | (with_reducible refine Kd.C_drewN ?_ _) | (with_reducible refine Kd.C_drew ?_))); (case side4 => exact HC0_24.out); rintro e w16 ⟨rfl, hb⟩; refine ⟨_, rfl, ?_⟩; replace BK201 := am_ (blk_below (qk_ BK201.out) hb); replace BK202 := am_ (blk_below (qk_ BK202.out) hb); replace HB := am_ (below_step (qb2_ GE201.out GE202.out HB.out) hb); (try clear hb)) | (go_at_call 26; (with_reducible refine (arrears_day.calls a1 true _ A9.out).mono ?_); rintro e w' ⟨rfl, ⟨nd, rfl⟩⟩) | (go_at_call 26; (with_reducible refine (arrears_day.calls a2 true _ A11.out).mono ?_); rintro e w' ⟨rfl, ⟨nd, rfl⟩⟩))
      go_meet
      case rel => exact ⟨_, (true), qs_, H', ⟨qo_⟩, ⟨qk_ BK201.out⟩, ⟨qk_ BK202.out⟩, ⟨qb2_ GE201.out GE202.out HB.out⟩⟩
     ·rw [if_neg c13] at H
      have c13b0 : decide (a2 < a1) = false := decide_eq_false c13
      clear c13
      have H' := am_ H
      clear H
      have hnb17 := NB201_202.out
      have hnc17 := NB202_201.out
      obtain ⟨Z18_0, Z18_1, Z18_2, Z18_3, Z18_4, Z18_5, Z18_6, Z18_7, Z18_8, Z18_9, Z18_10, Z18_11, Z18_12, Z18_13, Z18_14, Z18_15, Z18_16, Z18_17, Z18_18, Z18_19, Z18_20, Z18_21, Z18_22, Z18_23, Z18_24, Y18_0, Y18_1, Y18_2, Y18_3, Y18_4, Y18_5, Y18_6, Y18_7, Y18_8, Y18_9, Y18_10, Y18_11, Y18_12, Y18_13, Y18_14, Y18_15, Y18_16, Y18_17, Y18_18, Y18_19, Y18_20, Y18_21, Y18_22, Y18_23, Y18_24⟩ := cz25_ BK201.out
      go_wp2_with (first | ((with_reducible refine gate_load_ (t := 27) rfl ?_); refine ld_ (t := 27) Tryd.underlying27 rfl rfl rfl (by (repeat (first | (with_reducible first | refine blk_drewN ?_ _ | refine blk_drew ?_ | refine blk_alloc ?_ _) | refine blk_far ?_ NB201_202.out _ | refine blk_far ?_ NB201_206.out _ | refine blk_far ?_ NB201_214.out _ | refine blk_set ?_ _ _)); (with_reducible first | exact BK201.out)) rfl (by kernel_rfl) ?_) | ((with_reducible refine gate_load_ (t := 27) rfl ?_); refine ldgA_ (t := 27) Tryd.underlying27 rfl (by rfl) rfl (by (repeat (first | (with_reducible first | refine blk_drewN ?_ _ | refine blk_drew ?_ | refine blk_alloc ?_ _) | refine blk_far ?_ NB201_202.out _ | refine blk_far ?_ NB201_206.out _ | refine blk_far ?_ NB201_214.out _ | refine blk_set ?_ _ _)); (with_reducible first | exact BK201.out)) rfl (by kernel_rfl) ?_) | ((with_reducible refine gate_callee (f := 13) rfl ?_); refine goesL_ (some 13) rfl rfl Tryd.func13 (by kernel_rfl) rfl #[.agg #[.int .i64 a0_0, .int .i64 a0_1, .int .i64 a0_2, .int .i64 a0_3, .int .i64 a0_4, .int .i64 a0_5, .int .i64 a0_6, .int .i64 a0_7, .int .i64 a0_8, .int .i64 a0_9, .int .i64 a0_10, .int .i64 a0_11, .int .i64 a0_12, .int .i64 a0_13, .int .i64 a0_14, .int .i64 a0_15, .int .i64 a0_16, .int .i64 a0_17, .int .i64 a0_18, .int .i64 a0_19, .int .i64 a0_20, .string a0_21, .string a0_22, .slice A0_23 l0_23.length c0_23, .slice A0_24 l0_24.length c0_24]] rfl ql_ ?_; (with_reducible refine (loan_Check.calls k a0_0 a0_1 a0_2 a0_3 a0_4 a0_5 a0_6 a0_7 a0_8 a0_9 a0_10 a0_11 a0_12 a0_13 a0_14 a0_15 a0_16 a0_17 a0_18 a0_19 a0_20 a0_21 a0_22 _ _ l0_23 _ _ l0_24 t203 _ ?side1 ?side2 ?side3 ?side4 A7.out).mono ?_); (case side1 => repeat (first | exact (Kd.C_below HR0_23.out HB.out) | (with_reducible refine Kd.C_alloc ?_ _) | (with_reducible refine Kd.C_drewN ?_ _) | (with_reducible refine Kd.C_drew ?_))); (case side2 => exact HC0_23.out); (case side3 => repeat (first | exact (Kd.C_below HR0_24.out HB.out) | (with_reducible refine Kd.C_alloc ?_ _) | (with_reducible refine Kd.C_drewN ?_ _) | (with_reducible refine Kd.C_drew ?_))); (case side4 => exact HC0_24.out); rintro e w19 ⟨rfl, hb⟩; refine ⟨_, rfl, ?_⟩; replace BK201 := am_ (blk_below (qk_ BK201.out) hb); replace BK202 := am_ (blk_below (qk_ BK202.out) hb); replace HB := am_ (below_step (qb2_ GE201.out GE202.out HB.out) hb); (try clear hb)) | (go_at_call 26; (with_reducible refine (arrears_day.calls a1 true _ A9.out).mono ?_); rintro e w' ⟨rfl, ⟨nd, rfl⟩⟩) | (go_at_call 26; (with_reducible refine (arrears_day.calls a2 true _ A11.out).mono ?_); rintro e w' ⟨rfl, ⟨nd, rfl⟩⟩))
      go_meet
      case rel => exact ⟨_, (decide ((wrap64 (a2 - a1)) > 4000)), qs_, H', ⟨qo_⟩, ⟨qk_ BK201.out⟩, ⟨qk_ BK202.out⟩, ⟨qb2_ GE201.out GE202.out HB.out⟩⟩
    ·replace c12 := Bool.eq_false_iff.mpr c12
     subst c12
     rw [if_neg (show ¬ (false = true) by decide)] at H
     have H' := am_ H
     clear H
     have hnb20 := NB201_202.out
     have hnc20 := NB202_201.out
     obtain ⟨Z21_0, Z21_1, Z21_2, Z21_3, Z21_4, Z21_5, Z21_6, Z21_7, Z21_8, Z21_9, Z21_10, Z21_11, Z21_12, Z21_13, Z21_14, Z21_15, Z21_16, Z21_17, Z21_18, Z21_19, Z21_20, Z21_21, Z21_22, Z21_23, Z21_24, Y21_0, Y21_1, Y21_2, Y21_3, Y21_4, Y21_5, Y21_6, Y21_7, Y21_8, Y21_9, Y21_10, Y21_11, Y21_12, Y21_13, Y21_14, Y21_15, Y21_16, Y21_17, Y21_18, Y21_19, Y21_20, Y21_21, Y21_22, Y21_23, Y21_24⟩ := cz25_ BK201.out
     go_wp2_with (first | ((with_reducible refine gate_load_ (t := 27) rfl ?_); refine ld_ (t := 27) Tryd.underlying27 rfl rfl rfl (by (repeat (first | (with_reducible first | refine blk_drewN ?_ _ | refine blk_drew ?_ | refine blk_alloc ?_ _) | refine blk_far ?_ NB201_202.out _ | refine blk_far ?_ NB201_206.out _ | refine blk_far ?_ NB201_214.out _ | refine blk_set ?_ _ _)); (with_reducible first | exact BK201.out)) rfl (by kernel_rfl) ?_) | ((with_reducible refine gate_load_ (t := 27) rfl ?_); refine ldgA_ (t := 27) Tryd.underlying27 rfl (by rfl) rfl (by (repeat (first | (with_reducible first | refine blk_drewN ?_ _ | refine blk_drew ?_ | refine blk_alloc ?_ _) | refine blk_far ?_ NB201_202.out _ | refine blk_far ?_ NB201_206.out _ | refine blk_far ?_ NB201_214.out _ | refine blk_set ?_ _ _)); (with_reducible first | exact BK201.out)) rfl (by kernel_rfl) ?_) | ((with_reducible refine gate_callee (f := 13) rfl ?_); refine goesL_ (some 13) rfl rfl Tryd.func13 (by kernel_rfl) rfl #[.agg #[.int .i64 a0_0, .int .i64 a0_1, .int .i64 a0_2, .int .i64 a0_3, .int .i64 a0_4, .int .i64 a0_5, .int .i64 a0_6, .int .i64 a0_7, .int .i64 a0_8, .int .i64 a0_9, .int .i64 a0_10, .int .i64 a0_11, .int .i64 a0_12, .int .i64 a0_13, .int .i64 a0_14, .int .i64 a0_15, .int .i64 a0_16, .int .i64 a0_17, .int .i64 a0_18, .int .i64 a0_19, .int .i64 a0_20, .string a0_21, .string a0_22, .slice A0_23 l0_23.length c0_23, .slice A0_24 l0_24.length c0_24]] rfl ql_ ?_; (with_reducible refine (loan_Check.calls k a0_0 a0_1 a0_2 a0_3 a0_4 a0_5 a0_6 a0_7 a0_8 a0_9 a0_10 a0_11 a0_12 a0_13 a0_14 a0_15 a0_16 a0_17 a0_18 a0_19 a0_20 a0_21 a0_22 _ _ l0_23 _ _ l0_24 t203 _ ?side1 ?side2 ?side3 ?side4 A7.out).mono ?_); (case side1 => repeat (first | exact (Kd.C_below HR0_23.out HB.out) | (with_reducible refine Kd.C_alloc ?_ _) | (with_reducible refine Kd.C_drewN ?_ _) | (with_reducible refine Kd.C_drew ?_))); (case side2 => exact HC0_23.out); (case side3 => repeat (first | exact (Kd.C_below HR0_24.out HB.out) | (with_reducible refine Kd.C_alloc ?_ _) | (with_reducible refine Kd.C_drewN ?_ _) | (with_reducible refine Kd.C_drew ?_))); (case side4 => exact HC0_24.out); rintro e w22 ⟨rfl, hb⟩; refine ⟨_, rfl, ?_⟩; replace BK201 := am_ (blk_below (qk_ BK201.out) hb); replace BK202 := am_ (blk_below (qk_ BK202.out) hb); replace HB := am_ (below_step (qb2_ GE201.out GE202.out HB.out) hb); (try clear hb)) | (go_at_call 26; (with_reducible refine (arrears_day.calls a1 true _ A9.out).mono ?_); rintro e w' ⟨rfl, ⟨nd, rfl⟩⟩) | (go_at_call 26; (with_reducible refine (arrears_day.calls a2 false _ A11.out).mono ?_); rintro e w' ⟨rfl, ⟨nd, rfl⟩⟩))
     go_meet
     case rel => exact ⟨_, (true), qs_, H', ⟨qo_⟩, ⟨qk_ BK201.out⟩, ⟨qk_ BK202.out⟩, ⟨qb2_ GE201.out GE202.out HB.out⟩⟩
   ·replace c10 := Bool.eq_false_iff.mpr c10
    subst c10
    rw [if_neg (show ¬ (false = true) by decide)] at H
    have H' := am_ H
    clear H
    have hnb23 := NB201_202.out
    have hnc23 := NB202_201.out
    obtain ⟨Z24_0, Z24_1, Z24_2, Z24_3, Z24_4, Z24_5, Z24_6, Z24_7, Z24_8, Z24_9, Z24_10, Z24_11, Z24_12, Z24_13, Z24_14, Z24_15, Z24_16, Z24_17, Z24_18, Z24_19, Z24_20, Z24_21, Z24_22, Z24_23, Z24_24, Y24_0, Y24_1, Y24_2, Y24_3, Y24_4, Y24_5, Y24_6, Y24_7, Y24_8, Y24_9, Y24_10, Y24_11, Y24_12, Y24_13, Y24_14, Y24_15, Y24_16, Y24_17, Y24_18, Y24_19, Y24_20, Y24_21, Y24_22, Y24_23, Y24_24⟩ := cz25_ BK201.out
    go_wp2_with (first | ((with_reducible refine gate_load_ (t := 27) rfl ?_); refine ld_ (t := 27) Tryd.underlying27 rfl rfl rfl (by (repeat (first | (with_reducible first | refine blk_drewN ?_ _ | refine blk_drew ?_ | refine blk_alloc ?_ _) | refine blk_far ?_ NB201_202.out _ | refine blk_far ?_ NB201_206.out _ | refine blk_far ?_ NB201_214.out _ | refine blk_set ?_ _ _)); (with_reducible first | exact BK201.out)) rfl (by kernel_rfl) ?_) | ((with_reducible refine gate_load_ (t := 27) rfl ?_); refine ldgA_ (t := 27) Tryd.underlying27 rfl (by rfl) rfl (by (repeat (first | (with_reducible first | refine blk_drewN ?_ _ | refine blk_drew ?_ | refine blk_alloc ?_ _) | refine blk_far ?_ NB201_202.out _ | refine blk_far ?_ NB201_206.out _ | refine blk_far ?_ NB201_214.out _ | refine blk_set ?_ _ _)); (with_reducible first | exact BK201.out)) rfl (by kernel_rfl) ?_) | ((with_reducible refine gate_callee (f := 13) rfl ?_); refine goesL_ (some 13) rfl rfl Tryd.func13 (by kernel_rfl) rfl #[.agg #[.int .i64 a0_0, .int .i64 a0_1, .int .i64 a0_2, .int .i64 a0_3, .int .i64 a0_4, .int .i64 a0_5, .int .i64 a0_6, .int .i64 a0_7, .int .i64 a0_8, .int .i64 a0_9, .int .i64 a0_10, .int .i64 a0_11, .int .i64 a0_12, .int .i64 a0_13, .int .i64 a0_14, .int .i64 a0_15, .int .i64 a0_16, .int .i64 a0_17, .int .i64 a0_18, .int .i64 a0_19, .int .i64 a0_20, .string a0_21, .string a0_22, .slice A0_23 l0_23.length c0_23, .slice A0_24 l0_24.length c0_24]] rfl ql_ ?_; (with_reducible refine (loan_Check.calls k a0_0 a0_1 a0_2 a0_3 a0_4 a0_5 a0_6 a0_7 a0_8 a0_9 a0_10 a0_11 a0_12 a0_13 a0_14 a0_15 a0_16 a0_17 a0_18 a0_19 a0_20 a0_21 a0_22 _ _ l0_23 _ _ l0_24 t203 _ ?side1 ?side2 ?side3 ?side4 A7.out).mono ?_); (case side1 => repeat (first | exact (Kd.C_below HR0_23.out HB.out) | (with_reducible refine Kd.C_alloc ?_ _) | (with_reducible refine Kd.C_drewN ?_ _) | (with_reducible refine Kd.C_drew ?_))); (case side2 => exact HC0_23.out); (case side3 => repeat (first | exact (Kd.C_below HR0_24.out HB.out) | (with_reducible refine Kd.C_alloc ?_ _) | (with_reducible refine Kd.C_drewN ?_ _) | (with_reducible refine Kd.C_drew ?_))); (case side4 => exact HC0_24.out); rintro e w25 ⟨rfl, hb⟩; refine ⟨_, rfl, ?_⟩; replace BK201 := am_ (blk_below (qk_ BK201.out) hb); replace BK202 := am_ (blk_below (qk_ BK202.out) hb); replace HB := am_ (below_step (qb2_ GE201.out GE202.out HB.out) hb); (try clear hb)) | (go_at_call 26; (with_reducible refine (arrears_day.calls a1 false _ A9.out).mono ?_); rintro e w' ⟨rfl, ⟨nd, rfl⟩⟩))
    go_meet
    case rel => exact ⟨_, (true), qs_, H', ⟨qo_⟩, ⟨qk_ BK201.out⟩, ⟨qk_ BK202.out⟩, ⟨qb2_ GE201.out GE202.out HB.out⟩⟩
  ·rw [if_neg c8] at H
   have c8b0 : (t203 == 0) = false := beq_eq_false_iff_ne.mpr c8
   have c8b1 : (t203 != 0) = true := bne_iff_ne.mpr c8
   (first | rw [c8b0] | (simp only [i64_w, i32_w]; rw [c8b0]) | skip)
   have H' := am_ H
   clear H
   have hnb26 := NB201_202.out
   have hnc26 := NB202_201.out
   obtain ⟨Z27_0, Z27_1, Z27_2, Z27_3, Z27_4, Z27_5, Z27_6, Z27_7, Z27_8, Z27_9, Z27_10, Z27_11, Z27_12, Z27_13, Z27_14, Z27_15, Z27_16, Z27_17, Z27_18, Z27_19, Z27_20, Z27_21, Z27_22, Z27_23, Z27_24, Y27_0, Y27_1, Y27_2, Y27_3, Y27_4, Y27_5, Y27_6, Y27_7, Y27_8, Y27_9, Y27_10, Y27_11, Y27_12, Y27_13, Y27_14, Y27_15, Y27_16, Y27_17, Y27_18, Y27_19, Y27_20, Y27_21, Y27_22, Y27_23, Y27_24⟩ := cz25_ BK201.out
   go_wp2_with (first | ((with_reducible refine gate_load_ (t := 27) rfl ?_); refine ld_ (t := 27) Tryd.underlying27 rfl rfl rfl (by (repeat (first | (with_reducible first | refine blk_drewN ?_ _ | refine blk_drew ?_ | refine blk_alloc ?_ _) | refine blk_far ?_ NB201_202.out _ | refine blk_far ?_ NB201_206.out _ | refine blk_far ?_ NB201_214.out _ | refine blk_set ?_ _ _)); (with_reducible first | exact BK201.out)) rfl (by kernel_rfl) ?_) | ((with_reducible refine gate_load_ (t := 27) rfl ?_); refine ldgA_ (t := 27) Tryd.underlying27 rfl (by rfl) rfl (by (repeat (first | (with_reducible first | refine blk_drewN ?_ _ | refine blk_drew ?_ | refine blk_alloc ?_ _) | refine blk_far ?_ NB201_202.out _ | refine blk_far ?_ NB201_206.out _ | refine blk_far ?_ NB201_214.out _ | refine blk_set ?_ _ _)); (with_reducible first | exact BK201.out)) rfl (by kernel_rfl) ?_) | ((with_reducible refine gate_callee (f := 13) rfl ?_); refine goesL_ (some 13) rfl rfl Tryd.func13 (by kernel_rfl) rfl #[.agg #[.int .i64 a0_0, .int .i64 a0_1, .int .i64 a0_2, .int .i64 a0_3, .int .i64 a0_4, .int .i64 a0_5, .int .i64 a0_6, .int .i64 a0_7, .int .i64 a0_8, .int .i64 a0_9, .int .i64 a0_10, .int .i64 a0_11, .int .i64 a0_12, .int .i64 a0_13, .int .i64 a0_14, .int .i64 a0_15, .int .i64 a0_16, .int .i64 a0_17, .int .i64 a0_18, .int .i64 a0_19, .int .i64 a0_20, .string a0_21, .string a0_22, .slice A0_23 l0_23.length c0_23, .slice A0_24 l0_24.length c0_24]] rfl ql_ ?_; (with_reducible refine (loan_Check.calls k a0_0 a0_1 a0_2 a0_3 a0_4 a0_5 a0_6 a0_7 a0_8 a0_9 a0_10 a0_11 a0_12 a0_13 a0_14 a0_15 a0_16 a0_17 a0_18 a0_19 a0_20 a0_21 a0_22 _ _ l0_23 _ _ l0_24 t203 _ ?side1 ?side2 ?side3 ?side4 A7.out).mono ?_); (case side1 => repeat (first | exact (Kd.C_below HR0_23.out HB.out) | (with_reducible refine Kd.C_alloc ?_ _) | (with_reducible refine Kd.C_drewN ?_ _) | (with_reducible refine Kd.C_drew ?_))); (case side2 => exact HC0_23.out); (case side3 => repeat (first | exact (Kd.C_below HR0_24.out HB.out) | (with_reducible refine Kd.C_alloc ?_ _) | (with_reducible refine Kd.C_drewN ?_ _) | (with_reducible refine Kd.C_drew ?_))); (case side4 => exact HC0_24.out); rintro e w28 ⟨rfl, hb⟩; refine ⟨_, rfl, ?_⟩; replace BK201 := am_ (blk_below (qk_ BK201.out) hb); replace BK202 := am_ (blk_below (qk_ BK202.out) hb); replace HB := am_ (below_step (qb2_ GE201.out GE202.out HB.out) hb); (try clear hb)))
   go_meet
   case rel => exact ⟨_, (true), qs_, H', ⟨qo_⟩, ⟨qk_ BK201.out⟩, ⟨qk_ BK202.out⟩, ⟨qb2_ GE201.out GE202.out HB.out⟩⟩
 case rest =>
  clear HC4
  try clear c1
  try clear c2
  try clear p2
  try clear p6
  try clear c8
  try clear c8b0
  try clear c8b1
  try clear c9
  try clear c10
  try clear c12
  try clear c13
  try clear c13b0
  try clear c14
  try clear c17
  try clear c20
  try clear c23
  try clear c26
  (try clear Z15_0 Z15_1 Z15_10 Z15_11 Z15_12 Z15_13 Z15_14 Z15_15 Z15_16 Z15_17 Z15_18 Z15_19 Z15_2 Z15_20 Z15_21 Z15_22 Z15_23 Z15_24 Z15_3 Z15_4 Z15_5 Z15_6 Z15_7 Z15_8 Z15_9 Y15_0 Y15_1 Y15_10 Y15_11 Y15_12 Y15_13 Y15_14 Y15_15 Y15_16 Y15_17 Y15_18 Y15_19 Y15_2 Y15_20 Y15_21 Y15_22 Y15_23 Y15_24 Y15_3 Y15_4 Y15_5 Y15_6 Y15_7 Y15_8 Y15_9)
  (try clear Z18_0 Z18_1 Z18_10 Z18_11 Z18_12 Z18_13 Z18_14 Z18_15 Z18_16 Z18_17 Z18_18 Z18_19 Z18_2 Z18_20 Z18_21 Z18_22 Z18_23 Z18_24 Z18_3 Z18_4 Z18_5 Z18_6 Z18_7 Z18_8 Z18_9 Y18_0 Y18_1 Y18_10 Y18_11 Y18_12 Y18_13 Y18_14 Y18_15 Y18_16 Y18_17 Y18_18 Y18_19 Y18_2 Y18_20 Y18_21 Y18_22 Y18_23 Y18_24 Y18_3 Y18_4 Y18_5 Y18_6 Y18_7 Y18_8 Y18_9)
  (try clear Z21_0 Z21_1 Z21_10 Z21_11 Z21_12 Z21_13 Z21_14 Z21_15 Z21_16 Z21_17 Z21_18 Z21_19 Z21_2 Z21_20 Z21_21 Z21_22 Z21_23 Z21_24 Z21_3 Z21_4 Z21_5 Z21_6 Z21_7 Z21_8 Z21_9 Y21_0 Y21_1 Y21_10 Y21_11 Y21_12 Y21_13 Y21_14 Y21_15 Y21_16 Y21_17 Y21_18 Y21_19 Y21_2 Y21_20 Y21_21 Y21_22 Y21_23 Y21_24 Y21_3 Y21_4 Y21_5 Y21_6 Y21_7 Y21_8 Y21_9)
  (try clear Z24_0 Z24_1 Z24_10 Z24_11 Z24_12 Z24_13 Z24_14 Z24_15 Z24_16 Z24_17 Z24_18 Z24_19 Z24_2 Z24_20 Z24_21 Z24_22 Z24_23 Z24_24 Z24_3 Z24_4 Z24_5 Z24_6 Z24_7 Z24_8 Z24_9 Y24_0 Y24_1 Y24_10 Y24_11 Y24_12 Y24_13 Y24_14 Y24_15 Y24_16 Y24_17 Y24_18 Y24_19 Y24_2 Y24_20 Y24_21 Y24_22 Y24_23 Y24_24 Y24_3 Y24_4 Y24_5 Y24_6 Y24_7 Y24_8 Y24_9)
  (try clear Z27_0 Z27_1 Z27_10 Z27_11 Z27_12 Z27_13 Z27_14 Z27_15 Z27_16 Z27_17 Z27_18 Z27_19 Z27_2 Z27_20 Z27_21 Z27_22 Z27_23 Z27_24 Z27_3 Z27_4 Z27_5 Z27_6 Z27_7 Z27_8 Z27_9 Y27_0 Y27_1 Y27_10 Y27_11 Y27_12 Y27_13 Y27_14 Y27_15 Y27_16 Y27_17 Y27_18 Y27_19 Y27_2 Y27_20 Y27_21 Y27_22 Y27_23 Y27_24 Y27_3 Y27_4 Y27_5 Y27_6 Y27_7 Y27_8 Y27_9)
  obtain ⟨kq, x35_3, rfl, HA, HJ3, BK201, BK202, HB⟩ := hcut
  cases kq with
  | zero => exact absurd HA.out (by simp [arrears_Penalty.j0])
  | succ kj3 =>
   have H := HA.out
   clear HA
   simp only [arrears_Penalty.j0] at H
   by_cases c29 : x35_3 = true
   ·subst c29
    rw [if_pos rfl] at H
    simp only [Option.some.injEq, Prod.mk.injEq] at H
    obtain ⟨rfl, rfl, rfl⟩ := H
    have hnb30 := NB202_201.out
    have hnc30 := NB201_202.out
    obtain ⟨Z31_0, Z31_1, Y31_0, Y31_1⟩ := cz2_ BK202.out
    go_wp2
    refine bodyPost_ret (results_ct rfl _ _ gb202 32 #[.int .i64 0, .int .u64 0] (0, 0) _ rfl (qpp_ #[.int .i64 0, .int .u64 0] 1 #[.int .i64 0, .int .u64 0] 0 BK202.out) Tryd.underlying32 rfl (by kernel_rfl)) rfl ?_
    exact ⟨qe_, qb2_ GE201.out GE202.out HB.out⟩
   ·replace c29 := Bool.eq_false_iff.mpr c29
    subst c29
    rw [if_neg (show ¬ (false = true) by decide)] at H
    have H' := am_ H
    clear H
    go_wp2_with (first | ((with_reducible refine gate_load_ (t := 27) rfl ?_); refine ld_ (t := 27) Tryd.underlying27 rfl rfl rfl (by (repeat (first | (with_reducible first | refine blk_drewN ?_ _ | refine blk_drew ?_ | refine blk_alloc ?_ _) | refine blk_far ?_ NB201_202.out _ | refine blk_far ?_ NB201_206.out _ | refine blk_far ?_ NB201_214.out _ | refine blk_set ?_ _ _)); (with_reducible first | exact BK201.out)) rfl (by kernel_rfl) ?_) | ((with_reducible refine gate_load_ (t := 27) rfl ?_); refine ldgA_ (t := 27) Tryd.underlying27 rfl (by rfl) rfl (by (repeat (first | (with_reducible first | refine blk_drewN ?_ _ | refine blk_drew ?_ | refine blk_alloc ?_ _) | refine blk_far ?_ NB201_202.out _ | refine blk_far ?_ NB201_206.out _ | refine blk_far ?_ NB201_214.out _ | refine blk_set ?_ _ _)); (with_reducible first | exact BK201.out)) rfl (by kernel_rfl) ?_) | ((with_reducible refine gate_dst (N := 8) rfl ?_); refine be_ (N := 8) (cs := #[.int .i64 0, .int .u64 0]) (t := 32) ?_; intro gb206 hg w32 hbox hb; have BK206 := am_ (hbox); have GE206 := am_ (bz_ hg (qb2_ GE201.out GE202.out HB.out) : w.heap.size ≤ gb206); replace HB := am_ (below_step (qb2_ GE201.out GE202.out HB.out) hb); have NB201_206 := am_ (nl_ hg (qk_ BK201.out) : gb201 ≠ gb206); have NB206_201 := am_ (ng_ hg (qk_ BK201.out) : gb206 ≠ gb201); replace BK201 := am_ (blk_below (qk_ BK201.out) hb); have NB202_206 := am_ (nl_ hg (qk_ BK202.out) : gb202 ≠ gb206); have NB206_202 := am_ (ng_ hg (qk_ BK202.out) : gb206 ≠ gb202); replace BK202 := am_ (blk_below (qk_ BK202.out) hb); clear hb hbox hg))
    go_loopg [9] kj3 (fun kq v9 w' => ∃ (x9_2 x203000_2 x203001_2 x207000_2 x207001_2 : Int), v9 = .int .i64 x9_2 ∧ Aside0 (arrears_Penalty.l0 kq a2 x9_2 a0_0 a0_1 a0_2 a0_3 a0_4 a0_5 a0_6 a0_7 a0_8 a0_9 a0_10 a0_11 a0_12 a0_13 a0_14 a0_15 a0_16 a0_17 a0_18 a0_19 a0_20 a0_21 a0_22 l0_23 l0_24 x207000_2 x207001_2 = some (r1, r2, r3)) ∧ Aside0 (kq ≤ kj3) ∧ Aside0 (w'.heap[gb201]? = some (.cells #[.int .i64 a0_0, .int .i64 a0_1, .int .i64 a0_2, .int .i64 a0_3, .int .i64 a0_4, .int .i64 a0_5, .int .i64 a0_6, .int .i64 a0_7, .int .i64 a0_8, .int .i64 a0_9, .int .i64 a0_10, .int .i64 a0_11, .int .i64 a0_12, .int .i64 a0_13, .int .i64 a0_14, .int .i64 a0_15, .int .i64 a0_16, .int .i64 a0_17, .int .i64 a0_18, .int .i64 a0_19, .int .i64 a0_20, .string a0_21, .string a0_22, (.slice A0_23 l0_23.length c0_23), (.slice A0_24 l0_24.length c0_24)] 27 (0, 0))) ∧ Aside0 (w'.heap[gb202]? = some (.cells #[.int .i64 x203000_2, .int .u64 x203001_2] 32 (0, 0))) ∧ Aside0 (w'.heap[gb206]? = some (.cells #[.int .i64 x207000_2, .int .u64 x207001_2] 32 (0, 0))) ∧ Aside0 (Below w.heap.size w w'))
    case atStart => exact ⟨(a1), (0), (0), (0), (0), qs_, H', ⟨Nat.le_refl _⟩, ⟨qk_ BK201.out⟩, ⟨qk_ BK202.out⟩, ⟨qk_ BK206.out⟩, ⟨qb3_ GE201.out GE202.out GE206.out HB.out⟩⟩
    case round =>
     clear H'
     try clear c1
     try clear c2
     try clear p2
     try clear c3
     try clear p6
     try clear c8
     try clear c8b0
     try clear c8b1
     try clear c9
     try clear c10
     try clear c12
     try clear c13
     try clear c13b0
     try clear c14
     try clear c17
     try clear c20
     try clear c23
     try clear c26
     try clear c29
     try clear c30
     (try clear Z15_0 Z15_1 Z15_10 Z15_11 Z15_12 Z15_13 Z15_14 Z15_15 Z15_16 Z15_17 Z15_18 Z15_19 Z15_2 Z15_20 Z15_21 Z15_22 Z15_23 Z15_24 Z15_3 Z15_4 Z15_5 Z15_6 Z15_7 Z15_8 Z15_9 Y15_0 Y15_1 Y15_10 Y15_11 Y15_12 Y15_13 Y15_14 Y15_15 Y15_16 Y15_17 Y15_18 Y15_19 Y15_2 Y15_20 Y15_21 Y15_22 Y15_23 Y15_24 Y15_3 Y15_4 Y15_5 Y15_6 Y15_7 Y15_8 Y15_9)
     (try clear Z18_0 Z18_1 Z18_10 Z18_11 Z18_12 Z18_13 Z18_14 Z18_15 Z18_16 Z18_17 Z18_18 Z18_19 Z18_2 Z18_20 Z18_21 Z18_22 Z18_23 Z18_24 Z18_3 Z18_4 Z18_5 Z18_6 Z18_7 Z18_8 Z18_9 Y18_0 Y18_1 Y18_10 Y18_11 Y18_12 Y18_13 Y18_14 Y18_15 Y18_16 Y18_17 Y18_18 Y18_19 Y18_2 Y18_20 Y18_21 Y18_22 Y18_23 Y18_24 Y18_3 Y18_4 Y18_5 Y18_6 Y18_7 Y18_8 Y18_9)
     (try clear Z21_0 Z21_1 Z21_10 Z21_11 Z21_12 Z21_13 Z21_14 Z21_15 Z21_16 Z21_17 Z21_18 Z21_19 Z21_2 Z21_20 Z21_21 Z21_22 Z21_23 Z21_24 Z21_3 Z21_4 Z21_5 Z21_6 Z21_7 Z21_8 Z21_9 Y21_0 Y21_1 Y21_10 Y21_11 Y21_12 Y21_13 Y21_14 Y21_15 Y21_16 Y21_17 Y21_18 Y21_19 Y21_2 Y21_20 Y21_21 Y21_22 Y21_23 Y21_24 Y21_3 Y21_4 Y21_5 Y21_6 Y21_7 Y21_8 Y21_9)
     (try clear Z24_0 Z24_1 Z24_10 Z24_11 Z24_12 Z24_13 Z24_14 Z24_15 Z24_16 Z24_17 Z24_18 Z24_19 Z24_2 Z24_20 Z24_21 Z24_22 Z24_23 Z24_24 Z24_3 Z24_4 Z24_5 Z24_6 Z24_7 Z24_8 Z24_9 Y24_0 Y24_1 Y24_10 Y24_11 Y24_12 Y24_13 Y24_14 Y24_15 Y24_16 Y24_17 Y24_18 Y24_19 Y24_2 Y24_20 Y24_21 Y24_22 Y24_23 Y24_24 Y24_3 Y24_4 Y24_5 Y24_6 Y24_7 Y24_8 Y24_9)
     (try clear Z27_0 Z27_1 Z27_10 Z27_11 Z27_12 Z27_13 Z27_14 Z27_15 Z27_16 Z27_17 Z27_18 Z27_19 Z27_2 Z27_20 Z27_21 Z27_22 Z27_23 Z27_24 Z27_3 Z27_4 Z27_5 Z27_6 Z27_7 Z27_8 Z27_9 Y27_0 Y27_1 Y27_10 Y27_11 Y27_12 Y27_13 Y27_14 Y27_15 Y27_16 Y27_17 Y27_18 Y27_19 Y27_2 Y27_20 Y27_21 Y27_22 Y27_23 Y27_24 Y27_3 Y27_4 Y27_5 Y27_6 Y27_7 Y27_8 Y27_9)
     (try clear Z31_0 Z31_1 Y31_0 Y31_1)
     try clear p2
     try clear p6
     obtain ⟨x9_2, x203000_2, x203001_2, x207000_2, x207001_2, rfl, HA, HK2, BK201, BK202, BK206, HB⟩ := hrel
     cases gk with
     | zero => exact absurd HA.out (by simp [arrears_Penalty.l0])
     | succ k2 =>
      have H := HA.out
      clear HA
      simp only [arrears_Penalty.l0] at H
      by_cases c33 : x9_2 < a2
      ·rw [if_pos c33] at H
       have c33b0 : decide (x9_2 < a2) = true := decide_eq_true c33
       clear c33
       replace H := Option.bind_eq_some_iff.mp H
       obtain ⟨t207, A340, H⟩ := H
       (try dsimp only at H)
       have A34 := am_ A340
       clear A340
       replace H := Option.bind_eq_some_iff.mp H
       obtain ⟨⟨t208, t209⟩, A350, H⟩ := H
       (try dsimp only at H)
       have A35 := am_ A350
       clear A350
       replace H := Option.bind_eq_some_iff.mp H
       obtain ⟨t210, A360, H⟩ := H
       (try dsimp only at H)
       have A36 := am_ A360
       clear A360
       replace H := Option.bind_eq_some_iff.mp H
       obtain ⟨⟨t211, t212, t213⟩, A370, H⟩ := H
       (try dsimp only at H)
       have A37 := am_ A370
       clear A370
       by_cases c38 : t213 = 0
       ·rw [if_pos c38] at H
        have c38b0 : (t213 == 0) = true := beq_iff_eq.mpr c38
        have c38b1 : (t213 != 0) = false := bne_eq_false_iff_eq.mpr c38
        clear c38
        replace H := Option.bind_eq_some_iff.mp H
        obtain ⟨⟨t215, t216, t217⟩, A390, H⟩ := H
        (try dsimp only at H)
        have A39 := am_ A390
        clear A390
        by_cases c40 : t217 = 0
        ·rw [if_pos c40] at H
         have c40b0 : (t217 == 0) = true := beq_iff_eq.mpr c40
         have c40b1 : (t217 != 0) = false := bne_eq_false_iff_eq.mpr c40
         clear c40
         have H' := am_ H
         clear H
         try go_wp2
         replace BK201 := am_ (blk_drew BK201.out)
         replace BK202 := am_ (blk_drew BK202.out)
         replace BK206 := am_ (blk_drew BK206.out)
         replace HB := am_ (below_drew1 HB.out)
         refine start_ (n := 16) (S := cS25_ gb201 (.int .i64 a0_0) (.int .i64 a0_1) (.int .i64 a0_2) (.int .i64 a0_3) (.int .i64 a0_4) (.int .i64 a0_5) (.int .i64 a0_6) (.int .i64 a0_7) (.int .i64 a0_8) (.int .i64 a0_9) (.int .i64 a0_10) (.int .i64 a0_11) (.int .i64 a0_12) (.int .i64 a0_13) (.int .i64 a0_14) (.int .i64 a0_15) (.int .i64 a0_16) (.int .i64 a0_17) (.int .i64 a0_18) (.int .i64 a0_19) (.int .i64 a0_20) (.string a0_21) (.string a0_22) (.slice A0_23 l0_23.length c0_23) (.slice A0_24 l0_24.length c0_24)) (ds := []) (nb_ 16 0) (by kernel_rfl) rfl rfl (cc25_ BK201.out) (fun hHeld => ?_); refine with_tabW arrears_Penalty.tab7 arrears_Penalty.bits7 (fun HT_ HW_ => ?_)
         generalize wr.drew = w41 at BK201 BK202 BK206 HB hHeld ⊢
         refine pz_ 1 45 (nb_ 16 2) HT_.out ?_
         refine pz_ 3 47 (nb_ 16 10) HT_.out ?_
         refine pz_ 4 48 (nb_ 16 26) HT_.out ?_
         refine pz_ 7 51 (nb_ 16 154) HT_.out ?_
         refine take_ (i := 0) (N := some 44) (v := ?_) (a' := ?_) (nb_ 16 155) rfl rfl (take_ofW HT_.out HW_.out (by kernel_rfl)) (fun _ _ _ h => h) (Or.inl ⟨by rfl, ?_⟩) hHeld ?_ ?_
         rotate_left
         ·rintro w' hs_
          first
          | (refine Eq.trans (ldx_ (by rfl) (by rfl) (ldS_ hs_)) ?_; with_reducible rfl)
          | (obtain ⟨s0, s1, s2, s3, s4, s5, s6, s7, s8, s9, s10, s11, s12, s13, s14, s15, s16, s17, s18, s19, s20, s21, s22, s23, s24⟩ := hs_; go_simp; with_reducible rfl)
         rotate_left
         ·simp only [Act.put, List.setIfInBounds_toArray, List.set_cons_zero, List.set_cons_succ, i64_w, i32_w]
          rfl
         refine take_ (i := 5) (N := some 49) (v := ?_) (a' := ?_) (nb_ 16 187) rfl rfl (take_ofW HT_.out HW_.out (by kernel_rfl)) (fun _ _ _ h => h) (Or.inl ⟨by rfl, ?_⟩) hHeld ?_ ?_
         rotate_left
         ·rintro w' hs_
          first
          | (refine Eq.trans (ldx_ (by rfl) (by rfl) (ldS_ hs_)) ?_; with_reducible rfl)
          | (obtain ⟨s0, s1, s2, s3, s4, s5, s6, s7, s8, s9, s10, s11, s12, s13, s14, s15, s16, s17, s18, s19, s20, s21, s22, s23, s24⟩ := hs_; go_simp; with_reducible rfl)
         rotate_left
         ·simp only [Act.put, List.setIfInBounds_toArray, List.set_cons_zero, List.set_cons_succ, i64_w, i32_w]
          rfl
         refine join_ (σ := Nat) 2 (nb_ 16 16383) (fun s_ => [(46, .int .i64 t207), (50, .agg #[.int .i64 t208, .int .u64 t209]), (52, .int .i64 t210), (53, .tuple #[.agg #[.int .i64 t211, .int .u64 t212], .int .i64 t213]), (10, .pointer (some ⟨s_, 0, none⟩)), (43, .tuple #[.agg #[.int .i64 t211, .int .u64 t212], .int .i64 t213]), (54, .agg #[.int .i64 t211, .int .u64 t212]), (55, .int .i64 t213)]) (fun s_ w' => (cS25_ gb201 (.int .i64 a0_0) (.int .i64 a0_1) (.int .i64 a0_2) (.int .i64 a0_3) (.int .i64 a0_4) (.int .i64 a0_5) (.int .i64 a0_6) (.int .i64 a0_7) (.int .i64 a0_8) (.int .i64 a0_9) (.int .i64 a0_10) (.int .i64 a0_11) (.int .i64 a0_12) (.int .i64 a0_13) (.int .i64 a0_14) (.int .i64 a0_15) (.int .i64 a0_16) (.int .i64 a0_17) (.int .i64 a0_18) (.int .i64 a0_19) (.int .i64 a0_20) (.string a0_21) (.string a0_22) (.slice A0_23 l0_23.length c0_23) (.slice A0_24 l0_24.length c0_24) w') ∧ (w'.heap[gb201]? = some (.cells #[.int .i64 a0_0, .int .i64 a0_1, .int .i64 a0_2, .int .i64 a0_3, .int .i64 a0_4, .int .i64 a0_5, .int .i64 a0_6, .int .i64 a0_7, .int .i64 a0_8, .int .i64 a0_9, .int .i64 a0_10, .int .i64 a0_11, .int .i64 a0_12, .int .i64 a0_13, .int .i64 a0_14, .int .i64 a0_15, .int .i64 a0_16, .int .i64 a0_17, .int .i64 a0_18, .int .i64 a0_19, .int .i64 a0_20, .string a0_21, .string a0_22, .slice A0_23 l0_23.length c0_23, .slice A0_24 l0_24.length c0_24] 27 (0, 0))) ∧ (w'.heap[gb202]? = some (.cells #[.int .i64 x203000_2, .int .u64 x203001_2] 32 (0, 0))) ∧ (w'.heap[gb206]? = some (.cells #[.int .i64 x207000_2, .int .u64 x207001_2] 32 (0, 0))) ∧ (w'.heap[s_]? = some (.cells #[.int .i64 0, .int .u64 0] 32 (0, 0))) ∧ (w.heap.size ≤ s_) ∧ (w.heap.size ≤ s_) ∧ (gb201 ≠ s_) ∧ (s_ ≠ gb201) ∧ (gb202 ≠ s_) ∧ (s_ ≠ gb202) ∧ (gb206 ≠ s_) ∧ (s_ ≠ gb206) ∧ (Below w.heap.size w w')) ?_ ?_
         rotate_left
         ·intro hJ2_6_8_9_13
          refine join_ (σ := Unit) 3 (nb_ 16 8191) (fun s_ => [(46, .int .i64 t207), (50, .agg #[.int .i64 t208, .int .u64 t209]), (52, .int .i64 t210), (53, .tuple #[.agg #[.int .i64 t211, .int .u64 t212], .int .i64 t213]), (43, .tuple #[.agg #[.int .i64 t211, .int .u64 t212], .int .i64 t213]), (54, .agg #[.int .i64 t211, .int .u64 t212]), (55, .int .i64 t213)]) (fun s_ w' => (cS25_ gb201 (.int .i64 a0_0) (.int .i64 a0_1) (.int .i64 a0_2) (.int .i64 a0_3) (.int .i64 a0_4) (.int .i64 a0_5) (.int .i64 a0_6) (.int .i64 a0_7) (.int .i64 a0_8) (.int .i64 a0_9) (.int .i64 a0_10) (.int .i64 a0_11) (.int .i64 a0_12) (.int .i64 a0_13) (.int .i64 a0_14) (.int .i64 a0_15) (.int .i64 a0_16) (.int .i64 a0_17) (.int .i64 a0_18) (.int .i64 a0_19) (.int .i64 a0_20) (.string a0_21) (.string a0_22) (.slice A0_23 l0_23.length c0_23) (.slice A0_24 l0_24.length c0_24) w') ∧ (w'.heap[gb201]? = some (.cells #[.int .i64 a0_0, .int .i64 a0_1, .int .i64 a0_2, .int .i64 a0_3, .int .i64 a0_4, .int .i64 a0_5, .int .i64 a0_6, .int .i64 a0_7, .int .i64 a0_8, .int .i64 a0_9, .int .i64 a0_10, .int .i64 a0_11, .int .i64 a0_12, .int .i64 a0_13, .int .i64 a0_14, .int .i64 a0_15, .int .i64 a0_16, .int .i64 a0_17, .int .i64 a0_18, .int .i64 a0_19, .int .i64 a0_20, .string a0_21, .string a0_22, .slice A0_23 l0_23.length c0_23, .slice A0_24 l0_24.length c0_24] 27 (0, 0))) ∧ (w'.heap[gb202]? = some (.cells #[.int .i64 x203000_2, .int .u64 x203001_2] 32 (0, 0))) ∧ (w'.heap[gb206]? = some (.cells #[.int .i64 x207000_2, .int .u64 x207001_2] 32 (0, 0))) ∧ (Below w.heap.size w w')) ?_ ?_
          rotate_left
          ·intro hJ2_6_8_9
           refine join_ (σ := Nat) 6 (nb_ 16 8703) (fun s_ => [(46, .int .i64 t207), (50, .agg #[.int .i64 t208, .int .u64 t209]), (52, .int .i64 t210), (10, .pointer (some ⟨s_, 0, none⟩))]) (fun s_ w' => (cS25_ gb201 (.int .i64 a0_0) (.int .i64 a0_1) (.int .i64 a0_2) (.int .i64 a0_3) (.int .i64 a0_4) (.int .i64 a0_5) (.int .i64 a0_6) (.int .i64 a0_7) (.int .i64 a0_8) (.int .i64 a0_9) (.int .i64 a0_10) (.int .i64 a0_11) (.int .i64 a0_12) (.int .i64 a0_13) (.int .i64 a0_14) (.int .i64 a0_15) (.int .i64 a0_16) (.int .i64 a0_17) (.int .i64 a0_18) (.int .i64 a0_19) (.int .i64 a0_20) (.string a0_21) (.string a0_22) (.slice A0_23 l0_23.length c0_23) (.slice A0_24 l0_24.length c0_24) w') ∧ (w'.heap[gb201]? = some (.cells #[.int .i64 a0_0, .int .i64 a0_1, .int .i64 a0_2, .int .i64 a0_3, .int .i64 a0_4, .int .i64 a0_5, .int .i64 a0_6, .int .i64 a0_7, .int .i64 a0_8, .int .i64 a0_9, .int .i64 a0_10, .int .i64 a0_11, .int .i64 a0_12, .int .i64 a0_13, .int .i64 a0_14, .int .i64 a0_15, .int .i64 a0_16, .int .i64 a0_17, .int .i64 a0_18, .int .i64 a0_19, .int .i64 a0_20, .string a0_21, .string a0_22, .slice A0_23 l0_23.length c0_23, .slice A0_24 l0_24.length c0_24] 27 (0, 0))) ∧ (w'.heap[gb202]? = some (.cells #[.int .i64 x203000_2, .int .u64 x203001_2] 32 (0, 0))) ∧ (w'.heap[gb206]? = some (.cells #[.int .i64 x207000_2, .int .u64 x207001_2] 32 (0, 0))) ∧ (w'.heap[s_]? = some (.cells #[.int .i64 0, .int .u64 0] 32 (0, 0))) ∧ (w.heap.size ≤ s_) ∧ (w.heap.size ≤ s_) ∧ (gb201 ≠ s_) ∧ (s_ ≠ gb201) ∧ (gb202 ≠ s_) ∧ (s_ ≠ gb202) ∧ (gb206 ≠ s_) ∧ (s_ ≠ gb206) ∧ (Below w.heap.size w w')) ?_ ?_
           rotate_left
           ·intro hJ2_6_8_13
            refine join_ (σ := Unit) 7 (nb_ 16 511) (fun s_ => [(46, .int .i64 t207), (50, .agg #[.int .i64 t208, .int .u64 t209]), (52, .int .i64 t210)]) (fun s_ w' => (cS25_ gb201 (.int .i64 a0_0) (.int .i64 a0_1) (.int .i64 a0_2) (.int .i64 a0_3) (.int .i64 a0_4) (.int .i64 a0_5) (.int .i64 a0_6) (.int .i64 a0_7) (.int .i64 a0_8) (.int .i64 a0_9) (.int .i64 a0_10) (.int .i64 a0_11) (.int .i64 a0_12) (.int .i64 a0_13) (.int .i64 a0_14) (.int .i64 a0_15) (.int .i64 a0_16) (.int .i64 a0_17) (.int .i64 a0_18) (.int .i64 a0_19) (.int .i64 a0_20) (.string a0_21) (.string a0_22) (.slice A0_23 l0_23.length c0_23) (.slice A0_24 l0_24.length c0_24) w') ∧ (w'.heap[gb201]? = some (.cells #[.int .i64 a0_0, .int .i64 a0_1, .int .i64 a0_2, .int .i64 a0_3, .int .i64 a0_4, .int .i64 a0_5, .int .i64 a0_6, .int .i64 a0_7, .int .i64 a0_8, .int .i64 a0_9, .int .i64 a0_10, .int .i64 a0_11, .int .i64 a0_12, .int .i64 a0_13, .int .i64 a0_14, .int .i64 a0_15, .int .i64 a0_16, .int .i64 a0_17, .int .i64 a0_18, .int .i64 a0_19, .int .i64 a0_20, .string a0_21, .string a0_22, .slice A0_23 l0_23.length c0_23, .slice A0_24 l0_24.length c0_24] 27 (0, 0))) ∧ (w'.heap[gb202]? = some (.cells #[.int .i64 x203000_2, .int .u64 x203001_2] 32 (0, 0))) ∧ (w'.heap[gb206]? = some (.cells #[.int .i64 x207000_2, .int .u64 x207001_2] 32 (0, 0))) ∧ (Below w.heap.size w w')) ?_ ?_
            rotate_left
            ·intro hJ2_6_8
             refine join_ (σ := Nat) 7 (nb_ 16 8447) (fun s_ => [(46, .int .i64 t207), (50, .agg #[.int .i64 t208, .int .u64 t209]), (10, .pointer (some ⟨s_, 0, none⟩))]) (fun s_ w' => (cS25_ gb201 (.int .i64 a0_0) (.int .i64 a0_1) (.int .i64 a0_2) (.int .i64 a0_3) (.int .i64 a0_4) (.int .i64 a0_5) (.int .i64 a0_6) (.int .i64 a0_7) (.int .i64 a0_8) (.int .i64 a0_9) (.int .i64 a0_10) (.int .i64 a0_11) (.int .i64 a0_12) (.int .i64 a0_13) (.int .i64 a0_14) (.int .i64 a0_15) (.int .i64 a0_16) (.int .i64 a0_17) (.int .i64 a0_18) (.int .i64 a0_19) (.int .i64 a0_20) (.string a0_21) (.string a0_22) (.slice A0_23 l0_23.length c0_23) (.slice A0_24 l0_24.length c0_24) w') ∧ (w'.heap[gb201]? = some (.cells #[.int .i64 a0_0, .int .i64 a0_1, .int .i64 a0_2, .int .i64 a0_3, .int .i64 a0_4, .int .i64 a0_5, .int .i64 a0_6, .int .i64 a0_7, .int .i64 a0_8, .int .i64 a0_9, .int .i64 a0_10, .int .i64 a0_11, .int .i64 a0_12, .int .i64 a0_13, .int .i64 a0_14, .int .i64 a0_15, .int .i64 a0_16, .int .i64 a0_17, .int .i64 a0_18, .int .i64 a0_19, .int .i64 a0_20, .string a0_21, .string a0_22, .slice A0_23 l0_23.length c0_23, .slice A0_24 l0_24.length c0_24] 27 (0, 0))) ∧ (w'.heap[gb202]? = some (.cells #[.int .i64 x203000_2, .int .u64 x203001_2] 32 (0, 0))) ∧ (w'.heap[gb206]? = some (.cells #[.int .i64 x207000_2, .int .u64 x207001_2] 32 (0, 0))) ∧ (w'.heap[s_]? = some (.cells #[.int .i64 0, .int .u64 0] 32 (0, 0))) ∧ (w.heap.size ≤ s_) ∧ (w.heap.size ≤ s_) ∧ (gb201 ≠ s_) ∧ (s_ ≠ gb201) ∧ (gb202 ≠ s_) ∧ (s_ ≠ gb202) ∧ (gb206 ≠ s_) ∧ (s_ ≠ gb206) ∧ (Below w.heap.size w w')) ?_ ?_
             rotate_left
             ·intro hJ2_6_13
              refine join_ (σ := Unit) 8 (nb_ 16 255) (fun s_ => [(46, .int .i64 t207), (50, .agg #[.int .i64 t208, .int .u64 t209])]) (fun s_ w' => (cS25_ gb201 (.int .i64 a0_0) (.int .i64 a0_1) (.int .i64 a0_2) (.int .i64 a0_3) (.int .i64 a0_4) (.int .i64 a0_5) (.int .i64 a0_6) (.int .i64 a0_7) (.int .i64 a0_8) (.int .i64 a0_9) (.int .i64 a0_10) (.int .i64 a0_11) (.int .i64 a0_12) (.int .i64 a0_13) (.int .i64 a0_14) (.int .i64 a0_15) (.int .i64 a0_16) (.int .i64 a0_17) (.int .i64 a0_18) (.int .i64 a0_19) (.int .i64 a0_20) (.string a0_21) (.string a0_22) (.slice A0_23 l0_23.length c0_23) (.slice A0_24 l0_24.length c0_24) w') ∧ (w'.heap[gb201]? = some (.cells #[.int .i64 a0_0, .int .i64 a0_1, .int .i64 a0_2, .int .i64 a0_3, .int .i64 a0_4, .int .i64 a0_5, .int .i64 a0_6, .int .i64 a0_7, .int .i64 a0_8, .int .i64 a0_9, .int .i64 a0_10, .int .i64 a0_11, .int .i64 a0_12, .int .i64 a0_13, .int .i64 a0_14, .int .i64 a0_15, .int .i64 a0_16, .int .i64 a0_17, .int .i64 a0_18, .int .i64 a0_19, .int .i64 a0_20, .string a0_21, .string a0_22, .slice A0_23 l0_23.length c0_23, .slice A0_24 l0_24.length c0_24] 27 (0, 0))) ∧ (w'.heap[gb202]? = some (.cells #[.int .i64 x203000_2, .int .u64 x203001_2] 32 (0, 0))) ∧ (w'.heap[gb206]? = some (.cells #[.int .i64 x207000_2, .int .u64 x207001_2] 32 (0, 0))) ∧ (Below w.heap.size w w')) ?_ ?_
              rotate_left
              ·intro hJ2_6
               refine join_ (σ := Nat) 8 (nb_ 16 8383) (fun s_ => [(46, .int .i64 t207), (10, .pointer (some ⟨s_, 0, none⟩))]) (fun s_ w' => (cS25_ gb201 (.int .i64 a0_0) (.int .i64 a0_1) (.int .i64 a0_2) (.int .i64 a0_3) (.int .i64 a0_4) (.int .i64 a0_5) (.int .i64 a0_6) (.int .i64 a0_7) (.int .i64 a0_8) (.int .i64 a0_9) (.int .i64 a0_10) (.int .i64 a0_11) (.int .i64 a0_12) (.int .i64 a0_13) (.int .i64 a0_14) (.int .i64 a0_15) (.int .i64 a0_16) (.int .i64 a0_17) (.int .i64 a0_18) (.int .i64 a0_19) (.int .i64 a0_20) (.string a0_21) (.string a0_22) (.slice A0_23 l0_23.length c0_23) (.slice A0_24 l0_24.length c0_24) w') ∧ (w'.heap[gb201]? = some (.cells #[.int .i64 a0_0, .int .i64 a0_1, .int .i64 a0_2, .int .i64 a0_3, .int .i64 a0_4, .int .i64 a0_5, .int .i64 a0_6, .int .i64 a0_7, .int .i64 a0_8, .int .i64 a0_9, .int .i64 a0_10, .int .i64 a0_11, .int .i64 a0_12, .int .i64 a0_13, .int .i64 a0_14, .int .i64 a0_15, .int .i64 a0_16, .int .i64 a0_17, .int .i64 a0_18, .int .i64 a0_19, .int .i64 a0_20, .string a0_21, .string a0_22, .slice A0_23 l0_23.length c0_23, .slice A0_24 l0_24.length c0_24] 27 (0, 0))) ∧ (w'.heap[gb202]? = some (.cells #[.int .i64 x203000_2, .int .u64 x203001_2] 32 (0, 0))) ∧ (w'.heap[gb206]? = some (.cells #[.int .i64 x207000_2, .int .u64 x207001_2] 32 (0, 0))) ∧ (w'.heap[s_]? = some (.cells #[.int .i64 0, .int .u64 0] 32 (0, 0))) ∧ (w.heap.size ≤ s_) ∧ (w.heap.size ≤ s_) ∧ (gb201 ≠ s_) ∧ (s_ ≠ gb201) ∧ (gb202 ≠ s_) ∧ (s_ ≠ gb202) ∧ (gb206 ≠ s_) ∧ (s_ ≠ gb206) ∧ (Below w.heap.size w w')) ?_ ?_
               rotate_left
               ·intro hJ2_13
                refine join_ (σ := Unit) 9 (nb_ 16 191) (fun s_ => [(46, .int .i64 t207)]) (fun s_ w' => (cS25_ gb201 (.int .i64 a0_0) (.int .i64 a0_1) (.int .i64 a0_2) (.int .i64 a0_3) (.int .i64 a0_4) (.int .i64 a0_5) (.int .i64 a0_6) (.int .i64 a0_7) (.int .i64 a0_8) (.int .i64 a0_9) (.int .i64 a0_10) (.int .i64 a0_11) (.int .i64 a0_12) (.int .i64 a0_13) (.int .i64 a0_14) (.int .i64 a0_15) (.int .i64 a0_16) (.int .i64 a0_17) (.int .i64 a0_18) (.int .i64 a0_19) (.int .i64 a0_20) (.string a0_21) (.string a0_22) (.slice A0_23 l0_23.length c0_23) (.slice A0_24 l0_24.length c0_24) w') ∧ (w'.heap[gb201]? = some (.cells #[.int .i64 a0_0, .int .i64 a0_1, .int .i64 a0_2, .int .i64 a0_3, .int .i64 a0_4, .int .i64 a0_5, .int .i64 a0_6, .int .i64 a0_7, .int .i64 a0_8, .int .i64 a0_9, .int .i64 a0_10, .int .i64 a0_11, .int .i64 a0_12, .int .i64 a0_13, .int .i64 a0_14, .int .i64 a0_15, .int .i64 a0_16, .int .i64 a0_17, .int .i64 a0_18, .int .i64 a0_19, .int .i64 a0_20, .string a0_21, .string a0_22, .slice A0_23 l0_23.length c0_23, .slice A0_24 l0_24.length c0_24] 27 (0, 0))) ∧ (w'.heap[gb202]? = some (.cells #[.int .i64 x203000_2, .int .u64 x203001_2] 32 (0, 0))) ∧ (w'.heap[gb206]? = some (.cells #[.int .i64 x207000_2, .int .u64 x207001_2] 32 (0, 0))) ∧ (Below w.heap.size w w')) ?_ ?_
                rotate_left
                ·intro hJ2
                 refine join_ (σ := Nat) 9 (nb_ 16 8379) (fun s_ => [(10, .pointer (some ⟨s_, 0, none⟩))]) (fun s_ w' => (cS25_ gb201 (.int .i64 a0_0) (.int .i64 a0_1) (.int .i64 a0_2) (.int .i64 a0_3) (.int .i64 a0_4) (.int .i64 a0_5) (.int .i64 a0_6) (.int .i64 a0_7) (.int .i64 a0_8) (.int .i64 a0_9) (.int .i64 a0_10) (.int .i64 a0_11) (.int .i64 a0_12) (.int .i64 a0_13) (.int .i64 a0_14) (.int .i64 a0_15) (.int .i64 a0_16) (.int .i64 a0_17) (.int .i64 a0_18) (.int .i64 a0_19) (.int .i64 a0_20) (.string a0_21) (.string a0_22) (.slice A0_23 l0_23.length c0_23) (.slice A0_24 l0_24.length c0_24) w') ∧ (w'.heap[gb201]? = some (.cells #[.int .i64 a0_0, .int .i64 a0_1, .int .i64 a0_2, .int .i64 a0_3, .int .i64 a0_4, .int .i64 a0_5, .int .i64 a0_6, .int .i64 a0_7, .int .i64 a0_8, .int .i64 a0_9, .int .i64 a0_10, .int .i64 a0_11, .int .i64 a0_12, .int .i64 a0_13, .int .i64 a0_14, .int .i64 a0_15, .int .i64 a0_16, .int .i64 a0_17, .int .i64 a0_18, .int .i64 a0_19, .int .i64 a0_20, .string a0_21, .string a0_22, .slice A0_23 l0_23.length c0_23, .slice A0_24 l0_24.length c0_24] 27 (0, 0))) ∧ (w'.heap[gb202]? = some (.cells #[.int .i64 x203000_2, .int .u64 x203001_2] 32 (0, 0))) ∧ (w'.heap[gb206]? = some (.cells #[.int .i64 x207000_2, .int .u64 x207001_2] 32 (0, 0))) ∧ (w'.heap[s_]? = some (.cells #[.int .i64 0, .int .u64 0] 32 (0, 0))) ∧ (w.heap.size ≤ s_) ∧ (w.heap.size ≤ s_) ∧ (gb201 ≠ s_) ∧ (s_ ≠ gb201) ∧ (gb202 ≠ s_) ∧ (s_ ≠ gb202) ∧ (gb206 ≠ s_) ∧ (s_ ≠ gb206) ∧ (Below w.heap.size w w')) ?_ ?_
                 rotate_left
                 ·intro hJ13
                  refine two_ (i := 2) (j := 13) (Ni := some 46) (Nj := some 10) (nb_ 16 191) (nb_ 16 8379) rfl rfl rfl rfl (two_of HT_.out (by kernel_rfl)) (by decide) (by decide) (fun K hK => ?_) (fun K hK => ?_)
                  ·skip
                   refine goes_ Tryd.func17 (by kernel_rfl) rfl #[.agg #[.int .i64 a0_0, .int .i64 a0_1, .int .i64 a0_2, .int .i64 a0_3, .int .i64 a0_4, .int .i64 a0_5, .int .i64 a0_6, .int .i64 a0_7, .int .i64 a0_8, .int .i64 a0_9, .int .i64 a0_10, .int .i64 a0_11, .int .i64 a0_12, .int .i64 a0_13, .int .i64 a0_14, .int .i64 a0_15, .int .i64 a0_16, .int .i64 a0_17, .int .i64 a0_18, .int .i64 a0_19, .int .i64 a0_20, .string a0_21, .string a0_22, .slice A0_23 l0_23.length c0_23, .slice A0_24 l0_24.length c0_24], .int .i64 x9_2] (by rfl) rfl rfl ql_ ?_
                   with_reducible refine (arrears_Overdue.calls k2 a0_0 a0_1 a0_2 a0_3 a0_4 a0_5 a0_6 a0_7 a0_8 a0_9 a0_10 a0_11 a0_12 a0_13 a0_14 a0_15 a0_16 a0_17 a0_18 a0_19 a0_20 a0_21 a0_22 _ _ l0_23 _ _ l0_24 x9_2 t207 _ ?side1 ?side2 ?side3 ?side4 A34.out).mono ?_
                   (case side1 => repeat (first | exact (Kd.C_below HR0_23.out HB.out) | (with_reducible refine Kd.C_alloc ?_ _) | (with_reducible refine Kd.C_drewN ?_ _) | (with_reducible refine Kd.C_drew ?_)))
                   (case side2 => exact HC0_23.out)
                   (case side3 => repeat (first | exact (Kd.C_below HR0_24.out HB.out) | (with_reducible refine Kd.C_alloc ?_ _) | (with_reducible refine Kd.C_drewN ?_ _) | (with_reducible refine Kd.C_drew ?_)))
                   (case side4 => exact HC0_24.out)
                   rintro e w42 ⟨rfl, hb⟩
                   refine ⟨_, rfl, ?_⟩
                   replace BK201 := am_ (blk_below (qk_ BK201.out) hb)
                   replace BK202 := am_ (blk_below (qk_ BK202.out) hb)
                   replace BK206 := am_ (blk_below (qk_ BK206.out) hb)
                   replace HB := am_ (below_step (qb3_ GE201.out GE202.out GE206.out HB.out) hb)
                   (try clear hb)
                   refine hK.out _ _ (cc25_ BK201.out) (fun hHeld => ?_)
                   clear hK K
                   refine no_ ?_
                   exact norm_ (by first | (simp only [putAll, Act.put, List.setIfInBounds_toArray, List.set_cons_zero, List.set_cons_succ]; done) | (simp only [putAll, Act.put, List.setIfInBounds_toArray, List.set_cons_zero, List.set_cons_succ]; rfl)) (hJ2 () _ ⟨hHeld, (qk_ BK201.out), (qk_ BK202.out), (qk_ BK206.out), (qb3_ GE201.out GE202.out GE206.out HB.out)⟩)
                  ·skip
                   refine box_step ?hg (N := 10) ?hd (cs := #[.int .i64 0, .int .u64 0]) (t := 32) ?hr ?_; (case hd => rfl); (case hg => rfl); (case hr => first | (go_simp; done) | (go_simp; rfl))
                   intro gb214 hg w42 hbox hb
                   have BK214 := am_ (hbox)
                   have GW214 := am_ (bz_ hg (qb3_ GE201.out GE202.out GE206.out HB.out) : w.heap.size ≤ gb214)
                   have GE214 := am_ (bz_ hg (qb3_ GE201.out GE202.out GE206.out HB.out) : w.heap.size ≤ gb214)
                   replace HB := am_ (below_step (qb3_ GE201.out GE202.out GE206.out HB.out) hb)
                   have NB201_214 := am_ (nl_ hg (qk_ BK201.out) : gb201 ≠ gb214)
                   have NB214_201 := am_ (ng_ hg (qk_ BK201.out) : gb214 ≠ gb201)
                   replace BK201 := am_ (blk_below (qk_ BK201.out) hb)
                   have NB202_214 := am_ (nl_ hg (qk_ BK202.out) : gb202 ≠ gb214)
                   have NB214_202 := am_ (ng_ hg (qk_ BK202.out) : gb214 ≠ gb202)
                   replace BK202 := am_ (blk_below (qk_ BK202.out) hb)
                   have NB206_214 := am_ (nl_ hg (qk_ BK206.out) : gb206 ≠ gb214)
                   have NB214_206 := am_ (ng_ hg (qk_ BK206.out) : gb214 ≠ gb206)
                   replace BK206 := am_ (blk_below (qk_ BK206.out) hb)
                   clear hb hbox hg
                   refine hK.out _ _ (cc25_ BK201.out) (fun hHeld => ?_)
                   clear hK K
                   refine no_ ?_
                   exact norm_ (by first | (simp only [putAll, Act.put, List.setIfInBounds_toArray, List.set_cons_zero, List.set_cons_succ]; done) | (simp only [putAll, Act.put, List.setIfInBounds_toArray, List.set_cons_zero, List.set_cons_succ]; rfl)) (hJ13 (gb214) _ ⟨hHeld, (qk_ BK201.out), (qk_ BK202.out), (qk_ BK206.out), (qk_ BK214.out), GW214.out, GE214.out, NB201_214.out, NB214_201.out, NB202_214.out, NB214_202.out, NB206_214.out, NB214_206.out, (qb4_ GE201.out GE202.out GE206.out GE214.out HB.out)⟩)
                 ·skip
                  rintro gb214 w43 ⟨hS_, h0_, h1_, h2_, h3_, h4_, h5_, h6_, h7_, h8_, h9_, h10_, h11_, h12_⟩
                  replace BK201 := am_ h0_
                  replace BK202 := am_ h1_
                  replace BK206 := am_ h2_
                  have BK214 := am_ h3_
                  have GW214 := am_ h4_
                  have GE214 := am_ h5_
                  have NB201_214 := am_ h6_
                  have NB214_201 := am_ h7_
                  have NB202_214 := am_ h8_
                  have NB214_202 := am_ h9_
                  have NB206_214 := am_ h10_
                  have NB214_206 := am_ h11_
                  replace HB := am_ h12_
                  clear h0_ h1_ h2_ h3_ h4_ h5_ h6_ h7_ h8_ h9_ h10_ h11_ h12_
                  have hHeld := hS_
                  refine norm_ (a' := ?_) ?_ ?_
                  rotate_left
                  ·simp only [putAll, Act.put, List.setIfInBounds_toArray, List.set_cons_zero, List.set_cons_succ]
                   rfl
                  refine on_ 2 46 (nb_ 16 8383) HT_.out (fun K hK => ?_)
                  refine goes_ Tryd.func17 (by kernel_rfl) rfl #[.agg #[.int .i64 a0_0, .int .i64 a0_1, .int .i64 a0_2, .int .i64 a0_3, .int .i64 a0_4, .int .i64 a0_5, .int .i64 a0_6, .int .i64 a0_7, .int .i64 a0_8, .int .i64 a0_9, .int .i64 a0_10, .int .i64 a0_11, .int .i64 a0_12, .int .i64 a0_13, .int .i64 a0_14, .int .i64 a0_15, .int .i64 a0_16, .int .i64 a0_17, .int .i64 a0_18, .int .i64 a0_19, .int .i64 a0_20, .string a0_21, .string a0_22, .slice A0_23 l0_23.length c0_23, .slice A0_24 l0_24.length c0_24], .int .i64 x9_2] (by rfl) rfl rfl ql_ ?_
                  with_reducible refine (arrears_Overdue.calls k2 a0_0 a0_1 a0_2 a0_3 a0_4 a0_5 a0_6 a0_7 a0_8 a0_9 a0_10 a0_11 a0_12 a0_13 a0_14 a0_15 a0_16 a0_17 a0_18 a0_19 a0_20 a0_21 a0_22 _ _ l0_23 _ _ l0_24 x9_2 t207 _ ?side1 ?side2 ?side3 ?side4 A34.out).mono ?_
                  (case side1 => repeat (first | exact (Kd.C_below HR0_23.out HB.out) | (with_reducible refine Kd.C_alloc ?_ _) | (with_reducible refine Kd.C_drewN ?_ _) | (with_reducible refine Kd.C_drew ?_)))
                  (case side2 => exact HC0_23.out)
                  (case side3 => repeat (first | exact (Kd.C_below HR0_24.out HB.out) | (with_reducible refine Kd.C_alloc ?_ _) | (with_reducible refine Kd.C_drewN ?_ _) | (with_reducible refine Kd.C_drew ?_)))
                  (case side4 => exact HC0_24.out)
                  rintro e w44 ⟨rfl, hb⟩
                  refine ⟨_, rfl, ?_⟩
                  replace BK201 := am_ (blk_below (qk_ BK201.out) hb)
                  replace BK202 := am_ (blk_below (qk_ BK202.out) hb)
                  replace BK206 := am_ (blk_below (qk_ BK206.out) hb)
                  replace BK214 := am_ (blk_below (qk_ BK214.out) hb)
                  replace HB := am_ (below_step (qb4_ GE201.out GE202.out GE206.out GE214.out HB.out) hb)
                  (try clear hb)
                  refine hK.out _ _ (cc25_ BK201.out) (fun hHeld => ?_)
                  clear hK K
                  refine no_ ?_
                  exact norm_ (by first | (simp only [putAll, Act.put, List.setIfInBounds_toArray, List.set_cons_zero, List.set_cons_succ]; done) | (simp only [putAll, Act.put, List.setIfInBounds_toArray, List.set_cons_zero, List.set_cons_succ]; rfl)) (hJ2_13 (gb214) _ ⟨hHeld, (qk_ BK201.out), (qk_ BK202.out), (qk_ BK206.out), (qk_ BK214.out), GW214.out, GE214.out, NB201_214.out, NB214_201.out, NB202_214.out, NB214_202.out, NB206_214.out, NB214_206.out, (qb4_ GE201.out GE202.out GE206.out GE214.out HB.out)⟩)
                ·skip
                 rintro _ w43 ⟨hS_, h0_, h1_, h2_, h3_⟩
                 replace BK201 := am_ h0_
                 replace BK202 := am_ h1_
                 replace BK206 := am_ h2_
                 replace HB := am_ h3_
                 clear h0_ h1_ h2_ h3_
                 have hHeld := hS_
                 refine norm_ (a' := ?_) ?_ ?_
                 rotate_left
                 ·simp only [putAll, Act.put, List.setIfInBounds_toArray, List.set_cons_zero, List.set_cons_succ]
                  rfl
                 refine two_ (i := 6) (j := 13) (Ni := some 50) (Nj := some 10) (nb_ 16 255) (nb_ 16 8383) rfl rfl rfl rfl (two_of HT_.out (by kernel_rfl)) (by decide) (by decide) (fun K hK => ?_) (fun K hK => ?_)
                 ·skip
                  refine goes_ Tryd.func28 (by kernel_rfl) rfl #[.int .i64 t207, .int .i64 a0_19] (by rfl) rfl rfl ql_ ?_
                  with_reducible refine (wide_Mul.calls t207 a0_19 t208 t209 _ A35.out).mono ?_
                  rintro e w44 ⟨rfl, hb⟩
                  refine ⟨_, rfl, ?_⟩
                  replace BK201 := am_ (blk_below (qk_ BK201.out) hb)
                  replace BK202 := am_ (blk_below (qk_ BK202.out) hb)
                  replace BK206 := am_ (blk_below (qk_ BK206.out) hb)
                  replace HB := am_ (below_step (qb3_ GE201.out GE202.out GE206.out HB.out) hb)
                  (try clear hb)
                  refine hK.out _ _ (cc25_ BK201.out) (fun hHeld => ?_)
                  clear hK K
                  refine no_ ?_
                  exact norm_ (by first | (simp only [putAll, Act.put, List.setIfInBounds_toArray, List.set_cons_zero, List.set_cons_succ]; done) | (simp only [putAll, Act.put, List.setIfInBounds_toArray, List.set_cons_zero, List.set_cons_succ]; rfl)) (hJ2_6 () _ ⟨hHeld, (qk_ BK201.out), (qk_ BK202.out), (qk_ BK206.out), (qb3_ GE201.out GE202.out GE206.out HB.out)⟩)
                 ·skip
                  refine box_step ?hg (N := 10) ?hd (cs := #[.int .i64 0, .int .u64 0]) (t := 32) ?hr ?_; (case hd => rfl); (case hg => rfl); (case hr => first | (go_simp; done) | (go_simp; rfl))
                  intro gb214 hg w44 hbox hb
                  have BK214 := am_ (hbox)
                  have GW214 := am_ (bz_ hg (qb3_ GE201.out GE202.out GE206.out HB.out) : w.heap.size ≤ gb214)
                  have GE214 := am_ (bz_ hg (qb3_ GE201.out GE202.out GE206.out HB.out) : w.heap.size ≤ gb214)
                  replace HB := am_ (below_step (qb3_ GE201.out GE202.out GE206.out HB.out) hb)
                  have NB201_214 := am_ (nl_ hg (qk_ BK201.out) : gb201 ≠ gb214)
                  have NB214_201 := am_ (ng_ hg (qk_ BK201.out) : gb214 ≠ gb201)
                  replace BK201 := am_ (blk_below (qk_ BK201.out) hb)
                  have NB202_214 := am_ (nl_ hg (qk_ BK202.out) : gb202 ≠ gb214)
                  have NB214_202 := am_ (ng_ hg (qk_ BK202.out) : gb214 ≠ gb202)
                  replace BK202 := am_ (blk_below (qk_ BK202.out) hb)
                  have NB206_214 := am_ (nl_ hg (qk_ BK206.out) : gb206 ≠ gb214)
                  have NB214_206 := am_ (ng_ hg (qk_ BK206.out) : gb214 ≠ gb206)
                  replace BK206 := am_ (blk_below (qk_ BK206.out) hb)
                  clear hb hbox hg
                  refine hK.out _ _ (cc25_ BK201.out) (fun hHeld => ?_)
                  clear hK K
                  refine no_ ?_
                  exact norm_ (by first | (simp only [putAll, Act.put, List.setIfInBounds_toArray, List.set_cons_zero, List.set_cons_succ]; done) | (simp only [putAll, Act.put, List.setIfInBounds_toArray, List.set_cons_zero, List.set_cons_succ]; rfl)) (hJ2_13 (gb214) _ ⟨hHeld, (qk_ BK201.out), (qk_ BK202.out), (qk_ BK206.out), (qk_ BK214.out), GW214.out, GE214.out, NB201_214.out, NB214_201.out, NB202_214.out, NB214_202.out, NB206_214.out, NB214_206.out, (qb4_ GE201.out GE202.out GE206.out GE214.out HB.out)⟩)
               ·skip
                rintro gb214 w44 ⟨hS_, h0_, h1_, h2_, h3_, h4_, h5_, h6_, h7_, h8_, h9_, h10_, h11_, h12_⟩
                replace BK201 := am_ h0_
                replace BK202 := am_ h1_
                replace BK206 := am_ h2_
                have BK214 := am_ h3_
                have GW214 := am_ h4_
                have GE214 := am_ h5_
                have NB201_214 := am_ h6_
                have NB214_201 := am_ h7_
                have NB202_214 := am_ h8_
                have NB214_202 := am_ h9_
                have NB206_214 := am_ h10_
                have NB214_206 := am_ h11_
                replace HB := am_ h12_
                clear h0_ h1_ h2_ h3_ h4_ h5_ h6_ h7_ h8_ h9_ h10_ h11_ h12_
                have hHeld := hS_
                refine norm_ (a' := ?_) ?_ ?_
                rotate_left
                ·simp only [putAll, Act.put, List.setIfInBounds_toArray, List.set_cons_zero, List.set_cons_succ]
                 rfl
                refine on_ 6 50 (nb_ 16 8447) HT_.out (fun K hK => ?_)
                refine goes_ Tryd.func28 (by kernel_rfl) rfl #[.int .i64 t207, .int .i64 a0_19] (by rfl) rfl rfl ql_ ?_
                with_reducible refine (wide_Mul.calls t207 a0_19 t208 t209 _ A35.out).mono ?_
                rintro e w45 ⟨rfl, hb⟩
                refine ⟨_, rfl, ?_⟩
                replace BK201 := am_ (blk_below (qk_ BK201.out) hb)
                replace BK202 := am_ (blk_below (qk_ BK202.out) hb)
                replace BK206 := am_ (blk_below (qk_ BK206.out) hb)
                replace BK214 := am_ (blk_below (qk_ BK214.out) hb)
                replace HB := am_ (below_step (qb4_ GE201.out GE202.out GE206.out GE214.out HB.out) hb)
                (try clear hb)
                refine hK.out _ _ (cc25_ BK201.out) (fun hHeld => ?_)
                clear hK K
                refine no_ ?_
                exact norm_ (by first | (simp only [putAll, Act.put, List.setIfInBounds_toArray, List.set_cons_zero, List.set_cons_succ]; done) | (simp only [putAll, Act.put, List.setIfInBounds_toArray, List.set_cons_zero, List.set_cons_succ]; rfl)) (hJ2_6_13 (gb214) _ ⟨hHeld, (qk_ BK201.out), (qk_ BK202.out), (qk_ BK206.out), (qk_ BK214.out), GW214.out, GE214.out, NB201_214.out, NB214_201.out, NB202_214.out, NB214_202.out, NB206_214.out, NB214_206.out, (qb4_ GE201.out GE202.out GE206.out GE214.out HB.out)⟩)
              ·skip
               rintro _ w44 ⟨hS_, h0_, h1_, h2_, h3_⟩
               replace BK201 := am_ h0_
               replace BK202 := am_ h1_
               replace BK206 := am_ h2_
               replace HB := am_ h3_
               clear h0_ h1_ h2_ h3_
               have hHeld := hS_
               refine norm_ (a' := ?_) ?_ ?_
               rotate_left
               ·simp only [putAll, Act.put, List.setIfInBounds_toArray, List.set_cons_zero, List.set_cons_succ]
                rfl
               refine two_ (i := 8) (j := 13) (Ni := some 52) (Nj := some 10) (nb_ 16 511) (nb_ 16 8447) rfl rfl rfl rfl (two_of HT_.out (by kernel_rfl)) (by decide) (by decide) (fun K hK => ?_) (fun K hK => ?_)
               ·skip
                refine goes_ Tryd.func29 (by kernel_rfl) rfl #[.int .i64 3, .int .i64 x9_2] (by rfl) rfl rfl ql_ ?_
                with_reducible refine (daycount_Weight.calls k2 3 x9_2 t210 _ A36.out).mono ?_
                rintro e w45 ⟨rfl, hb⟩
                refine ⟨_, rfl, ?_⟩
                replace BK201 := am_ (blk_below (qk_ BK201.out) hb)
                replace BK202 := am_ (blk_below (qk_ BK202.out) hb)
                replace BK206 := am_ (blk_below (qk_ BK206.out) hb)
                replace HB := am_ (below_step (qb3_ GE201.out GE202.out GE206.out HB.out) hb)
                (try clear hb)
                refine hK.out _ _ (cc25_ BK201.out) (fun hHeld => ?_)
                clear hK K
                refine no_ ?_
                exact norm_ (by first | (simp only [putAll, Act.put, List.setIfInBounds_toArray, List.set_cons_zero, List.set_cons_succ]; done) | (simp only [putAll, Act.put, List.setIfInBounds_toArray, List.set_cons_zero, List.set_cons_succ]; rfl)) (hJ2_6_8 () _ ⟨hHeld, (qk_ BK201.out), (qk_ BK202.out), (qk_ BK206.out), (qb3_ GE201.out GE202.out GE206.out HB.out)⟩)
               ·skip
                refine box_step ?hg (N := 10) ?hd (cs := #[.int .i64 0, .int .u64 0]) (t := 32) ?hr ?_; (case hd => rfl); (case hg => rfl); (case hr => first | (go_simp; done) | (go_simp; rfl))
                intro gb214 hg w45 hbox hb
                have BK214 := am_ (hbox)
                have GW214 := am_ (bz_ hg (qb3_ GE201.out GE202.out GE206.out HB.out) : w.heap.size ≤ gb214)
                have GE214 := am_ (bz_ hg (qb3_ GE201.out GE202.out GE206.out HB.out) : w.heap.size ≤ gb214)
                replace HB := am_ (below_step (qb3_ GE201.out GE202.out GE206.out HB.out) hb)
                have NB201_214 := am_ (nl_ hg (qk_ BK201.out) : gb201 ≠ gb214)
                have NB214_201 := am_ (ng_ hg (qk_ BK201.out) : gb214 ≠ gb201)
                replace BK201 := am_ (blk_below (qk_ BK201.out) hb)
                have NB202_214 := am_ (nl_ hg (qk_ BK202.out) : gb202 ≠ gb214)
                have NB214_202 := am_ (ng_ hg (qk_ BK202.out) : gb214 ≠ gb202)
                replace BK202 := am_ (blk_below (qk_ BK202.out) hb)
                have NB206_214 := am_ (nl_ hg (qk_ BK206.out) : gb206 ≠ gb214)
                have NB214_206 := am_ (ng_ hg (qk_ BK206.out) : gb214 ≠ gb206)
                replace BK206 := am_ (blk_below (qk_ BK206.out) hb)
                clear hb hbox hg
                refine hK.out _ _ (cc25_ BK201.out) (fun hHeld => ?_)
                clear hK K
                refine no_ ?_
                exact norm_ (by first | (simp only [putAll, Act.put, List.setIfInBounds_toArray, List.set_cons_zero, List.set_cons_succ]; done) | (simp only [putAll, Act.put, List.setIfInBounds_toArray, List.set_cons_zero, List.set_cons_succ]; rfl)) (hJ2_6_13 (gb214) _ ⟨hHeld, (qk_ BK201.out), (qk_ BK202.out), (qk_ BK206.out), (qk_ BK214.out), GW214.out, GE214.out, NB201_214.out, NB214_201.out, NB202_214.out, NB214_202.out, NB206_214.out, NB214_206.out, (qb4_ GE201.out GE202.out GE206.out GE214.out HB.out)⟩)
             ·skip
              rintro gb214 w45 ⟨hS_, h0_, h1_, h2_, h3_, h4_, h5_, h6_, h7_, h8_, h9_, h10_, h11_, h12_⟩
              replace BK201 := am_ h0_
              replace BK202 := am_ h1_
              replace BK206 := am_ h2_
              have BK214 := am_ h3_
              have GW214 := am_ h4_
              have GE214 := am_ h5_
              have NB201_214 := am_ h6_
              have NB214_201 := am_ h7_
              have NB202_214 := am_ h8_
              have NB214_202 := am_ h9_
              have NB206_214 := am_ h10_
              have NB214_206 := am_ h11_
              replace HB := am_ h12_
              clear h0_ h1_ h2_ h3_ h4_ h5_ h6_ h7_ h8_ h9_ h10_ h11_ h12_
              have hHeld := hS_
              refine norm_ (a' := ?_) ?_ ?_
              rotate_left
              ·simp only [putAll, Act.put, List.setIfInBounds_toArray, List.set_cons_zero, List.set_cons_succ]
               rfl
              refine on_ 8 52 (nb_ 16 8703) HT_.out (fun K hK => ?_)
              refine goes_ Tryd.func29 (by kernel_rfl) rfl #[.int .i64 3, .int .i64 x9_2] (by rfl) rfl rfl ql_ ?_
              with_reducible refine (daycount_Weight.calls k2 3 x9_2 t210 _ A36.out).mono ?_
              rintro e w46 ⟨rfl, hb⟩
              refine ⟨_, rfl, ?_⟩
              replace BK201 := am_ (blk_below (qk_ BK201.out) hb)
              replace BK202 := am_ (blk_below (qk_ BK202.out) hb)
              replace BK206 := am_ (blk_below (qk_ BK206.out) hb)
              replace BK214 := am_ (blk_below (qk_ BK214.out) hb)
              replace HB := am_ (below_step (qb4_ GE201.out GE202.out GE206.out GE214.out HB.out) hb)
              (try clear hb)
              refine hK.out _ _ (cc25_ BK201.out) (fun hHeld => ?_)
              clear hK K
              refine no_ ?_
              exact norm_ (by first | (simp only [putAll, Act.put, List.setIfInBounds_toArray, List.set_cons_zero, List.set_cons_succ]; done) | (simp only [putAll, Act.put, List.setIfInBounds_toArray, List.set_cons_zero, List.set_cons_succ]; rfl)) (hJ2_6_8_13 (gb214) _ ⟨hHeld, (qk_ BK201.out), (qk_ BK202.out), (qk_ BK206.out), (qk_ BK214.out), GW214.out, GE214.out, NB201_214.out, NB214_201.out, NB202_214.out, NB214_202.out, NB206_214.out, NB214_206.out, (qb4_ GE201.out GE202.out GE206.out GE214.out HB.out)⟩)
            ·skip
             rintro _ w45 ⟨hS_, h0_, h1_, h2_, h3_⟩
             replace BK201 := am_ h0_
             replace BK202 := am_ h1_
             replace BK206 := am_ h2_
             replace HB := am_ h3_
             clear h0_ h1_ h2_ h3_
             have hHeld := hS_
             refine norm_ (a' := ?_) ?_ ?_
             rotate_left
             ·simp only [putAll, Act.put, List.setIfInBounds_toArray, List.set_cons_zero, List.set_cons_succ]
              rfl
             refine two_ (i := 9) (j := 13) (Ni := some 53) (Nj := some 10) (nb_ 16 1023) (nb_ 16 8703) rfl rfl rfl rfl (two_of HT_.out (by kernel_rfl)) (by decide) (by decide) (fun K hK => ?_) (fun K hK => ?_)
             ·skip
              refine goes_ Tryd.func27 (by kernel_rfl) rfl #[.agg #[.int .i64 t208, .int .u64 t209], .int .i64 t210] (by rfl) rfl rfl ql_ ?_
              with_reducible refine (wide_Scale.calls t208 t209 t210 t211 t212 t213 _ A37.out).mono ?_
              rintro e w46 ⟨rfl, hb⟩
              refine ⟨_, rfl, ?_⟩
              replace BK201 := am_ (blk_below (qk_ BK201.out) hb)
              replace BK202 := am_ (blk_below (qk_ BK202.out) hb)
              replace BK206 := am_ (blk_below (qk_ BK206.out) hb)
              replace HB := am_ (below_step (qb3_ GE201.out GE202.out GE206.out HB.out) hb)
              (try clear hb)
              refine hK.out _ _ (cc25_ BK201.out) (fun hHeld => ?_)
              clear hK K
              refine no_ ?_
              refine pz_ 10 43 (nb_ 16 2047) HT_.out ?_
              refine pz_ 11 54 (nb_ 16 4095) HT_.out ?_
              refine pz_ 12 55 (nb_ 16 8191) HT_.out ?_
              exact norm_ (by first | (simp only [putAll, Act.put, List.setIfInBounds_toArray, List.set_cons_zero, List.set_cons_succ]; done) | (simp only [putAll, Act.put, List.setIfInBounds_toArray, List.set_cons_zero, List.set_cons_succ]; rfl)) (hJ2_6_8_9 () _ ⟨hHeld, (qk_ BK201.out), (qk_ BK202.out), (qk_ BK206.out), (qb3_ GE201.out GE202.out GE206.out HB.out)⟩)
             ·skip
              refine box_step ?hg (N := 10) ?hd (cs := #[.int .i64 0, .int .u64 0]) (t := 32) ?hr ?_; (case hd => rfl); (case hg => rfl); (case hr => first | (go_simp; done) | (go_simp; rfl))
              intro gb214 hg w46 hbox hb
              have BK214 := am_ (hbox)
              have GW214 := am_ (bz_ hg (qb3_ GE201.out GE202.out GE206.out HB.out) : w.heap.size ≤ gb214)
              have GE214 := am_ (bz_ hg (qb3_ GE201.out GE202.out GE206.out HB.out) : w.heap.size ≤ gb214)
              replace HB := am_ (below_step (qb3_ GE201.out GE202.out GE206.out HB.out) hb)
              have NB201_214 := am_ (nl_ hg (qk_ BK201.out) : gb201 ≠ gb214)
              have NB214_201 := am_ (ng_ hg (qk_ BK201.out) : gb214 ≠ gb201)
              replace BK201 := am_ (blk_below (qk_ BK201.out) hb)
              have NB202_214 := am_ (nl_ hg (qk_ BK202.out) : gb202 ≠ gb214)
              have NB214_202 := am_ (ng_ hg (qk_ BK202.out) : gb214 ≠ gb202)
              replace BK202 := am_ (blk_below (qk_ BK202.out) hb)
              have NB206_214 := am_ (nl_ hg (qk_ BK206.out) : gb206 ≠ gb214)
              have NB214_206 := am_ (ng_ hg (qk_ BK206.out) : gb214 ≠ gb206)
              replace BK206 := am_ (blk_below (qk_ BK206.out) hb)
              clear hb hbox hg
              refine hK.out _ _ (cc25_ BK201.out) (fun hHeld => ?_)
              clear hK K
              refine no_ ?_
              exact norm_ (by first | (simp only [putAll, Act.put, List.setIfInBounds_toArray, List.set_cons_zero, List.set_cons_succ]; done) | (simp only [putAll, Act.put, List.setIfInBounds_toArray, List.set_cons_zero, List.set_cons_succ]; rfl)) (hJ2_6_8_13 (gb214) _ ⟨hHeld, (qk_ BK201.out), (qk_ BK202.out), (qk_ BK206.out), (qk_ BK214.out), GW214.out, GE214.out, NB201_214.out, NB214_201.out, NB202_214.out, NB214_202.out, NB206_214.out, NB214_206.out, (qb4_ GE201.out GE202.out GE206.out GE214.out HB.out)⟩)
           ·skip
            rintro gb214 w46 ⟨hS_, h0_, h1_, h2_, h3_, h4_, h5_, h6_, h7_, h8_, h9_, h10_, h11_, h12_⟩
            replace BK201 := am_ h0_
            replace BK202 := am_ h1_
            replace BK206 := am_ h2_
            have BK214 := am_ h3_
            have GW214 := am_ h4_
            have GE214 := am_ h5_
            have NB201_214 := am_ h6_
            have NB214_201 := am_ h7_
            have NB202_214 := am_ h8_
            have NB214_202 := am_ h9_
            have NB206_214 := am_ h10_
            have NB214_206 := am_ h11_
            replace HB := am_ h12_
            clear h0_ h1_ h2_ h3_ h4_ h5_ h6_ h7_ h8_ h9_ h10_ h11_ h12_
            have hHeld := hS_
            refine norm_ (a' := ?_) ?_ ?_
            rotate_left
            ·simp only [putAll, Act.put, List.setIfInBounds_toArray, List.set_cons_zero, List.set_cons_succ]
             rfl
            refine on_ 9 53 (nb_ 16 9215) HT_.out (fun K hK => ?_)
            refine goes_ Tryd.func27 (by kernel_rfl) rfl #[.agg #[.int .i64 t208, .int .u64 t209], .int .i64 t210] (by rfl) rfl rfl ql_ ?_
            with_reducible refine (wide_Scale.calls t208 t209 t210 t211 t212 t213 _ A37.out).mono ?_
            rintro e w47 ⟨rfl, hb⟩
            refine ⟨_, rfl, ?_⟩
            replace BK201 := am_ (blk_below (qk_ BK201.out) hb)
            replace BK202 := am_ (blk_below (qk_ BK202.out) hb)
            replace BK206 := am_ (blk_below (qk_ BK206.out) hb)
            replace BK214 := am_ (blk_below (qk_ BK214.out) hb)
            replace HB := am_ (below_step (qb4_ GE201.out GE202.out GE206.out GE214.out HB.out) hb)
            (try clear hb)
            refine hK.out _ _ (cc25_ BK201.out) (fun hHeld => ?_)
            clear hK K
            refine no_ ?_
            refine pz_ 10 43 (nb_ 16 10239) HT_.out ?_
            refine pz_ 11 54 (nb_ 16 12287) HT_.out ?_
            refine pz_ 12 55 (nb_ 16 16383) HT_.out ?_
            exact norm_ (by first | (simp only [putAll, Act.put, List.setIfInBounds_toArray, List.set_cons_zero, List.set_cons_succ]; done) | (simp only [putAll, Act.put, List.setIfInBounds_toArray, List.set_cons_zero, List.set_cons_succ]; rfl)) (hJ2_6_8_9_13 (gb214) _ ⟨hHeld, (qk_ BK201.out), (qk_ BK202.out), (qk_ BK206.out), (qk_ BK214.out), GW214.out, GE214.out, NB201_214.out, NB214_201.out, NB202_214.out, NB214_202.out, NB206_214.out, NB214_206.out, (qb4_ GE201.out GE202.out GE206.out GE214.out HB.out)⟩)
          ·skip
           rintro _ w46 ⟨hS_, h0_, h1_, h2_, h3_⟩
           replace BK201 := am_ h0_
           replace BK202 := am_ h1_
           replace BK206 := am_ h2_
           replace HB := am_ h3_
           clear h0_ h1_ h2_ h3_
           have hHeld := hS_
           refine norm_ (a' := ?_) ?_ ?_
           rotate_left
           ·simp only [putAll, Act.put, List.setIfInBounds_toArray, List.set_cons_zero, List.set_cons_succ]
            rfl
           refine on_ 13 10 (nb_ 16 16383) HT_.out (fun K hK => ?_)
           refine box_step ?hg (N := 10) ?hd (cs := #[.int .i64 0, .int .u64 0]) (t := 32) ?hr ?_; (case hd => rfl); (case hg => rfl); (case hr => first | (go_simp; done) | (go_simp; rfl))
           intro gb214 hg w47 hbox hb
           have BK214 := am_ (hbox)
           have GW214 := am_ (bz_ hg (qb3_ GE201.out GE202.out GE206.out HB.out) : w.heap.size ≤ gb214)
           have GE214 := am_ (bz_ hg (qb3_ GE201.out GE202.out GE206.out HB.out) : w.heap.size ≤ gb214)
           replace HB := am_ (below_step (qb3_ GE201.out GE202.out GE206.out HB.out) hb)
           have NB201_214 := am_ (nl_ hg (qk_ BK201.out) : gb201 ≠ gb214)
           have NB214_201 := am_ (ng_ hg (qk_ BK201.out) : gb214 ≠ gb201)
           replace BK201 := am_ (blk_below (qk_ BK201.out) hb)
           have NB202_214 := am_ (nl_ hg (qk_ BK202.out) : gb202 ≠ gb214)
           have NB214_202 := am_ (ng_ hg (qk_ BK202.out) : gb214 ≠ gb202)
           replace BK202 := am_ (blk_below (qk_ BK202.out) hb)
           have NB206_214 := am_ (nl_ hg (qk_ BK206.out) : gb206 ≠ gb214)
           have NB214_206 := am_ (ng_ hg (qk_ BK206.out) : gb214 ≠ gb206)
           replace BK206 := am_ (blk_below (qk_ BK206.out) hb)
           clear hb hbox hg
           refine hK.out _ _ (cc25_ BK201.out) (fun hHeld => ?_)
           clear hK K
           refine no_ ?_
           exact norm_ (by first | (simp only [putAll, Act.put, List.setIfInBounds_toArray, List.set_cons_zero, List.set_cons_succ]; done) | (simp only [putAll, Act.put, List.setIfInBounds_toArray, List.set_cons_zero, List.set_cons_succ]; rfl)) (hJ2_6_8_9_13 (gb214) _ ⟨hHeld, (qk_ BK201.out), (qk_ BK202.out), (qk_ BK206.out), (qk_ BK214.out), GW214.out, GE214.out, NB201_214.out, NB214_201.out, NB202_214.out, NB214_202.out, NB206_214.out, NB214_206.out, (qb4_ GE201.out GE202.out GE206.out GE214.out HB.out)⟩)
         rintro gb214 w47 ⟨hS_, h0_, h1_, h2_, h3_, h4_, h5_, h6_, h7_, h8_, h9_, h10_, h11_, h12_⟩
         replace BK201 := am_ h0_
         replace BK202 := am_ h1_
         replace BK206 := am_ h2_
         have BK214 := am_ h3_
         have GW214 := am_ h4_
         have GE214 := am_ h5_
         have NB201_214 := am_ h6_
         have NB214_201 := am_ h7_
         have NB202_214 := am_ h8_
         have NB214_202 := am_ h9_
         have NB206_214 := am_ h10_
         have NB214_206 := am_ h11_
         replace HB := am_ h12_
         clear h0_ h1_ h2_ h3_ h4_ h5_ h6_ h7_ h8_ h9_ h10_ h11_ h12_
         have hHeld := hS_
         refine norm_ (a' := ?_) ?_ ?_
         rotate_left
         ·simp only [putAll, Act.put, List.setIfInBounds_toArray, List.set_cons_zero, List.set_cons_succ]
          rfl
         refine one_ (i := 14) (N := none) (nb_ 16 32767) rfl rfl (one_of HT_.out (by kernel_rfl)) (by decide) (fun K hK => ?_)
         have hs48 : w47.cell? ⟨gb214, 0, none⟩ = some (.int .i64 0) := (blk_cell BK214.out 0).trans rfl
         have hfs48 := blk_frozen BK214.out 0
         have hns48_0 := NB201_214.out
         have hns48_1 := NB202_214.out
         have hns48_2 := NB206_214.out
         have hms48_0 := NB214_201.out
         have hms48_1 := NB214_202.out
         have hms48_2 := NB214_206.out
         have hs49 : w47.cell? ⟨gb214, 1, none⟩ = some (.int .u64 0) := (blk_cell BK214.out 1).trans rfl
         have hfs49 := blk_frozen BK214.out 1
         have hns49_0 := NB201_214.out
         have hns49_1 := NB202_214.out
         have hns49_2 := NB206_214.out
         have hms49_0 := NB214_201.out
         have hms49_1 := NB214_202.out
         have hms49_2 := NB214_206.out
         refine skip_ (w1 := ?_) (by rfl) rfl ?_ ?_
         rotate_left
         ·go_simp
          rfl
         refine hK.out _ _ ⟨((cell_far (p := ⟨gb214, _, none⟩) NB201_214.out _).trans (((cell_far (p := ⟨gb214, _, none⟩) NB201_214.out _).trans (hHeld.1)))), ((cell_far (p := ⟨gb214, _, none⟩) NB201_214.out _).trans (((cell_far (p := ⟨gb214, _, none⟩) NB201_214.out _).trans (hHeld.2.1)))), ((cell_far (p := ⟨gb214, _, none⟩) NB201_214.out _).trans (((cell_far (p := ⟨gb214, _, none⟩) NB201_214.out _).trans (hHeld.2.2.1)))), ((cell_far (p := ⟨gb214, _, none⟩) NB201_214.out _).trans (((cell_far (p := ⟨gb214, _, none⟩) NB201_214.out _).trans (hHeld.2.2.2.1)))), ((cell_far (p := ⟨gb214, _, none⟩) NB201_214.out _).trans (((cell_far (p := ⟨gb214, _, none⟩) NB201_214.out _).trans (hHeld.2.2.2.2.1)))), ((cell_far (p := ⟨gb214, _, none⟩) NB201_214.out _).trans (((cell_far (p := ⟨gb214, _, none⟩) NB201_214.out _).trans (hHeld.2.2.2.2.2.1)))), ((cell_far (p := ⟨gb214, _, none⟩) NB201_214.out _).trans (((cell_far (p := ⟨gb214, _, none⟩) NB201_214.out _).trans (hHeld.2.2.2.2.2.2.1)))), ((cell_far (p := ⟨gb214, _, none⟩) NB201_214.out _).trans (((cell_far (p := ⟨gb214, _, none⟩) NB201_214.out _).trans (hHeld.2.2.2.2.2.2.2.1)))), ((cell_far (p := ⟨gb214, _, none⟩) NB201_214.out _).trans (((cell_far (p := ⟨gb214, _, none⟩) NB201_214.out _).trans (hHeld.2.2.2.2.2.2.2.2.1)))), ((cell_far (p := ⟨gb214, _, none⟩) NB201_214.out _).trans (((cell_far (p := ⟨gb214, _, none⟩) NB201_214.out _).trans (hHeld.2.2.2.2.2.2.2.2.2.1)))), ((cell_far (p := ⟨gb214, _, none⟩) NB201_214.out _).trans (((cell_far (p := ⟨gb214, _, none⟩) NB201_214.out _).trans (hHeld.2.2.2.2.2.2.2.2.2.2.1)))), ((cell_far (p := ⟨gb214, _, none⟩) NB201_214.out _).trans (((cell_far (p := ⟨gb214, _, none⟩) NB201_214.out _).trans (hHeld.2.2.2.2.2.2.2.2.2.2.2.1)))), ((cell_far (p := ⟨gb214, _, none⟩) NB201_214.out _).trans (((cell_far (p := ⟨gb214, _, none⟩) NB201_214.out _).trans (hHeld.2.2.2.2.2.2.2.2.2.2.2.2.1)))), ((cell_far (p := ⟨gb214, _, none⟩) NB201_214.out _).trans (((cell_far (p := ⟨gb214, _, none⟩) NB201_214.out _).trans (hHeld.2.2.2.2.2.2.2.2.2.2.2.2.2.1)))), ((cell_far (p := ⟨gb214, _, none⟩) NB201_214.out _).trans (((cell_far (p := ⟨gb214, _, none⟩) NB201_214.out _).trans (hHeld.2.2.2.2.2.2.2.2.2.2.2.2.2.2.1)))), ((cell_far (p := ⟨gb214, _, none⟩) NB201_214.out _).trans (((cell_far (p := ⟨gb214, _, none⟩) NB201_214.out _).trans (hHeld.2.2.2.2.2.2.2.2.2.2.2.2.2.2.2.1)))), ((cell_far (p := ⟨gb214, _, none⟩) NB201_214.out _).trans (((cell_far (p := ⟨gb214, _, none⟩) NB201_214.out _).trans (hHeld.2.2.2.2.2.2.2.2.2.2.2.2.2.2.2.2.1)))), ((cell_far (p := ⟨gb214, _, none⟩) NB201_214.out _).trans (((cell_far (p := ⟨gb214, _, none⟩) NB201_214.out _).trans (hHeld.2.2.2.2.2.2.2.2.2.2.2.2.2.2.2.2.2.1)))), ((cell_far (p := ⟨gb214, _, none⟩) NB201_214.out _).trans (((cell_far (p := ⟨gb214, _, none⟩) NB201_214.out _).trans (hHeld.2.2.2.2.2.2.2.2.2.2.2.2.2.2.2.2.2.2.1)))), ((cell_far (p := ⟨gb214, _, none⟩) NB201_214.out _).trans (((cell_far (p := ⟨gb214, _, none⟩) NB201_214.out _).trans (hHeld.2.2.2.2.2.2.2.2.2.2.2.2.2.2.2.2.2.2.2.1)))), ((cell_far (p := ⟨gb214, _, none⟩) NB201_214.out _).trans (((cell_far (p := ⟨gb214, _, none⟩) NB201_214.out _).trans (hHeld.2.2.2.2.2.2.2.2.2.2.2.2.2.2.2.2.2.2.2.2.1)))), ((cell_far (p := ⟨gb214, _, none⟩) NB201_214.out _).trans (((cell_far (p := ⟨gb214, _, none⟩) NB201_214.out _).trans (hHeld.2.2.2.2.2.2.2.2.2.2.2.2.2.2.2.2.2.2.2.2.2.1)))), ((cell_far (p := ⟨gb214, _, none⟩) NB201_214.out _).trans (((cell_far (p := ⟨gb214, _, none⟩) NB201_214.out _).trans (hHeld.2.2.2.2.2.2.2.2.2.2.2.2.2.2.2.2.2.2.2.2.2.2.1)))), ((cell_far (p := ⟨gb214, _, none⟩) NB201_214.out _).trans (((cell_far (p := ⟨gb214, _, none⟩) NB201_214.out _).trans (hHeld.2.2.2.2.2.2.2.2.2.2.2.2.2.2.2.2.2.2.2.2.2.2.2.1)))), ((cell_far (p := ⟨gb214, _, none⟩) NB201_214.out _).trans (((cell_far (p := ⟨gb214, _, none⟩) NB201_214.out _).trans (hHeld.2.2.2.2.2.2.2.2.2.2.2.2.2.2.2.2.2.2.2.2.2.2.2.2))))⟩ (fun hHeld => ?_)
         clear hK K
         refine pz_ 15 11 (nb_ 16 65535) HT_.out ?_
         refine done_ (done_of HT_.out (by kernel_rfl)) ?_
         have hnb50 := NB206_201.out
         have hnc50 := NB201_206.out
         have hnb51 := NB206_202.out
         have hnc51 := NB202_206.out
         have hnb52 := NB206_214.out
         have hnc52 := NB214_206.out
         obtain ⟨Z53_0, Z53_1, Y53_0, Y53_1⟩ := cz2_ BK206.out
         have hnb54 := NB214_201.out
         have hnc54 := NB201_214.out
         have hnb55 := NB214_202.out
         have hnc55 := NB202_214.out
         obtain ⟨Z56_0, Z56_1, Y56_0, Y56_1⟩ := cz2_ BK214.out
         try go_wp2_with (first | ((with_reducible refine gate_load_ (t := 27) rfl ?_); refine ld_ (t := 27) Tryd.underlying27 rfl rfl rfl (by (repeat (first | (with_reducible first | refine blk_drewN ?_ _ | refine blk_drew ?_ | refine blk_alloc ?_ _) | refine blk_far ?_ NB201_202.out _ | refine blk_far ?_ NB201_206.out _ | refine blk_far ?_ NB201_214.out _ | refine blk_set ?_ _ _)); (with_reducible first | exact BK201.out)) rfl (by kernel_rfl) ?_) | ((with_reducible refine gate_load_ (t := 27) rfl ?_); refine ldgA_ (t := 27) Tryd.underlying27 rfl (by rfl) rfl (by (repeat (first | (with_reducible first | refine blk_drewN ?_ _ | refine blk_drew ?_ | refine blk_alloc ?_ _) | refine blk_far ?_ NB201_202.out _ | refine blk_far ?_ NB201_206.out _ | refine blk_far ?_ NB201_214.out _ | refine blk_set ?_ _ _)); (with_reducible first | exact BK201.out)) rfl (by kernel_rfl) ?_) | ((with_reducible refine gate_callee (f := 30) rfl ?_); refine goesL_ (some 63) rfl rfl Tryd.func30 (by kernel_rfl) rfl #[.agg #[.int .i64 x207000_2, .int .u64 x207001_2], .agg #[.int .i64 t211, .int .u64 t212]] rfl ql_ ?_; (with_reducible refine (wide_Add.calls x207000_2 x207001_2 t211 t212 t215 t216 t217 _ A39.out).mono ?_); rintro e w57 ⟨rfl, hb⟩; refine ⟨_, rfl, ?_⟩; replace BK201 := am_ (blk_below (g := gb201) (o := .cells #[.int .i64 a0_0, .int .i64 a0_1, .int .i64 a0_2, .int .i64 a0_3, .int .i64 a0_4, .int .i64 a0_5, .int .i64 a0_6, .int .i64 a0_7, .int .i64 a0_8, .int .i64 a0_9, .int .i64 a0_10, .int .i64 a0_11, .int .i64 a0_12, .int .i64 a0_13, .int .i64 a0_14, .int .i64 a0_15, .int .i64 a0_16, .int .i64 a0_17, .int .i64 a0_18, .int .i64 a0_19, .int .i64 a0_20, .string a0_21, .string a0_22, .slice A0_23 l0_23.length c0_23, .slice A0_24 l0_24.length c0_24] 27 (0, 0)) (qff_ NB201_214.out NB201_214.out BK201.out) hb); replace BK202 := am_ (blk_below (g := gb202) (o := .cells #[.int .i64 x203000_2, .int .u64 x203001_2] 32 (0, 0)) (qff_ NB202_214.out NB202_214.out BK202.out) hb); replace BK206 := am_ (blk_below (g := gb206) (o := .cells #[.int .i64 x207000_2, .int .u64 x207001_2] 32 (0, 0)) (qff_ NB206_214.out NB206_214.out BK206.out) hb); replace BK214 := am_ (blk_below (g := gb214) (o := .cells #[.int .i64 t211, .int .u64 t212] 32 (0, 0)) (qpp_ #[.int .i64 t211, .int .u64 0] 1 #[.int .i64 0, .int .u64 0] 0 BK214.out) hb); replace HB := am_ (below_step (qb4_ GE201.out GE202.out GE206.out GE214.out HB.out) hb); (try clear hb); obtain ⟨Z58_0, Z58_1, Y58_0, Y58_1⟩ := cz2_ BK206.out))
         go_roundg k2
         case measure => have := HJ3.out; have := HK2.out; omega
         case rel => exact ⟨(wrap64 (x9_2 + 1)), (x203000_2), (x203001_2), (t215), (t216), qs_, H', ⟨by have := HJ3.out; have := HK2.out; omega⟩, ⟨qff_ NB201_206.out NB201_206.out BK201.out⟩, ⟨qff_ NB202_206.out NB202_206.out BK202.out⟩, ⟨qpp_ #[.int .i64 t215, .int .u64 x207001_2] 1 #[.int .i64 x207000_2, .int .u64 x207001_2] 0 BK206.out⟩, ⟨qb4_ GE201.out GE202.out GE206.out GE214.out HB.out⟩⟩
        ·rw [if_neg c40] at H
         have c40b0 : (t217 == 0) = false := beq_eq_false_iff_ne.mpr c40
         have c40b1 : (t217 != 0) = true := bne_iff_ne.mpr c40
         simp only [Option.some.injEq, Prod.mk.injEq] at H
         obtain ⟨rfl, rfl, rfl⟩ := H
         try go_wp2
         replace BK201 := am_ (blk_drew BK201.out)
         replace BK202 := am_ (blk_drew BK202.out)
         replace BK206 := am_ (blk_drew BK206.out)
         replace HB := am_ (below_drew1 HB.out)
         refine start_ (n := 16) (S := cS25_ gb201 (.int .i64 a0_0) (.int .i64 a0_1) (.int .i64 a0_2) (.int .i64 a0_3) (.int .i64 a0_4) (.int .i64 a0_5) (.int .i64 a0_6) (.int .i64 a0_7) (.int .i64 a0_8) (.int .i64 a0_9) (.int .i64 a0_10) (.int .i64 a0_11) (.int .i64 a0_12) (.int .i64 a0_13) (.int .i64 a0_14) (.int .i64 a0_15) (.int .i64 a0_16) (.int .i64 a0_17) (.int .i64 a0_18) (.int .i64 a0_19) (.int .i64 a0_20) (.string a0_21) (.string a0_22) (.slice A0_23 l0_23.length c0_23) (.slice A0_24 l0_24.length c0_24)) (ds := []) (nb_ 16 0) (by kernel_rfl) rfl rfl (cc25_ BK201.out) (fun hHeld => ?_); refine with_tabW arrears_Penalty.tab7 arrears_Penalty.bits7 (fun HT_ HW_ => ?_)
         generalize wr.drew = w59 at BK201 BK202 BK206 HB hHeld ⊢
         refine pz_ 1 45 (nb_ 16 2) HT_.out ?_
         refine pz_ 3 47 (nb_ 16 10) HT_.out ?_
         refine pz_ 4 48 (nb_ 16 26) HT_.out ?_
         refine pz_ 7 51 (nb_ 16 154) HT_.out ?_
         refine take_ (i := 0) (N := some 44) (v := ?_) (a' := ?_) (nb_ 16 155) rfl rfl (take_ofW HT_.out HW_.out (by kernel_rfl)) (fun _ _ _ h => h) (Or.inl ⟨by rfl, ?_⟩) hHeld ?_ ?_
         rotate_left
         ·rintro w' hs_
          first
          | (refine Eq.trans (ldx_ (by rfl) (by rfl) (ldS_ hs_)) ?_; with_reducible rfl)
          | (obtain ⟨s0, s1, s2, s3, s4, s5, s6, s7, s8, s9, s10, s11, s12, s13, s14, s15, s16, s17, s18, s19, s20, s21, s22, s23, s24⟩ := hs_; go_simp; with_reducible rfl)
         rotate_left
         ·simp only [Act.put, List.setIfInBounds_toArray, List.set_cons_zero, List.set_cons_succ, i64_w, i32_w]
          rfl
         refine take_ (i := 5) (N := some 49) (v := ?_) (a' := ?_) (nb_ 16 187) rfl rfl (take_ofW HT_.out HW_.out (by kernel_rfl)) (fun _ _ _ h => h) (Or.inl ⟨by rfl, ?_⟩) hHeld ?_ ?_
         rotate_left
         ·rintro w' hs_
          first
          | (refine Eq.trans (ldx_ (by rfl) (by rfl) (ldS_ hs_)) ?_; with_reducible rfl)
          | (obtain ⟨s0, s1, s2, s3, s4, s5, s6, s7, s8, s9, s10, s11, s12, s13, s14, s15, s16, s17, s18, s19, s20, s21, s22, s23, s24⟩ := hs_; go_simp; with_reducible rfl)
         rotate_left
         ·simp only [Act.put, List.setIfInBounds_toArray, List.set_cons_zero, List.set_cons_succ, i64_w, i32_w]
          rfl
         refine join_ (σ := Nat) 2 (nb_ 16 16383) (fun s_ => [(46, .int .i64 t207), (50, .agg #[.int .i64 t208, .int .u64 t209]), (52, .int .i64 t210), (53, .tuple #[.agg #[.int .i64 t211, .int .u64 t212], .int .i64 t213]), (10, .pointer (some ⟨s_, 0, none⟩)), (43, .tuple #[.agg #[.int .i64 t211, .int .u64 t212], .int .i64 t213]), (54, .agg #[.int .i64 t211, .int .u64 t212]), (55, .int .i64 t213)]) (fun s_ w' => (cS25_ gb201 (.int .i64 a0_0) (.int .i64 a0_1) (.int .i64 a0_2) (.int .i64 a0_3) (.int .i64 a0_4) (.int .i64 a0_5) (.int .i64 a0_6) (.int .i64 a0_7) (.int .i64 a0_8) (.int .i64 a0_9) (.int .i64 a0_10) (.int .i64 a0_11) (.int .i64 a0_12) (.int .i64 a0_13) (.int .i64 a0_14) (.int .i64 a0_15) (.int .i64 a0_16) (.int .i64 a0_17) (.int .i64 a0_18) (.int .i64 a0_19) (.int .i64 a0_20) (.string a0_21) (.string a0_22) (.slice A0_23 l0_23.length c0_23) (.slice A0_24 l0_24.length c0_24) w') ∧ (w'.heap[gb201]? = some (.cells #[.int .i64 a0_0, .int .i64 a0_1, .int .i64 a0_2, .int .i64 a0_3, .int .i64 a0_4, .int .i64 a0_5, .int .i64 a0_6, .int .i64 a0_7, .int .i64 a0_8, .int .i64 a0_9, .int .i64 a0_10, .int .i64 a0_11, .int .i64 a0_12, .int .i64 a0_13, .int .i64 a0_14, .int .i64 a0_15, .int .i64 a0_16, .int .i64 a0_17, .int .i64 a0_18, .int .i64 a0_19, .int .i64 a0_20, .string a0_21, .string a0_22, .slice A0_23 l0_23.length c0_23, .slice A0_24 l0_24.length c0_24] 27 (0, 0))) ∧ (w'.heap[gb202]? = some (.cells #[.int .i64 x203000_2, .int .u64 x203001_2] 32 (0, 0))) ∧ (w'.heap[gb206]? = some (.cells #[.int .i64 x207000_2, .int .u64 x207001_2] 32 (0, 0))) ∧ (w'.heap[s_]? = some (.cells #[.int .i64 0, .int .u64 0] 32 (0, 0))) ∧ (w.heap.size ≤ s_) ∧ (w.heap.size ≤ s_) ∧ (gb201 ≠ s_) ∧ (s_ ≠ gb201) ∧ (gb202 ≠ s_) ∧ (s_ ≠ gb202) ∧ (gb206 ≠ s_) ∧ (s_ ≠ gb206) ∧ (Below w.heap.size w w')) ?_ ?_
         rotate_left
         ·intro hJ2_6_8_9_13
          refine join_ (σ := Unit) 3 (nb_ 16 8191) (fun s_ => [(46, .int .i64 t207), (50, .agg #[.int .i64 t208, .int .u64 t209]), (52, .int .i64 t210), (53, .tuple #[.agg #[.int .i64 t211, .int .u64 t212], .int .i64 t213]), (43, .tuple #[.agg #[.int .i64 t211, .int .u64 t212], .int .i64 t213]), (54, .agg #[.int .i64 t211, .int .u64 t212]), (55, .int .i64 t213)]) (fun s_ w' => (cS25_ gb201 (.int .i64 a0_0) (.int .i64 a0_1) (.int .i64 a0_2) (.int .i64 a0_3) (.int .i64 a0_4) (.int .i64 a0_5) (.int .i64 a0_6) (.int .i64 a0_7) (.int .i64 a0_8) (.int .i64 a0_9) (.int .i64 a0_10) (.int .i64 a0_11) (.int .i64 a0_12) (.int .i64 a0_13) (.int .i64 a0_14) (.int .i64 a0_15) (.int .i64 a0_16) (.int .i64 a0_17) (.int .i64 a0_18) (.int .i64 a0_19) (.int .i64 a0_20) (.string a0_21) (.string a0_22) (.slice A0_23 l0_23.length c0_23) (.slice A0_24 l0_24.length c0_24) w') ∧ (w'.heap[gb201]? = some (.cells #[.int .i64 a0_0, .int .i64 a0_1, .int .i64 a0_2, .int .i64 a0_3, .int .i64 a0_4, .int .i64 a0_5, .int .i64 a0_6, .int .i64 a0_7, .int .i64 a0_8, .int .i64 a0_9, .int .i64 a0_10, .int .i64 a0_11, .int .i64 a0_12, .int .i64 a0_13, .int .i64 a0_14, .int .i64 a0_15, .int .i64 a0_16, .int .i64 a0_17, .int .i64 a0_18, .int .i64 a0_19, .int .i64 a0_20, .string a0_21, .string a0_22, .slice A0_23 l0_23.length c0_23, .slice A0_24 l0_24.length c0_24] 27 (0, 0))) ∧ (w'.heap[gb202]? = some (.cells #[.int .i64 x203000_2, .int .u64 x203001_2] 32 (0, 0))) ∧ (w'.heap[gb206]? = some (.cells #[.int .i64 x207000_2, .int .u64 x207001_2] 32 (0, 0))) ∧ (Below w.heap.size w w')) ?_ ?_
          rotate_left
          ·intro hJ2_6_8_9
           refine join_ (σ := Nat) 6 (nb_ 16 8703) (fun s_ => [(46, .int .i64 t207), (50, .agg #[.int .i64 t208, .int .u64 t209]), (52, .int .i64 t210), (10, .pointer (some ⟨s_, 0, none⟩))]) (fun s_ w' => (cS25_ gb201 (.int .i64 a0_0) (.int .i64 a0_1) (.int .i64 a0_2) (.int .i64 a0_3) (.int .i64 a0_4) (.int .i64 a0_5) (.int .i64 a0_6) (.int .i64 a0_7) (.int .i64 a0_8) (.int .i64 a0_9) (.int .i64 a0_10) (.int .i64 a0_11) (.int .i64 a0_12) (.int .i64 a0_13) (.int .i64 a0_14) (.int .i64 a0_15) (.int .i64 a0_16) (.int .i64 a0_17) (.int .i64 a0_18) (.int .i64 a0_19) (.int .i64 a0_20) (.string a0_21) (.string a0_22) (.slice A0_23 l0_23.length c0_23) (.slice A0_24 l0_24.length c0_24) w') ∧ (w'.heap[gb201]? = some (.cells #[.int .i64 a0_0, .int .i64 a0_1, .int .i64 a0_2, .int .i64 a0_3, .int .i64 a0_4, .int .i64 a0_5, .int .i64 a0_6, .int .i64 a0_7, .int .i64 a0_8, .int .i64 a0_9, .int .i64 a0_10, .int .i64 a0_11, .int .i64 a0_12, .int .i64 a0_13, .int .i64 a0_14, .int .i64 a0_15, .int .i64 a0_16, .int .i64 a0_17, .int .i64 a0_18, .int .i64 a0_19, .int .i64 a0_20, .string a0_21, .string a0_22, .slice A0_23 l0_23.length c0_23, .slice A0_24 l0_24.length c0_24] 27 (0, 0))) ∧ (w'.heap[gb202]? = some (.cells #[.int .i64 x203000_2, .int .u64 x203001_2] 32 (0, 0))) ∧ (w'.heap[gb206]? = some (.cells #[.int .i64 x207000_2, .int .u64 x207001_2] 32 (0, 0))) ∧ (w'.heap[s_]? = some (.cells #[.int .i64 0, .int .u64 0] 32 (0, 0))) ∧ (w.heap.size ≤ s_) ∧ (w.heap.size ≤ s_) ∧ (gb201 ≠ s_) ∧ (s_ ≠ gb201) ∧ (gb202 ≠ s_) ∧ (s_ ≠ gb202) ∧ (gb206 ≠ s_) ∧ (s_ ≠ gb206) ∧ (Below w.heap.size w w')) ?_ ?_
           rotate_left
           ·intro hJ2_6_8_13
            refine join_ (σ := Unit) 7 (nb_ 16 511) (fun s_ => [(46, .int .i64 t207), (50, .agg #[.int .i64 t208, .int .u64 t209]), (52, .int .i64 t210)]) (fun s_ w' => (cS25_ gb201 (.int .i64 a0_0) (.int .i64 a0_1) (.int .i64 a0_2) (.int .i64 a0_3) (.int .i64 a0_4) (.int .i64 a0_5) (.int .i64 a0_6) (.int .i64 a0_7) (.int .i64 a0_8) (.int .i64 a0_9) (.int .i64 a0_10) (.int .i64 a0_11) (.int .i64 a0_12) (.int .i64 a0_13) (.int .i64 a0_14) (.int .i64 a0_15) (.int .i64 a0_16) (.int .i64 a0_17) (.int .i64 a0_18) (.int .i64 a0_19) (.int .i64 a0_20) (.string a0_21) (.string a0_22) (.slice A0_23 l0_23.length c0_23) (.slice A0_24 l0_24.length c0_24) w') ∧ (w'.heap[gb201]? = some (.cells #[.int .i64 a0_0, .int .i64 a0_1, .int .i64 a0_2, .int .i64 a0_3, .int .i64 a0_4, .int .i64 a0_5, .int .i64 a0_6, .int .i64 a0_7, .int .i64 a0_8, .int .i64 a0_9, .int .i64 a0_10, .int .i64 a0_11, .int .i64 a0_12, .int .i64 a0_13, .int .i64 a0_14, .int .i64 a0_15, .int .i64 a0_16, .int .i64 a0_17, .int .i64 a0_18, .int .i64 a0_19, .int .i64 a0_20, .string a0_21, .string a0_22, .slice A0_23 l0_23.length c0_23, .slice A0_24 l0_24.length c0_24] 27 (0, 0))) ∧ (w'.heap[gb202]? = some (.cells #[.int .i64 x203000_2, .int .u64 x203001_2] 32 (0, 0))) ∧ (w'.heap[gb206]? = some (.cells #[.int .i64 x207000_2, .int .u64 x207001_2] 32 (0, 0))) ∧ (Below w.heap.size w w')) ?_ ?_
            rotate_left
            ·intro hJ2_6_8
             refine join_ (σ := Nat) 7 (nb_ 16 8447) (fun s_ => [(46, .int .i64 t207), (50, .agg #[.int .i64 t208, .int .u64 t209]), (10, .pointer (some ⟨s_, 0, none⟩))]) (fun s_ w' => (cS25_ gb201 (.int .i64 a0_0) (.int .i64 a0_1) (.int .i64 a0_2) (.int .i64 a0_3) (.int .i64 a0_4) (.int .i64 a0_5) (.int .i64 a0_6) (.int .i64 a0_7) (.int .i64 a0_8) (.int .i64 a0_9) (.int .i64 a0_10) (.int .i64 a0_11) (.int .i64 a0_12) (.int .i64 a0_13) (.int .i64 a0_14) (.int .i64 a0_15) (.int .i64 a0_16) (.int .i64 a0_17) (.int .i64 a0_18) (.int .i64 a0_19) (.int .i64 a0_20) (.string a0_21) (.string a0_22) (.slice A0_23 l0_23.length c0_23) (.slice A0_24 l0_24.length c0_24) w') ∧ (w'.heap[gb201]? = some (.cells #[.int .i64 a0_0, .int .i64 a0_1, .int .i64 a0_2, .int .i64 a0_3, .int .i64 a0_4, .int .i64 a0_5, .int .i64 a0_6, .int .i64 a0_7, .int .i64 a0_8, .int .i64 a0_9, .int .i64 a0_10, .int .i64 a0_11, .int .i64 a0_12, .int .i64 a0_13, .int .i64 a0_14, .int .i64 a0_15, .int .i64 a0_16, .int .i64 a0_17, .int .i64 a0_18, .int .i64 a0_19, .int .i64 a0_20, .string a0_21, .string a0_22, .slice A0_23 l0_23.length c0_23, .slice A0_24 l0_24.length c0_24] 27 (0, 0))) ∧ (w'.heap[gb202]? = some (.cells #[.int .i64 x203000_2, .int .u64 x203001_2] 32 (0, 0))) ∧ (w'.heap[gb206]? = some (.cells #[.int .i64 x207000_2, .int .u64 x207001_2] 32 (0, 0))) ∧ (w'.heap[s_]? = some (.cells #[.int .i64 0, .int .u64 0] 32 (0, 0))) ∧ (w.heap.size ≤ s_) ∧ (w.heap.size ≤ s_) ∧ (gb201 ≠ s_) ∧ (s_ ≠ gb201) ∧ (gb202 ≠ s_) ∧ (s_ ≠ gb202) ∧ (gb206 ≠ s_) ∧ (s_ ≠ gb206) ∧ (Below w.heap.size w w')) ?_ ?_
             rotate_left
             ·intro hJ2_6_13
              refine join_ (σ := Unit) 8 (nb_ 16 255) (fun s_ => [(46, .int .i64 t207), (50, .agg #[.int .i64 t208, .int .u64 t209])]) (fun s_ w' => (cS25_ gb201 (.int .i64 a0_0) (.int .i64 a0_1) (.int .i64 a0_2) (.int .i64 a0_3) (.int .i64 a0_4) (.int .i64 a0_5) (.int .i64 a0_6) (.int .i64 a0_7) (.int .i64 a0_8) (.int .i64 a0_9) (.int .i64 a0_10) (.int .i64 a0_11) (.int .i64 a0_12) (.int .i64 a0_13) (.int .i64 a0_14) (.int .i64 a0_15) (.int .i64 a0_16) (.int .i64 a0_17) (.int .i64 a0_18) (.int .i64 a0_19) (.int .i64 a0_20) (.string a0_21) (.string a0_22) (.slice A0_23 l0_23.length c0_23) (.slice A0_24 l0_24.length c0_24) w') ∧ (w'.heap[gb201]? = some (.cells #[.int .i64 a0_0, .int .i64 a0_1, .int .i64 a0_2, .int .i64 a0_3, .int .i64 a0_4, .int .i64 a0_5, .int .i64 a0_6, .int .i64 a0_7, .int .i64 a0_8, .int .i64 a0_9, .int .i64 a0_10, .int .i64 a0_11, .int .i64 a0_12, .int .i64 a0_13, .int .i64 a0_14, .int .i64 a0_15, .int .i64 a0_16, .int .i64 a0_17, .int .i64 a0_18, .int .i64 a0_19, .int .i64 a0_20, .string a0_21, .string a0_22, .slice A0_23 l0_23.length c0_23, .slice A0_24 l0_24.length c0_24] 27 (0, 0))) ∧ (w'.heap[gb202]? = some (.cells #[.int .i64 x203000_2, .int .u64 x203001_2] 32 (0, 0))) ∧ (w'.heap[gb206]? = some (.cells #[.int .i64 x207000_2, .int .u64 x207001_2] 32 (0, 0))) ∧ (Below w.heap.size w w')) ?_ ?_
              rotate_left
              ·intro hJ2_6
               refine join_ (σ := Nat) 8 (nb_ 16 8383) (fun s_ => [(46, .int .i64 t207), (10, .pointer (some ⟨s_, 0, none⟩))]) (fun s_ w' => (cS25_ gb201 (.int .i64 a0_0) (.int .i64 a0_1) (.int .i64 a0_2) (.int .i64 a0_3) (.int .i64 a0_4) (.int .i64 a0_5) (.int .i64 a0_6) (.int .i64 a0_7) (.int .i64 a0_8) (.int .i64 a0_9) (.int .i64 a0_10) (.int .i64 a0_11) (.int .i64 a0_12) (.int .i64 a0_13) (.int .i64 a0_14) (.int .i64 a0_15) (.int .i64 a0_16) (.int .i64 a0_17) (.int .i64 a0_18) (.int .i64 a0_19) (.int .i64 a0_20) (.string a0_21) (.string a0_22) (.slice A0_23 l0_23.length c0_23) (.slice A0_24 l0_24.length c0_24) w') ∧ (w'.heap[gb201]? = some (.cells #[.int .i64 a0_0, .int .i64 a0_1, .int .i64 a0_2, .int .i64 a0_3, .int .i64 a0_4, .int .i64 a0_5, .int .i64 a0_6, .int .i64 a0_7, .int .i64 a0_8, .int .i64 a0_9, .int .i64 a0_10, .int .i64 a0_11, .int .i64 a0_12, .int .i64 a0_13, .int .i64 a0_14, .int .i64 a0_15, .int .i64 a0_16, .int .i64 a0_17, .int .i64 a0_18, .int .i64 a0_19, .int .i64 a0_20, .string a0_21, .string a0_22, .slice A0_23 l0_23.length c0_23, .slice A0_24 l0_24.length c0_24] 27 (0, 0))) ∧ (w'.heap[gb202]? = some (.cells #[.int .i64 x203000_2, .int .u64 x203001_2] 32 (0, 0))) ∧ (w'.heap[gb206]? = some (.cells #[.int .i64 x207000_2, .int .u64 x207001_2] 32 (0, 0))) ∧ (w'.heap[s_]? = some (.cells #[.int .i64 0, .int .u64 0] 32 (0, 0))) ∧ (w.heap.size ≤ s_) ∧ (w.heap.size ≤ s_) ∧ (gb201 ≠ s_) ∧ (s_ ≠ gb201) ∧ (gb202 ≠ s_) ∧ (s_ ≠ gb202) ∧ (gb206 ≠ s_) ∧ (s_ ≠ gb206) ∧ (Below w.heap.size w w')) ?_ ?_
               rotate_left
               ·intro hJ2_13
                refine join_ (σ := Unit) 9 (nb_ 16 191) (fun s_ => [(46, .int .i64 t207)]) (fun s_ w' => (cS25_ gb201 (.int .i64 a0_0) (.int .i64 a0_1) (.int .i64 a0_2) (.int .i64 a0_3) (.int .i64 a0_4) (.int .i64 a0_5) (.int .i64 a0_6) (.int .i64 a0_7) (.int .i64 a0_8) (.int .i64 a0_9) (.int .i64 a0_10) (.int .i64 a0_11) (.int .i64 a0_12) (.int .i64 a0_13) (.int .i64 a0_14) (.int .i64 a0_15) (.int .i64 a0_16) (.int .i64 a0_17) (.int .i64 a0_18) (.int .i64 a0_19) (.int .i64 a0_20) (.string a0_21) (.string a0_22) (.slice A0_23 l0_23.length c0_23) (.slice A0_24 l0_24.length c0_24) w') ∧ (w'.heap[gb201]? = some (.cells #[.int .i64 a0_0, .int .i64 a0_1, .int .i64 a0_2, .int .i64 a0_3, .int .i64 a0_4, .int .i64 a0_5, .int .i64 a0_6, .int .i64 a0_7, .int .i64 a0_8, .int .i64 a0_9, .int .i64 a0_10, .int .i64 a0_11, .int .i64 a0_12, .int .i64 a0_13, .int .i64 a0_14, .int .i64 a0_15, .int .i64 a0_16, .int .i64 a0_17, .int .i64 a0_18, .int .i64 a0_19, .int .i64 a0_20, .string a0_21, .string a0_22, .slice A0_23 l0_23.length c0_23, .slice A0_24 l0_24.length c0_24] 27 (0, 0))) ∧ (w'.heap[gb202]? = some (.cells #[.int .i64 x203000_2, .int .u64 x203001_2] 32 (0, 0))) ∧ (w'.heap[gb206]? = some (.cells #[.int .i64 x207000_2, .int .u64 x207001_2] 32 (0, 0))) ∧ (Below w.heap.size w w')) ?_ ?_
                rotate_left
                ·intro hJ2
                 refine join_ (σ := Nat) 9 (nb_ 16 8379) (fun s_ => [(10, .pointer (some ⟨s_, 0, none⟩))]) (fun s_ w' => (cS25_ gb201 (.int .i64 a0_0) (.int .i64 a0_1) (.int .i64 a0_2) (.int .i64 a0_3) (.int .i64 a0_4) (.int .i64 a0_5) (.int .i64 a0_6) (.int .i64 a0_7) (.int .i64 a0_8) (.int .i64 a0_9) (.int .i64 a0_10) (.int .i64 a0_11) (.int .i64 a0_12) (.int .i64 a0_13) (.int .i64 a0_14) (.int .i64 a0_15) (.int .i64 a0_16) (.int .i64 a0_17) (.int .i64 a0_18) (.int .i64 a0_19) (.int .i64 a0_20) (.string a0_21) (.string a0_22) (.slice A0_23 l0_23.length c0_23) (.slice A0_24 l0_24.length c0_24) w') ∧ (w'.heap[gb201]? = some (.cells #[.int .i64 a0_0, .int .i64 a0_1, .int .i64 a0_2, .int .i64 a0_3, .int .i64 a0_4, .int .i64 a0_5, .int .i64 a0_6, .int .i64 a0_7, .int .i64 a0_8, .int .i64 a0_9, .int .i64 a0_10, .int .i64 a0_11, .int .i64 a0_12, .int .i64 a0_13, .int .i64 a0_14, .int .i64 a0_15, .int .i64 a0_16, .int .i64 a0_17, .int .i64 a0_18, .int .i64 a0_19, .int .i64 a0_20, .string a0_21, .string a0_22, .slice A0_23 l0_23.length c0_23, .slice A0_24 l0_24.length c0_24] 27 (0, 0))) ∧ (w'.heap[gb202]? = some (.cells #[.int .i64 x203000_2, .int .u64 x203001_2] 32 (0, 0))) ∧ (w'.heap[gb206]? = some (.cells #[.int .i64 x207000_2, .int .u64 x207001_2] 32 (0, 0))) ∧ (w'.heap[s_]? = some (.cells #[.int .i64 0, .int .u64 0] 32 (0, 0))) ∧ (w.heap.size ≤ s_) ∧ (w.heap.size ≤ s_) ∧ (gb201 ≠ s_) ∧ (s_ ≠ gb201) ∧ (gb202 ≠ s_) ∧ (s_ ≠ gb202) ∧ (gb206 ≠ s_) ∧ (s_ ≠ gb206) ∧ (Below w.heap.size w w')) ?_ ?_
                 rotate_left
                 ·intro hJ13
                  refine two_ (i := 2) (j := 13) (Ni := some 46) (Nj := some 10) (nb_ 16 191) (nb_ 16 8379) rfl rfl rfl rfl (two_of HT_.out (by kernel_rfl)) (by decide) (by decide) (fun K hK => ?_) (fun K hK => ?_)
                  ·skip
                   refine goes_ Tryd.func17 (by kernel_rfl) rfl #[.agg #[.int .i64 a0_0, .int .i64 a0_1, .int .i64 a0_2, .int .i64 a0_3, .int .i64 a0_4, .int .i64 a0_5, .int .i64 a0_6, .int .i64 a0_7, .int .i64 a0_8, .int .i64 a0_9, .int .i64 a0_10, .int .i64 a0_11, .int .i64 a0_12, .int .i64 a0_13, .int .i64 a0_14, .int .i64 a0_15, .int .i64 a0_16, .int .i64 a0_17, .int .i64 a0_18, .int .i64 a0_19, .int .i64 a0_20, .string a0_21, .string a0_22, .slice A0_23 l0_23.length c0_23, .slice A0_24 l0_24.length c0_24], .int .i64 x9_2] (by rfl) rfl rfl ql_ ?_
                   with_reducible refine (arrears_Overdue.calls k2 a0_0 a0_1 a0_2 a0_3 a0_4 a0_5 a0_6 a0_7 a0_8 a0_9 a0_10 a0_11 a0_12 a0_13 a0_14 a0_15 a0_16 a0_17 a0_18 a0_19 a0_20 a0_21 a0_22 _ _ l0_23 _ _ l0_24 x9_2 t207 _ ?side1 ?side2 ?side3 ?side4 A34.out).mono ?_
                   (case side1 => repeat (first | exact (Kd.C_below HR0_23.out HB.out) | (with_reducible refine Kd.C_alloc ?_ _) | (with_reducible refine Kd.C_drewN ?_ _) | (with_reducible refine Kd.C_drew ?_)))
                   (case side2 => exact HC0_23.out)
                   (case side3 => repeat (first | exact (Kd.C_below HR0_24.out HB.out) | (with_reducible refine Kd.C_alloc ?_ _) | (with_reducible refine Kd.C_drewN ?_ _) | (with_reducible refine Kd.C_drew ?_)))
                   (case side4 => exact HC0_24.out)
                   rintro e w60 ⟨rfl, hb⟩
                   refine ⟨_, rfl, ?_⟩
                   replace BK201 := am_ (blk_below (qk_ BK201.out) hb)
                   replace BK202 := am_ (blk_below (qk_ BK202.out) hb)
                   replace BK206 := am_ (blk_below (qk_ BK206.out) hb)
                   replace HB := am_ (below_step (qb3_ GE201.out GE202.out GE206.out HB.out) hb)
                   (try clear hb)
                   refine hK.out _ _ (cc25_ BK201.out) (fun hHeld => ?_)
                   clear hK K
                   refine no_ ?_
                   exact norm_ (by first | (simp only [putAll, Act.put, List.setIfInBounds_toArray, List.set_cons_zero, List.set_cons_succ]; done) | (simp only [putAll, Act.put, List.setIfInBounds_toArray, List.set_cons_zero, List.set_cons_succ]; rfl)) (hJ2 () _ ⟨hHeld, (qk_ BK201.out), (qk_ BK202.out), (qk_ BK206.out), (qb3_ GE201.out GE202.out GE206.out HB.out)⟩)
                  ·skip
                   refine box_step ?hg (N := 10) ?hd (cs := #[.int .i64 0, .int .u64 0]) (t := 32) ?hr ?_; (case hd => rfl); (case hg => rfl); (case hr => first | (go_simp; done) | (go_simp; rfl))
                   intro gb214 hg w60 hbox hb
                   have BK214 := am_ (hbox)
                   have GW214 := am_ (bz_ hg (qb3_ GE201.out GE202.out GE206.out HB.out) : w.heap.size ≤ gb214)
                   have GE214 := am_ (bz_ hg (qb3_ GE201.out GE202.out GE206.out HB.out) : w.heap.size ≤ gb214)
                   replace HB := am_ (below_step (qb3_ GE201.out GE202.out GE206.out HB.out) hb)
                   have NB201_214 := am_ (nl_ hg (qk_ BK201.out) : gb201 ≠ gb214)
                   have NB214_201 := am_ (ng_ hg (qk_ BK201.out) : gb214 ≠ gb201)
                   replace BK201 := am_ (blk_below (qk_ BK201.out) hb)
                   have NB202_214 := am_ (nl_ hg (qk_ BK202.out) : gb202 ≠ gb214)
                   have NB214_202 := am_ (ng_ hg (qk_ BK202.out) : gb214 ≠ gb202)
                   replace BK202 := am_ (blk_below (qk_ BK202.out) hb)
                   have NB206_214 := am_ (nl_ hg (qk_ BK206.out) : gb206 ≠ gb214)
                   have NB214_206 := am_ (ng_ hg (qk_ BK206.out) : gb214 ≠ gb206)
                   replace BK206 := am_ (blk_below (qk_ BK206.out) hb)
                   clear hb hbox hg
                   refine hK.out _ _ (cc25_ BK201.out) (fun hHeld => ?_)
                   clear hK K
                   refine no_ ?_
                   exact norm_ (by first | (simp only [putAll, Act.put, List.setIfInBounds_toArray, List.set_cons_zero, List.set_cons_succ]; done) | (simp only [putAll, Act.put, List.setIfInBounds_toArray, List.set_cons_zero, List.set_cons_succ]; rfl)) (hJ13 (gb214) _ ⟨hHeld, (qk_ BK201.out), (qk_ BK202.out), (qk_ BK206.out), (qk_ BK214.out), GW214.out, GE214.out, NB201_214.out, NB214_201.out, NB202_214.out, NB214_202.out, NB206_214.out, NB214_206.out, (qb4_ GE201.out GE202.out GE206.out GE214.out HB.out)⟩)
                 ·skip
                  rintro gb214 w61 ⟨hS_, h0_, h1_, h2_, h3_, h4_, h5_, h6_, h7_, h8_, h9_, h10_, h11_, h12_⟩
                  replace BK201 := am_ h0_
                  replace BK202 := am_ h1_
                  replace BK206 := am_ h2_
                  have BK214 := am_ h3_
                  have GW214 := am_ h4_
                  have GE214 := am_ h5_
                  have NB201_214 := am_ h6_
                  have NB214_201 := am_ h7_
                  have NB202_214 := am_ h8_
                  have NB214_202 := am_ h9_
                  have NB206_214 := am_ h10_
                  have NB214_206 := am_ h11_
                  replace HB := am_ h12_
                  clear h0_ h1_ h2_ h3_ h4_ h5_ h6_ h7_ h8_ h9_ h10_ h11_ h12_
                  have hHeld := hS_
                  refine norm_ (a' := ?_) ?_ ?_
                  rotate_left
                  ·simp only [putAll, Act.put, List.setIfInBounds_toArray, List.set_cons_zero, List.set_cons_succ]
                   rfl
                  refine on_ 2 46 (nb_ 16 8383) HT_.out (fun K hK => ?_)
                  refine goes_ Tryd.func17 (by kernel_rfl) rfl #[.agg #[.int .i64 a0_0, .int .i64 a0_1, .int .i64 a0_2, .int .i64 a0_3, .int .i64 a0_4, .int .i64 a0_5, .int .i64 a0_6, .int .i64 a0_7, .int .i64 a0_8, .int .i64 a0_9, .int .i64 a0_10, .int .i64 a0_11, .int .i64 a0_12, .int .i64 a0_13, .int .i64 a0_14, .int .i64 a0_15, .int .i64 a0_16, .int .i64 a0_17, .int .i64 a0_18, .int .i64 a0_19, .int .i64 a0_20, .string a0_21, .string a0_22, .slice A0_23 l0_23.length c0_23, .slice A0_24 l0_24.length c0_24], .int .i64 x9_2] (by rfl) rfl rfl ql_ ?_
                  with_reducible refine (arrears_Overdue.calls k2 a0_0 a0_1 a0_2 a0_3 a0_4 a0_5 a0_6 a0_7 a0_8 a0_9 a0_10 a0_11 a0_12 a0_13 a0_14 a0_15 a0_16 a0_17 a0_18 a0_19 a0_20 a0_21 a0_22 _ _ l0_23 _ _ l0_24 x9_2 t207 _ ?side1 ?side2 ?side3 ?side4 A34.out).mono ?_
                  (case side1 => repeat (first | exact (Kd.C_below HR0_23.out HB.out) | (with_reducible refine Kd.C_alloc ?_ _) | (with_reducible refine Kd.C_drewN ?_ _) | (with_reducible refine Kd.C_drew ?_)))
                  (case side2 => exact HC0_23.out)
                  (case side3 => repeat (first | exact (Kd.C_below HR0_24.out HB.out) | (with_reducible refine Kd.C_alloc ?_ _) | (with_reducible refine Kd.C_drewN ?_ _) | (with_reducible refine Kd.C_drew ?_)))
                  (case side4 => exact HC0_24.out)
                  rintro e w62 ⟨rfl, hb⟩
                  refine ⟨_, rfl, ?_⟩
                  replace BK201 := am_ (blk_below (qk_ BK201.out) hb)
                  replace BK202 := am_ (blk_below (qk_ BK202.out) hb)
                  replace BK206 := am_ (blk_below (qk_ BK206.out) hb)
                  replace BK214 := am_ (blk_below (qk_ BK214.out) hb)
                  replace HB := am_ (below_step (qb4_ GE201.out GE202.out GE206.out GE214.out HB.out) hb)
                  (try clear hb)
                  refine hK.out _ _ (cc25_ BK201.out) (fun hHeld => ?_)
                  clear hK K
                  refine no_ ?_
                  exact norm_ (by first | (simp only [putAll, Act.put, List.setIfInBounds_toArray, List.set_cons_zero, List.set_cons_succ]; done) | (simp only [putAll, Act.put, List.setIfInBounds_toArray, List.set_cons_zero, List.set_cons_succ]; rfl)) (hJ2_13 (gb214) _ ⟨hHeld, (qk_ BK201.out), (qk_ BK202.out), (qk_ BK206.out), (qk_ BK214.out), GW214.out, GE214.out, NB201_214.out, NB214_201.out, NB202_214.out, NB214_202.out, NB206_214.out, NB214_206.out, (qb4_ GE201.out GE202.out GE206.out GE214.out HB.out)⟩)
                ·skip
                 rintro _ w61 ⟨hS_, h0_, h1_, h2_, h3_⟩
                 replace BK201 := am_ h0_
                 replace BK202 := am_ h1_
                 replace BK206 := am_ h2_
                 replace HB := am_ h3_
                 clear h0_ h1_ h2_ h3_
                 have hHeld := hS_
                 refine norm_ (a' := ?_) ?_ ?_
                 rotate_left
                 ·simp only [putAll, Act.put, List.setIfInBounds_toArray, List.set_cons_zero, List.set_cons_succ]
                  rfl
                 refine two_ (i := 6) (j := 13) (Ni := some 50) (Nj := some 10) (nb_ 16 255) (nb_ 16 8383) rfl rfl rfl rfl (two_of HT_.out (by kernel_rfl)) (by decide) (by decide) (fun K hK => ?_) (fun K hK => ?_)
                 ·skip
                  refine goes_ Tryd.func28 (by kernel_rfl) rfl #[.int .i64 t207, .int .i64 a0_19] (by rfl) rfl rfl ql_ ?_
                  with_reducible refine (wide_Mul.calls t207 a0_19 t208 t209 _ A35.out).mono ?_
                  rintro e w62 ⟨rfl, hb⟩
                  refine ⟨_, rfl, ?_⟩
                  replace BK201 := am_ (blk_below (qk_ BK201.out) hb)
                  replace BK202 := am_ (blk_below (qk_ BK202.out) hb)
                  replace BK206 := am_ (blk_below (qk_ BK206.out) hb)
                  replace HB := am_ (below_step (qb3_ GE201.out GE202.out GE206.out HB.out) hb)
                  (try clear hb)
                  refine hK.out _ _ (cc25_ BK201.out) (fun hHeld => ?_)
                  clear hK K
                  refine no_ ?_
                  exact norm_ (by first | (simp only [putAll, Act.put, List.setIfInBounds_toArray, List.set_cons_zero, List.set_cons_succ]; done) | (simp only [putAll, Act.put, List.setIfInBounds_toArray, List.set_cons_zero, List.set_cons_succ]; rfl)) (hJ2_6 () _ ⟨hHeld, (qk_ BK201.out), (qk_ BK202.out), (qk_ BK206.out), (qb3_ GE201.out GE202.out GE206.out HB.out)⟩)
                 ·skip
                  refine box_step ?hg (N := 10) ?hd (cs := #[.int .i64 0, .int .u64 0]) (t := 32) ?hr ?_; (case hd => rfl); (case hg => rfl); (case hr => first | (go_simp; done) | (go_simp; rfl))
                  intro gb214 hg w62 hbox hb
                  have BK214 := am_ (hbox)
                  have GW214 := am_ (bz_ hg (qb3_ GE201.out GE202.out GE206.out HB.out) : w.heap.size ≤ gb214)
                  have GE214 := am_ (bz_ hg (qb3_ GE201.out GE202.out GE206.out HB.out) : w.heap.size ≤ gb214)
                  replace HB := am_ (below_step (qb3_ GE201.out GE202.out GE206.out HB.out) hb)
                  have NB201_214 := am_ (nl_ hg (qk_ BK201.out) : gb201 ≠ gb214)
                  have NB214_201 := am_ (ng_ hg (qk_ BK201.out) : gb214 ≠ gb201)
                  replace BK201 := am_ (blk_below (qk_ BK201.out) hb)
                  have NB202_214 := am_ (nl_ hg (qk_ BK202.out) : gb202 ≠ gb214)
                  have NB214_202 := am_ (ng_ hg (qk_ BK202.out) : gb214 ≠ gb202)
                  replace BK202 := am_ (blk_below (qk_ BK202.out) hb)
                  have NB206_214 := am_ (nl_ hg (qk_ BK206.out) : gb206 ≠ gb214)
                  have NB214_206 := am_ (ng_ hg (qk_ BK206.out) : gb214 ≠ gb206)
                  replace BK206 := am_ (blk_below (qk_ BK206.out) hb)
                  clear hb hbox hg
                  refine hK.out _ _ (cc25_ BK201.out) (fun hHeld => ?_)
                  clear hK K
                  refine no_ ?_
                  exact norm_ (by first | (simp only [putAll, Act.put, List.setIfInBounds_toArray, List.set_cons_zero, List.set_cons_succ]; done) | (simp only [putAll, Act.put, List.setIfInBounds_toArray, List.set_cons_zero, List.set_cons_succ]; rfl)) (hJ2_13 (gb214) _ ⟨hHeld, (qk_ BK201.out), (qk_ BK202.out), (qk_ BK206.out), (qk_ BK214.out), GW214.out, GE214.out, NB201_214.out, NB214_201.out, NB202_214.out, NB214_202.out, NB206_214.out, NB214_206.out, (qb4_ GE201.out GE202.out GE206.out GE214.out HB.out)⟩)
               ·skip
                rintro gb214 w62 ⟨hS_, h0_, h1_, h2_, h3_, h4_, h5_, h6_, h7_, h8_, h9_, h10_, h11_, h12_⟩
                replace BK201 := am_ h0_
                replace BK202 := am_ h1_
                replace BK206 := am_ h2_
                have BK214 := am_ h3_
                have GW214 := am_ h4_
                have GE214 := am_ h5_
                have NB201_214 := am_ h6_
                have NB214_201 := am_ h7_
                have NB202_214 := am_ h8_
                have NB214_202 := am_ h9_
                have NB206_214 := am_ h10_
                have NB214_206 := am_ h11_
                replace HB := am_ h12_
                clear h0_ h1_ h2_ h3_ h4_ h5_ h6_ h7_ h8_ h9_ h10_ h11_ h12_
                have hHeld := hS_
                refine norm_ (a' := ?_) ?_ ?_
                rotate_left
                ·simp only [putAll, Act.put, List.setIfInBounds_toArray, List.set_cons_zero, List.set_cons_succ]
                 rfl
                refine on_ 6 50 (nb_ 16 8447) HT_.out (fun K hK => ?_)
                refine goes_ Tryd.func28 (by kernel_rfl) rfl #[.int .i64 t207, .int .i64 a0_19] (by rfl) rfl rfl ql_ ?_
                with_reducible refine (wide_Mul.calls t207 a0_19 t208 t209 _ A35.out).mono ?_
                rintro e w63 ⟨rfl, hb⟩
                refine ⟨_, rfl, ?_⟩
                replace BK201 := am_ (blk_below (qk_ BK201.out) hb)
                replace BK202 := am_ (blk_below (qk_ BK202.out) hb)
                replace BK206 := am_ (blk_below (qk_ BK206.out) hb)
                replace BK214 := am_ (blk_below (qk_ BK214.out) hb)
                replace HB := am_ (below_step (qb4_ GE201.out GE202.out GE206.out GE214.out HB.out) hb)
                (try clear hb)
                refine hK.out _ _ (cc25_ BK201.out) (fun hHeld => ?_)
                clear hK K
                refine no_ ?_
                exact norm_ (by first | (simp only [putAll, Act.put, List.setIfInBounds_toArray, List.set_cons_zero, List.set_cons_succ]; done) | (simp only [putAll, Act.put, List.setIfInBounds_toArray, List.set_cons_zero, List.set_cons_succ]; rfl)) (hJ2_6_13 (gb214) _ ⟨hHeld, (qk_ BK201.out), (qk_ BK202.out), (qk_ BK206.out), (qk_ BK214.out), GW214.out, GE214.out, NB201_214.out, NB214_201.out, NB202_214.out, NB214_202.out, NB206_214.out, NB214_206.out, (qb4_ GE201.out GE202.out GE206.out GE214.out HB.out)⟩)
              ·skip
               rintro _ w62 ⟨hS_, h0_, h1_, h2_, h3_⟩
               replace BK201 := am_ h0_
               replace BK202 := am_ h1_
               replace BK206 := am_ h2_
               replace HB := am_ h3_
               clear h0_ h1_ h2_ h3_
               have hHeld := hS_
               refine norm_ (a' := ?_) ?_ ?_
               rotate_left
               ·simp only [putAll, Act.put, List.setIfInBounds_toArray, List.set_cons_zero, List.set_cons_succ]
                rfl
               refine two_ (i := 8) (j := 13) (Ni := some 52) (Nj := some 10) (nb_ 16 511) (nb_ 16 8447) rfl rfl rfl rfl (two_of HT_.out (by kernel_rfl)) (by decide) (by decide) (fun K hK => ?_) (fun K hK => ?_)
               ·skip
                refine goes_ Tryd.func29 (by kernel_rfl) rfl #[.int .i64 3, .int .i64 x9_2] (by rfl) rfl rfl ql_ ?_
                with_reducible refine (daycount_Weight.calls k2 3 x9_2 t210 _ A36.out).mono ?_
                rintro e w63 ⟨rfl, hb⟩
                refine ⟨_, rfl, ?_⟩
                replace BK201 := am_ (blk_below (qk_ BK201.out) hb)
                replace BK202 := am_ (blk_below (qk_ BK202.out) hb)
                replace BK206 := am_ (blk_below (qk_ BK206.out) hb)
                replace HB := am_ (below_step (qb3_ GE201.out GE202.out GE206.out HB.out) hb)
                (try clear hb)
                refine hK.out _ _ (cc25_ BK201.out) (fun hHeld => ?_)
                clear hK K
                refine no_ ?_
                exact norm_ (by first | (simp only [putAll, Act.put, List.setIfInBounds_toArray, List.set_cons_zero, List.set_cons_succ]; done) | (simp only [putAll, Act.put, List.setIfInBounds_toArray, List.set_cons_zero, List.set_cons_succ]; rfl)) (hJ2_6_8 () _ ⟨hHeld, (qk_ BK201.out), (qk_ BK202.out), (qk_ BK206.out), (qb3_ GE201.out GE202.out GE206.out HB.out)⟩)
               ·skip
                refine box_step ?hg (N := 10) ?hd (cs := #[.int .i64 0, .int .u64 0]) (t := 32) ?hr ?_; (case hd => rfl); (case hg => rfl); (case hr => first | (go_simp; done) | (go_simp; rfl))
                intro gb214 hg w63 hbox hb
                have BK214 := am_ (hbox)
                have GW214 := am_ (bz_ hg (qb3_ GE201.out GE202.out GE206.out HB.out) : w.heap.size ≤ gb214)
                have GE214 := am_ (bz_ hg (qb3_ GE201.out GE202.out GE206.out HB.out) : w.heap.size ≤ gb214)
                replace HB := am_ (below_step (qb3_ GE201.out GE202.out GE206.out HB.out) hb)
                have NB201_214 := am_ (nl_ hg (qk_ BK201.out) : gb201 ≠ gb214)
                have NB214_201 := am_ (ng_ hg (qk_ BK201.out) : gb214 ≠ gb201)
                replace BK201 := am_ (blk_below (qk_ BK201.out) hb)
                have NB202_214 := am_ (nl_ hg (qk_ BK202.out) : gb202 ≠ gb214)
                have NB214_202 := am_ (ng_ hg (qk_ BK202.out) : gb214 ≠ gb202)
                replace BK202 := am_ (blk_below (qk_ BK202.out) hb)
                have NB206_214 := am_ (nl_ hg (qk_ BK206.out) : gb206 ≠ gb214)
                have NB214_206 := am_ (ng_ hg (qk_ BK206.out) : gb214 ≠ gb206)
                replace BK206 := am_ (blk_below (qk_ BK206.out) hb)
                clear hb hbox hg
                refine hK.out _ _ (cc25_ BK201.out) (fun hHeld => ?_)
                clear hK K
                refine no_ ?_
                exact norm_ (by first | (simp only [putAll, Act.put, List.setIfInBounds_toArray, List.set_cons_zero, List.set_cons_succ]; done) | (simp only [putAll, Act.put, List.setIfInBounds_toArray, List.set_cons_zero, List.set_cons_succ]; rfl)) (hJ2_6_13 (gb214) _ ⟨hHeld, (qk_ BK201.out), (qk_ BK202.out), (qk_ BK206.out), (qk_ BK214.out), GW214.out, GE214.out, NB201_214.out, NB214_201.out, NB202_214.out, NB214_202.out, NB206_214.out, NB214_206.out, (qb4_ GE201.out GE202.out GE206.out GE214.out HB.out)⟩)
             ·skip
              rintro gb214 w63 ⟨hS_, h0_, h1_, h2_, h3_, h4_, h5_, h6_, h7_, h8_, h9_, h10_, h11_, h12_⟩
              replace BK201 := am_ h0_
              replace BK202 := am_ h1_
              replace BK206 := am_ h2_
              have BK214 := am_ h3_
              have GW214 := am_ h4_
              have GE214 := am_ h5_
              have NB201_214 := am_ h6_
              have NB214_201 := am_ h7_
              have NB202_214 := am_ h8_
              have NB214_202 := am_ h9_
              have NB206_214 := am_ h10_
              have NB214_206 := am_ h11_
              replace HB := am_ h12_
              clear h0_ h1_ h2_ h3_ h4_ h5_ h6_ h7_ h8_ h9_ h10_ h11_ h12_
              have hHeld := hS_
              refine norm_ (a' := ?_) ?_ ?_
              rotate_left
              ·simp only [putAll, Act.put, List.setIfInBounds_toArray, List.set_cons_zero, List.set_cons_succ]
               rfl
              refine on_ 8 52 (nb_ 16 8703) HT_.out (fun K hK => ?_)
              refine goes_ Tryd.func29 (by kernel_rfl) rfl #[.int .i64 3, .int .i64 x9_2] (by rfl) rfl rfl ql_ ?_
              with_reducible refine (daycount_Weight.calls k2 3 x9_2 t210 _ A36.out).mono ?_
              rintro e w64 ⟨rfl, hb⟩
              refine ⟨_, rfl, ?_⟩
              replace BK201 := am_ (blk_below (qk_ BK201.out) hb)
              replace BK202 := am_ (blk_below (qk_ BK202.out) hb)
              replace BK206 := am_ (blk_below (qk_ BK206.out) hb)
              replace BK214 := am_ (blk_below (qk_ BK214.out) hb)
              replace HB := am_ (below_step (qb4_ GE201.out GE202.out GE206.out GE214.out HB.out) hb)
              (try clear hb)
              refine hK.out _ _ (cc25_ BK201.out) (fun hHeld => ?_)
              clear hK K
              refine no_ ?_
              exact norm_ (by first | (simp only [putAll, Act.put, List.setIfInBounds_toArray, List.set_cons_zero, List.set_cons_succ]; done) | (simp only [putAll, Act.put, List.setIfInBounds_toArray, List.set_cons_zero, List.set_cons_succ]; rfl)) (hJ2_6_8_13 (gb214) _ ⟨hHeld, (qk_ BK201.out), (qk_ BK202.out), (qk_ BK206.out), (qk_ BK214.out), GW214.out, GE214.out, NB201_214.out, NB214_201.out, NB202_214.out, NB214_202.out, NB206_214.out, NB214_206.out, (qb4_ GE201.out GE202.out GE206.out GE214.out HB.out)⟩)
            ·skip
             rintro _ w63 ⟨hS_, h0_, h1_, h2_, h3_⟩
             replace BK201 := am_ h0_
             replace BK202 := am_ h1_
             replace BK206 := am_ h2_
             replace HB := am_ h3_
             clear h0_ h1_ h2_ h3_
             have hHeld := hS_
             refine norm_ (a' := ?_) ?_ ?_
             rotate_left
             ·simp only [putAll, Act.put, List.setIfInBounds_toArray, List.set_cons_zero, List.set_cons_succ]
              rfl
             refine two_ (i := 9) (j := 13) (Ni := some 53) (Nj := some 10) (nb_ 16 1023) (nb_ 16 8703) rfl rfl rfl rfl (two_of HT_.out (by kernel_rfl)) (by decide) (by decide) (fun K hK => ?_) (fun K hK => ?_)
             ·skip
              refine goes_ Tryd.func27 (by kernel_rfl) rfl #[.agg #[.int .i64 t208, .int .u64 t209], .int .i64 t210] (by rfl) rfl rfl ql_ ?_
              with_reducible refine (wide_Scale.calls t208 t209 t210 t211 t212 t213 _ A37.out).mono ?_
              rintro e w64 ⟨rfl, hb⟩
              refine ⟨_, rfl, ?_⟩
              replace BK201 := am_ (blk_below (qk_ BK201.out) hb)
              replace BK202 := am_ (blk_below (qk_ BK202.out) hb)
              replace BK206 := am_ (blk_below (qk_ BK206.out) hb)
              replace HB := am_ (below_step (qb3_ GE201.out GE202.out GE206.out HB.out) hb)
              (try clear hb)
              refine hK.out _ _ (cc25_ BK201.out) (fun hHeld => ?_)
              clear hK K
              refine no_ ?_
              refine pz_ 10 43 (nb_ 16 2047) HT_.out ?_
              refine pz_ 11 54 (nb_ 16 4095) HT_.out ?_
              refine pz_ 12 55 (nb_ 16 8191) HT_.out ?_
              exact norm_ (by first | (simp only [putAll, Act.put, List.setIfInBounds_toArray, List.set_cons_zero, List.set_cons_succ]; done) | (simp only [putAll, Act.put, List.setIfInBounds_toArray, List.set_cons_zero, List.set_cons_succ]; rfl)) (hJ2_6_8_9 () _ ⟨hHeld, (qk_ BK201.out), (qk_ BK202.out), (qk_ BK206.out), (qb3_ GE201.out GE202.out GE206.out HB.out)⟩)
             ·skip
              refine box_step ?hg (N := 10) ?hd (cs := #[.int .i64 0, .int .u64 0]) (t := 32) ?hr ?_; (case hd => rfl); (case hg => rfl); (case hr => first | (go_simp; done) | (go_simp; rfl))
              intro gb214 hg w64 hbox hb
              have BK214 := am_ (hbox)
              have GW214 := am_ (bz_ hg (qb3_ GE201.out GE202.out GE206.out HB.out) : w.heap.size ≤ gb214)
              have GE214 := am_ (bz_ hg (qb3_ GE201.out GE202.out GE206.out HB.out) : w.heap.size ≤ gb214)
              replace HB := am_ (below_step (qb3_ GE201.out GE202.out GE206.out HB.out) hb)
              have NB201_214 := am_ (nl_ hg (qk_ BK201.out) : gb201 ≠ gb214)
              have NB214_201 := am_ (ng_ hg (qk_ BK201.out) : gb214 ≠ gb201)
              replace BK201 := am_ (blk_below (qk_ BK201.out) hb)
              have NB202_214 := am_ (nl_ hg (qk_ BK202.out) : gb202 ≠ gb214)
              have NB214_202 := am_ (ng_ hg (qk_ BK202.out) : gb214 ≠ gb202)
              replace BK202 := am_ (blk_below (qk_ BK202.out) hb)
              have NB206_214 := am_ (nl_ hg (qk_ BK206.out) : gb206 ≠ gb214)
              have NB214_206 := am_ (ng_ hg (qk_ BK206.out) : gb214 ≠ gb206)
              replace BK206 := am_ (blk_below (qk_ BK206.out) hb)
              clear hb hbox hg
              refine hK.out _ _ (cc25_ BK201.out) (fun hHeld => ?_)
              clear hK K
              refine no_ ?_
              exact norm_ (by first | (simp only [putAll, Act.put, List.setIfInBounds_toArray, List.set_cons_zero, List.set_cons_succ]; done) | (simp only [putAll, Act.put, List.setIfInBounds_toArray, List.set_cons_zero, List.set_cons_succ]; rfl)) (hJ2_6_8_13 (gb214) _ ⟨hHeld, (qk_ BK201.out), (qk_ BK202.out), (qk_ BK206.out), (qk_ BK214.out), GW214.out, GE214.out, NB201_214.out, NB214_201.out, NB202_214.out, NB214_202.out, NB206_214.out, NB214_206.out, (qb4_ GE201.out GE202.out GE206.out GE214.out HB.out)⟩)
           ·skip
            rintro gb214 w64 ⟨hS_, h0_, h1_, h2_, h3_, h4_, h5_, h6_, h7_, h8_, h9_, h10_, h11_, h12_⟩
            replace BK201 := am_ h0_
            replace BK202 := am_ h1_
            replace BK206 := am_ h2_
            have BK214 := am_ h3_
            have GW214 := am_ h4_
            have GE214 := am_ h5_
            have NB201_214 := am_ h6_
            have NB214_201 := am_ h7_
            have NB202_214 := am_ h8_
            have NB214_202 := am_ h9_
            have NB206_214 := am_ h10_
            have NB214_206 := am_ h11_
            replace HB := am_ h12_
            clear h0_ h1_ h2_ h3_ h4_ h5_ h6_ h7_ h8_ h9_ h10_ h11_ h12_
            have hHeld := hS_
            refine norm_ (a' := ?_) ?_ ?_
            rotate_left
            ·simp only [putAll, Act.put, List.setIfInBounds_toArray, List.set_cons_zero, List.set_cons_succ]
             rfl
            refine on_ 9 53 (nb_ 16 9215) HT_.out (fun K hK => ?_)
            refine goes_ Tryd.func27 (by kernel_rfl) rfl #[.agg #[.int .i64 t208, .int .u64 t209], .int .i64 t210] (by rfl) rfl rfl ql_ ?_
            with_reducible refine (wide_Scale.calls t208 t209 t210 t211 t212 t213 _ A37.out).mono ?_
            rintro e w65 ⟨rfl, hb⟩
            refine ⟨_, rfl, ?_⟩
            replace BK201 := am_ (blk_below (qk_ BK201.out) hb)
            replace BK202 := am_ (blk_below (qk_ BK202.out) hb)
            replace BK206 := am_ (blk_below (qk_ BK206.out) hb)
            replace BK214 := am_ (blk_below (qk_ BK214.out) hb)
            replace HB := am_ (below_step (qb4_ GE201.out GE202.out GE206.out GE214.out HB.out) hb)
            (try clear hb)
            refine hK.out _ _ (cc25_ BK201.out) (fun hHeld => ?_)
            clear hK K
            refine no_ ?_
            refine pz_ 10 43 (nb_ 16 10239) HT_.out ?_
            refine pz_ 11 54 (nb_ 16 12287) HT_.out ?_
            refine pz_ 12 55 (nb_ 16 16383) HT_.out ?_
            exact norm_ (by first | (simp only [putAll, Act.put, List.setIfInBounds_toArray, List.set_cons_zero, List.set_cons_succ]; done) | (simp only [putAll, Act.put, List.setIfInBounds_toArray, List.set_cons_zero, List.set_cons_succ]; rfl)) (hJ2_6_8_9_13 (gb214) _ ⟨hHeld, (qk_ BK201.out), (qk_ BK202.out), (qk_ BK206.out), (qk_ BK214.out), GW214.out, GE214.out, NB201_214.out, NB214_201.out, NB202_214.out, NB214_202.out, NB206_214.out, NB214_206.out, (qb4_ GE201.out GE202.out GE206.out GE214.out HB.out)⟩)
          ·skip
           rintro _ w64 ⟨hS_, h0_, h1_, h2_, h3_⟩
           replace BK201 := am_ h0_
           replace BK202 := am_ h1_
           replace BK206 := am_ h2_
           replace HB := am_ h3_
           clear h0_ h1_ h2_ h3_
           have hHeld := hS_
           refine norm_ (a' := ?_) ?_ ?_
           rotate_left
           ·simp only [putAll, Act.put, List.setIfInBounds_toArray, List.set_cons_zero, List.set_cons_succ]
            rfl
           refine on_ 13 10 (nb_ 16 16383) HT_.out (fun K hK => ?_)
           refine box_step ?hg (N := 10) ?hd (cs := #[.int .i64 0, .int .u64 0]) (t := 32) ?hr ?_; (case hd => rfl); (case hg => rfl); (case hr => first | (go_simp; done) | (go_simp; rfl))
           intro gb214 hg w65 hbox hb
           have BK214 := am_ (hbox)
           have GW214 := am_ (bz_ hg (qb3_ GE201.out GE202.out GE206.out HB.out) : w.heap.size ≤ gb214)
           have GE214 := am_ (bz_ hg (qb3_ GE201.out GE202.out GE206.out HB.out) : w.heap.size ≤ gb214)
           replace HB := am_ (below_step (qb3_ GE201.out GE202.out GE206.out HB.out) hb)
           have NB201_214 := am_ (nl_ hg (qk_ BK201.out) : gb201 ≠ gb214)
           have NB214_201 := am_ (ng_ hg (qk_ BK201.out) : gb214 ≠ gb201)
           replace BK201 := am_ (blk_below (qk_ BK201.out) hb)
           have NB202_214 := am_ (nl_ hg (qk_ BK202.out) : gb202 ≠ gb214)
           have NB214_202 := am_ (ng_ hg (qk_ BK202.out) : gb214 ≠ gb202)
           replace BK202 := am_ (blk_below (qk_ BK202.out) hb)
           have NB206_214 := am_ (nl_ hg (qk_ BK206.out) : gb206 ≠ gb214)
           have NB214_206 := am_ (ng_ hg (qk_ BK206.out) : gb214 ≠ gb206)
           replace BK206 := am_ (blk_below (qk_ BK206.out) hb)
           clear hb hbox hg
           refine hK.out _ _ (cc25_ BK201.out) (fun hHeld => ?_)
           clear hK K
           refine no_ ?_
           exact norm_ (by first | (simp only [putAll, Act.put, List.setIfInBounds_toArray, List.set_cons_zero, List.set_cons_succ]; done) | (simp only [putAll, Act.put, List.setIfInBounds_toArray, List.set_cons_zero, List.set_cons_succ]; rfl)) (hJ2_6_8_9_13 (gb214) _ ⟨hHeld, (qk_ BK201.out), (qk_ BK202.out), (qk_ BK206.out), (qk_ BK214.out), GW214.out, GE214.out, NB201_214.out, NB214_201.out, NB202_214.out, NB214_202.out, NB206_214.out, NB214_206.out, (qb4_ GE201.out GE202.out GE206.out GE214.out HB.out)⟩)
         rintro gb214 w65 ⟨hS_, h0_, h1_, h2_, h3_, h4_, h5_, h6_, h7_, h8_, h9_, h10_, h11_, h12_⟩
         replace BK201 := am_ h0_
         replace BK202 := am_ h1_
         replace BK206 := am_ h2_
         have BK214 := am_ h3_
         have GW214 := am_ h4_
         have GE214 := am_ h5_
         have NB201_214 := am_ h6_
         have NB214_201 := am_ h7_
         have NB202_214 := am_ h8_
         have NB214_202 := am_ h9_
         have NB206_214 := am_ h10_
         have NB214_206 := am_ h11_
         replace HB := am_ h12_
         clear h0_ h1_ h2_ h3_ h4_ h5_ h6_ h7_ h8_ h9_ h10_ h11_ h12_
         have hHeld := hS_
         refine norm_ (a' := ?_) ?_ ?_
         rotate_left
         ·simp only [putAll, Act.put, List.setIfInBounds_toArray, List.set_cons_zero, List.set_cons_succ]
          rfl
         refine one_ (i := 14) (N := none) (nb_ 16 32767) rfl rfl (one_of HT_.out (by kernel_rfl)) (by decide) (fun K hK => ?_)
         have hs66 : w65.cell? ⟨gb214, 0, none⟩ = some (.int .i64 0) := (blk_cell BK214.out 0).trans rfl
         have hfs66 := blk_frozen BK214.out 0
         have hns66_0 := NB201_214.out
         have hns66_1 := NB202_214.out
         have hns66_2 := NB206_214.out
         have hms66_0 := NB214_201.out
         have hms66_1 := NB214_202.out
         have hms66_2 := NB214_206.out
         have hs67 : w65.cell? ⟨gb214, 1, none⟩ = some (.int .u64 0) := (blk_cell BK214.out 1).trans rfl
         have hfs67 := blk_frozen BK214.out 1
         have hns67_0 := NB201_214.out
         have hns67_1 := NB202_214.out
         have hns67_2 := NB206_214.out
         have hms67_0 := NB214_201.out
         have hms67_1 := NB214_202.out
         have hms67_2 := NB214_206.out
         refine skip_ (w1 := ?_) (by rfl) rfl ?_ ?_
         rotate_left
         ·go_simp
          rfl
         refine hK.out _ _ ⟨((cell_far (p := ⟨gb214, _, none⟩) NB201_214.out _).trans (((cell_far (p := ⟨gb214, _, none⟩) NB201_214.out _).trans (hHeld.1)))), ((cell_far (p := ⟨gb214, _, none⟩) NB201_214.out _).trans (((cell_far (p := ⟨gb214, _, none⟩) NB201_214.out _).trans (hHeld.2.1)))), ((cell_far (p := ⟨gb214, _, none⟩) NB201_214.out _).trans (((cell_far (p := ⟨gb214, _, none⟩) NB201_214.out _).trans (hHeld.2.2.1)))), ((cell_far (p := ⟨gb214, _, none⟩) NB201_214.out _).trans (((cell_far (p := ⟨gb214, _, none⟩) NB201_214.out _).trans (hHeld.2.2.2.1)))), ((cell_far (p := ⟨gb214, _, none⟩) NB201_214.out _).trans (((cell_far (p := ⟨gb214, _, none⟩) NB201_214.out _).trans (hHeld.2.2.2.2.1)))), ((cell_far (p := ⟨gb214, _, none⟩) NB201_214.out _).trans (((cell_far (p := ⟨gb214, _, none⟩) NB201_214.out _).trans (hHeld.2.2.2.2.2.1)))), ((cell_far (p := ⟨gb214, _, none⟩) NB201_214.out _).trans (((cell_far (p := ⟨gb214, _, none⟩) NB201_214.out _).trans (hHeld.2.2.2.2.2.2.1)))), ((cell_far (p := ⟨gb214, _, none⟩) NB201_214.out _).trans (((cell_far (p := ⟨gb214, _, none⟩) NB201_214.out _).trans (hHeld.2.2.2.2.2.2.2.1)))), ((cell_far (p := ⟨gb214, _, none⟩) NB201_214.out _).trans (((cell_far (p := ⟨gb214, _, none⟩) NB201_214.out _).trans (hHeld.2.2.2.2.2.2.2.2.1)))), ((cell_far (p := ⟨gb214, _, none⟩) NB201_214.out _).trans (((cell_far (p := ⟨gb214, _, none⟩) NB201_214.out _).trans (hHeld.2.2.2.2.2.2.2.2.2.1)))), ((cell_far (p := ⟨gb214, _, none⟩) NB201_214.out _).trans (((cell_far (p := ⟨gb214, _, none⟩) NB201_214.out _).trans (hHeld.2.2.2.2.2.2.2.2.2.2.1)))), ((cell_far (p := ⟨gb214, _, none⟩) NB201_214.out _).trans (((cell_far (p := ⟨gb214, _, none⟩) NB201_214.out _).trans (hHeld.2.2.2.2.2.2.2.2.2.2.2.1)))), ((cell_far (p := ⟨gb214, _, none⟩) NB201_214.out _).trans (((cell_far (p := ⟨gb214, _, none⟩) NB201_214.out _).trans (hHeld.2.2.2.2.2.2.2.2.2.2.2.2.1)))), ((cell_far (p := ⟨gb214, _, none⟩) NB201_214.out _).trans (((cell_far (p := ⟨gb214, _, none⟩) NB201_214.out _).trans (hHeld.2.2.2.2.2.2.2.2.2.2.2.2.2.1)))), ((cell_far (p := ⟨gb214, _, none⟩) NB201_214.out _).trans (((cell_far (p := ⟨gb214, _, none⟩) NB201_214.out _).trans (hHeld.2.2.2.2.2.2.2.2.2.2.2.2.2.2.1)))), ((cell_far (p := ⟨gb214, _, none⟩) NB201_214.out _).trans (((cell_far (p := ⟨gb214, _, none⟩) NB201_214.out _).trans (hHeld.2.2.2.2.2.2.2.2.2.2.2.2.2.2.2.1)))), ((cell_far (p := ⟨gb214, _, none⟩) NB201_214.out _).trans (((cell_far (p := ⟨gb214, _, none⟩) NB201_214.out _).trans (hHeld.2.2.2.2.2.2.2.2.2.2.2.2.2.2.2.2.1)))), ((cell_far (p := ⟨gb214, _, none⟩) NB201_214.out _).trans (((cell_far (p := ⟨gb214, _, none⟩) NB201_214.out _).trans (hHeld.2.2.2.2.2.2.2.2.2.2.2.2.2.2.2.2.2.1)))), ((cell_far (p := ⟨gb214, _, none⟩) NB201_214.out _).trans (((cell_far (p := ⟨gb214, _, none⟩) NB201_214.out _).trans (hHeld.2.2.2.2.2.2.2.2.2.2.2.2.2.2.2.2.2.2.1)))), ((cell_far (p := ⟨gb214, _, none⟩) NB201_214.out _).trans (((cell_far (p := ⟨gb214, _, none⟩) NB201_214.out _).trans (hHeld.2.2.2.2.2.2.2.2.2.2.2.2.2.2.2.2.2.2.2.1)))), ((cell_far (p := ⟨gb214, _, none⟩) NB201_214.out _).trans (((cell_far (p := ⟨gb214, _, none⟩) NB201_214.out _).trans (hHeld.2.2.2.2.2.2.2.2.2.2.2.2.2.2.2.2.2.2.2.2.1)))), ((cell_far (p := ⟨gb214, _, none⟩) NB201_214.out _).trans (((cell_far (p := ⟨gb214, _, none⟩) NB201_214.out _).trans (hHeld.2.2.2.2.2.2.2.2.2.2.2.2.2.2.2.2.2.2.2.2.2.1)))), ((cell_far (p := ⟨gb214, _, none⟩) NB201_214.out _).trans (((cell_far (p := ⟨gb214, _, none⟩) NB201_214.out _).trans (hHeld.2.2.2.2.2.2.2.2.2.2.2.2.2.2.2.2.2.2.2.2.2.2.1)))), ((cell_far (p := ⟨gb214, _, none⟩) NB201_214.out _).trans (((cell_far (p := ⟨gb214, _, none⟩) NB201_214.out _).trans (hHeld.2.2.2.2.2.2.2.2.2.2.2.2.2.2.2.2.2.2.2.2.2.2.2.1)))), ((cell_far (p := ⟨gb214, _, none⟩) NB201_214.out _).trans (((cell_far (p := ⟨gb214, _, none⟩) NB201_214.out _).trans (hHeld.2.2.2.2.2.2.2.2.2.2.2.2.2.2.2.2.2.2.2.2.2.2.2.2))))⟩ (fun hHeld => ?_)
         clear hK K
         refine pz_ 15 11 (nb_ 16 65535) HT_.out ?_
         refine done_ (done_of HT_.out (by kernel_rfl)) ?_
         have hnb68 := NB206_201.out
         have hnc68 := NB201_206.out
         have hnb69 := NB206_202.out
         have hnc69 := NB202_206.out
         have hnb70 := NB206_214.out
         have hnc70 := NB214_206.out
         obtain ⟨Z71_0, Z71_1, Y71_0, Y71_1⟩ := cz2_ BK206.out
         have hnb72 := NB214_201.out
         have hnc72 := NB201_214.out
         have hnb73 := NB214_202.out
         have hnc73 := NB202_214.out
         obtain ⟨Z74_0, Z74_1, Y74_0, Y74_1⟩ := cz2_ BK214.out
         try go_wp2_with (first | ((with_reducible refine gate_load_ (t := 27) rfl ?_); refine ld_ (t := 27) Tryd.underlying27 rfl rfl rfl (by (repeat (first | (with_reducible first | refine blk_drewN ?_ _ | refine blk_drew ?_ | refine blk_alloc ?_ _) | refine blk_far ?_ NB201_202.out _ | refine blk_far ?_ NB201_206.out _ | refine blk_far ?_ NB201_214.out _ | refine blk_set ?_ _ _)); (with_reducible first | exact BK201.out)) rfl (by kernel_rfl) ?_) | ((with_reducible refine gate_load_ (t := 27) rfl ?_); refine ldgA_ (t := 27) Tryd.underlying27 rfl (by rfl) rfl (by (repeat (first | (with_reducible first | refine blk_drewN ?_ _ | refine blk_drew ?_ | refine blk_alloc ?_ _) | refine blk_far ?_ NB201_202.out _ | refine blk_far ?_ NB201_206.out _ | refine blk_far ?_ NB201_214.out _ | refine blk_set ?_ _ _)); (with_reducible first | exact BK201.out)) rfl (by kernel_rfl) ?_) | ((with_reducible refine gate_callee (f := 30) rfl ?_); refine goesL_ (some 63) rfl rfl Tryd.func30 (by kernel_rfl) rfl #[.agg #[.int .i64 x207000_2, .int .u64 x207001_2], .agg #[.int .i64 t211, .int .u64 t212]] rfl ql_ ?_; (with_reducible refine (wide_Add.calls x207000_2 x207001_2 t211 t212 t215 t216 t217 _ A39.out).mono ?_); rintro e w75 ⟨rfl, hb⟩; refine ⟨_, rfl, ?_⟩; replace BK201 := am_ (blk_below (g := gb201) (o := .cells #[.int .i64 a0_0, .int .i64 a0_1, .int .i64 a0_2, .int .i64 a0_3, .int .i64 a0_4, .int .i64 a0_5, .int .i64 a0_6, .int .i64 a0_7, .int .i64 a0_8, .int .i64 a0_9, .int .i64 a0_10, .int .i64 a0_11, .int .i64 a0_12, .int .i64 a0_13, .int .i64 a0_14, .int .i64 a0_15, .int .i64 a0_16, .int .i64 a0_17, .int .i64 a0_18, .int .i64 a0_19, .int .i64 a0_20, .string a0_21, .string a0_22, .slice A0_23 l0_23.length c0_23, .slice A0_24 l0_24.length c0_24] 27 (0, 0)) (qff_ NB201_214.out NB201_214.out BK201.out) hb); replace BK202 := am_ (blk_below (g := gb202) (o := .cells #[.int .i64 x203000_2, .int .u64 x203001_2] 32 (0, 0)) (qff_ NB202_214.out NB202_214.out BK202.out) hb); replace BK206 := am_ (blk_below (g := gb206) (o := .cells #[.int .i64 x207000_2, .int .u64 x207001_2] 32 (0, 0)) (qff_ NB206_214.out NB206_214.out BK206.out) hb); replace BK214 := am_ (blk_below (g := gb214) (o := .cells #[.int .i64 t211, .int .u64 t212] 32 (0, 0)) (qpp_ #[.int .i64 t211, .int .u64 0] 1 #[.int .i64 0, .int .u64 0] 0 BK214.out) hb); replace HB := am_ (below_step (qb4_ GE201.out GE202.out GE206.out GE214.out HB.out) hb); (try clear hb); obtain ⟨Z76_0, Z76_1, Y76_0, Y76_1⟩ := cz2_ BK206.out; have hnb77 := NB202_201.out; have hnc77 := NB201_202.out; obtain ⟨Z78_0, Z78_1, Y78_0, Y78_1⟩ := cz2_ BK202.out))
         refine bodyPost_ret (results_ct rfl _ _ gb202 32 #[.int .i64 0, .int .u64 0] (0, 0) _ rfl (qppff_ #[.int .i64 0, .int .u64 x203001_2] 1 #[.int .i64 x203000_2, .int .u64 x203001_2] 0 NB202_206.out NB202_206.out BK202.out) Tryd.underlying32 rfl (by kernel_rfl)) rfl ?_
         exact ⟨qe_, qb4_ GE201.out GE202.out GE206.out GE214.out HB.out⟩
       ·rw [if_neg c38] at H
        have c38b0 : (t213 == 0) = false := beq_eq_false_iff_ne.mpr c38
        have c38b1 : (t213 != 0) = true := bne_iff_ne.mpr c38
        simp only [Option.some.injEq, Prod.mk.injEq] at H
        obtain ⟨rfl, rfl, rfl⟩ := H
        try go_wp2
        replace BK201 := am_ (blk_drew BK201.out)
        replace BK202 := am_ (blk_drew BK202.out)
        replace BK206 := am_ (blk_drew BK206.out)
        replace HB := am_ (below_drew1 HB.out)
        refine start_ (n := 16) (S := cS25_ gb201 (.int .i64 a0_0) (.int .i64 a0_1) (.int .i64 a0_2) (.int .i64 a0_3) (.int .i64 a0_4) (.int .i64 a0_5) (.int .i64 a0_6) (.int .i64 a0_7) (.int .i64 a0_8) (.int .i64 a0_9) (.int .i64 a0_10) (.int .i64 a0_11) (.int .i64 a0_12) (.int .i64 a0_13) (.int .i64 a0_14) (.int .i64 a0_15) (.int .i64 a0_16) (.int .i64 a0_17) (.int .i64 a0_18) (.int .i64 a0_19) (.int .i64 a0_20) (.string a0_21) (.string a0_22) (.slice A0_23 l0_23.length c0_23) (.slice A0_24 l0_24.length c0_24)) (ds := []) (nb_ 16 0) (by kernel_rfl) rfl rfl (cc25_ BK201.out) (fun hHeld => ?_); refine with_tabW arrears_Penalty.tab7 arrears_Penalty.bits7 (fun HT_ HW_ => ?_)
        generalize wr.drew = w79 at BK201 BK202 BK206 HB hHeld ⊢
        refine pz_ 1 45 (nb_ 16 2) HT_.out ?_
        refine pz_ 3 47 (nb_ 16 10) HT_.out ?_
        refine pz_ 4 48 (nb_ 16 26) HT_.out ?_
        refine pz_ 7 51 (nb_ 16 154) HT_.out ?_
        refine take_ (i := 0) (N := some 44) (v := ?_) (a' := ?_) (nb_ 16 155) rfl rfl (take_ofW HT_.out HW_.out (by kernel_rfl)) (fun _ _ _ h => h) (Or.inl ⟨by rfl, ?_⟩) hHeld ?_ ?_
        rotate_left
        ·rintro w' hs_
         first
         | (refine Eq.trans (ldx_ (by rfl) (by rfl) (ldS_ hs_)) ?_; with_reducible rfl)
         | (obtain ⟨s0, s1, s2, s3, s4, s5, s6, s7, s8, s9, s10, s11, s12, s13, s14, s15, s16, s17, s18, s19, s20, s21, s22, s23, s24⟩ := hs_; go_simp; with_reducible rfl)
        rotate_left
        ·simp only [Act.put, List.setIfInBounds_toArray, List.set_cons_zero, List.set_cons_succ, i64_w, i32_w]
         rfl
        refine take_ (i := 5) (N := some 49) (v := ?_) (a' := ?_) (nb_ 16 187) rfl rfl (take_ofW HT_.out HW_.out (by kernel_rfl)) (fun _ _ _ h => h) (Or.inl ⟨by rfl, ?_⟩) hHeld ?_ ?_
        rotate_left
        ·rintro w' hs_
         first
         | (refine Eq.trans (ldx_ (by rfl) (by rfl) (ldS_ hs_)) ?_; with_reducible rfl)
         | (obtain ⟨s0, s1, s2, s3, s4, s5, s6, s7, s8, s9, s10, s11, s12, s13, s14, s15, s16, s17, s18, s19, s20, s21, s22, s23, s24⟩ := hs_; go_simp; with_reducible rfl)
        rotate_left
        ·simp only [Act.put, List.setIfInBounds_toArray, List.set_cons_zero, List.set_cons_succ, i64_w, i32_w]
         rfl
        refine join_ (σ := Nat) 2 (nb_ 16 16383) (fun s_ => [(46, .int .i64 t207), (50, .agg #[.int .i64 t208, .int .u64 t209]), (52, .int .i64 t210), (53, .tuple #[.agg #[.int .i64 t211, .int .u64 t212], .int .i64 t213]), (10, .pointer (some ⟨s_, 0, none⟩)), (43, .tuple #[.agg #[.int .i64 t211, .int .u64 t212], .int .i64 t213]), (54, .agg #[.int .i64 t211, .int .u64 t212]), (55, .int .i64 t213)]) (fun s_ w' => (cS25_ gb201 (.int .i64 a0_0) (.int .i64 a0_1) (.int .i64 a0_2) (.int .i64 a0_3) (.int .i64 a0_4) (.int .i64 a0_5) (.int .i64 a0_6) (.int .i64 a0_7) (.int .i64 a0_8) (.int .i64 a0_9) (.int .i64 a0_10) (.int .i64 a0_11) (.int .i64 a0_12) (.int .i64 a0_13) (.int .i64 a0_14) (.int .i64 a0_15) (.int .i64 a0_16) (.int .i64 a0_17) (.int .i64 a0_18) (.int .i64 a0_19) (.int .i64 a0_20) (.string a0_21) (.string a0_22) (.slice A0_23 l0_23.length c0_23) (.slice A0_24 l0_24.length c0_24) w') ∧ (w'.heap[gb201]? = some (.cells #[.int .i64 a0_0, .int .i64 a0_1, .int .i64 a0_2, .int .i64 a0_3, .int .i64 a0_4, .int .i64 a0_5, .int .i64 a0_6, .int .i64 a0_7, .int .i64 a0_8, .int .i64 a0_9, .int .i64 a0_10, .int .i64 a0_11, .int .i64 a0_12, .int .i64 a0_13, .int .i64 a0_14, .int .i64 a0_15, .int .i64 a0_16, .int .i64 a0_17, .int .i64 a0_18, .int .i64 a0_19, .int .i64 a0_20, .string a0_21, .string a0_22, .slice A0_23 l0_23.length c0_23, .slice A0_24 l0_24.length c0_24] 27 (0, 0))) ∧ (w'.heap[gb202]? = some (.cells #[.int .i64 x203000_2, .int .u64 x203001_2] 32 (0, 0))) ∧ (w'.heap[gb206]? = some (.cells #[.int .i64 x207000_2, .int .u64 x207001_2] 32 (0, 0))) ∧ (w'.heap[s_]? = some (.cells #[.int .i64 0, .int .u64 0] 32 (0, 0))) ∧ (w.heap.size ≤ s_) ∧ (w.heap.size ≤ s_) ∧ (gb201 ≠ s_) ∧ (s_ ≠ gb201) ∧ (gb202 ≠ s_) ∧ (s_ ≠ gb202) ∧ (gb206 ≠ s_) ∧ (s_ ≠ gb206) ∧ (Below w.heap.size w w')) ?_ ?_
        rotate_left
        ·intro hJ2_6_8_9_13
         refine join_ (σ := Unit) 3 (nb_ 16 8191) (fun s_ => [(46, .int .i64 t207), (50, .agg #[.int .i64 t208, .int .u64 t209]), (52, .int .i64 t210), (53, .tuple #[.agg #[.int .i64 t211, .int .u64 t212], .int .i64 t213]), (43, .tuple #[.agg #[.int .i64 t211, .int .u64 t212], .int .i64 t213]), (54, .agg #[.int .i64 t211, .int .u64 t212]), (55, .int .i64 t213)]) (fun s_ w' => (cS25_ gb201 (.int .i64 a0_0) (.int .i64 a0_1) (.int .i64 a0_2) (.int .i64 a0_3) (.int .i64 a0_4) (.int .i64 a0_5) (.int .i64 a0_6) (.int .i64 a0_7) (.int .i64 a0_8) (.int .i64 a0_9) (.int .i64 a0_10) (.int .i64 a0_11) (.int .i64 a0_12) (.int .i64 a0_13) (.int .i64 a0_14) (.int .i64 a0_15) (.int .i64 a0_16) (.int .i64 a0_17) (.int .i64 a0_18) (.int .i64 a0_19) (.int .i64 a0_20) (.string a0_21) (.string a0_22) (.slice A0_23 l0_23.length c0_23) (.slice A0_24 l0_24.length c0_24) w') ∧ (w'.heap[gb201]? = some (.cells #[.int .i64 a0_0, .int .i64 a0_1, .int .i64 a0_2, .int .i64 a0_3, .int .i64 a0_4, .int .i64 a0_5, .int .i64 a0_6, .int .i64 a0_7, .int .i64 a0_8, .int .i64 a0_9, .int .i64 a0_10, .int .i64 a0_11, .int .i64 a0_12, .int .i64 a0_13, .int .i64 a0_14, .int .i64 a0_15, .int .i64 a0_16, .int .i64 a0_17, .int .i64 a0_18, .int .i64 a0_19, .int .i64 a0_20, .string a0_21, .string a0_22, .slice A0_23 l0_23.length c0_23, .slice A0_24 l0_24.length c0_24] 27 (0, 0))) ∧ (w'.heap[gb202]? = some (.cells #[.int .i64 x203000_2, .int .u64 x203001_2] 32 (0, 0))) ∧ (w'.heap[gb206]? = some (.cells #[.int .i64 x207000_2, .int .u64 x207001_2] 32 (0, 0))) ∧ (Below w.heap.size w w')) ?_ ?_
         rotate_left
         ·intro hJ2_6_8_9
          refine join_ (σ := Nat) 6 (nb_ 16 8703) (fun s_ => [(46, .int .i64 t207), (50, .agg #[.int .i64 t208, .int .u64 t209]), (52, .int .i64 t210), (10, .pointer (some ⟨s_, 0, none⟩))]) (fun s_ w' => (cS25_ gb201 (.int .i64 a0_0) (.int .i64 a0_1) (.int .i64 a0_2) (.int .i64 a0_3) (.int .i64 a0_4) (.int .i64 a0_5) (.int .i64 a0_6) (.int .i64 a0_7) (.int .i64 a0_8) (.int .i64 a0_9) (.int .i64 a0_10) (.int .i64 a0_11) (.int .i64 a0_12) (.int .i64 a0_13) (.int .i64 a0_14) (.int .i64 a0_15) (.int .i64 a0_16) (.int .i64 a0_17) (.int .i64 a0_18) (.int .i64 a0_19) (.int .i64 a0_20) (.string a0_21) (.string a0_22) (.slice A0_23 l0_23.length c0_23) (.slice A0_24 l0_24.length c0_24) w') ∧ (w'.heap[gb201]? = some (.cells #[.int .i64 a0_0, .int .i64 a0_1, .int .i64 a0_2, .int .i64 a0_3, .int .i64 a0_4, .int .i64 a0_5, .int .i64 a0_6, .int .i64 a0_7, .int .i64 a0_8, .int .i64 a0_9, .int .i64 a0_10, .int .i64 a0_11, .int .i64 a0_12, .int .i64 a0_13, .int .i64 a0_14, .int .i64 a0_15, .int .i64 a0_16, .int .i64 a0_17, .int .i64 a0_18, .int .i64 a0_19, .int .i64 a0_20, .string a0_21, .string a0_22, .slice A0_23 l0_23.length c0_23, .slice A0_24 l0_24.length c0_24] 27 (0, 0))) ∧ (w'.heap[gb202]? = some (.cells #[.int .i64 x203000_2, .int .u64 x203001_2] 32 (0, 0))) ∧ (w'.heap[gb206]? = some (.cells #[.int .i64 x207000_2, .int .u64 x207001_2] 32 (0, 0))) ∧ (w'.heap[s_]? = some (.cells #[.int .i64 0, .int .u64 0] 32 (0, 0))) ∧ (w.heap.size ≤ s_) ∧ (w.heap.size ≤ s_) ∧ (gb201 ≠ s_) ∧ (s_ ≠ gb201) ∧ (gb202 ≠ s_) ∧ (s_ ≠ gb202) ∧ (gb206 ≠ s_) ∧ (s_ ≠ gb206) ∧ (Below w.heap.size w w')) ?_ ?_
          rotate_left
          ·intro hJ2_6_8_13
           refine join_ (σ := Unit) 7 (nb_ 16 511) (fun s_ => [(46, .int .i64 t207), (50, .agg #[.int .i64 t208, .int .u64 t209]), (52, .int .i64 t210)]) (fun s_ w' => (cS25_ gb201 (.int .i64 a0_0) (.int .i64 a0_1) (.int .i64 a0_2) (.int .i64 a0_3) (.int .i64 a0_4) (.int .i64 a0_5) (.int .i64 a0_6) (.int .i64 a0_7) (.int .i64 a0_8) (.int .i64 a0_9) (.int .i64 a0_10) (.int .i64 a0_11) (.int .i64 a0_12) (.int .i64 a0_13) (.int .i64 a0_14) (.int .i64 a0_15) (.int .i64 a0_16) (.int .i64 a0_17) (.int .i64 a0_18) (.int .i64 a0_19) (.int .i64 a0_20) (.string a0_21) (.string a0_22) (.slice A0_23 l0_23.length c0_23) (.slice A0_24 l0_24.length c0_24) w') ∧ (w'.heap[gb201]? = some (.cells #[.int .i64 a0_0, .int .i64 a0_1, .int .i64 a0_2, .int .i64 a0_3, .int .i64 a0_4, .int .i64 a0_5, .int .i64 a0_6, .int .i64 a0_7, .int .i64 a0_8, .int .i64 a0_9, .int .i64 a0_10, .int .i64 a0_11, .int .i64 a0_12, .int .i64 a0_13, .int .i64 a0_14, .int .i64 a0_15, .int .i64 a0_16, .int .i64 a0_17, .int .i64 a0_18, .int .i64 a0_19, .int .i64 a0_20, .string a0_21, .string a0_22, .slice A0_23 l0_23.length c0_23, .slice A0_24 l0_24.length c0_24] 27 (0, 0))) ∧ (w'.heap[gb202]? = some (.cells #[.int .i64 x203000_2, .int .u64 x203001_2] 32 (0, 0))) ∧ (w'.heap[gb206]? = some (.cells #[.int .i64 x207000_2, .int .u64 x207001_2] 32 (0, 0))) ∧ (Below w.heap.size w w')) ?_ ?_
           rotate_left
           ·intro hJ2_6_8
            refine join_ (σ := Nat) 7 (nb_ 16 8447) (fun s_ => [(46, .int .i64 t207), (50, .agg #[.int .i64 t208, .int .u64 t209]), (10, .pointer (some ⟨s_, 0, none⟩))]) (fun s_ w' => (cS25_ gb201 (.int .i64 a0_0) (.int .i64 a0_1) (.int .i64 a0_2) (.int .i64 a0_3) (.int .i64 a0_4) (.int .i64 a0_5) (.int .i64 a0_6) (.int .i64 a0_7) (.int .i64 a0_8) (.int .i64 a0_9) (.int .i64 a0_10) (.int .i64 a0_11) (.int .i64 a0_12) (.int .i64 a0_13) (.int .i64 a0_14) (.int .i64 a0_15) (.int .i64 a0_16) (.int .i64 a0_17) (.int .i64 a0_18) (.int .i64 a0_19) (.int .i64 a0_20) (.string a0_21) (.string a0_22) (.slice A0_23 l0_23.length c0_23) (.slice A0_24 l0_24.length c0_24) w') ∧ (w'.heap[gb201]? = some (.cells #[.int .i64 a0_0, .int .i64 a0_1, .int .i64 a0_2, .int .i64 a0_3, .int .i64 a0_4, .int .i64 a0_5, .int .i64 a0_6, .int .i64 a0_7, .int .i64 a0_8, .int .i64 a0_9, .int .i64 a0_10, .int .i64 a0_11, .int .i64 a0_12, .int .i64 a0_13, .int .i64 a0_14, .int .i64 a0_15, .int .i64 a0_16, .int .i64 a0_17, .int .i64 a0_18, .int .i64 a0_19, .int .i64 a0_20, .string a0_21, .string a0_22, .slice A0_23 l0_23.length c0_23, .slice A0_24 l0_24.length c0_24] 27 (0, 0))) ∧ (w'.heap[gb202]? = some (.cells #[.int .i64 x203000_2, .int .u64 x203001_2] 32 (0, 0))) ∧ (w'.heap[gb206]? = some (.cells #[.int .i64 x207000_2, .int .u64 x207001_2] 32 (0, 0))) ∧ (w'.heap[s_]? = some (.cells #[.int .i64 0, .int .u64 0] 32 (0, 0))) ∧ (w.heap.size ≤ s_) ∧ (w.heap.size ≤ s_) ∧ (gb201 ≠ s_) ∧ (s_ ≠ gb201) ∧ (gb202 ≠ s_) ∧ (s_ ≠ gb202) ∧ (gb206 ≠ s_) ∧ (s_ ≠ gb206) ∧ (Below w.heap.size w w')) ?_ ?_
            rotate_left
            ·intro hJ2_6_13
             refine join_ (σ := Unit) 8 (nb_ 16 255) (fun s_ => [(46, .int .i64 t207), (50, .agg #[.int .i64 t208, .int .u64 t209])]) (fun s_ w' => (cS25_ gb201 (.int .i64 a0_0) (.int .i64 a0_1) (.int .i64 a0_2) (.int .i64 a0_3) (.int .i64 a0_4) (.int .i64 a0_5) (.int .i64 a0_6) (.int .i64 a0_7) (.int .i64 a0_8) (.int .i64 a0_9) (.int .i64 a0_10) (.int .i64 a0_11) (.int .i64 a0_12) (.int .i64 a0_13) (.int .i64 a0_14) (.int .i64 a0_15) (.int .i64 a0_16) (.int .i64 a0_17) (.int .i64 a0_18) (.int .i64 a0_19) (.int .i64 a0_20) (.string a0_21) (.string a0_22) (.slice A0_23 l0_23.length c0_23) (.slice A0_24 l0_24.length c0_24) w') ∧ (w'.heap[gb201]? = some (.cells #[.int .i64 a0_0, .int .i64 a0_1, .int .i64 a0_2, .int .i64 a0_3, .int .i64 a0_4, .int .i64 a0_5, .int .i64 a0_6, .int .i64 a0_7, .int .i64 a0_8, .int .i64 a0_9, .int .i64 a0_10, .int .i64 a0_11, .int .i64 a0_12, .int .i64 a0_13, .int .i64 a0_14, .int .i64 a0_15, .int .i64 a0_16, .int .i64 a0_17, .int .i64 a0_18, .int .i64 a0_19, .int .i64 a0_20, .string a0_21, .string a0_22, .slice A0_23 l0_23.length c0_23, .slice A0_24 l0_24.length c0_24] 27 (0, 0))) ∧ (w'.heap[gb202]? = some (.cells #[.int .i64 x203000_2, .int .u64 x203001_2] 32 (0, 0))) ∧ (w'.heap[gb206]? = some (.cells #[.int .i64 x207000_2, .int .u64 x207001_2] 32 (0, 0))) ∧ (Below w.heap.size w w')) ?_ ?_
             rotate_left
             ·intro hJ2_6
              refine join_ (σ := Nat) 8 (nb_ 16 8383) (fun s_ => [(46, .int .i64 t207), (10, .pointer (some ⟨s_, 0, none⟩))]) (fun s_ w' => (cS25_ gb201 (.int .i64 a0_0) (.int .i64 a0_1) (.int .i64 a0_2) (.int .i64 a0_3) (.int .i64 a0_4) (.int .i64 a0_5) (.int .i64 a0_6) (.int .i64 a0_7) (.int .i64 a0_8) (.int .i64 a0_9) (.int .i64 a0_10) (.int .i64 a0_11) (.int .i64 a0_12) (.int .i64 a0_13) (.int .i64 a0_14) (.int .i64 a0_15) (.int .i64 a0_16) (.int .i64 a0_17) (.int .i64 a0_18) (.int .i64 a0_19) (.int .i64 a0_20) (.string a0_21) (.string a0_22) (.slice A0_23 l0_23.length c0_23) (.slice A0_24 l0_24.length c0_24) w') ∧ (w'.heap[gb201]? = some (.cells #[.int .i64 a0_0, .int .i64 a0_1, .int .i64 a0_2, .int .i64 a0_3, .int .i64 a0_4, .int .i64 a0_5, .int .i64 a0_6, .int .i64 a0_7, .int .i64 a0_8, .int .i64 a0_9, .int .i64 a0_10, .int .i64 a0_11, .int .i64 a0_12, .int .i64 a0_13, .int .i64 a0_14, .int .i64 a0_15, .int .i64 a0_16, .int .i64 a0_17, .int .i64 a0_18, .int .i64 a0_19, .int .i64 a0_20, .string a0_21, .string a0_22, .slice A0_23 l0_23.length c0_23, .slice A0_24 l0_24.length c0_24] 27 (0, 0))) ∧ (w'.heap[gb202]? = some (.cells #[.int .i64 x203000_2, .int .u64 x203001_2] 32 (0, 0))) ∧ (w'.heap[gb206]? = some (.cells #[.int .i64 x207000_2, .int .u64 x207001_2] 32 (0, 0))) ∧ (w'.heap[s_]? = some (.cells #[.int .i64 0, .int .u64 0] 32 (0, 0))) ∧ (w.heap.size ≤ s_) ∧ (w.heap.size ≤ s_) ∧ (gb201 ≠ s_) ∧ (s_ ≠ gb201) ∧ (gb202 ≠ s_) ∧ (s_ ≠ gb202) ∧ (gb206 ≠ s_) ∧ (s_ ≠ gb206) ∧ (Below w.heap.size w w')) ?_ ?_
              rotate_left
              ·intro hJ2_13
               refine join_ (σ := Unit) 9 (nb_ 16 191) (fun s_ => [(46, .int .i64 t207)]) (fun s_ w' => (cS25_ gb201 (.int .i64 a0_0) (.int .i64 a0_1) (.int .i64 a0_2) (.int .i64 a0_3) (.int .i64 a0_4) (.int .i64 a0_5) (.int .i64 a0_6) (.int .i64 a0_7) (.int .i64 a0_8) (.int .i64 a0_9) (.int .i64 a0_10) (.int .i64 a0_11) (.int .i64 a0_12) (.int .i64 a0_13) (.int .i64 a0_14) (.int .i64 a0_15) (.int .i64 a0_16) (.int .i64 a0_17) (.int .i64 a0_18) (.int .i64 a0_19) (.int .i64 a0_20) (.string a0_21) (.string a0_22) (.slice A0_23 l0_23.length c0_23) (.slice A0_24 l0_24.length c0_24) w') ∧ (w'.heap[gb201]? = some (.cells #[.int .i64 a0_0, .int .i64 a0_1, .int .i64 a0_2, .int .i64 a0_3, .int .i64 a0_4, .int .i64 a0_5, .int .i64 a0_6, .int .i64 a0_7, .int .i64 a0_8, .int .i64 a0_9, .int .i64 a0_10, .int .i64 a0_11, .int .i64 a0_12, .int .i64 a0_13, .int .i64 a0_14, .int .i64 a0_15, .int .i64 a0_16, .int .i64 a0_17, .int .i64 a0_18, .int .i64 a0_19, .int .i64 a0_20, .string a0_21, .string a0_22, .slice A0_23 l0_23.length c0_23, .slice A0_24 l0_24.length c0_24] 27 (0, 0))) ∧ (w'.heap[gb202]? = some (.cells #[.int .i64 x203000_2, .int .u64 x203001_2] 32 (0, 0))) ∧ (w'.heap[gb206]? = some (.cells #[.int .i64 x207000_2, .int .u64 x207001_2] 32 (0, 0))) ∧ (Below w.heap.size w w')) ?_ ?_
               rotate_left
               ·intro hJ2
                refine join_ (σ := Nat) 9 (nb_ 16 8379) (fun s_ => [(10, .pointer (some ⟨s_, 0, none⟩))]) (fun s_ w' => (cS25_ gb201 (.int .i64 a0_0) (.int .i64 a0_1) (.int .i64 a0_2) (.int .i64 a0_3) (.int .i64 a0_4) (.int .i64 a0_5) (.int .i64 a0_6) (.int .i64 a0_7) (.int .i64 a0_8) (.int .i64 a0_9) (.int .i64 a0_10) (.int .i64 a0_11) (.int .i64 a0_12) (.int .i64 a0_13) (.int .i64 a0_14) (.int .i64 a0_15) (.int .i64 a0_16) (.int .i64 a0_17) (.int .i64 a0_18) (.int .i64 a0_19) (.int .i64 a0_20) (.string a0_21) (.string a0_22) (.slice A0_23 l0_23.length c0_23) (.slice A0_24 l0_24.length c0_24) w') ∧ (w'.heap[gb201]? = some (.cells #[.int .i64 a0_0, .int .i64 a0_1, .int .i64 a0_2, .int .i64 a0_3, .int .i64 a0_4, .int .i64 a0_5, .int .i64 a0_6, .int .i64 a0_7, .int .i64 a0_8, .int .i64 a0_9, .int .i64 a0_10, .int .i64 a0_11, .int .i64 a0_12, .int .i64 a0_13, .int .i64 a0_14, .int .i64 a0_15, .int .i64 a0_16, .int .i64 a0_17, .int .i64 a0_18, .int .i64 a0_19, .int .i64 a0_20, .string a0_21, .string a0_22, .slice A0_23 l0_23.length c0_23, .slice A0_24 l0_24.length c0_24] 27 (0, 0))) ∧ (w'.heap[gb202]? = some (.cells #[.int .i64 x203000_2, .int .u64 x203001_2] 32 (0, 0))) ∧ (w'.heap[gb206]? = some (.cells #[.int .i64 x207000_2, .int .u64 x207001_2] 32 (0, 0))) ∧ (w'.heap[s_]? = some (.cells #[.int .i64 0, .int .u64 0] 32 (0, 0))) ∧ (w.heap.size ≤ s_) ∧ (w.heap.size ≤ s_) ∧ (gb201 ≠ s_) ∧ (s_ ≠ gb201) ∧ (gb202 ≠ s_) ∧ (s_ ≠ gb202) ∧ (gb206 ≠ s_) ∧ (s_ ≠ gb206) ∧ (Below w.heap.size w w')) ?_ ?_
                rotate_left
                ·intro hJ13
                 refine two_ (i := 2) (j := 13) (Ni := some 46) (Nj := some 10) (nb_ 16 191) (nb_ 16 8379) rfl rfl rfl rfl (two_of HT_.out (by kernel_rfl)) (by decide) (by decide) (fun K hK => ?_) (fun K hK => ?_)
                 ·skip
                  refine goes_ Tryd.func17 (by kernel_rfl) rfl #[.agg #[.int .i64 a0_0, .int .i64 a0_1, .int .i64 a0_2, .int .i64 a0_3, .int .i64 a0_4, .int .i64 a0_5, .int .i64 a0_6, .int .i64 a0_7, .int .i64 a0_8, .int .i64 a0_9, .int .i64 a0_10, .int .i64 a0_11, .int .i64 a0_12, .int .i64 a0_13, .int .i64 a0_14, .int .i64 a0_15, .int .i64 a0_16, .int .i64 a0_17, .int .i64 a0_18, .int .i64 a0_19, .int .i64 a0_20, .string a0_21, .string a0_22, .slice A0_23 l0_23.length c0_23, .slice A0_24 l0_24.length c0_24], .int .i64 x9_2] (by rfl) rfl rfl ql_ ?_
                  with_reducible refine (arrears_Overdue.calls k2 a0_0 a0_1 a0_2 a0_3 a0_4 a0_5 a0_6 a0_7 a0_8 a0_9 a0_10 a0_11 a0_12 a0_13 a0_14 a0_15 a0_16 a0_17 a0_18 a0_19 a0_20 a0_21 a0_22 _ _ l0_23 _ _ l0_24 x9_2 t207 _ ?side1 ?side2 ?side3 ?side4 A34.out).mono ?_
                  (case side1 => repeat (first | exact (Kd.C_below HR0_23.out HB.out) | (with_reducible refine Kd.C_alloc ?_ _) | (with_reducible refine Kd.C_drewN ?_ _) | (with_reducible refine Kd.C_drew ?_)))
                  (case side2 => exact HC0_23.out)
                  (case side3 => repeat (first | exact (Kd.C_below HR0_24.out HB.out) | (with_reducible refine Kd.C_alloc ?_ _) | (with_reducible refine Kd.C_drewN ?_ _) | (with_reducible refine Kd.C_drew ?_)))
                  (case side4 => exact HC0_24.out)
                  rintro e w80 ⟨rfl, hb⟩
                  refine ⟨_, rfl, ?_⟩
                  replace BK201 := am_ (blk_below (qk_ BK201.out) hb)
                  replace BK202 := am_ (blk_below (qk_ BK202.out) hb)
                  replace BK206 := am_ (blk_below (qk_ BK206.out) hb)
                  replace HB := am_ (below_step (qb3_ GE201.out GE202.out GE206.out HB.out) hb)
                  (try clear hb)
                  refine hK.out _ _ (cc25_ BK201.out) (fun hHeld => ?_)
                  clear hK K
                  refine no_ ?_
                  exact norm_ (by first | (simp only [putAll, Act.put, List.setIfInBounds_toArray, List.set_cons_zero, List.set_cons_succ]; done) | (simp only [putAll, Act.put, List.setIfInBounds_toArray, List.set_cons_zero, List.set_cons_succ]; rfl)) (hJ2 () _ ⟨hHeld, (qk_ BK201.out), (qk_ BK202.out), (qk_ BK206.out), (qb3_ GE201.out GE202.out GE206.out HB.out)⟩)
                 ·skip
                  refine box_step ?hg (N := 10) ?hd (cs := #[.int .i64 0, .int .u64 0]) (t := 32) ?hr ?_; (case hd => rfl); (case hg => rfl); (case hr => first | (go_simp; done) | (go_simp; rfl))
                  intro gb214 hg w80 hbox hb
                  have BK214 := am_ (hbox)
                  have GW214 := am_ (bz_ hg (qb3_ GE201.out GE202.out GE206.out HB.out) : w.heap.size ≤ gb214)
                  have GE214 := am_ (bz_ hg (qb3_ GE201.out GE202.out GE206.out HB.out) : w.heap.size ≤ gb214)
                  replace HB := am_ (below_step (qb3_ GE201.out GE202.out GE206.out HB.out) hb)
                  have NB201_214 := am_ (nl_ hg (qk_ BK201.out) : gb201 ≠ gb214)
                  have NB214_201 := am_ (ng_ hg (qk_ BK201.out) : gb214 ≠ gb201)
                  replace BK201 := am_ (blk_below (qk_ BK201.out) hb)
                  have NB202_214 := am_ (nl_ hg (qk_ BK202.out) : gb202 ≠ gb214)
                  have NB214_202 := am_ (ng_ hg (qk_ BK202.out) : gb214 ≠ gb202)
                  replace BK202 := am_ (blk_below (qk_ BK202.out) hb)
                  have NB206_214 := am_ (nl_ hg (qk_ BK206.out) : gb206 ≠ gb214)
                  have NB214_206 := am_ (ng_ hg (qk_ BK206.out) : gb214 ≠ gb206)
                  replace BK206 := am_ (blk_below (qk_ BK206.out) hb)
                  clear hb hbox hg
                  refine hK.out _ _ (cc25_ BK201.out) (fun hHeld => ?_)
                  clear hK K
                  refine no_ ?_
                  exact norm_ (by first | (simp only [putAll, Act.put, List.setIfInBounds_toArray, List.set_cons_zero, List.set_cons_succ]; done) | (simp only [putAll, Act.put, List.setIfInBounds_toArray, List.set_cons_zero, List.set_cons_succ]; rfl)) (hJ13 (gb214) _ ⟨hHeld, (qk_ BK201.out), (qk_ BK202.out), (qk_ BK206.out), (qk_ BK214.out), GW214.out, GE214.out, NB201_214.out, NB214_201.out, NB202_214.out, NB214_202.out, NB206_214.out, NB214_206.out, (qb4_ GE201.out GE202.out GE206.out GE214.out HB.out)⟩)
                ·skip
                 rintro gb214 w81 ⟨hS_, h0_, h1_, h2_, h3_, h4_, h5_, h6_, h7_, h8_, h9_, h10_, h11_, h12_⟩
                 replace BK201 := am_ h0_
                 replace BK202 := am_ h1_
                 replace BK206 := am_ h2_
                 have BK214 := am_ h3_
                 have GW214 := am_ h4_
                 have GE214 := am_ h5_
                 have NB201_214 := am_ h6_
                 have NB214_201 := am_ h7_
                 have NB202_214 := am_ h8_
                 have NB214_202 := am_ h9_
                 have NB206_214 := am_ h10_
                 have NB214_206 := am_ h11_
                 replace HB := am_ h12_
                 clear h0_ h1_ h2_ h3_ h4_ h5_ h6_ h7_ h8_ h9_ h10_ h11_ h12_
                 have hHeld := hS_
                 refine norm_ (a' := ?_) ?_ ?_
                 rotate_left
                 ·simp only [putAll, Act.put, List.setIfInBounds_toArray, List.set_cons_zero, List.set_cons_succ]
                  rfl
                 refine on_ 2 46 (nb_ 16 8383) HT_.out (fun K hK => ?_)
                 refine goes_ Tryd.func17 (by kernel_rfl) rfl #[.agg #[.int .i64 a0_0, .int .i64 a0_1, .int .i64 a0_2, .int .i64 a0_3, .int .i64 a0_4, .int .i64 a0_5, .int .i64 a0_6, .int .i64 a0_7, .int .i64 a0_8, .int .i64 a0_9, .int .i64 a0_10, .int .i64 a0_11, .int .i64 a0_12, .int .i64 a0_13, .int .i64 a0_14, .int .i64 a0_15, .int .i64 a0_16, .int .i64 a0_17, .int .i64 a0_18, .int .i64 a0_19, .int .i64 a0_20, .string a0_21, .string a0_22, .slice A0_23 l0_23.length c0_23, .slice A0_24 l0_24.length c0_24], .int .i64 x9_2] (by rfl) rfl rfl ql_ ?_
                 with_reducible refine (arrears_Overdue.calls k2 a0_0 a0_1 a0_2 a0_3 a0_4 a0_5 a0_6 a0_7 a0_8 a0_9 a0_10 a0_11 a0_12 a0_13 a0_14 a0_15 a0_16 a0_17 a0_18 a0_19 a0_20 a0_21 a0_22 _ _ l0_23 _ _ l0_24 x9_2 t207 _ ?side1 ?side2 ?side3 ?side4 A34.out).mono ?_
                 (case side1 => repeat (first | exact (Kd.C_below HR0_23.out HB.out) | (with_reducible refine Kd.C_alloc ?_ _) | (with_reducible refine Kd.C_drewN ?_ _) | (with_reducible refine Kd.C_drew ?_)))
                 (case side2 => exact HC0_23.out)
                 (case side3 => repeat (first | exact (Kd.C_below HR0_24.out HB.out) | (with_reducible refine Kd.C_alloc ?_ _) | (with_reducible refine Kd.C_drewN ?_ _) | (with_reducible refine Kd.C_drew ?_)))
                 (case side4 => exact HC0_24.out)
                 rintro e w82 ⟨rfl, hb⟩
                 refine ⟨_, rfl, ?_⟩
                 replace BK201 := am_ (blk_below (qk_ BK201.out) hb)
                 replace BK202 := am_ (blk_below (qk_ BK202.out) hb)
                 replace BK206 := am_ (blk_below (qk_ BK206.out) hb)
                 replace BK214 := am_ (blk_below (qk_ BK214.out) hb)
                 replace HB := am_ (below_step (qb4_ GE201.out GE202.out GE206.out GE214.out HB.out) hb)
                 (try clear hb)
                 refine hK.out _ _ (cc25_ BK201.out) (fun hHeld => ?_)
                 clear hK K
                 refine no_ ?_
                 exact norm_ (by first | (simp only [putAll, Act.put, List.setIfInBounds_toArray, List.set_cons_zero, List.set_cons_succ]; done) | (simp only [putAll, Act.put, List.setIfInBounds_toArray, List.set_cons_zero, List.set_cons_succ]; rfl)) (hJ2_13 (gb214) _ ⟨hHeld, (qk_ BK201.out), (qk_ BK202.out), (qk_ BK206.out), (qk_ BK214.out), GW214.out, GE214.out, NB201_214.out, NB214_201.out, NB202_214.out, NB214_202.out, NB206_214.out, NB214_206.out, (qb4_ GE201.out GE202.out GE206.out GE214.out HB.out)⟩)
               ·skip
                rintro _ w81 ⟨hS_, h0_, h1_, h2_, h3_⟩
                replace BK201 := am_ h0_
                replace BK202 := am_ h1_
                replace BK206 := am_ h2_
                replace HB := am_ h3_
                clear h0_ h1_ h2_ h3_
                have hHeld := hS_
                refine norm_ (a' := ?_) ?_ ?_
                rotate_left
                ·simp only [putAll, Act.put, List.setIfInBounds_toArray, List.set_cons_zero, List.set_cons_succ]
                 rfl
                refine two_ (i := 6) (j := 13) (Ni := some 50) (Nj := some 10) (nb_ 16 255) (nb_ 16 8383) rfl rfl rfl rfl (two_of HT_.out (by kernel_rfl)) (by decide) (by decide) (fun K hK => ?_) (fun K hK => ?_)
                ·skip
                 refine goes_ Tryd.func28 (by kernel_rfl) rfl #[.int .i64 t207, .int .i64 a0_19] (by rfl) rfl rfl ql_ ?_
                 with_reducible refine (wide_Mul.calls t207 a0_19 t208 t209 _ A35.out).mono ?_
                 rintro e w82 ⟨rfl, hb⟩
                 refine ⟨_, rfl, ?_⟩
                 replace BK201 := am_ (blk_below (qk_ BK201.out) hb)
                 replace BK202 := am_ (blk_below (qk_ BK202.out) hb)
                 replace BK206 := am_ (blk_below (qk_ BK206.out) hb)
                 replace HB := am_ (below_step (qb3_ GE201.out GE202.out GE206.out HB.out) hb)
                 (try clear hb)
                 refine hK.out _ _ (cc25_ BK201.out) (fun hHeld => ?_)
                 clear hK K
                 refine no_ ?_
                 exact norm_ (by first | (simp only [putAll, Act.put, List.setIfInBounds_toArray, List.set_cons_zero, List.set_cons_succ]; done) | (simp only [putAll, Act.put, List.setIfInBounds_toArray, List.set_cons_zero, List.set_cons_succ]; rfl)) (hJ2_6 () _ ⟨hHeld, (qk_ BK201.out), (qk_ BK202.out), (qk_ BK206.out), (qb3_ GE201.out GE202.out GE206.out HB.out)⟩)
                ·skip
                 refine box_step ?hg (N := 10) ?hd (cs := #[.int .i64 0, .int .u64 0]) (t := 32) ?hr ?_; (case hd => rfl); (case hg => rfl); (case hr => first | (go_simp; done) | (go_simp; rfl))
                 intro gb214 hg w82 hbox hb
                 have BK214 := am_ (hbox)
                 have GW214 := am_ (bz_ hg (qb3_ GE201.out GE202.out GE206.out HB.out) : w.heap.size ≤ gb214)
                 have GE214 := am_ (bz_ hg (qb3_ GE201.out GE202.out GE206.out HB.out) : w.heap.size ≤ gb214)
                 replace HB := am_ (below_step (qb3_ GE201.out GE202.out GE206.out HB.out) hb)
                 have NB201_214 := am_ (nl_ hg (qk_ BK201.out) : gb201 ≠ gb214)
                 have NB214_201 := am_ (ng_ hg (qk_ BK201.out) : gb214 ≠ gb201)
                 replace BK201 := am_ (blk_below (qk_ BK201.out) hb)
                 have NB202_214 := am_ (nl_ hg (qk_ BK202.out) : gb202 ≠ gb214)
                 have NB214_202 := am_ (ng_ hg (qk_ BK202.out) : gb214 ≠ gb202)
                 replace BK202 := am_ (blk_below (qk_ BK202.out) hb)
                 have NB206_214 := am_ (nl_ hg (qk_ BK206.out) : gb206 ≠ gb214)
                 have NB214_206 := am_ (ng_ hg (qk_ BK206.out) : gb214 ≠ gb206)
                 replace BK206 := am_ (blk_below (qk_ BK206.out) hb)
                 clear hb hbox hg
                 refine hK.out _ _ (cc25_ BK201.out) (fun hHeld => ?_)
                 clear hK K
                 refine no_ ?_
                 exact norm_ (by first | (simp only [putAll, Act.put, List.setIfInBounds_toArray, List.set_cons_zero, List.set_cons_succ]; done) | (simp only [putAll, Act.put, List.setIfInBounds_toArray, List.set_cons_zero, List.set_cons_succ]; rfl)) (hJ2_13 (gb214) _ ⟨hHeld, (qk_ BK201.out), (qk_ BK202.out), (qk_ BK206.out), (qk_ BK214.out), GW214.out, GE214.out, NB201_214.out, NB214_201.out, NB202_214.out, NB214_202.out, NB206_214.out, NB214_206.out, (qb4_ GE201.out GE202.out GE206.out GE214.out HB.out)⟩)
              ·skip
               rintro gb214 w82 ⟨hS_, h0_, h1_, h2_, h3_, h4_, h5_, h6_, h7_, h8_, h9_, h10_, h11_, h12_⟩
               replace BK201 := am_ h0_
               replace BK202 := am_ h1_
               replace BK206 := am_ h2_
               have BK214 := am_ h3_
               have GW214 := am_ h4_
               have GE214 := am_ h5_
               have NB201_214 := am_ h6_
               have NB214_201 := am_ h7_
               have NB202_214 := am_ h8_
               have NB214_202 := am_ h9_
               have NB206_214 := am_ h10_
               have NB214_206 := am_ h11_
               replace HB := am_ h12_
               clear h0_ h1_ h2_ h3_ h4_ h5_ h6_ h7_ h8_ h9_ h10_ h11_ h12_
               have hHeld := hS_
               refine norm_ (a' := ?_) ?_ ?_
               rotate_left
               ·simp only [putAll, Act.put, List.setIfInBounds_toArray, List.set_cons_zero, List.set_cons_succ]
                rfl
               refine on_ 6 50 (nb_ 16 8447) HT_.out (fun K hK => ?_)
               refine goes_ Tryd.func28 (by kernel_rfl) rfl #[.int .i64 t207, .int .i64 a0_19] (by rfl) rfl rfl ql_ ?_
               with_reducible refine (wide_Mul.calls t207 a0_19 t208 t209 _ A35.out).mono ?_
               rintro e w83 ⟨rfl, hb⟩
               refine ⟨_, rfl, ?_⟩
               replace BK201 := am_ (blk_below (qk_ BK201.out) hb)
               replace BK202 := am_ (blk_below (qk_ BK202.out) hb)
               replace BK206 := am_ (blk_below (qk_ BK206.out) hb)
               replace BK214 := am_ (blk_below (qk_ BK214.out) hb)
               replace HB := am_ (below_step (qb4_ GE201.out GE202.out GE206.out GE214.out HB.out) hb)
               (try clear hb)
               refine hK.out _ _ (cc25_ BK201.out) (fun hHeld => ?_)
               clear hK K
               refine no_ ?_
               exact norm_ (by first | (simp only [putAll, Act.put, List.setIfInBounds_toArray, List.set_cons_zero, List.set_cons_succ]; done) | (simp only [putAll, Act.put, List.setIfInBounds_toArray, List.set_cons_zero, List.set_cons_succ]; rfl)) (hJ2_6_13 (gb214) _ ⟨hHeld, (qk_ BK201.out), (qk_ BK202.out), (qk_ BK206.out), (qk_ BK214.out), GW214.out, GE214.out, NB201_214.out, NB214_201.out, NB202_214.out, NB214_202.out, NB206_214.out, NB214_206.out, (qb4_ GE201.out GE202.out GE206.out GE214.out HB.out)⟩)
             ·skip
              rintro _ w82 ⟨hS_, h0_, h1_, h2_, h3_⟩
              replace BK201 := am_ h0_
              replace BK202 := am_ h1_
              replace BK206 := am_ h2_
              replace HB := am_ h3_
              clear h0_ h1_ h2_ h3_
              have hHeld := hS_
              refine norm_ (a' := ?_) ?_ ?_
              rotate_left
              ·simp only [putAll, Act.put, List.setIfInBounds_toArray, List.set_cons_zero, List.set_cons_succ]
               rfl
              refine two_ (i := 8) (j := 13) (Ni := some 52) (Nj := some 10) (nb_ 16 511) (nb_ 16 8447) rfl rfl rfl rfl (two_of HT_.out (by kernel_rfl)) (by decide) (by decide) (fun K hK => ?_) (fun K hK => ?_)
              ·skip
               refine goes_ Tryd.func29 (by kernel_rfl) rfl #[.int .i64 3, .int .i64 x9_2] (by rfl) rfl rfl ql_ ?_
               with_reducible refine (daycount_Weight.calls k2 3 x9_2 t210 _ A36.out).mono ?_
               rintro e w83 ⟨rfl, hb⟩
               refine ⟨_, rfl, ?_⟩
               replace BK201 := am_ (blk_below (qk_ BK201.out) hb)
               replace BK202 := am_ (blk_below (qk_ BK202.out) hb)
               replace BK206 := am_ (blk_below (qk_ BK206.out) hb)
               replace HB := am_ (below_step (qb3_ GE201.out GE202.out GE206.out HB.out) hb)
               (try clear hb)
               refine hK.out _ _ (cc25_ BK201.out) (fun hHeld => ?_)
               clear hK K
               refine no_ ?_
               exact norm_ (by first | (simp only [putAll, Act.put, List.setIfInBounds_toArray, List.set_cons_zero, List.set_cons_succ]; done) | (simp only [putAll, Act.put, List.setIfInBounds_toArray, List.set_cons_zero, List.set_cons_succ]; rfl)) (hJ2_6_8 () _ ⟨hHeld, (qk_ BK201.out), (qk_ BK202.out), (qk_ BK206.out), (qb3_ GE201.out GE202.out GE206.out HB.out)⟩)
              ·skip
               refine box_step ?hg (N := 10) ?hd (cs := #[.int .i64 0, .int .u64 0]) (t := 32) ?hr ?_; (case hd => rfl); (case hg => rfl); (case hr => first | (go_simp; done) | (go_simp; rfl))
               intro gb214 hg w83 hbox hb
               have BK214 := am_ (hbox)
               have GW214 := am_ (bz_ hg (qb3_ GE201.out GE202.out GE206.out HB.out) : w.heap.size ≤ gb214)
               have GE214 := am_ (bz_ hg (qb3_ GE201.out GE202.out GE206.out HB.out) : w.heap.size ≤ gb214)
               replace HB := am_ (below_step (qb3_ GE201.out GE202.out GE206.out HB.out) hb)
               have NB201_214 := am_ (nl_ hg (qk_ BK201.out) : gb201 ≠ gb214)
               have NB214_201 := am_ (ng_ hg (qk_ BK201.out) : gb214 ≠ gb201)
               replace BK201 := am_ (blk_below (qk_ BK201.out) hb)
               have NB202_214 := am_ (nl_ hg (qk_ BK202.out) : gb202 ≠ gb214)
               have NB214_202 := am_ (ng_ hg (qk_ BK202.out) : gb214 ≠ gb202)
               replace BK202 := am_ (blk_below (qk_ BK202.out) hb)
               have NB206_214 := am_ (nl_ hg (qk_ BK206.out) : gb206 ≠ gb214)
               have NB214_206 := am_ (ng_ hg (qk_ BK206.out) : gb214 ≠ gb206)
               replace BK206 := am_ (blk_below (qk_ BK206.out) hb)
               clear hb hbox hg
               refine hK.out _ _ (cc25_ BK201.out) (fun hHeld => ?_)
               clear hK K
               refine no_ ?_
               exact norm_ (by first | (simp only [putAll, Act.put, List.setIfInBounds_toArray, List.set_cons_zero, List.set_cons_succ]; done) | (simp only [putAll, Act.put, List.setIfInBounds_toArray, List.set_cons_zero, List.set_cons_succ]; rfl)) (hJ2_6_13 (gb214) _ ⟨hHeld, (qk_ BK201.out), (qk_ BK202.out), (qk_ BK206.out), (qk_ BK214.out), GW214.out, GE214.out, NB201_214.out, NB214_201.out, NB202_214.out, NB214_202.out, NB206_214.out, NB214_206.out, (qb4_ GE201.out GE202.out GE206.out GE214.out HB.out)⟩)
            ·skip
             rintro gb214 w83 ⟨hS_, h0_, h1_, h2_, h3_, h4_, h5_, h6_, h7_, h8_, h9_, h10_, h11_, h12_⟩
             replace BK201 := am_ h0_
             replace BK202 := am_ h1_
             replace BK206 := am_ h2_
             have BK214 := am_ h3_
             have GW214 := am_ h4_
             have GE214 := am_ h5_
             have NB201_214 := am_ h6_
             have NB214_201 := am_ h7_
             have NB202_214 := am_ h8_
             have NB214_202 := am_ h9_
             have NB206_214 := am_ h10_
             have NB214_206 := am_ h11_
             replace HB := am_ h12_
             clear h0_ h1_ h2_ h3_ h4_ h5_ h6_ h7_ h8_ h9_ h10_ h11_ h12_
             have hHeld := hS_
             refine norm_ (a' := ?_) ?_ ?_
             rotate_left
             ·simp only [putAll, Act.put, List.setIfInBounds_toArray, List.set_cons_zero, List.set_cons_succ]
              rfl
             refine on_ 8 52 (nb_ 16 8703) HT_.out (fun K hK => ?_)
             refine goes_ Tryd.func29 (by kernel_rfl) rfl #[.int .i64 3, .int .i64 x9_2] (by rfl) rfl rfl ql_ ?_
             with_reducible refine (daycount_Weight.calls k2 3 x9_2 t210 _ A36.out).mono ?_
             rintro e w84 ⟨rfl, hb⟩
             refine ⟨_, rfl, ?_⟩
             replace BK201 := am_ (blk_below (qk_ BK201.out) hb)
             replace BK202 := am_ (blk_below (qk_ BK202.out) hb)
             replace BK206 := am_ (blk_below (qk_ BK206.out) hb)
             replace BK214 := am_ (blk_below (qk_ BK214.out) hb)
             replace HB := am_ (below_step (qb4_ GE201.out GE202.out GE206.out GE214.out HB.out) hb)
             (try clear hb)
             refine hK.out _ _ (cc25_ BK201.out) (fun hHeld => ?_)
             clear hK K
             refine no_ ?_
             exact norm_ (by first | (simp only [putAll, Act.put, List.setIfInBounds_toArray, List.set_cons_zero, List.set_cons_succ]; done) | (simp only [putAll, Act.put, List.setIfInBounds_toArray, List.set_cons_zero, List.set_cons_succ]; rfl)) (hJ2_6_8_13 (gb214) _ ⟨hHeld, (qk_ BK201.out), (qk_ BK202.out), (qk_ BK206.out), (qk_ BK214.out), GW214.out, GE214.out, NB201_214.out, NB214_201.out, NB202_214.out, NB214_202.out, NB206_214.out, NB214_206.out, (qb4_ GE201.out GE202.out GE206.out GE214.out HB.out)⟩)
           ·skip
            rintro _ w83 ⟨hS_, h0_, h1_, h2_, h3_⟩
            replace BK201 := am_ h0_
            replace BK202 := am_ h1_
            replace BK206 := am_ h2_
            replace HB := am_ h3_
            clear h0_ h1_ h2_ h3_
            have hHeld := hS_
            refine norm_ (a' := ?_) ?_ ?_
            rotate_left
            ·simp only [putAll, Act.put, List.setIfInBounds_toArray, List.set_cons_zero, List.set_cons_succ]
             rfl
            refine two_ (i := 9) (j := 13) (Ni := some 53) (Nj := some 10) (nb_ 16 1023) (nb_ 16 8703) rfl rfl rfl rfl (two_of HT_.out (by kernel_rfl)) (by decide) (by decide) (fun K hK => ?_) (fun K hK => ?_)
            ·skip
             refine goes_ Tryd.func27 (by kernel_rfl) rfl #[.agg #[.int .i64 t208, .int .u64 t209], .int .i64 t210] (by rfl) rfl rfl ql_ ?_
             with_reducible refine (wide_Scale.calls t208 t209 t210 t211 t212 t213 _ A37.out).mono ?_
             rintro e w84 ⟨rfl, hb⟩
             refine ⟨_, rfl, ?_⟩
             replace BK201 := am_ (blk_below (qk_ BK201.out) hb)
             replace BK202 := am_ (blk_below (qk_ BK202.out) hb)
             replace BK206 := am_ (blk_below (qk_ BK206.out) hb)
             replace HB := am_ (below_step (qb3_ GE201.out GE202.out GE206.out HB.out) hb)
             (try clear hb)
             refine hK.out _ _ (cc25_ BK201.out) (fun hHeld => ?_)
             clear hK K
             refine no_ ?_
             refine pz_ 10 43 (nb_ 16 2047) HT_.out ?_
             refine pz_ 11 54 (nb_ 16 4095) HT_.out ?_
             refine pz_ 12 55 (nb_ 16 8191) HT_.out ?_
             exact norm_ (by first | (simp only [putAll, Act.put, List.setIfInBounds_toArray, List.set_cons_zero, List.set_cons_succ]; done) | (simp only [putAll, Act.put, List.setIfInBounds_toArray, List.set_cons_zero, List.set_cons_succ]; rfl)) (hJ2_6_8_9 () _ ⟨hHeld, (qk_ BK201.out), (qk_ BK202.out), (qk_ BK206.out), (qb3_ GE201.out GE202.out GE206.out HB.out)⟩)
            ·skip
             refine box_step ?hg (N := 10) ?hd (cs := #[.int .i64 0, .int .u64 0]) (t := 32) ?hr ?_; (case hd => rfl); (case hg => rfl); (case hr => first | (go_simp; done) | (go_simp; rfl))
             intro gb214 hg w84 hbox hb
             have BK214 := am_ (hbox)
             have GW214 := am_ (bz_ hg (qb3_ GE201.out GE202.out GE206.out HB.out) : w.heap.size ≤ gb214)
             have GE214 := am_ (bz_ hg (qb3_ GE201.out GE202.out GE206.out HB.out) : w.heap.size ≤ gb214)
             replace HB := am_ (below_step (qb3_ GE201.out GE202.out GE206.out HB.out) hb)
             have NB201_214 := am_ (nl_ hg (qk_ BK201.out) : gb201 ≠ gb214)
             have NB214_201 := am_ (ng_ hg (qk_ BK201.out) : gb214 ≠ gb201)
             replace BK201 := am_ (blk_below (qk_ BK201.out) hb)
             have NB202_214 := am_ (nl_ hg (qk_ BK202.out) : gb202 ≠ gb214)
             have NB214_202 := am_ (ng_ hg (qk_ BK202.out) : gb214 ≠ gb202)
             replace BK202 := am_ (blk_below (qk_ BK202.out) hb)
             have NB206_214 := am_ (nl_ hg (qk_ BK206.out) : gb206 ≠ gb214)
             have NB214_206 := am_ (ng_ hg (qk_ BK206.out) : gb214 ≠ gb206)
             replace BK206 := am_ (blk_below (qk_ BK206.out) hb)
             clear hb hbox hg
             refine hK.out _ _ (cc25_ BK201.out) (fun hHeld => ?_)
             clear hK K
             refine no_ ?_
             exact norm_ (by first | (simp only [putAll, Act.put, List.setIfInBounds_toArray, List.set_cons_zero, List.set_cons_succ]; done) | (simp only [putAll, Act.put, List.setIfInBounds_toArray, List.set_cons_zero, List.set_cons_succ]; rfl)) (hJ2_6_8_13 (gb214) _ ⟨hHeld, (qk_ BK201.out), (qk_ BK202.out), (qk_ BK206.out), (qk_ BK214.out), GW214.out, GE214.out, NB201_214.out, NB214_201.out, NB202_214.out, NB214_202.out, NB206_214.out, NB214_206.out, (qb4_ GE201.out GE202.out GE206.out GE214.out HB.out)⟩)
          ·skip
           rintro gb214 w84 ⟨hS_, h0_, h1_, h2_, h3_, h4_, h5_, h6_, h7_, h8_, h9_, h10_, h11_, h12_⟩
           replace BK201 := am_ h0_
           replace BK202 := am_ h1_
           replace BK206 := am_ h2_
           have BK214 := am_ h3_
           have GW214 := am_ h4_
           have GE214 := am_ h5_
           have NB201_214 := am_ h6_
           have NB214_201 := am_ h7_
           have NB202_214 := am_ h8_
           have NB214_202 := am_ h9_
           have NB206_214 := am_ h10_
           have NB214_206 := am_ h11_
           replace HB := am_ h12_
           clear h0_ h1_ h2_ h3_ h4_ h5_ h6_ h7_ h8_ h9_ h10_ h11_ h12_
           have hHeld := hS_
           refine norm_ (a' := ?_) ?_ ?_
           rotate_left
           ·simp only [putAll, Act.put, List.setIfInBounds_toArray, List.set_cons_zero, List.set_cons_succ]
            rfl
           refine on_ 9 53 (nb_ 16 9215) HT_.out (fun K hK => ?_)
           refine goes_ Tryd.func27 (by kernel_rfl) rfl #[.agg #[.int .i64 t208, .int .u64 t209], .int .i64 t210] (by rfl) rfl rfl ql_ ?_
           with_reducible refine (wide_Scale.calls t208 t209 t210 t211 t212 t213 _ A37.out).mono ?_
           rintro e w85 ⟨rfl, hb⟩
           refine ⟨_, rfl, ?_⟩
           replace BK201 := am_ (blk_below (qk_ BK201.out) hb)
           replace BK202 := am_ (blk_below (qk_ BK202.out) hb)
           replace BK206 := am_ (blk_below (qk_ BK206.out) hb)
           replace BK214 := am_ (blk_below (qk_ BK214.out) hb)
           replace HB := am_ (below_step (qb4_ GE201.out GE202.out GE206.out GE214.out HB.out) hb)
           (try clear hb)
           refine hK.out _ _ (cc25_ BK201.out) (fun hHeld => ?_)
           clear hK K
           refine no_ ?_
           refine pz_ 10 43 (nb_ 16 10239) HT_.out ?_
           refine pz_ 11 54 (nb_ 16 12287) HT_.out ?_
           refine pz_ 12 55 (nb_ 16 16383) HT_.out ?_
           exact norm_ (by first | (simp only [putAll, Act.put, List.setIfInBounds_toArray, List.set_cons_zero, List.set_cons_succ]; done) | (simp only [putAll, Act.put, List.setIfInBounds_toArray, List.set_cons_zero, List.set_cons_succ]; rfl)) (hJ2_6_8_9_13 (gb214) _ ⟨hHeld, (qk_ BK201.out), (qk_ BK202.out), (qk_ BK206.out), (qk_ BK214.out), GW214.out, GE214.out, NB201_214.out, NB214_201.out, NB202_214.out, NB214_202.out, NB206_214.out, NB214_206.out, (qb4_ GE201.out GE202.out GE206.out GE214.out HB.out)⟩)
         ·skip
          rintro _ w84 ⟨hS_, h0_, h1_, h2_, h3_⟩
          replace BK201 := am_ h0_
          replace BK202 := am_ h1_
          replace BK206 := am_ h2_
          replace HB := am_ h3_
          clear h0_ h1_ h2_ h3_
          have hHeld := hS_
          refine norm_ (a' := ?_) ?_ ?_
          rotate_left
          ·simp only [putAll, Act.put, List.setIfInBounds_toArray, List.set_cons_zero, List.set_cons_succ]
           rfl
          refine on_ 13 10 (nb_ 16 16383) HT_.out (fun K hK => ?_)
          refine box_step ?hg (N := 10) ?hd (cs := #[.int .i64 0, .int .u64 0]) (t := 32) ?hr ?_; (case hd => rfl); (case hg => rfl); (case hr => first | (go_simp; done) | (go_simp; rfl))
          intro gb214 hg w85 hbox hb
          have BK214 := am_ (hbox)
          have GW214 := am_ (bz_ hg (qb3_ GE201.out GE202.out GE206.out HB.out) : w.heap.size ≤ gb214)
          have GE214 := am_ (bz_ hg (qb3_ GE201.out GE202.out GE206.out HB.out) : w.heap.size ≤ gb214)
          replace HB := am_ (below_step (qb3_ GE201.out GE202.out GE206.out HB.out) hb)
          have NB201_214 := am_ (nl_ hg (qk_ BK201.out) : gb201 ≠ gb214)
          have NB214_201 := am_ (ng_ hg (qk_ BK201.out) : gb214 ≠ gb201)
          replace BK201 := am_ (blk_below (qk_ BK201.out) hb)
          have NB202_214 := am_ (nl_ hg (qk_ BK202.out) : gb202 ≠ gb214)
          have NB214_202 := am_ (ng_ hg (qk_ BK202.out) : gb214 ≠ gb202)
          replace BK202 := am_ (blk_below (qk_ BK202.out) hb)
          have NB206_214 := am_ (nl_ hg (qk_ BK206.out) : gb206 ≠ gb214)
          have NB214_206 := am_ (ng_ hg (qk_ BK206.out) : gb214 ≠ gb206)
          replace BK206 := am_ (blk_below (qk_ BK206.out) hb)
          clear hb hbox hg
          refine hK.out _ _ (cc25_ BK201.out) (fun hHeld => ?_)
          clear hK K
          refine no_ ?_
          exact norm_ (by first | (simp only [putAll, Act.put, List.setIfInBounds_toArray, List.set_cons_zero, List.set_cons_succ]; done) | (simp only [putAll, Act.put, List.setIfInBounds_toArray, List.set_cons_zero, List.set_cons_succ]; rfl)) (hJ2_6_8_9_13 (gb214) _ ⟨hHeld, (qk_ BK201.out), (qk_ BK202.out), (qk_ BK206.out), (qk_ BK214.out), GW214.out, GE214.out, NB201_214.out, NB214_201.out, NB202_214.out, NB214_202.out, NB206_214.out, NB214_206.out, (qb4_ GE201.out GE202.out GE206.out GE214.out HB.out)⟩)
        rintro gb214 w85 ⟨hS_, h0_, h1_, h2_, h3_, h4_, h5_, h6_, h7_, h8_, h9_, h10_, h11_, h12_⟩
        have n1_ := am_ h1_
        have n2_ := am_ h2_
        have n3_ := am_ h3_
        have n5_ := am_ h5_
        have n6_ := am_ h6_
        have n7_ := am_ h7_
        have n8_ := am_ h8_
        have n9_ := am_ h9_
        have n10_ := am_ h10_
        have n11_ := am_ h11_
        have n12_ := am_ h12_
        (try clear BK201)
        clear BK202
        clear BK206
        clear HB
        clear h0_ h1_ h2_ h3_ h4_ h5_ h6_ h7_ h8_ h9_ h10_ h11_ h12_
        have BK202 := n1_
        have BK206 := n2_
        have BK214 := n3_
        have GE214 := n5_
        have NB201_214 := n6_
        have NB214_201 := n7_
        have NB202_214 := n8_
        have NB214_202 := n9_
        have NB206_214 := n10_
        have NB214_206 := n11_
        have HB := n12_
        clear n1_ n2_ n3_ n5_ n6_ n7_ n8_ n9_ n10_ n11_ n12_
        have hHeld := hS_
        refine norm_ (a' := ?_) ?_ ?_
        rotate_left
        ·simp only [putAll, Act.put, List.setIfInBounds_toArray, List.set_cons_zero, List.set_cons_succ]
         rfl
        refine one_ (i := 14) (N := none) (nb_ 16 32767) rfl rfl (one_of HT_.out (by kernel_rfl)) (by decide) (fun K hK => ?_)
        have hs86 : w85.cell? ⟨gb214, 0, none⟩ = some (.int .i64 0) := (blk_cell BK214.out 0).trans rfl
        have hfs86 := blk_frozen BK214.out 0
        have hns86_0 := NB201_214.out
        have hns86_1 := NB202_214.out
        have hns86_2 := NB206_214.out
        have hms86_0 := NB214_201.out
        have hms86_1 := NB214_202.out
        have hms86_2 := NB214_206.out
        have hs87 : w85.cell? ⟨gb214, 1, none⟩ = some (.int .u64 0) := (blk_cell BK214.out 1).trans rfl
        have hfs87 := blk_frozen BK214.out 1
        have hns87_0 := NB201_214.out
        have hns87_1 := NB202_214.out
        have hns87_2 := NB206_214.out
        have hms87_0 := NB214_201.out
        have hms87_1 := NB214_202.out
        have hms87_2 := NB214_206.out
        refine skip_ (w1 := ?_) (by rfl) rfl ?_ ?_
        rotate_left
        ·go_simp
         rfl
        refine hK.out _ _ ⟨((cell_far (p := ⟨gb214, _, none⟩) NB201_214.out _).trans (((cell_far (p := ⟨gb214, _, none⟩) NB201_214.out _).trans (hHeld.1)))), ((cell_far (p := ⟨gb214, _, none⟩) NB201_214.out _).trans (((cell_far (p := ⟨gb214, _, none⟩) NB201_214.out _).trans (hHeld.2.1)))), ((cell_far (p := ⟨gb214, _, none⟩) NB201_214.out _).trans (((cell_far (p := ⟨gb214, _, none⟩) NB201_214.out _).trans (hHeld.2.2.1)))), ((cell_far (p := ⟨gb214, _, none⟩) NB201_214.out _).trans (((cell_far (p := ⟨gb214, _, none⟩) NB201_214.out _).trans (hHeld.2.2.2.1)))), ((cell_far (p := ⟨gb214, _, none⟩) NB201_214.out _).trans (((cell_far (p := ⟨gb214, _, none⟩) NB201_214.out _).trans (hHeld.2.2.2.2.1)))), ((cell_far (p := ⟨gb214, _, none⟩) NB201_214.out _).trans (((cell_far (p := ⟨gb214, _, none⟩) NB201_214.out _).trans (hHeld.2.2.2.2.2.1)))), ((cell_far (p := ⟨gb214, _, none⟩) NB201_214.out _).trans (((cell_far (p := ⟨gb214, _, none⟩) NB201_214.out _).trans (hHeld.2.2.2.2.2.2.1)))), ((cell_far (p := ⟨gb214, _, none⟩) NB201_214.out _).trans (((cell_far (p := ⟨gb214, _, none⟩) NB201_214.out _).trans (hHeld.2.2.2.2.2.2.2.1)))), ((cell_far (p := ⟨gb214, _, none⟩) NB201_214.out _).trans (((cell_far (p := ⟨gb214, _, none⟩) NB201_214.out _).trans (hHeld.2.2.2.2.2.2.2.2.1)))), ((cell_far (p := ⟨gb214, _, none⟩) NB201_214.out _).trans (((cell_far (p := ⟨gb214, _, none⟩) NB201_214.out _).trans (hHeld.2.2.2.2.2.2.2.2.2.1)))), ((cell_far (p := ⟨gb214, _, none⟩) NB201_214.out _).trans (((cell_far (p := ⟨gb214, _, none⟩) NB201_214.out _).trans (hHeld.2.2.2.2.2.2.2.2.2.2.1)))), ((cell_far (p := ⟨gb214, _, none⟩) NB201_214.out _).trans (((cell_far (p := ⟨gb214, _, none⟩) NB201_214.out _).trans (hHeld.2.2.2.2.2.2.2.2.2.2.2.1)))), ((cell_far (p := ⟨gb214, _, none⟩) NB201_214.out _).trans (((cell_far (p := ⟨gb214, _, none⟩) NB201_214.out _).trans (hHeld.2.2.2.2.2.2.2.2.2.2.2.2.1)))), ((cell_far (p := ⟨gb214, _, none⟩) NB201_214.out _).trans (((cell_far (p := ⟨gb214, _, none⟩) NB201_214.out _).trans (hHeld.2.2.2.2.2.2.2.2.2.2.2.2.2.1)))), ((cell_far (p := ⟨gb214, _, none⟩) NB201_214.out _).trans (((cell_far (p := ⟨gb214, _, none⟩) NB201_214.out _).trans (hHeld.2.2.2.2.2.2.2.2.2.2.2.2.2.2.1)))), ((cell_far (p := ⟨gb214, _, none⟩) NB201_214.out _).trans (((cell_far (p := ⟨gb214, _, none⟩) NB201_214.out _).trans (hHeld.2.2.2.2.2.2.2.2.2.2.2.2.2.2.2.1)))), ((cell_far (p := ⟨gb214, _, none⟩) NB201_214.out _).trans (((cell_far (p := ⟨gb214, _, none⟩) NB201_214.out _).trans (hHeld.2.2.2.2.2.2.2.2.2.2.2.2.2.2.2.2.1)))), ((cell_far (p := ⟨gb214, _, none⟩) NB201_214.out _).trans (((cell_far (p := ⟨gb214, _, none⟩) NB201_214.out _).trans (hHeld.2.2.2.2.2.2.2.2.2.2.2.2.2.2.2.2.2.1)))), ((cell_far (p := ⟨gb214, _, none⟩) NB201_214.out _).trans (((cell_far (p := ⟨gb214, _, none⟩) NB201_214.out _).trans (hHeld.2.2.2.2.2.2.2.2.2.2.2.2.2.2.2.2.2.2.1)))), ((cell_far (p := ⟨gb214, _, none⟩) NB201_214.out _).trans (((cell_far (p := ⟨gb214, _, none⟩) NB201_214.out _).trans (hHeld.2.2.2.2.2.2.2.2.2.2.2.2.2.2.2.2.2.2.2.1)))), ((cell_far (p := ⟨gb214, _, none⟩) NB201_214.out _).trans (((cell_far (p := ⟨gb214, _, none⟩) NB201_214.out _).trans (hHeld.2.2.2.2.2.2.2.2.2.2.2.2.2.2.2.2.2.2.2.2.1)))), ((cell_far (p := ⟨gb214, _, none⟩) NB201_214.out _).trans (((cell_far (p := ⟨gb214, _, none⟩) NB201_214.out _).trans (hHeld.2.2.2.2.2.2.2.2.2.2.2.2.2.2.2.2.2.2.2.2.2.1)))), ((cell_far (p := ⟨gb214, _, none⟩) NB201_214.out _).trans (((cell_far (p := ⟨gb214, _, none⟩) NB201_214.out _).trans (hHeld.2.2.2.2.2.2.2.2.2.2.2.2.2.2.2.2.2.2.2.2.2.2.1)))), ((cell_far (p := ⟨gb214, _, none⟩) NB201_214.out _).trans (((cell_far (p := ⟨gb214, _, none⟩) NB201_214.out _).trans (hHeld.2.2.2.2.2.2.2.2.2.2.2.2.2.2.2.2.2.2.2.2.2.2.2.1)))), ((cell_far (p := ⟨gb214, _, none⟩) NB201_214.out _).trans (((cell_far (p := ⟨gb214, _, none⟩) NB201_214.out _).trans (hHeld.2.2.2.2.2.2.2.2.2.2.2.2.2.2.2.2.2.2.2.2.2.2.2.2))))⟩ (fun hHeld => ?_)
        clear hK K
        refine pz_ 15 11 (nb_ 16 65535) HT_.out ?_
        refine done_ (done_of HT_.out (by kernel_rfl)) ?_
        have hnb88 := NB202_201.out
        have hnc88 := NB201_202.out
        have hnb89 := NB202_206.out
        have hnc89 := NB206_202.out
        have hnb90 := NB202_214.out
        have hnc90 := NB214_202.out
        obtain ⟨Z91_0, Z91_1, Y91_0, Y91_1⟩ := cz2_ BK202.out
        try go_wp2
        refine bodyPost_ret (results_ct rfl _ _ gb202 32 #[.int .i64 0, .int .u64 0] (0, 0) _ rfl (qppff_ #[.int .i64 0, .int .u64 x203001_2] 1 #[.int .i64 x203000_2, .int .u64 x203001_2] 0 NB202_214.out NB202_214.out BK202.out) Tryd.underlying32 rfl (by kernel_rfl)) rfl ?_
        exact ⟨qe_, qb4_ GE201.out GE202.out GE206.out GE214.out HB.out⟩
      ·rw [if_neg c33] at H
       have c33b0 : decide (x9_2 < a2) = false := decide_eq_false c33
       clear c33
       simp only [Option.some.injEq, Prod.mk.injEq] at H
       obtain ⟨rfl, rfl, rfl⟩ := H
       have hnb92 := NB206_201.out
       have hnc92 := NB201_206.out
       have hnb93 := NB206_202.out
       have hnc93 := NB202_206.out
       obtain ⟨Z94_0, Z94_1, Y94_0, Y94_1⟩ := cz2_ BK206.out
       have hnb95 := NB202_201.out
       have hnc95 := NB201_202.out
       obtain ⟨Z96_0, Z96_1, Y96_0, Y96_1⟩ := cz2_ BK202.out
       go_wp2
       refine bodyPost_ret (results_ct rfl _ _ gb202 32 #[.int .i64 x207000_2, .int .u64 x207001_2] (0, 0) _ rfl (qpp_ #[.int .i64 x207000_2, .int .u64 x203001_2] 1 #[.int .i64 x203000_2, .int .u64 x203001_2] 0 BK202.out) Tryd.underlying32 rfl (by kernel_rfl)) rfl ?_
       exact ⟨qe_, qb3_ GE201.out GE202.out GE206.out HB.out⟩
end Go.Proofs.YtogcdcjbleafdaaDoor.PS
end
