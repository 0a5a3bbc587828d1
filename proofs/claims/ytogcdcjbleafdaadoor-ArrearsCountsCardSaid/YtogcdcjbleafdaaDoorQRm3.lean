import Derived.LoopN
import Derived.Test.YtogcdcjbleafdaaDoorQRm2
section
namespace Go.Proofs.YtogcdcjbleafdaaDoor.PS
open Go.RowKit Go.Proofs.YtogcdcjbleafdaaDoorW.PrintWords Go.Proofs.YtogcdcjbleafdaaDoorW.PrintLast Go.Proofs.YtogcdcjbleafdaaDoorW.PrintMore
attribute [local go_sem] max2_int min2_int max_two min_two
set_option linter.unusedVariables false
set_option linter.unusedSimpArgs false
mutual
def loan_numbers.j0 : Nat → Bool → Int → Int → Int → Int → Int → Int → Int → Int → Int → Int → Int → Int → Int → Int → Int → Int → Int → Int → Int → Int → Int → ByteArray → ByteArray → List (S67) → List (S70) → Option (Bool)
 | 0, _, _, _, _, _, _, _, _, _, _, _, _, _, _, _, _, _, _, _, _, _, _, _, _, _, _ => none
 | k + 1, x5, x110000, x110001, x110002, x110003, x110004, x110005, x110006, x110007, x110008, x110009, x110010, x110011, x110012, x110013, x110014, x110015, x110016, x110017, x110018, x110019, x110020, x110021, x110022, x110023, x110024 => if x5 = true then (some false) else (if x110003 < 0 then (loan_numbers.j1 k true x110000 x110001 x110002 x110003 x110004 x110005 x110006 x110007 x110008 x110009 x110010 x110011 x110012 x110013 x110014 x110015 x110016 x110017 x110018 x110019 x110020 x110021 x110022 x110023 x110024) else (if x110004 < 0 then (loan_numbers.j1 k true x110000 x110001 x110002 x110003 x110004 x110005 x110006 x110007 x110008 x110009 x110010 x110011 x110012 x110013 x110014 x110015 x110016 x110017 x110018 x110019 x110020 x110021 x110022 x110023 x110024) else (if x110010 < 0 then (loan_numbers.j1 k true x110000 x110001 x110002 x110003 x110004 x110005 x110006 x110007 x110008 x110009 x110010 x110011 x110012 x110013 x110014 x110015 x110016 x110017 x110018 x110019 x110020 x110021 x110022 x110023 x110024) else ((loan_day.f x110007).bind fun t110 => (loan_numbers.j1 k (!t110) x110000 x110001 x110002 x110003 x110004 x110005 x110006 x110007 x110008 x110009 x110010 x110011 x110012 x110013 x110014 x110015 x110016 x110017 x110018 x110019 x110020 x110021 x110022 x110023 x110024)))))
def loan_numbers.j1 : Nat → Bool → Int → Int → Int → Int → Int → Int → Int → Int → Int → Int → Int → Int → Int → Int → Int → Int → Int → Int → Int → Int → Int → ByteArray → ByteArray → List (S67) → List (S70) → Option (Bool)
 | 0, _, _, _, _, _, _, _, _, _, _, _, _, _, _, _, _, _, _, _, _, _, _, _, _, _, _ => none
 | k + 1, x24, x110000, x110001, x110002, x110003, x110004, x110005, x110006, x110007, x110008, x110009, x110010, x110011, x110012, x110013, x110014, x110015, x110016, x110017, x110018, x110019, x110020, x110021, x110022, x110023, x110024 => if x24 = true then (some false) else ((loan_rate.f x110019).bind fun t111 => (if t111 = true then ((loan_rate.f x110020).bind fun t112 => (loan_numbers.j2 k (!t112) x110000 x110001 x110002 x110003 x110004 x110005 x110006 x110007 x110008 x110009 x110010 x110011 x110012 x110013 x110014 x110015 x110016 x110017 x110018 x110019 x110020 x110021 x110022 x110023 x110024)) else (loan_numbers.j2 k true x110000 x110001 x110002 x110003 x110004 x110005 x110006 x110007 x110008 x110009 x110010 x110011 x110012 x110013 x110014 x110015 x110016 x110017 x110018 x110019 x110020 x110021 x110022 x110023 x110024)))
def loan_numbers.j2 : Nat → Bool → Int → Int → Int → Int → Int → Int → Int → Int → Int → Int → Int → Int → Int → Int → Int → Int → Int → Int → Int → Int → Int → ByteArray → ByteArray → List (S67) → List (S70) → Option (Bool)
 | 0, _, _, _, _, _, _, _, _, _, _, _, _, _, _, _, _, _, _, _, _, _, _, _, _, _, _ => none
 | k + 1, x44, x110000, x110001, x110002, x110003, x110004, x110005, x110006, x110007, x110008, x110009, x110010, x110011, x110012, x110013, x110014, x110015, x110016, x110017, x110018, x110019, x110020, x110021, x110022, x110023, x110024 => if x44 = true then (some false) else (if (x110023.length : Int) < 1 then (loan_numbers.j3 k true x110000 x110001 x110002 x110003 x110004 x110005 x110006 x110007 x110008 x110009 x110010 x110011 x110012 x110013 x110014 x110015 x110016 x110017 x110018 x110019 x110020 x110021 x110022 x110023 x110024) else (if (x110023.length : Int) > 240 then (loan_numbers.j3 k true x110000 x110001 x110002 x110003 x110004 x110005 x110006 x110007 x110008 x110009 x110010 x110011 x110012 x110013 x110014 x110015 x110016 x110017 x110018 x110019 x110020 x110021 x110022 x110023 x110024) else (loan_numbers.j3 k (decide ((x110024.length : Int) > 64)) x110000 x110001 x110002 x110003 x110004 x110005 x110006 x110007 x110008 x110009 x110010 x110011 x110012 x110013 x110014 x110015 x110016 x110017 x110018 x110019 x110020 x110021 x110022 x110023 x110024)))
def loan_numbers.j3 : Nat → Bool → Int → Int → Int → Int → Int → Int → Int → Int → Int → Int → Int → Int → Int → Int → Int → Int → Int → Int → Int → Int → Int → ByteArray → ByteArray → List (S67) → List (S70) → Option (Bool)
 | 0, _, _, _, _, _, _, _, _, _, _, _, _, _, _, _, _, _, _, _, _, _, _, _, _, _, _ => none
 | k + 1, x57, x110000, x110001, x110002, x110003, x110004, x110005, x110006, x110007, x110008, x110009, x110010, x110011, x110012, x110013, x110014, x110015, x110016, x110017, x110018, x110019, x110020, x110021, x110022, x110023, x110024 => if x57 = true then (some false) else ((loan_amount.f x110005).bind fun t113 => (if t113 = true then ((loan_amount.f x110006).bind fun t114 => (if t114 = true then ((loan_amount.f x110008).bind fun t115 => (if t115 = true then ((loan_amount.f x110009).bind fun t116 => (if t116 = true then ((api_Due_77.f k x110023).bind fun t117 => (some (!t117))) else (some false))) else (some false))) else (some false))) else (some false)))
end
def loan_numbers.f (k : Nat) (a0_0 a0_1 a0_2 a0_3 a0_4 a0_5 a0_6 a0_7 a0_8 a0_9 a0_10 a0_11 a0_12 a0_13 a0_14 a0_15 a0_16 a0_17 a0_18 a0_19 a0_20 : Int) (a0_21 a0_22 : ByteArray) (l0_23 : List (S67)) (l0_24 : List (S70)) : Option (Bool) := if a0_0 < 1 then (loan_numbers.j0 k true a0_0 a0_1 a0_2 a0_3 a0_4 a0_5 a0_6 a0_7 a0_8 a0_9 a0_10 a0_11 a0_12 a0_13 a0_14 a0_15 a0_16 a0_17 a0_18 a0_19 a0_20 a0_21 a0_22 l0_23 l0_24) else (if a0_1 < 1000 then (loan_numbers.j0 k true a0_0 a0_1 a0_2 a0_3 a0_4 a0_5 a0_6 a0_7 a0_8 a0_9 a0_10 a0_11 a0_12 a0_13 a0_14 a0_15 a0_16 a0_17 a0_18 a0_19 a0_20 a0_21 a0_22 l0_23 l0_24) else (if a0_2 < 1 then (loan_numbers.j0 k true a0_0 a0_1 a0_2 a0_3 a0_4 a0_5 a0_6 a0_7 a0_8 a0_9 a0_10 a0_11 a0_12 a0_13 a0_14 a0_15 a0_16 a0_17 a0_18 a0_19 a0_20 a0_21 a0_22 l0_23 l0_24) else (loan_numbers.j0 k (decide (a0_2 > 3)) a0_0 a0_1 a0_2 a0_3 a0_4 a0_5 a0_6 a0_7 a0_8 a0_9 a0_10 a0_11 a0_12 a0_13 a0_14 a0_15 a0_16 a0_17 a0_18 a0_19 a0_20 a0_21 a0_22 l0_23 l0_24)))
theorem loan_numbers.mono_l : ∀ k, (∀ y0 y1 y2 y3 y4 y5 y6 y7 y8 y9 y10 y11 y12 y13 y14 y15 y16 y17 y18 y19 y20 y21 y22 y23 y24 y25, LeO (loan_numbers.j0 k y0 y1 y2 y3 y4 y5 y6 y7 y8 y9 y10 y11 y12 y13 y14 y15 y16 y17 y18 y19 y20 y21 y22 y23 y24 y25) (loan_numbers.j0 (k + 1) y0 y1 y2 y3 y4 y5 y6 y7 y8 y9 y10 y11 y12 y13 y14 y15 y16 y17 y18 y19 y20 y21 y22 y23 y24 y25)) ∧ (∀ y0 y1 y2 y3 y4 y5 y6 y7 y8 y9 y10 y11 y12 y13 y14 y15 y16 y17 y18 y19 y20 y21 y22 y23 y24 y25, LeO (loan_numbers.j1 k y0 y1 y2 y3 y4 y5 y6 y7 y8 y9 y10 y11 y12 y13 y14 y15 y16 y17 y18 y19 y20 y21 y22 y23 y24 y25) (loan_numbers.j1 (k + 1) y0 y1 y2 y3 y4 y5 y6 y7 y8 y9 y10 y11 y12 y13 y14 y15 y16 y17 y18 y19 y20 y21 y22 y23 y24 y25)) ∧ (∀ y0 y1 y2 y3 y4 y5 y6 y7 y8 y9 y10 y11 y12 y13 y14 y15 y16 y17 y18 y19 y20 y21 y22 y23 y24 y25, LeO (loan_numbers.j2 k y0 y1 y2 y3 y4 y5 y6 y7 y8 y9 y10 y11 y12 y13 y14 y15 y16 y17 y18 y19 y20 y21 y22 y23 y24 y25) (loan_numbers.j2 (k + 1) y0 y1 y2 y3 y4 y5 y6 y7 y8 y9 y10 y11 y12 y13 y14 y15 y16 y17 y18 y19 y20 y21 y22 y23 y24 y25)) ∧ (∀ y0 y1 y2 y3 y4 y5 y6 y7 y8 y9 y10 y11 y12 y13 y14 y15 y16 y17 y18 y19 y20 y21 y22 y23 y24 y25, LeO (loan_numbers.j3 k y0 y1 y2 y3 y4 y5 y6 y7 y8 y9 y10 y11 y12 y13 y14 y15 y16 y17 y18 y19 y20 y21 y22 y23 y24 y25) (loan_numbers.j3 (k + 1) y0 y1 y2 y3 y4 y5 y6 y7 y8 y9 y10 y11 y12 y13 y14 y15 y16 y17 y18 y19 y20 y21 y22 y23 y24 y25))
 | 0 => ⟨fun _ _ _ _ _ _ _ _ _ _ _ _ _ _ _ _ _ _ _ _ _ _ _ _ _ _ r h => by simp [loan_numbers.j0] at h, fun _ _ _ _ _ _ _ _ _ _ _ _ _ _ _ _ _ _ _ _ _ _ _ _ _ _ r h => by simp [loan_numbers.j1] at h, fun _ _ _ _ _ _ _ _ _ _ _ _ _ _ _ _ _ _ _ _ _ _ _ _ _ _ r h => by simp [loan_numbers.j2] at h, fun _ _ _ _ _ _ _ _ _ _ _ _ _ _ _ _ _ _ _ _ _ _ _ _ _ _ r h => by simp [loan_numbers.j3] at h⟩
 | k + 1 => by
  obtain ⟨ih0, ih1, ih2, ih3⟩ := loan_numbers.mono_l k
  refine ⟨?_, ?_, ?_, ?_⟩
  ·intro y0 y1 y2 y3 y4 y5 y6 y7 y8 y9 y10 y11 y12 y13 y14 y15 y16 y17 y18 y19 y20 y21 y22 y23 y24 y25
   unfold loan_numbers.j0
   repeat' first
   | (with_reducible apply ih0)
   | (with_reducible apply ih1)
   | (with_reducible apply ih2)
   | (with_reducible apply ih3)
   | (with_reducible exact api_Due_77.mono _ _)
   | (with_reducible exact LeO.refl _)
   | (with_reducible exact LeO.none _)
   | (with_reducible refine LeO.ite ?_ ?_)
   | (with_reducible refine LeO.bind ?_ (fun _ => ?_))
   | apply ih0
   | apply ih1
   | apply ih2
   | apply ih3
   | exact api_Due_77.mono _ _
   | exact LeO.none _
   | refine LeO.ite ?_ ?_
   | refine LeO.bind ?_ (fun _ => ?_)
  ·intro y0 y1 y2 y3 y4 y5 y6 y7 y8 y9 y10 y11 y12 y13 y14 y15 y16 y17 y18 y19 y20 y21 y22 y23 y24 y25
   unfold loan_numbers.j1
   repeat' first
   | (with_reducible apply ih0)
   | (with_reducible apply ih1)
   | (with_reducible apply ih2)
   | (with_reducible apply ih3)
   | (with_reducible exact api_Due_77.mono _ _)
   | (with_reducible exact LeO.refl _)
   | (with_reducible exact LeO.none _)
   | (with_reducible refine LeO.ite ?_ ?_)
   | (with_reducible refine LeO.bind ?_ (fun _ => ?_))
   | apply ih0
   | apply ih1
   | apply ih2
   | apply ih3
   | exact api_Due_77.mono _ _
   | exact LeO.none _
   | refine LeO.ite ?_ ?_
   | refine LeO.bind ?_ (fun _ => ?_)
  ·intro y0 y1 y2 y3 y4 y5 y6 y7 y8 y9 y10 y11 y12 y13 y14 y15 y16 y17 y18 y19 y20 y21 y22 y23 y24 y25
   unfold loan_numbers.j2
   repeat' first
   | (with_reducible apply ih0)
   | (with_reducible apply ih1)
   | (with_reducible apply ih2)
   | (with_reducible apply ih3)
   | (with_reducible exact api_Due_77.mono _ _)
   | (with_reducible exact LeO.refl _)
   | (with_reducible exact LeO.none _)
   | (with_reducible refine LeO.ite ?_ ?_)
   | (with_reducible refine LeO.bind ?_ (fun _ => ?_))
   | apply ih0
   | apply ih1
   | apply ih2
   | apply ih3
   | exact api_Due_77.mono _ _
   | exact LeO.none _
   | refine LeO.ite ?_ ?_
   | refine LeO.bind ?_ (fun _ => ?_)
  ·intro y0 y1 y2 y3 y4 y5 y6 y7 y8 y9 y10 y11 y12 y13 y14 y15 y16 y17 y18 y19 y20 y21 y22 y23 y24 y25
   unfold loan_numbers.j3
   repeat' first
   | (with_reducible apply ih0)
   | (with_reducible apply ih1)
   | (with_reducible apply ih2)
   | (with_reducible apply ih3)
   | (with_reducible exact api_Due_77.mono _ _)
   | (with_reducible exact LeO.refl _)
   | (with_reducible exact LeO.none _)
   | (with_reducible refine LeO.ite ?_ ?_)
   | (with_reducible refine LeO.bind ?_ (fun _ => ?_))
   | apply ih0
   | apply ih1
   | apply ih2
   | apply ih3
   | exact api_Due_77.mono _ _
   | exact LeO.none _
   | refine LeO.ite ?_ ?_
   | refine LeO.bind ?_ (fun _ => ?_)
theorem loan_numbers.mono : ∀ a0 a1 a2 a3 a4 a5 a6 a7 a8 a9 a10 a11 a12 a13 a14 a15 a16 a17 a18 a19 a20 a21 a22 a23 a24 k, LeO (loan_numbers.f k a0 a1 a2 a3 a4 a5 a6 a7 a8 a9 a10 a11 a12 a13 a14 a15 a16 a17 a18 a19 a20 a21 a22 a23 a24) (loan_numbers.f (k + 1) a0 a1 a2 a3 a4 a5 a6 a7 a8 a9 a10 a11 a12 a13 a14 a15 a16 a17 a18 a19 a20 a21 a22 a23 a24) := by
 intro a0 a1 a2 a3 a4 a5 a6 a7 a8 a9 a10 a11 a12 a13 a14 a15 a16 a17 a18 a19 a20 a21 a22 a23 a24 k
 obtain ⟨ih0, ih1, ih2, ih3⟩ := loan_numbers.mono_l k
 unfold loan_numbers.f
 repeat' first
   | (with_reducible apply ih0)
   | (with_reducible apply ih1)
   | (with_reducible apply ih2)
   | (with_reducible apply ih3)
   | (with_reducible exact api_Due_77.mono _ _)
   | (with_reducible exact LeO.refl _)
   | (with_reducible exact LeO.none _)
   | (with_reducible refine LeO.ite ?_ ?_)
   | (with_reducible refine LeO.bind ?_ (fun _ => ?_))
   | apply ih0
   | apply ih1
   | apply ih2
   | apply ih3
   | exact api_Due_77.mono _ _
   | exact LeO.none _
   | refine LeO.ite ?_ ?_
   | refine LeO.bind ?_ (fun _ => ?_)
set_option maxHeartbeats 8000000 in
set_option maxRecDepth 100000 in
theorem loan_numbers.calls (k : Nat) (a0_0 a0_1 a0_2 a0_3 a0_4 a0_5 a0_6 a0_7 a0_8 a0_9 a0_10 a0_11 a0_12 a0_13 a0_14 a0_15 a0_16 a0_17 a0_18 a0_19 a0_20 : Int) (a0_21 a0_22 : ByteArray) (A0_23 : Option Addr) (c0_23 : Nat) (l0_23 : List (S67)) (A0_24 : Option Addr) (c0_24 : Nat) (l0_24 : List (S70)) (r : Bool) (w : World) (hr0_23 : Kd.C k67 w A0_23 l0_23.length l0_23) (hc0_23 : l0_23.length ≤ c0_23) (hr0_24 : Kd.C k70 w A0_24 l0_24.length l0_24) (hc0_24 : l0_24.length ≤ c0_24) (h : loan_numbers.f k a0_0 a0_1 a0_2 a0_3 a0_4 a0_5 a0_6 a0_7 a0_8 a0_9 a0_10 a0_11 a0_12 a0_13 a0_14 a0_15 a0_16 a0_17 a0_18 a0_19 a0_20 a0_21 a0_22 l0_23 l0_24 = some r) :
  Calls Tryd.prog 38 #[.agg #[.int .i64 a0_0, .int .i64 a0_1, .int .i64 a0_2, .int .i64 a0_3, .int .i64 a0_4, .int .i64 a0_5, .int .i64 a0_6, .int .i64 a0_7, .int .i64 a0_8, .int .i64 a0_9, .int .i64 a0_10, .int .i64 a0_11, .int .i64 a0_12, .int .i64 a0_13, .int .i64 a0_14, .int .i64 a0_15, .int .i64 a0_16, .int .i64 a0_17, .int .i64 a0_18, .int .i64 a0_19, .int .i64 a0_20, .string a0_21, .string a0_22, .slice A0_23 l0_23.length c0_23, .slice A0_24 l0_24.length c0_24]] w fun e w' => e = .returned (.bool r) ∧ Below w.heap.size w w' := by
 have hu27 := Tryd.underlying27
 have hu85 := Tryd.underlying85
 have HR0_23 := am_ hr0_23
 have HC0_23 := am_ hc0_23
 clear hr0_23 hc0_23
 have HR0_24 := am_ hr0_24
 have HC0_24 := am_ hc0_24
 clear hr0_24 hc0_24
 have HB := am_ (Below.refl w.heap.size w)
 have H := h
 clear h
 unfold loan_numbers.f at H
 have HC2 := am_ H
 clear H
 go_enter Tryd.func38, Tryd.ntmps38
 go_upto_region 1 with (first | ((with_reducible refine gate_load_ (t := 27) rfl ?_); refine ld_ (t := 27) Tryd.underlying27 rfl rfl rfl (qd_ BK109.out) rfl (by kernel_rfl) ?_) | ((with_reducible refine gate_load_ (t := 27) rfl ?_); refine ldgA_ (t := 27) Tryd.underlying27 rfl (by rfl) rfl (qd_ BK109.out) rfl (by kernel_rfl) ?_) | ((with_reducible refine gate_dst (N := 1) rfl ?_); (try (refine gate_guard (by rfl) ?_; dsimp only)); refine be_ (N := 1) (cs := #[.int .i64 a0_0, .int .i64 a0_1, .int .i64 a0_2, .int .i64 a0_3, .int .i64 a0_4, .int .i64 a0_5, .int .i64 a0_6, .int .i64 a0_7, .int .i64 a0_8, .int .i64 a0_9, .int .i64 a0_10, .int .i64 a0_11, .int .i64 a0_12, .int .i64 a0_13, .int .i64 a0_14, .int .i64 a0_15, .int .i64 a0_16, .int .i64 a0_17, .int .i64 a0_18, .int .i64 a0_19, .int .i64 a0_20, .string a0_21, .string a0_22, .slice A0_23 l0_23.length c0_23, .slice A0_24 l0_24.length c0_24]) (t := 27) ?_; intro gb109 hg w3 hbox hb; have BK109 := am_ (hbox); have GE109 := am_ (bz_ hg (qb_ HB.out) : w.heap.size ≤ gb109); replace HB := am_ (below_step (qb_ HB.out) hb); clear hb hbox hg))
 (try simp only [Act.put, List.setIfInBounds_toArray, List.set_cons_zero, List.set_cons_succ])
 go_cut [5] (fun v5 wc => ∃ (kq : Nat) (x5_1 : Bool), v5 = .bool x5_1 ∧ Aside0 (loan_numbers.j0 kq x5_1 a0_0 a0_1 a0_2 a0_3 a0_4 a0_5 a0_6 a0_7 a0_8 a0_9 a0_10 a0_11 a0_12 a0_13 a0_14 a0_15 a0_16 a0_17 a0_18 a0_19 a0_20 a0_21 a0_22 l0_23 l0_24 = some r) ∧ Aside0 (kq ≤ k) ∧ Aside0 (wc.heap[gb109]? = some (.cells #[.int .i64 a0_0, .int .i64 a0_1, .int .i64 a0_2, .int .i64 a0_3, .int .i64 a0_4, .int .i64 a0_5, .int .i64 a0_6, .int .i64 a0_7, .int .i64 a0_8, .int .i64 a0_9, .int .i64 a0_10, .int .i64 a0_11, .int .i64 a0_12, .int .i64 a0_13, .int .i64 a0_14, .int .i64 a0_15, .int .i64 a0_16, .int .i64 a0_17, .int .i64 a0_18, .int .i64 a0_19, .int .i64 a0_20, .string a0_21, .string a0_22, (.slice A0_23 l0_23.length c0_23), (.slice A0_24 l0_24.length c0_24)] 27 (0, 0))) ∧ Aside0 (Below w.heap.size w wc))
 case first =>
  have H := HC2.out
  clear HC2
  by_cases c4 : a0_0 < 1
  ·rw [if_pos c4] at H
   have c4b0 : decide (a0_0 < 1) = true := decide_eq_true c4
   clear c4
   (first | rw [c4b0] | (simp only [i64_w, i32_w]; rw [c4b0]) | skip)
   have H' := am_ H
   clear H
   obtain ⟨Z5_0, Z5_1, Z5_2, Z5_3, Z5_4, Z5_5, Z5_6, Z5_7, Z5_8, Z5_9, Z5_10, Z5_11, Z5_12, Z5_13, Z5_14, Z5_15, Z5_16, Z5_17, Z5_18, Z5_19, Z5_20, Z5_21, Z5_22, Z5_23, Z5_24, Y5_0, Y5_1, Y5_2, Y5_3, Y5_4, Y5_5, Y5_6, Y5_7, Y5_8, Y5_9, Y5_10, Y5_11, Y5_12, Y5_13, Y5_14, Y5_15, Y5_16, Y5_17, Y5_18, Y5_19, Y5_20, Y5_21, Y5_22, Y5_23, Y5_24⟩ := cz25_ BK109.out
   go_wp2
   go_meet
   case rel => exact ⟨_, (true), qs_, H', ⟨qo_⟩, ⟨qk_ BK109.out⟩, ⟨qb1_ GE109.out HB.out⟩⟩
  ·rw [if_neg c4] at H
   have c4b0 : decide (a0_0 < 1) = false := decide_eq_false c4
   clear c4
   (first | rw [c4b0] | (simp only [i64_w, i32_w]; rw [c4b0]) | skip)
   by_cases c6 : a0_1 < 1000
   ·rw [if_pos c6] at H
    have c6b0 : decide (a0_1 < 1000) = true := decide_eq_true c6
    clear c6
    have H' := am_ H
    clear H
    obtain ⟨Z7_0, Z7_1, Z7_2, Z7_3, Z7_4, Z7_5, Z7_6, Z7_7, Z7_8, Z7_9, Z7_10, Z7_11, Z7_12, Z7_13, Z7_14, Z7_15, Z7_16, Z7_17, Z7_18, Z7_19, Z7_20, Z7_21, Z7_22, Z7_23, Z7_24, Y7_0, Y7_1, Y7_2, Y7_3, Y7_4, Y7_5, Y7_6, Y7_7, Y7_8, Y7_9, Y7_10, Y7_11, Y7_12, Y7_13, Y7_14, Y7_15, Y7_16, Y7_17, Y7_18, Y7_19, Y7_20, Y7_21, Y7_22, Y7_23, Y7_24⟩ := cz25_ BK109.out
    go_wp2
    go_meet
    case rel => exact ⟨_, (true), qs_, H', ⟨qo_⟩, ⟨qk_ BK109.out⟩, ⟨qb1_ GE109.out HB.out⟩⟩
   ·rw [if_neg c6] at H
    have c6b0 : decide (a0_1 < 1000) = false := decide_eq_false c6
    clear c6
    by_cases c8 : a0_2 < 1
    ·rw [if_pos c8] at H
     have c8b0 : decide (a0_2 < 1) = true := decide_eq_true c8
     clear c8
     have H' := am_ H
     clear H
     obtain ⟨Z9_0, Z9_1, Z9_2, Z9_3, Z9_4, Z9_5, Z9_6, Z9_7, Z9_8, Z9_9, Z9_10, Z9_11, Z9_12, Z9_13, Z9_14, Z9_15, Z9_16, Z9_17, Z9_18, Z9_19, Z9_20, Z9_21, Z9_22, Z9_23, Z9_24, Y9_0, Y9_1, Y9_2, Y9_3, Y9_4, Y9_5, Y9_6, Y9_7, Y9_8, Y9_9, Y9_10, Y9_11, Y9_12, Y9_13, Y9_14, Y9_15, Y9_16, Y9_17, Y9_18, Y9_19, Y9_20, Y9_21, Y9_22, Y9_23, Y9_24⟩ := cz25_ BK109.out
     go_wp2
     go_meet
     case rel => exact ⟨_, (true), qs_, H', ⟨qo_⟩, ⟨qk_ BK109.out⟩, ⟨qb1_ GE109.out HB.out⟩⟩
    ·rw [if_neg c8] at H
     have c8b0 : decide (a0_2 < 1) = false := decide_eq_false c8
     clear c8
     have H' := am_ H
     clear H
     obtain ⟨Z10_0, Z10_1, Z10_2, Z10_3, Z10_4, Z10_5, Z10_6, Z10_7, Z10_8, Z10_9, Z10_10, Z10_11, Z10_12, Z10_13, Z10_14, Z10_15, Z10_16, Z10_17, Z10_18, Z10_19, Z10_20, Z10_21, Z10_22, Z10_23, Z10_24, Y10_0, Y10_1, Y10_2, Y10_3, Y10_4, Y10_5, Y10_6, Y10_7, Y10_8, Y10_9, Y10_10, Y10_11, Y10_12, Y10_13, Y10_14, Y10_15, Y10_16, Y10_17, Y10_18, Y10_19, Y10_20, Y10_21, Y10_22, Y10_23, Y10_24⟩ := cz25_ BK109.out
     go_wp2
     go_meet
     case rel => exact ⟨_, (decide (a0_2 > 3)), qs_, H', ⟨qo_⟩, ⟨qk_ BK109.out⟩, ⟨qb1_ GE109.out HB.out⟩⟩
 case rest =>
  clear HC2
  try clear p2
  try clear c3
  try clear c4
  try clear c4b0
  try clear c6
  try clear c6b0
  try clear c8
  try clear c8b0
  (try clear Z10_0 Z10_1 Z10_10 Z10_11 Z10_12 Z10_13 Z10_14 Z10_15 Z10_16 Z10_17 Z10_18 Z10_19 Z10_2 Z10_20 Z10_21 Z10_22 Z10_23 Z10_24 Z10_3 Z10_4 Z10_5 Z10_6 Z10_7 Z10_8 Z10_9 Y10_0 Y10_1 Y10_10 Y10_11 Y10_12 Y10_13 Y10_14 Y10_15 Y10_16 Y10_17 Y10_18 Y10_19 Y10_2 Y10_20 Y10_21 Y10_22 Y10_23 Y10_24 Y10_3 Y10_4 Y10_5 Y10_6 Y10_7 Y10_8 Y10_9)
  (try clear Z5_0 Z5_1 Z5_10 Z5_11 Z5_12 Z5_13 Z5_14 Z5_15 Z5_16 Z5_17 Z5_18 Z5_19 Z5_2 Z5_20 Z5_21 Z5_22 Z5_23 Z5_24 Z5_3 Z5_4 Z5_5 Z5_6 Z5_7 Z5_8 Z5_9 Y5_0 Y5_1 Y5_10 Y5_11 Y5_12 Y5_13 Y5_14 Y5_15 Y5_16 Y5_17 Y5_18 Y5_19 Y5_2 Y5_20 Y5_21 Y5_22 Y5_23 Y5_24 Y5_3 Y5_4 Y5_5 Y5_6 Y5_7 Y5_8 Y5_9)
  (try clear Z7_0 Z7_1 Z7_10 Z7_11 Z7_12 Z7_13 Z7_14 Z7_15 Z7_16 Z7_17 Z7_18 Z7_19 Z7_2 Z7_20 Z7_21 Z7_22 Z7_23 Z7_24 Z7_3 Z7_4 Z7_5 Z7_6 Z7_7 Z7_8 Z7_9 Y7_0 Y7_1 Y7_10 Y7_11 Y7_12 Y7_13 Y7_14 Y7_15 Y7_16 Y7_17 Y7_18 Y7_19 Y7_2 Y7_20 Y7_21 Y7_22 Y7_23 Y7_24 Y7_3 Y7_4 Y7_5 Y7_6 Y7_7 Y7_8 Y7_9)
  (try clear Z9_0 Z9_1 Z9_10 Z9_11 Z9_12 Z9_13 Z9_14 Z9_15 Z9_16 Z9_17 Z9_18 Z9_19 Z9_2 Z9_20 Z9_21 Z9_22 Z9_23 Z9_24 Z9_3 Z9_4 Z9_5 Z9_6 Z9_7 Z9_8 Z9_9 Y9_0 Y9_1 Y9_10 Y9_11 Y9_12 Y9_13 Y9_14 Y9_15 Y9_16 Y9_17 Y9_18 Y9_19 Y9_2 Y9_20 Y9_21 Y9_22 Y9_23 Y9_24 Y9_3 Y9_4 Y9_5 Y9_6 Y9_7 Y9_8 Y9_9)
  obtain ⟨kq, x5_1, rfl, HA, HJ1, BK109, HB⟩ := hcut
  cases kq with
  | zero => exact absurd HA.out (by simp [loan_numbers.j0])
  | succ kj1 =>
   have H := HA.out
   clear HA
   simp only [loan_numbers.j0] at H
   by_cases c11 : x5_1 = true
   ·subst c11
    rw [if_pos rfl] at H
    obtain rfl := Option.some.inj H
    go_wp2
    go_ret
    exact ⟨qe_, qb1_ GE109.out HB.out⟩
   ·replace c11 := Bool.eq_false_iff.mpr c11
    subst c11
    rw [if_neg (show ¬ (false = true) by decide)] at H
    have HC12 := am_ H
    clear H
    go_upto_region 3 with (fail)
    go_cut [24] (fun v24 wc => ∃ (kq : Nat) (x24_11 : Bool), v24 = .bool x24_11 ∧ Aside0 (loan_numbers.j1 kq x24_11 a0_0 a0_1 a0_2 a0_3 a0_4 a0_5 a0_6 a0_7 a0_8 a0_9 a0_10 a0_11 a0_12 a0_13 a0_14 a0_15 a0_16 a0_17 a0_18 a0_19 a0_20 a0_21 a0_22 l0_23 l0_24 = some r) ∧ Aside0 (kq ≤ kj1) ∧ Aside0 (wc.heap[gb109]? = some (.cells #[.int .i64 a0_0, .int .i64 a0_1, .int .i64 a0_2, .int .i64 a0_3, .int .i64 a0_4, .int .i64 a0_5, .int .i64 a0_6, .int .i64 a0_7, .int .i64 a0_8, .int .i64 a0_9, .int .i64 a0_10, .int .i64 a0_11, .int .i64 a0_12, .int .i64 a0_13, .int .i64 a0_14, .int .i64 a0_15, .int .i64 a0_16, .int .i64 a0_17, .int .i64 a0_18, .int .i64 a0_19, .int .i64 a0_20, .string a0_21, .string a0_22, (.slice A0_23 l0_23.length c0_23), (.slice A0_24 l0_24.length c0_24)] 27 (0, 0))) ∧ Aside0 (Below w.heap.size w wc))
    case first =>
     have H := HC12.out
     clear HC12
     by_cases c13 : a0_3 < 0
     ·rw [if_pos c13] at H
      have c13b0 : decide (a0_3 < 0) = true := decide_eq_true c13
      clear c13
      (first | rw [c13b0] | (simp only [i64_w, i32_w]; rw [c13b0]) | skip)
      have H' := am_ H
      clear H
      obtain ⟨Z14_0, Z14_1, Z14_2, Z14_3, Z14_4, Z14_5, Z14_6, Z14_7, Z14_8, Z14_9, Z14_10, Z14_11, Z14_12, Z14_13, Z14_14, Z14_15, Z14_16, Z14_17, Z14_18, Z14_19, Z14_20, Z14_21, Z14_22, Z14_23, Z14_24, Y14_0, Y14_1, Y14_2, Y14_3, Y14_4, Y14_5, Y14_6, Y14_7, Y14_8, Y14_9, Y14_10, Y14_11, Y14_12, Y14_13, Y14_14, Y14_15, Y14_16, Y14_17, Y14_18, Y14_19, Y14_20, Y14_21, Y14_22, Y14_23, Y14_24⟩ := cz25_ BK109.out
      go_wp2
      go_meet
      case rel => exact ⟨_, (true), qs_, H', ⟨by have := HJ1.out; first | omega | exact Nat.le_refl _⟩, ⟨qk_ BK109.out⟩, ⟨qb1_ GE109.out HB.out⟩⟩
     ·rw [if_neg c13] at H
      have c13b0 : decide (a0_3 < 0) = false := decide_eq_false c13
      clear c13
      (first | rw [c13b0] | (simp only [i64_w, i32_w]; rw [c13b0]) | skip)
      by_cases c15 : a0_4 < 0
      ·rw [if_pos c15] at H
       have c15b0 : decide (a0_4 < 0) = true := decide_eq_true c15
       clear c15
       have H' := am_ H
       clear H
       obtain ⟨Z16_0, Z16_1, Z16_2, Z16_3, Z16_4, Z16_5, Z16_6, Z16_7, Z16_8, Z16_9, Z16_10, Z16_11, Z16_12, Z16_13, Z16_14, Z16_15, Z16_16, Z16_17, Z16_18, Z16_19, Z16_20, Z16_21, Z16_22, Z16_23, Z16_24, Y16_0, Y16_1, Y16_2, Y16_3, Y16_4, Y16_5, Y16_6, Y16_7, Y16_8, Y16_9, Y16_10, Y16_11, Y16_12, Y16_13, Y16_14, Y16_15, Y16_16, Y16_17, Y16_18, Y16_19, Y16_20, Y16_21, Y16_22, Y16_23, Y16_24⟩ := cz25_ BK109.out
       go_wp2
       go_meet
       case rel => exact ⟨_, (true), qs_, H', ⟨by have := HJ1.out; first | omega | exact Nat.le_refl _⟩, ⟨qk_ BK109.out⟩, ⟨qb1_ GE109.out HB.out⟩⟩
      ·rw [if_neg c15] at H
       have c15b0 : decide (a0_4 < 0) = false := decide_eq_false c15
       clear c15
       by_cases c17 : a0_10 < 0
       ·rw [if_pos c17] at H
        have c17b0 : decide (a0_10 < 0) = true := decide_eq_true c17
        clear c17
        have H' := am_ H
        clear H
        obtain ⟨Z18_0, Z18_1, Z18_2, Z18_3, Z18_4, Z18_5, Z18_6, Z18_7, Z18_8, Z18_9, Z18_10, Z18_11, Z18_12, Z18_13, Z18_14, Z18_15, Z18_16, Z18_17, Z18_18, Z18_19, Z18_20, Z18_21, Z18_22, Z18_23, Z18_24, Y18_0, Y18_1, Y18_2, Y18_3, Y18_4, Y18_5, Y18_6, Y18_7, Y18_8, Y18_9, Y18_10, Y18_11, Y18_12, Y18_13, Y18_14, Y18_15, Y18_16, Y18_17, Y18_18, Y18_19, Y18_20, Y18_21, Y18_22, Y18_23, Y18_24⟩ := cz25_ BK109.out
        go_wp2
        go_meet
        case rel => exact ⟨_, (true), qs_, H', ⟨by have := HJ1.out; first | omega | exact Nat.le_refl _⟩, ⟨qk_ BK109.out⟩, ⟨qb1_ GE109.out HB.out⟩⟩
       ·rw [if_neg c17] at H
        have c17b0 : decide (a0_10 < 0) = false := decide_eq_false c17
        clear c17
        replace H := Option.bind_eq_some_iff.mp H
        obtain ⟨t110, A190, H⟩ := H
        (try dsimp only at H)
        have A19 := am_ A190
        clear A190
        have H' := am_ H
        clear H
        obtain ⟨Z20_0, Z20_1, Z20_2, Z20_3, Z20_4, Z20_5, Z20_6, Z20_7, Z20_8, Z20_9, Z20_10, Z20_11, Z20_12, Z20_13, Z20_14, Z20_15, Z20_16, Z20_17, Z20_18, Z20_19, Z20_20, Z20_21, Z20_22, Z20_23, Z20_24, Y20_0, Y20_1, Y20_2, Y20_3, Y20_4, Y20_5, Y20_6, Y20_7, Y20_8, Y20_9, Y20_10, Y20_11, Y20_12, Y20_13, Y20_14, Y20_15, Y20_16, Y20_17, Y20_18, Y20_19, Y20_20, Y20_21, Y20_22, Y20_23, Y20_24⟩ := cz25_ BK109.out
        go_wp2_with (first | ((with_reducible refine gate_load_ (t := 27) rfl ?_); refine ld_ (t := 27) Tryd.underlying27 rfl rfl rfl (qd_ BK109.out) rfl (by kernel_rfl) ?_) | ((with_reducible refine gate_load_ (t := 27) rfl ?_); refine ldgA_ (t := 27) Tryd.underlying27 rfl (by rfl) rfl (qd_ BK109.out) rfl (by kernel_rfl) ?_) | (go_at_call 47; (with_reducible refine (loan_day.calls a0_7 t110 _ A19.out).mono ?_); rintro e w' ⟨rfl, ⟨nd, rfl⟩⟩))
        go_meet
        case rel => exact ⟨_, (!t110), qs_, H', ⟨by have := HJ1.out; first | omega | exact Nat.le_refl _⟩, ⟨qk_ BK109.out⟩, ⟨qb1_ GE109.out HB.out⟩⟩
    case rest =>
     clear HC12
     try clear c1
     try clear p2
     try clear c3
     try clear c4
     try clear c4b0
     try clear c6
     try clear c6b0
     try clear c8
     try clear c8b0
     try clear c11
     try clear c13
     try clear c13b0
     try clear c15
     try clear c15b0
     try clear c17
     try clear c17b0
     (try clear Z10_0 Z10_1 Z10_10 Z10_11 Z10_12 Z10_13 Z10_14 Z10_15 Z10_16 Z10_17 Z10_18 Z10_19 Z10_2 Z10_20 Z10_21 Z10_22 Z10_23 Z10_24 Z10_3 Z10_4 Z10_5 Z10_6 Z10_7 Z10_8 Z10_9 Y10_0 Y10_1 Y10_10 Y10_11 Y10_12 Y10_13 Y10_14 Y10_15 Y10_16 Y10_17 Y10_18 Y10_19 Y10_2 Y10_20 Y10_21 Y10_22 Y10_23 Y10_24 Y10_3 Y10_4 Y10_5 Y10_6 Y10_7 Y10_8 Y10_9)
     (try clear Z14_0 Z14_1 Z14_10 Z14_11 Z14_12 Z14_13 Z14_14 Z14_15 Z14_16 Z14_17 Z14_18 Z14_19 Z14_2 Z14_20 Z14_21 Z14_22 Z14_23 Z14_24 Z14_3 Z14_4 Z14_5 Z14_6 Z14_7 Z14_8 Z14_9 Y14_0 Y14_1 Y14_10 Y14_11 Y14_12 Y14_13 Y14_14 Y14_15 Y14_16 Y14_17 Y14_18 Y14_19 Y14_2 Y14_20 Y14_21 Y14_22 Y14_23 Y14_24 Y14_3 Y14_4 Y14_5 Y14_6 Y14_7 Y14_8 Y14_9)
     (try clear Z16_0 Z16_1 Z16_10 Z16_11 Z16_12 Z16_13 Z16_14 Z16_15 Z16_16 Z16_17 Z16_18 Z16_19 Z16_2 Z16_20 Z16_21 Z16_22 Z16_23 Z16_24 Z16_3 Z16_4 Z16_5 Z16_6 Z16_7 Z16_8 Z16_9 Y16_0 Y16_1 Y16_10 Y16_11 Y16_12 Y16_13 Y16_14 Y16_15 Y16_16 Y16_17 Y16_18 Y16_19 Y16_2 Y16_20 Y16_21 Y16_22 Y16_23 Y16_24 Y16_3 Y16_4 Y16_5 Y16_6 Y16_7 Y16_8 Y16_9)
     (try clear Z18_0 Z18_1 Z18_10 Z18_11 Z18_12 Z18_13 Z18_14 Z18_15 Z18_16 Z18_17 Z18_18 Z18_19 Z18_2 Z18_20 Z18_21 Z18_22 Z18_23 Z18_24 Z18_3 Z18_4 Z18_5 Z18_6 Z18_7 Z18_8 Z18_9 Y18_0 Y18_1 Y18_10 Y18_11 Y18_12 Y18_13 Y18_14 Y18_15 Y18_16 Y18_17 Y18_18 Y18_19 Y18_2 Y18_20 Y18_21 Y18_22 Y18_23 Y18_24 Y18_3 Y18_4 Y18_5 Y18_6 Y18_7 Y18_8 Y18_9)
     (try clear Z20_0 Z20_1 Z20_10 Z20_11 Z20_12 Z20_13 Z20_14 Z20_15 Z20_16 Z20_17 Z20_18 Z20_19 Z20_2 Z20_20 Z20_21 Z20_22 Z20_23 Z20_24 Z20_3 Z20_4 Z20_5 Z20_6 Z20_7 Z20_8 Z20_9 Y20_0 Y20_1 Y20_10 Y20_11 Y20_12 Y20_13 Y20_14 Y20_15 Y20_16 Y20_17 Y20_18 Y20_19 Y20_2 Y20_20 Y20_21 Y20_22 Y20_23 Y20_24 Y20_3 Y20_4 Y20_5 Y20_6 Y20_7 Y20_8 Y20_9)
     (try clear Z5_0 Z5_1 Z5_10 Z5_11 Z5_12 Z5_13 Z5_14 Z5_15 Z5_16 Z5_17 Z5_18 Z5_19 Z5_2 Z5_20 Z5_21 Z5_22 Z5_23 Z5_24 Z5_3 Z5_4 Z5_5 Z5_6 Z5_7 Z5_8 Z5_9 Y5_0 Y5_1 Y5_10 Y5_11 Y5_12 Y5_13 Y5_14 Y5_15 Y5_16 Y5_17 Y5_18 Y5_19 Y5_2 Y5_20 Y5_21 Y5_22 Y5_23 Y5_24 Y5_3 Y5_4 Y5_5 Y5_6 Y5_7 Y5_8 Y5_9)
     (try clear Z7_0 Z7_1 Z7_10 Z7_11 Z7_12 Z7_13 Z7_14 Z7_15 Z7_16 Z7_17 Z7_18 Z7_19 Z7_2 Z7_20 Z7_21 Z7_22 Z7_23 Z7_24 Z7_3 Z7_4 Z7_5 Z7_6 Z7_7 Z7_8 Z7_9 Y7_0 Y7_1 Y7_10 Y7_11 Y7_12 Y7_13 Y7_14 Y7_15 Y7_16 Y7_17 Y7_18 Y7_19 Y7_2 Y7_20 Y7_21 Y7_22 Y7_23 Y7_24 Y7_3 Y7_4 Y7_5 Y7_6 Y7_7 Y7_8 Y7_9)
     (try clear Z9_0 Z9_1 Z9_10 Z9_11 Z9_12 Z9_13 Z9_14 Z9_15 Z9_16 Z9_17 Z9_18 Z9_19 Z9_2 Z9_20 Z9_21 Z9_22 Z9_23 Z9_24 Z9_3 Z9_4 Z9_5 Z9_6 Z9_7 Z9_8 Z9_9 Y9_0 Y9_1 Y9_10 Y9_11 Y9_12 Y9_13 Y9_14 Y9_15 Y9_16 Y9_17 Y9_18 Y9_19 Y9_2 Y9_20 Y9_21 Y9_22 Y9_23 Y9_24 Y9_3 Y9_4 Y9_5 Y9_6 Y9_7 Y9_8 Y9_9)
     try clear p2
     obtain ⟨kq, x24_11, rfl, HA, HJ11, BK109, HB⟩ := hcut
     cases kq with
     | zero => exact absurd HA.out (by simp [loan_numbers.j1])
     | succ kj11 =>
      have H := HA.out
      clear HA
      simp only [loan_numbers.j1] at H
      by_cases c21 : x24_11 = true
      ·subst c21
       rw [if_pos rfl] at H
       obtain rfl := Option.some.inj H
       go_wp2
       go_ret
       exact ⟨qe_, qb1_ GE109.out HB.out⟩
      ·replace c21 := Bool.eq_false_iff.mpr c21
       subst c21
       rw [if_neg (show ¬ (false = true) by decide)] at H
       have HC22 := am_ H
       clear H
       go_upto_region 5 with (fail)
       go_cut [44] (fun v44 wc => ∃ (kq : Nat) (x44_21 : Bool), v44 = .bool x44_21 ∧ Aside0 (loan_numbers.j2 kq x44_21 a0_0 a0_1 a0_2 a0_3 a0_4 a0_5 a0_6 a0_7 a0_8 a0_9 a0_10 a0_11 a0_12 a0_13 a0_14 a0_15 a0_16 a0_17 a0_18 a0_19 a0_20 a0_21 a0_22 l0_23 l0_24 = some r) ∧ Aside0 (kq ≤ kj11) ∧ Aside0 (wc.heap[gb109]? = some (.cells #[.int .i64 a0_0, .int .i64 a0_1, .int .i64 a0_2, .int .i64 a0_3, .int .i64 a0_4, .int .i64 a0_5, .int .i64 a0_6, .int .i64 a0_7, .int .i64 a0_8, .int .i64 a0_9, .int .i64 a0_10, .int .i64 a0_11, .int .i64 a0_12, .int .i64 a0_13, .int .i64 a0_14, .int .i64 a0_15, .int .i64 a0_16, .int .i64 a0_17, .int .i64 a0_18, .int .i64 a0_19, .int .i64 a0_20, .string a0_21, .string a0_22, (.slice A0_23 l0_23.length c0_23), (.slice A0_24 l0_24.length c0_24)] 27 (0, 0))) ∧ Aside0 (Below w.heap.size w wc))
       case first =>
        have H := HC22.out
        clear HC22
        replace H := Option.bind_eq_some_iff.mp H
        obtain ⟨t111, A230, H⟩ := H
        (try dsimp only at H)
        have A23 := am_ A230
        clear A230
        by_cases c24 : t111 = true
        ·subst c24
         rw [if_pos rfl] at H
         replace H := Option.bind_eq_some_iff.mp H
         obtain ⟨t112, A250, H⟩ := H
         (try dsimp only at H)
         have A25 := am_ A250
         clear A250
         have H' := am_ H
         clear H
         obtain ⟨Z26_0, Z26_1, Z26_2, Z26_3, Z26_4, Z26_5, Z26_6, Z26_7, Z26_8, Z26_9, Z26_10, Z26_11, Z26_12, Z26_13, Z26_14, Z26_15, Z26_16, Z26_17, Z26_18, Z26_19, Z26_20, Z26_21, Z26_22, Z26_23, Z26_24, Y26_0, Y26_1, Y26_2, Y26_3, Y26_4, Y26_5, Y26_6, Y26_7, Y26_8, Y26_9, Y26_10, Y26_11, Y26_12, Y26_13, Y26_14, Y26_15, Y26_16, Y26_17, Y26_18, Y26_19, Y26_20, Y26_21, Y26_22, Y26_23, Y26_24⟩ := cz25_ BK109.out
         go_wp2_with (first | ((with_reducible refine gate_load_ (t := 27) rfl ?_); refine ld_ (t := 27) Tryd.underlying27 rfl rfl rfl (qd_ BK109.out) rfl (by kernel_rfl) ?_) | ((with_reducible refine gate_load_ (t := 27) rfl ?_); refine ldgA_ (t := 27) Tryd.underlying27 rfl (by rfl) rfl (qd_ BK109.out) rfl (by kernel_rfl) ?_) | ((with_reducible refine gate_callee (f := 75) rfl ?_); refine goesL_ (some 48) rfl rfl Tryd.func75 (by kernel_rfl) rfl #[.int .i64 a0_19] rfl ql_ ?_; (with_reducible refine (loan_rate.calls a0_19 true _ A23.out).mono ?_); rintro e w' ⟨rfl, ⟨nd, rfl⟩⟩; refine ⟨_, rfl, ?_⟩) | (go_at_call 75; (with_reducible refine (loan_rate.calls a0_20 t112 _ A25.out).mono ?_); rintro e w' ⟨rfl, ⟨nd, rfl⟩⟩))
         go_meet
         case rel => exact ⟨_, (!t112), qs_, H', ⟨by have := HJ1.out; have := HJ11.out; first | omega | exact Nat.le_refl _⟩, ⟨qk_ BK109.out⟩, ⟨qb1_ GE109.out HB.out⟩⟩
        ·replace c24 := Bool.eq_false_iff.mpr c24
         subst c24
         rw [if_neg (show ¬ (false = true) by decide)] at H
         have H' := am_ H
         clear H
         obtain ⟨Z27_0, Z27_1, Z27_2, Z27_3, Z27_4, Z27_5, Z27_6, Z27_7, Z27_8, Z27_9, Z27_10, Z27_11, Z27_12, Z27_13, Z27_14, Z27_15, Z27_16, Z27_17, Z27_18, Z27_19, Z27_20, Z27_21, Z27_22, Z27_23, Z27_24, Y27_0, Y27_1, Y27_2, Y27_3, Y27_4, Y27_5, Y27_6, Y27_7, Y27_8, Y27_9, Y27_10, Y27_11, Y27_12, Y27_13, Y27_14, Y27_15, Y27_16, Y27_17, Y27_18, Y27_19, Y27_20, Y27_21, Y27_22, Y27_23, Y27_24⟩ := cz25_ BK109.out
         go_wp2_with (first | ((with_reducible refine gate_load_ (t := 27) rfl ?_); refine ld_ (t := 27) Tryd.underlying27 rfl rfl rfl (qd_ BK109.out) rfl (by kernel_rfl) ?_) | ((with_reducible refine gate_load_ (t := 27) rfl ?_); refine ldgA_ (t := 27) Tryd.underlying27 rfl (by rfl) rfl (qd_ BK109.out) rfl (by kernel_rfl) ?_) | ((with_reducible refine gate_callee (f := 75) rfl ?_); refine goesL_ (some 48) rfl rfl Tryd.func75 (by kernel_rfl) rfl #[.int .i64 a0_19] rfl ql_ ?_; (with_reducible refine (loan_rate.calls a0_19 false _ A23.out).mono ?_); rintro e w' ⟨rfl, ⟨nd, rfl⟩⟩; refine ⟨_, rfl, ?_⟩))
         go_meet
         case rel => exact ⟨_, (true), qs_, H', ⟨by have := HJ1.out; have := HJ11.out; first | omega | exact Nat.le_refl _⟩, ⟨qk_ BK109.out⟩, ⟨qb1_ GE109.out HB.out⟩⟩
       case rest =>
        clear HC22
        try clear c1
        try clear c2
        try clear p2
        try clear c3
        try clear c4
        try clear c4b0
        try clear c6
        try clear c6b0
        try clear c7
        try clear c8
        try clear c8b0
        try clear c11
        try clear c13
        try clear c13b0
        try clear c15
        try clear c15b0
        try clear c17
        try clear c17b0
        try clear c21
        try clear c24
        (try clear Z10_0 Z10_1 Z10_10 Z10_11 Z10_12 Z10_13 Z10_14 Z10_15 Z10_16 Z10_17 Z10_18 Z10_19 Z10_2 Z10_20 Z10_21 Z10_22 Z10_23 Z10_24 Z10_3 Z10_4 Z10_5 Z10_6 Z10_7 Z10_8 Z10_9 Y10_0 Y10_1 Y10_10 Y10_11 Y10_12 Y10_13 Y10_14 Y10_15 Y10_16 Y10_17 Y10_18 Y10_19 Y10_2 Y10_20 Y10_21 Y10_22 Y10_23 Y10_24 Y10_3 Y10_4 Y10_5 Y10_6 Y10_7 Y10_8 Y10_9)
        (try clear Z14_0 Z14_1 Z14_10 Z14_11 Z14_12 Z14_13 Z14_14 Z14_15 Z14_16 Z14_17 Z14_18 Z14_19 Z14_2 Z14_20 Z14_21 Z14_22 Z14_23 Z14_24 Z14_3 Z14_4 Z14_5 Z14_6 Z14_7 Z14_8 Z14_9 Y14_0 Y14_1 Y14_10 Y14_11 Y14_12 Y14_13 Y14_14 Y14_15 Y14_16 Y14_17 Y14_18 Y14_19 Y14_2 Y14_20 Y14_21 Y14_22 Y14_23 Y14_24 Y14_3 Y14_4 Y14_5 Y14_6 Y14_7 Y14_8 Y14_9)
        (try clear Z16_0 Z16_1 Z16_10 Z16_11 Z16_12 Z16_13 Z16_14 Z16_15 Z16_16 Z16_17 Z16_18 Z16_19 Z16_2 Z16_20 Z16_21 Z16_22 Z16_23 Z16_24 Z16_3 Z16_4 Z16_5 Z16_6 Z16_7 Z16_8 Z16_9 Y16_0 Y16_1 Y16_10 Y16_11 Y16_12 Y16_13 Y16_14 Y16_15 Y16_16 Y16_17 Y16_18 Y16_19 Y16_2 Y16_20 Y16_21 Y16_22 Y16_23 Y16_24 Y16_3 Y16_4 Y16_5 Y16_6 Y16_7 Y16_8 Y16_9)
        (try clear Z18_0 Z18_1 Z18_10 Z18_11 Z18_12 Z18_13 Z18_14 Z18_15 Z18_16 Z18_17 Z18_18 Z18_19 Z18_2 Z18_20 Z18_21 Z18_22 Z18_23 Z18_24 Z18_3 Z18_4 Z18_5 Z18_6 Z18_7 Z18_8 Z18_9 Y18_0 Y18_1 Y18_10 Y18_11 Y18_12 Y18_13 Y18_14 Y18_15 Y18_16 Y18_17 Y18_18 Y18_19 Y18_2 Y18_20 Y18_21 Y18_22 Y18_23 Y18_24 Y18_3 Y18_4 Y18_5 Y18_6 Y18_7 Y18_8 Y18_9)
        (try clear Z20_0 Z20_1 Z20_10 Z20_11 Z20_12 Z20_13 Z20_14 Z20_15 Z20_16 Z20_17 Z20_18 Z20_19 Z20_2 Z20_20 Z20_21 Z20_22 Z20_23 Z20_24 Z20_3 Z20_4 Z20_5 Z20_6 Z20_7 Z20_8 Z20_9 Y20_0 Y20_1 Y20_10 Y20_11 Y20_12 Y20_13 Y20_14 Y20_15 Y20_16 Y20_17 Y20_18 Y20_19 Y20_2 Y20_20 Y20_21 Y20_22 Y20_23 Y20_24 Y20_3 Y20_4 Y20_5 Y20_6 Y20_7 Y20_8 Y20_9)
        (try clear Z26_0 Z26_1 Z26_10 Z26_11 Z26_12 Z26_13 Z26_14 Z26_15 Z26_16 Z26_17 Z26_18 Z26_19 Z26_2 Z26_20 Z26_21 Z26_22 Z26_23 Z26_24 Z26_3 Z26_4 Z26_5 Z26_6 Z26_7 Z26_8 Z26_9 Y26_0 Y26_1 Y26_10 Y26_11 Y26_12 Y26_13 Y26_14 Y26_15 Y26_16 Y26_17 Y26_18 Y26_19 Y26_2 Y26_20 Y26_21 Y26_22 Y26_23 Y26_24 Y26_3 Y26_4 Y26_5 Y26_6 Y26_7 Y26_8 Y26_9)
        (try clear Z27_0 Z27_1 Z27_10 Z27_11 Z27_12 Z27_13 Z27_14 Z27_15 Z27_16 Z27_17 Z27_18 Z27_19 Z27_2 Z27_20 Z27_21 Z27_22 Z27_23 Z27_24 Z27_3 Z27_4 Z27_5 Z27_6 Z27_7 Z27_8 Z27_9 Y27_0 Y27_1 Y27_10 Y27_11 Y27_12 Y27_13 Y27_14 Y27_15 Y27_16 Y27_17 Y27_18 Y27_19 Y27_2 Y27_20 Y27_21 Y27_22 Y27_23 Y27_24 Y27_3 Y27_4 Y27_5 Y27_6 Y27_7 Y27_8 Y27_9)
        (try clear Z5_0 Z5_1 Z5_10 Z5_11 Z5_12 Z5_13 Z5_14 Z5_15 Z5_16 Z5_17 Z5_18 Z5_19 Z5_2 Z5_20 Z5_21 Z5_22 Z5_23 Z5_24 Z5_3 Z5_4 Z5_5 Z5_6 Z5_7 Z5_8 Z5_9 Y5_0 Y5_1 Y5_10 Y5_11 Y5_12 Y5_13 Y5_14 Y5_15 Y5_16 Y5_17 Y5_18 Y5_19 Y5_2 Y5_20 Y5_21 Y5_22 Y5_23 Y5_24 Y5_3 Y5_4 Y5_5 Y5_6 Y5_7 Y5_8 Y5_9)
        (try clear Z7_0 Z7_1 Z7_10 Z7_11 Z7_12 Z7_13 Z7_14 Z7_15 Z7_16 Z7_17 Z7_18 Z7_19 Z7_2 Z7_20 Z7_21 Z7_22 Z7_23 Z7_24 Z7_3 Z7_4 Z7_5 Z7_6 Z7_7 Z7_8 Z7_9 Y7_0 Y7_1 Y7_10 Y7_11 Y7_12 Y7_13 Y7_14 Y7_15 Y7_16 Y7_17 Y7_18 Y7_19 Y7_2 Y7_20 Y7_21 Y7_22 Y7_23 Y7_24 Y7_3 Y7_4 Y7_5 Y7_6 Y7_7 Y7_8 Y7_9)
        (try clear Z9_0 Z9_1 Z9_10 Z9_11 Z9_12 Z9_13 Z9_14 Z9_15 Z9_16 Z9_17 Z9_18 Z9_19 Z9_2 Z9_20 Z9_21 Z9_22 Z9_23 Z9_24 Z9_3 Z9_4 Z9_5 Z9_6 Z9_7 Z9_8 Z9_9 Y9_0 Y9_1 Y9_10 Y9_11 Y9_12 Y9_13 Y9_14 Y9_15 Y9_16 Y9_17 Y9_18 Y9_19 Y9_2 Y9_20 Y9_21 Y9_22 Y9_23 Y9_24 Y9_3 Y9_4 Y9_5 Y9_6 Y9_7 Y9_8 Y9_9)
        try clear p2
        obtain ⟨kq, x44_21, rfl, HA, HJ21, BK109, HB⟩ := hcut
        cases kq with
        | zero => exact absurd HA.out (by simp [loan_numbers.j2])
        | succ kj21 =>
         have H := HA.out
         clear HA
         simp only [loan_numbers.j2] at H
         by_cases c28 : x44_21 = true
         ·subst c28
          rw [if_pos rfl] at H
          obtain rfl := Option.some.inj H
          go_wp2
          go_ret
          exact ⟨qe_, qb1_ GE109.out HB.out⟩
         ·replace c28 := Bool.eq_false_iff.mpr c28
          subst c28
          rw [if_neg (show ¬ (false = true) by decide)] at H
          have HC29 := am_ H
          clear H
          go_upto_region 7 with (fail)
          go_cut [57] (fun v57 wc => ∃ (kq : Nat) (x57_28 : Bool), v57 = .bool x57_28 ∧ Aside0 (loan_numbers.j3 kq x57_28 a0_0 a0_1 a0_2 a0_3 a0_4 a0_5 a0_6 a0_7 a0_8 a0_9 a0_10 a0_11 a0_12 a0_13 a0_14 a0_15 a0_16 a0_17 a0_18 a0_19 a0_20 a0_21 a0_22 l0_23 l0_24 = some r) ∧ Aside0 (kq ≤ kj21) ∧ Aside0 (wc.heap[gb109]? = some (.cells #[.int .i64 a0_0, .int .i64 a0_1, .int .i64 a0_2, .int .i64 a0_3, .int .i64 a0_4, .int .i64 a0_5, .int .i64 a0_6, .int .i64 a0_7, .int .i64 a0_8, .int .i64 a0_9, .int .i64 a0_10, .int .i64 a0_11, .int .i64 a0_12, .int .i64 a0_13, .int .i64 a0_14, .int .i64 a0_15, .int .i64 a0_16, .int .i64 a0_17, .int .i64 a0_18, .int .i64 a0_19, .int .i64 a0_20, .string a0_21, .string a0_22, (.slice A0_23 l0_23.length c0_23), (.slice A0_24 l0_24.length c0_24)] 27 (0, 0))) ∧ Aside0 (Below w.heap.size w wc))
          case first =>
           have H := HC29.out
           clear HC29
           by_cases c30 : (l0_23.length : Int) < 1
           ·rw [if_pos c30] at H
            have c30b0 : decide ((l0_23.length : Int) < 1) = true := decide_eq_true c30
            have c30b1 : decide (l0_23.length < 1) = true := decide_eq_true (by omega)
            clear c30
            (first | rw [c30b0] | (simp only [i64_w, i32_w]; rw [c30b0]) | skip)
            have H' := am_ H
            clear H
            obtain ⟨Z31_0, Z31_1, Z31_2, Z31_3, Z31_4, Z31_5, Z31_6, Z31_7, Z31_8, Z31_9, Z31_10, Z31_11, Z31_12, Z31_13, Z31_14, Z31_15, Z31_16, Z31_17, Z31_18, Z31_19, Z31_20, Z31_21, Z31_22, Z31_23, Z31_24, Y31_0, Y31_1, Y31_2, Y31_3, Y31_4, Y31_5, Y31_6, Y31_7, Y31_8, Y31_9, Y31_10, Y31_11, Y31_12, Y31_13, Y31_14, Y31_15, Y31_16, Y31_17, Y31_18, Y31_19, Y31_20, Y31_21, Y31_22, Y31_23, Y31_24⟩ := cz25_ BK109.out
            go_wp2
            go_meet
            case rel => exact ⟨_, (true), qs_, H', ⟨by have := HJ1.out; have := HJ11.out; have := HJ21.out; first | omega | exact Nat.le_refl _⟩, ⟨qk_ BK109.out⟩, ⟨qb1_ GE109.out HB.out⟩⟩
           ·rw [if_neg c30] at H
            have c30b0 : decide ((l0_23.length : Int) < 1) = false := decide_eq_false c30
            have c30b1 : decide (l0_23.length < 1) = false := decide_eq_false (by omega)
            clear c30
            (first | rw [c30b0] | (simp only [i64_w, i32_w]; rw [c30b0]) | skip)
            by_cases c32 : (l0_23.length : Int) > 240
            ·rw [if_pos c32] at H
             have c32b0 : decide (240 < (l0_23.length : Int)) = true := decide_eq_true c32
             have c32b1 : decide (240 < l0_23.length) = true := decide_eq_true (by omega)
             clear c32
             have H' := am_ H
             clear H
             obtain ⟨Z33_0, Z33_1, Z33_2, Z33_3, Z33_4, Z33_5, Z33_6, Z33_7, Z33_8, Z33_9, Z33_10, Z33_11, Z33_12, Z33_13, Z33_14, Z33_15, Z33_16, Z33_17, Z33_18, Z33_19, Z33_20, Z33_21, Z33_22, Z33_23, Z33_24, Y33_0, Y33_1, Y33_2, Y33_3, Y33_4, Y33_5, Y33_6, Y33_7, Y33_8, Y33_9, Y33_10, Y33_11, Y33_12, Y33_13, Y33_14, Y33_15, Y33_16, Y33_17, Y33_18, Y33_19, Y33_20, Y33_21, Y33_22, Y33_23, Y33_24⟩ := cz25_ BK109.out
             go_wp2
             go_meet
             case rel => exact ⟨_, (true), qs_, H', ⟨by have := HJ1.out; have := HJ11.out; have := HJ21.out; first | omega | exact Nat.le_refl _⟩, ⟨qk_ BK109.out⟩, ⟨qb1_ GE109.out HB.out⟩⟩
            ·rw [if_neg c32] at H
             have c32b0 : decide (240 < (l0_23.length : Int)) = false := decide_eq_false c32
             have c32b1 : decide (240 < l0_23.length) = false := decide_eq_false (by omega)
             clear c32
             have H' := am_ H
             clear H
             obtain ⟨Z34_0, Z34_1, Z34_2, Z34_3, Z34_4, Z34_5, Z34_6, Z34_7, Z34_8, Z34_9, Z34_10, Z34_11, Z34_12, Z34_13, Z34_14, Z34_15, Z34_16, Z34_17, Z34_18, Z34_19, Z34_20, Z34_21, Z34_22, Z34_23, Z34_24, Y34_0, Y34_1, Y34_2, Y34_3, Y34_4, Y34_5, Y34_6, Y34_7, Y34_8, Y34_9, Y34_10, Y34_11, Y34_12, Y34_13, Y34_14, Y34_15, Y34_16, Y34_17, Y34_18, Y34_19, Y34_20, Y34_21, Y34_22, Y34_23, Y34_24⟩ := cz25_ BK109.out
             go_wp2
             go_meet
             case rel => exact ⟨_, (decide ((l0_24.length : Int) > 64)), qs_, H', ⟨by have := HJ1.out; have := HJ11.out; have := HJ21.out; first | omega | exact Nat.le_refl _⟩, ⟨qk_ BK109.out⟩, ⟨qb1_ GE109.out HB.out⟩⟩
          case rest =>
           clear HC29
           try clear c2
           try clear p2
           try clear c3
           try clear c28
           try clear c30
           try clear c30b0
           try clear c30b1
           try clear c32
           try clear c32b0
           try clear c32b1
           (try clear Z20_3 Z20_4 Z20_5 Z20_6 Z20_7 Z20_8 Z20_9 Y20_0 Y20_1 Y20_10 Y20_11 Y20_12 Y20_13 Y20_14 Y20_15 Y20_16 Y20_17 Y20_18 Y20_19 Y20_2 Y20_20 Y20_21 Y20_22 Y20_23 Y20_24 Y20_3 Y20_4 Y20_5 Y20_6 Y20_7 Y20_8 Y20_9)
           (try clear Z26_0 Z26_1 Z26_10 Z26_11 Z26_12 Z26_13 Z26_14 Z26_15 Z26_16 Z26_17 Z26_18 Z26_19 Z26_2 Z26_20 Z26_21 Z26_22 Z26_23 Z26_24 Z26_3 Z26_4 Z26_5 Z26_6 Z26_7 Z26_8 Z26_9 Y26_0 Y26_1 Y26_10 Y26_11 Y26_12 Y26_13 Y26_14 Y26_15 Y26_16 Y26_17 Y26_18 Y26_19 Y26_2 Y26_20 Y26_21 Y26_22 Y26_23 Y26_24 Y26_3 Y26_4 Y26_5 Y26_6 Y26_7 Y26_8 Y26_9)
           (try clear Z27_0 Z27_1 Z27_10 Z27_11 Z27_12 Z27_13 Z27_14 Z27_15 Z27_16 Z27_17 Z27_18 Z27_19 Z27_2 Z27_20 Z27_21 Z27_22 Z27_23 Z27_24 Z27_3 Z27_4 Z27_5 Z27_6 Z27_7 Z27_8 Z27_9 Y27_0 Y27_1 Y27_10 Y27_11 Y27_12 Y27_13 Y27_14 Y27_15 Y27_16 Y27_17 Y27_18 Y27_19 Y27_2 Y27_20 Y27_21 Y27_22 Y27_23 Y27_24 Y27_3 Y27_4 Y27_5 Y27_6 Y27_7 Y27_8 Y27_9)
           (try clear Z31_0 Z31_1 Z31_10 Z31_11 Z31_12 Z31_13 Z31_14 Z31_15 Z31_16 Z31_17 Z31_18 Z31_19 Z31_2 Z31_20 Z31_21 Z31_22 Z31_23 Z31_24 Z31_3 Z31_4 Z31_5 Z31_6 Z31_7 Z31_8 Z31_9 Y31_0 Y31_1 Y31_10 Y31_11 Y31_12 Y31_13 Y31_14 Y31_15 Y31_16 Y31_17 Y31_18 Y31_19 Y31_2 Y31_20 Y31_21 Y31_22 Y31_23 Y31_24 Y31_3 Y31_4 Y31_5 Y31_6 Y31_7 Y31_8 Y31_9)
           (try clear Z33_0 Z33_1 Z33_10 Z33_11 Z33_12 Z33_13 Z33_14 Z33_15 Z33_16 Z33_17 Z33_18 Z33_19 Z33_2 Z33_20 Z33_21 Z33_22 Z33_23 Z33_24 Z33_3 Z33_4 Z33_5 Z33_6 Z33_7 Z33_8 Z33_9 Y33_0 Y33_1 Y33_10 Y33_11 Y33_12 Y33_13 Y33_14 Y33_15 Y33_16 Y33_17 Y33_18 Y33_19 Y33_2 Y33_20 Y33_21 Y33_22 Y33_23 Y33_24 Y33_3 Y33_4 Y33_5 Y33_6 Y33_7 Y33_8 Y33_9)
           (try clear Z34_0 Z34_1 Z34_10 Z34_11 Z34_12 Z34_13 Z34_14 Z34_15 Z34_16 Z34_17 Z34_18 Z34_19 Z34_2 Z34_20 Z34_21 Z34_22 Z34_23 Z34_24 Z34_3 Z34_4 Z34_5 Z34_6 Z34_7 Z34_8 Z34_9 Y34_0 Y34_1 Y34_10 Y34_11 Y34_12 Y34_13 Y34_14 Y34_15 Y34_16 Y34_17 Y34_18 Y34_19 Y34_2 Y34_20 Y34_21 Y34_22 Y34_23 Y34_24 Y34_3 Y34_4 Y34_5 Y34_6 Y34_7 Y34_8 Y34_9)
           (try clear Z5_0 Z5_1 Z5_10 Z5_11 Z5_12 Z5_13 Z5_14 Z5_15 Z5_16 Z5_17 Z5_18 Z5_19 Z5_2 Z5_20 Z5_21 Z5_22 Z5_23 Z5_24 Z5_3 Z5_4 Z5_5 Z5_6 Z5_7 Z5_8 Z5_9 Y5_0 Y5_1 Y5_10 Y5_11 Y5_12 Y5_13 Y5_14 Y5_15 Y5_16 Y5_17 Y5_18 Y5_19 Y5_2 Y5_20 Y5_21 Y5_22 Y5_23 Y5_24 Y5_3 Y5_4 Y5_5 Y5_6 Y5_7 Y5_8 Y5_9)
           (try clear Z7_0 Z7_1 Z7_10 Z7_11 Z7_12 Z7_13 Z7_14 Z7_15 Z7_16 Z7_17 Z7_18 Z7_19 Z7_2 Z7_20 Z7_21 Z7_22 Z7_23 Z7_24 Z7_3 Z7_4 Z7_5 Z7_6 Z7_7 Z7_8 Z7_9 Y7_0 Y7_1 Y7_10 Y7_11 Y7_12 Y7_13 Y7_14 Y7_15 Y7_16 Y7_17 Y7_18 Y7_19 Y7_2 Y7_20 Y7_21 Y7_22 Y7_23 Y7_24 Y7_3 Y7_4 Y7_5 Y7_6 Y7_7 Y7_8 Y7_9)
           (try clear Z9_0 Z9_1 Z9_10 Z9_11 Z9_12 Z9_13 Z9_14 Z9_15 Z9_16 Z9_17 Z9_18 Z9_19 Z9_2 Z9_20 Z9_21 Z9_22 Z9_23 Z9_24 Z9_3 Z9_4 Z9_5 Z9_6 Z9_7 Z9_8 Z9_9 Y9_0 Y9_1 Y9_10 Y9_11 Y9_12 Y9_13 Y9_14 Y9_15 Y9_16 Y9_17 Y9_18 Y9_19 Y9_2 Y9_20 Y9_21 Y9_22 Y9_23 Y9_24 Y9_3 Y9_4 Y9_5 Y9_6 Y9_7 Y9_8 Y9_9)
           (try clear Y10_0 Y10_1 Y10_10 Y10_11 Y10_12 Y10_13 Y10_14 Y10_15 Y10_16 Y10_17 Y10_18 Y10_19 Y10_2 Y10_20 Y10_21 Y10_22 Y10_23 Y10_24 Y10_3 Y10_4 Y10_5 Y10_6 Y10_7 Y10_8 Y10_9)
           (try clear Y14_0 Y14_1 Y14_10 Y14_11 Y14_12 Y14_13 Y14_14 Y14_15 Y14_16 Y14_17 Y14_18 Y14_19 Y14_2 Y14_20 Y14_21 Y14_22 Y14_23 Y14_24 Y14_3 Y14_4 Y14_5 Y14_6 Y14_7 Y14_8 Y14_9)
           (try clear Y16_0 Y16_1 Y16_10 Y16_11 Y16_12 Y16_13 Y16_14 Y16_15 Y16_16 Y16_17 Y16_18 Y16_19 Y16_2 Y16_20 Y16_21 Y16_22 Y16_23 Y16_24 Y16_3 Y16_4 Y16_5 Y16_6 Y16_7 Y16_8 Y16_9)
           (try clear Y18_0 Y18_1 Y18_10 Y18_11 Y18_12 Y18_13 Y18_14 Y18_15 Y18_16 Y18_17 Y18_18 Y18_19 Y18_2 Y18_20 Y18_21 Y18_22 Y18_23 Y18_24 Y18_3 Y18_4 Y18_5 Y18_6 Y18_7 Y18_8 Y18_9)
           try clear p2
           obtain ⟨kq, x57_28, rfl, HA, HJ28, BK109, HB⟩ := hcut
           cases kq with
           | zero => exact absurd HA.out (by simp [loan_numbers.j3])
           | succ kj28 =>
            have H := HA.out
            clear HA
            simp only [loan_numbers.j3] at H
            by_cases c35 : x57_28 = true
            ·subst c35
             rw [if_pos rfl] at H
             obtain rfl := Option.some.inj H
             go_wp2
             go_ret
             exact ⟨qe_, qb1_ GE109.out HB.out⟩
            ·replace c35 := Bool.eq_false_iff.mpr c35
             subst c35
             rw [if_neg (show ¬ (false = true) by decide)] at H
             replace H := Option.bind_eq_some_iff.mp H
             obtain ⟨t113, A360, H⟩ := H
             (try dsimp only at H)
             have A36 := am_ A360
             clear A360
             by_cases c37 : t113 = true
             ·subst c37
              rw [if_pos rfl] at H
              replace H := Option.bind_eq_some_iff.mp H
              obtain ⟨t114, A380, H⟩ := H
              (try dsimp only at H)
              have A38 := am_ A380
              clear A380
              by_cases c39 : t114 = true
              ·subst c39
               rw [if_pos rfl] at H
               replace H := Option.bind_eq_some_iff.mp H
               obtain ⟨t115, A400, H⟩ := H
               (try dsimp only at H)
               have A40 := am_ A400
               clear A400
               by_cases c41 : t115 = true
               ·subst c41
                rw [if_pos rfl] at H
                replace H := Option.bind_eq_some_iff.mp H
                obtain ⟨t116, A420, H⟩ := H
                (try dsimp only at H)
                have A42 := am_ A420
                clear A420
                by_cases c43 : t116 = true
                ·subst c43
                 rw [if_pos rfl] at H
                 replace H := Option.bind_eq_some_iff.mp H
                 obtain ⟨t117, A440, H⟩ := H
                 (try dsimp only at H)
                 have A44 := am_ A440
                 clear A440
                 obtain rfl := Option.some.inj H
                 obtain ⟨Z45_0, Z45_1, Z45_2, Z45_3, Z45_4, Z45_5, Z45_6, Z45_7, Z45_8, Z45_9, Z45_10, Z45_11, Z45_12, Z45_13, Z45_14, Z45_15, Z45_16, Z45_17, Z45_18, Z45_19, Z45_20, Z45_21, Z45_22, Z45_23, Z45_24, Y45_0, Y45_1, Y45_2, Y45_3, Y45_4, Y45_5, Y45_6, Y45_7, Y45_8, Y45_9, Y45_10, Y45_11, Y45_12, Y45_13, Y45_14, Y45_15, Y45_16, Y45_17, Y45_18, Y45_19, Y45_20, Y45_21, Y45_22, Y45_23, Y45_24⟩ := cz25_ BK109.out
                 have ix0 : ∀ w, (Instr.index 85 (.agg #[.int .i64 a0_5, .int .i64 a0_6, .int .i64 a0_8, .int .i64 a0_9]) (.int .i64 0)).run Tryd.prog w = .ok (.int .i64 a0_5) w := fun _ => by kernel_rfl
                 have ix1 : ∀ w, (Instr.index 85 (.agg #[.int .i64 a0_5, .int .i64 a0_6, .int .i64 a0_8, .int .i64 a0_9]) (.int .i64 1)).run Tryd.prog w = .ok (.int .i64 a0_6) w := fun _ => by kernel_rfl
                 have ix2 : ∀ w, (Instr.index 85 (.agg #[.int .i64 a0_5, .int .i64 a0_6, .int .i64 a0_8, .int .i64 a0_9]) (.int .i64 2)).run Tryd.prog w = .ok (.int .i64 a0_8) w := fun _ => by kernel_rfl
                 have ix3 : ∀ w, (Instr.index 85 (.agg #[.int .i64 a0_5, .int .i64 a0_6, .int .i64 a0_8, .int .i64 a0_9]) (.int .i64 3)).run Tryd.prog w = .ok (.int .i64 a0_9) w := fun _ => by kernel_rfl
                 go_wp2_with (first | ((with_reducible refine gate_load_ (t := 27) rfl ?_); refine ld_ (t := 27) Tryd.underlying27 rfl rfl rfl (qd_ BK109.out) rfl (by kernel_rfl) ?_) | ((with_reducible refine gate_load_ (t := 27) rfl ?_); refine ldgA_ (t := 27) Tryd.underlying27 rfl (by rfl) rfl (qd_ BK109.out) rfl (by kernel_rfl) ?_) | ((with_reducible refine gate_callee (f := 76) rfl ?_); refine goesL_ (some 87) rfl rfl Tryd.func76 (by kernel_rfl) rfl #[.int .i64 a0_5] rfl ql_ ?_; (with_reducible refine (loan_amount.calls a0_5 true _ A36.out).mono ?_); rintro e w' ⟨rfl, ⟨nd, rfl⟩⟩; refine ⟨_, rfl, ?_⟩) | ((with_reducible refine gate_callee (f := 76) rfl ?_); refine goesL_ (some 87) rfl rfl Tryd.func76 (by kernel_rfl) rfl #[.int .i64 a0_6] rfl ql_ ?_; (with_reducible refine (loan_amount.calls a0_6 true _ A38.out).mono ?_); rintro e w' ⟨rfl, ⟨nd, rfl⟩⟩; refine ⟨_, rfl, ?_⟩) | ((with_reducible refine gate_callee (f := 76) rfl ?_); refine goesL_ (some 87) rfl rfl Tryd.func76 (by kernel_rfl) rfl #[.int .i64 a0_8] rfl ql_ ?_; (with_reducible refine (loan_amount.calls a0_8 true _ A40.out).mono ?_); rintro e w' ⟨rfl, ⟨nd, rfl⟩⟩; refine ⟨_, rfl, ?_⟩) | ((with_reducible refine gate_callee (f := 76) rfl ?_); refine goesL_ (some 87) rfl rfl Tryd.func76 (by kernel_rfl) rfl #[.int .i64 a0_9] rfl ql_ ?_; (with_reducible refine (loan_amount.calls a0_9 true _ A42.out).mono ?_); rintro e w' ⟨rfl, ⟨nd, rfl⟩⟩; refine ⟨_, rfl, ?_⟩) | ((with_reducible refine gate_callee (f := 77) rfl ?_); refine goesL_ (some 92) rfl rfl Tryd.func77 (by kernel_rfl) rfl #[.slice A0_23 l0_23.length c0_23, .func (.func 78) #[] #[]] rfl ql_ ?_; (with_reducible refine (api_Due_77.calls kj28 _ _ l0_23 t117 _ ?side1 ?side2 A44.out).mono ?_); (case side1 => repeat (first | exact (Kd.C_below HR0_23.out (qb1_ GE109.out HB.out)) | (with_reducible refine Kd.C_alloc ?_ _) | (with_reducible refine Kd.C_drewN ?_ _) | (with_reducible refine Kd.C_drew ?_))); (case side2 => exact HC0_23.out); rintro e w46 ⟨rfl, hb⟩; refine ⟨_, rfl, ?_⟩; replace BK109 := am_ (blk_below (qk_ BK109.out) hb); replace HB := am_ (below_step (qb1_ GE109.out HB.out) hb); (try clear hb)))
                 refine wp_loop_rounds (0 + 1 + 1 + 1 + 1 + 1) ?_
                 rw [rounds_succ]
                 go_wp2_with (first | ((with_reducible refine gate_load_ (t := 27) rfl ?_); refine ld_ (t := 27) Tryd.underlying27 rfl rfl rfl (qd_ BK109.out) rfl (by kernel_rfl) ?_) | ((with_reducible refine gate_load_ (t := 27) rfl ?_); refine ldgA_ (t := 27) Tryd.underlying27 rfl (by rfl) rfl (qd_ BK109.out) rfl (by kernel_rfl) ?_) | ((with_reducible refine gate_callee (f := 76) rfl ?_); refine goesL_ (some 87) rfl rfl Tryd.func76 (by kernel_rfl) rfl #[.int .i64 a0_5] rfl ql_ ?_; (with_reducible refine (loan_amount.calls a0_5 true _ A36.out).mono ?_); rintro e w' ⟨rfl, ⟨nd, rfl⟩⟩; refine ⟨_, rfl, ?_⟩) | ((with_reducible refine gate_callee (f := 76) rfl ?_); refine goesL_ (some 87) rfl rfl Tryd.func76 (by kernel_rfl) rfl #[.int .i64 a0_6] rfl ql_ ?_; (with_reducible refine (loan_amount.calls a0_6 true _ A38.out).mono ?_); rintro e w' ⟨rfl, ⟨nd, rfl⟩⟩; refine ⟨_, rfl, ?_⟩) | ((with_reducible refine gate_callee (f := 76) rfl ?_); refine goesL_ (some 87) rfl rfl Tryd.func76 (by kernel_rfl) rfl #[.int .i64 a0_8] rfl ql_ ?_; (with_reducible refine (loan_amount.calls a0_8 true _ A40.out).mono ?_); rintro e w' ⟨rfl, ⟨nd, rfl⟩⟩; refine ⟨_, rfl, ?_⟩) | ((with_reducible refine gate_callee (f := 76) rfl ?_); refine goesL_ (some 87) rfl rfl Tryd.func76 (by kernel_rfl) rfl #[.int .i64 a0_9] rfl ql_ ?_; (with_reducible refine (loan_amount.calls a0_9 true _ A42.out).mono ?_); rintro e w' ⟨rfl, ⟨nd, rfl⟩⟩; refine ⟨_, rfl, ?_⟩) | ((with_reducible refine gate_callee (f := 77) rfl ?_); refine goesL_ (some 92) rfl rfl Tryd.func77 (by kernel_rfl) rfl #[.slice A0_23 l0_23.length c0_23, .func (.func 78) #[] #[]] rfl ql_ ?_; (with_reducible refine (api_Due_77.calls kj28 _ _ l0_23 t117 _ ?side1 ?side2 A44.out).mono ?_); (case side1 => repeat (first | exact (Kd.C_below HR0_23.out (qb1_ GE109.out HB.out)) | (with_reducible refine Kd.C_alloc ?_ _) | (with_reducible refine Kd.C_drewN ?_ _) | (with_reducible refine Kd.C_drew ?_))); (case side2 => exact HC0_23.out); rintro e w46 ⟨rfl, hb⟩; refine ⟨_, rfl, ?_⟩; replace BK109 := am_ (blk_below (qk_ BK109.out) hb); replace HB := am_ (below_step (qb1_ GE109.out HB.out) hb); (try clear hb)))
                 rw [rounds_succ]
                 go_wp2_with (first | ((with_reducible refine gate_load_ (t := 27) rfl ?_); refine ld_ (t := 27) Tryd.underlying27 rfl rfl rfl (qd_ BK109.out) rfl (by kernel_rfl) ?_) | ((with_reducible refine gate_load_ (t := 27) rfl ?_); refine ldgA_ (t := 27) Tryd.underlying27 rfl (by rfl) rfl (qd_ BK109.out) rfl (by kernel_rfl) ?_) | ((with_reducible refine gate_callee (f := 76) rfl ?_); refine goesL_ (some 87) rfl rfl Tryd.func76 (by kernel_rfl) rfl #[.int .i64 a0_5] rfl ql_ ?_; (with_reducible refine (loan_amount.calls a0_5 true _ A36.out).mono ?_); rintro e w' ⟨rfl, ⟨nd, rfl⟩⟩; refine ⟨_, rfl, ?_⟩) | ((with_reducible refine gate_callee (f := 76) rfl ?_); refine goesL_ (some 87) rfl rfl Tryd.func76 (by kernel_rfl) rfl #[.int .i64 a0_6] rfl ql_ ?_; (with_reducible refine (loan_amount.calls a0_6 true _ A38.out).mono ?_); rintro e w' ⟨rfl, ⟨nd, rfl⟩⟩; refine ⟨_, rfl, ?_⟩) | ((with_reducible refine gate_callee (f := 76) rfl ?_); refine goesL_ (some 87) rfl rfl Tryd.func76 (by kernel_rfl) rfl #[.int .i64 a0_8] rfl ql_ ?_; (with_reducible refine (loan_amount.calls a0_8 true _ A40.out).mono ?_); rintro e w' ⟨rfl, ⟨nd, rfl⟩⟩; refine ⟨_, rfl, ?_⟩) | ((with_reducible refine gate_callee (f := 76) rfl ?_); refine goesL_ (some 87) rfl rfl Tryd.func76 (by kernel_rfl) rfl #[.int .i64 a0_9] rfl ql_ ?_; (with_reducible refine (loan_amount.calls a0_9 true _ A42.out).mono ?_); rintro e w' ⟨rfl, ⟨nd, rfl⟩⟩; refine ⟨_, rfl, ?_⟩) | ((with_reducible refine gate_callee (f := 77) rfl ?_); refine goesL_ (some 92) rfl rfl Tryd.func77 (by kernel_rfl) rfl #[.slice A0_23 l0_23.length c0_23, .func (.func 78) #[] #[]] rfl ql_ ?_; (with_reducible refine (api_Due_77.calls kj28 _ _ l0_23 t117 _ ?side1 ?side2 A44.out).mono ?_); (case side1 => repeat (first | exact (Kd.C_below HR0_23.out (qb1_ GE109.out HB.out)) | (with_reducible refine Kd.C_alloc ?_ _) | (with_reducible refine Kd.C_drewN ?_ _) | (with_reducible refine Kd.C_drew ?_))); (case side2 => exact HC0_23.out); rintro e w46 ⟨rfl, hb⟩; refine ⟨_, rfl, ?_⟩; replace BK109 := am_ (blk_below (qk_ BK109.out) hb); replace HB := am_ (below_step (qb1_ GE109.out HB.out) hb); (try clear hb)))
                 rw [rounds_succ]
                 go_wp2_with (first | ((with_reducible refine gate_load_ (t := 27) rfl ?_); refine ld_ (t := 27) Tryd.underlying27 rfl rfl rfl (qd_ BK109.out) rfl (by kernel_rfl) ?_) | ((with_reducible refine gate_load_ (t := 27) rfl ?_); refine ldgA_ (t := 27) Tryd.underlying27 rfl (by rfl) rfl (qd_ BK109.out) rfl (by kernel_rfl) ?_) | ((with_reducible refine gate_callee (f := 76) rfl ?_); refine goesL_ (some 87) rfl rfl Tryd.func76 (by kernel_rfl) rfl #[.int .i64 a0_5] rfl ql_ ?_; (with_reducible refine (loan_amount.calls a0_5 true _ A36.out).mono ?_); rintro e w' ⟨rfl, ⟨nd, rfl⟩⟩; refine ⟨_, rfl, ?_⟩) | ((with_reducible refine gate_callee (f := 76) rfl ?_); refine goesL_ (some 87) rfl rfl Tryd.func76 (by kernel_rfl) rfl #[.int .i64 a0_6] rfl ql_ ?_; (with_reducible refine (loan_amount.calls a0_6 true _ A38.out).mono ?_); rintro e w' ⟨rfl, ⟨nd, rfl⟩⟩; refine ⟨_, rfl, ?_⟩) | ((with_reducible refine gate_callee (f := 76) rfl ?_); refine goesL_ (some 87) rfl rfl Tryd.func76 (by kernel_rfl) rfl #[.int .i64 a0_8] rfl ql_ ?_; (with_reducible refine (loan_amount.calls a0_8 true _ A40.out).mono ?_); rintro e w' ⟨rfl, ⟨nd, rfl⟩⟩; refine ⟨_, rfl, ?_⟩) | ((with_reducible refine gate_callee (f := 76) rfl ?_); refine goesL_ (some 87) rfl rfl Tryd.func76 (by kernel_rfl) rfl #[.int .i64 a0_9] rfl ql_ ?_; (with_reducible refine (loan_amount.calls a0_9 true _ A42.out).mono ?_); rintro e w' ⟨rfl, ⟨nd, rfl⟩⟩; refine ⟨_, rfl, ?_⟩) | ((with_reducible refine gate_callee (f := 77) rfl ?_); refine goesL_ (some 92) rfl rfl Tryd.func77 (by kernel_rfl) rfl #[.slice A0_23 l0_23.length c0_23, .func (.func 78) #[] #[]] rfl ql_ ?_; (with_reducible refine (api_Due_77.calls kj28 _ _ l0_23 t117 _ ?side1 ?side2 A44.out).mono ?_); (case side1 => repeat (first | exact (Kd.C_below HR0_23.out (qb1_ GE109.out HB.out)) | (with_reducible refine Kd.C_alloc ?_ _) | (with_reducible refine Kd.C_drewN ?_ _) | (with_reducible refine Kd.C_drew ?_))); (case side2 => exact HC0_23.out); rintro e w46 ⟨rfl, hb⟩; refine ⟨_, rfl, ?_⟩; replace BK109 := am_ (blk_below (qk_ BK109.out) hb); replace HB := am_ (below_step (qb1_ GE109.out HB.out) hb); (try clear hb)))
                 rw [rounds_succ]
                 go_wp2_with (first | ((with_reducible refine gate_load_ (t := 27) rfl ?_); refine ld_ (t := 27) Tryd.underlying27 rfl rfl rfl (qd_ BK109.out) rfl (by kernel_rfl) ?_) | ((with_reducible refine gate_load_ (t := 27) rfl ?_); refine ldgA_ (t := 27) Tryd.underlying27 rfl (by rfl) rfl (qd_ BK109.out) rfl (by kernel_rfl) ?_) | ((with_reducible refine gate_callee (f := 76) rfl ?_); refine goesL_ (some 87) rfl rfl Tryd.func76 (by kernel_rfl) rfl #[.int .i64 a0_5] rfl ql_ ?_; (with_reducible refine (loan_amount.calls a0_5 true _ A36.out).mono ?_); rintro e w' ⟨rfl, ⟨nd, rfl⟩⟩; refine ⟨_, rfl, ?_⟩) | ((with_reducible refine gate_callee (f := 76) rfl ?_); refine goesL_ (some 87) rfl rfl Tryd.func76 (by kernel_rfl) rfl #[.int .i64 a0_6] rfl ql_ ?_; (with_reducible refine (loan_amount.calls a0_6 true _ A38.out).mono ?_); rintro e w' ⟨rfl, ⟨nd, rfl⟩⟩; refine ⟨_, rfl, ?_⟩) | ((with_reducible refine gate_callee (f := 76) rfl ?_); refine goesL_ (some 87) rfl rfl Tryd.func76 (by kernel_rfl) rfl #[.int .i64 a0_8] rfl ql_ ?_; (with_reducible refine (loan_amount.calls a0_8 true _ A40.out).mono ?_); rintro e w' ⟨rfl, ⟨nd, rfl⟩⟩; refine ⟨_, rfl, ?_⟩) | ((with_reducible refine gate_callee (f := 76) rfl ?_); refine goesL_ (some 87) rfl rfl Tryd.func76 (by kernel_rfl) rfl #[.int .i64 a0_9] rfl ql_ ?_; (with_reducible refine (loan_amount.calls a0_9 true _ A42.out).mono ?_); rintro e w' ⟨rfl, ⟨nd, rfl⟩⟩; refine ⟨_, rfl, ?_⟩) | ((with_reducible refine gate_callee (f := 77) rfl ?_); refine goesL_ (some 92) rfl rfl Tryd.func77 (by kernel_rfl) rfl #[.slice A0_23 l0_23.length c0_23, .func (.func 78) #[] #[]] rfl ql_ ?_; (with_reducible refine (api_Due_77.calls kj28 _ _ l0_23 t117 _ ?side1 ?side2 A44.out).mono ?_); (case side1 => repeat (first | exact (Kd.C_below HR0_23.out (qb1_ GE109.out HB.out)) | (with_reducible refine Kd.C_alloc ?_ _) | (with_reducible refine Kd.C_drewN ?_ _) | (with_reducible refine Kd.C_drew ?_))); (case side2 => exact HC0_23.out); rintro e w46 ⟨rfl, hb⟩; refine ⟨_, rfl, ?_⟩; replace BK109 := am_ (blk_below (qk_ BK109.out) hb); replace HB := am_ (below_step (qb1_ GE109.out HB.out) hb); (try clear hb)))
                 rw [rounds_succ]
                 go_wp2_with (first | ((with_reducible refine gate_load_ (t := 27) rfl ?_); refine ld_ (t := 27) Tryd.underlying27 rfl rfl rfl (qd_ BK109.out) rfl (by kernel_rfl) ?_) | ((with_reducible refine gate_load_ (t := 27) rfl ?_); refine ldgA_ (t := 27) Tryd.underlying27 rfl (by rfl) rfl (qd_ BK109.out) rfl (by kernel_rfl) ?_) | ((with_reducible refine gate_callee (f := 76) rfl ?_); refine goesL_ (some 87) rfl rfl Tryd.func76 (by kernel_rfl) rfl #[.int .i64 a0_5] rfl ql_ ?_; (with_reducible refine (loan_amount.calls a0_5 true _ A36.out).mono ?_); rintro e w' ⟨rfl, ⟨nd, rfl⟩⟩; refine ⟨_, rfl, ?_⟩) | ((with_reducible refine gate_callee (f := 76) rfl ?_); refine goesL_ (some 87) rfl rfl Tryd.func76 (by kernel_rfl) rfl #[.int .i64 a0_6] rfl ql_ ?_; (with_reducible refine (loan_amount.calls a0_6 true _ A38.out).mono ?_); rintro e w' ⟨rfl, ⟨nd, rfl⟩⟩; refine ⟨_, rfl, ?_⟩) | ((with_reducible refine gate_callee (f := 76) rfl ?_); refine goesL_ (some 87) rfl rfl Tryd.func76 (by kernel_rfl) rfl #[.int .i64 a0_8] rfl ql_ ?_; (with_reducible refine (loan_amount.calls a0_8 true _ A40.out).mono ?_); rintro e w' ⟨rfl, ⟨nd, rfl⟩⟩; refine ⟨_, rfl, ?_⟩) | ((with_reducible refine gate_callee (f := 76) rfl ?_); refine goesL_ (some 87) rfl rfl Tryd.func76 (by kernel_rfl) rfl #[.int .i64 a0_9] rfl ql_ ?_; (with_reducible refine (loan_amount.calls a0_9 true _ A42.out).mono ?_); rintro e w' ⟨rfl, ⟨nd, rfl⟩⟩; refine ⟨_, rfl, ?_⟩) | ((with_reducible refine gate_callee (f := 77) rfl ?_); refine goesL_ (some 92) rfl rfl Tryd.func77 (by kernel_rfl) rfl #[.slice A0_23 l0_23.length c0_23, .func (.func 78) #[] #[]] rfl ql_ ?_; (with_reducible refine (api_Due_77.calls kj28 _ _ l0_23 t117 _ ?side1 ?side2 A44.out).mono ?_); (case side1 => repeat (first | exact (Kd.C_below HR0_23.out (qb1_ GE109.out HB.out)) | (with_reducible refine Kd.C_alloc ?_ _) | (with_reducible refine Kd.C_drewN ?_ _) | (with_reducible refine Kd.C_drew ?_))); (case side2 => exact HC0_23.out); rintro e w46 ⟨rfl, hb⟩; refine ⟨_, rfl, ?_⟩; replace BK109 := am_ (blk_below (qk_ BK109.out) hb); replace HB := am_ (below_step (qb1_ GE109.out HB.out) hb); (try clear hb)))
                 go_ret
                 exact ⟨qe_, qb1_ GE109.out HB.out⟩
                ·replace c43 := Bool.eq_false_iff.mpr c43
                 subst c43
                 rw [if_neg (show ¬ (false = true) by decide)] at H
                 obtain rfl := Option.some.inj H
                 obtain ⟨Z47_0, Z47_1, Z47_2, Z47_3, Z47_4, Z47_5, Z47_6, Z47_7, Z47_8, Z47_9, Z47_10, Z47_11, Z47_12, Z47_13, Z47_14, Z47_15, Z47_16, Z47_17, Z47_18, Z47_19, Z47_20, Z47_21, Z47_22, Z47_23, Z47_24, Y47_0, Y47_1, Y47_2, Y47_3, Y47_4, Y47_5, Y47_6, Y47_7, Y47_8, Y47_9, Y47_10, Y47_11, Y47_12, Y47_13, Y47_14, Y47_15, Y47_16, Y47_17, Y47_18, Y47_19, Y47_20, Y47_21, Y47_22, Y47_23, Y47_24⟩ := cz25_ BK109.out
                 have ix0 : ∀ w, (Instr.index 85 (.agg #[.int .i64 a0_5, .int .i64 a0_6, .int .i64 a0_8, .int .i64 a0_9]) (.int .i64 0)).run Tryd.prog w = .ok (.int .i64 a0_5) w := fun _ => by kernel_rfl
                 have ix1 : ∀ w, (Instr.index 85 (.agg #[.int .i64 a0_5, .int .i64 a0_6, .int .i64 a0_8, .int .i64 a0_9]) (.int .i64 1)).run Tryd.prog w = .ok (.int .i64 a0_6) w := fun _ => by kernel_rfl
                 have ix2 : ∀ w, (Instr.index 85 (.agg #[.int .i64 a0_5, .int .i64 a0_6, .int .i64 a0_8, .int .i64 a0_9]) (.int .i64 2)).run Tryd.prog w = .ok (.int .i64 a0_8) w := fun _ => by kernel_rfl
                 have ix3 : ∀ w, (Instr.index 85 (.agg #[.int .i64 a0_5, .int .i64 a0_6, .int .i64 a0_8, .int .i64 a0_9]) (.int .i64 3)).run Tryd.prog w = .ok (.int .i64 a0_9) w := fun _ => by kernel_rfl
                 go_wp2_with (first | ((with_reducible refine gate_load_ (t := 27) rfl ?_); refine ld_ (t := 27) Tryd.underlying27 rfl rfl rfl (qd_ BK109.out) rfl (by kernel_rfl) ?_) | ((with_reducible refine gate_load_ (t := 27) rfl ?_); refine ldgA_ (t := 27) Tryd.underlying27 rfl (by rfl) rfl (qd_ BK109.out) rfl (by kernel_rfl) ?_) | ((with_reducible refine gate_callee (f := 76) rfl ?_); refine goesL_ (some 87) rfl rfl Tryd.func76 (by kernel_rfl) rfl #[.int .i64 a0_5] rfl ql_ ?_; (with_reducible refine (loan_amount.calls a0_5 true _ A36.out).mono ?_); rintro e w' ⟨rfl, ⟨nd, rfl⟩⟩; refine ⟨_, rfl, ?_⟩) | ((with_reducible refine gate_callee (f := 76) rfl ?_); refine goesL_ (some 87) rfl rfl Tryd.func76 (by kernel_rfl) rfl #[.int .i64 a0_6] rfl ql_ ?_; (with_reducible refine (loan_amount.calls a0_6 true _ A38.out).mono ?_); rintro e w' ⟨rfl, ⟨nd, rfl⟩⟩; refine ⟨_, rfl, ?_⟩) | ((with_reducible refine gate_callee (f := 76) rfl ?_); refine goesL_ (some 87) rfl rfl Tryd.func76 (by kernel_rfl) rfl #[.int .i64 a0_8] rfl ql_ ?_; (with_reducible refine (loan_amount.calls a0_8 true _ A40.out).mono ?_); rintro e w' ⟨rfl, ⟨nd, rfl⟩⟩; refine ⟨_, rfl, ?_⟩) | ((with_reducible refine gate_callee (f := 76) rfl ?_); refine goesL_ (some 87) rfl rfl Tryd.func76 (by kernel_rfl) rfl #[.int .i64 a0_9] rfl ql_ ?_; (with_reducible refine (loan_amount.calls a0_9 false _ A42.out).mono ?_); rintro e w' ⟨rfl, ⟨nd, rfl⟩⟩; refine ⟨_, rfl, ?_⟩))
                 refine wp_loop_rounds (0 + 1 + 1 + 1 + 1 + 1) ?_
                 rw [rounds_succ]
                 go_wp2_with (first | ((with_reducible refine gate_load_ (t := 27) rfl ?_); refine ld_ (t := 27) Tryd.underlying27 rfl rfl rfl (qd_ BK109.out) rfl (by kernel_rfl) ?_) | ((with_reducible refine gate_load_ (t := 27) rfl ?_); refine ldgA_ (t := 27) Tryd.underlying27 rfl (by rfl) rfl (qd_ BK109.out) rfl (by kernel_rfl) ?_) | ((with_reducible refine gate_callee (f := 76) rfl ?_); refine goesL_ (some 87) rfl rfl Tryd.func76 (by kernel_rfl) rfl #[.int .i64 a0_5] rfl ql_ ?_; (with_reducible refine (loan_amount.calls a0_5 true _ A36.out).mono ?_); rintro e w' ⟨rfl, ⟨nd, rfl⟩⟩; refine ⟨_, rfl, ?_⟩) | ((with_reducible refine gate_callee (f := 76) rfl ?_); refine goesL_ (some 87) rfl rfl Tryd.func76 (by kernel_rfl) rfl #[.int .i64 a0_6] rfl ql_ ?_; (with_reducible refine (loan_amount.calls a0_6 true _ A38.out).mono ?_); rintro e w' ⟨rfl, ⟨nd, rfl⟩⟩; refine ⟨_, rfl, ?_⟩) | ((with_reducible refine gate_callee (f := 76) rfl ?_); refine goesL_ (some 87) rfl rfl Tryd.func76 (by kernel_rfl) rfl #[.int .i64 a0_8] rfl ql_ ?_; (with_reducible refine (loan_amount.calls a0_8 true _ A40.out).mono ?_); rintro e w' ⟨rfl, ⟨nd, rfl⟩⟩; refine ⟨_, rfl, ?_⟩) | ((with_reducible refine gate_callee (f := 76) rfl ?_); refine goesL_ (some 87) rfl rfl Tryd.func76 (by kernel_rfl) rfl #[.int .i64 a0_9] rfl ql_ ?_; (with_reducible refine (loan_amount.calls a0_9 false _ A42.out).mono ?_); rintro e w' ⟨rfl, ⟨nd, rfl⟩⟩; refine ⟨_, rfl, ?_⟩))
                 rw [rounds_succ]
                 go_wp2_with (first | ((with_reducible refine gate_load_ (t := 27) rfl ?_); refine ld_ (t := 27) Tryd.underlying27 rfl rfl rfl (qd_ BK109.out) rfl (by kernel_rfl) ?_) | ((with_reducible refine gate_load_ (t := 27) rfl ?_); refine ldgA_ (t := 27) Tryd.underlying27 rfl (by rfl) rfl (qd_ BK109.out) rfl (by kernel_rfl) ?_) | ((with_reducible refine gate_callee (f := 76) rfl ?_); refine goesL_ (some 87) rfl rfl Tryd.func76 (by kernel_rfl) rfl #[.int .i64 a0_5] rfl ql_ ?_; (with_reducible refine (loan_amount.calls a0_5 true _ A36.out).mono ?_); rintro e w' ⟨rfl, ⟨nd, rfl⟩⟩; refine ⟨_, rfl, ?_⟩) | ((with_reducible refine gate_callee (f := 76) rfl ?_); refine goesL_ (some 87) rfl rfl Tryd.func76 (by kernel_rfl) rfl #[.int .i64 a0_6] rfl ql_ ?_; (with_reducible refine (loan_amount.calls a0_6 true _ A38.out).mono ?_); rintro e w' ⟨rfl, ⟨nd, rfl⟩⟩; refine ⟨_, rfl, ?_⟩) | ((with_reducible refine gate_callee (f := 76) rfl ?_); refine goesL_ (some 87) rfl rfl Tryd.func76 (by kernel_rfl) rfl #[.int .i64 a0_8] rfl ql_ ?_; (with_reducible refine (loan_amount.calls a0_8 true _ A40.out).mono ?_); rintro e w' ⟨rfl, ⟨nd, rfl⟩⟩; refine ⟨_, rfl, ?_⟩) | ((with_reducible refine gate_callee (f := 76) rfl ?_); refine goesL_ (some 87) rfl rfl Tryd.func76 (by kernel_rfl) rfl #[.int .i64 a0_9] rfl ql_ ?_; (with_reducible refine (loan_amount.calls a0_9 false _ A42.out).mono ?_); rintro e w' ⟨rfl, ⟨nd, rfl⟩⟩; refine ⟨_, rfl, ?_⟩))
                 rw [rounds_succ]
                 go_wp2_with (first | ((with_reducible refine gate_load_ (t := 27) rfl ?_); refine ld_ (t := 27) Tryd.underlying27 rfl rfl rfl (qd_ BK109.out) rfl (by kernel_rfl) ?_) | ((with_reducible refine gate_load_ (t := 27) rfl ?_); refine ldgA_ (t := 27) Tryd.underlying27 rfl (by rfl) rfl (qd_ BK109.out) rfl (by kernel_rfl) ?_) | ((with_reducible refine gate_callee (f := 76) rfl ?_); refine goesL_ (some 87) rfl rfl Tryd.func76 (by kernel_rfl) rfl #[.int .i64 a0_5] rfl ql_ ?_; (with_reducible refine (loan_amount.calls a0_5 true _ A36.out).mono ?_); rintro e w' ⟨rfl, ⟨nd, rfl⟩⟩; refine ⟨_, rfl, ?_⟩) | ((with_reducible refine gate_callee (f := 76) rfl ?_); refine goesL_ (some 87) rfl rfl Tryd.func76 (by kernel_rfl) rfl #[.int .i64 a0_6] rfl ql_ ?_; (with_reducible refine (loan_amount.calls a0_6 true _ A38.out).mono ?_); rintro e w' ⟨rfl, ⟨nd, rfl⟩⟩; refine ⟨_, rfl, ?_⟩) | ((with_reducible refine gate_callee (f := 76) rfl ?_); refine goesL_ (some 87) rfl rfl Tryd.func76 (by kernel_rfl) rfl #[.int .i64 a0_8] rfl ql_ ?_; (with_reducible refine (loan_amount.calls a0_8 true _ A40.out).mono ?_); rintro e w' ⟨rfl, ⟨nd, rfl⟩⟩; refine ⟨_, rfl, ?_⟩) | ((with_reducible refine gate_callee (f := 76) rfl ?_); refine goesL_ (some 87) rfl rfl Tryd.func76 (by kernel_rfl) rfl #[.int .i64 a0_9] rfl ql_ ?_; (with_reducible refine (loan_amount.calls a0_9 false _ A42.out).mono ?_); rintro e w' ⟨rfl, ⟨nd, rfl⟩⟩; refine ⟨_, rfl, ?_⟩))
                 rw [rounds_succ]
                 go_wp2_with (first | ((with_reducible refine gate_load_ (t := 27) rfl ?_); refine ld_ (t := 27) Tryd.underlying27 rfl rfl rfl (qd_ BK109.out) rfl (by kernel_rfl) ?_) | ((with_reducible refine gate_load_ (t := 27) rfl ?_); refine ldgA_ (t := 27) Tryd.underlying27 rfl (by rfl) rfl (qd_ BK109.out) rfl (by kernel_rfl) ?_) | ((with_reducible refine gate_callee (f := 76) rfl ?_); refine goesL_ (some 87) rfl rfl Tryd.func76 (by kernel_rfl) rfl #[.int .i64 a0_5] rfl ql_ ?_; (with_reducible refine (loan_amount.calls a0_5 true _ A36.out).mono ?_); rintro e w' ⟨rfl, ⟨nd, rfl⟩⟩; refine ⟨_, rfl, ?_⟩) | ((with_reducible refine gate_callee (f := 76) rfl ?_); refine goesL_ (some 87) rfl rfl Tryd.func76 (by kernel_rfl) rfl #[.int .i64 a0_6] rfl ql_ ?_; (with_reducible refine (loan_amount.calls a0_6 true _ A38.out).mono ?_); rintro e w' ⟨rfl, ⟨nd, rfl⟩⟩; refine ⟨_, rfl, ?_⟩) | ((with_reducible refine gate_callee (f := 76) rfl ?_); refine goesL_ (some 87) rfl rfl Tryd.func76 (by kernel_rfl) rfl #[.int .i64 a0_8] rfl ql_ ?_; (with_reducible refine (loan_amount.calls a0_8 true _ A40.out).mono ?_); rintro e w' ⟨rfl, ⟨nd, rfl⟩⟩; refine ⟨_, rfl, ?_⟩) | ((with_reducible refine gate_callee (f := 76) rfl ?_); refine goesL_ (some 87) rfl rfl Tryd.func76 (by kernel_rfl) rfl #[.int .i64 a0_9] rfl ql_ ?_; (with_reducible refine (loan_amount.calls a0_9 false _ A42.out).mono ?_); rintro e w' ⟨rfl, ⟨nd, rfl⟩⟩; refine ⟨_, rfl, ?_⟩))
                 go_ret
                 exact ⟨qe_, qb1_ GE109.out HB.out⟩
               ·replace c41 := Bool.eq_false_iff.mpr c41
                subst c41
                rw [if_neg (show ¬ (false = true) by decide)] at H
                obtain rfl := Option.some.inj H
                obtain ⟨Z48_0, Z48_1, Z48_2, Z48_3, Z48_4, Z48_5, Z48_6, Z48_7, Z48_8, Z48_9, Z48_10, Z48_11, Z48_12, Z48_13, Z48_14, Z48_15, Z48_16, Z48_17, Z48_18, Z48_19, Z48_20, Z48_21, Z48_22, Z48_23, Z48_24, Y48_0, Y48_1, Y48_2, Y48_3, Y48_4, Y48_5, Y48_6, Y48_7, Y48_8, Y48_9, Y48_10, Y48_11, Y48_12, Y48_13, Y48_14, Y48_15, Y48_16, Y48_17, Y48_18, Y48_19, Y48_20, Y48_21, Y48_22, Y48_23, Y48_24⟩ := cz25_ BK109.out
                have ix0 : ∀ w, (Instr.index 85 (.agg #[.int .i64 a0_5, .int .i64 a0_6, .int .i64 a0_8, .int .i64 a0_9]) (.int .i64 0)).run Tryd.prog w = .ok (.int .i64 a0_5) w := fun _ => by kernel_rfl
                have ix1 : ∀ w, (Instr.index 85 (.agg #[.int .i64 a0_5, .int .i64 a0_6, .int .i64 a0_8, .int .i64 a0_9]) (.int .i64 1)).run Tryd.prog w = .ok (.int .i64 a0_6) w := fun _ => by kernel_rfl
                have ix2 : ∀ w, (Instr.index 85 (.agg #[.int .i64 a0_5, .int .i64 a0_6, .int .i64 a0_8, .int .i64 a0_9]) (.int .i64 2)).run Tryd.prog w = .ok (.int .i64 a0_8) w := fun _ => by kernel_rfl
                have ix3 : ∀ w, (Instr.index 85 (.agg #[.int .i64 a0_5, .int .i64 a0_6, .int .i64 a0_8, .int .i64 a0_9]) (.int .i64 3)).run Tryd.prog w = .ok (.int .i64 a0_9) w := fun _ => by kernel_rfl
                go_wp2_with (first | ((with_reducible refine gate_load_ (t := 27) rfl ?_); refine ld_ (t := 27) Tryd.underlying27 rfl rfl rfl (qd_ BK109.out) rfl (by kernel_rfl) ?_) | ((with_reducible refine gate_load_ (t := 27) rfl ?_); refine ldgA_ (t := 27) Tryd.underlying27 rfl (by rfl) rfl (qd_ BK109.out) rfl (by kernel_rfl) ?_) | ((with_reducible refine gate_callee (f := 76) rfl ?_); refine goesL_ (some 87) rfl rfl Tryd.func76 (by kernel_rfl) rfl #[.int .i64 a0_5] rfl ql_ ?_; (with_reducible refine (loan_amount.calls a0_5 true _ A36.out).mono ?_); rintro e w' ⟨rfl, ⟨nd, rfl⟩⟩; refine ⟨_, rfl, ?_⟩) | ((with_reducible refine gate_callee (f := 76) rfl ?_); refine goesL_ (some 87) rfl rfl Tryd.func76 (by kernel_rfl) rfl #[.int .i64 a0_6] rfl ql_ ?_; (with_reducible refine (loan_amount.calls a0_6 true _ A38.out).mono ?_); rintro e w' ⟨rfl, ⟨nd, rfl⟩⟩; refine ⟨_, rfl, ?_⟩) | ((with_reducible refine gate_callee (f := 76) rfl ?_); refine goesL_ (some 87) rfl rfl Tryd.func76 (by kernel_rfl) rfl #[.int .i64 a0_8] rfl ql_ ?_; (with_reducible refine (loan_amount.calls a0_8 false _ A40.out).mono ?_); rintro e w' ⟨rfl, ⟨nd, rfl⟩⟩; refine ⟨_, rfl, ?_⟩))
                refine wp_loop_rounds (0 + 1 + 1 + 1 + 1 + 1) ?_
                rw [rounds_succ]
                go_wp2_with (first | ((with_reducible refine gate_load_ (t := 27) rfl ?_); refine ld_ (t := 27) Tryd.underlying27 rfl rfl rfl (qd_ BK109.out) rfl (by kernel_rfl) ?_) | ((with_reducible refine gate_load_ (t := 27) rfl ?_); refine ldgA_ (t := 27) Tryd.underlying27 rfl (by rfl) rfl (qd_ BK109.out) rfl (by kernel_rfl) ?_) | ((with_reducible refine gate_callee (f := 76) rfl ?_); refine goesL_ (some 87) rfl rfl Tryd.func76 (by kernel_rfl) rfl #[.int .i64 a0_5] rfl ql_ ?_; (with_reducible refine (loan_amount.calls a0_5 true _ A36.out).mono ?_); rintro e w' ⟨rfl, ⟨nd, rfl⟩⟩; refine ⟨_, rfl, ?_⟩) | ((with_reducible refine gate_callee (f := 76) rfl ?_); refine goesL_ (some 87) rfl rfl Tryd.func76 (by kernel_rfl) rfl #[.int .i64 a0_6] rfl ql_ ?_; (with_reducible refine (loan_amount.calls a0_6 true _ A38.out).mono ?_); rintro e w' ⟨rfl, ⟨nd, rfl⟩⟩; refine ⟨_, rfl, ?_⟩) | ((with_reducible refine gate_callee (f := 76) rfl ?_); refine goesL_ (some 87) rfl rfl Tryd.func76 (by kernel_rfl) rfl #[.int .i64 a0_8] rfl ql_ ?_; (with_reducible refine (loan_amount.calls a0_8 false _ A40.out).mono ?_); rintro e w' ⟨rfl, ⟨nd, rfl⟩⟩; refine ⟨_, rfl, ?_⟩))
                rw [rounds_succ]
                go_wp2_with (first | ((with_reducible refine gate_load_ (t := 27) rfl ?_); refine ld_ (t := 27) Tryd.underlying27 rfl rfl rfl (qd_ BK109.out) rfl (by kernel_rfl) ?_) | ((with_reducible refine gate_load_ (t := 27) rfl ?_); refine ldgA_ (t := 27) Tryd.underlying27 rfl (by rfl) rfl (qd_ BK109.out) rfl (by kernel_rfl) ?_) | ((with_reducible refine gate_callee (f := 76) rfl ?_); refine goesL_ (some 87) rfl rfl Tryd.func76 (by kernel_rfl) rfl #[.int .i64 a0_5] rfl ql_ ?_; (with_reducible refine (loan_amount.calls a0_5 true _ A36.out).mono ?_); rintro e w' ⟨rfl, ⟨nd, rfl⟩⟩; refine ⟨_, rfl, ?_⟩) | ((with_reducible refine gate_callee (f := 76) rfl ?_); refine goesL_ (some 87) rfl rfl Tryd.func76 (by kernel_rfl) rfl #[.int .i64 a0_6] rfl ql_ ?_; (with_reducible refine (loan_amount.calls a0_6 true _ A38.out).mono ?_); rintro e w' ⟨rfl, ⟨nd, rfl⟩⟩; refine ⟨_, rfl, ?_⟩) | ((with_reducible refine gate_callee (f := 76) rfl ?_); refine goesL_ (some 87) rfl rfl Tryd.func76 (by kernel_rfl) rfl #[.int .i64 a0_8] rfl ql_ ?_; (with_reducible refine (loan_amount.calls a0_8 false _ A40.out).mono ?_); rintro e w' ⟨rfl, ⟨nd, rfl⟩⟩; refine ⟨_, rfl, ?_⟩))
                rw [rounds_succ]
                go_wp2_with (first | ((with_reducible refine gate_load_ (t := 27) rfl ?_); refine ld_ (t := 27) Tryd.underlying27 rfl rfl rfl (qd_ BK109.out) rfl (by kernel_rfl) ?_) | ((with_reducible refine gate_load_ (t := 27) rfl ?_); refine ldgA_ (t := 27) Tryd.underlying27 rfl (by rfl) rfl (qd_ BK109.out) rfl (by kernel_rfl) ?_) | ((with_reducible refine gate_callee (f := 76) rfl ?_); refine goesL_ (some 87) rfl rfl Tryd.func76 (by kernel_rfl) rfl #[.int .i64 a0_5] rfl ql_ ?_; (with_reducible refine (loan_amount.calls a0_5 true _ A36.out).mono ?_); rintro e w' ⟨rfl, ⟨nd, rfl⟩⟩; refine ⟨_, rfl, ?_⟩) | ((with_reducible refine gate_callee (f := 76) rfl ?_); refine goesL_ (some 87) rfl rfl Tryd.func76 (by kernel_rfl) rfl #[.int .i64 a0_6] rfl ql_ ?_; (with_reducible refine (loan_amount.calls a0_6 true _ A38.out).mono ?_); rintro e w' ⟨rfl, ⟨nd, rfl⟩⟩; refine ⟨_, rfl, ?_⟩) | ((with_reducible refine gate_callee (f := 76) rfl ?_); refine goesL_ (some 87) rfl rfl Tryd.func76 (by kernel_rfl) rfl #[.int .i64 a0_8] rfl ql_ ?_; (with_reducible refine (loan_amount.calls a0_8 false _ A40.out).mono ?_); rintro e w' ⟨rfl, ⟨nd, rfl⟩⟩; refine ⟨_, rfl, ?_⟩))
                go_ret
                exact ⟨qe_, qb1_ GE109.out HB.out⟩
              ·replace c39 := Bool.eq_false_iff.mpr c39
               subst c39
               rw [if_neg (show ¬ (false = true) by decide)] at H
               obtain rfl := Option.some.inj H
               obtain ⟨Z49_0, Z49_1, Z49_2, Z49_3, Z49_4, Z49_5, Z49_6, Z49_7, Z49_8, Z49_9, Z49_10, Z49_11, Z49_12, Z49_13, Z49_14, Z49_15, Z49_16, Z49_17, Z49_18, Z49_19, Z49_20, Z49_21, Z49_22, Z49_23, Z49_24, Y49_0, Y49_1, Y49_2, Y49_3, Y49_4, Y49_5, Y49_6, Y49_7, Y49_8, Y49_9, Y49_10, Y49_11, Y49_12, Y49_13, Y49_14, Y49_15, Y49_16, Y49_17, Y49_18, Y49_19, Y49_20, Y49_21, Y49_22, Y49_23, Y49_24⟩ := cz25_ BK109.out
               have ix0 : ∀ w, (Instr.index 85 (.agg #[.int .i64 a0_5, .int .i64 a0_6, .int .i64 a0_8, .int .i64 a0_9]) (.int .i64 0)).run Tryd.prog w = .ok (.int .i64 a0_5) w := fun _ => by kernel_rfl
               have ix1 : ∀ w, (Instr.index 85 (.agg #[.int .i64 a0_5, .int .i64 a0_6, .int .i64 a0_8, .int .i64 a0_9]) (.int .i64 1)).run Tryd.prog w = .ok (.int .i64 a0_6) w := fun _ => by kernel_rfl
               have ix2 : ∀ w, (Instr.index 85 (.agg #[.int .i64 a0_5, .int .i64 a0_6, .int .i64 a0_8, .int .i64 a0_9]) (.int .i64 2)).run Tryd.prog w = .ok (.int .i64 a0_8) w := fun _ => by kernel_rfl
               have ix3 : ∀ w, (Instr.index 85 (.agg #[.int .i64 a0_5, .int .i64 a0_6, .int .i64 a0_8, .int .i64 a0_9]) (.int .i64 3)).run Tryd.prog w = .ok (.int .i64 a0_9) w := fun _ => by kernel_rfl
               go_wp2_with (first | ((with_reducible refine gate_load_ (t := 27) rfl ?_); refine ld_ (t := 27) Tryd.underlying27 rfl rfl rfl (qd_ BK109.out) rfl (by kernel_rfl) ?_) | ((with_reducible refine gate_load_ (t := 27) rfl ?_); refine ldgA_ (t := 27) Tryd.underlying27 rfl (by rfl) rfl (qd_ BK109.out) rfl (by kernel_rfl) ?_) | ((with_reducible refine gate_callee (f := 76) rfl ?_); refine goesL_ (some 87) rfl rfl Tryd.func76 (by kernel_rfl) rfl #[.int .i64 a0_5] rfl ql_ ?_; (with_reducible refine (loan_amount.calls a0_5 true _ A36.out).mono ?_); rintro e w' ⟨rfl, ⟨nd, rfl⟩⟩; refine ⟨_, rfl, ?_⟩) | ((with_reducible refine gate_callee (f := 76) rfl ?_); refine goesL_ (some 87) rfl rfl Tryd.func76 (by kernel_rfl) rfl #[.int .i64 a0_6] rfl ql_ ?_; (with_reducible refine (loan_amount.calls a0_6 false _ A38.out).mono ?_); rintro e w' ⟨rfl, ⟨nd, rfl⟩⟩; refine ⟨_, rfl, ?_⟩))
               refine wp_loop_rounds (0 + 1 + 1 + 1 + 1 + 1) ?_
               rw [rounds_succ]
               go_wp2_with (first | ((with_reducible refine gate_load_ (t := 27) rfl ?_); refine ld_ (t := 27) Tryd.underlying27 rfl rfl rfl (qd_ BK109.out) rfl (by kernel_rfl) ?_) | ((with_reducible refine gate_load_ (t := 27) rfl ?_); refine ldgA_ (t := 27) Tryd.underlying27 rfl (by rfl) rfl (qd_ BK109.out) rfl (by kernel_rfl) ?_) | ((with_reducible refine gate_callee (f := 76) rfl ?_); refine goesL_ (some 87) rfl rfl Tryd.func76 (by kernel_rfl) rfl #[.int .i64 a0_5] rfl ql_ ?_; (with_reducible refine (loan_amount.calls a0_5 true _ A36.out).mono ?_); rintro e w' ⟨rfl, ⟨nd, rfl⟩⟩; refine ⟨_, rfl, ?_⟩) | ((with_reducible refine gate_callee (f := 76) rfl ?_); refine goesL_ (some 87) rfl rfl Tryd.func76 (by kernel_rfl) rfl #[.int .i64 a0_6] rfl ql_ ?_; (with_reducible refine (loan_amount.calls a0_6 false _ A38.out).mono ?_); rintro e w' ⟨rfl, ⟨nd, rfl⟩⟩; refine ⟨_, rfl, ?_⟩))
               rw [rounds_succ]
               go_wp2_with (first | ((with_reducible refine gate_load_ (t := 27) rfl ?_); refine ld_ (t := 27) Tryd.underlying27 rfl rfl rfl (qd_ BK109.out) rfl (by kernel_rfl) ?_) | ((with_reducible refine gate_load_ (t := 27) rfl ?_); refine ldgA_ (t := 27) Tryd.underlying27 rfl (by rfl) rfl (qd_ BK109.out) rfl (by kernel_rfl) ?_) | ((with_reducible refine gate_callee (f := 76) rfl ?_); refine goesL_ (some 87) rfl rfl Tryd.func76 (by kernel_rfl) rfl #[.int .i64 a0_5] rfl ql_ ?_; (with_reducible refine (loan_amount.calls a0_5 true _ A36.out).mono ?_); rintro e w' ⟨rfl, ⟨nd, rfl⟩⟩; refine ⟨_, rfl, ?_⟩) | ((with_reducible refine gate_callee (f := 76) rfl ?_); refine goesL_ (some 87) rfl rfl Tryd.func76 (by kernel_rfl) rfl #[.int .i64 a0_6] rfl ql_ ?_; (with_reducible refine (loan_amount.calls a0_6 false _ A38.out).mono ?_); rintro e w' ⟨rfl, ⟨nd, rfl⟩⟩; refine ⟨_, rfl, ?_⟩))
               go_ret
               exact ⟨qe_, qb1_ GE109.out HB.out⟩
             ·replace c37 := Bool.eq_false_iff.mpr c37
              subst c37
              rw [if_neg (show ¬ (false = true) by decide)] at H
              obtain rfl := Option.some.inj H
              obtain ⟨Z50_0, Z50_1, Z50_2, Z50_3, Z50_4, Z50_5, Z50_6, Z50_7, Z50_8, Z50_9, Z50_10, Z50_11, Z50_12, Z50_13, Z50_14, Z50_15, Z50_16, Z50_17, Z50_18, Z50_19, Z50_20, Z50_21, Z50_22, Z50_23, Z50_24, Y50_0, Y50_1, Y50_2, Y50_3, Y50_4, Y50_5, Y50_6, Y50_7, Y50_8, Y50_9, Y50_10, Y50_11, Y50_12, Y50_13, Y50_14, Y50_15, Y50_16, Y50_17, Y50_18, Y50_19, Y50_20, Y50_21, Y50_22, Y50_23, Y50_24⟩ := cz25_ BK109.out
              have ix0 : ∀ w, (Instr.index 85 (.agg #[.int .i64 a0_5, .int .i64 a0_6, .int .i64 a0_8, .int .i64 a0_9]) (.int .i64 0)).run Tryd.prog w = .ok (.int .i64 a0_5) w := fun _ => by kernel_rfl
              have ix1 : ∀ w, (Instr.index 85 (.agg #[.int .i64 a0_5, .int .i64 a0_6, .int .i64 a0_8, .int .i64 a0_9]) (.int .i64 1)).run Tryd.prog w = .ok (.int .i64 a0_6) w := fun _ => by kernel_rfl
              have ix2 : ∀ w, (Instr.index 85 (.agg #[.int .i64 a0_5, .int .i64 a0_6, .int .i64 a0_8, .int .i64 a0_9]) (.int .i64 2)).run Tryd.prog w = .ok (.int .i64 a0_8) w := fun _ => by kernel_rfl
              have ix3 : ∀ w, (Instr.index 85 (.agg #[.int .i64 a0_5, .int .i64 a0_6, .int .i64 a0_8, .int .i64 a0_9]) (.int .i64 3)).run Tryd.prog w = .ok (.int .i64 a0_9) w := fun _ => by kernel_rfl
              go_wp2_with (first | ((with_reducible refine gate_load_ (t := 27) rfl ?_); refine ld_ (t := 27) Tryd.underlying27 rfl rfl rfl (qd_ BK109.out) rfl (by kernel_rfl) ?_) | ((with_reducible refine gate_load_ (t := 27) rfl ?_); refine ldgA_ (t := 27) Tryd.underlying27 rfl (by rfl) rfl (qd_ BK109.out) rfl (by kernel_rfl) ?_) | ((with_reducible refine gate_callee (f := 76) rfl ?_); refine goesL_ (some 87) rfl rfl Tryd.func76 (by kernel_rfl) rfl #[.int .i64 a0_5] rfl ql_ ?_; (with_reducible refine (loan_amount.calls a0_5 false _ A36.out).mono ?_); rintro e w' ⟨rfl, ⟨nd, rfl⟩⟩; refine ⟨_, rfl, ?_⟩))
              refine wp_loop_rounds (0 + 1 + 1 + 1 + 1 + 1) ?_
              rw [rounds_succ]
              go_wp2_with (first | ((with_reducible refine gate_load_ (t := 27) rfl ?_); refine ld_ (t := 27) Tryd.underlying27 rfl rfl rfl (qd_ BK109.out) rfl (by kernel_rfl) ?_) | ((with_reducible refine gate_load_ (t := 27) rfl ?_); refine ldgA_ (t := 27) Tryd.underlying27 rfl (by rfl) rfl (qd_ BK109.out) rfl (by kernel_rfl) ?_) | ((with_reducible refine gate_callee (f := 76) rfl ?_); refine goesL_ (some 87) rfl rfl Tryd.func76 (by kernel_rfl) rfl #[.int .i64 a0_5] rfl ql_ ?_; (with_reducible refine (loan_amount.calls a0_5 false _ A36.out).mono ?_); rintro e w' ⟨rfl, ⟨nd, rfl⟩⟩; refine ⟨_, rfl, ?_⟩))
              go_ret
              exact ⟨qe_, qb1_ GE109.out HB.out⟩
mutual
def loan_ordered.l0 : Nat → List (S67) → List (S67) → Int → Int → Option (Bool)
 | 0, _, _, _, _ => none
 | k + 1, x0, x5, x6, x7 => if x7 < x6 then (if 0 ≤ x7 then (if x7 < (x5.length : Int) then (if ((rd_T67 x5 x7).f0) = (wrap64 (x7 + 1)) then (if x7 > 0 then (if 0 ≤ (wrap64 (x7 - 1)) then (if (wrap64 (x7 - 1)) < (x0.length : Int) then (loan_ordered.j1 k x0 x5 x6 x7 (decide (((rd_T67 x5 x7).f1) < ((rd_T67 x0 (wrap64 (x7 - 1))).f1)))) else (none)) else (none)) else (loan_ordered.j1 k x0 x5 x6 x7 false)) else (loan_ordered.j1 k x0 x5 x6 x7 true)) else (none)) else (none)) else (some true)
def loan_ordered.j1 : Nat → List (S67) → List (S67) → Int → Int → Bool → Option (Bool)
 | 0, _, _, _, _, _ => none
 | k + 1, x0, x5, x6, x7, x31 => if x31 = true then (some false) else (loan_ordered.l0 k x0 x5 x6 (wrap64 (x7 + 1)))
end
def loan_ordered.f (k : Nat) (l0 : List (S67)) : Option (Bool) := loan_ordered.l0 k l0 l0 (l0.length : Int) 0
theorem loan_ordered.mono_l : ∀ k, (∀ y0 y1 y2 y3, LeO (loan_ordered.l0 k y0 y1 y2 y3) (loan_ordered.l0 (k + 1) y0 y1 y2 y3)) ∧ (∀ y0 y1 y2 y3 y4, LeO (loan_ordered.j1 k y0 y1 y2 y3 y4) (loan_ordered.j1 (k + 1) y0 y1 y2 y3 y4))
 | 0 => ⟨fun _ _ _ _ r h => by simp [loan_ordered.l0] at h, fun _ _ _ _ _ r h => by simp [loan_ordered.j1] at h⟩
 | k + 1 => by
  obtain ⟨ih0, ih1⟩ := loan_ordered.mono_l k
  refine ⟨?_, ?_⟩
  ·intro y0 y1 y2 y3
   unfold loan_ordered.l0
   repeat' first
   | (with_reducible apply ih0)
   | (with_reducible apply ih1)
   | (with_reducible exact LeO.refl _)
   | (with_reducible exact LeO.none _)
   | (with_reducible refine LeO.ite ?_ ?_)
   | (with_reducible refine LeO.bind ?_ (fun _ => ?_))
   | apply ih0
   | apply ih1
   | exact LeO.none _
   | refine LeO.ite ?_ ?_
   | refine LeO.bind ?_ (fun _ => ?_)
  ·intro y0 y1 y2 y3 y4
   unfold loan_ordered.j1
   repeat' first
   | (with_reducible apply ih0)
   | (with_reducible apply ih1)
   | (with_reducible exact LeO.refl _)
   | (with_reducible exact LeO.none _)
   | (with_reducible refine LeO.ite ?_ ?_)
   | (with_reducible refine LeO.bind ?_ (fun _ => ?_))
   | apply ih0
   | apply ih1
   | exact LeO.none _
   | refine LeO.ite ?_ ?_
   | refine LeO.bind ?_ (fun _ => ?_)
theorem loan_ordered.mono : ∀ a0 k, LeO (loan_ordered.f k a0) (loan_ordered.f (k + 1) a0) := by
 intro a0 k
 obtain ⟨ih0, ih1⟩ := loan_ordered.mono_l k
 unfold loan_ordered.f
 repeat' first
   | (with_reducible apply ih0)
   | (with_reducible apply ih1)
   | (with_reducible exact LeO.refl _)
   | (with_reducible exact LeO.none _)
   | (with_reducible refine LeO.ite ?_ ?_)
   | (with_reducible refine LeO.bind ?_ (fun _ => ?_))
   | apply ih0
   | apply ih1
   | exact LeO.none _
   | refine LeO.ite ?_ ?_
   | refine LeO.bind ?_ (fun _ => ?_)
set_option maxHeartbeats 8000000 in
set_option maxRecDepth 100000 in
theorem loan_ordered.calls (k : Nat) (A0 : Option Addr) (c0 : Nat) (l0 : List (S67)) (r : Bool) (w : World) (hr0 : Kd.C k67 w A0 l0.length l0) (hc0 : l0.length ≤ c0) (h : loan_ordered.f k l0 = some r) :
  Calls Tryd.prog 39 #[.slice A0 l0.length c0] w fun e w' => e = .returned (.bool r) ∧ Below w.heap.size w w' := by
 have hu67 := Tryd.underlying67
 have HR0 := am_ hr0
 have HC0 := am_ hc0
 clear hr0 hc0
 have HB := am_ (Below.refl w.heap.size w)
 have H := h
 clear h
 unfold loan_ordered.f at H
 have H' := am_ H
 clear H
 go_enter Tryd.func39, Tryd.ntmps39
 go_wp2
 repeat (go_quiet (fail); try go_wp2)
 go_loopg [7] k (fun kq v7 w' => ∃ (x7_1 : Int), v7 = .int .i64 x7_1 ∧ Aside0 (loan_ordered.l0 kq l0 l0 (l0.length : Int) x7_1 = some r) ∧ Aside0 (kq ≤ k) ∧ Aside0 (Below w.heap.size w w'))
 case atStart => exact ⟨(0), qs_, H', ⟨Nat.le_refl _⟩, ⟨qb_ HB.out⟩⟩
 case round =>
  clear H'
  obtain ⟨x7_1, rfl, HA, HK1, HB⟩ := hrel
  cases gk with
  | zero => exact absurd HA.out (by simp [loan_ordered.l0])
  | succ k1 =>
   have H := HA.out
   clear HA
   simp only [loan_ordered.l0] at H
   by_cases c2 : x7_1 < (l0.length : Int)
   ·rw [if_pos c2] at H
    have c2b0 : decide (x7_1 < (l0.length : Int)) = true := decide_eq_true c2
    clear c2
    by_cases c3 : 0 ≤ x7_1
    ·rw [if_pos c3] at H
     have c3b0 : decide (0 ≤ x7_1) = true := decide_eq_true c3
     clear c3
     by_cases c4 : x7_1 < (l0.length : Int)
     ·rw [if_pos c4] at H
      have c4b0 : decide (x7_1 < (l0.length : Int)) = true := decide_eq_true c4
      clear c4
      have HC5 := am_ H
      clear H
      have p118 : 0 ≤ (x7_1 : Int) := of_decide_eq_true (by first | (with_reducible assumption) | assumption)
      have q118 : x7_1 < (l0.length : Int) := of_decide_eq_true (by first | (with_reducible assumption) | assumption)
      obtain ⟨ad118, e118, hx118_0, hx118_1, hx118_2, hx118_3⟩ := at_T67 HR0.out x7_1 p118 q118
      cases e118
      replace hx118_0 := bx_ HB.out hx118_0
      replace hx118_1 := bx_ HB.out hx118_1
      replace hx118_2 := bx_ HB.out hx118_2
      replace hx118_3 := bx_ HB.out hx118_3
      replace p118 := eq_true p118
      replace q118 := eq_true q118
      go_upto_region 4 with (first | ((with_reducible refine gate_dst (N := 4) rfl ?_); refine be_ (N := 4) (cs := #[.int .i64 0, .int .i64 0, .int .i64 0, .int .i64 0]) (t := 67) ?_; intro gb119 hg w6 hbox hb; have BK119 := am_ (hbox); have GW119 := am_ (bz_ hg (qb_ HB.out) : w.heap.size ≤ gb119); have GE119 := am_ (bz_ hg (qb_ HB.out) : w.heap.size ≤ gb119); replace HB := am_ (below_step (qb_ HB.out) hb); clear hb hbox hg; obtain ⟨Z7_0, Z7_1, Z7_2, Z7_3, Y7_0, Y7_1, Y7_2, Y7_3⟩ := cz4_ BK119.out))
      repeat (go_quiet (first | ((with_reducible refine gate_dst (N := 4) rfl ?_); refine be_ (N := 4) (cs := #[.int .i64 0, .int .i64 0, .int .i64 0, .int .i64 0]) (t := 67) ?_; intro gb119 hg w6 hbox hb; have BK119 := am_ (hbox); have GW119 := am_ (bz_ hg (qb_ HB.out) : w.heap.size ≤ gb119); have GE119 := am_ (bz_ hg (qb_ HB.out) : w.heap.size ≤ gb119); replace HB := am_ (below_step (qb_ HB.out) hb); clear hb hbox hg; obtain ⟨Z7_0, Z7_1, Z7_2, Z7_3, Y7_0, Y7_1, Y7_2, Y7_3⟩ := cz4_ BK119.out)); go_upto_region 4 with (first | ((with_reducible refine gate_dst (N := 4) rfl ?_); refine be_ (N := 4) (cs := #[.int .i64 0, .int .i64 0, .int .i64 0, .int .i64 0]) (t := 67) ?_; intro gb119 hg w6 hbox hb; have BK119 := am_ (hbox); have GW119 := am_ (bz_ hg (qb_ HB.out) : w.heap.size ≤ gb119); have GE119 := am_ (bz_ hg (qb_ HB.out) : w.heap.size ≤ gb119); replace HB := am_ (below_step (qb_ HB.out) hb); clear hb hbox hg; obtain ⟨Z7_0, Z7_1, Z7_2, Z7_3, Y7_0, Y7_1, Y7_2, Y7_3⟩ := cz4_ BK119.out)))
      (try simp only [Act.put, List.setIfInBounds_toArray, List.set_cons_zero, List.set_cons_succ])
      go_cut [31] (fun v31 wc => ∃ (kq : Nat) (x31_4 : Bool), v31 = .bool x31_4 ∧ Aside0 (loan_ordered.j1 kq l0 l0 (l0.length : Int) x7_1 x31_4 = some r) ∧ Aside0 (kq ≤ k1) ∧ Aside0 (wc.heap[gb119]? = some (.cells #[.int .i64 ((rd_T67 l0 x7_1).f0), .int .i64 ((rd_T67 l0 x7_1).f1), .int .i64 ((rd_T67 l0 x7_1).f2), .int .i64 ((rd_T67 l0 x7_1).f3)] 67 (0, 0))) ∧ Aside0 (Below w.heap.size w wc))
      case first =>
       have H := HC5.out
       clear HC5
       by_cases c8 : ((rd_T67 l0 x7_1).f0) = (wrap64 (x7_1 + 1))
       ·rw [if_pos c8] at H
        have c8b0 : (((rd_T67 l0 x7_1).f0) == (wrap64 (x7_1 + 1))) = true := beq_iff_eq.mpr c8
        have c8b1 : (((rd_T67 l0 x7_1).f0) != (wrap64 (x7_1 + 1))) = false := bne_eq_false_iff_eq.mpr c8
        clear c8
        (first | rw [c8b0] | (simp only [i64_w, i32_w]; rw [c8b0]) | skip)
        by_cases c9 : x7_1 > 0
        ·rw [if_pos c9] at H
         have c9b0 : decide (0 < x7_1) = true := decide_eq_true c9
         clear c9
         obtain ⟨ji10, hji10⟩ : ∃ j_ : Int, (wrap64 (x7_1 - 1)) = j_ := ⟨_, rfl⟩
         replace H : (if 0 ≤ (ji10) then (if (ji10) < (l0.length : Int) then (loan_ordered.j1 k1 l0 l0 (l0.length : Int) x7_1 (decide (((rd_T67 l0 x7_1).f1) < ((rd_T67 l0 (ji10)).f1)))) else (none)) else (none)) = some r := by first | (rw [hji10] at H; exact H) | (simp only [hji10] at H ⊢; exact H)
         have hji10w : (IntKind.i64.wrap (x7_1 - 1)) = ji10 := (i64_w _).trans hji10
         by_cases c11 : 0 ≤ (ji10)
         ·rw [if_pos c11] at H
          have c11b0 : decide (0 ≤ (ji10)) = true := decide_eq_true c11
          clear c11
          by_cases c12 : (ji10) < (l0.length : Int)
          ·rw [if_pos c12] at H
           have c12b0 : decide ((ji10) < (l0.length : Int)) = true := decide_eq_true c12
           clear c12
           have H' := am_ H
           clear H
           obtain ⟨Z13_0, Z13_1, Z13_2, Z13_3, Y13_0, Y13_1, Y13_2, Y13_3⟩ := cz4_ BK119.out
           have p120 : 0 ≤ ((ji10) : Int) := of_decide_eq_true (by first | (with_reducible assumption) | assumption)
           have q120 : (ji10) < (l0.length : Int) := of_decide_eq_true (by first | (with_reducible assumption) | assumption)
           obtain ⟨ad120, e120, hx120_0, hx120_1, hx120_2, hx120_3⟩ := at_T67 HR0.out (ji10) p120 q120
           obtain rfl : ad118 = ad120 := (by injection e120)
           have hn120_0 : ad118.block ≠ gb119 := Nat.ne_of_lt (Nat.lt_of_lt_of_le (by have := World.block_lt_of_cell? _ _ hx120_0; first | rwa [add_block] at this | exact this) GW119.out)
           have hn120_1 : ad118.block ≠ gb119 := Nat.ne_of_lt (Nat.lt_of_lt_of_le (by have := World.block_lt_of_cell? _ _ hx120_0; first | rwa [add_block] at this | exact this) GW119.out)
           have hn120_2 : ad118.block ≠ gb119 := Nat.ne_of_lt (Nat.lt_of_lt_of_le (by have := World.block_lt_of_cell? _ _ hx120_0; first | rwa [add_block] at this | exact this) GW119.out)
           have hn120_3 : ad118.block ≠ gb119 := Nat.ne_of_lt (Nat.lt_of_lt_of_le (by have := World.block_lt_of_cell? _ _ hx120_0; first | rwa [add_block] at this | exact this) GW119.out)
           replace hx120_0 := bx_ HB.out hx120_0
           replace hx120_1 := bx_ HB.out hx120_1
           replace hx120_2 := bx_ HB.out hx120_2
           replace hx120_3 := bx_ HB.out hx120_3
           replace hx120_0 := (cell_far (p := ⟨gb119, 0, none⟩) (by first | (rw [add_block]; exact hn120_0) | (show (Addr.add _ _).block ≠ _; rw [add_block]; exact hn120_0) | exact hn120_0) (.int .i64 ((rd_T67 l0 x7_1).f0))).trans hx120_0
           replace hx120_1 := (cell_far (p := ⟨gb119, 0, none⟩) (by first | (rw [add_block]; exact hn120_0) | (show (Addr.add _ _).block ≠ _; rw [add_block]; exact hn120_0) | exact hn120_0) (.int .i64 ((rd_T67 l0 x7_1).f0))).trans hx120_1
           replace hx120_2 := (cell_far (p := ⟨gb119, 0, none⟩) (by first | (rw [add_block]; exact hn120_0) | (show (Addr.add _ _).block ≠ _; rw [add_block]; exact hn120_0) | exact hn120_0) (.int .i64 ((rd_T67 l0 x7_1).f0))).trans hx120_2
           replace hx120_3 := (cell_far (p := ⟨gb119, 0, none⟩) (by first | (rw [add_block]; exact hn120_0) | (show (Addr.add _ _).block ≠ _; rw [add_block]; exact hn120_0) | exact hn120_0) (.int .i64 ((rd_T67 l0 x7_1).f0))).trans hx120_3
           replace hx120_0 := (cell_far (p := ⟨gb119, 1, none⟩) (by first | (rw [add_block]; exact hn120_1) | (show (Addr.add _ _).block ≠ _; rw [add_block]; exact hn120_1) | exact hn120_1) (.int .i64 ((rd_T67 l0 x7_1).f1))).trans hx120_0
           replace hx120_1 := (cell_far (p := ⟨gb119, 1, none⟩) (by first | (rw [add_block]; exact hn120_1) | (show (Addr.add _ _).block ≠ _; rw [add_block]; exact hn120_1) | exact hn120_1) (.int .i64 ((rd_T67 l0 x7_1).f1))).trans hx120_1
           replace hx120_2 := (cell_far (p := ⟨gb119, 1, none⟩) (by first | (rw [add_block]; exact hn120_1) | (show (Addr.add _ _).block ≠ _; rw [add_block]; exact hn120_1) | exact hn120_1) (.int .i64 ((rd_T67 l0 x7_1).f1))).trans hx120_2
           replace hx120_3 := (cell_far (p := ⟨gb119, 1, none⟩) (by first | (rw [add_block]; exact hn120_1) | (show (Addr.add _ _).block ≠ _; rw [add_block]; exact hn120_1) | exact hn120_1) (.int .i64 ((rd_T67 l0 x7_1).f1))).trans hx120_3
           replace hx120_0 := (cell_far (p := ⟨gb119, 2, none⟩) (by first | (rw [add_block]; exact hn120_2) | (show (Addr.add _ _).block ≠ _; rw [add_block]; exact hn120_2) | exact hn120_2) (.int .i64 ((rd_T67 l0 x7_1).f2))).trans hx120_0
           replace hx120_1 := (cell_far (p := ⟨gb119, 2, none⟩) (by first | (rw [add_block]; exact hn120_2) | (show (Addr.add _ _).block ≠ _; rw [add_block]; exact hn120_2) | exact hn120_2) (.int .i64 ((rd_T67 l0 x7_1).f2))).trans hx120_1
           replace hx120_2 := (cell_far (p := ⟨gb119, 2, none⟩) (by first | (rw [add_block]; exact hn120_2) | (show (Addr.add _ _).block ≠ _; rw [add_block]; exact hn120_2) | exact hn120_2) (.int .i64 ((rd_T67 l0 x7_1).f2))).trans hx120_2
           replace hx120_3 := (cell_far (p := ⟨gb119, 2, none⟩) (by first | (rw [add_block]; exact hn120_2) | (show (Addr.add _ _).block ≠ _; rw [add_block]; exact hn120_2) | exact hn120_2) (.int .i64 ((rd_T67 l0 x7_1).f2))).trans hx120_3
           replace hx120_0 := (cell_far (p := ⟨gb119, 3, none⟩) (by first | (rw [add_block]; exact hn120_3) | (show (Addr.add _ _).block ≠ _; rw [add_block]; exact hn120_3) | exact hn120_3) (.int .i64 ((rd_T67 l0 x7_1).f3))).trans hx120_0
           replace hx120_1 := (cell_far (p := ⟨gb119, 3, none⟩) (by first | (rw [add_block]; exact hn120_3) | (show (Addr.add _ _).block ≠ _; rw [add_block]; exact hn120_3) | exact hn120_3) (.int .i64 ((rd_T67 l0 x7_1).f3))).trans hx120_1
           replace hx120_2 := (cell_far (p := ⟨gb119, 3, none⟩) (by first | (rw [add_block]; exact hn120_3) | (show (Addr.add _ _).block ≠ _; rw [add_block]; exact hn120_3) | exact hn120_3) (.int .i64 ((rd_T67 l0 x7_1).f3))).trans hx120_2
           replace hx120_3 := (cell_far (p := ⟨gb119, 3, none⟩) (by first | (rw [add_block]; exact hn120_3) | (show (Addr.add _ _).block ≠ _; rw [add_block]; exact hn120_3) | exact hn120_3) (.int .i64 ((rd_T67 l0 x7_1).f3))).trans hx120_3
           (try have hy120_0 := fun (n_ : Nat) => (show ((((((w6.drewN n_).setCell ⟨gb119, 0, none⟩ (.int .i64 ((rd_T67 l0 x7_1).f0))).setCell ⟨gb119, 1, none⟩ (.int .i64 ((rd_T67 l0 x7_1).f1))).setCell ⟨gb119, 2, none⟩ (.int .i64 ((rd_T67 l0 x7_1).f2))).setCell ⟨gb119, 3, none⟩ (.int .i64 ((rd_T67 l0 x7_1).f3)))).cell? _ = some _ from hx120_0))
           (try have hy120_1 := fun (n_ : Nat) => (show ((((((w6.drewN n_).setCell ⟨gb119, 0, none⟩ (.int .i64 ((rd_T67 l0 x7_1).f0))).setCell ⟨gb119, 1, none⟩ (.int .i64 ((rd_T67 l0 x7_1).f1))).setCell ⟨gb119, 2, none⟩ (.int .i64 ((rd_T67 l0 x7_1).f2))).setCell ⟨gb119, 3, none⟩ (.int .i64 ((rd_T67 l0 x7_1).f3)))).cell? _ = some _ from hx120_1))
           (try have hy120_2 := fun (n_ : Nat) => (show ((((((w6.drewN n_).setCell ⟨gb119, 0, none⟩ (.int .i64 ((rd_T67 l0 x7_1).f0))).setCell ⟨gb119, 1, none⟩ (.int .i64 ((rd_T67 l0 x7_1).f1))).setCell ⟨gb119, 2, none⟩ (.int .i64 ((rd_T67 l0 x7_1).f2))).setCell ⟨gb119, 3, none⟩ (.int .i64 ((rd_T67 l0 x7_1).f3)))).cell? _ = some _ from hx120_2))
           (try have hy120_3 := fun (n_ : Nat) => (show ((((((w6.drewN n_).setCell ⟨gb119, 0, none⟩ (.int .i64 ((rd_T67 l0 x7_1).f0))).setCell ⟨gb119, 1, none⟩ (.int .i64 ((rd_T67 l0 x7_1).f1))).setCell ⟨gb119, 2, none⟩ (.int .i64 ((rd_T67 l0 x7_1).f2))).setCell ⟨gb119, 3, none⟩ (.int .i64 ((rd_T67 l0 x7_1).f3)))).cell? _ = some _ from hx120_3))
           clear hn120_0
           clear hn120_1
           clear hn120_2
           clear hn120_3
           replace p120 := eq_true p120
           replace q120 := eq_true q120
           go_wp2
           repeat (go_quiet (fail); try go_wp2)
           go_meet
           case rel => exact ⟨_, (decide (((rd_T67 l0 x7_1).f1) < ((rd_T67 l0 (ji10)).f1))), (by first | rfl | (simp; done) | (simp only [← hji10] <;> (first | rfl | simp)) | (simp [*]; done)), H', ⟨by have := HK1.out; first | omega | exact Nat.le_refl _⟩, ⟨by (with_reducible repeat (first | refine blk_drewN ?_ _ | refine blk_drew ?_ | refine blk_alloc ?_ _)); refine blk_put (cs := #[.int .i64 ((rd_T67 l0 x7_1).f0), .int .i64 ((rd_T67 l0 x7_1).f1), .int .i64 ((rd_T67 l0 x7_1).f2), .int .i64 0]) ?_ 3 _ rfl; (with_reducible repeat (first | refine blk_drewN ?_ _ | refine blk_drew ?_ | refine blk_alloc ?_ _)); refine blk_put (cs := #[.int .i64 ((rd_T67 l0 x7_1).f0), .int .i64 ((rd_T67 l0 x7_1).f1), .int .i64 0, .int .i64 0]) ?_ 2 _ rfl; (with_reducible repeat (first | refine blk_drewN ?_ _ | refine blk_drew ?_ | refine blk_alloc ?_ _)); refine blk_put (cs := #[.int .i64 ((rd_T67 l0 x7_1).f0), .int .i64 0, .int .i64 0, .int .i64 0]) ?_ 1 _ rfl; (with_reducible repeat (first | refine blk_drewN ?_ _ | refine blk_drew ?_ | refine blk_alloc ?_ _)); refine blk_put (cs := #[.int .i64 0, .int .i64 0, .int .i64 0, .int .i64 0]) ?_ 0 _ rfl; (with_reducible repeat (first | refine blk_drewN ?_ _ | refine blk_drew ?_ | refine blk_alloc ?_ _)); exact BK119.out⟩, ⟨qb1_ GE119.out HB.out⟩⟩
          ·rw [if_neg c12] at H
           exact absurd H (by simp)
         ·rw [if_neg c11] at H
          exact absurd H (by simp)
        ·rw [if_neg c9] at H
         have c9b0 : decide (0 < x7_1) = false := decide_eq_false c9
         clear c9
         have H' := am_ H
         clear H
         obtain ⟨Z14_0, Z14_1, Z14_2, Z14_3, Y14_0, Y14_1, Y14_2, Y14_3⟩ := cz4_ BK119.out
         go_wp2
         repeat (go_quiet (fail); try go_wp2)
         go_meet
         case rel => exact ⟨_, (false), qs_, H', ⟨by have := HK1.out; first | omega | exact Nat.le_refl _⟩, ⟨by (with_reducible repeat (first | refine blk_drewN ?_ _ | refine blk_drew ?_ | refine blk_alloc ?_ _)); refine blk_put (cs := #[.int .i64 ((rd_T67 l0 x7_1).f0), .int .i64 ((rd_T67 l0 x7_1).f1), .int .i64 ((rd_T67 l0 x7_1).f2), .int .i64 0]) ?_ 3 _ rfl; (with_reducible repeat (first | refine blk_drewN ?_ _ | refine blk_drew ?_ | refine blk_alloc ?_ _)); refine blk_put (cs := #[.int .i64 ((rd_T67 l0 x7_1).f0), .int .i64 ((rd_T67 l0 x7_1).f1), .int .i64 0, .int .i64 0]) ?_ 2 _ rfl; (with_reducible repeat (first | refine blk_drewN ?_ _ | refine blk_drew ?_ | refine blk_alloc ?_ _)); refine blk_put (cs := #[.int .i64 ((rd_T67 l0 x7_1).f0), .int .i64 0, .int .i64 0, .int .i64 0]) ?_ 1 _ rfl; (with_reducible repeat (first | refine blk_drewN ?_ _ | refine blk_drew ?_ | refine blk_alloc ?_ _)); refine blk_put (cs := #[.int .i64 0, .int .i64 0, .int .i64 0, .int .i64 0]) ?_ 0 _ rfl; (with_reducible repeat (first | refine blk_drewN ?_ _ | refine blk_drew ?_ | refine blk_alloc ?_ _)); exact BK119.out⟩, ⟨qb1_ GE119.out HB.out⟩⟩
       ·rw [if_neg c8] at H
        have c8b0 : (((rd_T67 l0 x7_1).f0) == (wrap64 (x7_1 + 1))) = false := beq_eq_false_iff_ne.mpr c8
        have c8b1 : (((rd_T67 l0 x7_1).f0) != (wrap64 (x7_1 + 1))) = true := bne_iff_ne.mpr c8
        (first | rw [c8b0] | (simp only [i64_w, i32_w]; rw [c8b0]) | skip)
        have H' := am_ H
        clear H
        obtain ⟨Z15_0, Z15_1, Z15_2, Z15_3, Y15_0, Y15_1, Y15_2, Y15_3⟩ := cz4_ BK119.out
        go_wp2
        repeat (go_quiet (fail); try go_wp2)
        go_meet
        case rel => exact ⟨_, (true), qs_, H', ⟨by have := HK1.out; first | omega | exact Nat.le_refl _⟩, ⟨by (with_reducible repeat (first | refine blk_drewN ?_ _ | refine blk_drew ?_ | refine blk_alloc ?_ _)); refine blk_put (cs := #[.int .i64 ((rd_T67 l0 x7_1).f0), .int .i64 ((rd_T67 l0 x7_1).f1), .int .i64 ((rd_T67 l0 x7_1).f2), .int .i64 0]) ?_ 3 _ rfl; (with_reducible repeat (first | refine blk_drewN ?_ _ | refine blk_drew ?_ | refine blk_alloc ?_ _)); refine blk_put (cs := #[.int .i64 ((rd_T67 l0 x7_1).f0), .int .i64 ((rd_T67 l0 x7_1).f1), .int .i64 0, .int .i64 0]) ?_ 2 _ rfl; (with_reducible repeat (first | refine blk_drewN ?_ _ | refine blk_drew ?_ | refine blk_alloc ?_ _)); refine blk_put (cs := #[.int .i64 ((rd_T67 l0 x7_1).f0), .int .i64 0, .int .i64 0, .int .i64 0]) ?_ 1 _ rfl; (with_reducible repeat (first | refine blk_drewN ?_ _ | refine blk_drew ?_ | refine blk_alloc ?_ _)); refine blk_put (cs := #[.int .i64 0, .int .i64 0, .int .i64 0, .int .i64 0]) ?_ 0 _ rfl; (with_reducible repeat (first | refine blk_drewN ?_ _ | refine blk_drew ?_ | refine blk_alloc ?_ _)); exact BK119.out⟩, ⟨qb1_ GE119.out HB.out⟩⟩
      case rest =>
       clear HC5
       try clear c1
       try clear p1
       try clear q1
       try clear hx1
       try clear c2
       try clear c2b0
       try clear p2
       try clear c3
       try clear c3b0
       try clear c4
       try clear c4b0
       try clear p6
       try clear c8
       try clear c8b0
       try clear c8b1
       try clear c9
       try clear c9b0
       try clear c11
       try clear c11b0
       try clear p11
       try clear q11
       try clear hx11
       try clear c12
       try clear c12b0
       try clear p12
       try clear q12
       try clear hx12
       (try clear Z13_0 Z13_1 Z13_2 Z13_3 Y13_0 Y13_1 Y13_2 Y13_3)
       (try clear Z14_0 Z14_1 Z14_2 Z14_3 Y14_0 Y14_1 Y14_2 Y14_3)
       (try clear Z15_0 Z15_1 Z15_2 Z15_3 Y15_0 Y15_1 Y15_2 Y15_3)
       (try clear Z7_0 Z7_1 Z7_2 Z7_3 Y7_0 Y7_1 Y7_2 Y7_3)
       try clear hx118_0
       try clear hx118_1
       try clear hx118_2
       try clear hx118_3
       try clear hx120_0
       try clear hx120_1
       try clear hx120_2
       try clear hx120_3
       try clear p118
       try clear p120
       try clear q118
       try clear q120
       obtain ⟨kq, x31_4, rfl, HA, HJ4, BK119, HB⟩ := hcut
       cases kq with
       | zero => exact absurd HA.out (by simp [loan_ordered.j1])
       | succ kj4 =>
        have H := HA.out
        clear HA
        simp only [loan_ordered.j1] at H
        by_cases c16 : x31_4 = true
        ·subst c16
         rw [if_pos rfl] at H
         obtain rfl := Option.some.inj H
         go_wp2
         repeat (go_quiet (fail); try go_wp2)
         go_ret
         exact ⟨qe_, qb1_ GE119.out HB.out⟩
        ·replace c16 := Bool.eq_false_iff.mpr c16
         subst c16
         rw [if_neg (show ¬ (false = true) by decide)] at H
         have H' := am_ H
         clear H
         go_wp2
         repeat (go_quiet (fail); try go_wp2)
         go_roundg kj4
         case measure => have := HK1.out; have := HJ4.out; omega
         case rel => exact ⟨(wrap64 (x7_1 + 1)), qs_, H', ⟨by have := HK1.out; have := HJ4.out; omega⟩, ⟨qb1_ GE119.out HB.out⟩⟩
     ·rw [if_neg c4] at H
      exact absurd H (by simp)
    ·rw [if_neg c3] at H
     exact absurd H (by simp)
   ·rw [if_neg c2] at H
    have c2b0 : decide (x7_1 < (l0.length : Int)) = false := decide_eq_false c2
    clear c2
    obtain rfl := Option.some.inj H
    go_wp2
    repeat (go_quiet (fail); try go_wp2)
    go_ret
    exact ⟨qe_, qb_ HB.out⟩
end Go.Proofs.YtogcdcjbleafdaaDoor.PS
end
