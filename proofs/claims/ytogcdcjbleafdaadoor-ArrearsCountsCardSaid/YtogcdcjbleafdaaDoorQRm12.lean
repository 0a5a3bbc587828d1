import Derived.Test.YtogcdcjbleafdaaDoorQRm2
section
namespace Go.Proofs.YtogcdcjbleafdaaDoor.PS
open Go.RowKit Go.Proofs.YtogcdcjbleafdaaDoorW.PrintWords Go.Proofs.YtogcdcjbleafdaaDoorW.PrintLast Go.Proofs.YtogcdcjbleafdaaDoorW.PrintMore
attribute [local go_sem] max2_int min2_int max_two min_two
set_option linter.unusedVariables false
set_option linter.unusedSimpArgs false
def arrears_Bucket.f (a0 : Int) : Option Int := some (if a0 ≤ 0 then 0 else if a0 ≤ 30 then 1 else if a0 ≤ 60 then 2 else if a0 ≤ 90 then 3 else 4)
set_option maxHeartbeats 4000000 in
set_option maxRecDepth 100000 in
theorem arrears_Bucket.calls (a0 r : Int) (w : World) (hG : GW w) (h : arrears_Bucket.f a0 = some r) :
  Calls Tryd.prog 21 #[.int .i64 a0] w fun e w' => e = .returned (.int .i64 r) ∧ Below w.heap.size w w' := by
 unfold arrears_Bucket.f at h
 injection h with h
 have HH := am_ h
 clear h
 have s0 : w.cell? ⟨0, 0, none⟩ = some (.int .i64 0) := hG.cl 0 (by decide)
 have s1 : w.cell? ⟨0, 1, none⟩ = some (.int .i64 30) := hG.cl 1 (by decide)
 have s2 : w.cell? ⟨0, 2, none⟩ = some (.int .i64 60) := hG.cl 2 (by decide)
 have s3 : w.cell? ⟨0, 3, none⟩ = some (.int .i64 90) := hG.cl 3 (by decide)
 clear hG
 have i0 : ∀ w : World, (Instr.index 85 (.agg #[.int .i64 0, .int .i64 30, .int .i64 60, .int .i64 90]) (.int .i64 0)).run Tryd.prog w = .ok (.int .i64 0) w := fun _ => by kernel_rfl
 have i1 : ∀ w : World, (Instr.index 85 (.agg #[.int .i64 0, .int .i64 30, .int .i64 60, .int .i64 90]) (.int .i64 1)).run Tryd.prog w = .ok (.int .i64 30) w := fun _ => by kernel_rfl
 have i2 : ∀ w : World, (Instr.index 85 (.agg #[.int .i64 0, .int .i64 30, .int .i64 60, .int .i64 90]) (.int .i64 2)).run Tryd.prog w = .ok (.int .i64 60) w := fun _ => by kernel_rfl
 have i3 : ∀ w : World, (Instr.index 85 (.agg #[.int .i64 0, .int .i64 30, .int .i64 60, .int .i64 90]) (.int .i64 3)).run Tryd.prog w = .ok (.int .i64 90) w := fun _ => by kernel_rfl
 go_enter Tryd.func21, Tryd.ntmps21
 go_wp2
 go_loop [6] (fun i => ∃ k : Nat, k ≤ 4 ∧ i = .int .i64 k ∧ (0 < k → 30 * ((k : Int) - 1) < a0)) (fun i => match i with | .int _ n => 4 - n.toNat | _ => 0)
 case atStart => exact ⟨0, Nat.zero_le _, rfl, fun h => absurd h (Nat.lt_irrefl 0)⟩
 case round =>
  obtain ⟨k, hk, rfl, hlt⟩ := hrel
  have fin : ∀ {x : Int}, x = r → (Ending.returned (.int .i64 x) = Ending.returned (.int .i64 r)) := by rintro x rfl; rfl
  rcases (by omega : k = 0 ∨ k = 1 ∨ k = 2 ∨ k = 3 ∨ k = 4) with rfl | rfl | rfl | rfl | rfl
  ·by_cases c : a0 ≤ 0
   ·have c' := decide_eq_true c
    go_wp2
    go_ret
    refine ⟨fin ?_, Below.refl _ _⟩
    rw [← HH.out, if_pos c]
   ·have c' := decide_eq_false c
    go_wp2
    exact ⟨⟨1, by omega, rfl, fun _ => by omega⟩, by decide⟩
  ·by_cases c : a0 ≤ 30
   ·have c' := decide_eq_true c
    go_wp2
    go_ret
    refine ⟨fin ?_, Below.refl _ _⟩
    rw [← HH.out, if_neg (by omega), if_pos c]
   ·have c' := decide_eq_false c
    go_wp2
    exact ⟨⟨2, by omega, rfl, fun _ => by omega⟩, by decide⟩
  ·by_cases c : a0 ≤ 60
   ·have c' := decide_eq_true c
    go_wp2
    go_ret
    refine ⟨fin ?_, Below.refl _ _⟩
    rw [← HH.out, if_neg (by omega), if_neg (by omega), if_pos c]
   ·have c' := decide_eq_false c
    go_wp2
    exact ⟨⟨3, by omega, rfl, fun _ => by omega⟩, by decide⟩
  ·by_cases c : a0 ≤ 90
   ·have c' := decide_eq_true c
    go_wp2
    go_ret
    refine ⟨fin ?_, Below.refl _ _⟩
    rw [← HH.out, if_neg (by omega), if_neg (by omega), if_neg (by omega), if_pos c]
   ·have c' := decide_eq_false c
    go_wp2
    exact ⟨⟨4, by omega, rfl, fun _ => by omega⟩, by decide⟩
  ·go_wp2
   go_ret
   refine ⟨fin ?_, Below.refl _ _⟩
   have := hlt (by omega)
   rw [← HH.out, if_neg (by omega), if_neg (by omega), if_neg (by omega), if_neg (by omega)]
def corebanklaw37_two.f  : Option (Int × Int × Int × Int × Int × Int × Int × Int × Int × Int × Int × Int × Int × Int × Int × Int × Int × Int × Int × Int × Int × ByteArray × ByteArray × (List (S67)) × (List (S70))) := some (1, 1000, 1, 0, 0, 0, 0, 31, 0, 0, 0, 0, 1000, 0, 0, 0, 0, 0, 0, 100000, 0, (⟨#[]⟩ : ByteArray), (⟨#[]⟩ : ByteArray), (([(⟨1, 31, 500, 10⟩ : S67), (⟨2, 59, 500, 5⟩ : S67)] : List (S67))), ([] : List (S70)))
set_option maxHeartbeats 8000000 in
set_option maxRecDepth 100000 in
theorem corebanklaw37_two.calls  (r1 r2 r3 r4 r5 r6 r7 r8 r9 r10 r11 r12 r13 r14 r15 r16 r17 r18 r19 r20 r21 : Int) (r22 r23 : ByteArray) (r24 : List (S67)) (r25 : List (S70)) (w : World) (h : corebanklaw37_two.f  = some (r1, r2, r3, r4, r5, r6, r7, r8, r9, r10, r11, r12, r13, r14, r15, r16, r17, r18, r19, r20, r21, r22, r23, r24, r25)) :
  Calls Tryd.prog 36 #[] w fun e w' => ∃ v23_ v24_ : Value, e = .returned (.agg #[.int .i64 r1, .int .i64 r2, .int .i64 r3, .int .i64 r4, .int .i64 r5, .int .i64 r6, .int .i64 r7, .int .i64 r8, .int .i64 r9, .int .i64 r10, .int .i64 r11, .int .i64 r12, .int .i64 r13, .int .i64 r14, .int .i64 r15, .int .i64 r16, .int .i64 r17, .int .i64 r18, .int .i64 r19, .int .i64 r20, .int .i64 r21, .string r22, .string r23, v23_, v24_]) ∧ Kd.R k67 67 w' w.heap.size (fun _ => True) v23_ r24 ∧ Kd.R k70 70 w' w.heap.size (fun _ => True) v24_ r25 ∧ Below w.heap.size w w' := by
 have hu27 := Tryd.underlying27
 have hu23 := Tryd.underlying23
 have hu67 := Tryd.underlying67
 have HB := am_ (Below.refl w.heap.size w)
 have H := h
 clear h
 unfold corebanklaw37_two.f at H
 obtain ⟨y299, hy299⟩ : ∃ y_ : List (S67), y_ = (([(⟨1, 31, 500, 10⟩ : S67), (⟨2, 59, 500, 5⟩ : S67)] : List (S67))) := ⟨_, rfl⟩
 replace H : (some (1, 1000, 1, 0, 0, 0, 0, 31, 0, 0, 0, 0, 1000, 0, 0, 0, 0, 0, 0, 100000, 0, (⟨#[]⟩ : ByteArray), (⟨#[]⟩ : ByteArray), y299, ([] : List (S70)))) = some (r1, r2, r3, r4, r5, r6, r7, r8, r9, r10, r11, r12, r13, r14, r15, r16, r17, r18, r19, r20, r21, r22, r23, r24, r25) := by first | (rw [hy299]; with_reducible exact H) | (have H2_ := (Option.bind_some _ _).symm.trans H; rw [hy299]; with_reducible exact H2_) | (have H2_ := (Option.bind_some _ _).symm.trans H; with_reducible exact H2_) | with_reducible exact H | (rw [hy299]; exact H) | exact H
 have Ny299 := am_ hy299
 clear hy299
 simp only [Option.some.injEq, Prod.mk.injEq] at H
 obtain ⟨rfl, rfl, rfl, rfl, rfl, rfl, rfl, rfl, rfl, rfl, rfl, rfl, rfl, rfl, rfl, rfl, rfl, rfl, rfl, rfl, rfl, rfl, rfl, rfl, rfl⟩ := H
 go_enter Tryd.func36, Tryd.ntmps36
 go_wp2_with (first | ((with_reducible refine gate_store (t := 27) rfl ?_); refine stA_ (g := gb298) (t := 27) (old := ?ro31_0) #[.int .i64 1, .int .i64 1000, .int .i64 1, .int .i64 0, .int .i64 0, .int .i64 0, .int .i64 0, .int .i64 31, .int .i64 0, .int .i64 0, .int .i64 0, .int .i64 0, .int .i64 1000, .int .i64 0, .int .i64 0, .int .i64 0, .int .i64 0, .int .i64 0, .int .i64 0, .int .i64 100000, .int .i64 0, .string (⟨#[]⟩ : ByteArray), .string (⟨#[]⟩ : ByteArray), .slice Ao4 y299.length co4, .slice none 0 0] rfl rfl rfl rfl ?rv31_0 ?rb31_0 ?ri31_0 ?rs31_0 ?rc31_0 ?_; (case rv31_0 => rfl); (case rb31_0 => (repeat (first | (with_reducible first | refine blk_drewN ?_ _ | refine blk_drew ?_ | refine blk_alloc ?_ _))); (with_reducible exact BK298.out)); (case ri31_0 => kernel_rfl); (case rs31_0 => rfl); (case rc31_0 => rfl); intro w_ hnew_ hoth_ hbel_) | ((with_reducible refine gate_load_ (t := 27) rfl ?_); refine ld_ (t := 27) Tryd.underlying27 rfl rfl rfl (qd_ BK298.out) rfl (by kernel_rfl) ?_) | ((with_reducible refine gate_load_ (t := 27) rfl ?_); refine ldgA_ (t := 27) Tryd.underlying27 rfl (by rfl) rfl (qd_ BK298.out) rfl (by kernel_rfl) ?_) | ((with_reducible refine gate_dst (N := 0) rfl ?_); refine be_ (N := 0) (cs := #[.int .i64 0, .int .i64 0, .int .i64 0, .int .i64 0, .int .i64 0, .int .i64 0, .int .i64 0, .int .i64 0, .int .i64 0, .int .i64 0, .int .i64 0, .int .i64 0, .int .i64 0, .int .i64 0, .int .i64 0, .int .i64 0, .int .i64 0, .int .i64 0, .int .i64 0, .int .i64 0, .int .i64 0, .string (⟨#[]⟩ : ByteArray), .string (⟨#[]⟩ : ByteArray), .slice none 0 0, .slice none 0 0]) (t := 27) ?_; intro gb298 hg w1 hbox hb; have BK298 := am_ (hbox); have GE298 := am_ (bz_ hg (qb_ HB.out) : w.heap.size ≤ gb298); replace HB := am_ (below_step (qb_ HB.out) hb); clear hb hbox hg) | ((with_reducible refine gate_dst (N := 4) rfl ?_); refine Kd.R_lit k67 _ 67 ?hg (N := 4) ?hd (xs := ([(⟨1, 31, 500, 10⟩ : S67), (⟨2, 59, 500, 5⟩ : S67)] : List (S67))) (inner := [.int .i64 1, .int .i64 31, .int .i64 500, .int .i64 10, .int .i64 2, .int .i64 59, .int .i64 500, .int .i64 5]) (ok := fun _ => True) (okp := fun _ => True) ?hr ?hp (fun _ hk => hk) trivial (Below.refl _ _) (Nat.le_refl _) (by simp) ?_; (case hd => rfl); (case hg => rfl); (case hr => first | (go_simp; done) | (go_simp; rfl)); (case hp => exact (Reps.c4 (show Kd.M k67 _ _ _ (⟨1, 31, 500, 10⟩ : S67) [.int .i64 1, .int .i64 31, .int .i64 500, .int .i64 10] from (k67_mkM _ _ _ (⟨1, 31, 500, 10⟩ : S67) )) (Reps.c4 (show Kd.M k67 _ _ _ (⟨2, 59, 500, 5⟩ : S67) [.int .i64 2, .int .i64 59, .int .i64 500, .int .i64 5] from (k67_mkM _ _ _ (⟨2, 59, 500, 5⟩ : S67) )) (Reps.none _ _)))); intro v300 w2 ho3 hb hg_ hnew_; clear hg_ hnew_; (first | rw [← Ny299.out] at ho3 | (simp only [Int.reduceToNat] at ho3; rw [← Ny299.out] at ho3)); have HO301 := am_ (Kd.R_lower ho3 (below_size (qb1_ GE298.out HB.out))); replace BK298 := am_ (blk_below (qk_ BK298.out) hb); replace HB := am_ (below_step (qb1_ GE298.out HB.out) hb); clear hb ho3; obtain ⟨Ao4, co4, eo4⟩ := Kd.R_slice HO301.out; subst eo4; obtain ⟨Z5_0, Z5_1, Z5_2, Z5_3, Z5_4, Z5_5, Z5_6, Z5_7, Z5_8, Z5_9, Z5_10, Z5_11, Z5_12, Z5_13, Z5_14, Z5_15, Z5_16, Z5_17, Z5_18, Z5_19, Z5_20, Z5_21, Z5_22, Z5_23, Z5_24, Y5_0, Y5_1, Y5_2, Y5_3, Y5_4, Y5_5, Y5_6, Y5_7, Y5_8, Y5_9, Y5_10, Y5_11, Y5_12, Y5_13, Y5_14, Y5_15, Y5_16, Y5_17, Y5_18, Y5_19, Y5_20, Y5_21, Y5_22, Y5_23, Y5_24⟩ := cz25_ BK298.out))
 refine bodyPost_ret (results_cell_row rfl _ _ gb298 27 #[.int .i64 1, .int .i64 1000, .int .i64 1, .int .i64 0, .int .i64 0, .int .i64 0, .int .i64 0, .int .i64 31, .int .i64 0, .int .i64 0, .int .i64 0, .int .i64 0, .int .i64 1000, .int .i64 0, .int .i64 0, .int .i64 0, .int .i64 0, .int .i64 0, .int .i64 0, .int .i64 100000, .int .i64 0, .string (⟨#[]⟩ : ByteArray), .string (⟨#[]⟩ : ByteArray), .slice Ao4 y299.length co4, .slice none 0 0] (0, 0) _ rfl hnew_ Tryd.underlying27 rfl (by kernel_rfl)) rfl ?_
 exact ⟨_, _, qe_, by (with_reducible repeat (first | apply Kd.R_alloc | apply Kd.R_drewN | apply Kd.R_drew)); exact Kd.R_mono (Kd.R_move (Kd.R_types HO301.out BK298.out (by decide)) (fun k hk => hoth_ k (hk.2))) (fun _ hk => trivial), by first | exact Kd.R_nil _ _ _ _ _ | exact Kd.N_nil _ _ _ _ _ | exact Kd.V_nil _ _ _ _ _ | exact Kd.Q_nil _ _ _ _ _ | exact Kd.S_nil _ _ _ _ _, hbel_ _ _ (qb1_ GE298.out HB.out) GE298.out⟩
def r01_SplitP.f (a0_0 a0_1 : Int) : Option (Bool × Int × Int) := if a0_0 ≥ 0 then (some (false, IntKind.u64.wrap (a0_0), a0_1)) else (if (IntKind.u64.wrap ((Go.bits .xor .u64 IntKind.u64.max a0_1) + 1)) = 0 then (some (true, IntKind.u64.wrap ((Go.bits .xor .u64 IntKind.u64.max (IntKind.u64.wrap (a0_0))) + 1), IntKind.u64.wrap ((Go.bits .xor .u64 IntKind.u64.max a0_1) + 1))) else (some (true, Go.bits .xor .u64 IntKind.u64.max (IntKind.u64.wrap (a0_0)), IntKind.u64.wrap ((Go.bits .xor .u64 IntKind.u64.max a0_1) + 1))))
set_option maxHeartbeats 8000000 in
set_option maxRecDepth 100000 in
theorem r01_SplitP.calls (a0_0 a0_1 : Int) (r1 : Bool) (r2 r3 : Int) (w : World) (h : r01_SplitP.f a0_0 a0_1 = some (r1, r2, r3)) :
  Calls Tryd.prog 31 #[.agg #[.int .i64 a0_0, .int .u64 a0_1]] w fun e w' => e = .returned (.tuple #[.bool r1, .agg #[.int .u64 r2, .int .u64 r3]]) ∧ Below w.heap.size w w' := by
 have hu32 := Tryd.underlying32
 have hu59 := Tryd.underlying59
 have hsgn : IntKind.u64.signed = false := rfl
 have HB := am_ (Below.refl w.heap.size w)
 have H := h
 clear h
 unfold r01_SplitP.f at H
 by_cases c2 : a0_0 ≥ 0
 ·rw [if_pos c2] at H
  have c2b0 : decide (0 ≤ a0_0) = true := decide_eq_true c2
  clear c2
  simp only [Option.some.injEq, Prod.mk.injEq] at H
  obtain ⟨rfl, rfl, rfl⟩ := H
  go_enter Tryd.func31, Tryd.ntmps31
  go_wp2_with (first | ((with_reducible refine gate_dst (N := 1) rfl ?_); refine be_ (N := 1) (cs := #[.int .i64 a0_0, .int .u64 a0_1]) (t := 32) ?_; intro gb302 hg w3 hbox hb; have BK302 := am_ (hbox); have GE302 := am_ (bz_ hg (qb_ HB.out) : w.heap.size ≤ gb302); replace HB := am_ (below_step (qb_ HB.out) hb); clear hb hbox hg) | ((with_reducible refine gate_dst (N := 3) rfl ?_); refine be_ (N := 3) (cs := #[.int .u64 0, .int .u64 0]) (t := 59) ?_; intro gb303 hg w4 hbox hb; have BK303 := am_ (hbox); have GE303 := am_ (bz_ hg (qb1_ GE302.out HB.out) : w.heap.size ≤ gb303); replace HB := am_ (below_step (qb1_ GE302.out HB.out) hb); have NB302_303 := am_ (nl_ hg (qk_ BK302.out) : gb302 ≠ gb303); have NB303_302 := am_ (ng_ hg (qk_ BK302.out) : gb303 ≠ gb302); replace BK302 := am_ (blk_below (qk_ BK302.out) hb); clear hb hbox hg; have hnb5 := NB302_303.out; have hnc5 := NB303_302.out; obtain ⟨Z6_0, Z6_1, Y6_0, Y6_1⟩ := cz2_ BK302.out; obtain ⟨Z7_0, Z7_1, Y7_0, Y7_1⟩ := cz2_ BK303.out))
  repeat (go_quiet (first | ((with_reducible refine gate_dst (N := 1) rfl ?_); refine be_ (N := 1) (cs := #[.int .i64 a0_0, .int .u64 a0_1]) (t := 32) ?_; intro gb302 hg w3 hbox hb; have BK302 := am_ (hbox); have GE302 := am_ (bz_ hg (qb_ HB.out) : w.heap.size ≤ gb302); replace HB := am_ (below_step (qb_ HB.out) hb); clear hb hbox hg) | ((with_reducible refine gate_dst (N := 3) rfl ?_); refine be_ (N := 3) (cs := #[.int .u64 0, .int .u64 0]) (t := 59) ?_; intro gb303 hg w4 hbox hb; have BK303 := am_ (hbox); have GE303 := am_ (bz_ hg (qb1_ GE302.out HB.out) : w.heap.size ≤ gb303); replace HB := am_ (below_step (qb1_ GE302.out HB.out) hb); have NB302_303 := am_ (nl_ hg (qk_ BK302.out) : gb302 ≠ gb303); have NB303_302 := am_ (ng_ hg (qk_ BK302.out) : gb303 ≠ gb302); replace BK302 := am_ (blk_below (qk_ BK302.out) hb); clear hb hbox hg; have hnb5 := NB302_303.out; have hnc5 := NB303_302.out; obtain ⟨Z6_0, Z6_1, Y6_0, Y6_1⟩ := cz2_ BK302.out; obtain ⟨Z7_0, Z7_1, Y7_0, Y7_1⟩ := cz2_ BK303.out)); try go_wp2_with (first | ((with_reducible refine gate_dst (N := 1) rfl ?_); refine be_ (N := 1) (cs := #[.int .i64 a0_0, .int .u64 a0_1]) (t := 32) ?_; intro gb302 hg w3 hbox hb; have BK302 := am_ (hbox); have GE302 := am_ (bz_ hg (qb_ HB.out) : w.heap.size ≤ gb302); replace HB := am_ (below_step (qb_ HB.out) hb); clear hb hbox hg) | ((with_reducible refine gate_dst (N := 3) rfl ?_); refine be_ (N := 3) (cs := #[.int .u64 0, .int .u64 0]) (t := 59) ?_; intro gb303 hg w4 hbox hb; have BK303 := am_ (hbox); have GE303 := am_ (bz_ hg (qb1_ GE302.out HB.out) : w.heap.size ≤ gb303); replace HB := am_ (below_step (qb1_ GE302.out HB.out) hb); have NB302_303 := am_ (nl_ hg (qk_ BK302.out) : gb302 ≠ gb303); have NB303_302 := am_ (ng_ hg (qk_ BK302.out) : gb303 ≠ gb302); replace BK302 := am_ (blk_below (qk_ BK302.out) hb); clear hb hbox hg; have hnb5 := NB302_303.out; have hnc5 := NB303_302.out; obtain ⟨Z6_0, Z6_1, Y6_0, Y6_1⟩ := cz2_ BK302.out; obtain ⟨Z7_0, Z7_1, Y7_0, Y7_1⟩ := cz2_ BK303.out)))
  refine bodyPost_ret (results_tc rfl _ _ gb303 59 #[.int .u64 (IntKind.u64.wrap (a0_0)), .int .u64 a0_1] (0, 0) _ rfl (qpp_ #[.int .u64 (IntKind.u64.wrap (a0_0)), .int .u64 0] 1 #[.int .u64 0, .int .u64 0] 0 BK303.out) Tryd.underlying59 rfl (by kernel_rfl)) rfl ?_
  exact ⟨qe_, qb2_ GE302.out GE303.out HB.out⟩
 ·rw [if_neg c2] at H
  have c2b0 : decide (0 ≤ a0_0) = false := decide_eq_false c2
  clear c2
  by_cases c8 : (IntKind.u64.wrap ((Go.bits .xor .u64 IntKind.u64.max a0_1) + 1)) = 0
  ·rw [if_pos c8] at H
   have c8b0 : ((IntKind.u64.wrap ((Go.bits .xor .u64 IntKind.u64.max a0_1) + 1)) == 0) = true := beq_iff_eq.mpr c8
   have c8b1 : ((IntKind.u64.wrap ((Go.bits .xor .u64 IntKind.u64.max a0_1) + 1)) != 0) = false := bne_eq_false_iff_eq.mpr c8
   clear c8
   simp only [Option.some.injEq, Prod.mk.injEq] at H
   obtain ⟨rfl, rfl, rfl⟩ := H
   go_enter Tryd.func31, Tryd.ntmps31
   go_wp2_with (first | ((with_reducible refine gate_dst (N := 1) rfl ?_); refine be_ (N := 1) (cs := #[.int .i64 a0_0, .int .u64 a0_1]) (t := 32) ?_; intro gb302 hg w9 hbox hb; have BK302 := am_ (hbox); have GE302 := am_ (bz_ hg (qb_ HB.out) : w.heap.size ≤ gb302); replace HB := am_ (below_step (qb_ HB.out) hb); clear hb hbox hg) | ((with_reducible refine gate_dst (N := 3) rfl ?_); refine be_ (N := 3) (cs := #[.int .u64 0, .int .u64 0]) (t := 59) ?_; intro gb303 hg w10 hbox hb; have BK303 := am_ (hbox); have GE303 := am_ (bz_ hg (qb1_ GE302.out HB.out) : w.heap.size ≤ gb303); replace HB := am_ (below_step (qb1_ GE302.out HB.out) hb); have NB302_303 := am_ (nl_ hg (qk_ BK302.out) : gb302 ≠ gb303); have NB303_302 := am_ (ng_ hg (qk_ BK302.out) : gb303 ≠ gb302); replace BK302 := am_ (blk_below (qk_ BK302.out) hb); clear hb hbox hg; have hnb11 := NB302_303.out; have hnc11 := NB303_302.out; obtain ⟨Z12_0, Z12_1, Y12_0, Y12_1⟩ := cz2_ BK302.out; obtain ⟨Z13_0, Z13_1, Y13_0, Y13_1⟩ := cz2_ BK303.out))
   repeat (go_quiet (first | ((with_reducible refine gate_dst (N := 1) rfl ?_); refine be_ (N := 1) (cs := #[.int .i64 a0_0, .int .u64 a0_1]) (t := 32) ?_; intro gb302 hg w9 hbox hb; have BK302 := am_ (hbox); have GE302 := am_ (bz_ hg (qb_ HB.out) : w.heap.size ≤ gb302); replace HB := am_ (below_step (qb_ HB.out) hb); clear hb hbox hg) | ((with_reducible refine gate_dst (N := 3) rfl ?_); refine be_ (N := 3) (cs := #[.int .u64 0, .int .u64 0]) (t := 59) ?_; intro gb303 hg w10 hbox hb; have BK303 := am_ (hbox); have GE303 := am_ (bz_ hg (qb1_ GE302.out HB.out) : w.heap.size ≤ gb303); replace HB := am_ (below_step (qb1_ GE302.out HB.out) hb); have NB302_303 := am_ (nl_ hg (qk_ BK302.out) : gb302 ≠ gb303); have NB303_302 := am_ (ng_ hg (qk_ BK302.out) : gb303 ≠ gb302); replace BK302 := am_ (blk_below (qk_ BK302.out) hb); clear hb hbox hg; have hnb11 := NB302_303.out; have hnc11 := NB303_302.out; obtain ⟨Z12_0, Z12_1, Y12_0, Y12_1⟩ := cz2_ BK302.out; obtain ⟨Z13_0, Z13_1, Y13_0, Y13_1⟩ := cz2_ BK303.out)); try go_wp2_with (first | ((with_reducible refine gate_dst (N := 1) rfl ?_); refine be_ (N := 1) (cs := #[.int .i64 a0_0, .int .u64 a0_1]) (t := 32) ?_; intro gb302 hg w9 hbox hb; have BK302 := am_ (hbox); have GE302 := am_ (bz_ hg (qb_ HB.out) : w.heap.size ≤ gb302); replace HB := am_ (below_step (qb_ HB.out) hb); clear hb hbox hg) | ((with_reducible refine gate_dst (N := 3) rfl ?_); refine be_ (N := 3) (cs := #[.int .u64 0, .int .u64 0]) (t := 59) ?_; intro gb303 hg w10 hbox hb; have BK303 := am_ (hbox); have GE303 := am_ (bz_ hg (qb1_ GE302.out HB.out) : w.heap.size ≤ gb303); replace HB := am_ (below_step (qb1_ GE302.out HB.out) hb); have NB302_303 := am_ (nl_ hg (qk_ BK302.out) : gb302 ≠ gb303); have NB303_302 := am_ (ng_ hg (qk_ BK302.out) : gb303 ≠ gb302); replace BK302 := am_ (blk_below (qk_ BK302.out) hb); clear hb hbox hg; have hnb11 := NB302_303.out; have hnc11 := NB303_302.out; obtain ⟨Z12_0, Z12_1, Y12_0, Y12_1⟩ := cz2_ BK302.out; obtain ⟨Z13_0, Z13_1, Y13_0, Y13_1⟩ := cz2_ BK303.out)))
   refine bodyPost_ret (results_tc rfl _ _ gb303 59 #[.int .u64 (IntKind.u64.wrap ((Go.bits .xor .u64 IntKind.u64.max (IntKind.u64.wrap (a0_0))) + 1)), .int .u64 (IntKind.u64.wrap ((Go.bits .xor .u64 IntKind.u64.max a0_1) + 1))] (0, 0) _ rfl (qpp_ #[.int .u64 (IntKind.u64.wrap ((Go.bits .xor .u64 IntKind.u64.max (IntKind.u64.wrap (a0_0))) + 1)), .int .u64 0] 1 #[.int .u64 0, .int .u64 0] 0 BK303.out) Tryd.underlying59 rfl (by kernel_rfl)) rfl ?_
   exact ⟨qe_, qb2_ GE302.out GE303.out HB.out⟩
  ·rw [if_neg c8] at H
   have c8b0 : ((IntKind.u64.wrap ((Go.bits .xor .u64 IntKind.u64.max a0_1) + 1)) == 0) = false := beq_eq_false_iff_ne.mpr c8
   have c8b1 : ((IntKind.u64.wrap ((Go.bits .xor .u64 IntKind.u64.max a0_1) + 1)) != 0) = true := bne_iff_ne.mpr c8
   simp only [Option.some.injEq, Prod.mk.injEq] at H
   obtain ⟨rfl, rfl, rfl⟩ := H
   go_enter Tryd.func31, Tryd.ntmps31
   go_wp2_with (first | ((with_reducible refine gate_dst (N := 1) rfl ?_); refine be_ (N := 1) (cs := #[.int .i64 a0_0, .int .u64 a0_1]) (t := 32) ?_; intro gb302 hg w14 hbox hb; have BK302 := am_ (hbox); have GE302 := am_ (bz_ hg (qb_ HB.out) : w.heap.size ≤ gb302); replace HB := am_ (below_step (qb_ HB.out) hb); clear hb hbox hg) | ((with_reducible refine gate_dst (N := 3) rfl ?_); refine be_ (N := 3) (cs := #[.int .u64 0, .int .u64 0]) (t := 59) ?_; intro gb303 hg w15 hbox hb; have BK303 := am_ (hbox); have GE303 := am_ (bz_ hg (qb1_ GE302.out HB.out) : w.heap.size ≤ gb303); replace HB := am_ (below_step (qb1_ GE302.out HB.out) hb); have NB302_303 := am_ (nl_ hg (qk_ BK302.out) : gb302 ≠ gb303); have NB303_302 := am_ (ng_ hg (qk_ BK302.out) : gb303 ≠ gb302); replace BK302 := am_ (blk_below (qk_ BK302.out) hb); clear hb hbox hg; have hnb16 := NB302_303.out; have hnc16 := NB303_302.out; obtain ⟨Z17_0, Z17_1, Y17_0, Y17_1⟩ := cz2_ BK302.out; obtain ⟨Z18_0, Z18_1, Y18_0, Y18_1⟩ := cz2_ BK303.out))
   repeat (go_quiet (first | ((with_reducible refine gate_dst (N := 1) rfl ?_); refine be_ (N := 1) (cs := #[.int .i64 a0_0, .int .u64 a0_1]) (t := 32) ?_; intro gb302 hg w14 hbox hb; have BK302 := am_ (hbox); have GE302 := am_ (bz_ hg (qb_ HB.out) : w.heap.size ≤ gb302); replace HB := am_ (below_step (qb_ HB.out) hb); clear hb hbox hg) | ((with_reducible refine gate_dst (N := 3) rfl ?_); refine be_ (N := 3) (cs := #[.int .u64 0, .int .u64 0]) (t := 59) ?_; intro gb303 hg w15 hbox hb; have BK303 := am_ (hbox); have GE303 := am_ (bz_ hg (qb1_ GE302.out HB.out) : w.heap.size ≤ gb303); replace HB := am_ (below_step (qb1_ GE302.out HB.out) hb); have NB302_303 := am_ (nl_ hg (qk_ BK302.out) : gb302 ≠ gb303); have NB303_302 := am_ (ng_ hg (qk_ BK302.out) : gb303 ≠ gb302); replace BK302 := am_ (blk_below (qk_ BK302.out) hb); clear hb hbox hg; have hnb16 := NB302_303.out; have hnc16 := NB303_302.out; obtain ⟨Z17_0, Z17_1, Y17_0, Y17_1⟩ := cz2_ BK302.out; obtain ⟨Z18_0, Z18_1, Y18_0, Y18_1⟩ := cz2_ BK303.out)); try go_wp2_with (first | ((with_reducible refine gate_dst (N := 1) rfl ?_); refine be_ (N := 1) (cs := #[.int .i64 a0_0, .int .u64 a0_1]) (t := 32) ?_; intro gb302 hg w14 hbox hb; have BK302 := am_ (hbox); have GE302 := am_ (bz_ hg (qb_ HB.out) : w.heap.size ≤ gb302); replace HB := am_ (below_step (qb_ HB.out) hb); clear hb hbox hg) | ((with_reducible refine gate_dst (N := 3) rfl ?_); refine be_ (N := 3) (cs := #[.int .u64 0, .int .u64 0]) (t := 59) ?_; intro gb303 hg w15 hbox hb; have BK303 := am_ (hbox); have GE303 := am_ (bz_ hg (qb1_ GE302.out HB.out) : w.heap.size ≤ gb303); replace HB := am_ (below_step (qb1_ GE302.out HB.out) hb); have NB302_303 := am_ (nl_ hg (qk_ BK302.out) : gb302 ≠ gb303); have NB303_302 := am_ (ng_ hg (qk_ BK302.out) : gb303 ≠ gb302); replace BK302 := am_ (blk_below (qk_ BK302.out) hb); clear hb hbox hg; have hnb16 := NB302_303.out; have hnc16 := NB303_302.out; obtain ⟨Z17_0, Z17_1, Y17_0, Y17_1⟩ := cz2_ BK302.out; obtain ⟨Z18_0, Z18_1, Y18_0, Y18_1⟩ := cz2_ BK303.out)))
   refine bodyPost_ret (results_tc rfl _ _ gb303 59 #[.int .u64 (Go.bits .xor .u64 IntKind.u64.max (IntKind.u64.wrap (a0_0))), .int .u64 (IntKind.u64.wrap ((Go.bits .xor .u64 IntKind.u64.max a0_1) + 1))] (0, 0) _ rfl (qpp_ #[.int .u64 (Go.bits .xor .u64 IntKind.u64.max (IntKind.u64.wrap (a0_0))), .int .u64 0] 1 #[.int .u64 0, .int .u64 0] 0 BK303.out) Tryd.underlying59 rfl (by kernel_rfl)) rfl ?_
   exact ⟨qe_, qb2_ GE302.out GE303.out HB.out⟩
def r01_Split.f (a0_0 a0_1 : Int) : Option (Bool × Int × Int) :=
 if isW a0_0 a0_1 then some (decide (a0_0 < 0), (if a0_0 < 0 then -(wv a0_0 a0_1) else wv a0_0 a0_1) / 18446744073709551616, (if a0_0 < 0 then -(wv a0_0 a0_1) else wv a0_0 a0_1) % 18446744073709551616) else none
theorem r01_Split.eq {a b : Int} {r : Bool × Int × Int} (h : r01_Split.f a b = some r) : r01_SplitP.f a b = some r := by
 unfold r01_Split.f at h
 split at h
 ·rename_i c
  obtain ⟨⟨c0, c1⟩, c2, c3⟩ := c
  injection h with h
  subst h
  unfold r01_SplitP.f
  have hw : IntKind.u64.wrap a = if a < 0 then a + 18446744073709551616 else a := by rw [IntKind.wrap_u64]; split <;> omega
  rw [hw, xorMax b c2 c3]
  by_cases hn : a < 0
  ·rw [if_neg (by omega), if_pos hn, if_pos hn, xorMax _ (by omega) (by omega)]
   simp only [IntKind.wrap_u64, hn, decide_true]
   unfold wv
   split
   ·congr 3 <;> omega
   ·congr 3 <;> omega
  ·rw [if_pos (by omega), if_neg hn, if_neg hn]
   simp only [hn, decide_false]
   unfold wv
   congr 3 <;> omega
 ·cases h
theorem r01_Split.calls (a0_0 a0_1 : Int) (r1 : Bool) (r2 r3 : Int) (w : World) (h : r01_Split.f a0_0 a0_1 = some (r1, r2, r3)) :
  Calls Tryd.prog 31 #[.agg #[.int .i64 a0_0, .int .u64 a0_1]] w fun e w' => e = .returned (.tuple #[.bool r1, .agg #[.int .u64 r2, .int .u64 r3]]) ∧ Below w.heap.size w w' := by
 have h := r01_Split.eq h
 exact r01_SplitP.calls a0_0 a0_1 r1 r2 r3 w h
def r01_JoinP.f (a0 : Bool) (a1_0 a1_1 : Int) : Option (Int × Int × Bool) := if a0 = true then (if (IntKind.u64.wrap ((Go.bits .xor .u64 IntKind.u64.max a1_1) + 1)) = 0 then (if a1_0 < 9223372036854775808 then (some (wrap64 (IntKind.u64.wrap ((Go.bits .xor .u64 IntKind.u64.max a1_0) + 1)), IntKind.u64.wrap ((Go.bits .xor .u64 IntKind.u64.max a1_1) + 1), true)) else (if a1_0 = 9223372036854775808 then (some (wrap64 (IntKind.u64.wrap ((Go.bits .xor .u64 IntKind.u64.max a1_0) + 1)), IntKind.u64.wrap ((Go.bits .xor .u64 IntKind.u64.max a1_1) + 1), (a1_1 == 0))) else (some (wrap64 (IntKind.u64.wrap ((Go.bits .xor .u64 IntKind.u64.max a1_0) + 1)), IntKind.u64.wrap ((Go.bits .xor .u64 IntKind.u64.max a1_1) + 1), false)))) else (if a1_0 < 9223372036854775808 then (some (wrap64 (Go.bits .xor .u64 IntKind.u64.max a1_0), IntKind.u64.wrap ((Go.bits .xor .u64 IntKind.u64.max a1_1) + 1), true)) else (if a1_0 = 9223372036854775808 then (some (wrap64 (Go.bits .xor .u64 IntKind.u64.max a1_0), IntKind.u64.wrap ((Go.bits .xor .u64 IntKind.u64.max a1_1) + 1), (a1_1 == 0))) else (some (wrap64 (Go.bits .xor .u64 IntKind.u64.max a1_0), IntKind.u64.wrap ((Go.bits .xor .u64 IntKind.u64.max a1_1) + 1), false))))) else (some (wrap64 (a1_0), a1_1, decide (a1_0 < 9223372036854775808)))
def r01_JoinP.T2 : Bool × List (List Nat × List Nat) := (true, [([], []), ([0], [0]), ([1], [1]), ([], []), ([3], [3]), ([2, 4], [2, 4]), ([], []), ([6], [6]), ([7], [7]), ([5, 0, 1, 2, 3, 4, 5], [5]), ([8, 9, 0, 1, 2, 3, 4, 5, 6, 7, 8, 9], [8])])
def r01_JoinP.B2 : List Nat := [0, 1, 3, 0, 8, 31, 0, 64, 192, 63, 1023]
theorem r01_JoinP.tab2 : rtab .any (opsOf Tryd.f70 2) = r01_JoinP.T2 := by kernel_rfl
theorem r01_JoinP.bits2 : waitsOk r01_JoinP.T2.2 r01_JoinP.B2 = true := by kernel_rfl
def r01_JoinP.T3 : Bool × List (List Nat × List Nat) := (true, [([], []), ([0], [0]), ([1], [1]), ([2], [2]), ([], []), ([4], [4]), ([5], [5]), ([3, 0, 1, 2, 3], [3]), ([6, 7, 0, 1, 2, 3, 4, 5, 6, 7], [6])])
def r01_JoinP.B3 : List Nat := [0, 1, 3, 7, 0, 16, 48, 15, 255]
theorem r01_JoinP.tab3 : rtab .any (opsOf Tryd.f70 3) = r01_JoinP.T3 := by kernel_rfl
theorem r01_JoinP.bits3 : waitsOk r01_JoinP.T3.2 r01_JoinP.B3 = true := by kernel_rfl
def r01_JoinP.T6 : Bool × List (List Nat × List Nat) := (true, [([], []), ([0], [0]), ([], []), ([1, 2], [1, 2]), ([], []), ([4], [4]), ([5], [5]), ([6], [6]), ([7], [7]), ([8, 7], [7, 8]), ([9, 7], [7, 9]), ([10, 7, 7], [7, 10]), ([11], [11]), ([12, 11], [11, 12]), ([13, 11], [11, 13]), ([11, 14, 7], [7, 11, 14]), ([7, 15], [7, 15]), ([3, 11, 0, 1, 2, 3], [3]), ([16, 17, 0, 1, 2, 3, 4, 5, 6, 7, 8, 9, 10, 11, 12, 13, 14, 15, 16, 17], [16])])
def r01_JoinP.B6 : List Nat := [0, 1, 0, 7, 0, 16, 48, 112, 240, 496, 1008, 2032, 4080, 8176, 16368, 32752, 65520, 4095, 262143]
theorem r01_JoinP.tab6 : rtab .any (opsOf Tryd.f70 6) = r01_JoinP.T6 := by kernel_rfl
theorem r01_JoinP.bits6 : waitsOk r01_JoinP.T6.2 r01_JoinP.B6 = true := by kernel_rfl
set_option maxHeartbeats 8000000 in
set_option maxRecDepth 100000 in
theorem r01_JoinP.calls (a0 : Bool) (a1_0 a1_1 r1 r2 : Int) (r3 : Bool) (w : World) (h : r01_JoinP.f a0 a1_0 a1_1 = some (r1, r2, r3)) :
  Calls Tryd.prog 70 #[.bool a0, .agg #[.int .u64 a1_0, .int .u64 a1_1]] w fun e w' => e = .returned (.tuple #[.agg #[.int .i64 r1, .int .u64 r2], .bool r3]) ∧ Below w.heap.size w w' := by
 have hu59 := Tryd.underlying59
 have hu32 := Tryd.underlying32
 have hsgn : IntKind.u64.signed = false := rfl
 have HB := am_ (Below.refl w.heap.size w)
 have H := h
 clear h
 unfold r01_JoinP.f at H
 by_cases c3 : a0 = true
 ·subst c3
  rw [if_pos rfl] at H
  by_cases c4 : (IntKind.u64.wrap ((Go.bits .xor .u64 IntKind.u64.max a1_1) + 1)) = 0
  ·rw [if_pos c4] at H
   have c4b0 : ((IntKind.u64.wrap ((Go.bits .xor .u64 IntKind.u64.max a1_1) + 1)) == 0) = true := beq_iff_eq.mpr c4
   have c4b1 : ((IntKind.u64.wrap ((Go.bits .xor .u64 IntKind.u64.max a1_1) + 1)) != 0) = false := bne_eq_false_iff_eq.mpr c4
   clear c4
   by_cases c5 : a1_0 < 9223372036854775808
   ·rw [if_pos c5] at H
    have c5b0 : decide (a1_0 < 9223372036854775808) = true := decide_eq_true c5
    clear c5
    simp only [Option.some.injEq, Prod.mk.injEq] at H
    obtain ⟨rfl, rfl, rfl⟩ := H
    go_enter Tryd.func70, Tryd.ntmps70
    try go_wp2_with (first | ((with_reducible refine gate_dst (N := 3) rfl ?_); refine be_ (N := 3) (cs := #[.int .u64 a1_0, .int .u64 a1_1]) (t := 59) ?_; intro gb304 hg w6 hbox hb; have BK304 := am_ (hbox); have GE304 := am_ (bz_ hg (qb_ HB.out) : w.heap.size ≤ gb304); replace HB := am_ (below_step (qb_ HB.out) hb); clear hb hbox hg) | ((with_reducible refine gate_dst (N := 4) rfl ?_); refine be_ (N := 4) (cs := #[.int .i64 0, .int .u64 0]) (t := 32) ?_; intro gb305 hg w7 hbox hb; have BK305 := am_ (hbox); have GE305 := am_ (bz_ hg (qb1_ GE304.out HB.out) : w.heap.size ≤ gb305); replace HB := am_ (below_step (qb1_ GE304.out HB.out) hb); have NB304_305 := am_ (nl_ hg (qk_ BK304.out) : gb304 ≠ gb305); have NB305_304 := am_ (ng_ hg (qk_ BK304.out) : gb305 ≠ gb304); replace BK304 := am_ (blk_below (qk_ BK304.out) hb); clear hb hbox hg))
    replace BK304 := am_ (blk_drew BK304.out)
    replace BK305 := am_ (blk_drew BK305.out)
    replace HB := am_ (below_drew1 HB.out)
    refine start_ (n := 9) (S := cS2_ gb304 (.int .u64 a1_0) (.int .u64 a1_1)) (ds := []) (nb_ 9 0) (by kernel_rfl) rfl rfl (cc2_ BK304.out) (fun hHeld => ?_); refine with_tabW r01_JoinP.tab3 r01_JoinP.bits3 (fun HT_ HW_ => ?_)
    generalize w7.drew = w8 at BK304 BK305 HB hHeld ⊢
    refine pz_ 0 19 (nb_ 9 1) HT_.out ?_
    refine pz_ 4 23 (nb_ 9 17) HT_.out ?_
    refine tk2_ 1 20 (nb_ 9 19) HT_.out HW_.out hHeld ?_
    refine pz_ 2 21 (nb_ 9 23) HT_.out ?_
    refine pz_ 3 22 (nb_ 9 31) HT_.out ?_
    refine pz_ 7 6 (nb_ 9 159) HT_.out ?_
    refine tk2_ 5 24 (nb_ 9 191) HT_.out HW_.out hHeld ?_
    refine pz_ 6 25 (nb_ 9 255) HT_.out ?_
    refine pz_ 8 7 (nb_ 9 511) HT_.out ?_
    refine done_ (done_of HT_.out (by kernel_rfl)) ?_
    try go_wp2
    replace BK304 := am_ (blk_drew BK304.out)
    replace BK305 := am_ (blk_drew BK305.out)
    replace HB := am_ (below_drew1 HB.out)
    refine start_ (n := 19) (S := cS2_ gb304 (.int .u64 a1_0) (.int .u64 a1_1)) (ds := []) (nb_ 19 0) (by kernel_rfl) rfl rfl (cc2_ BK304.out) (fun hHeld => ?_); refine with_tabW r01_JoinP.tab6 r01_JoinP.bits6 (fun HT_ HW_ => ?_)
    generalize w8.drew = w9 at BK304 BK305 HB hHeld ⊢
    refine pz_ 0 30 (nb_ 19 1) HT_.out ?_
    refine pz_ 1 31 (nb_ 19 3) HT_.out ?_
    refine pz_ 2 32 (nb_ 19 7) HT_.out ?_
    refine pz_ 3 33 (nb_ 19 15) HT_.out ?_
    refine pz_ 4 34 (nb_ 19 31) HT_.out ?_
    refine tk2_ 5 35 (nb_ 19 63) HT_.out HW_.out hHeld ?_
    refine pz_ 6 36 (nb_ 19 127) HT_.out ?_
    refine pz_ 7 37 (nb_ 19 255) HT_.out ?_
    refine pu_ 8 38 (nb_ 19 511) HT_.out ?_
    refine pu_ 9 39 (nb_ 19 1023) HT_.out ?_
    refine pu_ 10 40 (nb_ 19 2047) HT_.out ?_
    refine pu_ 11 41 (nb_ 19 4095) HT_.out ?_
    refine pu_ 12 42 (nb_ 19 8191) HT_.out ?_
    refine pu_ 13 43 (nb_ 19 16383) HT_.out ?_
    refine pu_ 14 44 (nb_ 19 32767) HT_.out ?_
    refine pu_ 15 45 (nb_ 19 65535) HT_.out ?_
    refine pz_ 16 46 (nb_ 19 131071) HT_.out ?_
    refine one_ (i := 17) (N := none) (nb_ 19 262143) rfl rfl (one_of HT_.out (by kernel_rfl)) (by decide) (fun K hK => ?_)
    have hs10 : w9.cell? ⟨gb305, 0, none⟩ = some (.int .i64 0) := (blk_cell BK305.out 0).trans rfl
    have hfs10 := blk_frozen BK305.out 0
    have hns10_0 := NB304_305.out
    have hms10_0 := NB305_304.out
    have hs11 : w9.cell? ⟨gb305, 1, none⟩ = some (.int .u64 0) := (blk_cell BK305.out 1).trans rfl
    have hfs11 := blk_frozen BK305.out 1
    have hns11_0 := NB304_305.out
    have hms11_0 := NB305_304.out
    refine skip_ (w1 := ?_) (by rfl) rfl ?_ ?_
    rotate_left
    ·go_simp
     rfl
    refine hK.out _ _ ⟨((cell_far (p := ⟨gb305, _, none⟩) NB304_305.out _).trans (((cell_far (p := ⟨gb305, _, none⟩) NB304_305.out _).trans (hHeld.1)))), ((cell_far (p := ⟨gb305, _, none⟩) NB304_305.out _).trans (((cell_far (p := ⟨gb305, _, none⟩) NB304_305.out _).trans (hHeld.2))))⟩ (fun hHeld => ?_)
    clear hK K
    refine pz_ 18 5 (nb_ 19 524287) HT_.out ?_
    refine done_ (done_of HT_.out (by kernel_rfl)) ?_
    try go_wp2
    refine bodyPost_ret (results_ct rfl _ _ gb305 32 #[.int .i64 (wrap64 (IntKind.u64.wrap ((Go.bits .xor .u64 IntKind.u64.max a1_0) + 1))), .int .u64 (IntKind.u64.wrap ((Go.bits .xor .u64 IntKind.u64.max a1_1) + 1))] (0, 0) _ rfl (qpp_ #[.int .i64 (wrap64 (IntKind.u64.wrap ((Go.bits .xor .u64 IntKind.u64.max a1_0) + 1))), .int .u64 0] 1 #[.int .i64 0, .int .u64 0] 0 BK305.out) Tryd.underlying32 rfl (by kernel_rfl)) rfl ?_
    exact ⟨qe_, qb2_ GE304.out GE305.out HB.out⟩
   ·rw [if_neg c5] at H
    have c5b0 : decide (a1_0 < 9223372036854775808) = false := decide_eq_false c5
    clear c5
    by_cases c12 : a1_0 = 9223372036854775808
    ·rw [if_pos c12] at H
     have c12b0 : (a1_0 == 9223372036854775808) = true := beq_iff_eq.mpr c12
     have c12b1 : (a1_0 != 9223372036854775808) = false := bne_eq_false_iff_eq.mpr c12
     clear c12
     simp only [Option.some.injEq, Prod.mk.injEq] at H
     obtain ⟨rfl, rfl, rfl⟩ := H
     go_enter Tryd.func70, Tryd.ntmps70
     try go_wp2_with (first | ((with_reducible refine gate_dst (N := 3) rfl ?_); refine be_ (N := 3) (cs := #[.int .u64 a1_0, .int .u64 a1_1]) (t := 59) ?_; intro gb304 hg w13 hbox hb; have BK304 := am_ (hbox); have GE304 := am_ (bz_ hg (qb_ HB.out) : w.heap.size ≤ gb304); replace HB := am_ (below_step (qb_ HB.out) hb); clear hb hbox hg) | ((with_reducible refine gate_dst (N := 4) rfl ?_); refine be_ (N := 4) (cs := #[.int .i64 0, .int .u64 0]) (t := 32) ?_; intro gb305 hg w14 hbox hb; have BK305 := am_ (hbox); have GE305 := am_ (bz_ hg (qb1_ GE304.out HB.out) : w.heap.size ≤ gb305); replace HB := am_ (below_step (qb1_ GE304.out HB.out) hb); have NB304_305 := am_ (nl_ hg (qk_ BK304.out) : gb304 ≠ gb305); have NB305_304 := am_ (ng_ hg (qk_ BK304.out) : gb305 ≠ gb304); replace BK304 := am_ (blk_below (qk_ BK304.out) hb); clear hb hbox hg))
     replace BK304 := am_ (blk_drew BK304.out)
     replace BK305 := am_ (blk_drew BK305.out)
     replace HB := am_ (below_drew1 HB.out)
     refine start_ (n := 9) (S := cS2_ gb304 (.int .u64 a1_0) (.int .u64 a1_1)) (ds := []) (nb_ 9 0) (by kernel_rfl) rfl rfl (cc2_ BK304.out) (fun hHeld => ?_); refine with_tabW r01_JoinP.tab3 r01_JoinP.bits3 (fun HT_ HW_ => ?_)
     generalize w14.drew = w15 at BK304 BK305 HB hHeld ⊢
     refine pz_ 0 19 (nb_ 9 1) HT_.out ?_
     refine pz_ 4 23 (nb_ 9 17) HT_.out ?_
     refine tk2_ 1 20 (nb_ 9 19) HT_.out HW_.out hHeld ?_
     refine pz_ 2 21 (nb_ 9 23) HT_.out ?_
     refine pz_ 3 22 (nb_ 9 31) HT_.out ?_
     refine pz_ 7 6 (nb_ 9 159) HT_.out ?_
     refine tk2_ 5 24 (nb_ 9 191) HT_.out HW_.out hHeld ?_
     refine pz_ 6 25 (nb_ 9 255) HT_.out ?_
     refine pz_ 8 7 (nb_ 9 511) HT_.out ?_
     refine done_ (done_of HT_.out (by kernel_rfl)) ?_
     try go_wp2
     replace BK304 := am_ (blk_drew BK304.out)
     replace BK305 := am_ (blk_drew BK305.out)
     replace HB := am_ (below_drew1 HB.out)
     refine start_ (n := 19) (S := cS2_ gb304 (.int .u64 a1_0) (.int .u64 a1_1)) (ds := []) (nb_ 19 0) (by kernel_rfl) rfl rfl (cc2_ BK304.out) (fun hHeld => ?_); refine with_tabW r01_JoinP.tab6 r01_JoinP.bits6 (fun HT_ HW_ => ?_)
     generalize w15.drew = w16 at BK304 BK305 HB hHeld ⊢
     refine pz_ 0 30 (nb_ 19 1) HT_.out ?_
     refine pz_ 1 31 (nb_ 19 3) HT_.out ?_
     refine pz_ 2 32 (nb_ 19 7) HT_.out ?_
     refine pz_ 3 33 (nb_ 19 15) HT_.out ?_
     refine pz_ 4 34 (nb_ 19 31) HT_.out ?_
     refine tk2_ 5 35 (nb_ 19 63) HT_.out HW_.out hHeld ?_
     refine pz_ 6 36 (nb_ 19 127) HT_.out ?_
     refine pz_ 7 37 (nb_ 19 255) HT_.out ?_
     refine pz_ 8 38 (nb_ 19 511) HT_.out ?_
     refine tk2_ 9 39 (nb_ 19 1023) HT_.out HW_.out hHeld ?_
     refine pz_ 10 40 (nb_ 19 2047) HT_.out ?_
     refine pz_ 11 41 (nb_ 19 4095) HT_.out ?_
     refine pz_ 12 42 (nb_ 19 8191) HT_.out ?_
     refine tk2_ 13 43 (nb_ 19 16383) HT_.out HW_.out hHeld ?_
     refine pz_ 14 44 (nb_ 19 32767) HT_.out ?_
     refine pz_ 15 45 (nb_ 19 65535) HT_.out ?_
     refine pz_ 16 46 (nb_ 19 131071) HT_.out ?_
     refine one_ (i := 17) (N := none) (nb_ 19 262143) rfl rfl (one_of HT_.out (by kernel_rfl)) (by decide) (fun K hK => ?_)
     have hs17 : w16.cell? ⟨gb305, 0, none⟩ = some (.int .i64 0) := (blk_cell BK305.out 0).trans rfl
     have hfs17 := blk_frozen BK305.out 0
     have hns17_0 := NB304_305.out
     have hms17_0 := NB305_304.out
     have hs18 : w16.cell? ⟨gb305, 1, none⟩ = some (.int .u64 0) := (blk_cell BK305.out 1).trans rfl
     have hfs18 := blk_frozen BK305.out 1
     have hns18_0 := NB304_305.out
     have hms18_0 := NB305_304.out
     refine skip_ (w1 := ?_) (by rfl) rfl ?_ ?_
     rotate_left
     ·go_simp
      rfl
     refine hK.out _ _ ⟨((cell_far (p := ⟨gb305, _, none⟩) NB304_305.out _).trans (((cell_far (p := ⟨gb305, _, none⟩) NB304_305.out _).trans (hHeld.1)))), ((cell_far (p := ⟨gb305, _, none⟩) NB304_305.out _).trans (((cell_far (p := ⟨gb305, _, none⟩) NB304_305.out _).trans (hHeld.2))))⟩ (fun hHeld => ?_)
     clear hK K
     refine pz_ 18 5 (nb_ 19 524287) HT_.out ?_
     refine done_ (done_of HT_.out (by kernel_rfl)) ?_
     try go_wp2
     refine bodyPost_ret (results_ct rfl _ _ gb305 32 #[.int .i64 (wrap64 (IntKind.u64.wrap ((Go.bits .xor .u64 IntKind.u64.max a1_0) + 1))), .int .u64 (IntKind.u64.wrap ((Go.bits .xor .u64 IntKind.u64.max a1_1) + 1))] (0, 0) _ rfl (qpp_ #[.int .i64 (wrap64 (IntKind.u64.wrap ((Go.bits .xor .u64 IntKind.u64.max a1_0) + 1))), .int .u64 0] 1 #[.int .i64 0, .int .u64 0] 0 BK305.out) Tryd.underlying32 rfl (by kernel_rfl)) rfl ?_
     exact ⟨qe_, qb2_ GE304.out GE305.out HB.out⟩
    ·rw [if_neg c12] at H
     have c12b0 : (a1_0 == 9223372036854775808) = false := beq_eq_false_iff_ne.mpr c12
     have c12b1 : (a1_0 != 9223372036854775808) = true := bne_iff_ne.mpr c12
     simp only [Option.some.injEq, Prod.mk.injEq] at H
     obtain ⟨rfl, rfl, rfl⟩ := H
     go_enter Tryd.func70, Tryd.ntmps70
     try go_wp2_with (first | ((with_reducible refine gate_dst (N := 3) rfl ?_); refine be_ (N := 3) (cs := #[.int .u64 a1_0, .int .u64 a1_1]) (t := 59) ?_; intro gb304 hg w19 hbox hb; have BK304 := am_ (hbox); have GE304 := am_ (bz_ hg (qb_ HB.out) : w.heap.size ≤ gb304); replace HB := am_ (below_step (qb_ HB.out) hb); clear hb hbox hg) | ((with_reducible refine gate_dst (N := 4) rfl ?_); refine be_ (N := 4) (cs := #[.int .i64 0, .int .u64 0]) (t := 32) ?_; intro gb305 hg w20 hbox hb; have BK305 := am_ (hbox); have GE305 := am_ (bz_ hg (qb1_ GE304.out HB.out) : w.heap.size ≤ gb305); replace HB := am_ (below_step (qb1_ GE304.out HB.out) hb); have NB304_305 := am_ (nl_ hg (qk_ BK304.out) : gb304 ≠ gb305); have NB305_304 := am_ (ng_ hg (qk_ BK304.out) : gb305 ≠ gb304); replace BK304 := am_ (blk_below (qk_ BK304.out) hb); clear hb hbox hg))
     replace BK304 := am_ (blk_drew BK304.out)
     replace BK305 := am_ (blk_drew BK305.out)
     replace HB := am_ (below_drew1 HB.out)
     refine start_ (n := 9) (S := cS2_ gb304 (.int .u64 a1_0) (.int .u64 a1_1)) (ds := []) (nb_ 9 0) (by kernel_rfl) rfl rfl (cc2_ BK304.out) (fun hHeld => ?_); refine with_tabW r01_JoinP.tab3 r01_JoinP.bits3 (fun HT_ HW_ => ?_)
     generalize w20.drew = w21 at BK304 BK305 HB hHeld ⊢
     refine pz_ 0 19 (nb_ 9 1) HT_.out ?_
     refine pz_ 4 23 (nb_ 9 17) HT_.out ?_
     refine tk2_ 1 20 (nb_ 9 19) HT_.out HW_.out hHeld ?_
     refine pz_ 2 21 (nb_ 9 23) HT_.out ?_
     refine pz_ 3 22 (nb_ 9 31) HT_.out ?_
     refine pz_ 7 6 (nb_ 9 159) HT_.out ?_
     refine tk2_ 5 24 (nb_ 9 191) HT_.out HW_.out hHeld ?_
     refine pz_ 6 25 (nb_ 9 255) HT_.out ?_
     refine pz_ 8 7 (nb_ 9 511) HT_.out ?_
     refine done_ (done_of HT_.out (by kernel_rfl)) ?_
     try go_wp2
     replace BK304 := am_ (blk_drew BK304.out)
     replace BK305 := am_ (blk_drew BK305.out)
     replace HB := am_ (below_drew1 HB.out)
     refine start_ (n := 19) (S := cS2_ gb304 (.int .u64 a1_0) (.int .u64 a1_1)) (ds := []) (nb_ 19 0) (by kernel_rfl) rfl rfl (cc2_ BK304.out) (fun hHeld => ?_); refine with_tabW r01_JoinP.tab6 r01_JoinP.bits6 (fun HT_ HW_ => ?_)
     generalize w21.drew = w22 at BK304 BK305 HB hHeld ⊢
     refine pz_ 0 30 (nb_ 19 1) HT_.out ?_
     refine pz_ 1 31 (nb_ 19 3) HT_.out ?_
     refine pz_ 2 32 (nb_ 19 7) HT_.out ?_
     refine pz_ 3 33 (nb_ 19 15) HT_.out ?_
     refine pz_ 4 34 (nb_ 19 31) HT_.out ?_
     refine tk2_ 5 35 (nb_ 19 63) HT_.out HW_.out hHeld ?_
     refine pz_ 6 36 (nb_ 19 127) HT_.out ?_
     refine pz_ 7 37 (nb_ 19 255) HT_.out ?_
     refine pz_ 8 38 (nb_ 19 511) HT_.out ?_
     refine tk2_ 9 39 (nb_ 19 1023) HT_.out HW_.out hHeld ?_
     refine pz_ 10 40 (nb_ 19 2047) HT_.out ?_
     refine pz_ 11 41 (nb_ 19 4095) HT_.out ?_
     refine pu_ 12 42 (nb_ 19 8191) HT_.out ?_
     refine pu_ 13 43 (nb_ 19 16383) HT_.out ?_
     refine pu_ 14 44 (nb_ 19 32767) HT_.out ?_
     refine pz_ 15 45 (nb_ 19 65535) HT_.out ?_
     refine pz_ 16 46 (nb_ 19 131071) HT_.out ?_
     refine one_ (i := 17) (N := none) (nb_ 19 262143) rfl rfl (one_of HT_.out (by kernel_rfl)) (by decide) (fun K hK => ?_)
     have hs23 : w22.cell? ⟨gb305, 0, none⟩ = some (.int .i64 0) := (blk_cell BK305.out 0).trans rfl
     have hfs23 := blk_frozen BK305.out 0
     have hns23_0 := NB304_305.out
     have hms23_0 := NB305_304.out
     have hs24 : w22.cell? ⟨gb305, 1, none⟩ = some (.int .u64 0) := (blk_cell BK305.out 1).trans rfl
     have hfs24 := blk_frozen BK305.out 1
     have hns24_0 := NB304_305.out
     have hms24_0 := NB305_304.out
     refine skip_ (w1 := ?_) (by rfl) rfl ?_ ?_
     rotate_left
     ·go_simp
      rfl
     refine hK.out _ _ ⟨((cell_far (p := ⟨gb305, _, none⟩) NB304_305.out _).trans (((cell_far (p := ⟨gb305, _, none⟩) NB304_305.out _).trans (hHeld.1)))), ((cell_far (p := ⟨gb305, _, none⟩) NB304_305.out _).trans (((cell_far (p := ⟨gb305, _, none⟩) NB304_305.out _).trans (hHeld.2))))⟩ (fun hHeld => ?_)
     clear hK K
     refine pz_ 18 5 (nb_ 19 524287) HT_.out ?_
     refine done_ (done_of HT_.out (by kernel_rfl)) ?_
     try go_wp2
     refine bodyPost_ret (results_ct rfl _ _ gb305 32 #[.int .i64 (wrap64 (IntKind.u64.wrap ((Go.bits .xor .u64 IntKind.u64.max a1_0) + 1))), .int .u64 (IntKind.u64.wrap ((Go.bits .xor .u64 IntKind.u64.max a1_1) + 1))] (0, 0) _ rfl (qpp_ #[.int .i64 (wrap64 (IntKind.u64.wrap ((Go.bits .xor .u64 IntKind.u64.max a1_0) + 1))), .int .u64 0] 1 #[.int .i64 0, .int .u64 0] 0 BK305.out) Tryd.underlying32 rfl (by kernel_rfl)) rfl ?_
     exact ⟨qe_, qb2_ GE304.out GE305.out HB.out⟩
  ·rw [if_neg c4] at H
   have c4b0 : ((IntKind.u64.wrap ((Go.bits .xor .u64 IntKind.u64.max a1_1) + 1)) == 0) = false := beq_eq_false_iff_ne.mpr c4
   have c4b1 : ((IntKind.u64.wrap ((Go.bits .xor .u64 IntKind.u64.max a1_1) + 1)) != 0) = true := bne_iff_ne.mpr c4
   by_cases c25 : a1_0 < 9223372036854775808
   ·rw [if_pos c25] at H
    have c25b0 : decide (a1_0 < 9223372036854775808) = true := decide_eq_true c25
    clear c25
    simp only [Option.some.injEq, Prod.mk.injEq] at H
    obtain ⟨rfl, rfl, rfl⟩ := H
    go_enter Tryd.func70, Tryd.ntmps70
    try go_wp2_with (first | ((with_reducible refine gate_dst (N := 3) rfl ?_); refine be_ (N := 3) (cs := #[.int .u64 a1_0, .int .u64 a1_1]) (t := 59) ?_; intro gb304 hg w26 hbox hb; have BK304 := am_ (hbox); have GE304 := am_ (bz_ hg (qb_ HB.out) : w.heap.size ≤ gb304); replace HB := am_ (below_step (qb_ HB.out) hb); clear hb hbox hg) | ((with_reducible refine gate_dst (N := 4) rfl ?_); refine be_ (N := 4) (cs := #[.int .i64 0, .int .u64 0]) (t := 32) ?_; intro gb305 hg w27 hbox hb; have BK305 := am_ (hbox); have GE305 := am_ (bz_ hg (qb1_ GE304.out HB.out) : w.heap.size ≤ gb305); replace HB := am_ (below_step (qb1_ GE304.out HB.out) hb); have NB304_305 := am_ (nl_ hg (qk_ BK304.out) : gb304 ≠ gb305); have NB305_304 := am_ (ng_ hg (qk_ BK304.out) : gb305 ≠ gb304); replace BK304 := am_ (blk_below (qk_ BK304.out) hb); clear hb hbox hg))
    replace BK304 := am_ (blk_drew BK304.out)
    replace BK305 := am_ (blk_drew BK305.out)
    replace HB := am_ (below_drew1 HB.out)
    refine start_ (n := 9) (S := cS2_ gb304 (.int .u64 a1_0) (.int .u64 a1_1)) (ds := []) (nb_ 9 0) (by kernel_rfl) rfl rfl (cc2_ BK304.out) (fun hHeld => ?_); refine with_tabW r01_JoinP.tab3 r01_JoinP.bits3 (fun HT_ HW_ => ?_)
    generalize w27.drew = w28 at BK304 BK305 HB hHeld ⊢
    refine pz_ 0 19 (nb_ 9 1) HT_.out ?_
    refine pz_ 4 23 (nb_ 9 17) HT_.out ?_
    refine tk2_ 1 20 (nb_ 9 19) HT_.out HW_.out hHeld ?_
    refine pz_ 2 21 (nb_ 9 23) HT_.out ?_
    refine pz_ 3 22 (nb_ 9 31) HT_.out ?_
    refine pz_ 7 6 (nb_ 9 159) HT_.out ?_
    refine tk2_ 5 24 (nb_ 9 191) HT_.out HW_.out hHeld ?_
    refine pz_ 6 25 (nb_ 9 255) HT_.out ?_
    refine pz_ 8 7 (nb_ 9 511) HT_.out ?_
    refine done_ (done_of HT_.out (by kernel_rfl)) ?_
    try go_wp2
    replace BK304 := am_ (blk_drew BK304.out)
    replace BK305 := am_ (blk_drew BK305.out)
    replace HB := am_ (below_drew1 HB.out)
    refine start_ (n := 19) (S := cS2_ gb304 (.int .u64 a1_0) (.int .u64 a1_1)) (ds := []) (nb_ 19 0) (by kernel_rfl) rfl rfl (cc2_ BK304.out) (fun hHeld => ?_); refine with_tabW r01_JoinP.tab6 r01_JoinP.bits6 (fun HT_ HW_ => ?_)
    generalize w28.drew = w29 at BK304 BK305 HB hHeld ⊢
    refine pz_ 0 30 (nb_ 19 1) HT_.out ?_
    refine pz_ 1 31 (nb_ 19 3) HT_.out ?_
    refine pz_ 2 32 (nb_ 19 7) HT_.out ?_
    refine pz_ 3 33 (nb_ 19 15) HT_.out ?_
    refine pz_ 4 34 (nb_ 19 31) HT_.out ?_
    refine tk2_ 5 35 (nb_ 19 63) HT_.out HW_.out hHeld ?_
    refine pz_ 6 36 (nb_ 19 127) HT_.out ?_
    refine pz_ 7 37 (nb_ 19 255) HT_.out ?_
    refine pu_ 8 38 (nb_ 19 511) HT_.out ?_
    refine pu_ 9 39 (nb_ 19 1023) HT_.out ?_
    refine pu_ 10 40 (nb_ 19 2047) HT_.out ?_
    refine pu_ 11 41 (nb_ 19 4095) HT_.out ?_
    refine pu_ 12 42 (nb_ 19 8191) HT_.out ?_
    refine pu_ 13 43 (nb_ 19 16383) HT_.out ?_
    refine pu_ 14 44 (nb_ 19 32767) HT_.out ?_
    refine pu_ 15 45 (nb_ 19 65535) HT_.out ?_
    refine pz_ 16 46 (nb_ 19 131071) HT_.out ?_
    refine one_ (i := 17) (N := none) (nb_ 19 262143) rfl rfl (one_of HT_.out (by kernel_rfl)) (by decide) (fun K hK => ?_)
    have hs30 : w29.cell? ⟨gb305, 0, none⟩ = some (.int .i64 0) := (blk_cell BK305.out 0).trans rfl
    have hfs30 := blk_frozen BK305.out 0
    have hns30_0 := NB304_305.out
    have hms30_0 := NB305_304.out
    have hs31 : w29.cell? ⟨gb305, 1, none⟩ = some (.int .u64 0) := (blk_cell BK305.out 1).trans rfl
    have hfs31 := blk_frozen BK305.out 1
    have hns31_0 := NB304_305.out
    have hms31_0 := NB305_304.out
    refine skip_ (w1 := ?_) (by rfl) rfl ?_ ?_
    rotate_left
    ·go_simp
     rfl
    refine hK.out _ _ ⟨((cell_far (p := ⟨gb305, _, none⟩) NB304_305.out _).trans (((cell_far (p := ⟨gb305, _, none⟩) NB304_305.out _).trans (hHeld.1)))), ((cell_far (p := ⟨gb305, _, none⟩) NB304_305.out _).trans (((cell_far (p := ⟨gb305, _, none⟩) NB304_305.out _).trans (hHeld.2))))⟩ (fun hHeld => ?_)
    clear hK K
    refine pz_ 18 5 (nb_ 19 524287) HT_.out ?_
    refine done_ (done_of HT_.out (by kernel_rfl)) ?_
    try go_wp2
    refine bodyPost_ret (results_ct rfl _ _ gb305 32 #[.int .i64 (wrap64 (Go.bits .xor .u64 IntKind.u64.max a1_0)), .int .u64 (IntKind.u64.wrap ((Go.bits .xor .u64 IntKind.u64.max a1_1) + 1))] (0, 0) _ rfl (qpp_ #[.int .i64 (wrap64 (Go.bits .xor .u64 IntKind.u64.max a1_0)), .int .u64 0] 1 #[.int .i64 0, .int .u64 0] 0 BK305.out) Tryd.underlying32 rfl (by kernel_rfl)) rfl ?_
    exact ⟨qe_, qb2_ GE304.out GE305.out HB.out⟩
   ·rw [if_neg c25] at H
    have c25b0 : decide (a1_0 < 9223372036854775808) = false := decide_eq_false c25
    clear c25
    by_cases c32 : a1_0 = 9223372036854775808
    ·rw [if_pos c32] at H
     have c32b0 : (a1_0 == 9223372036854775808) = true := beq_iff_eq.mpr c32
     have c32b1 : (a1_0 != 9223372036854775808) = false := bne_eq_false_iff_eq.mpr c32
     clear c32
     simp only [Option.some.injEq, Prod.mk.injEq] at H
     obtain ⟨rfl, rfl, rfl⟩ := H
     go_enter Tryd.func70, Tryd.ntmps70
     try go_wp2_with (first | ((with_reducible refine gate_dst (N := 3) rfl ?_); refine be_ (N := 3) (cs := #[.int .u64 a1_0, .int .u64 a1_1]) (t := 59) ?_; intro gb304 hg w33 hbox hb; have BK304 := am_ (hbox); have GE304 := am_ (bz_ hg (qb_ HB.out) : w.heap.size ≤ gb304); replace HB := am_ (below_step (qb_ HB.out) hb); clear hb hbox hg) | ((with_reducible refine gate_dst (N := 4) rfl ?_); refine be_ (N := 4) (cs := #[.int .i64 0, .int .u64 0]) (t := 32) ?_; intro gb305 hg w34 hbox hb; have BK305 := am_ (hbox); have GE305 := am_ (bz_ hg (qb1_ GE304.out HB.out) : w.heap.size ≤ gb305); replace HB := am_ (below_step (qb1_ GE304.out HB.out) hb); have NB304_305 := am_ (nl_ hg (qk_ BK304.out) : gb304 ≠ gb305); have NB305_304 := am_ (ng_ hg (qk_ BK304.out) : gb305 ≠ gb304); replace BK304 := am_ (blk_below (qk_ BK304.out) hb); clear hb hbox hg))
     replace BK304 := am_ (blk_drew BK304.out)
     replace BK305 := am_ (blk_drew BK305.out)
     replace HB := am_ (below_drew1 HB.out)
     refine start_ (n := 9) (S := cS2_ gb304 (.int .u64 a1_0) (.int .u64 a1_1)) (ds := []) (nb_ 9 0) (by kernel_rfl) rfl rfl (cc2_ BK304.out) (fun hHeld => ?_); refine with_tabW r01_JoinP.tab3 r01_JoinP.bits3 (fun HT_ HW_ => ?_)
     generalize w34.drew = w35 at BK304 BK305 HB hHeld ⊢
     refine pz_ 0 19 (nb_ 9 1) HT_.out ?_
     refine pz_ 4 23 (nb_ 9 17) HT_.out ?_
     refine tk2_ 1 20 (nb_ 9 19) HT_.out HW_.out hHeld ?_
     refine pz_ 2 21 (nb_ 9 23) HT_.out ?_
     refine pz_ 3 22 (nb_ 9 31) HT_.out ?_
     refine pz_ 7 6 (nb_ 9 159) HT_.out ?_
     refine tk2_ 5 24 (nb_ 9 191) HT_.out HW_.out hHeld ?_
     refine pz_ 6 25 (nb_ 9 255) HT_.out ?_
     refine pz_ 8 7 (nb_ 9 511) HT_.out ?_
     refine done_ (done_of HT_.out (by kernel_rfl)) ?_
     try go_wp2
     replace BK304 := am_ (blk_drew BK304.out)
     replace BK305 := am_ (blk_drew BK305.out)
     replace HB := am_ (below_drew1 HB.out)
     refine start_ (n := 19) (S := cS2_ gb304 (.int .u64 a1_0) (.int .u64 a1_1)) (ds := []) (nb_ 19 0) (by kernel_rfl) rfl rfl (cc2_ BK304.out) (fun hHeld => ?_); refine with_tabW r01_JoinP.tab6 r01_JoinP.bits6 (fun HT_ HW_ => ?_)
     generalize w35.drew = w36 at BK304 BK305 HB hHeld ⊢
     refine pz_ 0 30 (nb_ 19 1) HT_.out ?_
     refine pz_ 1 31 (nb_ 19 3) HT_.out ?_
     refine pz_ 2 32 (nb_ 19 7) HT_.out ?_
     refine pz_ 3 33 (nb_ 19 15) HT_.out ?_
     refine pz_ 4 34 (nb_ 19 31) HT_.out ?_
     refine tk2_ 5 35 (nb_ 19 63) HT_.out HW_.out hHeld ?_
     refine pz_ 6 36 (nb_ 19 127) HT_.out ?_
     refine pz_ 7 37 (nb_ 19 255) HT_.out ?_
     refine pz_ 8 38 (nb_ 19 511) HT_.out ?_
     refine tk2_ 9 39 (nb_ 19 1023) HT_.out HW_.out hHeld ?_
     refine pz_ 10 40 (nb_ 19 2047) HT_.out ?_
     refine pz_ 11 41 (nb_ 19 4095) HT_.out ?_
     refine pz_ 12 42 (nb_ 19 8191) HT_.out ?_
     refine tk2_ 13 43 (nb_ 19 16383) HT_.out HW_.out hHeld ?_
     refine pz_ 14 44 (nb_ 19 32767) HT_.out ?_
     refine pz_ 15 45 (nb_ 19 65535) HT_.out ?_
     refine pz_ 16 46 (nb_ 19 131071) HT_.out ?_
     refine one_ (i := 17) (N := none) (nb_ 19 262143) rfl rfl (one_of HT_.out (by kernel_rfl)) (by decide) (fun K hK => ?_)
     have hs37 : w36.cell? ⟨gb305, 0, none⟩ = some (.int .i64 0) := (blk_cell BK305.out 0).trans rfl
     have hfs37 := blk_frozen BK305.out 0
     have hns37_0 := NB304_305.out
     have hms37_0 := NB305_304.out
     have hs38 : w36.cell? ⟨gb305, 1, none⟩ = some (.int .u64 0) := (blk_cell BK305.out 1).trans rfl
     have hfs38 := blk_frozen BK305.out 1
     have hns38_0 := NB304_305.out
     have hms38_0 := NB305_304.out
     refine skip_ (w1 := ?_) (by rfl) rfl ?_ ?_
     rotate_left
     ·go_simp
      rfl
     refine hK.out _ _ ⟨((cell_far (p := ⟨gb305, _, none⟩) NB304_305.out _).trans (((cell_far (p := ⟨gb305, _, none⟩) NB304_305.out _).trans (hHeld.1)))), ((cell_far (p := ⟨gb305, _, none⟩) NB304_305.out _).trans (((cell_far (p := ⟨gb305, _, none⟩) NB304_305.out _).trans (hHeld.2))))⟩ (fun hHeld => ?_)
     clear hK K
     refine pz_ 18 5 (nb_ 19 524287) HT_.out ?_
     refine done_ (done_of HT_.out (by kernel_rfl)) ?_
     try go_wp2
     refine bodyPost_ret (results_ct rfl _ _ gb305 32 #[.int .i64 (wrap64 (Go.bits .xor .u64 IntKind.u64.max a1_0)), .int .u64 (IntKind.u64.wrap ((Go.bits .xor .u64 IntKind.u64.max a1_1) + 1))] (0, 0) _ rfl (qpp_ #[.int .i64 (wrap64 (Go.bits .xor .u64 IntKind.u64.max a1_0)), .int .u64 0] 1 #[.int .i64 0, .int .u64 0] 0 BK305.out) Tryd.underlying32 rfl (by kernel_rfl)) rfl ?_
     exact ⟨qe_, qb2_ GE304.out GE305.out HB.out⟩
    ·rw [if_neg c32] at H
     have c32b0 : (a1_0 == 9223372036854775808) = false := beq_eq_false_iff_ne.mpr c32
     have c32b1 : (a1_0 != 9223372036854775808) = true := bne_iff_ne.mpr c32
     simp only [Option.some.injEq, Prod.mk.injEq] at H
     obtain ⟨rfl, rfl, rfl⟩ := H
     go_enter Tryd.func70, Tryd.ntmps70
     try go_wp2_with (first | ((with_reducible refine gate_dst (N := 3) rfl ?_); refine be_ (N := 3) (cs := #[.int .u64 a1_0, .int .u64 a1_1]) (t := 59) ?_; intro gb304 hg w39 hbox hb; have BK304 := am_ (hbox); have GE304 := am_ (bz_ hg (qb_ HB.out) : w.heap.size ≤ gb304); replace HB := am_ (below_step (qb_ HB.out) hb); clear hb hbox hg) | ((with_reducible refine gate_dst (N := 4) rfl ?_); refine be_ (N := 4) (cs := #[.int .i64 0, .int .u64 0]) (t := 32) ?_; intro gb305 hg w40 hbox hb; have BK305 := am_ (hbox); have GE305 := am_ (bz_ hg (qb1_ GE304.out HB.out) : w.heap.size ≤ gb305); replace HB := am_ (below_step (qb1_ GE304.out HB.out) hb); have NB304_305 := am_ (nl_ hg (qk_ BK304.out) : gb304 ≠ gb305); have NB305_304 := am_ (ng_ hg (qk_ BK304.out) : gb305 ≠ gb304); replace BK304 := am_ (blk_below (qk_ BK304.out) hb); clear hb hbox hg))
     replace BK304 := am_ (blk_drew BK304.out)
     replace BK305 := am_ (blk_drew BK305.out)
     replace HB := am_ (below_drew1 HB.out)
     refine start_ (n := 9) (S := cS2_ gb304 (.int .u64 a1_0) (.int .u64 a1_1)) (ds := []) (nb_ 9 0) (by kernel_rfl) rfl rfl (cc2_ BK304.out) (fun hHeld => ?_); refine with_tabW r01_JoinP.tab3 r01_JoinP.bits3 (fun HT_ HW_ => ?_)
     generalize w40.drew = w41 at BK304 BK305 HB hHeld ⊢
     refine pz_ 0 19 (nb_ 9 1) HT_.out ?_
     refine pz_ 4 23 (nb_ 9 17) HT_.out ?_
     refine tk2_ 1 20 (nb_ 9 19) HT_.out HW_.out hHeld ?_
     refine pz_ 2 21 (nb_ 9 23) HT_.out ?_
     refine pz_ 3 22 (nb_ 9 31) HT_.out ?_
     refine pz_ 7 6 (nb_ 9 159) HT_.out ?_
     refine tk2_ 5 24 (nb_ 9 191) HT_.out HW_.out hHeld ?_
     refine pz_ 6 25 (nb_ 9 255) HT_.out ?_
     refine pz_ 8 7 (nb_ 9 511) HT_.out ?_
     refine done_ (done_of HT_.out (by kernel_rfl)) ?_
     try go_wp2
     replace BK304 := am_ (blk_drew BK304.out)
     replace BK305 := am_ (blk_drew BK305.out)
     replace HB := am_ (below_drew1 HB.out)
     refine start_ (n := 19) (S := cS2_ gb304 (.int .u64 a1_0) (.int .u64 a1_1)) (ds := []) (nb_ 19 0) (by kernel_rfl) rfl rfl (cc2_ BK304.out) (fun hHeld => ?_); refine with_tabW r01_JoinP.tab6 r01_JoinP.bits6 (fun HT_ HW_ => ?_)
     generalize w41.drew = w42 at BK304 BK305 HB hHeld ⊢
     refine pz_ 0 30 (nb_ 19 1) HT_.out ?_
     refine pz_ 1 31 (nb_ 19 3) HT_.out ?_
     refine pz_ 2 32 (nb_ 19 7) HT_.out ?_
     refine pz_ 3 33 (nb_ 19 15) HT_.out ?_
     refine pz_ 4 34 (nb_ 19 31) HT_.out ?_
     refine tk2_ 5 35 (nb_ 19 63) HT_.out HW_.out hHeld ?_
     refine pz_ 6 36 (nb_ 19 127) HT_.out ?_
     refine pz_ 7 37 (nb_ 19 255) HT_.out ?_
     refine pz_ 8 38 (nb_ 19 511) HT_.out ?_
     refine tk2_ 9 39 (nb_ 19 1023) HT_.out HW_.out hHeld ?_
     refine pz_ 10 40 (nb_ 19 2047) HT_.out ?_
     refine pz_ 11 41 (nb_ 19 4095) HT_.out ?_
     refine pu_ 12 42 (nb_ 19 8191) HT_.out ?_
     refine pu_ 13 43 (nb_ 19 16383) HT_.out ?_
     refine pu_ 14 44 (nb_ 19 32767) HT_.out ?_
     refine pz_ 15 45 (nb_ 19 65535) HT_.out ?_
     refine pz_ 16 46 (nb_ 19 131071) HT_.out ?_
     refine one_ (i := 17) (N := none) (nb_ 19 262143) rfl rfl (one_of HT_.out (by kernel_rfl)) (by decide) (fun K hK => ?_)
     have hs43 : w42.cell? ⟨gb305, 0, none⟩ = some (.int .i64 0) := (blk_cell BK305.out 0).trans rfl
     have hfs43 := blk_frozen BK305.out 0
     have hns43_0 := NB304_305.out
     have hms43_0 := NB305_304.out
     have hs44 : w42.cell? ⟨gb305, 1, none⟩ = some (.int .u64 0) := (blk_cell BK305.out 1).trans rfl
     have hfs44 := blk_frozen BK305.out 1
     have hns44_0 := NB304_305.out
     have hms44_0 := NB305_304.out
     refine skip_ (w1 := ?_) (by rfl) rfl ?_ ?_
     rotate_left
     ·go_simp
      rfl
     refine hK.out _ _ ⟨((cell_far (p := ⟨gb305, _, none⟩) NB304_305.out _).trans (((cell_far (p := ⟨gb305, _, none⟩) NB304_305.out _).trans (hHeld.1)))), ((cell_far (p := ⟨gb305, _, none⟩) NB304_305.out _).trans (((cell_far (p := ⟨gb305, _, none⟩) NB304_305.out _).trans (hHeld.2))))⟩ (fun hHeld => ?_)
     clear hK K
     refine pz_ 18 5 (nb_ 19 524287) HT_.out ?_
     refine done_ (done_of HT_.out (by kernel_rfl)) ?_
     try go_wp2
     refine bodyPost_ret (results_ct rfl _ _ gb305 32 #[.int .i64 (wrap64 (Go.bits .xor .u64 IntKind.u64.max a1_0)), .int .u64 (IntKind.u64.wrap ((Go.bits .xor .u64 IntKind.u64.max a1_1) + 1))] (0, 0) _ rfl (qpp_ #[.int .i64 (wrap64 (Go.bits .xor .u64 IntKind.u64.max a1_0)), .int .u64 0] 1 #[.int .i64 0, .int .u64 0] 0 BK305.out) Tryd.underlying32 rfl (by kernel_rfl)) rfl ?_
     exact ⟨qe_, qb2_ GE304.out GE305.out HB.out⟩
 ·replace c3 := Bool.eq_false_iff.mpr c3
  subst c3
  rw [if_neg (show ¬ (false = true) by decide)] at H
  simp only [Option.some.injEq, Prod.mk.injEq] at H
  obtain ⟨rfl, rfl, rfl⟩ := H
  go_enter Tryd.func70, Tryd.ntmps70
  try go_wp2_with (first | ((with_reducible refine gate_dst (N := 3) rfl ?_); refine be_ (N := 3) (cs := #[.int .u64 a1_0, .int .u64 a1_1]) (t := 59) ?_; intro gb304 hg w45 hbox hb; have BK304 := am_ (hbox); have GE304 := am_ (bz_ hg (qb_ HB.out) : w.heap.size ≤ gb304); replace HB := am_ (below_step (qb_ HB.out) hb); clear hb hbox hg) | ((with_reducible refine gate_dst (N := 4) rfl ?_); refine be_ (N := 4) (cs := #[.int .i64 0, .int .u64 0]) (t := 32) ?_; intro gb305 hg w46 hbox hb; have BK305 := am_ (hbox); have GE305 := am_ (bz_ hg (qb1_ GE304.out HB.out) : w.heap.size ≤ gb305); replace HB := am_ (below_step (qb1_ GE304.out HB.out) hb); have NB304_305 := am_ (nl_ hg (qk_ BK304.out) : gb304 ≠ gb305); have NB305_304 := am_ (ng_ hg (qk_ BK304.out) : gb305 ≠ gb304); replace BK304 := am_ (blk_below (qk_ BK304.out) hb); clear hb hbox hg))
  replace BK304 := am_ (blk_drew BK304.out)
  replace BK305 := am_ (blk_drew BK305.out)
  replace HB := am_ (below_drew1 HB.out)
  refine start_ (n := 11) (S := cS2_ gb304 (.int .u64 a1_0) (.int .u64 a1_1)) (ds := []) (nb_ 11 0) (by kernel_rfl) rfl rfl (cc2_ BK304.out) (fun hHeld => ?_); refine with_tabW r01_JoinP.tab2 r01_JoinP.bits2 (fun HT_ HW_ => ?_)
  generalize w46.drew = w47 at BK305 HB hHeld ⊢
  refine pz_ 0 10 (nb_ 11 1) HT_.out ?_
  refine pz_ 3 13 (nb_ 11 9) HT_.out ?_
  refine pz_ 6 16 (nb_ 11 73) HT_.out ?_
  refine tk2_ 1 11 (nb_ 11 75) HT_.out HW_.out hHeld ?_
  refine pz_ 2 12 (nb_ 11 79) HT_.out ?_
  refine tk2_ 4 14 (nb_ 11 95) HT_.out HW_.out hHeld ?_
  refine pz_ 5 15 (nb_ 11 127) HT_.out ?_
  refine tk2_ 7 17 (nb_ 11 255) HT_.out HW_.out hHeld ?_
  refine pz_ 8 18 (nb_ 11 511) HT_.out ?_
  refine one_ (i := 9) (N := none) (nb_ 11 1023) rfl rfl (one_of HT_.out (by kernel_rfl)) (by decide) (fun K hK => ?_)
  have hs48 : w47.cell? ⟨gb305, 0, none⟩ = some (.int .i64 0) := (blk_cell BK305.out 0).trans rfl
  have hfs48 := blk_frozen BK305.out 0
  have hns48_0 := NB304_305.out
  have hms48_0 := NB305_304.out
  have hs49 : w47.cell? ⟨gb305, 1, none⟩ = some (.int .u64 0) := (blk_cell BK305.out 1).trans rfl
  have hfs49 := blk_frozen BK305.out 1
  have hns49_0 := NB304_305.out
  have hms49_0 := NB305_304.out
  refine skip_ (w1 := ?_) (by rfl) rfl ?_ ?_
  rotate_left
  ·go_simp
   rfl
  refine hK.out _ _ ⟨((cell_far (p := ⟨gb305, _, none⟩) NB304_305.out _).trans (((cell_far (p := ⟨gb305, _, none⟩) NB304_305.out _).trans (hHeld.1)))), ((cell_far (p := ⟨gb305, _, none⟩) NB304_305.out _).trans (((cell_far (p := ⟨gb305, _, none⟩) NB304_305.out _).trans (hHeld.2))))⟩ (fun hHeld => ?_)
  clear hK K
  refine pz_ 10 5 (nb_ 11 2047) HT_.out ?_
  refine done_ (done_of HT_.out (by kernel_rfl)) ?_
  try go_wp2
  refine bodyPost_ret (results_ct rfl _ _ gb305 32 #[.int .i64 (wrap64 (a1_0)), .int .u64 a1_1] (0, 0) _ rfl (qpp_ #[.int .i64 (wrap64 (a1_0)), .int .u64 0] 1 #[.int .i64 0, .int .u64 0] 0 BK305.out) Tryd.underlying32 rfl (by kernel_rfl)) rfl ?_
  exact ⟨qe_, qb2_ GE304.out GE305.out HB.out⟩
def r01_Join.f (a0 : Bool) (a1_0 a1_1 : Int) : Option (Int × Int × Bool) :=
 if inU a1_0 ∧ inU a1_1 then
  some (wrap64 ((if a0 = true then -(wv a1_0 a1_1) else wv a1_0 a1_1) / 18446744073709551616), (if a0 = true then -(wv a1_0 a1_1) else wv a1_0 a1_1) % 18446744073709551616, decide (in128 (if a0 = true then -(wv a1_0 a1_1) else wv a1_0 a1_1))) else none
theorem r01_Join.eq {n : Bool} {a b : Int} {r : Int × Int × Bool} (h : r01_Join.f n a b = some r) : r01_JoinP.f n a b = some r := by
 unfold r01_Join.f at h
 split at h
 ·rename_i c
  obtain ⟨⟨c0, c1⟩, c2, c3⟩ := c
  injection h with h
  subst h
  unfold r01_JoinP.f
  rw [xorMax b c2 c3, xorMax a c0 c1]
  simp only [IntKind.wrap_u64]
  cases n with
  | true =>
   simp only [if_true]
   unfold wv
   split <;> split
   ·rw [decide_eq_true (by unfold in128; omega)]; congr 2
    ·unfold wrap64; omega
    ·congr 1; omega
   ·split
    ·congr 2
     ·unfold wrap64; omega
     ·congr 1
      ·omega
      ·rw [Bool.eq_iff_iff, beq_iff_eq, decide_eq_true_eq]; unfold in128; omega
    ·rw [decide_eq_false (by unfold in128; omega)]; congr 2
     ·unfold wrap64; omega
     ·congr 1; omega
   ·rw [decide_eq_true (by unfold in128; omega)]; congr 2
    ·unfold wrap64; omega
    ·congr 1; omega
   ·split
    ·congr 2
     ·unfold wrap64; omega
     ·congr 1
      ·omega
      ·rw [Bool.eq_iff_iff, beq_iff_eq, decide_eq_true_eq]; unfold in128; omega
    ·rw [decide_eq_false (by unfold in128; omega)]; congr 2
     ·unfold wrap64; omega
     ·congr 1; omega
  | false =>
   simp only [Bool.false_eq_true, if_false]
   unfold wv
   congr 2
   ·unfold wrap64; omega
   ·congr 1
    ·omega
    ·apply decide_eq_decide.mpr; unfold in128; omega
 ·cases h
theorem r01_Join.calls (a0 : Bool) (a1_0 a1_1 r1 r2 : Int) (r3 : Bool) (w : World) (h : r01_Join.f a0 a1_0 a1_1 = some (r1, r2, r3)) :
  Calls Tryd.prog 70 #[.bool a0, .agg #[.int .u64 a1_0, .int .u64 a1_1]] w fun e w' => e = .returned (.tuple #[.agg #[.int .i64 r1, .int .u64 r2], .bool r3]) ∧ Below w.heap.size w w' := by
 have h := r01_Join.eq h
 exact r01_JoinP.calls a0 a1_0 a1_1 r1 r2 r3 w h
/-- The sum of two magnitudes modulo 2^128, and whether it is less than that. -/
def r01_plus.f (a0_0 a0_1 a1_0 a1_1 : Int) : Option (Int × Int × Bool) :=
 if (inU a0_0 ∧ inU a0_1) ∧ inU a1_0 ∧ inU a1_1 then
  some ((wv a0_0 a0_1 + wv a1_0 a1_1) / 18446744073709551616 % 18446744073709551616, (wv a0_0 a0_1 + wv a1_0 a1_1) % 18446744073709551616, decide (wv a0_0 a0_1 + wv a1_0 a1_1 < 340282366920938463463374607431768211456)) else none
set_option maxHeartbeats 4000000 in
set_option maxRecDepth 100000 in
theorem r01_plus.calls (a0_0 a0_1 a1_0 a1_1 r1 r2 : Int) (r3 : Bool) (w : World) (h : r01_plus.f a0_0 a0_1 a1_0 a1_1 = some (r1, r2, r3)) :
  Calls Tryd.prog 67 #[.agg #[.int .u64 a0_0, .int .u64 a0_1], .agg #[.int .u64 a1_0, .int .u64 a1_1]] w fun e w' => e = .returned (.tuple #[.agg #[.int .u64 r1, .int .u64 r2], .bool r3]) ∧ Below w.heap.size w w' := by
 unfold r01_plus.f at h
 split at h
 ·rename_i c
  obtain ⟨⟨⟨p0, p1⟩, q0, q1⟩, ⟨s0, s1⟩, t0, t1⟩ := c
  injection h with h
  injection h with h1 h
  injection h with h2 h3
  have H1 := am_ h1
  have H2 := am_ h2
  have H3 := am_ h3
  clear h1 h2 h3
  go_enter Tryd.func67, Tryd.ntmps67
  go_wp2
  all_goals
   refine bodyPost_ret (v := .tuple #[.agg #[.int .u64 r1, .int .u64 r2], .bool r3]) ?_ rfl ⟨rfl, (((Below.refl _ _).alloc (Nat.le_refl _) _).alloc (by simp) _).alloc (by simp; omega) _⟩
   simp [results, Tryd.results67, go_sem]
   have h1 := H1.out
   have h2 := H2.out
   have h3 := H3.out
   clear H1 H2 H3
   go_light
   subst h1 h2 h3
   simp only [IntKind.wrap_u64] at *
   unfold wv
   refine ⟨⟨by omega, by omega⟩, ?_⟩
   first
    | (apply decide_eq_decide.mpr; omega)
    | (apply decide_eq_false; omega)
    | (apply decide_eq_true; omega)
    | omega
 ·cases h
mutual
def r01_timesP.l0 : Nat → Int → Bool → Int → Int → Int → Int → Int → Option (Int × Int × Bool)
 | 0, _, _, _, _, _, _, _ => none
 | k + 1, x1, x7, x8, x307000, x307001, x309000, x309001 => if x8 < 64 then ((r01_plus.f x309000 x309001 x309000 x309001).bind fun bt309 => (if x7 = true then (r01_timesP.j1 k x1 bt309.2.2 x8 x307000 x307001 bt309.1 bt309.2.1) else (r01_timesP.j1 k x1 false x8 x307000 x307001 bt309.1 bt309.2.1))) else (some (x309000, x309001, x7))
def r01_timesP.j1 : Nat → Int → Bool → Int → Int → Int → Int → Int → Option (Int × Int × Bool)
 | 0, _, _, _, _, _, _, _ => none
 | k + 1, x1, x7, x8, x307000, x307001, x309000, x309001 => if (Go.bits .and .u64 x1 9223372036854775808) = 0 then (r01_timesP.l0 k (IntKind.u64.wrap (x1 * 2)) x7 (wrap64 (x8 + 1)) x307000 x307001 x309000 x309001) else ((r01_plus.f x309000 x309001 x307000 x307001).bind fun bt313 => (if x7 = true then (r01_timesP.l0 k (IntKind.u64.wrap (x1 * 2)) bt313.2.2 (wrap64 (x8 + 1)) x307000 x307001 bt313.1 bt313.2.1) else (r01_timesP.l0 k (IntKind.u64.wrap (x1 * 2)) false (wrap64 (x8 + 1)) x307000 x307001 bt313.1 bt313.2.1)))
end
def r01_timesP.f (k : Nat) (a0_0 a0_1 a1 : Int) : Option (Int × Int × Bool) := r01_timesP.l0 k a1 true 0 a0_0 a0_1 0 0
set_option maxHeartbeats 8000000 in
set_option maxRecDepth 100000 in
theorem r01_timesP.calls (k : Nat) (a0_0 a0_1 a1 r1 r2 : Int) (r3 : Bool) (w : World) (h : r01_timesP.f k a0_0 a0_1 a1 = some (r1, r2, r3)) :
  Calls Tryd.prog 86 #[.agg #[.int .u64 a0_0, .int .u64 a0_1], .int .u64 a1] w fun e w' => e = .returned (.tuple #[.agg #[.int .u64 r1, .int .u64 r2], .bool r3]) ∧ Below w.heap.size w w' := by
 have hu59 := Tryd.underlying59
 have HB := am_ (Below.refl w.heap.size w)
 have H := h
 clear h
 unfold r01_timesP.f at H
 have H' := am_ H
 clear H
 go_enter Tryd.func86, Tryd.ntmps86
 go_wp2_with (first | ((with_reducible refine gate_dst (N := 2) rfl ?_); refine be_ (N := 2) (cs := #[.int .u64 a0_0, .int .u64 a0_1]) (t := 59) ?_; intro gb306 hg w3 hbox hb; have BK306 := am_ (hbox); have GE306 := am_ (bz_ hg (qb_ HB.out) : w.heap.size ≤ gb306); replace HB := am_ (below_step (qb_ HB.out) hb); clear hb hbox hg) | ((with_reducible refine gate_dst (N := 4) rfl ?_); refine be_ (N := 4) (cs := #[.int .u64 0, .int .u64 0]) (t := 59) ?_; intro gb307 hg w4 hbox hb; have BK307 := am_ (hbox); have GE307 := am_ (bz_ hg (qb1_ GE306.out HB.out) : w.heap.size ≤ gb307); replace HB := am_ (below_step (qb1_ GE306.out HB.out) hb); have NB306_307 := am_ (nl_ hg (qk_ BK306.out) : gb306 ≠ gb307); have NB307_306 := am_ (ng_ hg (qk_ BK306.out) : gb307 ≠ gb306); replace BK306 := am_ (blk_below (qk_ BK306.out) hb); clear hb hbox hg) | ((with_reducible refine gate_dst (N := 6) rfl ?_); refine be_ (N := 6) (cs := #[.int .u64 0, .int .u64 0]) (t := 59) ?_; intro gb308 hg w5 hbox hb; have BK308 := am_ (hbox); have GE308 := am_ (bz_ hg (qb2_ GE306.out GE307.out HB.out) : w.heap.size ≤ gb308); replace HB := am_ (below_step (qb2_ GE306.out GE307.out HB.out) hb); have NB306_308 := am_ (nl_ hg (qk_ BK306.out) : gb306 ≠ gb308); have NB308_306 := am_ (ng_ hg (qk_ BK306.out) : gb308 ≠ gb306); replace BK306 := am_ (blk_below (qk_ BK306.out) hb); have NB307_308 := am_ (nl_ hg (qk_ BK307.out) : gb307 ≠ gb308); have NB308_307 := am_ (ng_ hg (qk_ BK307.out) : gb308 ≠ gb307); replace BK307 := am_ (blk_below (qk_ BK307.out) hb); clear hb hbox hg; have hnb6 := NB308_306.out; have hnc6 := NB306_308.out; have hnb7 := NB308_307.out; have hnc7 := NB307_308.out; obtain ⟨Z8_0, Z8_1, Y8_0, Y8_1⟩ := cz2_ BK308.out))
 go_loopg [1, 7, 8] k (fun kq v1 v7 v8 w' => ∃ (x1_1 : Int) (x7_1 : Bool) (x8_1 x309000_1 x309001_1 : Int), v1 = .int .u64 x1_1 ∧ v7 = .bool x7_1 ∧ v8 = .int .i64 x8_1 ∧ Aside0 (r01_timesP.l0 kq x1_1 x7_1 x8_1 a0_0 a0_1 x309000_1 x309001_1 = some (r1, r2, r3)) ∧ Aside0 (kq ≤ k) ∧ Aside0 (w'.heap[gb306]? = some (.cells #[.int .u64 a0_0, .int .u64 a0_1] 59 (0, 0))) ∧ Aside0 (w'.heap[gb307]? = some (.cells #[.int .u64 0, .int .u64 0] 59 (0, 0))) ∧ Aside0 (w'.heap[gb308]? = some (.cells #[.int .u64 x309000_1, .int .u64 x309001_1] 59 (0, 0))) ∧ Aside0 (Below w.heap.size w w'))
 case atStart => exact ⟨(a1), (true), (0), (0), (0), qs_, qs_, qs_, H', ⟨Nat.le_refl _⟩, ⟨qff_ NB306_308.out NB306_308.out BK306.out⟩, ⟨qff_ NB307_308.out NB307_308.out BK307.out⟩, ⟨qpp_ #[.int .u64 0, .int .u64 0] 1 #[.int .u64 0, .int .u64 0] 0 BK308.out⟩, ⟨qb3_ GE306.out GE307.out GE308.out HB.out⟩⟩
 case round =>
  clear H'
  try clear p2
  try clear c6
  try clear c7
  try clear c8
  (try clear Z8_0 Z8_1 Y8_0 Y8_1)
  obtain ⟨x1_1, x7_1, x8_1, x309000_1, x309001_1, rfl, rfl, rfl, HA, HK1, BK306, BK307, BK308, HB⟩ := hrel
  cases gk with
  | zero => exact absurd HA.out (by simp [r01_timesP.l0])
  | succ k1 =>
   have H := HA.out
   clear HA
   simp only [r01_timesP.l0] at H
   by_cases c9 : x8_1 < 64
   ·rw [if_pos c9] at H
    have c9b0 : decide (x8_1 < 64) = true := decide_eq_true c9
    clear c9
    replace H := Option.bind_eq_some_iff.mp H
    obtain ⟨⟨t309, t310, t311⟩, A100, H⟩ := H
    (try dsimp only at H)
    have A10 := am_ A100
    clear A100
    have HC11 := am_ H
    clear H
    have hnb12 := NB308_306.out
    have hnc12 := NB306_308.out
    have hnb13 := NB308_307.out
    have hnc13 := NB307_308.out
    obtain ⟨Z14_0, Z14_1, Y14_0, Y14_1⟩ := cz2_ BK308.out
    go_upto_region 8 with (first | ((with_reducible refine gate_callee (f := 67) rfl ?_); refine goesL_ (some 19) rfl rfl Tryd.func67 (by kernel_rfl) rfl #[.agg #[.int .u64 x309000_1, .int .u64 x309001_1], .agg #[.int .u64 x309000_1, .int .u64 x309001_1]] rfl ql_ ?_; (with_reducible refine (r01_plus.calls x309000_1 x309001_1 x309000_1 x309001_1 t309 t310 t311 _ A10.out).mono ?_); rintro e w15 ⟨rfl, hb⟩; refine ⟨_, rfl, ?_⟩; replace BK306 := am_ (blk_below (qk_ BK306.out) hb); replace BK307 := am_ (blk_below (qk_ BK307.out) hb); replace BK308 := am_ (blk_below (qk_ BK308.out) hb); replace HB := am_ (below_step (qb3_ GE306.out GE307.out GE308.out HB.out) hb); (try clear hb)) | ((with_reducible refine gate_dst (N := 9) rfl ?_); refine be_ (N := 9) (cs := #[.int .u64 0, .int .u64 0]) (t := 59) ?_; intro gb312 hg w16 hbox hb; have BK312 := am_ (hbox); have GE312 := am_ (bz_ hg (qb3_ GE306.out GE307.out GE308.out HB.out) : w.heap.size ≤ gb312); replace HB := am_ (below_step (qb3_ GE306.out GE307.out GE308.out HB.out) hb); have NB306_312 := am_ (nl_ hg (qk_ BK306.out) : gb306 ≠ gb312); have NB312_306 := am_ (ng_ hg (qk_ BK306.out) : gb312 ≠ gb306); replace BK306 := am_ (blk_below (qk_ BK306.out) hb); have NB307_312 := am_ (nl_ hg (qk_ BK307.out) : gb307 ≠ gb312); have NB312_307 := am_ (ng_ hg (qk_ BK307.out) : gb312 ≠ gb307); replace BK307 := am_ (blk_below (qk_ BK307.out) hb); have NB308_312 := am_ (nl_ hg (qk_ BK308.out) : gb308 ≠ gb312); have NB312_308 := am_ (ng_ hg (qk_ BK308.out) : gb312 ≠ gb308); replace BK308 := am_ (blk_below (qk_ BK308.out) hb); clear hb hbox hg; have hnb17 := NB312_306.out; have hnc17 := NB306_312.out; have hnb18 := NB312_307.out; have hnc18 := NB307_312.out; have hnb19 := NB312_308.out; have hnc19 := NB308_312.out; obtain ⟨Z20_0, Z20_1, Y20_0, Y20_1⟩ := cz2_ BK312.out; obtain ⟨Z21_0, Z21_1, Y21_0, Y21_1⟩ := cz2_ BK308.out))
    (try simp only [Act.put, List.setIfInBounds_toArray, List.set_cons_zero, List.set_cons_succ])
    go_cut [7] (fun v7 wc => ∃ (kq : Nat) (x7_10 : Bool), v7 = .bool x7_10 ∧ Aside0 (r01_timesP.j1 kq x1_1 x7_10 x8_1 a0_0 a0_1 t309 t310 = some (r1, r2, r3)) ∧ Aside0 (kq ≤ k1) ∧ Aside0 (wc.heap[gb306]? = some (.cells #[.int .u64 a0_0, .int .u64 a0_1] 59 (0, 0))) ∧ Aside0 (wc.heap[gb307]? = some (.cells #[.int .u64 0, .int .u64 0] 59 (0, 0))) ∧ Aside0 (wc.heap[gb308]? = some (.cells #[.int .u64 t309, .int .u64 t310] 59 (0, 0))) ∧ Aside0 (wc.heap[gb312]? = some (.cells #[.int .u64 t309, .int .u64 t310] 59 (0, 0))) ∧ Aside0 (Below w.heap.size w wc))
    case first =>
     have H := HC11.out
     clear HC11
     by_cases c22 : x7_1 = true
     ·subst c22
      rw [if_pos rfl] at H
      have H' := am_ H
      clear H
      go_wp2
      go_meet
      case rel => exact ⟨_, (t311), qs_, H', ⟨by have := HK1.out; first | omega | exact Nat.le_refl _⟩, ⟨qffff_ NB306_308.out NB306_308.out NB306_312.out NB306_312.out BK306.out⟩, ⟨qffff_ NB307_308.out NB307_308.out NB307_312.out NB307_312.out BK307.out⟩, ⟨qppff_ #[.int .u64 t309, .int .u64 x309001_1] 1 #[.int .u64 x309000_1, .int .u64 x309001_1] 0 NB308_312.out NB308_312.out BK308.out⟩, ⟨qffpp_ NB312_308.out NB312_308.out #[.int .u64 t309, .int .u64 0] 1 #[.int .u64 0, .int .u64 0] 0 BK312.out⟩, ⟨qb4_ GE306.out GE307.out GE308.out GE312.out HB.out⟩⟩
     ·replace c22 := Bool.eq_false_iff.mpr c22
      subst c22
      rw [if_neg (show ¬ (false = true) by decide)] at H
      have H' := am_ H
      clear H
      go_wp2
      go_meet
      case rel => exact ⟨_, (false), qs_, H', ⟨by have := HK1.out; first | omega | exact Nat.le_refl _⟩, ⟨qffff_ NB306_308.out NB306_308.out NB306_312.out NB306_312.out BK306.out⟩, ⟨qffff_ NB307_308.out NB307_308.out NB307_312.out NB307_312.out BK307.out⟩, ⟨qppff_ #[.int .u64 t309, .int .u64 x309001_1] 1 #[.int .u64 x309000_1, .int .u64 x309001_1] 0 NB308_312.out NB308_312.out BK308.out⟩, ⟨qffpp_ NB312_308.out NB312_308.out #[.int .u64 t309, .int .u64 0] 1 #[.int .u64 0, .int .u64 0] 0 BK312.out⟩, ⟨qb4_ GE306.out GE307.out GE308.out GE312.out HB.out⟩⟩
    case rest =>
     clear HC11
     try clear c1
     try clear c2
     try clear p2
     try clear c6
     try clear c7
     try clear c8
     try clear c9
     try clear c9b0
     try clear c12
     try clear c13
     try clear c17
     try clear c18
     try clear c19
     try clear c22
     (try clear Z14_0 Z14_1 Y14_0 Y14_1)
     (try clear Z20_0 Z20_1 Y20_0 Y20_1)
     (try clear Z21_0 Z21_1 Y21_0 Y21_1)
     (try clear Z8_0 Z8_1 Y8_0 Y8_1)
     try clear p2
     obtain ⟨kq, x7_10, rfl, HA, HJ10, BK306, BK307, BK308, BK312, HB⟩ := hcut
     cases kq with
     | zero => exact absurd HA.out (by simp [r01_timesP.j1])
     | succ kj10 =>
      have H := HA.out
      clear HA
      simp only [r01_timesP.j1] at H
      by_cases c23 : (Go.bits .and .u64 x1_1 9223372036854775808) = 0
      ·rw [if_pos c23] at H
       have c23b0 : ((Go.bits .and .u64 x1_1 9223372036854775808) == 0) = true := beq_iff_eq.mpr c23
       have c23b1 : ((Go.bits .and .u64 x1_1 9223372036854775808) != 0) = false := bne_eq_false_iff_eq.mpr c23
       clear c23
       have H' := am_ H
       clear H
       go_wp2
       go_roundg kj10
       case measure => have := HK1.out; have := HJ10.out; omega
       case rel => exact ⟨(IntKind.u64.wrap (x1_1 * 2)), (x7_10), (wrap64 (x8_1 + 1)), (t309), (t310), qs_, qs_, qs_, H', ⟨by have := HK1.out; have := HJ10.out; omega⟩, ⟨qk_ BK306.out⟩, ⟨qk_ BK307.out⟩, ⟨qk_ BK308.out⟩, ⟨qb4_ GE306.out GE307.out GE308.out GE312.out HB.out⟩⟩
      ·rw [if_neg c23] at H
       have c23b0 : ((Go.bits .and .u64 x1_1 9223372036854775808) == 0) = false := beq_eq_false_iff_ne.mpr c23
       have c23b1 : ((Go.bits .and .u64 x1_1 9223372036854775808) != 0) = true := bne_iff_ne.mpr c23
       replace H := Option.bind_eq_some_iff.mp H
       obtain ⟨⟨t313, t314, t315⟩, A240, H⟩ := H
       (try dsimp only at H)
       have A24 := am_ A240
       clear A240
       by_cases c25 : x7_10 = true
       ·subst c25
        rw [if_pos rfl] at H
        have H' := am_ H
        clear H
        have hnb26 := NB308_306.out
        have hnc26 := NB306_308.out
        have hnb27 := NB308_307.out
        have hnc27 := NB307_308.out
        have hnb28 := NB308_312.out
        have hnc28 := NB312_308.out
        obtain ⟨Z29_0, Z29_1, Y29_0, Y29_1⟩ := cz2_ BK308.out
        have hnb30 := NB306_307.out
        have hnc30 := NB307_306.out
        have hnb31 := NB306_312.out
        have hnc31 := NB312_306.out
        obtain ⟨Z32_0, Z32_1, Y32_0, Y32_1⟩ := cz2_ BK306.out
        go_wp2_with (first | ((with_reducible refine gate_callee (f := 67) rfl ?_); refine goesL_ (some 33) rfl rfl Tryd.func67 (by kernel_rfl) rfl #[.agg #[.int .u64 t309, .int .u64 t310], .agg #[.int .u64 a0_0, .int .u64 a0_1]] rfl ql_ ?_; (with_reducible refine (r01_plus.calls t309 t310 a0_0 a0_1 t313 t314 t315 _ A24.out).mono ?_); rintro e w33 ⟨rfl, hb⟩; refine ⟨_, rfl, ?_⟩; replace BK306 := am_ (blk_below (qk_ BK306.out) hb); replace BK307 := am_ (blk_below (qk_ BK307.out) hb); replace BK308 := am_ (blk_below (qk_ BK308.out) hb); replace BK312 := am_ (blk_below (qk_ BK312.out) hb); replace HB := am_ (below_step (qb4_ GE306.out GE307.out GE308.out GE312.out HB.out) hb); (try clear hb); have hnb34 := NB312_307.out; have hnc34 := NB307_312.out; obtain ⟨Z35_0, Z35_1, Y35_0, Y35_1⟩ := cz2_ BK312.out; obtain ⟨Z36_0, Z36_1, Y36_0, Y36_1⟩ := cz2_ BK308.out))
        go_roundg kj10
        case measure => have := HK1.out; have := HJ10.out; omega
        case rel => exact ⟨(IntKind.u64.wrap (x1_1 * 2)), (t315), (wrap64 (x8_1 + 1)), (t313), (t314), qs_, qs_, qs_, H', ⟨by have := HK1.out; have := HJ10.out; omega⟩, ⟨qffff_ NB306_308.out NB306_308.out NB306_312.out NB306_312.out BK306.out⟩, ⟨qffff_ NB307_308.out NB307_308.out NB307_312.out NB307_312.out BK307.out⟩, ⟨qppff_ #[.int .u64 t313, .int .u64 t310] 1 #[.int .u64 t309, .int .u64 t310] 0 NB308_312.out NB308_312.out BK308.out⟩, ⟨qb4_ GE306.out GE307.out GE308.out GE312.out HB.out⟩⟩
       ·replace c25 := Bool.eq_false_iff.mpr c25
        subst c25
        rw [if_neg (show ¬ (false = true) by decide)] at H
        have H' := am_ H
        clear H
        have hnb37 := NB308_306.out
        have hnc37 := NB306_308.out
        have hnb38 := NB308_307.out
        have hnc38 := NB307_308.out
        have hnb39 := NB308_312.out
        have hnc39 := NB312_308.out
        obtain ⟨Z40_0, Z40_1, Y40_0, Y40_1⟩ := cz2_ BK308.out
        have hnb41 := NB306_307.out
        have hnc41 := NB307_306.out
        have hnb42 := NB306_312.out
        have hnc42 := NB312_306.out
        obtain ⟨Z43_0, Z43_1, Y43_0, Y43_1⟩ := cz2_ BK306.out
        go_wp2_with (first | ((with_reducible refine gate_callee (f := 67) rfl ?_); refine goesL_ (some 33) rfl rfl Tryd.func67 (by kernel_rfl) rfl #[.agg #[.int .u64 t309, .int .u64 t310], .agg #[.int .u64 a0_0, .int .u64 a0_1]] rfl ql_ ?_; (with_reducible refine (r01_plus.calls t309 t310 a0_0 a0_1 t313 t314 t315 _ A24.out).mono ?_); rintro e w44 ⟨rfl, hb⟩; refine ⟨_, rfl, ?_⟩; replace BK306 := am_ (blk_below (qk_ BK306.out) hb); replace BK307 := am_ (blk_below (qk_ BK307.out) hb); replace BK308 := am_ (blk_below (qk_ BK308.out) hb); replace BK312 := am_ (blk_below (qk_ BK312.out) hb); replace HB := am_ (below_step (qb4_ GE306.out GE307.out GE308.out GE312.out HB.out) hb); (try clear hb); have hnb45 := NB312_307.out; have hnc45 := NB307_312.out; obtain ⟨Z46_0, Z46_1, Y46_0, Y46_1⟩ := cz2_ BK312.out; obtain ⟨Z47_0, Z47_1, Y47_0, Y47_1⟩ := cz2_ BK308.out))
        go_roundg kj10
        case measure => have := HK1.out; have := HJ10.out; omega
        case rel => exact ⟨(IntKind.u64.wrap (x1_1 * 2)), (false), (wrap64 (x8_1 + 1)), (t313), (t314), qs_, qs_, qs_, H', ⟨by have := HK1.out; have := HJ10.out; omega⟩, ⟨qffff_ NB306_308.out NB306_308.out NB306_312.out NB306_312.out BK306.out⟩, ⟨qffff_ NB307_308.out NB307_308.out NB307_312.out NB307_312.out BK307.out⟩, ⟨qppff_ #[.int .u64 t313, .int .u64 t310] 1 #[.int .u64 t309, .int .u64 t310] 0 NB308_312.out NB308_312.out BK308.out⟩, ⟨qb4_ GE306.out GE307.out GE308.out GE312.out HB.out⟩⟩
   ·rw [if_neg c9] at H
    have c9b0 : decide (x8_1 < 64) = false := decide_eq_false c9
    clear c9
    simp only [Option.some.injEq, Prod.mk.injEq] at H
    obtain ⟨rfl, rfl, rfl⟩ := H
    have hnb48 := NB308_306.out
    have hnc48 := NB306_308.out
    have hnb49 := NB308_307.out
    have hnc49 := NB307_308.out
    obtain ⟨Z50_0, Z50_1, Y50_0, Y50_1⟩ := cz2_ BK308.out
    have hnb51 := NB307_306.out
    have hnc51 := NB306_307.out
    obtain ⟨Z52_0, Z52_1, Y52_0, Y52_1⟩ := cz2_ BK307.out
    go_wp2
    refine bodyPost_ret (results_ct rfl _ _ gb307 59 #[.int .u64 x309000_1, .int .u64 x309001_1] (0, 0) _ rfl (qpp_ #[.int .u64 x309000_1, .int .u64 0] 1 #[.int .u64 0, .int .u64 0] 0 BK307.out) Tryd.underlying59 rfl (by kernel_rfl)) rfl ?_
    exact ⟨qe_, qb3_ GE306.out GE307.out GE308.out HB.out⟩
def r01_times.f (a0_0 a0_1 a1 : Int) : Option (Int × Int × Bool) :=
 if (inU a0_0 ∧ inU a0_1) ∧ inU a1 then
  some (wv a0_0 a0_1 * a1 / 18446744073709551616 % 18446744073709551616, wv a0_0 a0_1 * a1 % 18446744073709551616, decide (wv a0_0 a0_1 * a1 < 340282366920938463463374607431768211456)) else none
theorem plus_add (h0 l0 h1 l1 A B : Int) (i0 : inU h0) (i1 : inU l0) (j0 : inU h1) (j1 : inU l1) (hA : wv h0 l0 = A) (hB : wv h1 l1 = B) :
  r01_plus.f h0 l0 h1 l1 = some ((A + B) / 18446744073709551616 % 18446744073709551616, (A + B) % 18446744073709551616, decide (A + B < 340282366920938463463374607431768211456)) := by
 unfold r01_plus.f
 rw [if_pos ⟨⟨i0, i1⟩, j0, j1⟩, hA, hB]
theorem inU_mod (x : Int) : inU (x % 18446744073709551616) := by unfold inU; omega
theorem wv_mod (V : Int) : wv (V / 18446744073709551616 % 18446744073709551616) (V % 18446744073709551616) = V % 340282366920938463463374607431768211456 := by unfold wv; omega
theorem times_loop (mh ml m : Int) (i0 : inU mh) (i1 : inU ml) (hm : wv mh ml = m) (n : Nat) :
  ∀ (x T i : Int), 0 ≤ x → x < 18446744073709551616 → 0 ≤ T → 0 ≤ i → 64 - i = n →
   r01_timesP.l0 (2 * n + 1) x (decide (m * T < 340282366920938463463374607431768211456)) i mh ml (m * T / 18446744073709551616 % 18446744073709551616) (m * T % 18446744073709551616) =
    some (m * (T * 2 ^ n + x * 2 ^ n / 18446744073709551616) / 18446744073709551616 % 18446744073709551616, m * (T * 2 ^ n + x * 2 ^ n / 18446744073709551616) % 18446744073709551616, decide (m * (T * 2 ^ n + x * 2 ^ n / 18446744073709551616) < 340282366920938463463374607431768211456)) := by
 have m0 : 0 ≤ m := by rw [← hm]; unfold wv; unfold inU at i0 i1; omega
 have m1 : m < 340282366920938463463374607431768211456 := by rw [← hm]; unfold wv; unfold inU at i0 i1; omega
 induction n with
 | zero =>
  intro x T i x0 x1 T0 j0 j1
  simp only [Nat.mul_zero, Nat.zero_add, r01_timesP.l0]
  rw [if_neg (by omega)]
  have : T * 2 ^ 0 + x * 2 ^ 0 / 18446744073709551616 = T := by rw [Int.pow_zero, Int.mul_one, Int.mul_one, Int.ediv_eq_zero_of_lt x0 x1]; omega
  rw [this]
 | succ n ih =>
  intro x T i x0 x1 T0 j0 j1
  have q0 : 0 ≤ m * T := Int.mul_nonneg m0 T0
  rw [show 2 * (n + 1) + 1 = (2 * n + 1 + 1) + 1 by omega, r01_timesP.l0, if_pos (by omega),
   plus_add _ _ _ _ _ _ (inU_mod _) (inU_mod _) (inU_mod _) (inU_mod _) (wv_mod (m * T)) (wv_mod (m * T))]
  simp only [Option.bind_some]
  have d1 : (m * T % 340282366920938463463374607431768211456 + m * T % 340282366920938463463374607431768211456) / 18446744073709551616 % 18446744073709551616 = m * (2 * T) / 18446744073709551616 % 18446744073709551616 := by
   rw [Int.mul_left_comm]; omega
  have d2 : (m * T % 340282366920938463463374607431768211456 + m * T % 340282366920938463463374607431768211456) % 18446744073709551616 = m * (2 * T) % 18446744073709551616 := by
   rw [Int.mul_left_comm]; omega
  have d3 : (if decide (m * T < 340282366920938463463374607431768211456) = true then decide (m * T % 340282366920938463463374607431768211456 + m * T % 340282366920938463463374607431768211456 < 340282366920938463463374607431768211456) else false) = decide (m * (2 * T) < 340282366920938463463374607431768211456) := by
   rw [Int.mul_left_comm]
   split
   ·rename_i hc
    have := of_decide_eq_true hc
    apply decide_eq_decide.mpr; omega
   ·rename_i hc
    have : ¬ m * T < 340282366920938463463374607431768211456 := fun h => hc (decide_eq_true h)
    symm; apply decide_eq_false; omega
  -- both ways through the flag come to one state
  have both : ∀ (F : Bool → Option (Int × Int × Bool)), (if decide (m * T < 340282366920938463463374607431768211456) = true then F (decide (m * T % 340282366920938463463374607431768211456 + m * T % 340282366920938463463374607431768211456 < 340282366920938463463374607431768211456)) else F false) = F (decide (m * (2 * T) < 340282366920938463463374607431768211456)) := by
   intro F
   rw [← d3]; split <;> rfl
  rw [d1, d2]
  rw [both (fun b => r01_timesP.j1 (2 * n + 1 + 1) x b i mh ml (m * (2 * T) / 18446744073709551616 % 18446744073709551616) (m * (2 * T) % 18446744073709551616))]
  simp only [r01_timesP.j1]
  have p0 : 0 < (2 : Int) ^ n := Int.pow_pos (by decide)
  have hi : wrap64 (i + 1) = i + 1 := i64_id _ (by omega) (by omega)
  have hf : T * 2 ^ (n + 1) = 2 * T * 2 ^ n := by rw [Int.pow_succ]; grind
  have hx : x * 2 ^ (n + 1) = 2 * x * 2 ^ n := by rw [Int.pow_succ]; grind
  rw [hf, hx]
  by_cases ht : x < 9223372036854775808
  ·rw [if_pos ((andTop x x0 x1).2 ht), hi, u64_id (x * 2) (by omega) (by omega), ih (x * 2) (2 * T) (i + 1) (by omega) (by omega) (by omega) (by omega) (by omega), Int.mul_comm x 2]
  ·rw [if_neg (fun hc => ht ((andTop x x0 x1).1 hc)), plus_add _ _ _ _ _ _ (inU_mod _) (inU_mod _) i0 i1 (wv_mod (m * (2 * T))) hm]
   simp only [Option.bind_some]
   have hx2 : IntKind.u64.wrap (x * 2) = 2 * x - 18446744073709551616 := by rw [IntKind.wrap_u64]; omega
   have e1 : m * (2 * T + 1) = m * (2 * T) + m := by rw [Int.mul_add, Int.mul_one]
   have q1 : 0 ≤ m * (2 * T) := Int.mul_nonneg m0 (by omega)
   have f1 : (m * (2 * T) % 340282366920938463463374607431768211456 + m) / 18446744073709551616 % 18446744073709551616 = m * (2 * T + 1) / 18446744073709551616 % 18446744073709551616 := by rw [e1]; omega
   have f2 : (m * (2 * T) % 340282366920938463463374607431768211456 + m) % 18446744073709551616 = m * (2 * T + 1) % 18446744073709551616 := by rw [e1]; omega
   have f3 : (if decide (m * (2 * T) < 340282366920938463463374607431768211456) = true then decide (m * (2 * T) % 340282366920938463463374607431768211456 + m < 340282366920938463463374607431768211456) else false) = decide (m * (2 * T + 1) < 340282366920938463463374607431768211456) := by
    rw [e1]
    split
    ·rename_i hc
     have := of_decide_eq_true hc
     apply decide_eq_decide.mpr; omega
    ·rename_i hc
     have : ¬ m * (2 * T) < 340282366920938463463374607431768211456 := fun h => hc (decide_eq_true h)
     symm; apply decide_eq_false; omega
   have both2 : ∀ (F : Bool → Option (Int × Int × Bool)), (if decide (m * (2 * T) < 340282366920938463463374607431768211456) = true then F (decide (m * (2 * T) % 340282366920938463463374607431768211456 + m < 340282366920938463463374607431768211456)) else F false) = F (decide (m * (2 * T + 1) < 340282366920938463463374607431768211456)) := by
    intro F
    rw [← f3]; split <;> rfl
   rw [f1, f2, hi, hx2, both2 (fun b => r01_timesP.l0 (2 * n + 1) (2 * x - 18446744073709551616) b (i + 1) mh ml (m * (2 * T + 1) / 18446744073709551616 % 18446744073709551616) (m * (2 * T + 1) % 18446744073709551616)),
    ih (2 * x - 18446744073709551616) (2 * T + 1) (i + 1) (by omega) (by omega) (by omega) (by omega) (by omega)]
   have g : (2 * T + 1) * 2 ^ n + (2 * x - 18446744073709551616) * 2 ^ n / 18446744073709551616 = 2 * T * 2 ^ n + 2 * x * 2 ^ n / 18446744073709551616 := by
    rw [Int.add_mul, Int.one_mul, Int.sub_mul]
    generalize (2 : Int) ^ n = p at *
    generalize 2 * x * p = y
    omega
   rw [g]
theorem r01_times.eq {a b c : Int} {r : Int × Int × Bool} (h : r01_times.f a b c = some r) : ∃ k, r01_timesP.f k a b c = some r := by
 unfold r01_times.f at h
 split at h
 ·rename_i q
  obtain ⟨⟨a0, b0⟩, c0, c1⟩ := q
  injection h with h
  subst h
  refine ⟨2 * 64 + 1, ?_⟩
  unfold r01_timesP.f
  have := times_loop a b (wv a b) a0 b0 rfl 64 c 0 0 c0 (by omega) (by omega) (by omega) (by omega)
  rw [show c * 2 ^ 64 / 18446744073709551616 = c from Int.mul_ediv_cancel c (by decide), Int.zero_mul, Int.zero_add] at this
  simpa using this
 ·cases h
theorem r01_times.calls (a0_0 a0_1 a1 r1 r2 : Int) (r3 : Bool) (w : World) (h : r01_times.f a0_0 a0_1 a1 = some (r1, r2, r3)) :
  Calls Tryd.prog 86 #[.agg #[.int .u64 a0_0, .int .u64 a0_1], .int .u64 a1] w fun e w' => e = .returned (.tuple #[.agg #[.int .u64 r1, .int .u64 r2], .bool r3]) ∧ Below w.heap.size w w' := by
 obtain ⟨k, h⟩ := r01_times.eq h
 exact r01_timesP.calls k a0_0 a0_1 a1 r1 r2 r3 w h
def r01_sizeP.f (a0 : Int) : Option (Int) := if a0 < 0 then (some (IntKind.u64.wrap ((Go.bits .xor .u64 IntKind.u64.max (IntKind.u64.wrap (a0))) + 1))) else (some (IntKind.u64.wrap (a0)))
set_option maxHeartbeats 8000000 in
set_option maxRecDepth 100000 in
theorem r01_sizeP.calls (a0 r : Int) (w : World) (h : r01_sizeP.f a0 = some r) :
  Calls Tryd.prog 87 #[.int .i64 a0] w fun e w' => e = .returned (.int .u64 r) ∧ Drawn0 w w' := by
 have hsgn : IntKind.u64.signed = false := rfl
 have H := h
 clear h
 unfold r01_sizeP.f at H
 by_cases c2 : a0 < 0
 ·rw [if_pos c2] at H
  have c2b0 : decide (a0 < 0) = true := decide_eq_true c2
  clear c2
  obtain rfl := Option.some.inj H
  go_enter Tryd.func87, Tryd.ntmps87
  go_wp2
  go_ret
  exact ⟨by first | rfl | (simp; done) | (simp [*]; done), by repeat (first | exact Drawn0.refl _ | apply Drawn0.step)⟩
 ·rw [if_neg c2] at H
  have c2b0 : decide (a0 < 0) = false := decide_eq_false c2
  clear c2
  obtain rfl := Option.some.inj H
  go_enter Tryd.func87, Tryd.ntmps87
  go_wp2
  go_ret
  exact ⟨by first | rfl | (simp; done) | (simp [*]; done), by repeat (first | exact Drawn0.refl _ | apply Drawn0.step)⟩
def r01_size.f (a0 : Int) : Option Int := if inI a0 then some (if a0 < 0 then -a0 else a0) else none
theorem r01_size.eq {a : Int} {r : Int} (h : r01_size.f a = some r) : r01_sizeP.f a = some r := by
 unfold r01_size.f at h
 split at h
 ·rename_i c
  obtain ⟨c0, c1⟩ := c
  injection h with h
  subst h
  unfold r01_sizeP.f
  have hw : IntKind.u64.wrap a = if a < 0 then a + 18446744073709551616 else a := by rw [IntKind.wrap_u64]; split <;> omega
  rw [hw]
  by_cases hn : a < 0
  ·rw [if_pos hn, if_pos hn, if_pos hn, xorMax _ (by omega) (by omega), IntKind.wrap_u64]
   congr 1; omega
  ·rw [if_neg hn, if_neg hn, if_neg hn]
 ·cases h
theorem r01_size.calls (a0 r : Int) (w : World) (h : r01_size.f a0 = some r) :
  Calls Tryd.prog 87 #[.int .i64 a0] w fun e w' => e = .returned (.int .u64 r) ∧ Drawn0 w w' := by
 have h := r01_size.eq h
 exact r01_sizeP.calls a0 r w h
end Go.Proofs.YtogcdcjbleafdaaDoor.PS
end
