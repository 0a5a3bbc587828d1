import Derived.Test.YtkdhippoibjfkaaDoorQRm2
import Derived.Test.YtkdhippoibjfkaaDoorQRm6
import Derived.Test.YtkdhippoibjfkaaDoorQRm9
import Derived.Test.YtkdhippoibjfkaaDoorQRm11
import Derived.Test.YtkdhippoibjfkaaDoorQRx32
import Derived.Test.YtkdhippoibjfkaaDoorQRx34
namespace Go.Proofs.YtkdhippoibjfkaaDoor.PR
open Go.RowKit Go.Proofs.YtkdhippoibjfkaaDoorW.PrintWords Go.Proofs.YtkdhippoibjfkaaDoorW.PrintLast
set_option linter.unusedVariables false
set_option linter.unusedSimpArgs false
attribute [local go_sem high] eqA24
def corebanklaw02_RoundingAmounts.j0 : Nat → Int → Int → Bool → Int → Int → Int → Int → Option (Bool)
 | 0, _, _, _, _, _, _, _ => none
 | k + 1, x5, x7, x39, x418000, x418001, x423000, x423001 => if x39 = true then (some false) else (if x7 = 0 then ((corebankref01_Mul.f x5 1603080000000).bind fun bt429 => ((corebankref01_Add.f bt429.1 bt429.2 x423000 x423001).bind fun bt431 => (if bt431.2.2 = 0 then (if (bt431.1 == x418000 && (bt431.2.1 == x418001)) = true then ((corebankref01_Of.f 1603080000000).bind fun bt435 => ((corebankref01_Cmp.f x423000 x423001 bt435.1 bt435.2).bind fun t437 => (if t437 < 0 then ((corebankref01_Of.f (-1603080000000)).bind fun bt438 => ((corebankref01_Cmp.f x423000 x423001 bt438.1 bt438.2).bind fun t440 => (if t440 > 0 then ((corebanklaw02_live.f).bind fun t441 => (some t441)) else (some false)))) else (some false)))) else (some false)) else (some false)))) else ((corebanklaw02_live.f).bind fun t428 => (some t428)))
def corebanklaw02_RoundingAmounts.f (k : Nat) (a0_0 : Int) (a0_1 : Int) (a1 : Int) : Option (Bool) := (rounding_Amount.f a0_0 a0_1 a1).bind fun bt418 => ((corebankref02_Amount.f a0_0 a0_1 a1).bind fun bt423 => (if bt418.1 = bt423.1 then (if (!(bt418.2.1 == bt423.2.1) || (!(bt418.2.2.1 == bt423.2.2.1))) = true then (corebanklaw02_RoundingAmounts.j0 k bt418.1 bt418.2.2.2 true a0_0 a0_1 bt418.2.1 bt418.2.2.1) else (corebanklaw02_RoundingAmounts.j0 k bt418.1 bt418.2.2.2 (bt418.2.2.2 != bt423.2.2.2) a0_0 a0_1 bt418.2.1 bt418.2.2.1)) else (corebanklaw02_RoundingAmounts.j0 k bt418.1 bt418.2.2.2 true a0_0 a0_1 bt418.2.1 bt418.2.2.1)))
theorem corebanklaw02_RoundingAmounts.mono_l : ∀ k, (∀ y0 y1 y2 y3 y4 y5 y6, LeO (corebanklaw02_RoundingAmounts.j0 k y0 y1 y2 y3 y4 y5 y6) (corebanklaw02_RoundingAmounts.j0 (k + 1) y0 y1 y2 y3 y4 y5 y6))
 | 0 => fun _ _ _ _ _ _ _ r h => by simp [corebanklaw02_RoundingAmounts.j0] at h
 | k + 1 => by
  have ih0 := corebanklaw02_RoundingAmounts.mono_l k
  ·intro y0 y1 y2 y3 y4 y5 y6
   unfold corebanklaw02_RoundingAmounts.j0
   repeat' first
   | (with_reducible exact ih0 _ _ _ _ _ _ _)
   | (with_reducible exact LeO.refl _)
   | (with_reducible exact LeO.none _)
   | (with_reducible refine LeO.ite ?_ ?_)
   | (with_reducible refine LeO.bind ?_ (fun _ => ?_))
   | exact ih0 _ _ _ _ _ _ _
   | exact LeO.none _
   | refine LeO.ite ?_ ?_
   | refine LeO.bind ?_ (fun _ => ?_)
theorem corebanklaw02_RoundingAmounts.mono : ∀ a0 a1 a2 k, LeO (corebanklaw02_RoundingAmounts.f k a0 a1 a2) (corebanklaw02_RoundingAmounts.f (k + 1) a0 a1 a2) := by
 intro a0 a1 a2 k
 have ih0 := corebanklaw02_RoundingAmounts.mono_l k
 unfold corebanklaw02_RoundingAmounts.f
 repeat' first
   | (with_reducible exact ih0 _ _ _ _ _ _ _)
   | (with_reducible exact LeO.refl _)
   | (with_reducible exact LeO.none _)
   | (with_reducible refine LeO.ite ?_ ?_)
   | (with_reducible refine LeO.bind ?_ (fun _ => ?_))
   | exact ih0 _ _ _ _ _ _ _
   | exact LeO.none _
   | refine LeO.ite ?_ ?_
   | refine LeO.bind ?_ (fun _ => ?_)
def corebanklaw02_RoundingAmounts.T7 : Bool × List (List Nat × List Nat) := (true, [([], []), ([0], [0]), ([], []), ([1, 2, 1], [1, 2]), ([3], [3]), ([4], [4]), ([4], [4]), ([], []), ([7, 5, 3, 0, 1, 2, 3, 4, 5, 7], [5, 7]), ([6, 8, 0, 1, 2, 3, 4, 5, 6, 7, 8], [6])])
def corebanklaw02_RoundingAmounts.B7 : List Nat := [0, 1, 0, 7, 15, 31, 31, 0, 191, 511]
theorem corebanklaw02_RoundingAmounts.tab7 : rtab .any (opsOf Tryd.f4 7) = corebanklaw02_RoundingAmounts.T7 := by kernel_rfl
theorem corebanklaw02_RoundingAmounts.bits7 : waitsOk corebanklaw02_RoundingAmounts.T7.2 corebanklaw02_RoundingAmounts.B7 = true := by kernel_rfl
def corebanklaw02_RoundingAmounts.T8 : Bool × List (List Nat × List Nat) := (true, [([], []), ([0], [0]), ([1], [1]), ([2], [2]), ([2], [2]), ([3, 4, 2], [2, 3, 4]), ([2, 5], [2, 5]), ([6, 2], [6]), ([7], [7]), ([7, 7], [7]), ([8, 9, 9, 7], [7, 8, 9]), ([10, 7], [7, 10]), ([7, 11], [7, 11]), ([12, 10], [12]), ([13], [13]), ([13, 13], [13]), ([14, 15, 15, 13], [13, 14, 15]), ([16, 13], [13, 16]), ([13, 17], [13, 17]), ([18, 16], [18]), ([19, 19], [19]), ([19, 20], [19, 20]), ([21, 20, 0, 1, 2, 3, 4, 5, 6, 7, 8, 9, 10, 11, 12, 13, 14, 15, 16, 17, 18, 19, 20, 21], [21])])
def corebanklaw02_RoundingAmounts.B8 : List Nat := [0, 1, 3, 7, 7, 31, 63, 127, 255, 255, 1023, 2047, 4095, 8191, 16383, 16383, 65535, 131071, 262143, 524287, 1048575, 2097151, 4194303]
theorem corebanklaw02_RoundingAmounts.tab8 : rtab .any (opsOf Tryd.f4 8) = corebanklaw02_RoundingAmounts.T8 := by kernel_rfl
theorem corebanklaw02_RoundingAmounts.bits8 : waitsOk corebanklaw02_RoundingAmounts.T8.2 corebanklaw02_RoundingAmounts.B8 = true := by kernel_rfl
set_option maxHeartbeats 8000000 in
set_option maxRecDepth 100000 in
theorem corebanklaw02_RoundingAmounts.calls (k : Nat) (a0_0 : Int) (a0_1 : Int) (a1 : Int) (r : Bool) (w : World) (hG : GW w) (h : corebanklaw02_RoundingAmounts.f k a0_0 a0_1 a1 = some r) :
  Calls Tryd.prog 4 #[.agg #[.int .i64 a0_0, .int .u64 a0_1], .int .i64 a1] w fun e w' => e = .returned (.bool r) ∧ Below w.heap.size w w' := by
 have hu24 := Tryd.underlying24
 have HB := Aside0.mk (Below.refl w.heap.size w)
 have H : ((rounding_Amount.f a0_0 a0_1 a1).bind fun bt418 => ((corebankref02_Amount.f a0_0 a0_1 a1).bind fun bt423 => (if bt418.1 = bt423.1 then (if (!(bt418.2.1 == bt423.2.1) || (!(bt418.2.2.1 == bt423.2.2.1))) = true then (corebanklaw02_RoundingAmounts.j0 k bt418.1 bt418.2.2.2 true a0_0 a0_1 bt418.2.1 bt418.2.2.1) else (corebanklaw02_RoundingAmounts.j0 k bt418.1 bt418.2.2.2 (bt418.2.2.2 != bt423.2.2.2) a0_0 a0_1 bt418.2.1 bt418.2.2.1)) else (corebanklaw02_RoundingAmounts.j0 k bt418.1 bt418.2.2.2 true a0_0 a0_1 bt418.2.1 bt418.2.2.1)))) = some r := h
 clear h
 replace H := Option.bind_eq_some_iff.mp H
 obtain ⟨⟨t418, t419, t420, t421⟩, A30, H⟩ := H
 replace H : ((corebankref02_Amount.f a0_0 a0_1 a1).bind fun bt423 => (if t418 = bt423.1 then (if (!(t419 == bt423.2.1) || (!(t420 == bt423.2.2.1))) = true then (corebanklaw02_RoundingAmounts.j0 k t418 t421 true a0_0 a0_1 t419 t420) else (corebanklaw02_RoundingAmounts.j0 k t418 t421 (t421 != bt423.2.2.2) a0_0 a0_1 t419 t420)) else (corebanklaw02_RoundingAmounts.j0 k t418 t421 true a0_0 a0_1 t419 t420))) = some r := H
 have A3 := Aside0.mk A30
 clear A30
 replace H := Option.bind_eq_some_iff.mp H
 obtain ⟨⟨t423, t424, t425, t426⟩, A40, H⟩ := H
 replace H : (if t418 = t423 then (if (!(t419 == t424) || (!(t420 == t425))) = true then (corebanklaw02_RoundingAmounts.j0 k t418 t421 true a0_0 a0_1 t419 t420) else (corebanklaw02_RoundingAmounts.j0 k t418 t421 (t421 != t426) a0_0 a0_1 t419 t420)) else (corebanklaw02_RoundingAmounts.j0 k t418 t421 true a0_0 a0_1 t419 t420)) = some r := H
 have A4 := Aside0.mk A40
 clear A40
 have HC5 := Aside0.mk H
 clear H
 go_enter Tryd.func4, Tryd.ntmps4
 go_upto_region 3 with (first | ((with_reducible refine gate_dst (N := 2) rfl ?_); refine be_ (N := 2) (cs := #[.int .i64 a0_0, .int .u64 a0_1]) (t := 24) ?_; intro gb417 hg w6 hbox hb; have n0_ := Aside0.mk (below_step (qb_ HB.out) hb); have n1_ := Aside0.mk (hbox); have n2_ := Aside0.mk (bz_ hg (qb_ HB.out) : w.heap.size ≤ gb417); have n3_ := n2_; clear HB; have HB := n0_; have BK417 := n1_; have GW417 := n2_; have GE417 := n3_; clear n0_ n1_ n2_ n3_; clear hb hbox hg; have hcz7_0 : w6.cell? ⟨gb417, 0, none⟩ = some (.int .i64 a0_0) := (blk_cell BK417.out 0).trans rfl; have hcz7_1 : w6.cell? ⟨gb417, 1, none⟩ = some (.int .u64 a0_1) := (blk_cell BK417.out 1).trans rfl; have hfz7_0 := blk_frozen BK417.out 0; have hfz7_1 := blk_frozen BK417.out 1) | ((with_reducible refine gate_callee (f := 16) rfl ?_); refine goesL_ (some 16) rfl rfl Tryd.func16 (by kernel_rfl) rfl #[.agg #[.int .i64 a0_0, .int .u64 a0_1], .int .i64 a1] rfl ql_ ?_; (with_reducible refine (rounding_Amount.calls (hG := by first | exact hG | (with_reducible exact GW.below hG (qb1_ GE417.out HB.out)) | (with_reducible repeat (first | exact hG | apply GW.drewN | apply GW.drew))) a0_0 a0_1 a1 t418 t419 t420 t421 _ A3.out).mono ?_); rintro e w8 ⟨rfl, hb⟩; refine ⟨_, rfl, ?_⟩; have n0_ := Aside0.mk (blk_below (qk_ BK417.out) hb); have n1_ := Aside0.mk (below_step (qb1_ GE417.out HB.out) hb); clear BK417; clear HB; have BK417 := n0_; have HB := n1_; clear n0_ n1_; (try clear hb); (try clear hb2); (try clear hk); (try clear hi)) | ((with_reducible refine gate_dst (N := 6) rfl ?_); refine be_ (N := 6) (cs := #[.int .i64 0, .int .u64 0]) (t := 24) ?_; intro gb422 hg w9 hbox hb; have n0_ := Aside0.mk (blk_below (qk_ BK417.out) hb); have n1_ := Aside0.mk (below_step (qb1_ GE417.out HB.out) hb); have n2_ := Aside0.mk (hbox); have n3_ := Aside0.mk (bz_ hg (qb1_ GE417.out HB.out) : w.heap.size ≤ gb422); have n4_ := n3_; have n5_ := Aside0.mk (nl_ hg (qk_ BK417.out) : gb417 ≠ gb422); have n6_ := Aside0.mk (ng_ hg (qk_ BK417.out) : gb422 ≠ gb417); clear BK417; clear HB; have BK417 := n0_; have HB := n1_; have BK422 := n2_; have GW422 := n3_; have GE422 := n4_; have NB417_422 := n5_; have NB422_417 := n6_; clear n0_ n1_ n2_ n3_ n4_ n5_ n6_; clear hb hbox hg; have hnb10 := NB422_417.out; have hnc10 := NB417_422.out; have hcz11_0 : w9.cell? ⟨gb422, 0, none⟩ = some (.int .i64 0) := (blk_cell BK422.out 0).trans rfl; have hcz11_1 : w9.cell? ⟨gb422, 1, none⟩ = some (.int .u64 0) := (blk_cell BK422.out 1).trans rfl; have hfz11_0 := blk_frozen BK422.out 0; have hfz11_1 := blk_frozen BK422.out 1; have hcz12_0 : w9.cell? ⟨gb417, 0, none⟩ = some (.int .i64 a0_0) := (blk_cell BK417.out 0).trans rfl; have hcz12_1 : w9.cell? ⟨gb417, 1, none⟩ = some (.int .u64 a0_1) := (blk_cell BK417.out 1).trans rfl; have hfz12_0 := blk_frozen BK417.out 0; have hfz12_1 := blk_frozen BK417.out 1) | ((with_reducible refine gate_callee (f := 17) rfl ?_); refine goesL_ (some 23) rfl rfl Tryd.func17 (by kernel_rfl) rfl #[.agg #[.int .i64 a0_0, .int .u64 a0_1], .int .i64 a1] rfl ql_ ?_; (with_reducible refine (corebankref02_Amount.calls a0_0 a0_1 a1 t423 t424 t425 t426 _ A4.out).mono ?_); rintro e w13 ⟨rfl, hb⟩; refine ⟨_, rfl, ?_⟩; have n0_ := Aside0.mk (blk_below (g := gb417) (o := .cells #[.int .i64 a0_0, .int .u64 a0_1] 24 (0, 0)) (qff_ NB417_422.out NB417_422.out BK417.out) hb); have n1_ := Aside0.mk (blk_below (g := gb422) (o := .cells #[.int .i64 t419, .int .u64 t420] 24 (0, 0)) (qpp_ #[.int .i64 t419, .int .u64 0] 1 #[.int .i64 0, .int .u64 0] 0 BK422.out) hb); have n2_ := Aside0.mk (below_step (qb2_ GE417.out GE422.out HB.out) hb); clear BK417; clear BK422; clear HB; have BK417 := n0_; have BK422 := n1_; have HB := n2_; clear n0_ n1_ n2_; (try clear hb); (try clear hb2); (try clear hk); (try clear hi)) | ((with_reducible refine gate_dst (N := 9) rfl ?_); refine be_ (N := 9) (cs := #[.int .i64 0, .int .u64 0]) (t := 24) ?_; intro gb427 hg w14 hbox hb; have n0_ := Aside0.mk (blk_below (qk_ BK417.out) hb); have n1_ := Aside0.mk (blk_below (qk_ BK422.out) hb); have n2_ := Aside0.mk (below_step (qb2_ GE417.out GE422.out HB.out) hb); have n3_ := Aside0.mk (hbox); have n4_ := Aside0.mk (bz_ hg (qb2_ GE417.out GE422.out HB.out) : w.heap.size ≤ gb427); have n5_ := n4_; have n6_ := Aside0.mk (nl_ hg (qk_ BK417.out) : gb417 ≠ gb427); have n7_ := Aside0.mk (ng_ hg (qk_ BK417.out) : gb427 ≠ gb417); have n8_ := Aside0.mk (nl_ hg (qk_ BK422.out) : gb422 ≠ gb427); have n9_ := Aside0.mk (ng_ hg (qk_ BK422.out) : gb427 ≠ gb422); clear BK417; clear BK422; clear HB; have BK417 := n0_; have BK422 := n1_; have HB := n2_; have BK427 := n3_; have GW427 := n4_; have GE427 := n5_; have NB417_427 := n6_; have NB427_417 := n7_; have NB422_427 := n8_; have NB427_422 := n9_; clear n0_ n1_ n2_ n3_ n4_ n5_ n6_ n7_ n8_ n9_; clear hb hbox hg; have hnb15 := NB427_417.out; have hnc15 := NB417_427.out; have hnb16 := NB427_422.out; have hnc16 := NB422_427.out; have hcz17_0 : w14.cell? ⟨gb427, 0, none⟩ = some (.int .i64 0) := (blk_cell BK427.out 0).trans rfl; have hcz17_1 : w14.cell? ⟨gb427, 1, none⟩ = some (.int .u64 0) := (blk_cell BK427.out 1).trans rfl; have hfz17_0 := blk_frozen BK427.out 0; have hfz17_1 := blk_frozen BK427.out 1))
 (try simp only [Act.put, List.setIfInBounds_toArray, List.set_cons_zero, List.set_cons_succ])
 go_cut [39] (fun v39 wc => ∃ (kq : Nat) (x39_4 : Bool), v39 = .bool x39_4 ∧ Aside0 (corebanklaw02_RoundingAmounts.j0 kq t418 t421 x39_4 a0_0 a0_1 t419 t420 = some r) ∧ Aside0 (kq ≤ k) ∧ Aside0 (wc.heap[gb417]? = some (.cells #[.int .i64 a0_0, .int .u64 a0_1] 24 (0, 0))) ∧ Aside0 (wc.heap[gb422]? = some (.cells #[.int .i64 t419, .int .u64 t420] 24 (0, 0))) ∧ Aside0 (wc.heap[gb427]? = some (.cells #[.int .i64 t424, .int .u64 t425] 24 (0, 0))) ∧ Aside0 (Below w.heap.size w wc))
 case first =>
  have H := HC5.out
  clear HC5
  by_cases c18 : t418 = t423
  ·rw [if_pos c18] at H
   have c18b0 : (t418 == t423) = true := beq_iff_eq.mpr c18
   have c18b1 : (t418 != t423) = false := bne_eq_false_iff_eq.mpr c18
   clear c18
   (first | rw [c18b0] | (simp only [i64_w, i32_w]; rw [c18b0]) | skip)
   by_cases c19 : (!(t419 == t424) || (!(t420 == t425))) = true
   ·rw [if_pos c19] at H
    have c19b0 : (!(t419 == t424) || (!(t420 == t425))) = true := c19
    clear c19
    have H' := Aside0.mk H
    clear H
    have hnb20 := NB422_417.out
    have hnc20 := NB417_422.out
    have hnb21 := NB422_427.out
    have hnc21 := NB427_422.out
    have hcz22_0 : w14.cell? ⟨gb422, 0, none⟩ = some (.int .i64 t419) := (blk_cell BK422.out 0).trans rfl
    have hcz22_1 : w14.cell? ⟨gb422, 1, none⟩ = some (.int .u64 t420) := (blk_cell BK422.out 1).trans rfl
    have hfz22_0 := blk_frozen BK422.out 0
    have hfz22_1 := blk_frozen BK422.out 1
    have hnb23 := NB427_417.out
    have hnc23 := NB417_427.out
    have hcz24_0 : w14.cell? ⟨gb427, 0, none⟩ = some (.int .i64 0) := (blk_cell BK427.out 0).trans rfl
    have hcz24_1 : w14.cell? ⟨gb427, 1, none⟩ = some (.int .u64 0) := (blk_cell BK427.out 1).trans rfl
    have hfz24_0 := blk_frozen BK427.out 0
    have hfz24_1 := blk_frozen BK427.out 1
    go_wp2
    go_meet
    case rel => exact ⟨_, (true), qs_, H', ⟨qo_⟩, ⟨qff_ NB417_427.out NB417_427.out BK417.out⟩, ⟨qff_ NB422_427.out NB422_427.out BK422.out⟩, ⟨qpp_ #[.int .i64 t424, .int .u64 0] 1 #[.int .i64 0, .int .u64 0] 0 BK427.out⟩, ⟨qb3_ GE417.out GE422.out GE427.out HB.out⟩⟩
   ·rw [if_neg c19] at H
    have c19b0 : (!(t419 == t424) || (!(t420 == t425))) = false := by simpa using c19
    clear c19
    have H' := Aside0.mk H
    clear H
    have hnb25 := NB422_417.out
    have hnc25 := NB417_422.out
    have hnb26 := NB422_427.out
    have hnc26 := NB427_422.out
    have hcz27_0 : w14.cell? ⟨gb422, 0, none⟩ = some (.int .i64 t419) := (blk_cell BK422.out 0).trans rfl
    have hcz27_1 : w14.cell? ⟨gb422, 1, none⟩ = some (.int .u64 t420) := (blk_cell BK422.out 1).trans rfl
    have hfz27_0 := blk_frozen BK422.out 0
    have hfz27_1 := blk_frozen BK422.out 1
    have hnb28 := NB427_417.out
    have hnc28 := NB417_427.out
    have hcz29_0 : w14.cell? ⟨gb427, 0, none⟩ = some (.int .i64 0) := (blk_cell BK427.out 0).trans rfl
    have hcz29_1 : w14.cell? ⟨gb427, 1, none⟩ = some (.int .u64 0) := (blk_cell BK427.out 1).trans rfl
    have hfz29_0 := blk_frozen BK427.out 0
    have hfz29_1 := blk_frozen BK427.out 1
    go_wp2
    go_meet
    case rel => exact ⟨_, ((t421 != t426)), qs_, H', ⟨qo_⟩, ⟨qff_ NB417_427.out NB417_427.out BK417.out⟩, ⟨qff_ NB422_427.out NB422_427.out BK422.out⟩, ⟨qpp_ #[.int .i64 t424, .int .u64 0] 1 #[.int .i64 0, .int .u64 0] 0 BK427.out⟩, ⟨qb3_ GE417.out GE422.out GE427.out HB.out⟩⟩
  ·rw [if_neg c18] at H
   have c18b0 : (t418 == t423) = false := beq_eq_false_iff_ne.mpr c18
   have c18b1 : (t418 != t423) = true := bne_iff_ne.mpr c18
   (first | rw [c18b0] | (simp only [i64_w, i32_w]; rw [c18b0]) | skip)
   have H' := Aside0.mk H
   clear H
   go_wp2
   go_meet
   case rel => exact ⟨_, (true), qs_, H', ⟨qo_⟩, ⟨qff_ NB417_427.out NB417_427.out BK417.out⟩, ⟨qff_ NB422_427.out NB422_427.out BK422.out⟩, ⟨qpp_ #[.int .i64 t424, .int .u64 0] 1 #[.int .i64 0, .int .u64 0] 0 BK427.out⟩, ⟨qb3_ GE417.out GE422.out GE427.out HB.out⟩⟩
 case rest =>
  clear HC5
  try clear c1
  try clear c2
  try clear p2
  try clear c4
  try clear c10
  try clear c15
  try clear c16
  try clear c17
  try clear c18
  try clear c18b0
  try clear c18b1
  try clear c19
  try clear c19b0
  try clear c20
  try clear c21
  try clear c23
  try clear c25
  try clear c26
  try clear c28
  try clear hcz11_0
  try clear hcz11_1
  try clear hcz12_0
  try clear hcz12_1
  try clear hcz17_0
  try clear hcz17_1
  try clear hcz22_0
  try clear hcz22_1
  try clear hcz24_0
  try clear hcz24_1
  try clear hcz27_0
  try clear hcz27_1
  try clear hcz29_0
  try clear hcz29_1
  try clear hcz7_0
  try clear hcz7_1
  try clear hfz11_0
  try clear hfz11_1
  try clear hfz12_0
  try clear hfz12_1
  try clear hfz17_0
  try clear hfz17_1
  try clear hfz22_0
  try clear hfz22_1
  try clear hfz24_0
  try clear hfz24_1
  try clear hfz27_0
  try clear hfz27_1
  try clear hfz29_0
  try clear hfz29_1
  try clear hfz7_0
  try clear hfz7_1
  obtain ⟨kq, x39_4, rfl, HA, HJ4, BK417, BK422, BK427, HB⟩ := hcut
  cases kq with
  | zero => exact absurd HA.out (by simp [corebanklaw02_RoundingAmounts.j0])
  | succ kj4 =>
   have H := HA.out
   clear HA
   simp only [corebanklaw02_RoundingAmounts.j0] at H
   by_cases c30 : x39_4 = true
   ·subst c30
    have H1 : (some false) = some r := by rw [if_pos rfl] at H; exact H
    clear H
    have H := H1
    clear H1
    obtain rfl := Option.some.inj H
    go_wp2
    go_ret
    exact ⟨qe_, qb3_ GE417.out GE422.out GE427.out HB.out⟩
   ·replace c30 := Bool.eq_false_iff.mpr c30
    subst c30
    have H1 : (if t421 = 0 then ((corebankref01_Mul.f t418 1603080000000).bind fun bt429 => ((corebankref01_Add.f bt429.1 bt429.2 t419 t420).bind fun bt431 => (if bt431.2.2 = 0 then (if (bt431.1 == a0_0 && (bt431.2.1 == a0_1)) = true then ((corebankref01_Of.f 1603080000000).bind fun bt435 => ((corebankref01_Cmp.f t419 t420 bt435.1 bt435.2).bind fun t437 => (if t437 < 0 then ((corebankref01_Of.f (-1603080000000)).bind fun bt438 => ((corebankref01_Cmp.f t419 t420 bt438.1 bt438.2).bind fun t440 => (if t440 > 0 then ((corebanklaw02_live.f).bind fun t441 => (some t441)) else (some false)))) else (some false)))) else (some false)) else (some false)))) else ((corebanklaw02_live.f).bind fun t428 => (some t428))) = some r := by rw [if_neg (show ¬ (false = true) by decide)] at H; exact H
    clear H
    have H := H1
    clear H1
    by_cases c31 : t421 = 0
    ·rw [if_pos c31] at H
     have c31b0 : (t421 == 0) = true := beq_iff_eq.mpr c31
     have c31b1 : (t421 != 0) = false := bne_eq_false_iff_eq.mpr c31
     clear c31
     replace H := Option.bind_eq_some_iff.mp H
     obtain ⟨⟨t429, t430⟩, A320, H⟩ := H
     replace H : ((corebankref01_Add.f t429 t430 t419 t420).bind fun bt431 => (if bt431.2.2 = 0 then (if (bt431.1 == a0_0 && (bt431.2.1 == a0_1)) = true then ((corebankref01_Of.f 1603080000000).bind fun bt435 => ((corebankref01_Cmp.f t419 t420 bt435.1 bt435.2).bind fun t437 => (if t437 < 0 then ((corebankref01_Of.f (-1603080000000)).bind fun bt438 => ((corebankref01_Cmp.f t419 t420 bt438.1 bt438.2).bind fun t440 => (if t440 > 0 then ((corebanklaw02_live.f).bind fun t441 => (some t441)) else (some false)))) else (some false)))) else (some false)) else (some false))) = some r := H
     have A32 := Aside0.mk A320
     clear A320
     replace H := Option.bind_eq_some_iff.mp H
     obtain ⟨⟨t431, t432, t433⟩, A330, H⟩ := H
     replace H : (if t433 = 0 then (if (t431 == a0_0 && (t432 == a0_1)) = true then ((corebankref01_Of.f 1603080000000).bind fun bt435 => ((corebankref01_Cmp.f t419 t420 bt435.1 bt435.2).bind fun t437 => (if t437 < 0 then ((corebankref01_Of.f (-1603080000000)).bind fun bt438 => ((corebankref01_Cmp.f t419 t420 bt438.1 bt438.2).bind fun t440 => (if t440 > 0 then ((corebanklaw02_live.f).bind fun t441 => (some t441)) else (some false)))) else (some false)))) else (some false)) else (some false)) = some r := H
     have A33 := Aside0.mk A330
     clear A330
     by_cases c34 : t433 = 0
     ·rw [if_pos c34] at H
      have c34b0 : (t433 == 0) = true := beq_iff_eq.mpr c34
      have c34b1 : (t433 != 0) = false := bne_eq_false_iff_eq.mpr c34
      clear c34
      by_cases c35 : (t431 == a0_0 && (t432 == a0_1)) = true
      ·rw [if_pos c35] at H
       have c35b0 : (t431 == a0_0 && (t432 == a0_1)) = true := c35
       (try (have c35b1 : decide (t431 = a0_0 && (t432 == a0_1)) = true := by simpa using c35))
       (try (have c35b2 : (t431 == a0_0 && (t432 == a0_1)) = true := by simpa using c35))
       clear c35
       replace H := Option.bind_eq_some_iff.mp H
       obtain ⟨⟨t435, t436⟩, A360, H⟩ := H
       replace H : ((corebankref01_Cmp.f t419 t420 t435 t436).bind fun t437 => (if t437 < 0 then ((corebankref01_Of.f (-1603080000000)).bind fun bt438 => ((corebankref01_Cmp.f t419 t420 bt438.1 bt438.2).bind fun t440 => (if t440 > 0 then ((corebanklaw02_live.f).bind fun t441 => (some t441)) else (some false)))) else (some false))) = some r := H
       have A36 := Aside0.mk A360
       clear A360
       replace H := Option.bind_eq_some_iff.mp H
       obtain ⟨t437, A370, H⟩ := H
       replace H : (if t437 < 0 then ((corebankref01_Of.f (-1603080000000)).bind fun bt438 => ((corebankref01_Cmp.f t419 t420 bt438.1 bt438.2).bind fun t440 => (if t440 > 0 then ((corebanklaw02_live.f).bind fun t441 => (some t441)) else (some false)))) else (some false)) = some r := H
       have A37 := Aside0.mk A370
       clear A370
       by_cases c38 : t437 < 0
       ·rw [if_pos c38] at H
        have c38b0 : decide (t437 < 0) = true := decide_eq_true c38
        clear c38
        replace H := Option.bind_eq_some_iff.mp H
        obtain ⟨⟨t438, t439⟩, A390, H⟩ := H
        replace H : ((corebankref01_Cmp.f t419 t420 t438 t439).bind fun t440 => (if t440 > 0 then ((corebanklaw02_live.f).bind fun t441 => (some t441)) else (some false))) = some r := H
        have A39 := Aside0.mk A390
        clear A390
        replace H := Option.bind_eq_some_iff.mp H
        obtain ⟨t440, A400, H⟩ := H
        replace H : (if t440 > 0 then ((corebanklaw02_live.f).bind fun t441 => (some t441)) else (some false)) = some r := H
        have A40 := Aside0.mk A400
        clear A400
        by_cases c41 : t440 > 0
        ·rw [if_pos c41] at H
         have c41b0 : decide (0 < t440) = true := decide_eq_true c41
         clear c41
         replace H := Option.bind_eq_some_iff.mp H
         obtain ⟨t441, A420, H⟩ := H
         replace H : (some t441) = some r := H
         have A42 := Aside0.mk A420
         clear A420
         obtain rfl := Option.some.inj H
         try go_wp2
         have n0_ := Aside0.mk (blk_drew BK417.out)
         have n1_ := Aside0.mk (blk_drew BK422.out)
         have n2_ := Aside0.mk (blk_drew BK427.out)
         have n3_ := Aside0.mk (below_drew1 HB.out)
         clear BK417
         clear BK422
         clear BK427
         clear HB
         have BK417 := n0_
         have BK422 := n1_
         have BK427 := n2_
         have HB := n3_
         clear n0_ n1_ n2_ n3_
         refine start_ (n := 10) (S := fun w' => w'.cell? ⟨gb422, 0, none⟩ = some (.int .i64 t419) ∧ w'.cell? ⟨gb422, 1, none⟩ = some (.int .u64 t420)) (ds := []) (nb_ 10 0) (by kernel_rfl) rfl rfl ⟨(blk_cell BK422.out 0).trans rfl, (blk_cell BK422.out 1).trans rfl⟩ (fun hHeld => ?_); refine with_tabW corebanklaw02_RoundingAmounts.tab7 corebanklaw02_RoundingAmounts.bits7 (fun HT_ HW_ => ?_)
         generalize wc.drew = w43 at BK417 BK422 BK427 HB hHeld ⊢
         refine pz_ 0 44 (nb_ 10 1) HT_.out ?_
         refine tk2_ 2 46 (nb_ 10 5) HT_.out HW_.out hHeld ?_
         refine join_ (σ := Nat) 2 (nb_ 10 255) (fun s_ => [(45, .agg #[.int .i64 t429, .int .u64 t430]), (47, .tuple #[.agg #[.int .i64 t431, .int .u64 t432], .int .i64 t433]), (11, .pointer (some ⟨s_, 0, none⟩)), (43, .tuple #[.agg #[.int .i64 t431, .int .u64 t432], .int .i64 t433]), (48, .agg #[.int .i64 t431, .int .u64 t432]), (49, .int .i64 t433)]) (fun s_ w' => (w'.cell? ⟨gb422, 0, none⟩ = some (.int .i64 t419) ∧ w'.cell? ⟨gb422, 1, none⟩ = some (.int .u64 t420)) ∧ (w'.heap[gb417]? = some (.cells #[.int .i64 a0_0, .int .u64 a0_1] 24 (0, 0))) ∧ (w'.heap[gb422]? = some (.cells #[.int .i64 t419, .int .u64 t420] 24 (0, 0))) ∧ (w'.heap[gb427]? = some (.cells #[.int .i64 t424, .int .u64 t425] 24 (0, 0))) ∧ (w'.heap[s_]? = some (.cells #[.int .i64 0, .int .u64 0] 24 (0, 0))) ∧ (w.heap.size ≤ s_) ∧ (w.heap.size ≤ s_) ∧ (gb417 ≠ s_) ∧ (s_ ≠ gb417) ∧ (gb422 ≠ s_) ∧ (s_ ≠ gb422) ∧ (gb427 ≠ s_) ∧ (s_ ≠ gb427) ∧ (Below w.heap.size w w')) ?_ ?_
         rotate_left
         ·intro hCont
          refine two_ (i := 1) (j := 7) (Ni := some 45) (Nj := some 11) (nb_ 10 7) (nb_ 10 133) rfl rfl rfl rfl (two_of HT_.out (by kernel_rfl)) (by decide) (by decide) (fun K hK => ?_) (fun K hK => ?_)
          ·skip
           refine goes_ Tryd.func19 (by kernel_rfl) rfl #[.int .i64 t418, .int .i64 1603080000000] (by rfl) rfl rfl ql_ ?_
           with_reducible refine (corebankref01_Mul.calls t418 1603080000000 t429 t430 _ A32.out).mono ?_
           rintro e w44 ⟨rfl, hb⟩
           refine ⟨_, rfl, ?_⟩
           have n0_ := Aside0.mk (blk_below (qk_ BK417.out) hb)
           have n1_ := Aside0.mk (blk_below (qk_ BK422.out) hb)
           have n2_ := Aside0.mk (blk_below (qk_ BK427.out) hb)
           have n3_ := Aside0.mk (below_step (qb3_ GE417.out GE422.out GE427.out HB.out) hb)
           clear BK417
           clear BK422
           clear BK427
           clear HB
           have BK417 := n0_
           have BK422 := n1_
           have BK427 := n2_
           have HB := n3_
           clear n0_ n1_ n2_ n3_
           (try clear hb)
           (try clear hb2)
           (try clear hk)
           (try clear hi)
           refine hK.out _ _ ⟨(blk_cell BK422.out 0).trans rfl, (blk_cell BK422.out 1).trans rfl⟩ (fun hHeld => ?_)
           clear hK K
           refine no_ ?_
           refine two_ (i := 3) (j := 7) (Ni := some 47) (Nj := some 11) (nb_ 10 15) (nb_ 10 135) rfl rfl rfl rfl (two_of HT_.out (by kernel_rfl)) (by decide) (by decide) (fun K hK => ?_) (fun K hK => ?_)
           ·skip
            refine goes_ Tryd.func18 (by kernel_rfl) rfl #[.agg #[.int .i64 t429, .int .u64 t430], .agg #[.int .i64 t419, .int .u64 t420]] (by rfl) rfl rfl ql_ ?_
            with_reducible refine (corebankref01_Add.calls t429 t430 t419 t420 t431 t432 t433 _ A33.out).mono ?_
            rintro e w45 ⟨rfl, hb⟩
            refine ⟨_, rfl, ?_⟩
            have n0_ := Aside0.mk (blk_below (qk_ BK417.out) hb)
            have n1_ := Aside0.mk (blk_below (qk_ BK422.out) hb)
            have n2_ := Aside0.mk (blk_below (qk_ BK427.out) hb)
            have n3_ := Aside0.mk (below_step (qb3_ GE417.out GE422.out GE427.out HB.out) hb)
            clear BK417
            clear BK422
            clear BK427
            clear HB
            have BK417 := n0_
            have BK422 := n1_
            have BK427 := n2_
            have HB := n3_
            clear n0_ n1_ n2_ n3_
            (try clear hb)
            (try clear hb2)
            (try clear hk)
            (try clear hi)
            refine hK.out _ _ ⟨(blk_cell BK422.out 0).trans rfl, (blk_cell BK422.out 1).trans rfl⟩ (fun hHeld => ?_)
            clear hK K
            refine no_ ?_
            refine pz_ 4 43 (nb_ 10 31) HT_.out ?_
            refine pz_ 5 48 (nb_ 10 63) HT_.out ?_
            refine pz_ 6 49 (nb_ 10 127) HT_.out ?_
            refine on_ 7 11 (nb_ 10 255) HT_.out (fun K hK => ?_)
            refine box_step ?hg (N := 11) ?hd (cs := #[.int .i64 0, .int .u64 0]) (t := 24) ?hr ?_; (case hd => rfl); (case hg => rfl); (case hr => first | (go_simp; done) | (go_simp; rfl))
            intro gb434 hg w46 hbox hb
            have n0_ := Aside0.mk (blk_below (qk_ BK417.out) hb)
            have n1_ := Aside0.mk (blk_below (qk_ BK422.out) hb)
            have n2_ := Aside0.mk (blk_below (qk_ BK427.out) hb)
            have n3_ := Aside0.mk (below_step (qb3_ GE417.out GE422.out GE427.out HB.out) hb)
            have n4_ := Aside0.mk (hbox)
            have n5_ := Aside0.mk (bz_ hg (qb3_ GE417.out GE422.out GE427.out HB.out) : w.heap.size ≤ gb434)
            have n6_ := Aside0.mk (bz_ hg (qb3_ GE417.out GE422.out GE427.out HB.out) : w.heap.size ≤ gb434)
            have n7_ := Aside0.mk (nl_ hg (qk_ BK417.out) : gb417 ≠ gb434)
            have n8_ := Aside0.mk (ng_ hg (qk_ BK417.out) : gb434 ≠ gb417)
            have n9_ := Aside0.mk (nl_ hg (qk_ BK422.out) : gb422 ≠ gb434)
            have n10_ := Aside0.mk (ng_ hg (qk_ BK422.out) : gb434 ≠ gb422)
            have n11_ := Aside0.mk (nl_ hg (qk_ BK427.out) : gb427 ≠ gb434)
            have n12_ := Aside0.mk (ng_ hg (qk_ BK427.out) : gb434 ≠ gb427)
            clear BK417
            clear BK422
            clear BK427
            clear HB
            have BK417 := n0_
            have BK422 := n1_
            have BK427 := n2_
            have HB := n3_
            have BK434 := n4_
            have GW434 := n5_
            have GE434 := n6_
            have NB417_434 := n7_
            have NB434_417 := n8_
            have NB422_434 := n9_
            have NB434_422 := n10_
            have NB427_434 := n11_
            have NB434_427 := n12_
            clear n0_ n1_ n2_ n3_ n4_ n5_ n6_ n7_ n8_ n9_ n10_ n11_ n12_
            clear hb hbox hg
            refine hK.out _ _ ⟨(blk_cell BK422.out 0).trans rfl, (blk_cell BK422.out 1).trans rfl⟩ (fun hHeld => ?_)
            clear hK K
            refine no_ ?_
            exact norm_ (by simp only [putAll, Act.put, List.setIfInBounds_toArray, List.set_cons_zero, List.set_cons_succ]) (hCont (gb434) _ ⟨hHeld, (qk_ BK417.out), (qk_ BK422.out), (qk_ BK427.out), (qk_ BK434.out), GW434.out, GE434.out, NB417_434.out, NB434_417.out, NB422_434.out, NB434_422.out, NB427_434.out, NB434_427.out, (qb4_ GE417.out GE422.out GE427.out GE434.out HB.out)⟩)
           ·skip
            refine box_step ?hg (N := 11) ?hd (cs := #[.int .i64 0, .int .u64 0]) (t := 24) ?hr ?_; (case hd => rfl); (case hg => rfl); (case hr => first | (go_simp; done) | (go_simp; rfl))
            intro gb434 hg w45 hbox hb
            have n0_ := Aside0.mk (blk_below (qk_ BK417.out) hb)
            have n1_ := Aside0.mk (blk_below (qk_ BK422.out) hb)
            have n2_ := Aside0.mk (blk_below (qk_ BK427.out) hb)
            have n3_ := Aside0.mk (below_step (qb3_ GE417.out GE422.out GE427.out HB.out) hb)
            have n4_ := Aside0.mk (hbox)
            have n5_ := Aside0.mk (bz_ hg (qb3_ GE417.out GE422.out GE427.out HB.out) : w.heap.size ≤ gb434)
            have n6_ := Aside0.mk (bz_ hg (qb3_ GE417.out GE422.out GE427.out HB.out) : w.heap.size ≤ gb434)
            have n7_ := Aside0.mk (nl_ hg (qk_ BK417.out) : gb417 ≠ gb434)
            have n8_ := Aside0.mk (ng_ hg (qk_ BK417.out) : gb434 ≠ gb417)
            have n9_ := Aside0.mk (nl_ hg (qk_ BK422.out) : gb422 ≠ gb434)
            have n10_ := Aside0.mk (ng_ hg (qk_ BK422.out) : gb434 ≠ gb422)
            have n11_ := Aside0.mk (nl_ hg (qk_ BK427.out) : gb427 ≠ gb434)
            have n12_ := Aside0.mk (ng_ hg (qk_ BK427.out) : gb434 ≠ gb427)
            clear BK417
            clear BK422
            clear BK427
            clear HB
            have BK417 := n0_
            have BK422 := n1_
            have BK427 := n2_
            have HB := n3_
            have BK434 := n4_
            have GW434 := n5_
            have GE434 := n6_
            have NB417_434 := n7_
            have NB434_417 := n8_
            have NB422_434 := n9_
            have NB434_422 := n10_
            have NB427_434 := n11_
            have NB434_427 := n12_
            clear n0_ n1_ n2_ n3_ n4_ n5_ n6_ n7_ n8_ n9_ n10_ n11_ n12_
            clear hb hbox hg
            refine hK.out _ _ ⟨(blk_cell BK422.out 0).trans rfl, (blk_cell BK422.out 1).trans rfl⟩ (fun hHeld => ?_)
            clear hK K
            refine no_ ?_
            refine on_ 3 47 (nb_ 10 143) HT_.out (fun K hK => ?_)
            refine goes_ Tryd.func18 (by kernel_rfl) rfl #[.agg #[.int .i64 t429, .int .u64 t430], .agg #[.int .i64 t419, .int .u64 t420]] (by rfl) rfl rfl ql_ ?_
            with_reducible refine (corebankref01_Add.calls t429 t430 t419 t420 t431 t432 t433 _ A33.out).mono ?_
            rintro e w46 ⟨rfl, hb⟩
            refine ⟨_, rfl, ?_⟩
            have n0_ := Aside0.mk (blk_below (qk_ BK417.out) hb)
            have n1_ := Aside0.mk (blk_below (qk_ BK422.out) hb)
            have n2_ := Aside0.mk (blk_below (qk_ BK427.out) hb)
            have n3_ := Aside0.mk (blk_below (qk_ BK434.out) hb)
            have n4_ := Aside0.mk (below_step (qb4_ GE417.out GE422.out GE427.out GE434.out HB.out) hb)
            clear BK417
            clear BK422
            clear BK427
            clear BK434
            clear HB
            have BK417 := n0_
            have BK422 := n1_
            have BK427 := n2_
            have BK434 := n3_
            have HB := n4_
            clear n0_ n1_ n2_ n3_ n4_
            (try clear hb)
            (try clear hb2)
            (try clear hk)
            (try clear hi)
            refine hK.out _ _ ⟨(blk_cell BK422.out 0).trans rfl, (blk_cell BK422.out 1).trans rfl⟩ (fun hHeld => ?_)
            clear hK K
            refine no_ ?_
            refine pz_ 4 43 (nb_ 10 159) HT_.out ?_
            refine pz_ 5 48 (nb_ 10 191) HT_.out ?_
            refine pz_ 6 49 (nb_ 10 255) HT_.out ?_
            exact norm_ (by simp only [putAll, Act.put, List.setIfInBounds_toArray, List.set_cons_zero, List.set_cons_succ]) (hCont (gb434) _ ⟨hHeld, (qk_ BK417.out), (qk_ BK422.out), (qk_ BK427.out), (qk_ BK434.out), GW434.out, GE434.out, NB417_434.out, NB434_417.out, NB422_434.out, NB434_422.out, NB427_434.out, NB434_427.out, (qb4_ GE417.out GE422.out GE427.out GE434.out HB.out)⟩)
          ·skip
           refine box_step ?hg (N := 11) ?hd (cs := #[.int .i64 0, .int .u64 0]) (t := 24) ?hr ?_; (case hd => rfl); (case hg => rfl); (case hr => first | (go_simp; done) | (go_simp; rfl))
           intro gb434 hg w44 hbox hb
           have n0_ := Aside0.mk (blk_below (qk_ BK417.out) hb)
           have n1_ := Aside0.mk (blk_below (qk_ BK422.out) hb)
           have n2_ := Aside0.mk (blk_below (qk_ BK427.out) hb)
           have n3_ := Aside0.mk (below_step (qb3_ GE417.out GE422.out GE427.out HB.out) hb)
           have n4_ := Aside0.mk (hbox)
           have n5_ := Aside0.mk (bz_ hg (qb3_ GE417.out GE422.out GE427.out HB.out) : w.heap.size ≤ gb434)
           have n6_ := Aside0.mk (bz_ hg (qb3_ GE417.out GE422.out GE427.out HB.out) : w.heap.size ≤ gb434)
           have n7_ := Aside0.mk (nl_ hg (qk_ BK417.out) : gb417 ≠ gb434)
           have n8_ := Aside0.mk (ng_ hg (qk_ BK417.out) : gb434 ≠ gb417)
           have n9_ := Aside0.mk (nl_ hg (qk_ BK422.out) : gb422 ≠ gb434)
           have n10_ := Aside0.mk (ng_ hg (qk_ BK422.out) : gb434 ≠ gb422)
           have n11_ := Aside0.mk (nl_ hg (qk_ BK427.out) : gb427 ≠ gb434)
           have n12_ := Aside0.mk (ng_ hg (qk_ BK427.out) : gb434 ≠ gb427)
           clear BK417
           clear BK422
           clear BK427
           clear HB
           have BK417 := n0_
           have BK422 := n1_
           have BK427 := n2_
           have HB := n3_
           have BK434 := n4_
           have GW434 := n5_
           have GE434 := n6_
           have NB417_434 := n7_
           have NB434_417 := n8_
           have NB422_434 := n9_
           have NB434_422 := n10_
           have NB427_434 := n11_
           have NB434_427 := n12_
           clear n0_ n1_ n2_ n3_ n4_ n5_ n6_ n7_ n8_ n9_ n10_ n11_ n12_
           clear hb hbox hg
           refine hK.out _ _ ⟨(blk_cell BK422.out 0).trans rfl, (blk_cell BK422.out 1).trans rfl⟩ (fun hHeld => ?_)
           clear hK K
           refine no_ ?_
           refine on_ 1 45 (nb_ 10 135) HT_.out (fun K hK => ?_)
           refine goes_ Tryd.func19 (by kernel_rfl) rfl #[.int .i64 t418, .int .i64 1603080000000] (by rfl) rfl rfl ql_ ?_
           with_reducible refine (corebankref01_Mul.calls t418 1603080000000 t429 t430 _ A32.out).mono ?_
           rintro e w45 ⟨rfl, hb⟩
           refine ⟨_, rfl, ?_⟩
           have n0_ := Aside0.mk (blk_below (qk_ BK417.out) hb)
           have n1_ := Aside0.mk (blk_below (qk_ BK422.out) hb)
           have n2_ := Aside0.mk (blk_below (qk_ BK427.out) hb)
           have n3_ := Aside0.mk (blk_below (qk_ BK434.out) hb)
           have n4_ := Aside0.mk (below_step (qb4_ GE417.out GE422.out GE427.out GE434.out HB.out) hb)
           clear BK417
           clear BK422
           clear BK427
           clear BK434
           clear HB
           have BK417 := n0_
           have BK422 := n1_
           have BK427 := n2_
           have BK434 := n3_
           have HB := n4_
           clear n0_ n1_ n2_ n3_ n4_
           (try clear hb)
           (try clear hb2)
           (try clear hk)
           (try clear hi)
           refine hK.out _ _ ⟨(blk_cell BK422.out 0).trans rfl, (blk_cell BK422.out 1).trans rfl⟩ (fun hHeld => ?_)
           clear hK K
           refine no_ ?_
           refine on_ 3 47 (nb_ 10 143) HT_.out (fun K hK => ?_)
           refine goes_ Tryd.func18 (by kernel_rfl) rfl #[.agg #[.int .i64 t429, .int .u64 t430], .agg #[.int .i64 t419, .int .u64 t420]] (by rfl) rfl rfl ql_ ?_
           with_reducible refine (corebankref01_Add.calls t429 t430 t419 t420 t431 t432 t433 _ A33.out).mono ?_
           rintro e w46 ⟨rfl, hb⟩
           refine ⟨_, rfl, ?_⟩
           have n0_ := Aside0.mk (blk_below (qk_ BK417.out) hb)
           have n1_ := Aside0.mk (blk_below (qk_ BK422.out) hb)
           have n2_ := Aside0.mk (blk_below (qk_ BK427.out) hb)
           have n3_ := Aside0.mk (blk_below (qk_ BK434.out) hb)
           have n4_ := Aside0.mk (below_step (qb4_ GE417.out GE422.out GE427.out GE434.out HB.out) hb)
           clear BK417
           clear BK422
           clear BK427
           clear BK434
           clear HB
           have BK417 := n0_
           have BK422 := n1_
           have BK427 := n2_
           have BK434 := n3_
           have HB := n4_
           clear n0_ n1_ n2_ n3_ n4_
           (try clear hb)
           (try clear hb2)
           (try clear hk)
           (try clear hi)
           refine hK.out _ _ ⟨(blk_cell BK422.out 0).trans rfl, (blk_cell BK422.out 1).trans rfl⟩ (fun hHeld => ?_)
           clear hK K
           refine no_ ?_
           refine pz_ 4 43 (nb_ 10 159) HT_.out ?_
           refine pz_ 5 48 (nb_ 10 191) HT_.out ?_
           refine pz_ 6 49 (nb_ 10 255) HT_.out ?_
           exact norm_ (by simp only [putAll, Act.put, List.setIfInBounds_toArray, List.set_cons_zero, List.set_cons_succ]) (hCont (gb434) _ ⟨hHeld, (qk_ BK417.out), (qk_ BK422.out), (qk_ BK427.out), (qk_ BK434.out), GW434.out, GE434.out, NB417_434.out, NB434_417.out, NB422_434.out, NB434_422.out, NB427_434.out, NB434_427.out, (qb4_ GE417.out GE422.out GE427.out GE434.out HB.out)⟩)
         rintro gb434 w47 ⟨hS_, h0_, h1_, h2_, h3_, h4_, h5_, h6_, h7_, h8_, h9_, h10_, h11_, h12_⟩
         have n0_ : Aside0 (w47.heap[gb417]? = some (.cells #[.int .i64 a0_0, .int .u64 a0_1] 24 (0, 0))) := ⟨h0_⟩
         have n1_ : Aside0 (w47.heap[gb422]? = some (.cells #[.int .i64 t419, .int .u64 t420] 24 (0, 0))) := ⟨h1_⟩
         have n2_ : Aside0 (w47.heap[gb427]? = some (.cells #[.int .i64 t424, .int .u64 t425] 24 (0, 0))) := ⟨h2_⟩
         have n3_ : Aside0 (w47.heap[gb434]? = some (.cells #[.int .i64 0, .int .u64 0] 24 (0, 0))) := ⟨h3_⟩
         have n4_ : Aside0 (w.heap.size ≤ gb434) := ⟨h4_⟩
         have n5_ : Aside0 (w.heap.size ≤ gb434) := ⟨h5_⟩
         have n6_ : Aside0 (gb417 ≠ gb434) := ⟨h6_⟩
         have n7_ : Aside0 (gb434 ≠ gb417) := ⟨h7_⟩
         have n8_ : Aside0 (gb422 ≠ gb434) := ⟨h8_⟩
         have n9_ : Aside0 (gb434 ≠ gb422) := ⟨h9_⟩
         have n10_ : Aside0 (gb427 ≠ gb434) := ⟨h10_⟩
         have n11_ : Aside0 (gb434 ≠ gb427) := ⟨h11_⟩
         have n12_ : Aside0 (Below w.heap.size w w47) := ⟨h12_⟩
         clear BK417
         clear BK422
         clear BK427
         clear HB
         clear h0_ h1_ h2_ h3_ h4_ h5_ h6_ h7_ h8_ h9_ h10_ h11_ h12_
         have BK417 := n0_
         have BK422 := n1_
         have BK427 := n2_
         have BK434 := n3_
         have GW434 := n4_
         have GE434 := n5_
         have NB417_434 := n6_
         have NB434_417 := n7_
         have NB422_434 := n8_
         have NB434_422 := n9_
         have NB427_434 := n10_
         have NB434_427 := n11_
         have HB := n12_
         clear n0_ n1_ n2_ n3_ n4_ n5_ n6_ n7_ n8_ n9_ n10_ n11_ n12_
         have hHeld : w47.cell? ⟨gb422, 0, none⟩ = some (.int .i64 t419) ∧ w47.cell? ⟨gb422, 1, none⟩ = some (.int .u64 t420) := hS_
         refine norm_ (a' := ?_) ?_ ?_
         rotate_left
         ·simp only [putAll, Act.put, List.setIfInBounds_toArray, List.set_cons_zero, List.set_cons_succ]
          rfl
         refine one_ (i := 8) (N := none) (nb_ 10 511) rfl rfl (one_of HT_.out (by kernel_rfl)) (by decide) (fun K hK => ?_)
         have hs48 : w47.cell? ⟨gb434, 0, none⟩ = some (.int .i64 0) := (blk_cell BK434.out 0).trans rfl
         have hfs48 := blk_frozen BK434.out 0
         have hns48_0 := NB417_434.out
         have hns48_1 := NB422_434.out
         have hns48_2 := NB427_434.out
         have hms48_0 := NB434_417.out
         have hms48_1 := NB434_422.out
         have hms48_2 := NB434_427.out
         have hs49 : w47.cell? ⟨gb434, 1, none⟩ = some (.int .u64 0) := (blk_cell BK434.out 1).trans rfl
         have hfs49 := blk_frozen BK434.out 1
         have hns49_0 := NB417_434.out
         have hns49_1 := NB422_434.out
         have hns49_2 := NB427_434.out
         have hms49_0 := NB434_417.out
         have hms49_1 := NB434_422.out
         have hms49_2 := NB434_427.out
         refine skip_ (w1 := ?_) (by rfl) rfl ?_ ?_
         rotate_left
         ·go_simp
          rfl
         refine hK.out _ _ ⟨((cell_far (p := ⟨gb434, _, none⟩) NB422_434.out _).trans (((cell_far (p := ⟨gb434, _, none⟩) NB422_434.out _).trans (hHeld.1)))), ((cell_far (p := ⟨gb434, _, none⟩) NB422_434.out _).trans (((cell_far (p := ⟨gb434, _, none⟩) NB422_434.out _).trans (hHeld.2))))⟩ (fun hHeld => ?_)
         clear hK K
         refine pz_ 9 12 (nb_ 10 1023) HT_.out ?_
         refine done_ (done_of HT_.out (by kernel_rfl)) ?_
         try go_wp2
         have n0_ : Aside0 (((w47.setCell ⟨gb434, 0, none⟩ (.int .i64 t431)).setCell ⟨gb434, 1, none⟩ (.int .u64 t432)).heap[gb417]? = some (.cells #[.int .i64 a0_0, .int .u64 a0_1] 24 (0, 0))) := ⟨qff_ NB417_434.out NB417_434.out BK417.out⟩
         have n1_ : Aside0 (((w47.setCell ⟨gb434, 0, none⟩ (.int .i64 t431)).setCell ⟨gb434, 1, none⟩ (.int .u64 t432)).heap[gb422]? = some (.cells #[.int .i64 t419, .int .u64 t420] 24 (0, 0))) := ⟨qff_ NB422_434.out NB422_434.out BK422.out⟩
         have n2_ : Aside0 (((w47.setCell ⟨gb434, 0, none⟩ (.int .i64 t431)).setCell ⟨gb434, 1, none⟩ (.int .u64 t432)).heap[gb427]? = some (.cells #[.int .i64 t424, .int .u64 t425] 24 (0, 0))) := ⟨qff_ NB427_434.out NB427_434.out BK427.out⟩
         have n3_ : Aside0 (((w47.setCell ⟨gb434, 0, none⟩ (.int .i64 t431)).setCell ⟨gb434, 1, none⟩ (.int .u64 t432)).heap[gb434]? = some (.cells #[.int .i64 t431, .int .u64 t432] 24 (0, 0))) := ⟨qpp_ #[.int .i64 t431, .int .u64 0] 1 #[.int .i64 0, .int .u64 0] 0 BK434.out⟩
         have n4_ : Aside0 (Below w.heap.size w ((w47.setCell ⟨gb434, 0, none⟩ (.int .i64 t431)).setCell ⟨gb434, 1, none⟩ (.int .u64 t432))) := ⟨qb4_ GE417.out GE422.out GE427.out GE434.out HB.out⟩
         (try clear BK417)
         (try clear BK422)
         (try clear BK427)
         (try clear BK434)
         (try clear HB)
         generalize ((w47.setCell ⟨gb434, 0, none⟩ (.int .i64 t431)).setCell ⟨gb434, 1, none⟩ (.int .u64 t432)) = w50 at n0_ n1_ n2_ n3_ n4_ ⊢
         have BK417 := n0_
         have BK422 := n1_
         have BK427 := n2_
         have BK434 := n3_
         have HB := n4_
         clear n0_ n1_ n2_ n3_ n4_
         have n0_ := Aside0.mk (blk_drew BK417.out)
         have n1_ := Aside0.mk (blk_drew BK422.out)
         have n2_ := Aside0.mk (blk_drew BK427.out)
         have n3_ := Aside0.mk (blk_drew BK434.out)
         have n4_ := Aside0.mk (below_drew1 HB.out)
         clear BK417
         clear BK422
         clear BK427
         clear BK434
         clear HB
         have BK417 := n0_
         have BK422 := n1_
         have BK427 := n2_
         have BK434 := n3_
         have HB := n4_
         clear n0_ n1_ n2_ n3_ n4_
         refine start_ (n := 23) (S := fun w' => w'.cell? ⟨gb434, 0, none⟩ = some (.int .i64 t431) ∧ w'.cell? ⟨gb434, 1, none⟩ = some (.int .u64 t432) ∧ w'.cell? ⟨gb417, 0, none⟩ = some (.int .i64 a0_0) ∧ w'.cell? ⟨gb417, 1, none⟩ = some (.int .u64 a0_1) ∧ w'.cell? ⟨gb422, 0, none⟩ = some (.int .i64 t419) ∧ w'.cell? ⟨gb422, 1, none⟩ = some (.int .u64 t420)) (ds := []) (nb_ 23 0) (by kernel_rfl) rfl rfl ⟨(blk_cell BK434.out 0).trans rfl, (blk_cell BK434.out 1).trans rfl, (blk_cell BK417.out 0).trans rfl, (blk_cell BK417.out 1).trans rfl, (blk_cell BK422.out 0).trans rfl, (blk_cell BK422.out 1).trans rfl⟩ (fun hHeld => ?_); refine with_tabW corebanklaw02_RoundingAmounts.tab8 corebanklaw02_RoundingAmounts.bits8 (fun HT_ HW_ => ?_)
         generalize w50.drew = w51 at BK417 BK422 BK427 BK434 HB hHeld ⊢
         refine pz_ 0 50 (nb_ 23 1) HT_.out ?_
         refine pz_ 1 51 (nb_ 23 3) HT_.out ?_
         refine pz_ 2 52 (nb_ 23 7) HT_.out ?_
         refine tk6_ 3 53 (nb_ 23 15) HT_.out HW_.out hHeld ?_
         refine tk6_ 4 54 (nb_ 23 31) HT_.out HW_.out hHeld ?_
         refine pz_ 5 55 (nb_ 23 63) HT_.out ?_
         refine pz_ 6 56 (nb_ 23 127) HT_.out ?_
         refine pz_ 7 57 (nb_ 23 255) HT_.out ?_
         refine tk6_ 8 58 (nb_ 23 511) HT_.out HW_.out hHeld ?_
         refine on_ 9 59 (nb_ 23 1023) HT_.out (fun K hK => ?_)
         refine goes_ Tryd.func21 (by kernel_rfl) rfl #[.int .i64 1603080000000] (by rfl) rfl rfl ql_ ?_
         with_reducible refine (corebankref01_Of.calls 1603080000000 t435 t436 _ A36.out).mono ?_
         rintro e w52 ⟨rfl, hb⟩
         refine ⟨_, rfl, ?_⟩
         have n0_ := Aside0.mk (blk_below (qk_ BK417.out) hb)
         have n1_ := Aside0.mk (blk_below (qk_ BK422.out) hb)
         have n2_ := Aside0.mk (blk_below (qk_ BK427.out) hb)
         have n3_ := Aside0.mk (blk_below (qk_ BK434.out) hb)
         have n4_ := Aside0.mk (below_step (qb4_ GE417.out GE422.out GE427.out GE434.out HB.out) hb)
         clear BK417
         clear BK422
         clear BK427
         clear BK434
         clear HB
         have BK417 := n0_
         have BK422 := n1_
         have BK427 := n2_
         have BK434 := n3_
         have HB := n4_
         clear n0_ n1_ n2_ n3_ n4_
         (try clear hb)
         (try clear hb2)
         (try clear hk)
         (try clear hi)
         refine hK.out _ _ ⟨(blk_cell BK434.out 0).trans rfl, (blk_cell BK434.out 1).trans rfl, (blk_cell BK417.out 0).trans rfl, (blk_cell BK417.out 1).trans rfl, (blk_cell BK422.out 0).trans rfl, (blk_cell BK422.out 1).trans rfl⟩ (fun hHeld => ?_)
         clear hK K
         refine no_ ?_
         refine on_ 10 60 (nb_ 23 2047) HT_.out (fun K hK => ?_)
         refine goes_ Tryd.func20 (by kernel_rfl) rfl #[.agg #[.int .i64 t419, .int .u64 t420], .agg #[.int .i64 t435, .int .u64 t436]] (by rfl) rfl rfl ql_ ?_
         with_reducible refine (corebankref01_Cmp.calls t419 t420 t435 t436 t437 _ A37.out).mono ?_
         rintro e w53 ⟨rfl, hb⟩
         refine ⟨_, rfl, ?_⟩
         have n0_ := Aside0.mk (blk_below (qk_ BK417.out) hb)
         have n1_ := Aside0.mk (blk_below (qk_ BK422.out) hb)
         have n2_ := Aside0.mk (blk_below (qk_ BK427.out) hb)
         have n3_ := Aside0.mk (blk_below (qk_ BK434.out) hb)
         have n4_ := Aside0.mk (below_step (qb4_ GE417.out GE422.out GE427.out GE434.out HB.out) hb)
         clear BK417
         clear BK422
         clear BK427
         clear BK434
         clear HB
         have BK417 := n0_
         have BK422 := n1_
         have BK427 := n2_
         have BK434 := n3_
         have HB := n4_
         clear n0_ n1_ n2_ n3_ n4_
         (try clear hb)
         (try clear hb2)
         (try clear hk)
         (try clear hi)
         refine hK.out _ _ ⟨(blk_cell BK434.out 0).trans rfl, (blk_cell BK434.out 1).trans rfl, (blk_cell BK417.out 0).trans rfl, (blk_cell BK417.out 1).trans rfl, (blk_cell BK422.out 0).trans rfl, (blk_cell BK422.out 1).trans rfl⟩ (fun hHeld => ?_)
         clear hK K
         refine no_ ?_
         refine pz_ 11 61 (nb_ 23 4095) HT_.out ?_
         refine pz_ 12 62 (nb_ 23 8191) HT_.out ?_
         refine pz_ 13 63 (nb_ 23 16383) HT_.out ?_
         refine tk6_ 14 64 (nb_ 23 32767) HT_.out HW_.out hHeld ?_
         refine on_ 15 65 (nb_ 23 65535) HT_.out (fun K hK => ?_)
         refine goes_ Tryd.func21 (by kernel_rfl) rfl #[.int .i64 (-1603080000000)] (by rfl) rfl rfl ql_ ?_
         with_reducible refine (corebankref01_Of.calls (-1603080000000) t438 t439 _ A39.out).mono ?_
         rintro e w54 ⟨rfl, hb⟩
         refine ⟨_, rfl, ?_⟩
         have n0_ := Aside0.mk (blk_below (qk_ BK417.out) hb)
         have n1_ := Aside0.mk (blk_below (qk_ BK422.out) hb)
         have n2_ := Aside0.mk (blk_below (qk_ BK427.out) hb)
         have n3_ := Aside0.mk (blk_below (qk_ BK434.out) hb)
         have n4_ := Aside0.mk (below_step (qb4_ GE417.out GE422.out GE427.out GE434.out HB.out) hb)
         clear BK417
         clear BK422
         clear BK427
         clear BK434
         clear HB
         have BK417 := n0_
         have BK422 := n1_
         have BK427 := n2_
         have BK434 := n3_
         have HB := n4_
         clear n0_ n1_ n2_ n3_ n4_
         (try clear hb)
         (try clear hb2)
         (try clear hk)
         (try clear hi)
         refine hK.out _ _ ⟨(blk_cell BK434.out 0).trans rfl, (blk_cell BK434.out 1).trans rfl, (blk_cell BK417.out 0).trans rfl, (blk_cell BK417.out 1).trans rfl, (blk_cell BK422.out 0).trans rfl, (blk_cell BK422.out 1).trans rfl⟩ (fun hHeld => ?_)
         clear hK K
         refine no_ ?_
         refine on_ 16 66 (nb_ 23 131071) HT_.out (fun K hK => ?_)
         refine goes_ Tryd.func20 (by kernel_rfl) rfl #[.agg #[.int .i64 t419, .int .u64 t420], .agg #[.int .i64 t438, .int .u64 t439]] (by rfl) rfl rfl ql_ ?_
         with_reducible refine (corebankref01_Cmp.calls t419 t420 t438 t439 t440 _ A40.out).mono ?_
         rintro e w55 ⟨rfl, hb⟩
         refine ⟨_, rfl, ?_⟩
         have n0_ := Aside0.mk (blk_below (qk_ BK417.out) hb)
         have n1_ := Aside0.mk (blk_below (qk_ BK422.out) hb)
         have n2_ := Aside0.mk (blk_below (qk_ BK427.out) hb)
         have n3_ := Aside0.mk (blk_below (qk_ BK434.out) hb)
         have n4_ := Aside0.mk (below_step (qb4_ GE417.out GE422.out GE427.out GE434.out HB.out) hb)
         clear BK417
         clear BK422
         clear BK427
         clear BK434
         clear HB
         have BK417 := n0_
         have BK422 := n1_
         have BK427 := n2_
         have BK434 := n3_
         have HB := n4_
         clear n0_ n1_ n2_ n3_ n4_
         (try clear hb)
         (try clear hb2)
         (try clear hk)
         (try clear hi)
         refine hK.out _ _ ⟨(blk_cell BK434.out 0).trans rfl, (blk_cell BK434.out 1).trans rfl, (blk_cell BK417.out 0).trans rfl, (blk_cell BK417.out 1).trans rfl, (blk_cell BK422.out 0).trans rfl, (blk_cell BK422.out 1).trans rfl⟩ (fun hHeld => ?_)
         clear hK K
         refine no_ ?_
         refine pz_ 17 67 (nb_ 23 262143) HT_.out ?_
         refine pz_ 18 68 (nb_ 23 524287) HT_.out ?_
         refine pz_ 19 69 (nb_ 23 1048575) HT_.out ?_
         refine on_ 20 70 (nb_ 23 2097151) HT_.out (fun K hK => ?_)
         refine goes_ Tryd.func15 (by kernel_rfl) rfl #[] (by rfl) rfl rfl ql_ ?_
         with_reducible refine (corebanklaw02_live.calls (hG := by first | exact hG | (with_reducible exact GW.below hG (qb4_ GE417.out GE422.out GE427.out GE434.out HB.out)) | (with_reducible repeat (first | exact hG | apply GW.drewN | apply GW.drew)))  t441 _ A42.out).mono ?_
         rintro e w56 ⟨rfl, hb⟩
         refine ⟨_, rfl, ?_⟩
         have n0_ := Aside0.mk (blk_below (qk_ BK417.out) hb)
         have n1_ := Aside0.mk (blk_below (qk_ BK422.out) hb)
         have n2_ := Aside0.mk (blk_below (qk_ BK427.out) hb)
         have n3_ := Aside0.mk (blk_below (qk_ BK434.out) hb)
         have n4_ := Aside0.mk (below_step (qb4_ GE417.out GE422.out GE427.out GE434.out HB.out) hb)
         clear BK417
         clear BK422
         clear BK427
         clear BK434
         clear HB
         have BK417 := n0_
         have BK422 := n1_
         have BK427 := n2_
         have BK434 := n3_
         have HB := n4_
         clear n0_ n1_ n2_ n3_ n4_
         (try clear hb)
         (try clear hb2)
         (try clear hk)
         (try clear hi)
         refine hK.out _ _ ⟨(blk_cell BK434.out 0).trans rfl, (blk_cell BK434.out 1).trans rfl, (blk_cell BK417.out 0).trans rfl, (blk_cell BK417.out 1).trans rfl, (blk_cell BK422.out 0).trans rfl, (blk_cell BK422.out 1).trans rfl⟩ (fun hHeld => ?_)
         clear hK K
         refine no_ ?_
         refine pz_ 21 71 (nb_ 23 4194303) HT_.out ?_
         refine pz_ 22 4 (nb_ 23 8388607) HT_.out ?_
         refine done_ (done_of HT_.out (by kernel_rfl)) ?_
         try go_wp2
         go_ret
         exact ⟨qe_, qb4_ GE417.out GE422.out GE427.out GE434.out HB.out⟩
        ·rw [if_neg c41] at H
         have c41b0 : decide (0 < t440) = false := decide_eq_false c41
         clear c41
         obtain rfl := Option.some.inj H
         try go_wp2
         have n0_ := Aside0.mk (blk_drew BK417.out)
         have n1_ := Aside0.mk (blk_drew BK422.out)
         have n2_ := Aside0.mk (blk_drew BK427.out)
         have n3_ := Aside0.mk (below_drew1 HB.out)
         clear BK417
         clear BK422
         clear BK427
         clear HB
         have BK417 := n0_
         have BK422 := n1_
         have BK427 := n2_
         have HB := n3_
         clear n0_ n1_ n2_ n3_
         refine start_ (n := 10) (S := fun w' => w'.cell? ⟨gb422, 0, none⟩ = some (.int .i64 t419) ∧ w'.cell? ⟨gb422, 1, none⟩ = some (.int .u64 t420)) (ds := []) (nb_ 10 0) (by kernel_rfl) rfl rfl ⟨(blk_cell BK422.out 0).trans rfl, (blk_cell BK422.out 1).trans rfl⟩ (fun hHeld => ?_); refine with_tabW corebanklaw02_RoundingAmounts.tab7 corebanklaw02_RoundingAmounts.bits7 (fun HT_ HW_ => ?_)
         generalize wc.drew = w57 at BK417 BK422 BK427 HB hHeld ⊢
         refine pz_ 0 44 (nb_ 10 1) HT_.out ?_
         refine tk2_ 2 46 (nb_ 10 5) HT_.out HW_.out hHeld ?_
         refine join_ (σ := Nat) 2 (nb_ 10 255) (fun s_ => [(45, .agg #[.int .i64 t429, .int .u64 t430]), (47, .tuple #[.agg #[.int .i64 t431, .int .u64 t432], .int .i64 t433]), (11, .pointer (some ⟨s_, 0, none⟩)), (43, .tuple #[.agg #[.int .i64 t431, .int .u64 t432], .int .i64 t433]), (48, .agg #[.int .i64 t431, .int .u64 t432]), (49, .int .i64 t433)]) (fun s_ w' => (w'.cell? ⟨gb422, 0, none⟩ = some (.int .i64 t419) ∧ w'.cell? ⟨gb422, 1, none⟩ = some (.int .u64 t420)) ∧ (w'.heap[gb417]? = some (.cells #[.int .i64 a0_0, .int .u64 a0_1] 24 (0, 0))) ∧ (w'.heap[gb422]? = some (.cells #[.int .i64 t419, .int .u64 t420] 24 (0, 0))) ∧ (w'.heap[gb427]? = some (.cells #[.int .i64 t424, .int .u64 t425] 24 (0, 0))) ∧ (w'.heap[s_]? = some (.cells #[.int .i64 0, .int .u64 0] 24 (0, 0))) ∧ (w.heap.size ≤ s_) ∧ (w.heap.size ≤ s_) ∧ (gb417 ≠ s_) ∧ (s_ ≠ gb417) ∧ (gb422 ≠ s_) ∧ (s_ ≠ gb422) ∧ (gb427 ≠ s_) ∧ (s_ ≠ gb427) ∧ (Below w.heap.size w w')) ?_ ?_
         rotate_left
         ·intro hCont
          refine two_ (i := 1) (j := 7) (Ni := some 45) (Nj := some 11) (nb_ 10 7) (nb_ 10 133) rfl rfl rfl rfl (two_of HT_.out (by kernel_rfl)) (by decide) (by decide) (fun K hK => ?_) (fun K hK => ?_)
          ·skip
           refine goes_ Tryd.func19 (by kernel_rfl) rfl #[.int .i64 t418, .int .i64 1603080000000] (by rfl) rfl rfl ql_ ?_
           with_reducible refine (corebankref01_Mul.calls t418 1603080000000 t429 t430 _ A32.out).mono ?_
           rintro e w58 ⟨rfl, hb⟩
           refine ⟨_, rfl, ?_⟩
           have n0_ := Aside0.mk (blk_below (qk_ BK417.out) hb)
           have n1_ := Aside0.mk (blk_below (qk_ BK422.out) hb)
           have n2_ := Aside0.mk (blk_below (qk_ BK427.out) hb)
           have n3_ := Aside0.mk (below_step (qb3_ GE417.out GE422.out GE427.out HB.out) hb)
           clear BK417
           clear BK422
           clear BK427
           clear HB
           have BK417 := n0_
           have BK422 := n1_
           have BK427 := n2_
           have HB := n3_
           clear n0_ n1_ n2_ n3_
           (try clear hb)
           (try clear hb2)
           (try clear hk)
           (try clear hi)
           refine hK.out _ _ ⟨(blk_cell BK422.out 0).trans rfl, (blk_cell BK422.out 1).trans rfl⟩ (fun hHeld => ?_)
           clear hK K
           refine no_ ?_
           refine two_ (i := 3) (j := 7) (Ni := some 47) (Nj := some 11) (nb_ 10 15) (nb_ 10 135) rfl rfl rfl rfl (two_of HT_.out (by kernel_rfl)) (by decide) (by decide) (fun K hK => ?_) (fun K hK => ?_)
           ·skip
            refine goes_ Tryd.func18 (by kernel_rfl) rfl #[.agg #[.int .i64 t429, .int .u64 t430], .agg #[.int .i64 t419, .int .u64 t420]] (by rfl) rfl rfl ql_ ?_
            with_reducible refine (corebankref01_Add.calls t429 t430 t419 t420 t431 t432 t433 _ A33.out).mono ?_
            rintro e w59 ⟨rfl, hb⟩
            refine ⟨_, rfl, ?_⟩
            have n0_ := Aside0.mk (blk_below (qk_ BK417.out) hb)
            have n1_ := Aside0.mk (blk_below (qk_ BK422.out) hb)
            have n2_ := Aside0.mk (blk_below (qk_ BK427.out) hb)
            have n3_ := Aside0.mk (below_step (qb3_ GE417.out GE422.out GE427.out HB.out) hb)
            clear BK417
            clear BK422
            clear BK427
            clear HB
            have BK417 := n0_
            have BK422 := n1_
            have BK427 := n2_
            have HB := n3_
            clear n0_ n1_ n2_ n3_
            (try clear hb)
            (try clear hb2)
            (try clear hk)
            (try clear hi)
            refine hK.out _ _ ⟨(blk_cell BK422.out 0).trans rfl, (blk_cell BK422.out 1).trans rfl⟩ (fun hHeld => ?_)
            clear hK K
            refine no_ ?_
            refine pz_ 4 43 (nb_ 10 31) HT_.out ?_
            refine pz_ 5 48 (nb_ 10 63) HT_.out ?_
            refine pz_ 6 49 (nb_ 10 127) HT_.out ?_
            refine on_ 7 11 (nb_ 10 255) HT_.out (fun K hK => ?_)
            refine box_step ?hg (N := 11) ?hd (cs := #[.int .i64 0, .int .u64 0]) (t := 24) ?hr ?_; (case hd => rfl); (case hg => rfl); (case hr => first | (go_simp; done) | (go_simp; rfl))
            intro gb434 hg w60 hbox hb
            have n0_ := Aside0.mk (blk_below (qk_ BK417.out) hb)
            have n1_ := Aside0.mk (blk_below (qk_ BK422.out) hb)
            have n2_ := Aside0.mk (blk_below (qk_ BK427.out) hb)
            have n3_ := Aside0.mk (below_step (qb3_ GE417.out GE422.out GE427.out HB.out) hb)
            have n4_ := Aside0.mk (hbox)
            have n5_ := Aside0.mk (bz_ hg (qb3_ GE417.out GE422.out GE427.out HB.out) : w.heap.size ≤ gb434)
            have n6_ := Aside0.mk (bz_ hg (qb3_ GE417.out GE422.out GE427.out HB.out) : w.heap.size ≤ gb434)
            have n7_ := Aside0.mk (nl_ hg (qk_ BK417.out) : gb417 ≠ gb434)
            have n8_ := Aside0.mk (ng_ hg (qk_ BK417.out) : gb434 ≠ gb417)
            have n9_ := Aside0.mk (nl_ hg (qk_ BK422.out) : gb422 ≠ gb434)
            have n10_ := Aside0.mk (ng_ hg (qk_ BK422.out) : gb434 ≠ gb422)
            have n11_ := Aside0.mk (nl_ hg (qk_ BK427.out) : gb427 ≠ gb434)
            have n12_ := Aside0.mk (ng_ hg (qk_ BK427.out) : gb434 ≠ gb427)
            clear BK417
            clear BK422
            clear BK427
            clear HB
            have BK417 := n0_
            have BK422 := n1_
            have BK427 := n2_
            have HB := n3_
            have BK434 := n4_
            have GW434 := n5_
            have GE434 := n6_
            have NB417_434 := n7_
            have NB434_417 := n8_
            have NB422_434 := n9_
            have NB434_422 := n10_
            have NB427_434 := n11_
            have NB434_427 := n12_
            clear n0_ n1_ n2_ n3_ n4_ n5_ n6_ n7_ n8_ n9_ n10_ n11_ n12_
            clear hb hbox hg
            refine hK.out _ _ ⟨(blk_cell BK422.out 0).trans rfl, (blk_cell BK422.out 1).trans rfl⟩ (fun hHeld => ?_)
            clear hK K
            refine no_ ?_
            exact norm_ (by simp only [putAll, Act.put, List.setIfInBounds_toArray, List.set_cons_zero, List.set_cons_succ]) (hCont (gb434) _ ⟨hHeld, (qk_ BK417.out), (qk_ BK422.out), (qk_ BK427.out), (qk_ BK434.out), GW434.out, GE434.out, NB417_434.out, NB434_417.out, NB422_434.out, NB434_422.out, NB427_434.out, NB434_427.out, (qb4_ GE417.out GE422.out GE427.out GE434.out HB.out)⟩)
           ·skip
            refine box_step ?hg (N := 11) ?hd (cs := #[.int .i64 0, .int .u64 0]) (t := 24) ?hr ?_; (case hd => rfl); (case hg => rfl); (case hr => first | (go_simp; done) | (go_simp; rfl))
            intro gb434 hg w59 hbox hb
            have n0_ := Aside0.mk (blk_below (qk_ BK417.out) hb)
            have n1_ := Aside0.mk (blk_below (qk_ BK422.out) hb)
            have n2_ := Aside0.mk (blk_below (qk_ BK427.out) hb)
            have n3_ := Aside0.mk (below_step (qb3_ GE417.out GE422.out GE427.out HB.out) hb)
            have n4_ := Aside0.mk (hbox)
            have n5_ := Aside0.mk (bz_ hg (qb3_ GE417.out GE422.out GE427.out HB.out) : w.heap.size ≤ gb434)
            have n6_ := Aside0.mk (bz_ hg (qb3_ GE417.out GE422.out GE427.out HB.out) : w.heap.size ≤ gb434)
            have n7_ := Aside0.mk (nl_ hg (qk_ BK417.out) : gb417 ≠ gb434)
            have n8_ := Aside0.mk (ng_ hg (qk_ BK417.out) : gb434 ≠ gb417)
            have n9_ := Aside0.mk (nl_ hg (qk_ BK422.out) : gb422 ≠ gb434)
            have n10_ := Aside0.mk (ng_ hg (qk_ BK422.out) : gb434 ≠ gb422)
            have n11_ := Aside0.mk (nl_ hg (qk_ BK427.out) : gb427 ≠ gb434)
            have n12_ := Aside0.mk (ng_ hg (qk_ BK427.out) : gb434 ≠ gb427)
            clear BK417
            clear BK422
            clear BK427
            clear HB
            have BK417 := n0_
            have BK422 := n1_
            have BK427 := n2_
            have HB := n3_
            have BK434 := n4_
            have GW434 := n5_
            have GE434 := n6_
            have NB417_434 := n7_
            have NB434_417 := n8_
            have NB422_434 := n9_
            have NB434_422 := n10_
            have NB427_434 := n11_
            have NB434_427 := n12_
            clear n0_ n1_ n2_ n3_ n4_ n5_ n6_ n7_ n8_ n9_ n10_ n11_ n12_
            clear hb hbox hg
            refine hK.out _ _ ⟨(blk_cell BK422.out 0).trans rfl, (blk_cell BK422.out 1).trans rfl⟩ (fun hHeld => ?_)
            clear hK K
            refine no_ ?_
            refine on_ 3 47 (nb_ 10 143) HT_.out (fun K hK => ?_)
            refine goes_ Tryd.func18 (by kernel_rfl) rfl #[.agg #[.int .i64 t429, .int .u64 t430], .agg #[.int .i64 t419, .int .u64 t420]] (by rfl) rfl rfl ql_ ?_
            with_reducible refine (corebankref01_Add.calls t429 t430 t419 t420 t431 t432 t433 _ A33.out).mono ?_
            rintro e w60 ⟨rfl, hb⟩
            refine ⟨_, rfl, ?_⟩
            have n0_ := Aside0.mk (blk_below (qk_ BK417.out) hb)
            have n1_ := Aside0.mk (blk_below (qk_ BK422.out) hb)
            have n2_ := Aside0.mk (blk_below (qk_ BK427.out) hb)
            have n3_ := Aside0.mk (blk_below (qk_ BK434.out) hb)
            have n4_ := Aside0.mk (below_step (qb4_ GE417.out GE422.out GE427.out GE434.out HB.out) hb)
            clear BK417
            clear BK422
            clear BK427
            clear BK434
            clear HB
            have BK417 := n0_
            have BK422 := n1_
            have BK427 := n2_
            have BK434 := n3_
            have HB := n4_
            clear n0_ n1_ n2_ n3_ n4_
            (try clear hb)
            (try clear hb2)
            (try clear hk)
            (try clear hi)
            refine hK.out _ _ ⟨(blk_cell BK422.out 0).trans rfl, (blk_cell BK422.out 1).trans rfl⟩ (fun hHeld => ?_)
            clear hK K
            refine no_ ?_
            refine pz_ 4 43 (nb_ 10 159) HT_.out ?_
            refine pz_ 5 48 (nb_ 10 191) HT_.out ?_
            refine pz_ 6 49 (nb_ 10 255) HT_.out ?_
            exact norm_ (by simp only [putAll, Act.put, List.setIfInBounds_toArray, List.set_cons_zero, List.set_cons_succ]) (hCont (gb434) _ ⟨hHeld, (qk_ BK417.out), (qk_ BK422.out), (qk_ BK427.out), (qk_ BK434.out), GW434.out, GE434.out, NB417_434.out, NB434_417.out, NB422_434.out, NB434_422.out, NB427_434.out, NB434_427.out, (qb4_ GE417.out GE422.out GE427.out GE434.out HB.out)⟩)
          ·skip
           refine box_step ?hg (N := 11) ?hd (cs := #[.int .i64 0, .int .u64 0]) (t := 24) ?hr ?_; (case hd => rfl); (case hg => rfl); (case hr => first | (go_simp; done) | (go_simp; rfl))
           intro gb434 hg w58 hbox hb
           have n0_ := Aside0.mk (blk_below (qk_ BK417.out) hb)
           have n1_ := Aside0.mk (blk_below (qk_ BK422.out) hb)
           have n2_ := Aside0.mk (blk_below (qk_ BK427.out) hb)
           have n3_ := Aside0.mk (below_step (qb3_ GE417.out GE422.out GE427.out HB.out) hb)
           have n4_ := Aside0.mk (hbox)
           have n5_ := Aside0.mk (bz_ hg (qb3_ GE417.out GE422.out GE427.out HB.out) : w.heap.size ≤ gb434)
           have n6_ := Aside0.mk (bz_ hg (qb3_ GE417.out GE422.out GE427.out HB.out) : w.heap.size ≤ gb434)
           have n7_ := Aside0.mk (nl_ hg (qk_ BK417.out) : gb417 ≠ gb434)
           have n8_ := Aside0.mk (ng_ hg (qk_ BK417.out) : gb434 ≠ gb417)
           have n9_ := Aside0.mk (nl_ hg (qk_ BK422.out) : gb422 ≠ gb434)
           have n10_ := Aside0.mk (ng_ hg (qk_ BK422.out) : gb434 ≠ gb422)
           have n11_ := Aside0.mk (nl_ hg (qk_ BK427.out) : gb427 ≠ gb434)
           have n12_ := Aside0.mk (ng_ hg (qk_ BK427.out) : gb434 ≠ gb427)
           clear BK417
           clear BK422
           clear BK427
           clear HB
           have BK417 := n0_
           have BK422 := n1_
           have BK427 := n2_
           have HB := n3_
           have BK434 := n4_
           have GW434 := n5_
           have GE434 := n6_
           have NB417_434 := n7_
           have NB434_417 := n8_
           have NB422_434 := n9_
           have NB434_422 := n10_
           have NB427_434 := n11_
           have NB434_427 := n12_
           clear n0_ n1_ n2_ n3_ n4_ n5_ n6_ n7_ n8_ n9_ n10_ n11_ n12_
           clear hb hbox hg
           refine hK.out _ _ ⟨(blk_cell BK422.out 0).trans rfl, (blk_cell BK422.out 1).trans rfl⟩ (fun hHeld => ?_)
           clear hK K
           refine no_ ?_
           refine on_ 1 45 (nb_ 10 135) HT_.out (fun K hK => ?_)
           refine goes_ Tryd.func19 (by kernel_rfl) rfl #[.int .i64 t418, .int .i64 1603080000000] (by rfl) rfl rfl ql_ ?_
           with_reducible refine (corebankref01_Mul.calls t418 1603080000000 t429 t430 _ A32.out).mono ?_
           rintro e w59 ⟨rfl, hb⟩
           refine ⟨_, rfl, ?_⟩
           have n0_ := Aside0.mk (blk_below (qk_ BK417.out) hb)
           have n1_ := Aside0.mk (blk_below (qk_ BK422.out) hb)
           have n2_ := Aside0.mk (blk_below (qk_ BK427.out) hb)
           have n3_ := Aside0.mk (blk_below (qk_ BK434.out) hb)
           have n4_ := Aside0.mk (below_step (qb4_ GE417.out GE422.out GE427.out GE434.out HB.out) hb)
           clear BK417
           clear BK422
           clear BK427
           clear BK434
           clear HB
           have BK417 := n0_
           have BK422 := n1_
           have BK427 := n2_
           have BK434 := n3_
           have HB := n4_
           clear n0_ n1_ n2_ n3_ n4_
           (try clear hb)
           (try clear hb2)
           (try clear hk)
           (try clear hi)
           refine hK.out _ _ ⟨(blk_cell BK422.out 0).trans rfl, (blk_cell BK422.out 1).trans rfl⟩ (fun hHeld => ?_)
           clear hK K
           refine no_ ?_
           refine on_ 3 47 (nb_ 10 143) HT_.out (fun K hK => ?_)
           refine goes_ Tryd.func18 (by kernel_rfl) rfl #[.agg #[.int .i64 t429, .int .u64 t430], .agg #[.int .i64 t419, .int .u64 t420]] (by rfl) rfl rfl ql_ ?_
           with_reducible refine (corebankref01_Add.calls t429 t430 t419 t420 t431 t432 t433 _ A33.out).mono ?_
           rintro e w60 ⟨rfl, hb⟩
           refine ⟨_, rfl, ?_⟩
           have n0_ := Aside0.mk (blk_below (qk_ BK417.out) hb)
           have n1_ := Aside0.mk (blk_below (qk_ BK422.out) hb)
           have n2_ := Aside0.mk (blk_below (qk_ BK427.out) hb)
           have n3_ := Aside0.mk (blk_below (qk_ BK434.out) hb)
           have n4_ := Aside0.mk (below_step (qb4_ GE417.out GE422.out GE427.out GE434.out HB.out) hb)
           clear BK417
           clear BK422
           clear BK427
           clear BK434
           clear HB
           have BK417 := n0_
           have BK422 := n1_
           have BK427 := n2_
           have BK434 := n3_
           have HB := n4_
           clear n0_ n1_ n2_ n3_ n4_
           (try clear hb)
           (try clear hb2)
           (try clear hk)
           (try clear hi)
           refine hK.out _ _ ⟨(blk_cell BK422.out 0).trans rfl, (blk_cell BK422.out 1).trans rfl⟩ (fun hHeld => ?_)
           clear hK K
           refine no_ ?_
           refine pz_ 4 43 (nb_ 10 159) HT_.out ?_
           refine pz_ 5 48 (nb_ 10 191) HT_.out ?_
           refine pz_ 6 49 (nb_ 10 255) HT_.out ?_
           exact norm_ (by simp only [putAll, Act.put, List.setIfInBounds_toArray, List.set_cons_zero, List.set_cons_succ]) (hCont (gb434) _ ⟨hHeld, (qk_ BK417.out), (qk_ BK422.out), (qk_ BK427.out), (qk_ BK434.out), GW434.out, GE434.out, NB417_434.out, NB434_417.out, NB422_434.out, NB434_422.out, NB427_434.out, NB434_427.out, (qb4_ GE417.out GE422.out GE427.out GE434.out HB.out)⟩)
         rintro gb434 w61 ⟨hS_, h0_, h1_, h2_, h3_, h4_, h5_, h6_, h7_, h8_, h9_, h10_, h11_, h12_⟩
         have n0_ : Aside0 (w61.heap[gb417]? = some (.cells #[.int .i64 a0_0, .int .u64 a0_1] 24 (0, 0))) := ⟨h0_⟩
         have n1_ : Aside0 (w61.heap[gb422]? = some (.cells #[.int .i64 t419, .int .u64 t420] 24 (0, 0))) := ⟨h1_⟩
         have n2_ : Aside0 (w61.heap[gb427]? = some (.cells #[.int .i64 t424, .int .u64 t425] 24 (0, 0))) := ⟨h2_⟩
         have n3_ : Aside0 (w61.heap[gb434]? = some (.cells #[.int .i64 0, .int .u64 0] 24 (0, 0))) := ⟨h3_⟩
         have n4_ : Aside0 (w.heap.size ≤ gb434) := ⟨h4_⟩
         have n5_ : Aside0 (w.heap.size ≤ gb434) := ⟨h5_⟩
         have n6_ : Aside0 (gb417 ≠ gb434) := ⟨h6_⟩
         have n7_ : Aside0 (gb434 ≠ gb417) := ⟨h7_⟩
         have n8_ : Aside0 (gb422 ≠ gb434) := ⟨h8_⟩
         have n9_ : Aside0 (gb434 ≠ gb422) := ⟨h9_⟩
         have n10_ : Aside0 (gb427 ≠ gb434) := ⟨h10_⟩
         have n11_ : Aside0 (gb434 ≠ gb427) := ⟨h11_⟩
         have n12_ : Aside0 (Below w.heap.size w w61) := ⟨h12_⟩
         clear BK417
         clear BK422
         clear BK427
         clear HB
         clear h0_ h1_ h2_ h3_ h4_ h5_ h6_ h7_ h8_ h9_ h10_ h11_ h12_
         have BK417 := n0_
         have BK422 := n1_
         have BK427 := n2_
         have BK434 := n3_
         have GW434 := n4_
         have GE434 := n5_
         have NB417_434 := n6_
         have NB434_417 := n7_
         have NB422_434 := n8_
         have NB434_422 := n9_
         have NB427_434 := n10_
         have NB434_427 := n11_
         have HB := n12_
         clear n0_ n1_ n2_ n3_ n4_ n5_ n6_ n7_ n8_ n9_ n10_ n11_ n12_
         have hHeld : w61.cell? ⟨gb422, 0, none⟩ = some (.int .i64 t419) ∧ w61.cell? ⟨gb422, 1, none⟩ = some (.int .u64 t420) := hS_
         refine norm_ (a' := ?_) ?_ ?_
         rotate_left
         ·simp only [putAll, Act.put, List.setIfInBounds_toArray, List.set_cons_zero, List.set_cons_succ]
          rfl
         refine one_ (i := 8) (N := none) (nb_ 10 511) rfl rfl (one_of HT_.out (by kernel_rfl)) (by decide) (fun K hK => ?_)
         have hs62 : w61.cell? ⟨gb434, 0, none⟩ = some (.int .i64 0) := (blk_cell BK434.out 0).trans rfl
         have hfs62 := blk_frozen BK434.out 0
         have hns62_0 := NB417_434.out
         have hns62_1 := NB422_434.out
         have hns62_2 := NB427_434.out
         have hms62_0 := NB434_417.out
         have hms62_1 := NB434_422.out
         have hms62_2 := NB434_427.out
         have hs63 : w61.cell? ⟨gb434, 1, none⟩ = some (.int .u64 0) := (blk_cell BK434.out 1).trans rfl
         have hfs63 := blk_frozen BK434.out 1
         have hns63_0 := NB417_434.out
         have hns63_1 := NB422_434.out
         have hns63_2 := NB427_434.out
         have hms63_0 := NB434_417.out
         have hms63_1 := NB434_422.out
         have hms63_2 := NB434_427.out
         refine skip_ (w1 := ?_) (by rfl) rfl ?_ ?_
         rotate_left
         ·go_simp
          rfl
         refine hK.out _ _ ⟨((cell_far (p := ⟨gb434, _, none⟩) NB422_434.out _).trans (((cell_far (p := ⟨gb434, _, none⟩) NB422_434.out _).trans (hHeld.1)))), ((cell_far (p := ⟨gb434, _, none⟩) NB422_434.out _).trans (((cell_far (p := ⟨gb434, _, none⟩) NB422_434.out _).trans (hHeld.2))))⟩ (fun hHeld => ?_)
         clear hK K
         refine pz_ 9 12 (nb_ 10 1023) HT_.out ?_
         refine done_ (done_of HT_.out (by kernel_rfl)) ?_
         try go_wp2
         have n0_ : Aside0 (((w61.setCell ⟨gb434, 0, none⟩ (.int .i64 t431)).setCell ⟨gb434, 1, none⟩ (.int .u64 t432)).heap[gb417]? = some (.cells #[.int .i64 a0_0, .int .u64 a0_1] 24 (0, 0))) := ⟨qff_ NB417_434.out NB417_434.out BK417.out⟩
         have n1_ : Aside0 (((w61.setCell ⟨gb434, 0, none⟩ (.int .i64 t431)).setCell ⟨gb434, 1, none⟩ (.int .u64 t432)).heap[gb422]? = some (.cells #[.int .i64 t419, .int .u64 t420] 24 (0, 0))) := ⟨qff_ NB422_434.out NB422_434.out BK422.out⟩
         have n2_ : Aside0 (((w61.setCell ⟨gb434, 0, none⟩ (.int .i64 t431)).setCell ⟨gb434, 1, none⟩ (.int .u64 t432)).heap[gb427]? = some (.cells #[.int .i64 t424, .int .u64 t425] 24 (0, 0))) := ⟨qff_ NB427_434.out NB427_434.out BK427.out⟩
         have n3_ : Aside0 (((w61.setCell ⟨gb434, 0, none⟩ (.int .i64 t431)).setCell ⟨gb434, 1, none⟩ (.int .u64 t432)).heap[gb434]? = some (.cells #[.int .i64 t431, .int .u64 t432] 24 (0, 0))) := ⟨qpp_ #[.int .i64 t431, .int .u64 0] 1 #[.int .i64 0, .int .u64 0] 0 BK434.out⟩
         have n4_ : Aside0 (Below w.heap.size w ((w61.setCell ⟨gb434, 0, none⟩ (.int .i64 t431)).setCell ⟨gb434, 1, none⟩ (.int .u64 t432))) := ⟨qb4_ GE417.out GE422.out GE427.out GE434.out HB.out⟩
         (try clear BK417)
         (try clear BK422)
         (try clear BK427)
         (try clear BK434)
         (try clear HB)
         generalize ((w61.setCell ⟨gb434, 0, none⟩ (.int .i64 t431)).setCell ⟨gb434, 1, none⟩ (.int .u64 t432)) = w64 at n0_ n1_ n2_ n3_ n4_ ⊢
         have BK417 := n0_
         have BK422 := n1_
         have BK427 := n2_
         have BK434 := n3_
         have HB := n4_
         clear n0_ n1_ n2_ n3_ n4_
         have n0_ := Aside0.mk (blk_drew BK417.out)
         have n1_ := Aside0.mk (blk_drew BK422.out)
         have n2_ := Aside0.mk (blk_drew BK427.out)
         have n3_ := Aside0.mk (blk_drew BK434.out)
         have n4_ := Aside0.mk (below_drew1 HB.out)
         clear BK417
         clear BK422
         clear BK427
         clear BK434
         clear HB
         have BK417 := n0_
         have BK422 := n1_
         have BK427 := n2_
         have BK434 := n3_
         have HB := n4_
         clear n0_ n1_ n2_ n3_ n4_
         refine start_ (n := 23) (S := fun w' => w'.cell? ⟨gb434, 0, none⟩ = some (.int .i64 t431) ∧ w'.cell? ⟨gb434, 1, none⟩ = some (.int .u64 t432) ∧ w'.cell? ⟨gb417, 0, none⟩ = some (.int .i64 a0_0) ∧ w'.cell? ⟨gb417, 1, none⟩ = some (.int .u64 a0_1) ∧ w'.cell? ⟨gb422, 0, none⟩ = some (.int .i64 t419) ∧ w'.cell? ⟨gb422, 1, none⟩ = some (.int .u64 t420)) (ds := []) (nb_ 23 0) (by kernel_rfl) rfl rfl ⟨(blk_cell BK434.out 0).trans rfl, (blk_cell BK434.out 1).trans rfl, (blk_cell BK417.out 0).trans rfl, (blk_cell BK417.out 1).trans rfl, (blk_cell BK422.out 0).trans rfl, (blk_cell BK422.out 1).trans rfl⟩ (fun hHeld => ?_); refine with_tabW corebanklaw02_RoundingAmounts.tab8 corebanklaw02_RoundingAmounts.bits8 (fun HT_ HW_ => ?_)
         generalize w64.drew = w65 at BK417 BK422 BK427 BK434 HB hHeld ⊢
         refine pz_ 0 50 (nb_ 23 1) HT_.out ?_
         refine pz_ 1 51 (nb_ 23 3) HT_.out ?_
         refine pz_ 2 52 (nb_ 23 7) HT_.out ?_
         refine tk6_ 3 53 (nb_ 23 15) HT_.out HW_.out hHeld ?_
         refine tk6_ 4 54 (nb_ 23 31) HT_.out HW_.out hHeld ?_
         refine pz_ 5 55 (nb_ 23 63) HT_.out ?_
         refine pz_ 6 56 (nb_ 23 127) HT_.out ?_
         refine pz_ 7 57 (nb_ 23 255) HT_.out ?_
         refine tk6_ 8 58 (nb_ 23 511) HT_.out HW_.out hHeld ?_
         refine on_ 9 59 (nb_ 23 1023) HT_.out (fun K hK => ?_)
         refine goes_ Tryd.func21 (by kernel_rfl) rfl #[.int .i64 1603080000000] (by rfl) rfl rfl ql_ ?_
         with_reducible refine (corebankref01_Of.calls 1603080000000 t435 t436 _ A36.out).mono ?_
         rintro e w66 ⟨rfl, hb⟩
         refine ⟨_, rfl, ?_⟩
         have n0_ := Aside0.mk (blk_below (qk_ BK417.out) hb)
         have n1_ := Aside0.mk (blk_below (qk_ BK422.out) hb)
         have n2_ := Aside0.mk (blk_below (qk_ BK427.out) hb)
         have n3_ := Aside0.mk (blk_below (qk_ BK434.out) hb)
         have n4_ := Aside0.mk (below_step (qb4_ GE417.out GE422.out GE427.out GE434.out HB.out) hb)
         clear BK417
         clear BK422
         clear BK427
         clear BK434
         clear HB
         have BK417 := n0_
         have BK422 := n1_
         have BK427 := n2_
         have BK434 := n3_
         have HB := n4_
         clear n0_ n1_ n2_ n3_ n4_
         (try clear hb)
         (try clear hb2)
         (try clear hk)
         (try clear hi)
         refine hK.out _ _ ⟨(blk_cell BK434.out 0).trans rfl, (blk_cell BK434.out 1).trans rfl, (blk_cell BK417.out 0).trans rfl, (blk_cell BK417.out 1).trans rfl, (blk_cell BK422.out 0).trans rfl, (blk_cell BK422.out 1).trans rfl⟩ (fun hHeld => ?_)
         clear hK K
         refine no_ ?_
         refine on_ 10 60 (nb_ 23 2047) HT_.out (fun K hK => ?_)
         refine goes_ Tryd.func20 (by kernel_rfl) rfl #[.agg #[.int .i64 t419, .int .u64 t420], .agg #[.int .i64 t435, .int .u64 t436]] (by rfl) rfl rfl ql_ ?_
         with_reducible refine (corebankref01_Cmp.calls t419 t420 t435 t436 t437 _ A37.out).mono ?_
         rintro e w67 ⟨rfl, hb⟩
         refine ⟨_, rfl, ?_⟩
         have n0_ := Aside0.mk (blk_below (qk_ BK417.out) hb)
         have n1_ := Aside0.mk (blk_below (qk_ BK422.out) hb)
         have n2_ := Aside0.mk (blk_below (qk_ BK427.out) hb)
         have n3_ := Aside0.mk (blk_below (qk_ BK434.out) hb)
         have n4_ := Aside0.mk (below_step (qb4_ GE417.out GE422.out GE427.out GE434.out HB.out) hb)
         clear BK417
         clear BK422
         clear BK427
         clear BK434
         clear HB
         have BK417 := n0_
         have BK422 := n1_
         have BK427 := n2_
         have BK434 := n3_
         have HB := n4_
         clear n0_ n1_ n2_ n3_ n4_
         (try clear hb)
         (try clear hb2)
         (try clear hk)
         (try clear hi)
         refine hK.out _ _ ⟨(blk_cell BK434.out 0).trans rfl, (blk_cell BK434.out 1).trans rfl, (blk_cell BK417.out 0).trans rfl, (blk_cell BK417.out 1).trans rfl, (blk_cell BK422.out 0).trans rfl, (blk_cell BK422.out 1).trans rfl⟩ (fun hHeld => ?_)
         clear hK K
         refine no_ ?_
         refine pz_ 11 61 (nb_ 23 4095) HT_.out ?_
         refine pz_ 12 62 (nb_ 23 8191) HT_.out ?_
         refine pz_ 13 63 (nb_ 23 16383) HT_.out ?_
         refine tk6_ 14 64 (nb_ 23 32767) HT_.out HW_.out hHeld ?_
         refine on_ 15 65 (nb_ 23 65535) HT_.out (fun K hK => ?_)
         refine goes_ Tryd.func21 (by kernel_rfl) rfl #[.int .i64 (-1603080000000)] (by rfl) rfl rfl ql_ ?_
         with_reducible refine (corebankref01_Of.calls (-1603080000000) t438 t439 _ A39.out).mono ?_
         rintro e w68 ⟨rfl, hb⟩
         refine ⟨_, rfl, ?_⟩
         have n0_ := Aside0.mk (blk_below (qk_ BK417.out) hb)
         have n1_ := Aside0.mk (blk_below (qk_ BK422.out) hb)
         have n2_ := Aside0.mk (blk_below (qk_ BK427.out) hb)
         have n3_ := Aside0.mk (blk_below (qk_ BK434.out) hb)
         have n4_ := Aside0.mk (below_step (qb4_ GE417.out GE422.out GE427.out GE434.out HB.out) hb)
         clear BK417
         clear BK422
         clear BK427
         clear BK434
         clear HB
         have BK417 := n0_
         have BK422 := n1_
         have BK427 := n2_
         have BK434 := n3_
         have HB := n4_
         clear n0_ n1_ n2_ n3_ n4_
         (try clear hb)
         (try clear hb2)
         (try clear hk)
         (try clear hi)
         refine hK.out _ _ ⟨(blk_cell BK434.out 0).trans rfl, (blk_cell BK434.out 1).trans rfl, (blk_cell BK417.out 0).trans rfl, (blk_cell BK417.out 1).trans rfl, (blk_cell BK422.out 0).trans rfl, (blk_cell BK422.out 1).trans rfl⟩ (fun hHeld => ?_)
         clear hK K
         refine no_ ?_
         refine on_ 16 66 (nb_ 23 131071) HT_.out (fun K hK => ?_)
         refine goes_ Tryd.func20 (by kernel_rfl) rfl #[.agg #[.int .i64 t419, .int .u64 t420], .agg #[.int .i64 t438, .int .u64 t439]] (by rfl) rfl rfl ql_ ?_
         with_reducible refine (corebankref01_Cmp.calls t419 t420 t438 t439 t440 _ A40.out).mono ?_
         rintro e w69 ⟨rfl, hb⟩
         refine ⟨_, rfl, ?_⟩
         have n0_ := Aside0.mk (blk_below (qk_ BK417.out) hb)
         have n1_ := Aside0.mk (blk_below (qk_ BK422.out) hb)
         have n2_ := Aside0.mk (blk_below (qk_ BK427.out) hb)
         have n3_ := Aside0.mk (blk_below (qk_ BK434.out) hb)
         have n4_ := Aside0.mk (below_step (qb4_ GE417.out GE422.out GE427.out GE434.out HB.out) hb)
         clear BK417
         clear BK422
         clear BK427
         clear BK434
         clear HB
         have BK417 := n0_
         have BK422 := n1_
         have BK427 := n2_
         have BK434 := n3_
         have HB := n4_
         clear n0_ n1_ n2_ n3_ n4_
         (try clear hb)
         (try clear hb2)
         (try clear hk)
         (try clear hi)
         refine hK.out _ _ ⟨(blk_cell BK434.out 0).trans rfl, (blk_cell BK434.out 1).trans rfl, (blk_cell BK417.out 0).trans rfl, (blk_cell BK417.out 1).trans rfl, (blk_cell BK422.out 0).trans rfl, (blk_cell BK422.out 1).trans rfl⟩ (fun hHeld => ?_)
         clear hK K
         refine no_ ?_
         refine pz_ 17 67 (nb_ 23 262143) HT_.out ?_
         refine pz_ 18 68 (nb_ 23 524287) HT_.out ?_
         refine pz_ 19 69 (nb_ 23 1048575) HT_.out ?_
         refine pu_ 20 70 (nb_ 23 2097151) HT_.out ?_
         refine pz_ 21 71 (nb_ 23 4194303) HT_.out ?_
         refine pz_ 22 4 (nb_ 23 8388607) HT_.out ?_
         refine done_ (done_of HT_.out (by kernel_rfl)) ?_
         try go_wp2
         go_ret
         exact ⟨qe_, qb4_ GE417.out GE422.out GE427.out GE434.out HB.out⟩
       ·rw [if_neg c38] at H
        have c38b0 : decide (t437 < 0) = false := decide_eq_false c38
        clear c38
        obtain rfl := Option.some.inj H
        try go_wp2
        have n0_ := Aside0.mk (blk_drew BK417.out)
        have n1_ := Aside0.mk (blk_drew BK422.out)
        have n2_ := Aside0.mk (blk_drew BK427.out)
        have n3_ := Aside0.mk (below_drew1 HB.out)
        clear BK417
        clear BK422
        clear BK427
        clear HB
        have BK417 := n0_
        have BK422 := n1_
        have BK427 := n2_
        have HB := n3_
        clear n0_ n1_ n2_ n3_
        refine start_ (n := 10) (S := fun w' => w'.cell? ⟨gb422, 0, none⟩ = some (.int .i64 t419) ∧ w'.cell? ⟨gb422, 1, none⟩ = some (.int .u64 t420)) (ds := []) (nb_ 10 0) (by kernel_rfl) rfl rfl ⟨(blk_cell BK422.out 0).trans rfl, (blk_cell BK422.out 1).trans rfl⟩ (fun hHeld => ?_); refine with_tabW corebanklaw02_RoundingAmounts.tab7 corebanklaw02_RoundingAmounts.bits7 (fun HT_ HW_ => ?_)
        generalize wc.drew = w70 at BK417 BK422 BK427 HB hHeld ⊢
        refine pz_ 0 44 (nb_ 10 1) HT_.out ?_
        refine tk2_ 2 46 (nb_ 10 5) HT_.out HW_.out hHeld ?_
        refine join_ (σ := Nat) 2 (nb_ 10 255) (fun s_ => [(45, .agg #[.int .i64 t429, .int .u64 t430]), (47, .tuple #[.agg #[.int .i64 t431, .int .u64 t432], .int .i64 t433]), (11, .pointer (some ⟨s_, 0, none⟩)), (43, .tuple #[.agg #[.int .i64 t431, .int .u64 t432], .int .i64 t433]), (48, .agg #[.int .i64 t431, .int .u64 t432]), (49, .int .i64 t433)]) (fun s_ w' => (w'.cell? ⟨gb422, 0, none⟩ = some (.int .i64 t419) ∧ w'.cell? ⟨gb422, 1, none⟩ = some (.int .u64 t420)) ∧ (w'.heap[gb417]? = some (.cells #[.int .i64 a0_0, .int .u64 a0_1] 24 (0, 0))) ∧ (w'.heap[gb422]? = some (.cells #[.int .i64 t419, .int .u64 t420] 24 (0, 0))) ∧ (w'.heap[gb427]? = some (.cells #[.int .i64 t424, .int .u64 t425] 24 (0, 0))) ∧ (w'.heap[s_]? = some (.cells #[.int .i64 0, .int .u64 0] 24 (0, 0))) ∧ (w.heap.size ≤ s_) ∧ (w.heap.size ≤ s_) ∧ (gb417 ≠ s_) ∧ (s_ ≠ gb417) ∧ (gb422 ≠ s_) ∧ (s_ ≠ gb422) ∧ (gb427 ≠ s_) ∧ (s_ ≠ gb427) ∧ (Below w.heap.size w w')) ?_ ?_
        rotate_left
        ·intro hCont
         refine two_ (i := 1) (j := 7) (Ni := some 45) (Nj := some 11) (nb_ 10 7) (nb_ 10 133) rfl rfl rfl rfl (two_of HT_.out (by kernel_rfl)) (by decide) (by decide) (fun K hK => ?_) (fun K hK => ?_)
         ·skip
          refine goes_ Tryd.func19 (by kernel_rfl) rfl #[.int .i64 t418, .int .i64 1603080000000] (by rfl) rfl rfl ql_ ?_
          with_reducible refine (corebankref01_Mul.calls t418 1603080000000 t429 t430 _ A32.out).mono ?_
          rintro e w71 ⟨rfl, hb⟩
          refine ⟨_, rfl, ?_⟩
          have n0_ := Aside0.mk (blk_below (qk_ BK417.out) hb)
          have n1_ := Aside0.mk (blk_below (qk_ BK422.out) hb)
          have n2_ := Aside0.mk (blk_below (qk_ BK427.out) hb)
          have n3_ := Aside0.mk (below_step (qb3_ GE417.out GE422.out GE427.out HB.out) hb)
          clear BK417
          clear BK422
          clear BK427
          clear HB
          have BK417 := n0_
          have BK422 := n1_
          have BK427 := n2_
          have HB := n3_
          clear n0_ n1_ n2_ n3_
          (try clear hb)
          (try clear hb2)
          (try clear hk)
          (try clear hi)
          refine hK.out _ _ ⟨(blk_cell BK422.out 0).trans rfl, (blk_cell BK422.out 1).trans rfl⟩ (fun hHeld => ?_)
          clear hK K
          refine no_ ?_
          refine two_ (i := 3) (j := 7) (Ni := some 47) (Nj := some 11) (nb_ 10 15) (nb_ 10 135) rfl rfl rfl rfl (two_of HT_.out (by kernel_rfl)) (by decide) (by decide) (fun K hK => ?_) (fun K hK => ?_)
          ·skip
           refine goes_ Tryd.func18 (by kernel_rfl) rfl #[.agg #[.int .i64 t429, .int .u64 t430], .agg #[.int .i64 t419, .int .u64 t420]] (by rfl) rfl rfl ql_ ?_
           with_reducible refine (corebankref01_Add.calls t429 t430 t419 t420 t431 t432 t433 _ A33.out).mono ?_
           rintro e w72 ⟨rfl, hb⟩
           refine ⟨_, rfl, ?_⟩
           have n0_ := Aside0.mk (blk_below (qk_ BK417.out) hb)
           have n1_ := Aside0.mk (blk_below (qk_ BK422.out) hb)
           have n2_ := Aside0.mk (blk_below (qk_ BK427.out) hb)
           have n3_ := Aside0.mk (below_step (qb3_ GE417.out GE422.out GE427.out HB.out) hb)
           clear BK417
           clear BK422
           clear BK427
           clear HB
           have BK417 := n0_
           have BK422 := n1_
           have BK427 := n2_
           have HB := n3_
           clear n0_ n1_ n2_ n3_
           (try clear hb)
           (try clear hb2)
           (try clear hk)
           (try clear hi)
           refine hK.out _ _ ⟨(blk_cell BK422.out 0).trans rfl, (blk_cell BK422.out 1).trans rfl⟩ (fun hHeld => ?_)
           clear hK K
           refine no_ ?_
           refine pz_ 4 43 (nb_ 10 31) HT_.out ?_
           refine pz_ 5 48 (nb_ 10 63) HT_.out ?_
           refine pz_ 6 49 (nb_ 10 127) HT_.out ?_
           refine on_ 7 11 (nb_ 10 255) HT_.out (fun K hK => ?_)
           refine box_step ?hg (N := 11) ?hd (cs := #[.int .i64 0, .int .u64 0]) (t := 24) ?hr ?_; (case hd => rfl); (case hg => rfl); (case hr => first | (go_simp; done) | (go_simp; rfl))
           intro gb434 hg w73 hbox hb
           have n0_ := Aside0.mk (blk_below (qk_ BK417.out) hb)
           have n1_ := Aside0.mk (blk_below (qk_ BK422.out) hb)
           have n2_ := Aside0.mk (blk_below (qk_ BK427.out) hb)
           have n3_ := Aside0.mk (below_step (qb3_ GE417.out GE422.out GE427.out HB.out) hb)
           have n4_ := Aside0.mk (hbox)
           have n5_ := Aside0.mk (bz_ hg (qb3_ GE417.out GE422.out GE427.out HB.out) : w.heap.size ≤ gb434)
           have n6_ := Aside0.mk (bz_ hg (qb3_ GE417.out GE422.out GE427.out HB.out) : w.heap.size ≤ gb434)
           have n7_ := Aside0.mk (nl_ hg (qk_ BK417.out) : gb417 ≠ gb434)
           have n8_ := Aside0.mk (ng_ hg (qk_ BK417.out) : gb434 ≠ gb417)
           have n9_ := Aside0.mk (nl_ hg (qk_ BK422.out) : gb422 ≠ gb434)
           have n10_ := Aside0.mk (ng_ hg (qk_ BK422.out) : gb434 ≠ gb422)
           have n11_ := Aside0.mk (nl_ hg (qk_ BK427.out) : gb427 ≠ gb434)
           have n12_ := Aside0.mk (ng_ hg (qk_ BK427.out) : gb434 ≠ gb427)
           clear BK417
           clear BK422
           clear BK427
           clear HB
           have BK417 := n0_
           have BK422 := n1_
           have BK427 := n2_
           have HB := n3_
           have BK434 := n4_
           have GW434 := n5_
           have GE434 := n6_
           have NB417_434 := n7_
           have NB434_417 := n8_
           have NB422_434 := n9_
           have NB434_422 := n10_
           have NB427_434 := n11_
           have NB434_427 := n12_
           clear n0_ n1_ n2_ n3_ n4_ n5_ n6_ n7_ n8_ n9_ n10_ n11_ n12_
           clear hb hbox hg
           refine hK.out _ _ ⟨(blk_cell BK422.out 0).trans rfl, (blk_cell BK422.out 1).trans rfl⟩ (fun hHeld => ?_)
           clear hK K
           refine no_ ?_
           exact norm_ (by simp only [putAll, Act.put, List.setIfInBounds_toArray, List.set_cons_zero, List.set_cons_succ]) (hCont (gb434) _ ⟨hHeld, (qk_ BK417.out), (qk_ BK422.out), (qk_ BK427.out), (qk_ BK434.out), GW434.out, GE434.out, NB417_434.out, NB434_417.out, NB422_434.out, NB434_422.out, NB427_434.out, NB434_427.out, (qb4_ GE417.out GE422.out GE427.out GE434.out HB.out)⟩)
          ·skip
           refine box_step ?hg (N := 11) ?hd (cs := #[.int .i64 0, .int .u64 0]) (t := 24) ?hr ?_; (case hd => rfl); (case hg => rfl); (case hr => first | (go_simp; done) | (go_simp; rfl))
           intro gb434 hg w72 hbox hb
           have n0_ := Aside0.mk (blk_below (qk_ BK417.out) hb)
           have n1_ := Aside0.mk (blk_below (qk_ BK422.out) hb)
           have n2_ := Aside0.mk (blk_below (qk_ BK427.out) hb)
           have n3_ := Aside0.mk (below_step (qb3_ GE417.out GE422.out GE427.out HB.out) hb)
           have n4_ := Aside0.mk (hbox)
           have n5_ := Aside0.mk (bz_ hg (qb3_ GE417.out GE422.out GE427.out HB.out) : w.heap.size ≤ gb434)
           have n6_ := Aside0.mk (bz_ hg (qb3_ GE417.out GE422.out GE427.out HB.out) : w.heap.size ≤ gb434)
           have n7_ := Aside0.mk (nl_ hg (qk_ BK417.out) : gb417 ≠ gb434)
           have n8_ := Aside0.mk (ng_ hg (qk_ BK417.out) : gb434 ≠ gb417)
           have n9_ := Aside0.mk (nl_ hg (qk_ BK422.out) : gb422 ≠ gb434)
           have n10_ := Aside0.mk (ng_ hg (qk_ BK422.out) : gb434 ≠ gb422)
           have n11_ := Aside0.mk (nl_ hg (qk_ BK427.out) : gb427 ≠ gb434)
           have n12_ := Aside0.mk (ng_ hg (qk_ BK427.out) : gb434 ≠ gb427)
           clear BK417
           clear BK422
           clear BK427
           clear HB
           have BK417 := n0_
           have BK422 := n1_
           have BK427 := n2_
           have HB := n3_
           have BK434 := n4_
           have GW434 := n5_
           have GE434 := n6_
           have NB417_434 := n7_
           have NB434_417 := n8_
           have NB422_434 := n9_
           have NB434_422 := n10_
           have NB427_434 := n11_
           have NB434_427 := n12_
           clear n0_ n1_ n2_ n3_ n4_ n5_ n6_ n7_ n8_ n9_ n10_ n11_ n12_
           clear hb hbox hg
           refine hK.out _ _ ⟨(blk_cell BK422.out 0).trans rfl, (blk_cell BK422.out 1).trans rfl⟩ (fun hHeld => ?_)
           clear hK K
           refine no_ ?_
           refine on_ 3 47 (nb_ 10 143) HT_.out (fun K hK => ?_)
           refine goes_ Tryd.func18 (by kernel_rfl) rfl #[.agg #[.int .i64 t429, .int .u64 t430], .agg #[.int .i64 t419, .int .u64 t420]] (by rfl) rfl rfl ql_ ?_
           with_reducible refine (corebankref01_Add.calls t429 t430 t419 t420 t431 t432 t433 _ A33.out).mono ?_
           rintro e w73 ⟨rfl, hb⟩
           refine ⟨_, rfl, ?_⟩
           have n0_ := Aside0.mk (blk_below (qk_ BK417.out) hb)
           have n1_ := Aside0.mk (blk_below (qk_ BK422.out) hb)
           have n2_ := Aside0.mk (blk_below (qk_ BK427.out) hb)
           have n3_ := Aside0.mk (blk_below (qk_ BK434.out) hb)
           have n4_ := Aside0.mk (below_step (qb4_ GE417.out GE422.out GE427.out GE434.out HB.out) hb)
           clear BK417
           clear BK422
           clear BK427
           clear BK434
           clear HB
           have BK417 := n0_
           have BK422 := n1_
           have BK427 := n2_
           have BK434 := n3_
           have HB := n4_
           clear n0_ n1_ n2_ n3_ n4_
           (try clear hb)
           (try clear hb2)
           (try clear hk)
           (try clear hi)
           refine hK.out _ _ ⟨(blk_cell BK422.out 0).trans rfl, (blk_cell BK422.out 1).trans rfl⟩ (fun hHeld => ?_)
           clear hK K
           refine no_ ?_
           refine pz_ 4 43 (nb_ 10 159) HT_.out ?_
           refine pz_ 5 48 (nb_ 10 191) HT_.out ?_
           refine pz_ 6 49 (nb_ 10 255) HT_.out ?_
           exact norm_ (by simp only [putAll, Act.put, List.setIfInBounds_toArray, List.set_cons_zero, List.set_cons_succ]) (hCont (gb434) _ ⟨hHeld, (qk_ BK417.out), (qk_ BK422.out), (qk_ BK427.out), (qk_ BK434.out), GW434.out, GE434.out, NB417_434.out, NB434_417.out, NB422_434.out, NB434_422.out, NB427_434.out, NB434_427.out, (qb4_ GE417.out GE422.out GE427.out GE434.out HB.out)⟩)
         ·skip
          refine box_step ?hg (N := 11) ?hd (cs := #[.int .i64 0, .int .u64 0]) (t := 24) ?hr ?_; (case hd => rfl); (case hg => rfl); (case hr => first | (go_simp; done) | (go_simp; rfl))
          intro gb434 hg w71 hbox hb
          have n0_ := Aside0.mk (blk_below (qk_ BK417.out) hb)
          have n1_ := Aside0.mk (blk_below (qk_ BK422.out) hb)
          have n2_ := Aside0.mk (blk_below (qk_ BK427.out) hb)
          have n3_ := Aside0.mk (below_step (qb3_ GE417.out GE422.out GE427.out HB.out) hb)
          have n4_ := Aside0.mk (hbox)
          have n5_ := Aside0.mk (bz_ hg (qb3_ GE417.out GE422.out GE427.out HB.out) : w.heap.size ≤ gb434)
          have n6_ := Aside0.mk (bz_ hg (qb3_ GE417.out GE422.out GE427.out HB.out) : w.heap.size ≤ gb434)
          have n7_ := Aside0.mk (nl_ hg (qk_ BK417.out) : gb417 ≠ gb434)
          have n8_ := Aside0.mk (ng_ hg (qk_ BK417.out) : gb434 ≠ gb417)
          have n9_ := Aside0.mk (nl_ hg (qk_ BK422.out) : gb422 ≠ gb434)
          have n10_ := Aside0.mk (ng_ hg (qk_ BK422.out) : gb434 ≠ gb422)
          have n11_ := Aside0.mk (nl_ hg (qk_ BK427.out) : gb427 ≠ gb434)
          have n12_ := Aside0.mk (ng_ hg (qk_ BK427.out) : gb434 ≠ gb427)
          clear BK417
          clear BK422
          clear BK427
          clear HB
          have BK417 := n0_
          have BK422 := n1_
          have BK427 := n2_
          have HB := n3_
          have BK434 := n4_
          have GW434 := n5_
          have GE434 := n6_
          have NB417_434 := n7_
          have NB434_417 := n8_
          have NB422_434 := n9_
          have NB434_422 := n10_
          have NB427_434 := n11_
          have NB434_427 := n12_
          clear n0_ n1_ n2_ n3_ n4_ n5_ n6_ n7_ n8_ n9_ n10_ n11_ n12_
          clear hb hbox hg
          refine hK.out _ _ ⟨(blk_cell BK422.out 0).trans rfl, (blk_cell BK422.out 1).trans rfl⟩ (fun hHeld => ?_)
          clear hK K
          refine no_ ?_
          refine on_ 1 45 (nb_ 10 135) HT_.out (fun K hK => ?_)
          refine goes_ Tryd.func19 (by kernel_rfl) rfl #[.int .i64 t418, .int .i64 1603080000000] (by rfl) rfl rfl ql_ ?_
          with_reducible refine (corebankref01_Mul.calls t418 1603080000000 t429 t430 _ A32.out).mono ?_
          rintro e w72 ⟨rfl, hb⟩
          refine ⟨_, rfl, ?_⟩
          have n0_ := Aside0.mk (blk_below (qk_ BK417.out) hb)
          have n1_ := Aside0.mk (blk_below (qk_ BK422.out) hb)
          have n2_ := Aside0.mk (blk_below (qk_ BK427.out) hb)
          have n3_ := Aside0.mk (blk_below (qk_ BK434.out) hb)
          have n4_ := Aside0.mk (below_step (qb4_ GE417.out GE422.out GE427.out GE434.out HB.out) hb)
          clear BK417
          clear BK422
          clear BK427
          clear BK434
          clear HB
          have BK417 := n0_
          have BK422 := n1_
          have BK427 := n2_
          have BK434 := n3_
          have HB := n4_
          clear n0_ n1_ n2_ n3_ n4_
          (try clear hb)
          (try clear hb2)
          (try clear hk)
          (try clear hi)
          refine hK.out _ _ ⟨(blk_cell BK422.out 0).trans rfl, (blk_cell BK422.out 1).trans rfl⟩ (fun hHeld => ?_)
          clear hK K
          refine no_ ?_
          refine on_ 3 47 (nb_ 10 143) HT_.out (fun K hK => ?_)
          refine goes_ Tryd.func18 (by kernel_rfl) rfl #[.agg #[.int .i64 t429, .int .u64 t430], .agg #[.int .i64 t419, .int .u64 t420]] (by rfl) rfl rfl ql_ ?_
          with_reducible refine (corebankref01_Add.calls t429 t430 t419 t420 t431 t432 t433 _ A33.out).mono ?_
          rintro e w73 ⟨rfl, hb⟩
          refine ⟨_, rfl, ?_⟩
          have n0_ := Aside0.mk (blk_below (qk_ BK417.out) hb)
          have n1_ := Aside0.mk (blk_below (qk_ BK422.out) hb)
          have n2_ := Aside0.mk (blk_below (qk_ BK427.out) hb)
          have n3_ := Aside0.mk (blk_below (qk_ BK434.out) hb)
          have n4_ := Aside0.mk (below_step (qb4_ GE417.out GE422.out GE427.out GE434.out HB.out) hb)
          clear BK417
          clear BK422
          clear BK427
          clear BK434
          clear HB
          have BK417 := n0_
          have BK422 := n1_
          have BK427 := n2_
          have BK434 := n3_
          have HB := n4_
          clear n0_ n1_ n2_ n3_ n4_
          (try clear hb)
          (try clear hb2)
          (try clear hk)
          (try clear hi)
          refine hK.out _ _ ⟨(blk_cell BK422.out 0).trans rfl, (blk_cell BK422.out 1).trans rfl⟩ (fun hHeld => ?_)
          clear hK K
          refine no_ ?_
          refine pz_ 4 43 (nb_ 10 159) HT_.out ?_
          refine pz_ 5 48 (nb_ 10 191) HT_.out ?_
          refine pz_ 6 49 (nb_ 10 255) HT_.out ?_
          exact norm_ (by simp only [putAll, Act.put, List.setIfInBounds_toArray, List.set_cons_zero, List.set_cons_succ]) (hCont (gb434) _ ⟨hHeld, (qk_ BK417.out), (qk_ BK422.out), (qk_ BK427.out), (qk_ BK434.out), GW434.out, GE434.out, NB417_434.out, NB434_417.out, NB422_434.out, NB434_422.out, NB427_434.out, NB434_427.out, (qb4_ GE417.out GE422.out GE427.out GE434.out HB.out)⟩)
        rintro gb434 w74 ⟨hS_, h0_, h1_, h2_, h3_, h4_, h5_, h6_, h7_, h8_, h9_, h10_, h11_, h12_⟩
        have n0_ : Aside0 (w74.heap[gb417]? = some (.cells #[.int .i64 a0_0, .int .u64 a0_1] 24 (0, 0))) := ⟨h0_⟩
        have n1_ : Aside0 (w74.heap[gb422]? = some (.cells #[.int .i64 t419, .int .u64 t420] 24 (0, 0))) := ⟨h1_⟩
        have n2_ : Aside0 (w74.heap[gb427]? = some (.cells #[.int .i64 t424, .int .u64 t425] 24 (0, 0))) := ⟨h2_⟩
        have n3_ : Aside0 (w74.heap[gb434]? = some (.cells #[.int .i64 0, .int .u64 0] 24 (0, 0))) := ⟨h3_⟩
        have n4_ : Aside0 (w.heap.size ≤ gb434) := ⟨h4_⟩
        have n5_ : Aside0 (w.heap.size ≤ gb434) := ⟨h5_⟩
        have n6_ : Aside0 (gb417 ≠ gb434) := ⟨h6_⟩
        have n7_ : Aside0 (gb434 ≠ gb417) := ⟨h7_⟩
        have n8_ : Aside0 (gb422 ≠ gb434) := ⟨h8_⟩
        have n9_ : Aside0 (gb434 ≠ gb422) := ⟨h9_⟩
        have n10_ : Aside0 (gb427 ≠ gb434) := ⟨h10_⟩
        have n11_ : Aside0 (gb434 ≠ gb427) := ⟨h11_⟩
        have n12_ : Aside0 (Below w.heap.size w w74) := ⟨h12_⟩
        clear BK417
        clear BK422
        clear BK427
        clear HB
        clear h0_ h1_ h2_ h3_ h4_ h5_ h6_ h7_ h8_ h9_ h10_ h11_ h12_
        have BK417 := n0_
        have BK422 := n1_
        have BK427 := n2_
        have BK434 := n3_
        have GW434 := n4_
        have GE434 := n5_
        have NB417_434 := n6_
        have NB434_417 := n7_
        have NB422_434 := n8_
        have NB434_422 := n9_
        have NB427_434 := n10_
        have NB434_427 := n11_
        have HB := n12_
        clear n0_ n1_ n2_ n3_ n4_ n5_ n6_ n7_ n8_ n9_ n10_ n11_ n12_
        have hHeld : w74.cell? ⟨gb422, 0, none⟩ = some (.int .i64 t419) ∧ w74.cell? ⟨gb422, 1, none⟩ = some (.int .u64 t420) := hS_
        refine norm_ (a' := ?_) ?_ ?_
        rotate_left
        ·simp only [putAll, Act.put, List.setIfInBounds_toArray, List.set_cons_zero, List.set_cons_succ]
         rfl
        refine one_ (i := 8) (N := none) (nb_ 10 511) rfl rfl (one_of HT_.out (by kernel_rfl)) (by decide) (fun K hK => ?_)
        have hs75 : w74.cell? ⟨gb434, 0, none⟩ = some (.int .i64 0) := (blk_cell BK434.out 0).trans rfl
        have hfs75 := blk_frozen BK434.out 0
        have hns75_0 := NB417_434.out
        have hns75_1 := NB422_434.out
        have hns75_2 := NB427_434.out
        have hms75_0 := NB434_417.out
        have hms75_1 := NB434_422.out
        have hms75_2 := NB434_427.out
        have hs76 : w74.cell? ⟨gb434, 1, none⟩ = some (.int .u64 0) := (blk_cell BK434.out 1).trans rfl
        have hfs76 := blk_frozen BK434.out 1
        have hns76_0 := NB417_434.out
        have hns76_1 := NB422_434.out
        have hns76_2 := NB427_434.out
        have hms76_0 := NB434_417.out
        have hms76_1 := NB434_422.out
        have hms76_2 := NB434_427.out
        refine skip_ (w1 := ?_) (by rfl) rfl ?_ ?_
        rotate_left
        ·go_simp
         rfl
        refine hK.out _ _ ⟨((cell_far (p := ⟨gb434, _, none⟩) NB422_434.out _).trans (((cell_far (p := ⟨gb434, _, none⟩) NB422_434.out _).trans (hHeld.1)))), ((cell_far (p := ⟨gb434, _, none⟩) NB422_434.out _).trans (((cell_far (p := ⟨gb434, _, none⟩) NB422_434.out _).trans (hHeld.2))))⟩ (fun hHeld => ?_)
        clear hK K
        refine pz_ 9 12 (nb_ 10 1023) HT_.out ?_
        refine done_ (done_of HT_.out (by kernel_rfl)) ?_
        try go_wp2
        have n0_ : Aside0 (((w74.setCell ⟨gb434, 0, none⟩ (.int .i64 t431)).setCell ⟨gb434, 1, none⟩ (.int .u64 t432)).heap[gb417]? = some (.cells #[.int .i64 a0_0, .int .u64 a0_1] 24 (0, 0))) := ⟨qff_ NB417_434.out NB417_434.out BK417.out⟩
        have n1_ : Aside0 (((w74.setCell ⟨gb434, 0, none⟩ (.int .i64 t431)).setCell ⟨gb434, 1, none⟩ (.int .u64 t432)).heap[gb422]? = some (.cells #[.int .i64 t419, .int .u64 t420] 24 (0, 0))) := ⟨qff_ NB422_434.out NB422_434.out BK422.out⟩
        have n2_ : Aside0 (((w74.setCell ⟨gb434, 0, none⟩ (.int .i64 t431)).setCell ⟨gb434, 1, none⟩ (.int .u64 t432)).heap[gb427]? = some (.cells #[.int .i64 t424, .int .u64 t425] 24 (0, 0))) := ⟨qff_ NB427_434.out NB427_434.out BK427.out⟩
        have n3_ : Aside0 (((w74.setCell ⟨gb434, 0, none⟩ (.int .i64 t431)).setCell ⟨gb434, 1, none⟩ (.int .u64 t432)).heap[gb434]? = some (.cells #[.int .i64 t431, .int .u64 t432] 24 (0, 0))) := ⟨qpp_ #[.int .i64 t431, .int .u64 0] 1 #[.int .i64 0, .int .u64 0] 0 BK434.out⟩
        have n4_ : Aside0 (Below w.heap.size w ((w74.setCell ⟨gb434, 0, none⟩ (.int .i64 t431)).setCell ⟨gb434, 1, none⟩ (.int .u64 t432))) := ⟨qb4_ GE417.out GE422.out GE427.out GE434.out HB.out⟩
        (try clear BK417)
        (try clear BK422)
        (try clear BK427)
        (try clear BK434)
        (try clear HB)
        generalize ((w74.setCell ⟨gb434, 0, none⟩ (.int .i64 t431)).setCell ⟨gb434, 1, none⟩ (.int .u64 t432)) = w77 at n0_ n1_ n2_ n3_ n4_ ⊢
        have BK417 := n0_
        have BK422 := n1_
        have BK427 := n2_
        have BK434 := n3_
        have HB := n4_
        clear n0_ n1_ n2_ n3_ n4_
        have n0_ := Aside0.mk (blk_drew BK417.out)
        have n1_ := Aside0.mk (blk_drew BK422.out)
        have n2_ := Aside0.mk (blk_drew BK427.out)
        have n3_ := Aside0.mk (blk_drew BK434.out)
        have n4_ := Aside0.mk (below_drew1 HB.out)
        clear BK417
        clear BK422
        clear BK427
        clear BK434
        clear HB
        have BK417 := n0_
        have BK422 := n1_
        have BK427 := n2_
        have BK434 := n3_
        have HB := n4_
        clear n0_ n1_ n2_ n3_ n4_
        refine start_ (n := 23) (S := fun w' => w'.cell? ⟨gb434, 0, none⟩ = some (.int .i64 t431) ∧ w'.cell? ⟨gb434, 1, none⟩ = some (.int .u64 t432) ∧ w'.cell? ⟨gb417, 0, none⟩ = some (.int .i64 a0_0) ∧ w'.cell? ⟨gb417, 1, none⟩ = some (.int .u64 a0_1) ∧ w'.cell? ⟨gb422, 0, none⟩ = some (.int .i64 t419) ∧ w'.cell? ⟨gb422, 1, none⟩ = some (.int .u64 t420)) (ds := []) (nb_ 23 0) (by kernel_rfl) rfl rfl ⟨(blk_cell BK434.out 0).trans rfl, (blk_cell BK434.out 1).trans rfl, (blk_cell BK417.out 0).trans rfl, (blk_cell BK417.out 1).trans rfl, (blk_cell BK422.out 0).trans rfl, (blk_cell BK422.out 1).trans rfl⟩ (fun hHeld => ?_); refine with_tabW corebanklaw02_RoundingAmounts.tab8 corebanklaw02_RoundingAmounts.bits8 (fun HT_ HW_ => ?_)
        generalize w77.drew = w78 at BK417 BK422 BK427 BK434 HB hHeld ⊢
        refine pz_ 0 50 (nb_ 23 1) HT_.out ?_
        refine pz_ 1 51 (nb_ 23 3) HT_.out ?_
        refine pz_ 2 52 (nb_ 23 7) HT_.out ?_
        refine tk6_ 3 53 (nb_ 23 15) HT_.out HW_.out hHeld ?_
        refine tk6_ 4 54 (nb_ 23 31) HT_.out HW_.out hHeld ?_
        refine pz_ 5 55 (nb_ 23 63) HT_.out ?_
        refine pz_ 6 56 (nb_ 23 127) HT_.out ?_
        refine pz_ 7 57 (nb_ 23 255) HT_.out ?_
        refine tk6_ 8 58 (nb_ 23 511) HT_.out HW_.out hHeld ?_
        refine on_ 9 59 (nb_ 23 1023) HT_.out (fun K hK => ?_)
        refine goes_ Tryd.func21 (by kernel_rfl) rfl #[.int .i64 1603080000000] (by rfl) rfl rfl ql_ ?_
        with_reducible refine (corebankref01_Of.calls 1603080000000 t435 t436 _ A36.out).mono ?_
        rintro e w79 ⟨rfl, hb⟩
        refine ⟨_, rfl, ?_⟩
        have n0_ := Aside0.mk (blk_below (qk_ BK417.out) hb)
        have n1_ := Aside0.mk (blk_below (qk_ BK422.out) hb)
        have n2_ := Aside0.mk (blk_below (qk_ BK427.out) hb)
        have n3_ := Aside0.mk (blk_below (qk_ BK434.out) hb)
        have n4_ := Aside0.mk (below_step (qb4_ GE417.out GE422.out GE427.out GE434.out HB.out) hb)
        clear BK417
        clear BK422
        clear BK427
        clear BK434
        clear HB
        have BK417 := n0_
        have BK422 := n1_
        have BK427 := n2_
        have BK434 := n3_
        have HB := n4_
        clear n0_ n1_ n2_ n3_ n4_
        (try clear hb)
        (try clear hb2)
        (try clear hk)
        (try clear hi)
        refine hK.out _ _ ⟨(blk_cell BK434.out 0).trans rfl, (blk_cell BK434.out 1).trans rfl, (blk_cell BK417.out 0).trans rfl, (blk_cell BK417.out 1).trans rfl, (blk_cell BK422.out 0).trans rfl, (blk_cell BK422.out 1).trans rfl⟩ (fun hHeld => ?_)
        clear hK K
        refine no_ ?_
        refine on_ 10 60 (nb_ 23 2047) HT_.out (fun K hK => ?_)
        refine goes_ Tryd.func20 (by kernel_rfl) rfl #[.agg #[.int .i64 t419, .int .u64 t420], .agg #[.int .i64 t435, .int .u64 t436]] (by rfl) rfl rfl ql_ ?_
        with_reducible refine (corebankref01_Cmp.calls t419 t420 t435 t436 t437 _ A37.out).mono ?_
        rintro e w80 ⟨rfl, hb⟩
        refine ⟨_, rfl, ?_⟩
        have n0_ := Aside0.mk (blk_below (qk_ BK417.out) hb)
        have n1_ := Aside0.mk (blk_below (qk_ BK422.out) hb)
        have n2_ := Aside0.mk (blk_below (qk_ BK427.out) hb)
        have n3_ := Aside0.mk (blk_below (qk_ BK434.out) hb)
        have n4_ := Aside0.mk (below_step (qb4_ GE417.out GE422.out GE427.out GE434.out HB.out) hb)
        clear BK417
        clear BK422
        clear BK427
        clear BK434
        clear HB
        have BK417 := n0_
        have BK422 := n1_
        have BK427 := n2_
        have BK434 := n3_
        have HB := n4_
        clear n0_ n1_ n2_ n3_ n4_
        (try clear hb)
        (try clear hb2)
        (try clear hk)
        (try clear hi)
        refine hK.out _ _ ⟨(blk_cell BK434.out 0).trans rfl, (blk_cell BK434.out 1).trans rfl, (blk_cell BK417.out 0).trans rfl, (blk_cell BK417.out 1).trans rfl, (blk_cell BK422.out 0).trans rfl, (blk_cell BK422.out 1).trans rfl⟩ (fun hHeld => ?_)
        clear hK K
        refine no_ ?_
        refine pz_ 11 61 (nb_ 23 4095) HT_.out ?_
        refine pz_ 12 62 (nb_ 23 8191) HT_.out ?_
        refine pz_ 13 63 (nb_ 23 16383) HT_.out ?_
        refine pu_ 14 64 (nb_ 23 32767) HT_.out ?_
        refine pu_ 15 65 (nb_ 23 65535) HT_.out ?_
        refine pu_ 16 66 (nb_ 23 131071) HT_.out ?_
        refine pu_ 17 67 (nb_ 23 262143) HT_.out ?_
        refine pz_ 18 68 (nb_ 23 524287) HT_.out ?_
        refine pz_ 19 69 (nb_ 23 1048575) HT_.out ?_
        refine pu_ 20 70 (nb_ 23 2097151) HT_.out ?_
        refine pz_ 21 71 (nb_ 23 4194303) HT_.out ?_
        refine pz_ 22 4 (nb_ 23 8388607) HT_.out ?_
        refine done_ (done_of HT_.out (by kernel_rfl)) ?_
        try go_wp2
        go_ret
        exact ⟨qe_, qb4_ GE417.out GE422.out GE427.out GE434.out HB.out⟩
      ·rw [if_neg c35] at H
       have c35b0 : (t431 == a0_0 && (t432 == a0_1)) = false := by simpa using c35
       (try (have c35b1 : decide (t431 = a0_0 && (t432 == a0_1)) = false := by simpa using c35))
       (try (have c35b2 : (t431 == a0_0 && (t432 == a0_1)) = false := by simpa using c35))
       (try (have c35b3 : ¬ (t431 = a0_0 && (t432 == a0_1)) := by simpa using c35))
       clear c35
       obtain rfl := Option.some.inj H
       try go_wp2
       have n0_ := Aside0.mk (blk_drew BK417.out)
       have n1_ := Aside0.mk (blk_drew BK422.out)
       have n2_ := Aside0.mk (blk_drew BK427.out)
       have n3_ := Aside0.mk (below_drew1 HB.out)
       clear BK417
       clear BK422
       clear BK427
       clear HB
       have BK417 := n0_
       have BK422 := n1_
       have BK427 := n2_
       have HB := n3_
       clear n0_ n1_ n2_ n3_
       refine start_ (n := 10) (S := fun w' => w'.cell? ⟨gb422, 0, none⟩ = some (.int .i64 t419) ∧ w'.cell? ⟨gb422, 1, none⟩ = some (.int .u64 t420)) (ds := []) (nb_ 10 0) (by kernel_rfl) rfl rfl ⟨(blk_cell BK422.out 0).trans rfl, (blk_cell BK422.out 1).trans rfl⟩ (fun hHeld => ?_); refine with_tabW corebanklaw02_RoundingAmounts.tab7 corebanklaw02_RoundingAmounts.bits7 (fun HT_ HW_ => ?_)
       generalize wc.drew = w81 at BK417 BK422 BK427 HB hHeld ⊢
       refine pz_ 0 44 (nb_ 10 1) HT_.out ?_
       refine tk2_ 2 46 (nb_ 10 5) HT_.out HW_.out hHeld ?_
       refine join_ (σ := Nat) 2 (nb_ 10 255) (fun s_ => [(45, .agg #[.int .i64 t429, .int .u64 t430]), (47, .tuple #[.agg #[.int .i64 t431, .int .u64 t432], .int .i64 t433]), (11, .pointer (some ⟨s_, 0, none⟩)), (43, .tuple #[.agg #[.int .i64 t431, .int .u64 t432], .int .i64 t433]), (48, .agg #[.int .i64 t431, .int .u64 t432]), (49, .int .i64 t433)]) (fun s_ w' => (w'.cell? ⟨gb422, 0, none⟩ = some (.int .i64 t419) ∧ w'.cell? ⟨gb422, 1, none⟩ = some (.int .u64 t420)) ∧ (w'.heap[gb417]? = some (.cells #[.int .i64 a0_0, .int .u64 a0_1] 24 (0, 0))) ∧ (w'.heap[gb422]? = some (.cells #[.int .i64 t419, .int .u64 t420] 24 (0, 0))) ∧ (w'.heap[gb427]? = some (.cells #[.int .i64 t424, .int .u64 t425] 24 (0, 0))) ∧ (w'.heap[s_]? = some (.cells #[.int .i64 0, .int .u64 0] 24 (0, 0))) ∧ (w.heap.size ≤ s_) ∧ (w.heap.size ≤ s_) ∧ (gb417 ≠ s_) ∧ (s_ ≠ gb417) ∧ (gb422 ≠ s_) ∧ (s_ ≠ gb422) ∧ (gb427 ≠ s_) ∧ (s_ ≠ gb427) ∧ (Below w.heap.size w w')) ?_ ?_
       rotate_left
       ·intro hCont
        refine two_ (i := 1) (j := 7) (Ni := some 45) (Nj := some 11) (nb_ 10 7) (nb_ 10 133) rfl rfl rfl rfl (two_of HT_.out (by kernel_rfl)) (by decide) (by decide) (fun K hK => ?_) (fun K hK => ?_)
        ·skip
         refine goes_ Tryd.func19 (by kernel_rfl) rfl #[.int .i64 t418, .int .i64 1603080000000] (by rfl) rfl rfl ql_ ?_
         with_reducible refine (corebankref01_Mul.calls t418 1603080000000 t429 t430 _ A32.out).mono ?_
         rintro e w82 ⟨rfl, hb⟩
         refine ⟨_, rfl, ?_⟩
         have n0_ := Aside0.mk (blk_below (qk_ BK417.out) hb)
         have n1_ := Aside0.mk (blk_below (qk_ BK422.out) hb)
         have n2_ := Aside0.mk (blk_below (qk_ BK427.out) hb)
         have n3_ := Aside0.mk (below_step (qb3_ GE417.out GE422.out GE427.out HB.out) hb)
         clear BK417
         clear BK422
         clear BK427
         clear HB
         have BK417 := n0_
         have BK422 := n1_
         have BK427 := n2_
         have HB := n3_
         clear n0_ n1_ n2_ n3_
         (try clear hb)
         (try clear hb2)
         (try clear hk)
         (try clear hi)
         refine hK.out _ _ ⟨(blk_cell BK422.out 0).trans rfl, (blk_cell BK422.out 1).trans rfl⟩ (fun hHeld => ?_)
         clear hK K
         refine no_ ?_
         refine two_ (i := 3) (j := 7) (Ni := some 47) (Nj := some 11) (nb_ 10 15) (nb_ 10 135) rfl rfl rfl rfl (two_of HT_.out (by kernel_rfl)) (by decide) (by decide) (fun K hK => ?_) (fun K hK => ?_)
         ·skip
          refine goes_ Tryd.func18 (by kernel_rfl) rfl #[.agg #[.int .i64 t429, .int .u64 t430], .agg #[.int .i64 t419, .int .u64 t420]] (by rfl) rfl rfl ql_ ?_
          with_reducible refine (corebankref01_Add.calls t429 t430 t419 t420 t431 t432 t433 _ A33.out).mono ?_
          rintro e w83 ⟨rfl, hb⟩
          refine ⟨_, rfl, ?_⟩
          have n0_ := Aside0.mk (blk_below (qk_ BK417.out) hb)
          have n1_ := Aside0.mk (blk_below (qk_ BK422.out) hb)
          have n2_ := Aside0.mk (blk_below (qk_ BK427.out) hb)
          have n3_ := Aside0.mk (below_step (qb3_ GE417.out GE422.out GE427.out HB.out) hb)
          clear BK417
          clear BK422
          clear BK427
          clear HB
          have BK417 := n0_
          have BK422 := n1_
          have BK427 := n2_
          have HB := n3_
          clear n0_ n1_ n2_ n3_
          (try clear hb)
          (try clear hb2)
          (try clear hk)
          (try clear hi)
          refine hK.out _ _ ⟨(blk_cell BK422.out 0).trans rfl, (blk_cell BK422.out 1).trans rfl⟩ (fun hHeld => ?_)
          clear hK K
          refine no_ ?_
          refine pz_ 4 43 (nb_ 10 31) HT_.out ?_
          refine pz_ 5 48 (nb_ 10 63) HT_.out ?_
          refine pz_ 6 49 (nb_ 10 127) HT_.out ?_
          refine on_ 7 11 (nb_ 10 255) HT_.out (fun K hK => ?_)
          refine box_step ?hg (N := 11) ?hd (cs := #[.int .i64 0, .int .u64 0]) (t := 24) ?hr ?_; (case hd => rfl); (case hg => rfl); (case hr => first | (go_simp; done) | (go_simp; rfl))
          intro gb434 hg w84 hbox hb
          have n0_ := Aside0.mk (blk_below (qk_ BK417.out) hb)
          have n1_ := Aside0.mk (blk_below (qk_ BK422.out) hb)
          have n2_ := Aside0.mk (blk_below (qk_ BK427.out) hb)
          have n3_ := Aside0.mk (below_step (qb3_ GE417.out GE422.out GE427.out HB.out) hb)
          have n4_ := Aside0.mk (hbox)
          have n5_ := Aside0.mk (bz_ hg (qb3_ GE417.out GE422.out GE427.out HB.out) : w.heap.size ≤ gb434)
          have n6_ := Aside0.mk (bz_ hg (qb3_ GE417.out GE422.out GE427.out HB.out) : w.heap.size ≤ gb434)
          have n7_ := Aside0.mk (nl_ hg (qk_ BK417.out) : gb417 ≠ gb434)
          have n8_ := Aside0.mk (ng_ hg (qk_ BK417.out) : gb434 ≠ gb417)
          have n9_ := Aside0.mk (nl_ hg (qk_ BK422.out) : gb422 ≠ gb434)
          have n10_ := Aside0.mk (ng_ hg (qk_ BK422.out) : gb434 ≠ gb422)
          have n11_ := Aside0.mk (nl_ hg (qk_ BK427.out) : gb427 ≠ gb434)
          have n12_ := Aside0.mk (ng_ hg (qk_ BK427.out) : gb434 ≠ gb427)
          clear BK417
          clear BK422
          clear BK427
          clear HB
          have BK417 := n0_
          have BK422 := n1_
          have BK427 := n2_
          have HB := n3_
          have BK434 := n4_
          have GW434 := n5_
          have GE434 := n6_
          have NB417_434 := n7_
          have NB434_417 := n8_
          have NB422_434 := n9_
          have NB434_422 := n10_
          have NB427_434 := n11_
          have NB434_427 := n12_
          clear n0_ n1_ n2_ n3_ n4_ n5_ n6_ n7_ n8_ n9_ n10_ n11_ n12_
          clear hb hbox hg
          refine hK.out _ _ ⟨(blk_cell BK422.out 0).trans rfl, (blk_cell BK422.out 1).trans rfl⟩ (fun hHeld => ?_)
          clear hK K
          refine no_ ?_
          exact norm_ (by simp only [putAll, Act.put, List.setIfInBounds_toArray, List.set_cons_zero, List.set_cons_succ]) (hCont (gb434) _ ⟨hHeld, (qk_ BK417.out), (qk_ BK422.out), (qk_ BK427.out), (qk_ BK434.out), GW434.out, GE434.out, NB417_434.out, NB434_417.out, NB422_434.out, NB434_422.out, NB427_434.out, NB434_427.out, (qb4_ GE417.out GE422.out GE427.out GE434.out HB.out)⟩)
         ·skip
          refine box_step ?hg (N := 11) ?hd (cs := #[.int .i64 0, .int .u64 0]) (t := 24) ?hr ?_; (case hd => rfl); (case hg => rfl); (case hr => first | (go_simp; done) | (go_simp; rfl))
          intro gb434 hg w83 hbox hb
          have n0_ := Aside0.mk (blk_below (qk_ BK417.out) hb)
          have n1_ := Aside0.mk (blk_below (qk_ BK422.out) hb)
          have n2_ := Aside0.mk (blk_below (qk_ BK427.out) hb)
          have n3_ := Aside0.mk (below_step (qb3_ GE417.out GE422.out GE427.out HB.out) hb)
          have n4_ := Aside0.mk (hbox)
          have n5_ := Aside0.mk (bz_ hg (qb3_ GE417.out GE422.out GE427.out HB.out) : w.heap.size ≤ gb434)
          have n6_ := Aside0.mk (bz_ hg (qb3_ GE417.out GE422.out GE427.out HB.out) : w.heap.size ≤ gb434)
          have n7_ := Aside0.mk (nl_ hg (qk_ BK417.out) : gb417 ≠ gb434)
          have n8_ := Aside0.mk (ng_ hg (qk_ BK417.out) : gb434 ≠ gb417)
          have n9_ := Aside0.mk (nl_ hg (qk_ BK422.out) : gb422 ≠ gb434)
          have n10_ := Aside0.mk (ng_ hg (qk_ BK422.out) : gb434 ≠ gb422)
          have n11_ := Aside0.mk (nl_ hg (qk_ BK427.out) : gb427 ≠ gb434)
          have n12_ := Aside0.mk (ng_ hg (qk_ BK427.out) : gb434 ≠ gb427)
          clear BK417
          clear BK422
          clear BK427
          clear HB
          have BK417 := n0_
          have BK422 := n1_
          have BK427 := n2_
          have HB := n3_
          have BK434 := n4_
          have GW434 := n5_
          have GE434 := n6_
          have NB417_434 := n7_
          have NB434_417 := n8_
          have NB422_434 := n9_
          have NB434_422 := n10_
          have NB427_434 := n11_
          have NB434_427 := n12_
          clear n0_ n1_ n2_ n3_ n4_ n5_ n6_ n7_ n8_ n9_ n10_ n11_ n12_
          clear hb hbox hg
          refine hK.out _ _ ⟨(blk_cell BK422.out 0).trans rfl, (blk_cell BK422.out 1).trans rfl⟩ (fun hHeld => ?_)
          clear hK K
          refine no_ ?_
          refine on_ 3 47 (nb_ 10 143) HT_.out (fun K hK => ?_)
          refine goes_ Tryd.func18 (by kernel_rfl) rfl #[.agg #[.int .i64 t429, .int .u64 t430], .agg #[.int .i64 t419, .int .u64 t420]] (by rfl) rfl rfl ql_ ?_
          with_reducible refine (corebankref01_Add.calls t429 t430 t419 t420 t431 t432 t433 _ A33.out).mono ?_
          rintro e w84 ⟨rfl, hb⟩
          refine ⟨_, rfl, ?_⟩
          have n0_ := Aside0.mk (blk_below (qk_ BK417.out) hb)
          have n1_ := Aside0.mk (blk_below (qk_ BK422.out) hb)
          have n2_ := Aside0.mk (blk_below (qk_ BK427.out) hb)
          have n3_ := Aside0.mk (blk_below (qk_ BK434.out) hb)
          have n4_ := Aside0.mk (below_step (qb4_ GE417.out GE422.out GE427.out GE434.out HB.out) hb)
          clear BK417
          clear BK422
          clear BK427
          clear BK434
          clear HB
          have BK417 := n0_
          have BK422 := n1_
          have BK427 := n2_
          have BK434 := n3_
          have HB := n4_
          clear n0_ n1_ n2_ n3_ n4_
          (try clear hb)
          (try clear hb2)
          (try clear hk)
          (try clear hi)
          refine hK.out _ _ ⟨(blk_cell BK422.out 0).trans rfl, (blk_cell BK422.out 1).trans rfl⟩ (fun hHeld => ?_)
          clear hK K
          refine no_ ?_
          refine pz_ 4 43 (nb_ 10 159) HT_.out ?_
          refine pz_ 5 48 (nb_ 10 191) HT_.out ?_
          refine pz_ 6 49 (nb_ 10 255) HT_.out ?_
          exact norm_ (by simp only [putAll, Act.put, List.setIfInBounds_toArray, List.set_cons_zero, List.set_cons_succ]) (hCont (gb434) _ ⟨hHeld, (qk_ BK417.out), (qk_ BK422.out), (qk_ BK427.out), (qk_ BK434.out), GW434.out, GE434.out, NB417_434.out, NB434_417.out, NB422_434.out, NB434_422.out, NB427_434.out, NB434_427.out, (qb4_ GE417.out GE422.out GE427.out GE434.out HB.out)⟩)
        ·skip
         refine box_step ?hg (N := 11) ?hd (cs := #[.int .i64 0, .int .u64 0]) (t := 24) ?hr ?_; (case hd => rfl); (case hg => rfl); (case hr => first | (go_simp; done) | (go_simp; rfl))
         intro gb434 hg w82 hbox hb
         have n0_ := Aside0.mk (blk_below (qk_ BK417.out) hb)
         have n1_ := Aside0.mk (blk_below (qk_ BK422.out) hb)
         have n2_ := Aside0.mk (blk_below (qk_ BK427.out) hb)
         have n3_ := Aside0.mk (below_step (qb3_ GE417.out GE422.out GE427.out HB.out) hb)
         have n4_ := Aside0.mk (hbox)
         have n5_ := Aside0.mk (bz_ hg (qb3_ GE417.out GE422.out GE427.out HB.out) : w.heap.size ≤ gb434)
         have n6_ := Aside0.mk (bz_ hg (qb3_ GE417.out GE422.out GE427.out HB.out) : w.heap.size ≤ gb434)
         have n7_ := Aside0.mk (nl_ hg (qk_ BK417.out) : gb417 ≠ gb434)
         have n8_ := Aside0.mk (ng_ hg (qk_ BK417.out) : gb434 ≠ gb417)
         have n9_ := Aside0.mk (nl_ hg (qk_ BK422.out) : gb422 ≠ gb434)
         have n10_ := Aside0.mk (ng_ hg (qk_ BK422.out) : gb434 ≠ gb422)
         have n11_ := Aside0.mk (nl_ hg (qk_ BK427.out) : gb427 ≠ gb434)
         have n12_ := Aside0.mk (ng_ hg (qk_ BK427.out) : gb434 ≠ gb427)
         clear BK417
         clear BK422
         clear BK427
         clear HB
         have BK417 := n0_
         have BK422 := n1_
         have BK427 := n2_
         have HB := n3_
         have BK434 := n4_
         have GW434 := n5_
         have GE434 := n6_
         have NB417_434 := n7_
         have NB434_417 := n8_
         have NB422_434 := n9_
         have NB434_422 := n10_
         have NB427_434 := n11_
         have NB434_427 := n12_
         clear n0_ n1_ n2_ n3_ n4_ n5_ n6_ n7_ n8_ n9_ n10_ n11_ n12_
         clear hb hbox hg
         refine hK.out _ _ ⟨(blk_cell BK422.out 0).trans rfl, (blk_cell BK422.out 1).trans rfl⟩ (fun hHeld => ?_)
         clear hK K
         refine no_ ?_
         refine on_ 1 45 (nb_ 10 135) HT_.out (fun K hK => ?_)
         refine goes_ Tryd.func19 (by kernel_rfl) rfl #[.int .i64 t418, .int .i64 1603080000000] (by rfl) rfl rfl ql_ ?_
         with_reducible refine (corebankref01_Mul.calls t418 1603080000000 t429 t430 _ A32.out).mono ?_
         rintro e w83 ⟨rfl, hb⟩
         refine ⟨_, rfl, ?_⟩
         have n0_ := Aside0.mk (blk_below (qk_ BK417.out) hb)
         have n1_ := Aside0.mk (blk_below (qk_ BK422.out) hb)
         have n2_ := Aside0.mk (blk_below (qk_ BK427.out) hb)
         have n3_ := Aside0.mk (blk_below (qk_ BK434.out) hb)
         have n4_ := Aside0.mk (below_step (qb4_ GE417.out GE422.out GE427.out GE434.out HB.out) hb)
         clear BK417
         clear BK422
         clear BK427
         clear BK434
         clear HB
         have BK417 := n0_
         have BK422 := n1_
         have BK427 := n2_
         have BK434 := n3_
         have HB := n4_
         clear n0_ n1_ n2_ n3_ n4_
         (try clear hb)
         (try clear hb2)
         (try clear hk)
         (try clear hi)
         refine hK.out _ _ ⟨(blk_cell BK422.out 0).trans rfl, (blk_cell BK422.out 1).trans rfl⟩ (fun hHeld => ?_)
         clear hK K
         refine no_ ?_
         refine on_ 3 47 (nb_ 10 143) HT_.out (fun K hK => ?_)
         refine goes_ Tryd.func18 (by kernel_rfl) rfl #[.agg #[.int .i64 t429, .int .u64 t430], .agg #[.int .i64 t419, .int .u64 t420]] (by rfl) rfl rfl ql_ ?_
         with_reducible refine (corebankref01_Add.calls t429 t430 t419 t420 t431 t432 t433 _ A33.out).mono ?_
         rintro e w84 ⟨rfl, hb⟩
         refine ⟨_, rfl, ?_⟩
         have n0_ := Aside0.mk (blk_below (qk_ BK417.out) hb)
         have n1_ := Aside0.mk (blk_below (qk_ BK422.out) hb)
         have n2_ := Aside0.mk (blk_below (qk_ BK427.out) hb)
         have n3_ := Aside0.mk (blk_below (qk_ BK434.out) hb)
         have n4_ := Aside0.mk (below_step (qb4_ GE417.out GE422.out GE427.out GE434.out HB.out) hb)
         clear BK417
         clear BK422
         clear BK427
         clear BK434
         clear HB
         have BK417 := n0_
         have BK422 := n1_
         have BK427 := n2_
         have BK434 := n3_
         have HB := n4_
         clear n0_ n1_ n2_ n3_ n4_
         (try clear hb)
         (try clear hb2)
         (try clear hk)
         (try clear hi)
         refine hK.out _ _ ⟨(blk_cell BK422.out 0).trans rfl, (blk_cell BK422.out 1).trans rfl⟩ (fun hHeld => ?_)
         clear hK K
         refine no_ ?_
         refine pz_ 4 43 (nb_ 10 159) HT_.out ?_
         refine pz_ 5 48 (nb_ 10 191) HT_.out ?_
         refine pz_ 6 49 (nb_ 10 255) HT_.out ?_
         exact norm_ (by simp only [putAll, Act.put, List.setIfInBounds_toArray, List.set_cons_zero, List.set_cons_succ]) (hCont (gb434) _ ⟨hHeld, (qk_ BK417.out), (qk_ BK422.out), (qk_ BK427.out), (qk_ BK434.out), GW434.out, GE434.out, NB417_434.out, NB434_417.out, NB422_434.out, NB434_422.out, NB427_434.out, NB434_427.out, (qb4_ GE417.out GE422.out GE427.out GE434.out HB.out)⟩)
       rintro gb434 w85 ⟨hS_, h0_, h1_, h2_, h3_, h4_, h5_, h6_, h7_, h8_, h9_, h10_, h11_, h12_⟩
       have n0_ : Aside0 (w85.heap[gb417]? = some (.cells #[.int .i64 a0_0, .int .u64 a0_1] 24 (0, 0))) := ⟨h0_⟩
       have n1_ : Aside0 (w85.heap[gb422]? = some (.cells #[.int .i64 t419, .int .u64 t420] 24 (0, 0))) := ⟨h1_⟩
       have n2_ : Aside0 (w85.heap[gb427]? = some (.cells #[.int .i64 t424, .int .u64 t425] 24 (0, 0))) := ⟨h2_⟩
       have n3_ : Aside0 (w85.heap[gb434]? = some (.cells #[.int .i64 0, .int .u64 0] 24 (0, 0))) := ⟨h3_⟩
       have n4_ : Aside0 (w.heap.size ≤ gb434) := ⟨h4_⟩
       have n5_ : Aside0 (w.heap.size ≤ gb434) := ⟨h5_⟩
       have n6_ : Aside0 (gb417 ≠ gb434) := ⟨h6_⟩
       have n7_ : Aside0 (gb434 ≠ gb417) := ⟨h7_⟩
       have n8_ : Aside0 (gb422 ≠ gb434) := ⟨h8_⟩
       have n9_ : Aside0 (gb434 ≠ gb422) := ⟨h9_⟩
       have n10_ : Aside0 (gb427 ≠ gb434) := ⟨h10_⟩
       have n11_ : Aside0 (gb434 ≠ gb427) := ⟨h11_⟩
       have n12_ : Aside0 (Below w.heap.size w w85) := ⟨h12_⟩
       clear BK417
       clear BK422
       clear BK427
       clear HB
       clear h0_ h1_ h2_ h3_ h4_ h5_ h6_ h7_ h8_ h9_ h10_ h11_ h12_
       have BK417 := n0_
       have BK422 := n1_
       have BK427 := n2_
       have BK434 := n3_
       have GW434 := n4_
       have GE434 := n5_
       have NB417_434 := n6_
       have NB434_417 := n7_
       have NB422_434 := n8_
       have NB434_422 := n9_
       have NB427_434 := n10_
       have NB434_427 := n11_
       have HB := n12_
       clear n0_ n1_ n2_ n3_ n4_ n5_ n6_ n7_ n8_ n9_ n10_ n11_ n12_
       have hHeld : w85.cell? ⟨gb422, 0, none⟩ = some (.int .i64 t419) ∧ w85.cell? ⟨gb422, 1, none⟩ = some (.int .u64 t420) := hS_
       refine norm_ (a' := ?_) ?_ ?_
       rotate_left
       ·simp only [putAll, Act.put, List.setIfInBounds_toArray, List.set_cons_zero, List.set_cons_succ]
        rfl
       refine one_ (i := 8) (N := none) (nb_ 10 511) rfl rfl (one_of HT_.out (by kernel_rfl)) (by decide) (fun K hK => ?_)
       have hs86 : w85.cell? ⟨gb434, 0, none⟩ = some (.int .i64 0) := (blk_cell BK434.out 0).trans rfl
       have hfs86 := blk_frozen BK434.out 0
       have hns86_0 := NB417_434.out
       have hns86_1 := NB422_434.out
       have hns86_2 := NB427_434.out
       have hms86_0 := NB434_417.out
       have hms86_1 := NB434_422.out
       have hms86_2 := NB434_427.out
       have hs87 : w85.cell? ⟨gb434, 1, none⟩ = some (.int .u64 0) := (blk_cell BK434.out 1).trans rfl
       have hfs87 := blk_frozen BK434.out 1
       have hns87_0 := NB417_434.out
       have hns87_1 := NB422_434.out
       have hns87_2 := NB427_434.out
       have hms87_0 := NB434_417.out
       have hms87_1 := NB434_422.out
       have hms87_2 := NB434_427.out
       refine skip_ (w1 := ?_) (by rfl) rfl ?_ ?_
       rotate_left
       ·go_simp
        rfl
       refine hK.out _ _ ⟨((cell_far (p := ⟨gb434, _, none⟩) NB422_434.out _).trans (((cell_far (p := ⟨gb434, _, none⟩) NB422_434.out _).trans (hHeld.1)))), ((cell_far (p := ⟨gb434, _, none⟩) NB422_434.out _).trans (((cell_far (p := ⟨gb434, _, none⟩) NB422_434.out _).trans (hHeld.2))))⟩ (fun hHeld => ?_)
       clear hK K
       refine pz_ 9 12 (nb_ 10 1023) HT_.out ?_
       refine done_ (done_of HT_.out (by kernel_rfl)) ?_
       try go_wp2
       have n0_ : Aside0 (((w85.setCell ⟨gb434, 0, none⟩ (.int .i64 t431)).setCell ⟨gb434, 1, none⟩ (.int .u64 t432)).heap[gb417]? = some (.cells #[.int .i64 a0_0, .int .u64 a0_1] 24 (0, 0))) := ⟨qff_ NB417_434.out NB417_434.out BK417.out⟩
       have n1_ : Aside0 (((w85.setCell ⟨gb434, 0, none⟩ (.int .i64 t431)).setCell ⟨gb434, 1, none⟩ (.int .u64 t432)).heap[gb422]? = some (.cells #[.int .i64 t419, .int .u64 t420] 24 (0, 0))) := ⟨qff_ NB422_434.out NB422_434.out BK422.out⟩
       have n2_ : Aside0 (((w85.setCell ⟨gb434, 0, none⟩ (.int .i64 t431)).setCell ⟨gb434, 1, none⟩ (.int .u64 t432)).heap[gb427]? = some (.cells #[.int .i64 t424, .int .u64 t425] 24 (0, 0))) := ⟨qff_ NB427_434.out NB427_434.out BK427.out⟩
       have n3_ : Aside0 (((w85.setCell ⟨gb434, 0, none⟩ (.int .i64 t431)).setCell ⟨gb434, 1, none⟩ (.int .u64 t432)).heap[gb434]? = some (.cells #[.int .i64 t431, .int .u64 t432] 24 (0, 0))) := ⟨qpp_ #[.int .i64 t431, .int .u64 0] 1 #[.int .i64 0, .int .u64 0] 0 BK434.out⟩
       have n4_ : Aside0 (Below w.heap.size w ((w85.setCell ⟨gb434, 0, none⟩ (.int .i64 t431)).setCell ⟨gb434, 1, none⟩ (.int .u64 t432))) := ⟨qb4_ GE417.out GE422.out GE427.out GE434.out HB.out⟩
       (try clear BK417)
       (try clear BK422)
       (try clear BK427)
       (try clear BK434)
       (try clear HB)
       generalize ((w85.setCell ⟨gb434, 0, none⟩ (.int .i64 t431)).setCell ⟨gb434, 1, none⟩ (.int .u64 t432)) = w88 at n0_ n1_ n2_ n3_ n4_ ⊢
       have BK417 := n0_
       have BK422 := n1_
       have BK427 := n2_
       have BK434 := n3_
       have HB := n4_
       clear n0_ n1_ n2_ n3_ n4_
       have n0_ := Aside0.mk (blk_drew BK417.out)
       have n1_ := Aside0.mk (blk_drew BK422.out)
       have n2_ := Aside0.mk (blk_drew BK427.out)
       have n3_ := Aside0.mk (blk_drew BK434.out)
       have n4_ := Aside0.mk (below_drew1 HB.out)
       clear BK417
       clear BK422
       clear BK427
       clear BK434
       clear HB
       have BK417 := n0_
       have BK422 := n1_
       have BK427 := n2_
       have BK434 := n3_
       have HB := n4_
       clear n0_ n1_ n2_ n3_ n4_
       refine start_ (n := 23) (S := fun w' => w'.cell? ⟨gb434, 0, none⟩ = some (.int .i64 t431) ∧ w'.cell? ⟨gb434, 1, none⟩ = some (.int .u64 t432) ∧ w'.cell? ⟨gb417, 0, none⟩ = some (.int .i64 a0_0) ∧ w'.cell? ⟨gb417, 1, none⟩ = some (.int .u64 a0_1)) (ds := []) (nb_ 23 0) (by kernel_rfl) rfl rfl ⟨(blk_cell BK434.out 0).trans rfl, (blk_cell BK434.out 1).trans rfl, (blk_cell BK417.out 0).trans rfl, (blk_cell BK417.out 1).trans rfl⟩ (fun hHeld => ?_); refine with_tabW corebanklaw02_RoundingAmounts.tab8 corebanklaw02_RoundingAmounts.bits8 (fun HT_ HW_ => ?_)
       generalize w88.drew = w89 at BK417 BK422 BK427 BK434 HB hHeld ⊢
       refine pz_ 0 50 (nb_ 23 1) HT_.out ?_
       refine pz_ 1 51 (nb_ 23 3) HT_.out ?_
       refine pz_ 2 52 (nb_ 23 7) HT_.out ?_
       refine tk4_ 3 53 (nb_ 23 15) HT_.out HW_.out hHeld ?_
       refine tk4_ 4 54 (nb_ 23 31) HT_.out HW_.out hHeld ?_
       refine pz_ 5 55 (nb_ 23 63) HT_.out ?_
       refine pz_ 6 56 (nb_ 23 127) HT_.out ?_
       refine pz_ 7 57 (nb_ 23 255) HT_.out ?_
       refine pu_ 8 58 (nb_ 23 511) HT_.out ?_
       refine pu_ 9 59 (nb_ 23 1023) HT_.out ?_
       refine pu_ 10 60 (nb_ 23 2047) HT_.out ?_
       refine pu_ 11 61 (nb_ 23 4095) HT_.out ?_
       refine pz_ 12 62 (nb_ 23 8191) HT_.out ?_
       refine pz_ 13 63 (nb_ 23 16383) HT_.out ?_
       refine pu_ 14 64 (nb_ 23 32767) HT_.out ?_
       refine pu_ 15 65 (nb_ 23 65535) HT_.out ?_
       refine pu_ 16 66 (nb_ 23 131071) HT_.out ?_
       refine pu_ 17 67 (nb_ 23 262143) HT_.out ?_
       refine pz_ 18 68 (nb_ 23 524287) HT_.out ?_
       refine pz_ 19 69 (nb_ 23 1048575) HT_.out ?_
       refine pu_ 20 70 (nb_ 23 2097151) HT_.out ?_
       refine pz_ 21 71 (nb_ 23 4194303) HT_.out ?_
       refine pz_ 22 4 (nb_ 23 8388607) HT_.out ?_
       refine done_ (done_of HT_.out (by kernel_rfl)) ?_
       try go_wp2
       go_ret
       exact ⟨qe_, qb4_ GE417.out GE422.out GE427.out GE434.out HB.out⟩
     ·rw [if_neg c34] at H
      have c34b0 : (t433 == 0) = false := beq_eq_false_iff_ne.mpr c34
      have c34b1 : (t433 != 0) = true := bne_iff_ne.mpr c34
      obtain rfl := Option.some.inj H
      try go_wp2
      have n0_ := Aside0.mk (blk_drew BK417.out)
      have n1_ := Aside0.mk (blk_drew BK422.out)
      have n2_ := Aside0.mk (blk_drew BK427.out)
      have n3_ := Aside0.mk (below_drew1 HB.out)
      clear BK417
      clear BK422
      clear BK427
      clear HB
      have BK417 := n0_
      have BK422 := n1_
      have BK427 := n2_
      have HB := n3_
      clear n0_ n1_ n2_ n3_
      refine start_ (n := 10) (S := fun w' => w'.cell? ⟨gb422, 0, none⟩ = some (.int .i64 t419) ∧ w'.cell? ⟨gb422, 1, none⟩ = some (.int .u64 t420)) (ds := []) (nb_ 10 0) (by kernel_rfl) rfl rfl ⟨(blk_cell BK422.out 0).trans rfl, (blk_cell BK422.out 1).trans rfl⟩ (fun hHeld => ?_); refine with_tabW corebanklaw02_RoundingAmounts.tab7 corebanklaw02_RoundingAmounts.bits7 (fun HT_ HW_ => ?_)
      generalize wc.drew = w90 at BK417 BK422 BK427 HB hHeld ⊢
      refine pz_ 0 44 (nb_ 10 1) HT_.out ?_
      refine tk2_ 2 46 (nb_ 10 5) HT_.out HW_.out hHeld ?_
      refine join_ (σ := Nat) 2 (nb_ 10 255) (fun s_ => [(45, .agg #[.int .i64 t429, .int .u64 t430]), (47, .tuple #[.agg #[.int .i64 t431, .int .u64 t432], .int .i64 t433]), (11, .pointer (some ⟨s_, 0, none⟩)), (43, .tuple #[.agg #[.int .i64 t431, .int .u64 t432], .int .i64 t433]), (48, .agg #[.int .i64 t431, .int .u64 t432]), (49, .int .i64 t433)]) (fun s_ w' => (w'.cell? ⟨gb422, 0, none⟩ = some (.int .i64 t419) ∧ w'.cell? ⟨gb422, 1, none⟩ = some (.int .u64 t420)) ∧ (w'.heap[gb417]? = some (.cells #[.int .i64 a0_0, .int .u64 a0_1] 24 (0, 0))) ∧ (w'.heap[gb422]? = some (.cells #[.int .i64 t419, .int .u64 t420] 24 (0, 0))) ∧ (w'.heap[gb427]? = some (.cells #[.int .i64 t424, .int .u64 t425] 24 (0, 0))) ∧ (w'.heap[s_]? = some (.cells #[.int .i64 0, .int .u64 0] 24 (0, 0))) ∧ (w.heap.size ≤ s_) ∧ (w.heap.size ≤ s_) ∧ (gb417 ≠ s_) ∧ (s_ ≠ gb417) ∧ (gb422 ≠ s_) ∧ (s_ ≠ gb422) ∧ (gb427 ≠ s_) ∧ (s_ ≠ gb427) ∧ (Below w.heap.size w w')) ?_ ?_
      rotate_left
      ·intro hCont
       refine two_ (i := 1) (j := 7) (Ni := some 45) (Nj := some 11) (nb_ 10 7) (nb_ 10 133) rfl rfl rfl rfl (two_of HT_.out (by kernel_rfl)) (by decide) (by decide) (fun K hK => ?_) (fun K hK => ?_)
       ·skip
        refine goes_ Tryd.func19 (by kernel_rfl) rfl #[.int .i64 t418, .int .i64 1603080000000] (by rfl) rfl rfl ql_ ?_
        with_reducible refine (corebankref01_Mul.calls t418 1603080000000 t429 t430 _ A32.out).mono ?_
        rintro e w91 ⟨rfl, hb⟩
        refine ⟨_, rfl, ?_⟩
        have n0_ := Aside0.mk (blk_below (qk_ BK417.out) hb)
        have n1_ := Aside0.mk (blk_below (qk_ BK422.out) hb)
        have n2_ := Aside0.mk (blk_below (qk_ BK427.out) hb)
        have n3_ := Aside0.mk (below_step (qb3_ GE417.out GE422.out GE427.out HB.out) hb)
        clear BK417
        clear BK422
        clear BK427
        clear HB
        have BK417 := n0_
        have BK422 := n1_
        have BK427 := n2_
        have HB := n3_
        clear n0_ n1_ n2_ n3_
        (try clear hb)
        (try clear hb2)
        (try clear hk)
        (try clear hi)
        refine hK.out _ _ ⟨(blk_cell BK422.out 0).trans rfl, (blk_cell BK422.out 1).trans rfl⟩ (fun hHeld => ?_)
        clear hK K
        refine no_ ?_
        refine two_ (i := 3) (j := 7) (Ni := some 47) (Nj := some 11) (nb_ 10 15) (nb_ 10 135) rfl rfl rfl rfl (two_of HT_.out (by kernel_rfl)) (by decide) (by decide) (fun K hK => ?_) (fun K hK => ?_)
        ·skip
         refine goes_ Tryd.func18 (by kernel_rfl) rfl #[.agg #[.int .i64 t429, .int .u64 t430], .agg #[.int .i64 t419, .int .u64 t420]] (by rfl) rfl rfl ql_ ?_
         with_reducible refine (corebankref01_Add.calls t429 t430 t419 t420 t431 t432 t433 _ A33.out).mono ?_
         rintro e w92 ⟨rfl, hb⟩
         refine ⟨_, rfl, ?_⟩
         have n0_ := Aside0.mk (blk_below (qk_ BK417.out) hb)
         have n1_ := Aside0.mk (blk_below (qk_ BK422.out) hb)
         have n2_ := Aside0.mk (blk_below (qk_ BK427.out) hb)
         have n3_ := Aside0.mk (below_step (qb3_ GE417.out GE422.out GE427.out HB.out) hb)
         clear BK417
         clear BK422
         clear BK427
         clear HB
         have BK417 := n0_
         have BK422 := n1_
         have BK427 := n2_
         have HB := n3_
         clear n0_ n1_ n2_ n3_
         (try clear hb)
         (try clear hb2)
         (try clear hk)
         (try clear hi)
         refine hK.out _ _ ⟨(blk_cell BK422.out 0).trans rfl, (blk_cell BK422.out 1).trans rfl⟩ (fun hHeld => ?_)
         clear hK K
         refine no_ ?_
         refine pz_ 4 43 (nb_ 10 31) HT_.out ?_
         refine pz_ 5 48 (nb_ 10 63) HT_.out ?_
         refine pz_ 6 49 (nb_ 10 127) HT_.out ?_
         refine on_ 7 11 (nb_ 10 255) HT_.out (fun K hK => ?_)
         refine box_step ?hg (N := 11) ?hd (cs := #[.int .i64 0, .int .u64 0]) (t := 24) ?hr ?_; (case hd => rfl); (case hg => rfl); (case hr => first | (go_simp; done) | (go_simp; rfl))
         intro gb434 hg w93 hbox hb
         have n0_ := Aside0.mk (blk_below (qk_ BK417.out) hb)
         have n1_ := Aside0.mk (blk_below (qk_ BK422.out) hb)
         have n2_ := Aside0.mk (blk_below (qk_ BK427.out) hb)
         have n3_ := Aside0.mk (below_step (qb3_ GE417.out GE422.out GE427.out HB.out) hb)
         have n4_ := Aside0.mk (hbox)
         have n5_ := Aside0.mk (bz_ hg (qb3_ GE417.out GE422.out GE427.out HB.out) : w.heap.size ≤ gb434)
         have n6_ := Aside0.mk (bz_ hg (qb3_ GE417.out GE422.out GE427.out HB.out) : w.heap.size ≤ gb434)
         have n7_ := Aside0.mk (nl_ hg (qk_ BK417.out) : gb417 ≠ gb434)
         have n8_ := Aside0.mk (ng_ hg (qk_ BK417.out) : gb434 ≠ gb417)
         have n9_ := Aside0.mk (nl_ hg (qk_ BK422.out) : gb422 ≠ gb434)
         have n10_ := Aside0.mk (ng_ hg (qk_ BK422.out) : gb434 ≠ gb422)
         have n11_ := Aside0.mk (nl_ hg (qk_ BK427.out) : gb427 ≠ gb434)
         have n12_ := Aside0.mk (ng_ hg (qk_ BK427.out) : gb434 ≠ gb427)
         clear BK417
         clear BK422
         clear BK427
         clear HB
         have BK417 := n0_
         have BK422 := n1_
         have BK427 := n2_
         have HB := n3_
         have BK434 := n4_
         have GW434 := n5_
         have GE434 := n6_
         have NB417_434 := n7_
         have NB434_417 := n8_
         have NB422_434 := n9_
         have NB434_422 := n10_
         have NB427_434 := n11_
         have NB434_427 := n12_
         clear n0_ n1_ n2_ n3_ n4_ n5_ n6_ n7_ n8_ n9_ n10_ n11_ n12_
         clear hb hbox hg
         refine hK.out _ _ ⟨(blk_cell BK422.out 0).trans rfl, (blk_cell BK422.out 1).trans rfl⟩ (fun hHeld => ?_)
         clear hK K
         refine no_ ?_
         exact norm_ (by simp only [putAll, Act.put, List.setIfInBounds_toArray, List.set_cons_zero, List.set_cons_succ]) (hCont (gb434) _ ⟨hHeld, (qk_ BK417.out), (qk_ BK422.out), (qk_ BK427.out), (qk_ BK434.out), GW434.out, GE434.out, NB417_434.out, NB434_417.out, NB422_434.out, NB434_422.out, NB427_434.out, NB434_427.out, (qb4_ GE417.out GE422.out GE427.out GE434.out HB.out)⟩)
        ·skip
         refine box_step ?hg (N := 11) ?hd (cs := #[.int .i64 0, .int .u64 0]) (t := 24) ?hr ?_; (case hd => rfl); (case hg => rfl); (case hr => first | (go_simp; done) | (go_simp; rfl))
         intro gb434 hg w92 hbox hb
         have n0_ := Aside0.mk (blk_below (qk_ BK417.out) hb)
         have n1_ := Aside0.mk (blk_below (qk_ BK422.out) hb)
         have n2_ := Aside0.mk (blk_below (qk_ BK427.out) hb)
         have n3_ := Aside0.mk (below_step (qb3_ GE417.out GE422.out GE427.out HB.out) hb)
         have n4_ := Aside0.mk (hbox)
         have n5_ := Aside0.mk (bz_ hg (qb3_ GE417.out GE422.out GE427.out HB.out) : w.heap.size ≤ gb434)
         have n6_ := Aside0.mk (bz_ hg (qb3_ GE417.out GE422.out GE427.out HB.out) : w.heap.size ≤ gb434)
         have n7_ := Aside0.mk (nl_ hg (qk_ BK417.out) : gb417 ≠ gb434)
         have n8_ := Aside0.mk (ng_ hg (qk_ BK417.out) : gb434 ≠ gb417)
         have n9_ := Aside0.mk (nl_ hg (qk_ BK422.out) : gb422 ≠ gb434)
         have n10_ := Aside0.mk (ng_ hg (qk_ BK422.out) : gb434 ≠ gb422)
         have n11_ := Aside0.mk (nl_ hg (qk_ BK427.out) : gb427 ≠ gb434)
         have n12_ := Aside0.mk (ng_ hg (qk_ BK427.out) : gb434 ≠ gb427)
         clear BK417
         clear BK422
         clear BK427
         clear HB
         have BK417 := n0_
         have BK422 := n1_
         have BK427 := n2_
         have HB := n3_
         have BK434 := n4_
         have GW434 := n5_
         have GE434 := n6_
         have NB417_434 := n7_
         have NB434_417 := n8_
         have NB422_434 := n9_
         have NB434_422 := n10_
         have NB427_434 := n11_
         have NB434_427 := n12_
         clear n0_ n1_ n2_ n3_ n4_ n5_ n6_ n7_ n8_ n9_ n10_ n11_ n12_
         clear hb hbox hg
         refine hK.out _ _ ⟨(blk_cell BK422.out 0).trans rfl, (blk_cell BK422.out 1).trans rfl⟩ (fun hHeld => ?_)
         clear hK K
         refine no_ ?_
         refine on_ 3 47 (nb_ 10 143) HT_.out (fun K hK => ?_)
         refine goes_ Tryd.func18 (by kernel_rfl) rfl #[.agg #[.int .i64 t429, .int .u64 t430], .agg #[.int .i64 t419, .int .u64 t420]] (by rfl) rfl rfl ql_ ?_
         with_reducible refine (corebankref01_Add.calls t429 t430 t419 t420 t431 t432 t433 _ A33.out).mono ?_
         rintro e w93 ⟨rfl, hb⟩
         refine ⟨_, rfl, ?_⟩
         have n0_ := Aside0.mk (blk_below (qk_ BK417.out) hb)
         have n1_ := Aside0.mk (blk_below (qk_ BK422.out) hb)
         have n2_ := Aside0.mk (blk_below (qk_ BK427.out) hb)
         have n3_ := Aside0.mk (blk_below (qk_ BK434.out) hb)
         have n4_ := Aside0.mk (below_step (qb4_ GE417.out GE422.out GE427.out GE434.out HB.out) hb)
         clear BK417
         clear BK422
         clear BK427
         clear BK434
         clear HB
         have BK417 := n0_
         have BK422 := n1_
         have BK427 := n2_
         have BK434 := n3_
         have HB := n4_
         clear n0_ n1_ n2_ n3_ n4_
         (try clear hb)
         (try clear hb2)
         (try clear hk)
         (try clear hi)
         refine hK.out _ _ ⟨(blk_cell BK422.out 0).trans rfl, (blk_cell BK422.out 1).trans rfl⟩ (fun hHeld => ?_)
         clear hK K
         refine no_ ?_
         refine pz_ 4 43 (nb_ 10 159) HT_.out ?_
         refine pz_ 5 48 (nb_ 10 191) HT_.out ?_
         refine pz_ 6 49 (nb_ 10 255) HT_.out ?_
         exact norm_ (by simp only [putAll, Act.put, List.setIfInBounds_toArray, List.set_cons_zero, List.set_cons_succ]) (hCont (gb434) _ ⟨hHeld, (qk_ BK417.out), (qk_ BK422.out), (qk_ BK427.out), (qk_ BK434.out), GW434.out, GE434.out, NB417_434.out, NB434_417.out, NB422_434.out, NB434_422.out, NB427_434.out, NB434_427.out, (qb4_ GE417.out GE422.out GE427.out GE434.out HB.out)⟩)
       ·skip
        refine box_step ?hg (N := 11) ?hd (cs := #[.int .i64 0, .int .u64 0]) (t := 24) ?hr ?_; (case hd => rfl); (case hg => rfl); (case hr => first | (go_simp; done) | (go_simp; rfl))
        intro gb434 hg w91 hbox hb
        have n0_ := Aside0.mk (blk_below (qk_ BK417.out) hb)
        have n1_ := Aside0.mk (blk_below (qk_ BK422.out) hb)
        have n2_ := Aside0.mk (blk_below (qk_ BK427.out) hb)
        have n3_ := Aside0.mk (below_step (qb3_ GE417.out GE422.out GE427.out HB.out) hb)
        have n4_ := Aside0.mk (hbox)
        have n5_ := Aside0.mk (bz_ hg (qb3_ GE417.out GE422.out GE427.out HB.out) : w.heap.size ≤ gb434)
        have n6_ := Aside0.mk (bz_ hg (qb3_ GE417.out GE422.out GE427.out HB.out) : w.heap.size ≤ gb434)
        have n7_ := Aside0.mk (nl_ hg (qk_ BK417.out) : gb417 ≠ gb434)
        have n8_ := Aside0.mk (ng_ hg (qk_ BK417.out) : gb434 ≠ gb417)
        have n9_ := Aside0.mk (nl_ hg (qk_ BK422.out) : gb422 ≠ gb434)
        have n10_ := Aside0.mk (ng_ hg (qk_ BK422.out) : gb434 ≠ gb422)
        have n11_ := Aside0.mk (nl_ hg (qk_ BK427.out) : gb427 ≠ gb434)
        have n12_ := Aside0.mk (ng_ hg (qk_ BK427.out) : gb434 ≠ gb427)
        clear BK417
        clear BK422
        clear BK427
        clear HB
        have BK417 := n0_
        have BK422 := n1_
        have BK427 := n2_
        have HB := n3_
        have BK434 := n4_
        have GW434 := n5_
        have GE434 := n6_
        have NB417_434 := n7_
        have NB434_417 := n8_
        have NB422_434 := n9_
        have NB434_422 := n10_
        have NB427_434 := n11_
        have NB434_427 := n12_
        clear n0_ n1_ n2_ n3_ n4_ n5_ n6_ n7_ n8_ n9_ n10_ n11_ n12_
        clear hb hbox hg
        refine hK.out _ _ ⟨(blk_cell BK422.out 0).trans rfl, (blk_cell BK422.out 1).trans rfl⟩ (fun hHeld => ?_)
        clear hK K
        refine no_ ?_
        refine on_ 1 45 (nb_ 10 135) HT_.out (fun K hK => ?_)
        refine goes_ Tryd.func19 (by kernel_rfl) rfl #[.int .i64 t418, .int .i64 1603080000000] (by rfl) rfl rfl ql_ ?_
        with_reducible refine (corebankref01_Mul.calls t418 1603080000000 t429 t430 _ A32.out).mono ?_
        rintro e w92 ⟨rfl, hb⟩
        refine ⟨_, rfl, ?_⟩
        have n0_ := Aside0.mk (blk_below (qk_ BK417.out) hb)
        have n1_ := Aside0.mk (blk_below (qk_ BK422.out) hb)
        have n2_ := Aside0.mk (blk_below (qk_ BK427.out) hb)
        have n3_ := Aside0.mk (blk_below (qk_ BK434.out) hb)
        have n4_ := Aside0.mk (below_step (qb4_ GE417.out GE422.out GE427.out GE434.out HB.out) hb)
        clear BK417
        clear BK422
        clear BK427
        clear BK434
        clear HB
        have BK417 := n0_
        have BK422 := n1_
        have BK427 := n2_
        have BK434 := n3_
        have HB := n4_
        clear n0_ n1_ n2_ n3_ n4_
        (try clear hb)
        (try clear hb2)
        (try clear hk)
        (try clear hi)
        refine hK.out _ _ ⟨(blk_cell BK422.out 0).trans rfl, (blk_cell BK422.out 1).trans rfl⟩ (fun hHeld => ?_)
        clear hK K
        refine no_ ?_
        refine on_ 3 47 (nb_ 10 143) HT_.out (fun K hK => ?_)
        refine goes_ Tryd.func18 (by kernel_rfl) rfl #[.agg #[.int .i64 t429, .int .u64 t430], .agg #[.int .i64 t419, .int .u64 t420]] (by rfl) rfl rfl ql_ ?_
        with_reducible refine (corebankref01_Add.calls t429 t430 t419 t420 t431 t432 t433 _ A33.out).mono ?_
        rintro e w93 ⟨rfl, hb⟩
        refine ⟨_, rfl, ?_⟩
        have n0_ := Aside0.mk (blk_below (qk_ BK417.out) hb)
        have n1_ := Aside0.mk (blk_below (qk_ BK422.out) hb)
        have n2_ := Aside0.mk (blk_below (qk_ BK427.out) hb)
        have n3_ := Aside0.mk (blk_below (qk_ BK434.out) hb)
        have n4_ := Aside0.mk (below_step (qb4_ GE417.out GE422.out GE427.out GE434.out HB.out) hb)
        clear BK417
        clear BK422
        clear BK427
        clear BK434
        clear HB
        have BK417 := n0_
        have BK422 := n1_
        have BK427 := n2_
        have BK434 := n3_
        have HB := n4_
        clear n0_ n1_ n2_ n3_ n4_
        (try clear hb)
        (try clear hb2)
        (try clear hk)
        (try clear hi)
        refine hK.out _ _ ⟨(blk_cell BK422.out 0).trans rfl, (blk_cell BK422.out 1).trans rfl⟩ (fun hHeld => ?_)
        clear hK K
        refine no_ ?_
        refine pz_ 4 43 (nb_ 10 159) HT_.out ?_
        refine pz_ 5 48 (nb_ 10 191) HT_.out ?_
        refine pz_ 6 49 (nb_ 10 255) HT_.out ?_
        exact norm_ (by simp only [putAll, Act.put, List.setIfInBounds_toArray, List.set_cons_zero, List.set_cons_succ]) (hCont (gb434) _ ⟨hHeld, (qk_ BK417.out), (qk_ BK422.out), (qk_ BK427.out), (qk_ BK434.out), GW434.out, GE434.out, NB417_434.out, NB434_417.out, NB422_434.out, NB434_422.out, NB427_434.out, NB434_427.out, (qb4_ GE417.out GE422.out GE427.out GE434.out HB.out)⟩)
      rintro gb434 w94 ⟨hS_, h0_, h1_, h2_, h3_, h4_, h5_, h6_, h7_, h8_, h9_, h10_, h11_, h12_⟩
      have n0_ : Aside0 (w94.heap[gb417]? = some (.cells #[.int .i64 a0_0, .int .u64 a0_1] 24 (0, 0))) := ⟨h0_⟩
      have n1_ : Aside0 (w94.heap[gb422]? = some (.cells #[.int .i64 t419, .int .u64 t420] 24 (0, 0))) := ⟨h1_⟩
      have n2_ : Aside0 (w94.heap[gb427]? = some (.cells #[.int .i64 t424, .int .u64 t425] 24 (0, 0))) := ⟨h2_⟩
      have n3_ : Aside0 (w94.heap[gb434]? = some (.cells #[.int .i64 0, .int .u64 0] 24 (0, 0))) := ⟨h3_⟩
      have n4_ : Aside0 (w.heap.size ≤ gb434) := ⟨h4_⟩
      have n5_ : Aside0 (w.heap.size ≤ gb434) := ⟨h5_⟩
      have n6_ : Aside0 (gb417 ≠ gb434) := ⟨h6_⟩
      have n7_ : Aside0 (gb434 ≠ gb417) := ⟨h7_⟩
      have n8_ : Aside0 (gb422 ≠ gb434) := ⟨h8_⟩
      have n9_ : Aside0 (gb434 ≠ gb422) := ⟨h9_⟩
      have n10_ : Aside0 (gb427 ≠ gb434) := ⟨h10_⟩
      have n11_ : Aside0 (gb434 ≠ gb427) := ⟨h11_⟩
      have n12_ : Aside0 (Below w.heap.size w w94) := ⟨h12_⟩
      clear BK417
      clear BK422
      clear BK427
      clear HB
      clear h0_ h1_ h2_ h3_ h4_ h5_ h6_ h7_ h8_ h9_ h10_ h11_ h12_
      have BK417 := n0_
      have BK422 := n1_
      have BK427 := n2_
      have BK434 := n3_
      have GW434 := n4_
      have GE434 := n5_
      have NB417_434 := n6_
      have NB434_417 := n7_
      have NB422_434 := n8_
      have NB434_422 := n9_
      have NB427_434 := n10_
      have NB434_427 := n11_
      have HB := n12_
      clear n0_ n1_ n2_ n3_ n4_ n5_ n6_ n7_ n8_ n9_ n10_ n11_ n12_
      have hHeld : w94.cell? ⟨gb422, 0, none⟩ = some (.int .i64 t419) ∧ w94.cell? ⟨gb422, 1, none⟩ = some (.int .u64 t420) := hS_
      refine norm_ (a' := ?_) ?_ ?_
      rotate_left
      ·simp only [putAll, Act.put, List.setIfInBounds_toArray, List.set_cons_zero, List.set_cons_succ]
       rfl
      refine one_ (i := 8) (N := none) (nb_ 10 511) rfl rfl (one_of HT_.out (by kernel_rfl)) (by decide) (fun K hK => ?_)
      have hs95 : w94.cell? ⟨gb434, 0, none⟩ = some (.int .i64 0) := (blk_cell BK434.out 0).trans rfl
      have hfs95 := blk_frozen BK434.out 0
      have hns95_0 := NB417_434.out
      have hns95_1 := NB422_434.out
      have hns95_2 := NB427_434.out
      have hms95_0 := NB434_417.out
      have hms95_1 := NB434_422.out
      have hms95_2 := NB434_427.out
      have hs96 : w94.cell? ⟨gb434, 1, none⟩ = some (.int .u64 0) := (blk_cell BK434.out 1).trans rfl
      have hfs96 := blk_frozen BK434.out 1
      have hns96_0 := NB417_434.out
      have hns96_1 := NB422_434.out
      have hns96_2 := NB427_434.out
      have hms96_0 := NB434_417.out
      have hms96_1 := NB434_422.out
      have hms96_2 := NB434_427.out
      refine skip_ (w1 := ?_) (by rfl) rfl ?_ ?_
      rotate_left
      ·go_simp
       rfl
      refine hK.out _ _ ⟨((cell_far (p := ⟨gb434, _, none⟩) NB422_434.out _).trans (((cell_far (p := ⟨gb434, _, none⟩) NB422_434.out _).trans (hHeld.1)))), ((cell_far (p := ⟨gb434, _, none⟩) NB422_434.out _).trans (((cell_far (p := ⟨gb434, _, none⟩) NB422_434.out _).trans (hHeld.2))))⟩ (fun hHeld => ?_)
      clear hK K
      refine pz_ 9 12 (nb_ 10 1023) HT_.out ?_
      refine done_ (done_of HT_.out (by kernel_rfl)) ?_
      try go_wp2
      have n0_ : Aside0 (((w94.setCell ⟨gb434, 0, none⟩ (.int .i64 t431)).setCell ⟨gb434, 1, none⟩ (.int .u64 t432)).heap[gb417]? = some (.cells #[.int .i64 a0_0, .int .u64 a0_1] 24 (0, 0))) := ⟨qff_ NB417_434.out NB417_434.out BK417.out⟩
      have n1_ : Aside0 (((w94.setCell ⟨gb434, 0, none⟩ (.int .i64 t431)).setCell ⟨gb434, 1, none⟩ (.int .u64 t432)).heap[gb422]? = some (.cells #[.int .i64 t419, .int .u64 t420] 24 (0, 0))) := ⟨qff_ NB422_434.out NB422_434.out BK422.out⟩
      have n2_ : Aside0 (((w94.setCell ⟨gb434, 0, none⟩ (.int .i64 t431)).setCell ⟨gb434, 1, none⟩ (.int .u64 t432)).heap[gb427]? = some (.cells #[.int .i64 t424, .int .u64 t425] 24 (0, 0))) := ⟨qff_ NB427_434.out NB427_434.out BK427.out⟩
      have n3_ : Aside0 (((w94.setCell ⟨gb434, 0, none⟩ (.int .i64 t431)).setCell ⟨gb434, 1, none⟩ (.int .u64 t432)).heap[gb434]? = some (.cells #[.int .i64 t431, .int .u64 t432] 24 (0, 0))) := ⟨qpp_ #[.int .i64 t431, .int .u64 0] 1 #[.int .i64 0, .int .u64 0] 0 BK434.out⟩
      have n4_ : Aside0 (Below w.heap.size w ((w94.setCell ⟨gb434, 0, none⟩ (.int .i64 t431)).setCell ⟨gb434, 1, none⟩ (.int .u64 t432))) := ⟨qb4_ GE417.out GE422.out GE427.out GE434.out HB.out⟩
      (try clear BK417)
      (try clear BK422)
      (try clear BK427)
      (try clear BK434)
      (try clear HB)
      generalize ((w94.setCell ⟨gb434, 0, none⟩ (.int .i64 t431)).setCell ⟨gb434, 1, none⟩ (.int .u64 t432)) = w97 at n0_ n1_ n2_ n3_ n4_ ⊢
      have BK417 := n0_
      have BK422 := n1_
      have BK427 := n2_
      have BK434 := n3_
      have HB := n4_
      clear n0_ n1_ n2_ n3_ n4_
      have n0_ := Aside0.mk (blk_drew BK417.out)
      have n1_ := Aside0.mk (blk_drew BK422.out)
      have n2_ := Aside0.mk (blk_drew BK427.out)
      have n3_ := Aside0.mk (blk_drew BK434.out)
      have n4_ := Aside0.mk (below_drew1 HB.out)
      clear BK417
      clear BK422
      clear BK427
      clear BK434
      clear HB
      have BK417 := n0_
      have BK422 := n1_
      have BK427 := n2_
      have BK434 := n3_
      have HB := n4_
      clear n0_ n1_ n2_ n3_ n4_
      refine start_ (n := 23) (S := fun w' => True) (ds := []) (nb_ 23 0) (by kernel_rfl) rfl rfl trivial (fun hHeld => ?_); refine with_tabW corebanklaw02_RoundingAmounts.tab8 corebanklaw02_RoundingAmounts.bits8 (fun HT_ HW_ => ?_)
      generalize w97.drew = w98 at BK417 BK422 BK427 BK434 HB hHeld ⊢
      refine pz_ 0 50 (nb_ 23 1) HT_.out ?_
      refine pz_ 1 51 (nb_ 23 3) HT_.out ?_
      refine pz_ 2 52 (nb_ 23 7) HT_.out ?_
      refine pu_ 3 53 (nb_ 23 15) HT_.out ?_
      refine pu_ 4 54 (nb_ 23 31) HT_.out ?_
      refine pu_ 5 55 (nb_ 23 63) HT_.out ?_
      refine pz_ 6 56 (nb_ 23 127) HT_.out ?_
      refine pz_ 7 57 (nb_ 23 255) HT_.out ?_
      refine pu_ 8 58 (nb_ 23 511) HT_.out ?_
      refine pu_ 9 59 (nb_ 23 1023) HT_.out ?_
      refine pu_ 10 60 (nb_ 23 2047) HT_.out ?_
      refine pu_ 11 61 (nb_ 23 4095) HT_.out ?_
      refine pz_ 12 62 (nb_ 23 8191) HT_.out ?_
      refine pz_ 13 63 (nb_ 23 16383) HT_.out ?_
      refine pu_ 14 64 (nb_ 23 32767) HT_.out ?_
      refine pu_ 15 65 (nb_ 23 65535) HT_.out ?_
      refine pu_ 16 66 (nb_ 23 131071) HT_.out ?_
      refine pu_ 17 67 (nb_ 23 262143) HT_.out ?_
      refine pz_ 18 68 (nb_ 23 524287) HT_.out ?_
      refine pz_ 19 69 (nb_ 23 1048575) HT_.out ?_
      refine pu_ 20 70 (nb_ 23 2097151) HT_.out ?_
      refine pz_ 21 71 (nb_ 23 4194303) HT_.out ?_
      refine pz_ 22 4 (nb_ 23 8388607) HT_.out ?_
      refine done_ (done_of HT_.out (by kernel_rfl)) ?_
      try go_wp2
      go_ret
      exact ⟨qe_, qb4_ GE417.out GE422.out GE427.out GE434.out HB.out⟩
    ·rw [if_neg c31] at H
     have c31b0 : (t421 == 0) = false := beq_eq_false_iff_ne.mpr c31
     have c31b1 : (t421 != 0) = true := bne_iff_ne.mpr c31
     replace H := Option.bind_eq_some_iff.mp H
     obtain ⟨t428, A990, H⟩ := H
     replace H : (some t428) = some r := H
     have A99 := Aside0.mk A990
     clear A990
     obtain rfl := Option.some.inj H
     go_wp2_with (first | ((with_reducible refine gate_callee (f := 15) rfl ?_); refine goesL_ (some 42) rfl rfl Tryd.func15 (by kernel_rfl) rfl #[] rfl ql_ ?_; (with_reducible refine (corebanklaw02_live.calls (hG := by first | exact hG | (with_reducible exact GW.below hG (qb3_ GE417.out GE422.out GE427.out HB.out)) | (with_reducible repeat (first | exact hG | apply GW.drewN | apply GW.drew)))  t428 _ A99.out).mono ?_); rintro e w100 ⟨rfl, hb⟩; refine ⟨_, rfl, ?_⟩; have n0_ := Aside0.mk (blk_below (qk_ BK417.out) hb); have n1_ := Aside0.mk (blk_below (qk_ BK422.out) hb); have n2_ := Aside0.mk (blk_below (qk_ BK427.out) hb); have n3_ := Aside0.mk (below_step (qb3_ GE417.out GE422.out GE427.out HB.out) hb); clear BK417; clear BK422; clear BK427; clear HB; have BK417 := n0_; have BK422 := n1_; have BK427 := n2_; have HB := n3_; clear n0_ n1_ n2_ n3_; (try clear hb); (try clear hb2); (try clear hk); (try clear hi)))
     go_ret
     exact ⟨qe_, qb3_ GE417.out GE422.out GE427.out HB.out⟩
end Go.Proofs.YtkdhippoibjfkaaDoor.PR
