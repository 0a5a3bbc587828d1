import Derived.Test.YtjkjiibhdpcpkaaDoorQRm2
import Derived.Test.YtjkjiibhdpcpkaaDoorQSx29
import Derived.Test.YtjkjiibhdpcpkaaDoorQSx32
import Derived.Test.YtjkjiibhdpcpkaaDoorQSx39
namespace Go.Proofs.YtjkjiibhdpcpkaaDoor.PS
open Go.RowKit Go.Proofs.YtjkjiibhdpcpkaaDoorW.PrintWords Go.Proofs.YtjkjiibhdpcpkaaDoorW.PrintLast
set_option linter.unusedVariables false
set_option linter.unusedSimpArgs false
def corebankref01_ScaleP.j0 : Nat → Bool → Int → Int → Option (Int × Int × Int)
 | 0, _, _, _ => none
 | k + 1, x38, x399000, x399001 => if x38 = true then (some (0, 0, 6)) else (some (x399000, x399001, 0))
def corebankref01_ScaleP.f (k : Nat) (a0_0 a0_1 a1 : Int) : Option (Int × Int × Int) := (corebankref01_Split.f a0_0 a0_1).bind fun bt386 => ((corebankref01_size.f a1).bind fun t390 => ((corebankref01_times.f bt386.2.1 bt386.2.2 t390).bind fun bt391 => ((corebankref01_Join.f (bt386.1 != (decide (a1 < 0))) bt391.1 bt391.2.1).bind fun bt395 => (if bt391.2.2 = true then (corebankref01_ScaleP.j0 k (!bt395.2.2) bt395.1 bt395.2.1) else (corebankref01_ScaleP.j0 k true bt395.1 bt395.2.1)))))
theorem corebankref01_ScaleP.mono_l : ∀ k, (∀ y0 y1 y2, LeO (corebankref01_ScaleP.j0 k y0 y1 y2) (corebankref01_ScaleP.j0 (k + 1) y0 y1 y2))
 | 0 => fun _ _ _ r h => by simp [corebankref01_ScaleP.j0] at h
 | k + 1 => by
  have ih0 := corebankref01_ScaleP.mono_l k
  ·intro y0 y1 y2
   unfold corebankref01_ScaleP.j0
   repeat' first
   | (with_reducible exact ih0 _ _ _)
   | (with_reducible exact LeO.refl _)
   | (with_reducible exact LeO.none _)
   | (with_reducible refine LeO.ite ?_ ?_)
   | (with_reducible refine LeO.bind ?_ (fun _ => ?_))
   | exact ih0 _ _ _
   | exact LeO.none _
   | refine LeO.ite ?_ ?_
   | refine LeO.bind ?_ (fun _ => ?_)
theorem corebankref01_ScaleP.mono : ∀ a0 a1 a2 k, LeO (corebankref01_ScaleP.f k a0 a1 a2) (corebankref01_ScaleP.f (k + 1) a0 a1 a2) := by
 intro a0 a1 a2 k
 have ih0 := corebankref01_ScaleP.mono_l k
 unfold corebankref01_ScaleP.f
 repeat' first
   | (with_reducible exact ih0 _ _ _)
   | (with_reducible exact LeO.refl _)
   | (with_reducible exact LeO.none _)
   | (with_reducible refine LeO.ite ?_ ?_)
   | (with_reducible refine LeO.bind ?_ (fun _ => ?_))
   | exact ih0 _ _ _
   | exact LeO.none _
   | refine LeO.ite ?_ ?_
   | refine LeO.bind ?_ (fun _ => ?_)
def corebankref01_ScaleP.T2 : Bool × List (List Nat × List Nat) := (true, [([], []), ([], []), ([1], [1]), ([0, 2, 2], [0, 2]), ([3], [3]), ([4], [4]), ([4], [4]), ([], []), ([7, 5, 3, 0, 1, 2, 3, 4, 5, 7], [5, 7]), ([6, 8, 0, 1, 2, 3, 4, 5, 6, 7, 8], [6])])
def corebankref01_ScaleP.B2 : List Nat := [0, 0, 2, 7, 15, 31, 31, 0, 191, 511]
theorem corebankref01_ScaleP.tab2 : rtab .any (opsOf Tryd.f64 2) = corebankref01_ScaleP.T2 := by kernel_rfl
theorem corebankref01_ScaleP.bits2 : waitsOk corebankref01_ScaleP.T2.2 corebankref01_ScaleP.B2 = true := by kernel_rfl
set_option maxHeartbeats 8000000 in
set_option maxRecDepth 100000 in
theorem corebankref01_ScaleP.calls (k : Nat) (a0_0 a0_1 a1 r1 r2 r3 : Int) (w : World) (h : corebankref01_ScaleP.f k a0_0 a0_1 a1 = some (r1, r2, r3)) :
  Calls Tryd.prog 64 #[.agg #[.int .i64 a0_0, .int .u64 a0_1], .int .i64 a1] w fun e w' => e = .returned (.tuple #[.agg #[.int .i64 r1, .int .u64 r2], .int .i64 r3]) ∧ Below w.heap.size w w' := by
 have hu63 := Tryd.underlying63
 have hu96 := Tryd.underlying96
 have HB := Aside0.mk (Below.refl w.heap.size w)
 have H : ((corebankref01_Split.f a0_0 a0_1).bind fun bt386 => ((corebankref01_size.f a1).bind fun t390 => ((corebankref01_times.f bt386.2.1 bt386.2.2 t390).bind fun bt391 => ((corebankref01_Join.f (bt386.1 != (decide (a1 < 0))) bt391.1 bt391.2.1).bind fun bt395 => (if bt391.2.2 = true then (corebankref01_ScaleP.j0 k (!bt395.2.2) bt395.1 bt395.2.1) else (corebankref01_ScaleP.j0 k true bt395.1 bt395.2.1)))))) = some (r1, r2, r3) := h
 clear h
 replace H := Option.bind_eq_some_iff.mp H
 obtain ⟨⟨t386, t387, t388⟩, A30, H⟩ := H
 replace H : ((corebankref01_size.f a1).bind fun t390 => ((corebankref01_times.f t387 t388 t390).bind fun bt391 => ((corebankref01_Join.f (t386 != (decide (a1 < 0))) bt391.1 bt391.2.1).bind fun bt395 => (if bt391.2.2 = true then (corebankref01_ScaleP.j0 k (!bt395.2.2) bt395.1 bt395.2.1) else (corebankref01_ScaleP.j0 k true bt395.1 bt395.2.1))))) = some (r1, r2, r3) := H
 have A3 := Aside0.mk A30
 clear A30
 replace H := Option.bind_eq_some_iff.mp H
 obtain ⟨t390, A40, H⟩ := H
 replace H : ((corebankref01_times.f t387 t388 t390).bind fun bt391 => ((corebankref01_Join.f (t386 != (decide (a1 < 0))) bt391.1 bt391.2.1).bind fun bt395 => (if bt391.2.2 = true then (corebankref01_ScaleP.j0 k (!bt395.2.2) bt395.1 bt395.2.1) else (corebankref01_ScaleP.j0 k true bt395.1 bt395.2.1)))) = some (r1, r2, r3) := H
 have A4 := Aside0.mk A40
 clear A40
 replace H := Option.bind_eq_some_iff.mp H
 obtain ⟨⟨t391, t392, t393⟩, A50, H⟩ := H
 replace H : ((corebankref01_Join.f (t386 != (decide (a1 < 0))) t391 t392).bind fun bt395 => (if t393 = true then (corebankref01_ScaleP.j0 k (!bt395.2.2) bt395.1 bt395.2.1) else (corebankref01_ScaleP.j0 k true bt395.1 bt395.2.1))) = some (r1, r2, r3) := H
 have A5 := Aside0.mk A50
 clear A50
 replace H := Option.bind_eq_some_iff.mp H
 obtain ⟨⟨t395, t396, t397⟩, A60, H⟩ := H
 replace H : (if t393 = true then (corebankref01_ScaleP.j0 k (!t397) t395 t396) else (corebankref01_ScaleP.j0 k true t395 t396)) = some (r1, r2, r3) := H
 have A6 := Aside0.mk A60
 clear A60
 have HC7 := Aside0.mk H
 clear H
 go_enter Tryd.func64, Tryd.ntmps64
 try go_wp2_with (first | ((with_reducible refine gate_dst (N := 2) rfl ?_); refine be_ (N := 2) (cs := #[.int .i64 a0_0, .int .u64 a0_1]) (t := 63) ?_; intro gb384 hg w8 hbox hb; have n0_ := Aside0.mk (below_step (qb_ HB.out) hb); have n1_ := Aside0.mk (hbox); have n2_ := Aside0.mk (bz_ hg (qb_ HB.out) : w.heap.size ≤ gb384); have n3_ := n2_; clear HB; have HB := n0_; have BK384 := n1_; have GW384 := n2_; have GE384 := n3_; clear n0_ n1_ n2_ n3_; clear hb hbox hg) | ((with_reducible refine gate_dst (N := 4) rfl ?_); refine be_ (N := 4) (cs := #[.int .i64 0, .int .u64 0]) (t := 63) ?_; intro gb385 hg w9 hbox hb; have n0_ := Aside0.mk (blk_below (qk_ BK384.out) hb); have n1_ := Aside0.mk (below_step (qb1_ GE384.out HB.out) hb); have n2_ := Aside0.mk (hbox); have n3_ := Aside0.mk (bz_ hg (qb1_ GE384.out HB.out) : w.heap.size ≤ gb385); have n4_ := n3_; have n5_ := Aside0.mk (nl_ hg (qk_ BK384.out) : gb384 ≠ gb385); have n6_ := Aside0.mk (ng_ hg (qk_ BK384.out) : gb385 ≠ gb384); clear BK384; clear HB; have BK384 := n0_; have HB := n1_; have BK385 := n2_; have GW385 := n3_; have GE385 := n4_; have NB384_385 := n5_; have NB385_384 := n6_; clear n0_ n1_ n2_ n3_ n4_ n5_ n6_; clear hb hbox hg; have hnb10 := NB384_385.out; have hnc10 := NB385_384.out; obtain ⟨hcz11_0, hcz11_1, hfz11_0, hfz11_1⟩ := cz2_ BK384.out) | ((with_reducible refine gate_callee (f := 70) rfl ?_); refine goesL_ (some 14) rfl rfl Tryd.func70 (by kernel_rfl) rfl #[.agg #[.int .i64 a0_0, .int .u64 a0_1]] rfl ql_ ?_; (with_reducible refine (corebankref01_Split.calls a0_0 a0_1 t386 t387 t388 _ A3.out).mono ?_); rintro e w12 ⟨rfl, hb⟩; refine ⟨_, rfl, ?_⟩; have n0_ := Aside0.mk (blk_below (qk_ BK384.out) hb); have n1_ := Aside0.mk (blk_below (qk_ BK385.out) hb); have n2_ := Aside0.mk (below_step (qb2_ GE384.out GE385.out HB.out) hb); clear BK384; clear BK385; clear HB; have BK384 := n0_; have BK385 := n1_; have HB := n2_; clear n0_ n1_ n2_; (try clear hb); (try clear hb2); (try clear hk); (try clear hi)) | ((with_reducible refine gate_dst (N := 7) rfl ?_); refine be_ (N := 7) (cs := #[.int .u64 0, .int .u64 0]) (t := 96) ?_; intro gb389 hg w13 hbox hb; have n0_ := Aside0.mk (blk_below (qk_ BK384.out) hb); have n1_ := Aside0.mk (blk_below (qk_ BK385.out) hb); have n2_ := Aside0.mk (below_step (qb2_ GE384.out GE385.out HB.out) hb); have n3_ := Aside0.mk (hbox); have n4_ := Aside0.mk (bz_ hg (qb2_ GE384.out GE385.out HB.out) : w.heap.size ≤ gb389); have n5_ := n4_; have n6_ := Aside0.mk (nl_ hg (qk_ BK384.out) : gb384 ≠ gb389); have n7_ := Aside0.mk (ng_ hg (qk_ BK384.out) : gb389 ≠ gb384); have n8_ := Aside0.mk (nl_ hg (qk_ BK385.out) : gb385 ≠ gb389); have n9_ := Aside0.mk (ng_ hg (qk_ BK385.out) : gb389 ≠ gb385); clear BK384; clear BK385; clear HB; have BK384 := n0_; have BK385 := n1_; have HB := n2_; have BK389 := n3_; have GW389 := n4_; have GE389 := n5_; have NB384_389 := n6_; have NB389_384 := n7_; have NB385_389 := n8_; have NB389_385 := n9_; clear n0_ n1_ n2_ n3_ n4_ n5_ n6_ n7_ n8_ n9_; clear hb hbox hg; have hnb14 := NB389_384.out; have hnc14 := NB384_389.out; have hnb15 := NB389_385.out; have hnc15 := NB385_389.out; obtain ⟨hcz16_0, hcz16_1, hfz16_0, hfz16_1⟩ := cz2_ BK389.out))
 have n0_ : Aside0 (((w13.setCell ⟨gb389, 0, none⟩ (.int .u64 t387)).setCell ⟨gb389, 1, none⟩ (.int .u64 t388)).heap[gb384]? = some (.cells #[.int .i64 a0_0, .int .u64 a0_1] 63 (0, 0))) := ⟨qff_ NB384_389.out NB384_389.out BK384.out⟩
 have n1_ : Aside0 (((w13.setCell ⟨gb389, 0, none⟩ (.int .u64 t387)).setCell ⟨gb389, 1, none⟩ (.int .u64 t388)).heap[gb385]? = some (.cells #[.int .i64 0, .int .u64 0] 63 (0, 0))) := ⟨qff_ NB385_389.out NB385_389.out BK385.out⟩
 have n2_ : Aside0 (((w13.setCell ⟨gb389, 0, none⟩ (.int .u64 t387)).setCell ⟨gb389, 1, none⟩ (.int .u64 t388)).heap[gb389]? = some (.cells #[.int .u64 t387, .int .u64 t388] 96 (0, 0))) := ⟨qpp_ #[.int .u64 t387, .int .u64 0] 1 #[.int .u64 0, .int .u64 0] 0 BK389.out⟩
 have n3_ : Aside0 (Below w.heap.size w ((w13.setCell ⟨gb389, 0, none⟩ (.int .u64 t387)).setCell ⟨gb389, 1, none⟩ (.int .u64 t388))) := ⟨qb3_ GE384.out GE385.out GE389.out HB.out⟩
 (try clear BK384)
 (try clear BK385)
 (try clear BK389)
 (try clear HB)
 generalize ((w13.setCell ⟨gb389, 0, none⟩ (.int .u64 t387)).setCell ⟨gb389, 1, none⟩ (.int .u64 t388)) = w17 at n0_ n1_ n2_ n3_ ⊢
 have BK384 := n0_
 have BK385 := n1_
 have BK389 := n2_
 have HB := n3_
 clear n0_ n1_ n2_ n3_
 have n0_ := Aside0.mk (blk_drew BK384.out)
 have n1_ := Aside0.mk (blk_drew BK385.out)
 have n2_ := Aside0.mk (blk_drew BK389.out)
 have n3_ := Aside0.mk (below_drew1 HB.out)
 clear BK384
 clear BK385
 clear BK389
 clear HB
 have BK384 := n0_
 have BK385 := n1_
 have BK389 := n2_
 have HB := n3_
 clear n0_ n1_ n2_ n3_
 refine start_ (n := 10) (S := fun w' => w'.cell? ⟨gb389, 0, none⟩ = some (.int .u64 t387) ∧ w'.cell? ⟨gb389, 1, none⟩ = some (.int .u64 t388)) (ds := []) (nb_ 10 0) (by kernel_rfl) rfl rfl (cc2_ BK389.out) (fun hHeld => ?_); refine with_tabW corebankref01_ScaleP.tab2 corebankref01_ScaleP.bits2 (fun HT_ HW_ => ?_)
 generalize w17.drew = w18 at BK384 BK385 BK389 HB hHeld ⊢
 refine pz_ 1 19 (nb_ 10 2) HT_.out ?_
 refine tk2_ 0 18 (nb_ 10 3) HT_.out HW_.out hHeld ?_
 refine join_ (σ := Nat) 2 (nb_ 10 255) (fun s_ => [(20, .int .u64 t390), (21, .tuple #[.agg #[.int .u64 t391, .int .u64 t392], .bool t393]), (8, .pointer (some ⟨s_, 0, none⟩)), (17, .tuple #[.agg #[.int .u64 t391, .int .u64 t392], .bool t393]), (22, .agg #[.int .u64 t391, .int .u64 t392]), (23, .bool t393)]) (fun s_ w' => (w'.cell? ⟨gb389, 0, none⟩ = some (.int .u64 t387) ∧ w'.cell? ⟨gb389, 1, none⟩ = some (.int .u64 t388)) ∧ (w'.heap[gb384]? = some (.cells #[.int .i64 a0_0, .int .u64 a0_1] 63 (0, 0))) ∧ (w'.heap[gb385]? = some (.cells #[.int .i64 0, .int .u64 0] 63 (0, 0))) ∧ (w'.heap[gb389]? = some (.cells #[.int .u64 t387, .int .u64 t388] 96 (0, 0))) ∧ (w'.heap[s_]? = some (.cells #[.int .u64 0, .int .u64 0] 96 (0, 0))) ∧ (w.heap.size ≤ s_) ∧ (w.heap.size ≤ s_) ∧ (gb384 ≠ s_) ∧ (s_ ≠ gb384) ∧ (gb385 ≠ s_) ∧ (s_ ≠ gb385) ∧ (gb389 ≠ s_) ∧ (s_ ≠ gb389) ∧ (Below w.heap.size w w')) ?_ ?_
 rotate_left
 ·intro hCont
  refine two_ (i := 2) (j := 7) (Ni := some 20) (Nj := some 8) (nb_ 10 7) (nb_ 10 131) rfl rfl rfl rfl (two_of HT_.out (by kernel_rfl)) (by decide) (by decide) (fun K hK => ?_) (fun K hK => ?_)
  ·skip
   refine goes_ Tryd.func76 (by kernel_rfl) rfl #[.int .i64 a1] (by rfl) rfl rfl ql_ ?_
   with_reducible refine (corebankref01_size.calls a1 t390 _ A4.out).mono ?_
   rintro e w' ⟨rfl, ⟨nd, rfl⟩⟩
   refine ⟨_, rfl, ?_⟩
   refine hK.out _ _ (cc2_ BK389.out) (fun hHeld => ?_)
   clear hK K
   refine no_ ?_
   refine two_ (i := 3) (j := 7) (Ni := some 21) (Nj := some 8) (nb_ 10 15) (nb_ 10 135) rfl rfl rfl rfl (two_of HT_.out (by kernel_rfl)) (by decide) (by decide) (fun K hK => ?_) (fun K hK => ?_)
   ·skip
    refine goes_ Tryd.func75 (by kernel_rfl) rfl #[.agg #[.int .u64 t387, .int .u64 t388], .int .u64 t390] (by rfl) rfl rfl ql_ ?_
    with_reducible refine (corebankref01_times.calls t387 t388 t390 t391 t392 t393 _ A5.out).mono ?_
    rintro e w19 ⟨rfl, hb⟩
    refine ⟨_, rfl, ?_⟩
    have n0_ := Aside0.mk (blk_below (qk_ BK384.out) hb)
    have n1_ := Aside0.mk (blk_below (qk_ BK385.out) hb)
    have n2_ := Aside0.mk (blk_below (qk_ BK389.out) hb)
    have n3_ := Aside0.mk (below_step (qb3_ GE384.out GE385.out GE389.out HB.out) hb)
    clear BK384
    clear BK385
    clear BK389
    clear HB
    have BK384 := n0_
    have BK385 := n1_
    have BK389 := n2_
    have HB := n3_
    clear n0_ n1_ n2_ n3_
    (try clear hb)
    (try clear hb2)
    (try clear hk)
    (try clear hi)
    refine hK.out _ _ (cc2_ BK389.out) (fun hHeld => ?_)
    clear hK K
    refine no_ ?_
    refine pz_ 4 17 (nb_ 10 31) HT_.out ?_
    refine pz_ 5 22 (nb_ 10 63) HT_.out ?_
    refine pz_ 6 23 (nb_ 10 127) HT_.out ?_
    refine on_ 7 8 (nb_ 10 255) HT_.out (fun K hK => ?_)
    refine box_step ?hg (N := 8) ?hd (cs := #[.int .u64 0, .int .u64 0]) (t := 96) ?hr ?_; (case hd => rfl); (case hg => rfl); (case hr => first | (go_simp; done) | (go_simp; rfl))
    intro gb394 hg w20 hbox hb
    have n0_ := Aside0.mk (blk_below (qk_ BK384.out) hb)
    have n1_ := Aside0.mk (blk_below (qk_ BK385.out) hb)
    have n2_ := Aside0.mk (blk_below (qk_ BK389.out) hb)
    have n3_ := Aside0.mk (below_step (qb3_ GE384.out GE385.out GE389.out HB.out) hb)
    have n4_ := Aside0.mk (hbox)
    have n5_ := Aside0.mk (bz_ hg (qb3_ GE384.out GE385.out GE389.out HB.out) : w.heap.size ≤ gb394)
    have n6_ := Aside0.mk (bz_ hg (qb3_ GE384.out GE385.out GE389.out HB.out) : w.heap.size ≤ gb394)
    have n7_ := Aside0.mk (nl_ hg (qk_ BK384.out) : gb384 ≠ gb394)
    have n8_ := Aside0.mk (ng_ hg (qk_ BK384.out) : gb394 ≠ gb384)
    have n9_ := Aside0.mk (nl_ hg (qk_ BK385.out) : gb385 ≠ gb394)
    have n10_ := Aside0.mk (ng_ hg (qk_ BK385.out) : gb394 ≠ gb385)
    have n11_ := Aside0.mk (nl_ hg (qk_ BK389.out) : gb389 ≠ gb394)
    have n12_ := Aside0.mk (ng_ hg (qk_ BK389.out) : gb394 ≠ gb389)
    clear BK384
    clear BK385
    clear BK389
    clear HB
    have BK384 := n0_
    have BK385 := n1_
    have BK389 := n2_
    have HB := n3_
    have BK394 := n4_
    have GW394 := n5_
    have GE394 := n6_
    have NB384_394 := n7_
    have NB394_384 := n8_
    have NB385_394 := n9_
    have NB394_385 := n10_
    have NB389_394 := n11_
    have NB394_389 := n12_
    clear n0_ n1_ n2_ n3_ n4_ n5_ n6_ n7_ n8_ n9_ n10_ n11_ n12_
    clear hb hbox hg
    refine hK.out _ _ (cc2_ BK389.out) (fun hHeld => ?_)
    clear hK K
    refine no_ ?_
    exact norm_ (by simp only [putAll, Act.put, List.setIfInBounds_toArray, List.set_cons_zero, List.set_cons_succ]) (hCont (gb394) _ ⟨hHeld, (qk_ BK384.out), (qk_ BK385.out), (qk_ BK389.out), (qk_ BK394.out), GW394.out, GE394.out, NB384_394.out, NB394_384.out, NB385_394.out, NB394_385.out, NB389_394.out, NB394_389.out, (qb4_ GE384.out GE385.out GE389.out GE394.out HB.out)⟩)
   ·skip
    refine box_step ?hg (N := 8) ?hd (cs := #[.int .u64 0, .int .u64 0]) (t := 96) ?hr ?_; (case hd => rfl); (case hg => rfl); (case hr => first | (go_simp; done) | (go_simp; rfl))
    intro gb394 hg w19 hbox hb
    have n0_ := Aside0.mk (blk_below (qk_ BK384.out) hb)
    have n1_ := Aside0.mk (blk_below (qk_ BK385.out) hb)
    have n2_ := Aside0.mk (blk_below (qk_ BK389.out) hb)
    have n3_ := Aside0.mk (below_step (qb3_ GE384.out GE385.out GE389.out HB.out) hb)
    have n4_ := Aside0.mk (hbox)
    have n5_ := Aside0.mk (bz_ hg (qb3_ GE384.out GE385.out GE389.out HB.out) : w.heap.size ≤ gb394)
    have n6_ := Aside0.mk (bz_ hg (qb3_ GE384.out GE385.out GE389.out HB.out) : w.heap.size ≤ gb394)
    have n7_ := Aside0.mk (nl_ hg (qk_ BK384.out) : gb384 ≠ gb394)
    have n8_ := Aside0.mk (ng_ hg (qk_ BK384.out) : gb394 ≠ gb384)
    have n9_ := Aside0.mk (nl_ hg (qk_ BK385.out) : gb385 ≠ gb394)
    have n10_ := Aside0.mk (ng_ hg (qk_ BK385.out) : gb394 ≠ gb385)
    have n11_ := Aside0.mk (nl_ hg (qk_ BK389.out) : gb389 ≠ gb394)
    have n12_ := Aside0.mk (ng_ hg (qk_ BK389.out) : gb394 ≠ gb389)
    clear BK384
    clear BK385
    clear BK389
    clear HB
    have BK384 := n0_
    have BK385 := n1_
    have BK389 := n2_
    have HB := n3_
    have BK394 := n4_
    have GW394 := n5_
    have GE394 := n6_
    have NB384_394 := n7_
    have NB394_384 := n8_
    have NB385_394 := n9_
    have NB394_385 := n10_
    have NB389_394 := n11_
    have NB394_389 := n12_
    clear n0_ n1_ n2_ n3_ n4_ n5_ n6_ n7_ n8_ n9_ n10_ n11_ n12_
    clear hb hbox hg
    refine hK.out _ _ (cc2_ BK389.out) (fun hHeld => ?_)
    clear hK K
    refine no_ ?_
    refine on_ 3 21 (nb_ 10 143) HT_.out (fun K hK => ?_)
    refine goes_ Tryd.func75 (by kernel_rfl) rfl #[.agg #[.int .u64 t387, .int .u64 t388], .int .u64 t390] (by rfl) rfl rfl ql_ ?_
    with_reducible refine (corebankref01_times.calls t387 t388 t390 t391 t392 t393 _ A5.out).mono ?_
    rintro e w20 ⟨rfl, hb⟩
    refine ⟨_, rfl, ?_⟩
    have n0_ := Aside0.mk (blk_below (qk_ BK384.out) hb)
    have n1_ := Aside0.mk (blk_below (qk_ BK385.out) hb)
    have n2_ := Aside0.mk (blk_below (qk_ BK389.out) hb)
    have n3_ := Aside0.mk (blk_below (qk_ BK394.out) hb)
    have n4_ := Aside0.mk (below_step (qb4_ GE384.out GE385.out GE389.out GE394.out HB.out) hb)
    clear BK384
    clear BK385
    clear BK389
    clear BK394
    clear HB
    have BK384 := n0_
    have BK385 := n1_
    have BK389 := n2_
    have BK394 := n3_
    have HB := n4_
    clear n0_ n1_ n2_ n3_ n4_
    (try clear hb)
    (try clear hb2)
    (try clear hk)
    (try clear hi)
    refine hK.out _ _ (cc2_ BK389.out) (fun hHeld => ?_)
    clear hK K
    refine no_ ?_
    refine pz_ 4 17 (nb_ 10 159) HT_.out ?_
    refine pz_ 5 22 (nb_ 10 191) HT_.out ?_
    refine pz_ 6 23 (nb_ 10 255) HT_.out ?_
    exact norm_ (by simp only [putAll, Act.put, List.setIfInBounds_toArray, List.set_cons_zero, List.set_cons_succ]) (hCont (gb394) _ ⟨hHeld, (qk_ BK384.out), (qk_ BK385.out), (qk_ BK389.out), (qk_ BK394.out), GW394.out, GE394.out, NB384_394.out, NB394_384.out, NB385_394.out, NB394_385.out, NB389_394.out, NB394_389.out, (qb4_ GE384.out GE385.out GE389.out GE394.out HB.out)⟩)
  ·skip
   refine box_step ?hg (N := 8) ?hd (cs := #[.int .u64 0, .int .u64 0]) (t := 96) ?hr ?_; (case hd => rfl); (case hg => rfl); (case hr => first | (go_simp; done) | (go_simp; rfl))
   intro gb394 hg w19 hbox hb
   have n0_ := Aside0.mk (blk_below (qk_ BK384.out) hb)
   have n1_ := Aside0.mk (blk_below (qk_ BK385.out) hb)
   have n2_ := Aside0.mk (blk_below (qk_ BK389.out) hb)
   have n3_ := Aside0.mk (below_step (qb3_ GE384.out GE385.out GE389.out HB.out) hb)
   have n4_ := Aside0.mk (hbox)
   have n5_ := Aside0.mk (bz_ hg (qb3_ GE384.out GE385.out GE389.out HB.out) : w.heap.size ≤ gb394)
   have n6_ := Aside0.mk (bz_ hg (qb3_ GE384.out GE385.out GE389.out HB.out) : w.heap.size ≤ gb394)
   have n7_ := Aside0.mk (nl_ hg (qk_ BK384.out) : gb384 ≠ gb394)
   have n8_ := Aside0.mk (ng_ hg (qk_ BK384.out) : gb394 ≠ gb384)
   have n9_ := Aside0.mk (nl_ hg (qk_ BK385.out) : gb385 ≠ gb394)
   have n10_ := Aside0.mk (ng_ hg (qk_ BK385.out) : gb394 ≠ gb385)
   have n11_ := Aside0.mk (nl_ hg (qk_ BK389.out) : gb389 ≠ gb394)
   have n12_ := Aside0.mk (ng_ hg (qk_ BK389.out) : gb394 ≠ gb389)
   clear BK384
   clear BK385
   clear BK389
   clear HB
   have BK384 := n0_
   have BK385 := n1_
   have BK389 := n2_
   have HB := n3_
   have BK394 := n4_
   have GW394 := n5_
   have GE394 := n6_
   have NB384_394 := n7_
   have NB394_384 := n8_
   have NB385_394 := n9_
   have NB394_385 := n10_
   have NB389_394 := n11_
   have NB394_389 := n12_
   clear n0_ n1_ n2_ n3_ n4_ n5_ n6_ n7_ n8_ n9_ n10_ n11_ n12_
   clear hb hbox hg
   refine hK.out _ _ (cc2_ BK389.out) (fun hHeld => ?_)
   clear hK K
   refine no_ ?_
   refine on_ 2 20 (nb_ 10 135) HT_.out (fun K hK => ?_)
   refine goes_ Tryd.func76 (by kernel_rfl) rfl #[.int .i64 a1] (by rfl) rfl rfl ql_ ?_
   with_reducible refine (corebankref01_size.calls a1 t390 _ A4.out).mono ?_
   rintro e w' ⟨rfl, ⟨nd, rfl⟩⟩
   refine ⟨_, rfl, ?_⟩
   refine hK.out _ _ (cc2_ BK389.out) (fun hHeld => ?_)
   clear hK K
   refine no_ ?_
   refine on_ 3 21 (nb_ 10 143) HT_.out (fun K hK => ?_)
   refine goes_ Tryd.func75 (by kernel_rfl) rfl #[.agg #[.int .u64 t387, .int .u64 t388], .int .u64 t390] (by rfl) rfl rfl ql_ ?_
   with_reducible refine (corebankref01_times.calls t387 t388 t390 t391 t392 t393 _ A5.out).mono ?_
   rintro e w20 ⟨rfl, hb⟩
   refine ⟨_, rfl, ?_⟩
   have n0_ := Aside0.mk (blk_below (qk_ BK384.out) hb)
   have n1_ := Aside0.mk (blk_below (qk_ BK385.out) hb)
   have n2_ := Aside0.mk (blk_below (qk_ BK389.out) hb)
   have n3_ := Aside0.mk (blk_below (qk_ BK394.out) hb)
   have n4_ := Aside0.mk (below_step (qb4_ GE384.out GE385.out GE389.out GE394.out HB.out) hb)
   clear BK384
   clear BK385
   clear BK389
   clear BK394
   clear HB
   have BK384 := n0_
   have BK385 := n1_
   have BK389 := n2_
   have BK394 := n3_
   have HB := n4_
   clear n0_ n1_ n2_ n3_ n4_
   (try clear hb)
   (try clear hb2)
   (try clear hk)
   (try clear hi)
   refine hK.out _ _ (cc2_ BK389.out) (fun hHeld => ?_)
   clear hK K
   refine no_ ?_
   refine pz_ 4 17 (nb_ 10 159) HT_.out ?_
   refine pz_ 5 22 (nb_ 10 191) HT_.out ?_
   refine pz_ 6 23 (nb_ 10 255) HT_.out ?_
   exact norm_ (by simp only [putAll, Act.put, List.setIfInBounds_toArray, List.set_cons_zero, List.set_cons_succ]) (hCont (gb394) _ ⟨hHeld, (qk_ BK384.out), (qk_ BK385.out), (qk_ BK389.out), (qk_ BK394.out), GW394.out, GE394.out, NB384_394.out, NB394_384.out, NB385_394.out, NB394_385.out, NB389_394.out, NB394_389.out, (qb4_ GE384.out GE385.out GE389.out GE394.out HB.out)⟩)
 rintro gb394 w21 ⟨hS_, h0_, h1_, h2_, h3_, h4_, h5_, h6_, h7_, h8_, h9_, h10_, h11_, h12_⟩
 have n0_ : Aside0 (w21.heap[gb384]? = some (.cells #[.int .i64 a0_0, .int .u64 a0_1] 63 (0, 0))) := ⟨h0_⟩
 have n1_ : Aside0 (w21.heap[gb385]? = some (.cells #[.int .i64 0, .int .u64 0] 63 (0, 0))) := ⟨h1_⟩
 have n2_ : Aside0 (w21.heap[gb389]? = some (.cells #[.int .u64 t387, .int .u64 t388] 96 (0, 0))) := ⟨h2_⟩
 have n3_ : Aside0 (w21.heap[gb394]? = some (.cells #[.int .u64 0, .int .u64 0] 96 (0, 0))) := ⟨h3_⟩
 have n4_ : Aside0 (w.heap.size ≤ gb394) := ⟨h4_⟩
 have n5_ : Aside0 (w.heap.size ≤ gb394) := ⟨h5_⟩
 have n6_ : Aside0 (gb384 ≠ gb394) := ⟨h6_⟩
 have n7_ : Aside0 (gb394 ≠ gb384) := ⟨h7_⟩
 have n8_ : Aside0 (gb385 ≠ gb394) := ⟨h8_⟩
 have n9_ : Aside0 (gb394 ≠ gb385) := ⟨h9_⟩
 have n10_ : Aside0 (gb389 ≠ gb394) := ⟨h10_⟩
 have n11_ : Aside0 (gb394 ≠ gb389) := ⟨h11_⟩
 have n12_ : Aside0 (Below w.heap.size w w21) := ⟨h12_⟩
 clear BK384
 clear BK385
 clear BK389
 clear HB
 clear h0_ h1_ h2_ h3_ h4_ h5_ h6_ h7_ h8_ h9_ h10_ h11_ h12_
 have BK384 := n0_
 have BK385 := n1_
 have BK389 := n2_
 have BK394 := n3_
 have GW394 := n4_
 have GE394 := n5_
 have NB384_394 := n6_
 have NB394_384 := n7_
 have NB385_394 := n8_
 have NB394_385 := n9_
 have NB389_394 := n10_
 have NB394_389 := n11_
 have HB := n12_
 clear n0_ n1_ n2_ n3_ n4_ n5_ n6_ n7_ n8_ n9_ n10_ n11_ n12_
 have hHeld : w21.cell? ⟨gb389, 0, none⟩ = some (.int .u64 t387) ∧ w21.cell? ⟨gb389, 1, none⟩ = some (.int .u64 t388) := hS_
 refine norm_ (a' := ?_) ?_ ?_
 rotate_left
 ·simp only [putAll, Act.put, List.setIfInBounds_toArray, List.set_cons_zero, List.set_cons_succ]
  rfl
 refine one_ (i := 8) (N := none) (nb_ 10 511) rfl rfl (one_of HT_.out (by kernel_rfl)) (by decide) (fun K hK => ?_)
 have hs22 : w21.cell? ⟨gb394, 0, none⟩ = some (.int .u64 0) := (blk_cell BK394.out 0).trans rfl
 have hfs22 := blk_frozen BK394.out 0
 have hns22_0 := NB384_394.out
 have hns22_1 := NB385_394.out
 have hns22_2 := NB389_394.out
 have hms22_0 := NB394_384.out
 have hms22_1 := NB394_385.out
 have hms22_2 := NB394_389.out
 have hs23 : w21.cell? ⟨gb394, 1, none⟩ = some (.int .u64 0) := (blk_cell BK394.out 1).trans rfl
 have hfs23 := blk_frozen BK394.out 1
 have hns23_0 := NB384_394.out
 have hns23_1 := NB385_394.out
 have hns23_2 := NB389_394.out
 have hms23_0 := NB394_384.out
 have hms23_1 := NB394_385.out
 have hms23_2 := NB394_389.out
 refine skip_ (w1 := ?_) (by rfl) rfl ?_ ?_
 rotate_left
 ·go_simp
  rfl
 refine hK.out _ _ ⟨((cell_far (p := ⟨gb394, _, none⟩) NB389_394.out _).trans (((cell_far (p := ⟨gb394, _, none⟩) NB389_394.out _).trans (hHeld.1)))), ((cell_far (p := ⟨gb394, _, none⟩) NB389_394.out _).trans (((cell_far (p := ⟨gb394, _, none⟩) NB389_394.out _).trans (hHeld.2))))⟩ (fun hHeld => ?_)
 clear hK K
 refine pz_ 9 9 (nb_ 10 1023) HT_.out ?_
 refine done_ (done_of HT_.out (by kernel_rfl)) ?_
 have hnb24 := NB394_384.out
 have hnc24 := NB384_394.out
 have hnb25 := NB394_385.out
 have hnc25 := NB385_394.out
 have hnb26 := NB394_389.out
 have hnc26 := NB389_394.out
 obtain ⟨hcz27_0, hcz27_1, hfz27_0, hfz27_1⟩ := cz2_ BK394.out
 go_upto_region 4 with (first | ((with_reducible refine gate_callee (f := 73) rfl ?_); refine goesL_ (some 30) rfl rfl Tryd.func73 (by kernel_rfl) rfl #[.bool (t386 != (decide (a1 < 0))), .agg #[.int .u64 t391, .int .u64 t392]] rfl ql_ ?_; (with_reducible refine (corebankref01_Join.calls (t386 != (decide (a1 < 0))) t391 t392 t395 t396 t397 _ A6.out).mono ?_); rintro e w28 ⟨rfl, hb⟩; refine ⟨_, rfl, ?_⟩; have n0_ := Aside0.mk (blk_below (g := gb384) (o := .cells #[.int .i64 a0_0, .int .u64 a0_1] 63 (0, 0)) (qff_ NB384_394.out NB384_394.out BK384.out) hb); have n1_ := Aside0.mk (blk_below (g := gb385) (o := .cells #[.int .i64 0, .int .u64 0] 63 (0, 0)) (qff_ NB385_394.out NB385_394.out BK385.out) hb); have n2_ := Aside0.mk (blk_below (g := gb389) (o := .cells #[.int .u64 t387, .int .u64 t388] 96 (0, 0)) (qff_ NB389_394.out NB389_394.out BK389.out) hb); have n3_ := Aside0.mk (blk_below (g := gb394) (o := .cells #[.int .u64 t391, .int .u64 t392] 96 (0, 0)) (qpp_ #[.int .u64 t391, .int .u64 0] 1 #[.int .u64 0, .int .u64 0] 0 BK394.out) hb); have n4_ := Aside0.mk (below_step (qb4_ GE384.out GE385.out GE389.out GE394.out HB.out) hb); clear BK384; clear BK385; clear BK389; clear BK394; clear HB; have BK384 := n0_; have BK385 := n1_; have BK389 := n2_; have BK394 := n3_; have HB := n4_; clear n0_ n1_ n2_ n3_ n4_; (try clear hb); (try clear hb2); (try clear hk); (try clear hi)) | ((with_reducible refine gate_dst (N := 10) rfl ?_); refine be_ (N := 10) (cs := #[.int .i64 0, .int .u64 0]) (t := 63) ?_; intro gb398 hg w29 hbox hb; have n0_ := Aside0.mk (blk_below (qk_ BK384.out) hb); have n1_ := Aside0.mk (blk_below (qk_ BK385.out) hb); have n2_ := Aside0.mk (blk_below (qk_ BK389.out) hb); have n3_ := Aside0.mk (blk_below (qk_ BK394.out) hb); have n4_ := Aside0.mk (below_step (qb4_ GE384.out GE385.out GE389.out GE394.out HB.out) hb); have n5_ := Aside0.mk (hbox); have n6_ := Aside0.mk (bz_ hg (qb4_ GE384.out GE385.out GE389.out GE394.out HB.out) : w.heap.size ≤ gb398); have n7_ := n6_; have n8_ := Aside0.mk (nl_ hg (qk_ BK384.out) : gb384 ≠ gb398); have n9_ := Aside0.mk (ng_ hg (qk_ BK384.out) : gb398 ≠ gb384); have n10_ := Aside0.mk (nl_ hg (qk_ BK385.out) : gb385 ≠ gb398); have n11_ := Aside0.mk (ng_ hg (qk_ BK385.out) : gb398 ≠ gb385); have n12_ := Aside0.mk (nl_ hg (qk_ BK389.out) : gb389 ≠ gb398); have n13_ := Aside0.mk (ng_ hg (qk_ BK389.out) : gb398 ≠ gb389); have n14_ := Aside0.mk (nl_ hg (qk_ BK394.out) : gb394 ≠ gb398); have n15_ := Aside0.mk (ng_ hg (qk_ BK394.out) : gb398 ≠ gb394); clear BK384; clear BK385; clear BK389; clear BK394; clear HB; have BK384 := n0_; have BK385 := n1_; have BK389 := n2_; have BK394 := n3_; have HB := n4_; have BK398 := n5_; have GW398 := n6_; have GE398 := n7_; have NB384_398 := n8_; have NB398_384 := n9_; have NB385_398 := n10_; have NB398_385 := n11_; have NB389_398 := n12_; have NB398_389 := n13_; have NB394_398 := n14_; have NB398_394 := n15_; clear n0_ n1_ n2_ n3_ n4_ n5_ n6_ n7_ n8_ n9_ n10_ n11_ n12_ n13_ n14_ n15_; clear hb hbox hg; have hnb30 := NB398_384.out; have hnc30 := NB384_398.out; have hnb31 := NB398_385.out; have hnc31 := NB385_398.out; have hnb32 := NB398_389.out; have hnc32 := NB389_398.out; have hnb33 := NB398_394.out; have hnc33 := NB394_398.out; obtain ⟨hcz34_0, hcz34_1, hfz34_0, hfz34_1⟩ := cz2_ BK398.out))
 (try simp only [Act.put, List.setIfInBounds_toArray, List.set_cons_zero, List.set_cons_succ])
 go_cut [38] (fun v38 wc => ∃ (kq : Nat) (x38_6 : Bool), v38 = .bool x38_6 ∧ Aside0 (corebankref01_ScaleP.j0 kq x38_6 t395 t396 = some (r1, r2, r3)) ∧ Aside0 (kq ≤ k) ∧ Aside0 (wc.heap[gb384]? = some (.cells #[.int .i64 a0_0, .int .u64 a0_1] 63 (0, 0))) ∧ Aside0 (wc.heap[gb385]? = some (.cells #[.int .i64 0, .int .u64 0] 63 (0, 0))) ∧ Aside0 (wc.heap[gb389]? = some (.cells #[.int .u64 t387, .int .u64 t388] 96 (0, 0))) ∧ Aside0 (wc.heap[gb394]? = some (.cells #[.int .u64 t391, .int .u64 t392] 96 (0, 0))) ∧ Aside0 (wc.heap[gb398]? = some (.cells #[.int .i64 t395, .int .u64 t396] 63 (0, 0))) ∧ Aside0 (Below w.heap.size w wc))
 case first =>
  have H := HC7.out
  clear HC7
  by_cases c35 : t393 = true
  ·subst c35
   have H1 : (corebankref01_ScaleP.j0 k (!t397) t395 t396) = some (r1, r2, r3) := by rw [if_pos rfl] at H; exact H
   clear H
   have H := H1
   clear H1
   have H' := Aside0.mk H
   clear H
   go_wp2
   go_meet
   case rel => exact ⟨_, (!t397), qs_, H', ⟨qo_⟩, ⟨qff_ NB384_398.out NB384_398.out BK384.out⟩, ⟨qff_ NB385_398.out NB385_398.out BK385.out⟩, ⟨qff_ NB389_398.out NB389_398.out BK389.out⟩, ⟨qff_ NB394_398.out NB394_398.out BK394.out⟩, ⟨qpp_ #[.int .i64 t395, .int .u64 0] 1 #[.int .i64 0, .int .u64 0] 0 BK398.out⟩, ⟨qb5_ GE384.out GE385.out GE389.out GE394.out GE398.out HB.out⟩⟩
  ·replace c35 := Bool.eq_false_iff.mpr c35
   subst c35
   have H1 : (corebankref01_ScaleP.j0 k true t395 t396) = some (r1, r2, r3) := by rw [if_neg (show ¬ (false = true) by decide)] at H; exact H
   clear H
   have H := H1
   clear H1
   have H' := Aside0.mk H
   clear H
   go_wp2
   go_meet
   case rel => exact ⟨_, (true), qs_, H', ⟨qo_⟩, ⟨qff_ NB384_398.out NB384_398.out BK384.out⟩, ⟨qff_ NB385_398.out NB385_398.out BK385.out⟩, ⟨qff_ NB389_398.out NB389_398.out BK389.out⟩, ⟨qff_ NB394_398.out NB394_398.out BK394.out⟩, ⟨qpp_ #[.int .i64 t395, .int .u64 0] 1 #[.int .i64 0, .int .u64 0] 0 BK398.out⟩, ⟨qb5_ GE384.out GE385.out GE389.out GE394.out GE398.out HB.out⟩⟩
 case rest =>
  clear HC7
  try clear c1
  try clear c2
  try clear p2
  try clear c3
  try clear c6
  try clear c7
  try clear c10
  try clear c14
  try clear c15
  try clear c24
  try clear c25
  try clear c26
  try clear c30
  try clear c31
  try clear c32
  try clear c33
  try clear c35
  try clear hcz11_0
  try clear hcz11_1
  try clear hcz16_0
  try clear hcz16_1
  try clear hcz27_0
  try clear hcz27_1
  try clear hcz34_0
  try clear hcz34_1
  try clear hfz11_0
  try clear hfz11_1
  try clear hfz16_0
  try clear hfz16_1
  try clear hfz27_0
  try clear hfz27_1
  try clear hfz34_0
  try clear hfz34_1
  obtain ⟨kq, x38_6, rfl, HA, HJ6, BK384, BK385, BK389, BK394, BK398, HB⟩ := hcut
  cases kq with
  | zero => exact absurd HA.out (by simp [corebankref01_ScaleP.j0])
  | succ kj6 =>
   have H := HA.out
   clear HA
   simp only [corebankref01_ScaleP.j0] at H
   by_cases c36 : x38_6 = true
   ·subst c36
    have H1 : (some (0, 0, 6)) = some (r1, r2, r3) := by rw [if_pos rfl] at H; exact H
    clear H
    have H := H1
    clear H1
    simp only [Option.some.injEq, Prod.mk.injEq] at H
    obtain ⟨rfl, rfl, rfl⟩ := H
    have hnb37 := NB385_384.out
    have hnc37 := NB384_385.out
    have hnb38 := NB385_389.out
    have hnc38 := NB389_385.out
    have hnb39 := NB385_394.out
    have hnc39 := NB394_385.out
    have hnb40 := NB385_398.out
    have hnc40 := NB398_385.out
    obtain ⟨hcz41_0, hcz41_1, hfz41_0, hfz41_1⟩ := cz2_ BK385.out
    go_wp2
    refine bodyPost_ret (results_ct rfl _ _ gb385 63 #[.int .i64 0, .int .u64 0] (0, 0) _ rfl (qpp_ #[.int .i64 0, .int .u64 0] 1 #[.int .i64 0, .int .u64 0] 0 BK385.out) Tryd.underlying63 rfl (by kernel_rfl)) rfl ?_
    exact ⟨qe_, qb5_ GE384.out GE385.out GE389.out GE394.out GE398.out HB.out⟩
   ·replace c36 := Bool.eq_false_iff.mpr c36
    subst c36
    have H1 : (some (t395, t396, 0)) = some (r1, r2, r3) := by rw [if_neg (show ¬ (false = true) by decide)] at H; exact H
    clear H
    have H := H1
    clear H1
    simp only [Option.some.injEq, Prod.mk.injEq] at H
    obtain ⟨rfl, rfl, rfl⟩ := H
    have hnb42 := NB398_384.out
    have hnc42 := NB384_398.out
    have hnb43 := NB398_385.out
    have hnc43 := NB385_398.out
    have hnb44 := NB398_389.out
    have hnc44 := NB389_398.out
    have hnb45 := NB398_394.out
    have hnc45 := NB394_398.out
    obtain ⟨hcz46_0, hcz46_1, hfz46_0, hfz46_1⟩ := cz2_ BK398.out
    have hnb47 := NB385_384.out
    have hnc47 := NB384_385.out
    have hnb48 := NB385_389.out
    have hnc48 := NB389_385.out
    have hnb49 := NB385_394.out
    have hnc49 := NB394_385.out
    obtain ⟨hcz50_0, hcz50_1, hfz50_0, hfz50_1⟩ := cz2_ BK385.out
    go_wp2
    refine bodyPost_ret (results_ct rfl _ _ gb385 63 #[.int .i64 t395, .int .u64 t396] (0, 0) _ rfl (qpp_ #[.int .i64 t395, .int .u64 0] 1 #[.int .i64 0, .int .u64 0] 0 BK385.out) Tryd.underlying63 rfl (by kernel_rfl)) rfl ?_
    exact ⟨qe_, qb5_ GE384.out GE385.out GE389.out GE394.out GE398.out HB.out⟩
end Go.Proofs.YtjkjiibhdpcpkaaDoor.PS
