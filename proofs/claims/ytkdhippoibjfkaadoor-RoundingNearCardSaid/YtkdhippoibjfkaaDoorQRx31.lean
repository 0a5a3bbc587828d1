import Derived.Test.YtkdhippoibjfkaaDoorQRm2
import Derived.Test.YtkdhippoibjfkaaDoorQRm5
import Derived.Test.YtkdhippoibjfkaaDoorQRm6
import Derived.Test.YtkdhippoibjfkaaDoorQRx30
namespace Go.Proofs.YtkdhippoibjfkaaDoor.PR
open Go.RowKit Go.Proofs.YtkdhippoibjfkaaDoorW.PrintWords Go.Proofs.YtkdhippoibjfkaaDoorW.PrintLast
set_option linter.unusedVariables false
set_option linter.unusedSimpArgs false
def corebankref01_ScaleP.j0 : Nat → Bool → Int → Int → Option (Int × Int × Int)
 | 0, _, _, _ => none
 | k + 1, x38, x383000, x383001 => if x38 = true then (some (0, 0, 6)) else (some (x383000, x383001, 0))
def corebankref01_ScaleP.f (k : Nat) (a0_0 : Int) (a0_1 : Int) (a1 : Int) : Option (Int × Int × Int) := (corebankref01_Split.f a0_0 a0_1).bind fun bt370 => ((corebankref01_size.f a1).bind fun t374 => ((corebankref01_times.f bt370.2.1 bt370.2.2 t374).bind fun bt375 => ((corebankref01_Join.f (bt370.1 != (decide (a1 < 0))) bt375.1 bt375.2.1).bind fun bt379 => (if bt375.2.2 = true then (corebankref01_ScaleP.j0 k (!bt379.2.2) bt379.1 bt379.2.1) else (corebankref01_ScaleP.j0 k true bt379.1 bt379.2.1)))))
theorem corebankref01_ScaleP.mono_l : ∀ k, (∀ y0 y1 y2, LeO (corebankref01_ScaleP.j0 k y0 y1 y2) (corebankref01_ScaleP.j0 (k + 1) y0 y1 y2))
 | 0 => fun _ _ _ r h => by simp [corebankref01_ScaleP.j0] at h
 | k + 1 => by
  have ih0 := corebankref01_ScaleP.mono_l k
  ·intro y0 y1 y2
   unfold corebankref01_ScaleP.j0
   repeat' first
   | (with_reducible exact ih0 _ _ _)
   | (with_reducible exact LeO.refl _)
   | (with_reducible exact LeO.none _)
   | (with_reducible refine LeO.ite ?_ ?_)
   | (with_reducible refine LeO.bind ?_ (fun _ => ?_))
   | exact ih0 _ _ _
   | exact LeO.none _
   | refine LeO.ite ?_ ?_
   | refine LeO.bind ?_ (fun _ => ?_)
theorem corebankref01_ScaleP.mono : ∀ a0 a1 a2 k, LeO (corebankref01_ScaleP.f k a0 a1 a2) (corebankref01_ScaleP.f (k + 1) a0 a1 a2) := by
 intro a0 a1 a2 k
 have ih0 := corebankref01_ScaleP.mono_l k
 unfold corebankref01_ScaleP.f
 repeat' first
   | (with_reducible exact ih0 _ _ _)
   | (with_reducible exact LeO.refl _)
   | (with_reducible exact LeO.none _)
   | (with_reducible refine LeO.ite ?_ ?_)
   | (with_reducible refine LeO.bind ?_ (fun _ => ?_))
   | exact ih0 _ _ _
   | exact LeO.none _
   | refine LeO.ite ?_ ?_
   | refine LeO.bind ?_ (fun _ => ?_)
def corebankref01_ScaleP.T2 : Bool × List (List Nat × List Nat) := (true, [([], []), ([], []), ([1], [1]), ([0, 2, 2], [0, 2]), ([3], [3]), ([4], [4]), ([4], [4]), ([], []), ([7, 5, 3, 0, 1, 2, 3, 4, 5, 7], [5, 7]), ([6, 8, 0, 1, 2, 3, 4, 5, 6, 7, 8], [6])])
def corebankref01_ScaleP.B2 : List Nat := [0, 0, 2, 7, 15, 31, 31, 0, 191, 511]
theorem corebankref01_ScaleP.tab2 : rtab .any (opsOf Tryd.f45 2) = corebankref01_ScaleP.T2 := by kernel_rfl
theorem corebankref01_ScaleP.bits2 : waitsOk corebankref01_ScaleP.T2.2 corebankref01_ScaleP.B2 = true := by kernel_rfl
set_option maxHeartbeats 8000000 in
set_option maxRecDepth 100000 in
theorem corebankref01_ScaleP.calls (k : Nat) (a0_0 : Int) (a0_1 : Int) (a1 : Int) (r1 : Int) (r2 : Int) (r3 : Int) (w : World) (h : corebankref01_ScaleP.f k a0_0 a0_1 a1 = some (r1, r2, r3)) :
  Calls Tryd.prog 45 #[.agg #[.int .i64 a0_0, .int .u64 a0_1], .int .i64 a1] w fun e w' => e = .returned (.tuple #[.agg #[.int .i64 r1, .int .u64 r2], .int .i64 r3]) ∧ Below w.heap.size w w' := by
 have hu24 := Tryd.underlying24
 have hu54 := Tryd.underlying54
 have HB := Aside0.mk (Below.refl w.heap.size w)
 have H : ((corebankref01_Split.f a0_0 a0_1).bind fun bt370 => ((corebankref01_size.f a1).bind fun t374 => ((corebankref01_times.f bt370.2.1 bt370.2.2 t374).bind fun bt375 => ((corebankref01_Join.f (bt370.1 != (decide (a1 < 0))) bt375.1 bt375.2.1).bind fun bt379 => (if bt375.2.2 = true then (corebankref01_ScaleP.j0 k (!bt379.2.2) bt379.1 bt379.2.1) else (corebankref01_ScaleP.j0 k true bt379.1 bt379.2.1)))))) = some (r1, r2, r3) := h
 clear h
 replace H := Option.bind_eq_some_iff.mp H
 obtain ⟨⟨t370, t371, t372⟩, A30, H⟩ := H
 replace H : ((corebankref01_size.f a1).bind fun t374 => ((corebankref01_times.f t371 t372 t374).bind fun bt375 => ((corebankref01_Join.f (t370 != (decide (a1 < 0))) bt375.1 bt375.2.1).bind fun bt379 => (if bt375.2.2 = true then (corebankref01_ScaleP.j0 k (!bt379.2.2) bt379.1 bt379.2.1) else (corebankref01_ScaleP.j0 k true bt379.1 bt379.2.1))))) = some (r1, r2, r3) := H
 have A3 := Aside0.mk A30
 clear A30
 replace H := Option.bind_eq_some_iff.mp H
 obtain ⟨t374, A40, H⟩ := H
 replace H : ((corebankref01_times.f t371 t372 t374).bind fun bt375 => ((corebankref01_Join.f (t370 != (decide (a1 < 0))) bt375.1 bt375.2.1).bind fun bt379 => (if bt375.2.2 = true then (corebankref01_ScaleP.j0 k (!bt379.2.2) bt379.1 bt379.2.1) else (corebankref01_ScaleP.j0 k true bt379.1 bt379.2.1)))) = some (r1, r2, r3) := H
 have A4 := Aside0.mk A40
 clear A40
 replace H := Option.bind_eq_some_iff.mp H
 obtain ⟨⟨t375, t376, t377⟩, A50, H⟩ := H
 replace H : ((corebankref01_Join.f (t370 != (decide (a1 < 0))) t375 t376).bind fun bt379 => (if t377 = true then (corebankref01_ScaleP.j0 k (!bt379.2.2) bt379.1 bt379.2.1) else (corebankref01_ScaleP.j0 k true bt379.1 bt379.2.1))) = some (r1, r2, r3) := H
 have A5 := Aside0.mk A50
 clear A50
 replace H := Option.bind_eq_some_iff.mp H
 obtain ⟨⟨t379, t380, t381⟩, A60, H⟩ := H
 replace H : (if t377 = true then (corebankref01_ScaleP.j0 k (!t381) t379 t380) else (corebankref01_ScaleP.j0 k true t379 t380)) = some (r1, r2, r3) := H
 have A6 := Aside0.mk A60
 clear A60
 have HC7 := Aside0.mk H
 clear H
 go_enter Tryd.func45, Tryd.ntmps45
 try go_wp2_with (first | ((with_reducible refine gate_dst (N := 2) rfl ?_); refine be_ (N := 2) (cs := #[.int .i64 a0_0, .int .u64 a0_1]) (t := 24) ?_; intro gb368 hg w8 hbox hb; have n0_ := Aside0.mk (below_step (qb_ HB.out) hb); have n1_ := Aside0.mk (hbox); have n2_ := Aside0.mk (bz_ hg (qb_ HB.out) : w.heap.size ≤ gb368); have n3_ := n2_; clear HB; have HB := n0_; have BK368 := n1_; have GW368 := n2_; have GE368 := n3_; clear n0_ n1_ n2_ n3_; clear hb hbox hg) | ((with_reducible refine gate_dst (N := 4) rfl ?_); refine be_ (N := 4) (cs := #[.int .i64 0, .int .u64 0]) (t := 24) ?_; intro gb369 hg w9 hbox hb; have n0_ := Aside0.mk (blk_below (qk_ BK368.out) hb); have n1_ := Aside0.mk (below_step (qb1_ GE368.out HB.out) hb); have n2_ := Aside0.mk (hbox); have n3_ := Aside0.mk (bz_ hg (qb1_ GE368.out HB.out) : w.heap.size ≤ gb369); have n4_ := n3_; have n5_ := Aside0.mk (nl_ hg (qk_ BK368.out) : gb368 ≠ gb369); have n6_ := Aside0.mk (ng_ hg (qk_ BK368.out) : gb369 ≠ gb368); clear BK368; clear HB; have BK368 := n0_; have HB := n1_; have BK369 := n2_; have GW369 := n3_; have GE369 := n4_; have NB368_369 := n5_; have NB369_368 := n6_; clear n0_ n1_ n2_ n3_ n4_ n5_ n6_; clear hb hbox hg; have hnb10 := NB368_369.out; have hnc10 := NB369_368.out; have hcz11_0 : w9.cell? ⟨gb368, 0, none⟩ = some (.int .i64 a0_0) := (blk_cell BK368.out 0).trans rfl; have hcz11_1 : w9.cell? ⟨gb368, 1, none⟩ = some (.int .u64 a0_1) := (blk_cell BK368.out 1).trans rfl; have hfz11_0 := blk_frozen BK368.out 0; have hfz11_1 := blk_frozen BK368.out 1) | ((with_reducible refine gate_callee (f := 43) rfl ?_); refine goesL_ (some 14) rfl rfl Tryd.func43 (by kernel_rfl) rfl #[.agg #[.int .i64 a0_0, .int .u64 a0_1]] rfl ql_ ?_; (with_reducible refine (corebankref01_Split.calls a0_0 a0_1 t370 t371 t372 _ A3.out).mono ?_); rintro e w12 ⟨rfl, hb⟩; refine ⟨_, rfl, ?_⟩; have n0_ := Aside0.mk (blk_below (qk_ BK368.out) hb); have n1_ := Aside0.mk (blk_below (qk_ BK369.out) hb); have n2_ := Aside0.mk (below_step (qb2_ GE368.out GE369.out HB.out) hb); clear BK368; clear BK369; clear HB; have BK368 := n0_; have BK369 := n1_; have HB := n2_; clear n0_ n1_ n2_; (try clear hb); (try clear hb2); (try clear hk); (try clear hi)) | ((with_reducible refine gate_dst (N := 7) rfl ?_); refine be_ (N := 7) (cs := #[.int .u64 0, .int .u64 0]) (t := 54) ?_; intro gb373 hg w13 hbox hb; have n0_ := Aside0.mk (blk_below (qk_ BK368.out) hb); have n1_ := Aside0.mk (blk_below (qk_ BK369.out) hb); have n2_ := Aside0.mk (below_step (qb2_ GE368.out GE369.out HB.out) hb); have n3_ := Aside0.mk (hbox); have n4_ := Aside0.mk (bz_ hg (qb2_ GE368.out GE369.out HB.out) : w.heap.size ≤ gb373); have n5_ := n4_; have n6_ := Aside0.mk (nl_ hg (qk_ BK368.out) : gb368 ≠ gb373); have n7_ := Aside0.mk (ng_ hg (qk_ BK368.out) : gb373 ≠ gb368); have n8_ := Aside0.mk (nl_ hg (qk_ BK369.out) : gb369 ≠ gb373); have n9_ := Aside0.mk (ng_ hg (qk_ BK369.out) : gb373 ≠ gb369); clear BK368; clear BK369; clear HB; have BK368 := n0_; have BK369 := n1_; have HB := n2_; have BK373 := n3_; have GW373 := n4_; have GE373 := n5_; have NB368_373 := n6_; have NB373_368 := n7_; have NB369_373 := n8_; have NB373_369 := n9_; clear n0_ n1_ n2_ n3_ n4_ n5_ n6_ n7_ n8_ n9_; clear hb hbox hg; have hnb14 := NB373_368.out; have hnc14 := NB368_373.out; have hnb15 := NB373_369.out; have hnc15 := NB369_373.out; have hcz16_0 : w13.cell? ⟨gb373, 0, none⟩ = some (.int .u64 0) := (blk_cell BK373.out 0).trans rfl; have hcz16_1 : w13.cell? ⟨gb373, 1, none⟩ = some (.int .u64 0) := (blk_cell BK373.out 1).trans rfl; have hfz16_0 := blk_frozen BK373.out 0; have hfz16_1 := blk_frozen BK373.out 1))
 have n0_ : Aside0 (((w13.setCell ⟨gb373, 0, none⟩ (.int .u64 t371)).setCell ⟨gb373, 1, none⟩ (.int .u64 t372)).heap[gb368]? = some (.cells #[.int .i64 a0_0, .int .u64 a0_1] 24 (0, 0))) := ⟨qff_ NB368_373.out NB368_373.out BK368.out⟩
 have n1_ : Aside0 (((w13.setCell ⟨gb373, 0, none⟩ (.int .u64 t371)).setCell ⟨gb373, 1, none⟩ (.int .u64 t372)).heap[gb369]? = some (.cells #[.int .i64 0, .int .u64 0] 24 (0, 0))) := ⟨qff_ NB369_373.out NB369_373.out BK369.out⟩
 have n2_ : Aside0 (((w13.setCell ⟨gb373, 0, none⟩ (.int .u64 t371)).setCell ⟨gb373, 1, none⟩ (.int .u64 t372)).heap[gb373]? = some (.cells #[.int .u64 t371, .int .u64 t372] 54 (0, 0))) := ⟨qpp_ #[.int .u64 t371, .int .u64 0] 1 #[.int .u64 0, .int .u64 0] 0 BK373.out⟩
 have n3_ : Aside0 (Below w.heap.size w ((w13.setCell ⟨gb373, 0, none⟩ (.int .u64 t371)).setCell ⟨gb373, 1, none⟩ (.int .u64 t372))) := ⟨qb3_ GE368.out GE369.out GE373.out HB.out⟩
 (try clear BK368)
 (try clear BK369)
 (try clear BK373)
 (try clear HB)
 generalize ((w13.setCell ⟨gb373, 0, none⟩ (.int .u64 t371)).setCell ⟨gb373, 1, none⟩ (.int .u64 t372)) = w17 at n0_ n1_ n2_ n3_ ⊢
 have BK368 := n0_
 have BK369 := n1_
 have BK373 := n2_
 have HB := n3_
 clear n0_ n1_ n2_ n3_
 have n0_ := Aside0.mk (blk_drew BK368.out)
 have n1_ := Aside0.mk (blk_drew BK369.out)
 have n2_ := Aside0.mk (blk_drew BK373.out)
 have n3_ := Aside0.mk (below_drew1 HB.out)
 clear BK368
 clear BK369
 clear BK373
 clear HB
 have BK368 := n0_
 have BK369 := n1_
 have BK373 := n2_
 have HB := n3_
 clear n0_ n1_ n2_ n3_
 refine start_ (n := 10) (S := fun w' => w'.cell? ⟨gb373, 0, none⟩ = some (.int .u64 t371) ∧ w'.cell? ⟨gb373, 1, none⟩ = some (.int .u64 t372)) (ds := []) (nb_ 10 0) (by kernel_rfl) rfl rfl ⟨(blk_cell BK373.out 0).trans rfl, (blk_cell BK373.out 1).trans rfl⟩ (fun hHeld => ?_); refine with_tabW corebankref01_ScaleP.tab2 corebankref01_ScaleP.bits2 (fun HT_ HW_ => ?_)
 generalize w17.drew = w18 at BK368 BK369 BK373 HB hHeld ⊢
 refine pz_ 1 19 (nb_ 10 2) HT_.out ?_
 refine tk2_ 0 18 (nb_ 10 3) HT_.out HW_.out hHeld ?_
 refine join_ (σ := Nat) 2 (nb_ 10 255) (fun s_ => [(20, .int .u64 t374), (21, .tuple #[.agg #[.int .u64 t375, .int .u64 t376], .bool t377]), (8, .pointer (some ⟨s_, 0, none⟩)), (17, .tuple #[.agg #[.int .u64 t375, .int .u64 t376], .bool t377]), (22, .agg #[.int .u64 t375, .int .u64 t376]), (23, .bool t377)]) (fun s_ w' => (w'.cell? ⟨gb373, 0, none⟩ = some (.int .u64 t371) ∧ w'.cell? ⟨gb373, 1, none⟩ = some (.int .u64 t372)) ∧ (w'.heap[gb368]? = some (.cells #[.int .i64 a0_0, .int .u64 a0_1] 24 (0, 0))) ∧ (w'.heap[gb369]? = some (.cells #[.int .i64 0, .int .u64 0] 24 (0, 0))) ∧ (w'.heap[gb373]? = some (.cells #[.int .u64 t371, .int .u64 t372] 54 (0, 0))) ∧ (w'.heap[s_]? = some (.cells #[.int .u64 0, .int .u64 0] 54 (0, 0))) ∧ (w.heap.size ≤ s_) ∧ (w.heap.size ≤ s_) ∧ (gb368 ≠ s_) ∧ (s_ ≠ gb368) ∧ (gb369 ≠ s_) ∧ (s_ ≠ gb369) ∧ (gb373 ≠ s_) ∧ (s_ ≠ gb373) ∧ (Below w.heap.size w w')) ?_ ?_
 rotate_left
 ·intro hCont
  refine two_ (i := 2) (j := 7) (Ni := some 20) (Nj := some 8) (nb_ 10 7) (nb_ 10 131) rfl rfl rfl rfl (two_of HT_.out (by kernel_rfl)) (by decide) (by decide) (fun K hK => ?_) (fun K hK => ?_)
  ·skip
   refine goes_ Tryd.func62 (by kernel_rfl) rfl #[.int .i64 a1] (by rfl) rfl rfl ql_ ?_
   with_reducible refine (corebankref01_size.calls a1 t374 _ A4.out).mono ?_
   rintro e w' ⟨rfl, ⟨nd, rfl⟩⟩
   refine ⟨_, rfl, ?_⟩
   refine hK.out _ _ ⟨(blk_cell BK373.out 0).trans rfl, (blk_cell BK373.out 1).trans rfl⟩ (fun hHeld => ?_)
   clear hK K
   refine no_ ?_
   refine two_ (i := 3) (j := 7) (Ni := some 21) (Nj := some 8) (nb_ 10 15) (nb_ 10 135) rfl rfl rfl rfl (two_of HT_.out (by kernel_rfl)) (by decide) (by decide) (fun K hK => ?_) (fun K hK => ?_)
   ·skip
    refine goes_ Tryd.func61 (by kernel_rfl) rfl #[.agg #[.int .u64 t371, .int .u64 t372], .int .u64 t374] (by rfl) rfl rfl ql_ ?_
    with_reducible refine (corebankref01_times.calls t371 t372 t374 t375 t376 t377 _ A5.out).mono ?_
    rintro e w19 ⟨rfl, hb⟩
    refine ⟨_, rfl, ?_⟩
    have n0_ := Aside0.mk (blk_below (qk_ BK368.out) hb)
    have n1_ := Aside0.mk (blk_below (qk_ BK369.out) hb)
    have n2_ := Aside0.mk (blk_below (qk_ BK373.out) hb)
    have n3_ := Aside0.mk (below_step (qb3_ GE368.out GE369.out GE373.out HB.out) hb)
    clear BK368
    clear BK369
    clear BK373
    clear HB
    have BK368 := n0_
    have BK369 := n1_
    have BK373 := n2_
    have HB := n3_
    clear n0_ n1_ n2_ n3_
    (try clear hb)
    (try clear hb2)
    (try clear hk)
    (try clear hi)
    refine hK.out _ _ ⟨(blk_cell BK373.out 0).trans rfl, (blk_cell BK373.out 1).trans rfl⟩ (fun hHeld => ?_)
    clear hK K
    refine no_ ?_
    refine pz_ 4 17 (nb_ 10 31) HT_.out ?_
    refine pz_ 5 22 (nb_ 10 63) HT_.out ?_
    refine pz_ 6 23 (nb_ 10 127) HT_.out ?_
    refine on_ 7 8 (nb_ 10 255) HT_.out (fun K hK => ?_)
    refine box_step ?hg (N := 8) ?hd (cs := #[.int .u64 0, .int .u64 0]) (t := 54) ?hr ?_; (case hd => rfl); (case hg => rfl); (case hr => first | (go_simp; done) | (go_simp; rfl))
    intro gb378 hg w20 hbox hb
    have n0_ := Aside0.mk (blk_below (qk_ BK368.out) hb)
    have n1_ := Aside0.mk (blk_below (qk_ BK369.out) hb)
    have n2_ := Aside0.mk (blk_below (qk_ BK373.out) hb)
    have n3_ := Aside0.mk (below_step (qb3_ GE368.out GE369.out GE373.out HB.out) hb)
    have n4_ := Aside0.mk (hbox)
    have n5_ := Aside0.mk (bz_ hg (qb3_ GE368.out GE369.out GE373.out HB.out) : w.heap.size ≤ gb378)
    have n6_ := Aside0.mk (bz_ hg (qb3_ GE368.out GE369.out GE373.out HB.out) : w.heap.size ≤ gb378)
    have n7_ := Aside0.mk (nl_ hg (qk_ BK368.out) : gb368 ≠ gb378)
    have n8_ := Aside0.mk (ng_ hg (qk_ BK368.out) : gb378 ≠ gb368)
    have n9_ := Aside0.mk (nl_ hg (qk_ BK369.out) : gb369 ≠ gb378)
    have n10_ := Aside0.mk (ng_ hg (qk_ BK369.out) : gb378 ≠ gb369)
    have n11_ := Aside0.mk (nl_ hg (qk_ BK373.out) : gb373 ≠ gb378)
    have n12_ := Aside0.mk (ng_ hg (qk_ BK373.out) : gb378 ≠ gb373)
    clear BK368
    clear BK369
    clear BK373
    clear HB
    have BK368 := n0_
    have BK369 := n1_
    have BK373 := n2_
    have HB := n3_
    have BK378 := n4_
    have GW378 := n5_
    have GE378 := n6_
    have NB368_378 := n7_
    have NB378_368 := n8_
    have NB369_378 := n9_
    have NB378_369 := n10_
    have NB373_378 := n11_
    have NB378_373 := n12_
    clear n0_ n1_ n2_ n3_ n4_ n5_ n6_ n7_ n8_ n9_ n10_ n11_ n12_
    clear hb hbox hg
    refine hK.out _ _ ⟨(blk_cell BK373.out 0).trans rfl, (blk_cell BK373.out 1).trans rfl⟩ (fun hHeld => ?_)
    clear hK K
    refine no_ ?_
    exact norm_ (by simp only [putAll, Act.put, List.setIfInBounds_toArray, List.set_cons_zero, List.set_cons_succ]) (hCont (gb378) _ ⟨hHeld, (qk_ BK368.out), (qk_ BK369.out), (qk_ BK373.out), (qk_ BK378.out), GW378.out, GE378.out, NB368_378.out, NB378_368.out, NB369_378.out, NB378_369.out, NB373_378.out, NB378_373.out, (qb4_ GE368.out GE369.out GE373.out GE378.out HB.out)⟩)
   ·skip
    refine box_step ?hg (N := 8) ?hd (cs := #[.int .u64 0, .int .u64 0]) (t := 54) ?hr ?_; (case hd => rfl); (case hg => rfl); (case hr => first | (go_simp; done) | (go_simp; rfl))
    intro gb378 hg w19 hbox hb
    have n0_ := Aside0.mk (blk_below (qk_ BK368.out) hb)
    have n1_ := Aside0.mk (blk_below (qk_ BK369.out) hb)
    have n2_ := Aside0.mk (blk_below (qk_ BK373.out) hb)
    have n3_ := Aside0.mk (below_step (qb3_ GE368.out GE369.out GE373.out HB.out) hb)
    have n4_ := Aside0.mk (hbox)
    have n5_ := Aside0.mk (bz_ hg (qb3_ GE368.out GE369.out GE373.out HB.out) : w.heap.size ≤ gb378)
    have n6_ := Aside0.mk (bz_ hg (qb3_ GE368.out GE369.out GE373.out HB.out) : w.heap.size ≤ gb378)
    have n7_ := Aside0.mk (nl_ hg (qk_ BK368.out) : gb368 ≠ gb378)
    have n8_ := Aside0.mk (ng_ hg (qk_ BK368.out) : gb378 ≠ gb368)
    have n9_ := Aside0.mk (nl_ hg (qk_ BK369.out) : gb369 ≠ gb378)
    have n10_ := Aside0.mk (ng_ hg (qk_ BK369.out) : gb378 ≠ gb369)
    have n11_ := Aside0.mk (nl_ hg (qk_ BK373.out) : gb373 ≠ gb378)
    have n12_ := Aside0.mk (ng_ hg (qk_ BK373.out) : gb378 ≠ gb373)
    clear BK368
    clear BK369
    clear BK373
    clear HB
    have BK368 := n0_
    have BK369 := n1_
    have BK373 := n2_
    have HB := n3_
    have BK378 := n4_
    have GW378 := n5_
    have GE378 := n6_
    have NB368_378 := n7_
    have NB378_368 := n8_
    have NB369_378 := n9_
    have NB378_369 := n10_
    have NB373_378 := n11_
    have NB378_373 := n12_
    clear n0_ n1_ n2_ n3_ n4_ n5_ n6_ n7_ n8_ n9_ n10_ n11_ n12_
    clear hb hbox hg
    refine hK.out _ _ ⟨(blk_cell BK373.out 0).trans rfl, (blk_cell BK373.out 1).trans rfl⟩ (fun hHeld => ?_)
    clear hK K
    refine no_ ?_
    refine on_ 3 21 (nb_ 10 143) HT_.out (fun K hK => ?_)
    refine goes_ Tryd.func61 (by kernel_rfl) rfl #[.agg #[.int .u64 t371, .int .u64 t372], .int .u64 t374] (by rfl) rfl rfl ql_ ?_
    with_reducible refine (corebankref01_times.calls t371 t372 t374 t375 t376 t377 _ A5.out).mono ?_
    rintro e w20 ⟨rfl, hb⟩
    refine ⟨_, rfl, ?_⟩
    have n0_ := Aside0.mk (blk_below (qk_ BK368.out) hb)
    have n1_ := Aside0.mk (blk_below (qk_ BK369.out) hb)
    have n2_ := Aside0.mk (blk_below (qk_ BK373.out) hb)
    have n3_ := Aside0.mk (blk_below (qk_ BK378.out) hb)
    have n4_ := Aside0.mk (below_step (qb4_ GE368.out GE369.out GE373.out GE378.out HB.out) hb)
    clear BK368
    clear BK369
    clear BK373
    clear BK378
    clear HB
    have BK368 := n0_
    have BK369 := n1_
    have BK373 := n2_
    have BK378 := n3_
    have HB := n4_
    clear n0_ n1_ n2_ n3_ n4_
    (try clear hb)
    (try clear hb2)
    (try clear hk)
    (try clear hi)
    refine hK.out _ _ ⟨(blk_cell BK373.out 0).trans rfl, (blk_cell BK373.out 1).trans rfl⟩ (fun hHeld => ?_)
    clear hK K
    refine no_ ?_
    refine pz_ 4 17 (nb_ 10 159) HT_.out ?_
    refine pz_ 5 22 (nb_ 10 191) HT_.out ?_
    refine pz_ 6 23 (nb_ 10 255) HT_.out ?_
    exact norm_ (by simp only [putAll, Act.put, List.setIfInBounds_toArray, List.set_cons_zero, List.set_cons_succ]) (hCont (gb378) _ ⟨hHeld, (qk_ BK368.out), (qk_ BK369.out), (qk_ BK373.out), (qk_ BK378.out), GW378.out, GE378.out, NB368_378.out, NB378_368.out, NB369_378.out, NB378_369.out, NB373_378.out, NB378_373.out, (qb4_ GE368.out GE369.out GE373.out GE378.out HB.out)⟩)
  ·skip
   refine box_step ?hg (N := 8) ?hd (cs := #[.int .u64 0, .int .u64 0]) (t := 54) ?hr ?_; (case hd => rfl); (case hg => rfl); (case hr => first | (go_simp; done) | (go_simp; rfl))
   intro gb378 hg w19 hbox hb
   have n0_ := Aside0.mk (blk_below (qk_ BK368.out) hb)
   have n1_ := Aside0.mk (blk_below (qk_ BK369.out) hb)
   have n2_ := Aside0.mk (blk_below (qk_ BK373.out) hb)
   have n3_ := Aside0.mk (below_step (qb3_ GE368.out GE369.out GE373.out HB.out) hb)
   have n4_ := Aside0.mk (hbox)
   have n5_ := Aside0.mk (bz_ hg (qb3_ GE368.out GE369.out GE373.out HB.out) : w.heap.size ≤ gb378)
   have n6_ := Aside0.mk (bz_ hg (qb3_ GE368.out GE369.out GE373.out HB.out) : w.heap.size ≤ gb378)
   have n7_ := Aside0.mk (nl_ hg (qk_ BK368.out) : gb368 ≠ gb378)
   have n8_ := Aside0.mk (ng_ hg (qk_ BK368.out) : gb378 ≠ gb368)
   have n9_ := Aside0.mk (nl_ hg (qk_ BK369.out) : gb369 ≠ gb378)
   have n10_ := Aside0.mk (ng_ hg (qk_ BK369.out) : gb378 ≠ gb369)
   have n11_ := Aside0.mk (nl_ hg (qk_ BK373.out) : gb373 ≠ gb378)
   have n12_ := Aside0.mk (ng_ hg (qk_ BK373.out) : gb378 ≠ gb373)
   clear BK368
   clear BK369
   clear BK373
   clear HB
   have BK368 := n0_
   have BK369 := n1_
   have BK373 := n2_
   have HB := n3_
   have BK378 := n4_
   have GW378 := n5_
   have GE378 := n6_
   have NB368_378 := n7_
   have NB378_368 := n8_
   have NB369_378 := n9_
   have NB378_369 := n10_
   have NB373_378 := n11_
   have NB378_373 := n12_
   clear n0_ n1_ n2_ n3_ n4_ n5_ n6_ n7_ n8_ n9_ n10_ n11_ n12_
   clear hb hbox hg
   refine hK.out _ _ ⟨(blk_cell BK373.out 0).trans rfl, (blk_cell BK373.out 1).trans rfl⟩ (fun hHeld => ?_)
   clear hK K
   refine no_ ?_
   refine on_ 2 20 (nb_ 10 135) HT_.out (fun K hK => ?_)
   refine goes_ Tryd.func62 (by kernel_rfl) rfl #[.int .i64 a1] (by rfl) rfl rfl ql_ ?_
   with_reducible refine (corebankref01_size.calls a1 t374 _ A4.out).mono ?_
   rintro e w' ⟨rfl, ⟨nd, rfl⟩⟩
   refine ⟨_, rfl, ?_⟩
   refine hK.out _ _ ⟨(blk_cell BK373.out 0).trans rfl, (blk_cell BK373.out 1).trans rfl⟩ (fun hHeld => ?_)
   clear hK K
   refine no_ ?_
   refine on_ 3 21 (nb_ 10 143) HT_.out (fun K hK => ?_)
   refine goes_ Tryd.func61 (by kernel_rfl) rfl #[.agg #[.int .u64 t371, .int .u64 t372], .int .u64 t374] (by rfl) rfl rfl ql_ ?_
   with_reducible refine (corebankref01_times.calls t371 t372 t374 t375 t376 t377 _ A5.out).mono ?_
   rintro e w20 ⟨rfl, hb⟩
   refine ⟨_, rfl, ?_⟩
   have n0_ := Aside0.mk (blk_below (qk_ BK368.out) hb)
   have n1_ := Aside0.mk (blk_below (qk_ BK369.out) hb)
   have n2_ := Aside0.mk (blk_below (qk_ BK373.out) hb)
   have n3_ := Aside0.mk (blk_below (qk_ BK378.out) hb)
   have n4_ := Aside0.mk (below_step (qb4_ GE368.out GE369.out GE373.out GE378.out HB.out) hb)
   clear BK368
   clear BK369
   clear BK373
   clear BK378
   clear HB
   have BK368 := n0_
   have BK369 := n1_
   have BK373 := n2_
   have BK378 := n3_
   have HB := n4_
   clear n0_ n1_ n2_ n3_ n4_
   (try clear hb)
   (try clear hb2)
   (try clear hk)
   (try clear hi)
   refine hK.out _ _ ⟨(blk_cell BK373.out 0).trans rfl, (blk_cell BK373.out 1).trans rfl⟩ (fun hHeld => ?_)
   clear hK K
   refine no_ ?_
   refine pz_ 4 17 (nb_ 10 159) HT_.out ?_
   refine pz_ 5 22 (nb_ 10 191) HT_.out ?_
   refine pz_ 6 23 (nb_ 10 255) HT_.out ?_
   exact norm_ (by simp only [putAll, Act.put, List.setIfInBounds_toArray, List.set_cons_zero, List.set_cons_succ]) (hCont (gb378) _ ⟨hHeld, (qk_ BK368.out), (qk_ BK369.out), (qk_ BK373.out), (qk_ BK378.out), GW378.out, GE378.out, NB368_378.out, NB378_368.out, NB369_378.out, NB378_369.out, NB373_378.out, NB378_373.out, (qb4_ GE368.out GE369.out GE373.out GE378.out HB.out)⟩)
 rintro gb378 w21 ⟨hS_, h0_, h1_, h2_, h3_, h4_, h5_, h6_, h7_, h8_, h9_, h10_, h11_, h12_⟩
 have n0_ : Aside0 (w21.heap[gb368]? = some (.cells #[.int .i64 a0_0, .int .u64 a0_1] 24 (0, 0))) := ⟨h0_⟩
 have n1_ : Aside0 (w21.heap[gb369]? = some (.cells #[.int .i64 0, .int .u64 0] 24 (0, 0))) := ⟨h1_⟩
 have n2_ : Aside0 (w21.heap[gb373]? = some (.cells #[.int .u64 t371, .int .u64 t372] 54 (0, 0))) := ⟨h2_⟩
 have n3_ : Aside0 (w21.heap[gb378]? = some (.cells #[.int .u64 0, .int .u64 0] 54 (0, 0))) := ⟨h3_⟩
 have n4_ : Aside0 (w.heap.size ≤ gb378) := ⟨h4_⟩
 have n5_ : Aside0 (w.heap.size ≤ gb378) := ⟨h5_⟩
 have n6_ : Aside0 (gb368 ≠ gb378) := ⟨h6_⟩
 have n7_ : Aside0 (gb378 ≠ gb368) := ⟨h7_⟩
 have n8_ : Aside0 (gb369 ≠ gb378) := ⟨h8_⟩
 have n9_ : Aside0 (gb378 ≠ gb369) := ⟨h9_⟩
 have n10_ : Aside0 (gb373 ≠ gb378) := ⟨h10_⟩
 have n11_ : Aside0 (gb378 ≠ gb373) := ⟨h11_⟩
 have n12_ : Aside0 (Below w.heap.size w w21) := ⟨h12_⟩
 clear BK368
 clear BK369
 clear BK373
 clear HB
 clear h0_ h1_ h2_ h3_ h4_ h5_ h6_ h7_ h8_ h9_ h10_ h11_ h12_
 have BK368 := n0_
 have BK369 := n1_
 have BK373 := n2_
 have BK378 := n3_
 have GW378 := n4_
 have GE378 := n5_
 have NB368_378 := n6_
 have NB378_368 := n7_
 have NB369_378 := n8_
 have NB378_369 := n9_
 have NB373_378 := n10_
 have NB378_373 := n11_
 have HB := n12_
 clear n0_ n1_ n2_ n3_ n4_ n5_ n6_ n7_ n8_ n9_ n10_ n11_ n12_
 have hHeld : w21.cell? ⟨gb373, 0, none⟩ = some (.int .u64 t371) ∧ w21.cell? ⟨gb373, 1, none⟩ = some (.int .u64 t372) := hS_
 refine norm_ (a' := ?_) ?_ ?_
 rotate_left
 ·simp only [putAll, Act.put, List.setIfInBounds_toArray, List.set_cons_zero, List.set_cons_succ]
  rfl
 refine one_ (i := 8) (N := none) (nb_ 10 511) rfl rfl (one_of HT_.out (by kernel_rfl)) (by decide) (fun K hK => ?_)
 have hs22 : w21.cell? ⟨gb378, 0, none⟩ = some (.int .u64 0) := (blk_cell BK378.out 0).trans rfl
 have hfs22 := blk_frozen BK378.out 0
 have hns22_0 := NB368_378.out
 have hns22_1 := NB369_378.out
 have hns22_2 := NB373_378.out
 have hms22_0 := NB378_368.out
 have hms22_1 := NB378_369.out
 have hms22_2 := NB378_373.out
 have hs23 : w21.cell? ⟨gb378, 1, none⟩ = some (.int .u64 0) := (blk_cell BK378.out 1).trans rfl
 have hfs23 := blk_frozen BK378.out 1
 have hns23_0 := NB368_378.out
 have hns23_1 := NB369_378.out
 have hns23_2 := NB373_378.out
 have hms23_0 := NB378_368.out
 have hms23_1 := NB378_369.out
 have hms23_2 := NB378_373.out
 refine skip_ (w1 := ?_) (by rfl) rfl ?_ ?_
 rotate_left
 ·go_simp
  rfl
 refine hK.out _ _ ⟨((cell_far (p := ⟨gb378, _, none⟩) NB373_378.out _).trans (((cell_far (p := ⟨gb378, _, none⟩) NB373_378.out _).trans (hHeld.1)))), ((cell_far (p := ⟨gb378, _, none⟩) NB373_378.out _).trans (((cell_far (p := ⟨gb378, _, none⟩) NB373_378.out _).trans (hHeld.2))))⟩ (fun hHeld => ?_)
 clear hK K
 refine pz_ 9 9 (nb_ 10 1023) HT_.out ?_
 refine done_ (done_of HT_.out (by kernel_rfl)) ?_
 have hnb24 := NB378_368.out
 have hnc24 := NB368_378.out
 have hnb25 := NB378_369.out
 have hnc25 := NB369_378.out
 have hnb26 := NB378_373.out
 have hnc26 := NB373_378.out
 have hcz27_0 : w21.cell? ⟨gb378, 0, none⟩ = some (.int .u64 0) := (blk_cell BK378.out 0).trans rfl
 have hcz27_1 : w21.cell? ⟨gb378, 1, none⟩ = some (.int .u64 0) := (blk_cell BK378.out 1).trans rfl
 have hfz27_0 := blk_frozen BK378.out 0
 have hfz27_1 := blk_frozen BK378.out 1
 go_upto_region 4 with (first | ((with_reducible refine gate_callee (f := 49) rfl ?_); refine goesL_ (some 30) rfl rfl Tryd.func49 (by kernel_rfl) rfl #[.bool (t370 != (decide (a1 < 0))), .agg #[.int .u64 t375, .int .u64 t376]] rfl ql_ ?_; (with_reducible refine (corebankref01_Join.calls (t370 != (decide (a1 < 0))) t375 t376 t379 t380 t381 _ A6.out).mono ?_); rintro e w28 ⟨rfl, hb⟩; refine ⟨_, rfl, ?_⟩; have n0_ := Aside0.mk (blk_below (g := gb368) (o := .cells #[.int .i64 a0_0, .int .u64 a0_1] 24 (0, 0)) (qff_ NB368_378.out NB368_378.out BK368.out) hb); have n1_ := Aside0.mk (blk_below (g := gb369) (o := .cells #[.int .i64 0, .int .u64 0] 24 (0, 0)) (qff_ NB369_378.out NB369_378.out BK369.out) hb); have n2_ := Aside0.mk (blk_below (g := gb373) (o := .cells #[.int .u64 t371, .int .u64 t372] 54 (0, 0)) (qff_ NB373_378.out NB373_378.out BK373.out) hb); have n3_ := Aside0.mk (blk_below (g := gb378) (o := .cells #[.int .u64 t375, .int .u64 t376] 54 (0, 0)) (qpp_ #[.int .u64 t375, .int .u64 0] 1 #[.int .u64 0, .int .u64 0] 0 BK378.out) hb); have n4_ := Aside0.mk (below_step (qb4_ GE368.out GE369.out GE373.out GE378.out HB.out) hb); clear BK368; clear BK369; clear BK373; clear BK378; clear HB; have BK368 := n0_; have BK369 := n1_; have BK373 := n2_; have BK378 := n3_; have HB := n4_; clear n0_ n1_ n2_ n3_ n4_; (try clear hb); (try clear hb2); (try clear hk); (try clear hi)) | ((with_reducible refine gate_dst (N := 10) rfl ?_); refine be_ (N := 10) (cs := #[.int .i64 0, .int .u64 0]) (t := 24) ?_; intro gb382 hg w29 hbox hb; have n0_ := Aside0.mk (blk_below (qk_ BK368.out) hb); have n1_ := Aside0.mk (blk_below (qk_ BK369.out) hb); have n2_ := Aside0.mk (blk_below (qk_ BK373.out) hb); have n3_ := Aside0.mk (blk_below (qk_ BK378.out) hb); have n4_ := Aside0.mk (below_step (qb4_ GE368.out GE369.out GE373.out GE378.out HB.out) hb); have n5_ := Aside0.mk (hbox); have n6_ := Aside0.mk (bz_ hg (qb4_ GE368.out GE369.out GE373.out GE378.out HB.out) : w.heap.size ≤ gb382); have n7_ := n6_; have n8_ := Aside0.mk (nl_ hg (qk_ BK368.out) : gb368 ≠ gb382); have n9_ := Aside0.mk (ng_ hg (qk_ BK368.out) : gb382 ≠ gb368); have n10_ := Aside0.mk (nl_ hg (qk_ BK369.out) : gb369 ≠ gb382); have n11_ := Aside0.mk (ng_ hg (qk_ BK369.out) : gb382 ≠ gb369); have n12_ := Aside0.mk (nl_ hg (qk_ BK373.out) : gb373 ≠ gb382); have n13_ := Aside0.mk (ng_ hg (qk_ BK373.out) : gb382 ≠ gb373); have n14_ := Aside0.mk (nl_ hg (qk_ BK378.out) : gb378 ≠ gb382); have n15_ := Aside0.mk (ng_ hg (qk_ BK378.out) : gb382 ≠ gb378); clear BK368; clear BK369; clear BK373; clear BK378; clear HB; have BK368 := n0_; have BK369 := n1_; have BK373 := n2_; have BK378 := n3_; have HB := n4_; have BK382 := n5_; have GW382 := n6_; have GE382 := n7_; have NB368_382 := n8_; have NB382_368 := n9_; have NB369_382 := n10_; have NB382_369 := n11_; have NB373_382 := n12_; have NB382_373 := n13_; have NB378_382 := n14_; have NB382_378 := n15_; clear n0_ n1_ n2_ n3_ n4_ n5_ n6_ n7_ n8_ n9_ n10_ n11_ n12_ n13_ n14_ n15_; clear hb hbox hg; have hnb30 := NB382_368.out; have hnc30 := NB368_382.out; have hnb31 := NB382_369.out; have hnc31 := NB369_382.out; have hnb32 := NB382_373.out; have hnc32 := NB373_382.out; have hnb33 := NB382_378.out; have hnc33 := NB378_382.out; have hcz34_0 : w29.cell? ⟨gb382, 0, none⟩ = some (.int .i64 0) := (blk_cell BK382.out 0).trans rfl; have hcz34_1 : w29.cell? ⟨gb382, 1, none⟩ = some (.int .u64 0) := (blk_cell BK382.out 1).trans rfl; have hfz34_0 := blk_frozen BK382.out 0; have hfz34_1 := blk_frozen BK382.out 1))
 (try simp only [Act.put, List.setIfInBounds_toArray, List.set_cons_zero, List.set_cons_succ])
 go_cut [38] (fun v38 wc => ∃ (kq : Nat) (x38_6 : Bool), v38 = .bool x38_6 ∧ Aside0 (corebankref01_ScaleP.j0 kq x38_6 t379 t380 = some (r1, r2, r3)) ∧ Aside0 (kq ≤ k) ∧ Aside0 (wc.heap[gb368]? = some (.cells #[.int .i64 a0_0, .int .u64 a0_1] 24 (0, 0))) ∧ Aside0 (wc.heap[gb369]? = some (.cells #[.int .i64 0, .int .u64 0] 24 (0, 0))) ∧ Aside0 (wc.heap[gb373]? = some (.cells #[.int .u64 t371, .int .u64 t372] 54 (0, 0))) ∧ Aside0 (wc.heap[gb378]? = some (.cells #[.int .u64 t375, .int .u64 t376] 54 (0, 0))) ∧ Aside0 (wc.heap[gb382]? = some (.cells #[.int .i64 t379, .int .u64 t380] 24 (0, 0))) ∧ Aside0 (Below w.heap.size w wc))
 case first =>
  have H := HC7.out
  clear HC7
  by_cases c35 : t377 = true
  ·subst c35
   have H1 : (corebankref01_ScaleP.j0 k (!t381) t379 t380) = some (r1, r2, r3) := by rw [if_pos rfl] at H; exact H
   clear H
   have H := H1
   clear H1
   have H' := Aside0.mk H
   clear H
   go_wp2
   go_meet
   case rel => exact ⟨_, (!t381), qs_, H', ⟨qo_⟩, ⟨qff_ NB368_382.out NB368_382.out BK368.out⟩, ⟨qff_ NB369_382.out NB369_382.out BK369.out⟩, ⟨qff_ NB373_382.out NB373_382.out BK373.out⟩, ⟨qff_ NB378_382.out NB378_382.out BK378.out⟩, ⟨qpp_ #[.int .i64 t379, .int .u64 0] 1 #[.int .i64 0, .int .u64 0] 0 BK382.out⟩, ⟨qb5_ GE368.out GE369.out GE373.out GE378.out GE382.out HB.out⟩⟩
  ·replace c35 := Bool.eq_false_iff.mpr c35
   subst c35
   have H1 : (corebankref01_ScaleP.j0 k true t379 t380) = some (r1, r2, r3) := by rw [if_neg (show ¬ (false = true) by decide)] at H; exact H
   clear H
   have H := H1
   clear H1
   have H' := Aside0.mk H
   clear H
   go_wp2
   go_meet
   case rel => exact ⟨_, (true), qs_, H', ⟨qo_⟩, ⟨qff_ NB368_382.out NB368_382.out BK368.out⟩, ⟨qff_ NB369_382.out NB369_382.out BK369.out⟩, ⟨qff_ NB373_382.out NB373_382.out BK373.out⟩, ⟨qff_ NB378_382.out NB378_382.out BK378.out⟩, ⟨qpp_ #[.int .i64 t379, .int .u64 0] 1 #[.int .i64 0, .int .u64 0] 0 BK382.out⟩, ⟨qb5_ GE368.out GE369.out GE373.out GE378.out GE382.out HB.out⟩⟩
 case rest =>
  clear HC7
  try clear c1
  try clear c2
  try clear p2
  try clear c3
  try clear c4
  try clear c6
  try clear c10
  try clear c14
  try clear c15
  try clear c24
  try clear c25
  try clear c26
  try clear c30
  try clear c31
  try clear c32
  try clear c33
  try clear c35
  try clear hcz11_0
  try clear hcz11_1
  try clear hcz16_0
  try clear hcz16_1
  try clear hcz27_0
  try clear hcz27_1
  try clear hcz34_0
  try clear hcz34_1
  try clear hfz11_0
  try clear hfz11_1
  try clear hfz16_0
  try clear hfz16_1
  try clear hfz27_0
  try clear hfz27_1
  try clear hfz34_0
  try clear hfz34_1
  obtain ⟨kq, x38_6, rfl, HA, HJ6, BK368, BK369, BK373, BK378, BK382, HB⟩ := hcut
  cases kq with
  | zero => exact absurd HA.out (by simp [corebankref01_ScaleP.j0])
  | succ kj6 =>
   have H := HA.out
   clear HA
   simp only [corebankref01_ScaleP.j0] at H
   by_cases c36 : x38_6 = true
   ·subst c36
    have H1 : (some (0, 0, 6)) = some (r1, r2, r3) := by rw [if_pos rfl] at H; exact H
    clear H
    have H := H1
    clear H1
    simp only [Option.some.injEq, Prod.mk.injEq] at H
    obtain ⟨rfl, rfl, rfl⟩ := H
    have hnb37 := NB369_368.out
    have hnc37 := NB368_369.out
    have hnb38 := NB369_373.out
    have hnc38 := NB373_369.out
    have hnb39 := NB369_378.out
    have hnc39 := NB378_369.out
    have hnb40 := NB369_382.out
    have hnc40 := NB382_369.out
    have hcz41_0 : wc.cell? ⟨gb369, 0, none⟩ = some (.int .i64 0) := (blk_cell BK369.out 0).trans rfl
    have hcz41_1 : wc.cell? ⟨gb369, 1, none⟩ = some (.int .u64 0) := (blk_cell BK369.out 1).trans rfl
    have hfz41_0 := blk_frozen BK369.out 0
    have hfz41_1 := blk_frozen BK369.out 1
    go_wp2
    refine bodyPost_ret (results_ct rfl _ _ gb369 24 #[.int .i64 0, .int .u64 0] (0, 0) _ rfl (qpp_ #[.int .i64 0, .int .u64 0] 1 #[.int .i64 0, .int .u64 0] 0 BK369.out) Tryd.underlying24 rfl (by kernel_rfl)) rfl ?_
    exact ⟨qe_, qb5_ GE368.out GE369.out GE373.out GE378.out GE382.out HB.out⟩
   ·replace c36 := Bool.eq_false_iff.mpr c36
    subst c36
    have H1 : (some (t379, t380, 0)) = some (r1, r2, r3) := by rw [if_neg (show ¬ (false = true) by decide)] at H; exact H
    clear H
    have H := H1
    clear H1
    simp only [Option.some.injEq, Prod.mk.injEq] at H
    obtain ⟨rfl, rfl, rfl⟩ := H
    have hnb42 := NB382_368.out
    have hnc42 := NB368_382.out
    have hnb43 := NB382_369.out
    have hnc43 := NB369_382.out
    have hnb44 := NB382_373.out
    have hnc44 := NB373_382.out
    have hnb45 := NB382_378.out
    have hnc45 := NB378_382.out
    have hcz46_0 : wc.cell? ⟨gb382, 0, none⟩ = some (.int .i64 t379) := (blk_cell BK382.out 0).trans rfl
    have hcz46_1 : wc.cell? ⟨gb382, 1, none⟩ = some (.int .u64 t380) := (blk_cell BK382.out 1).trans rfl
    have hfz46_0 := blk_frozen BK382.out 0
    have hfz46_1 := blk_frozen BK382.out 1
    have hnb47 := NB369_368.out
    have hnc47 := NB368_369.out
    have hnb48 := NB369_373.out
    have hnc48 := NB373_369.out
    have hnb49 := NB369_378.out
    have hnc49 := NB378_369.out
    have hcz50_0 : wc.cell? ⟨gb369, 0, none⟩ = some (.int .i64 0) := (blk_cell BK369.out 0).trans rfl
    have hcz50_1 : wc.cell? ⟨gb369, 1, none⟩ = some (.int .u64 0) := (blk_cell BK369.out 1).trans rfl
    have hfz50_0 := blk_frozen BK369.out 0
    have hfz50_1 := blk_frozen BK369.out 1
    go_wp2
    refine bodyPost_ret (results_ct rfl _ _ gb369 24 #[.int .i64 t379, .int .u64 t380] (0, 0) _ rfl (qpp_ #[.int .i64 t379, .int .u64 0] 1 #[.int .i64 0, .int .u64 0] 0 BK369.out) Tryd.underlying24 rfl (by kernel_rfl)) rfl ?_
    exact ⟨qe_, qb5_ GE368.out GE369.out GE373.out GE378.out GE382.out HB.out⟩
end Go.Proofs.YtkdhippoibjfkaaDoor.PR
