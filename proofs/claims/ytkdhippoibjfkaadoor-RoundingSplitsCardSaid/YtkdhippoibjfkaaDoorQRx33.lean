import Derived.Test.YtkdhippoibjfkaaDoorQRm2
import Derived.Test.YtkdhippoibjfkaaDoorQRm8
import Derived.Test.YtkdhippoibjfkaaDoorQRm12
namespace Go.Proofs.YtkdhippoibjfkaaDoor.PR
open Go.RowKit Go.Proofs.YtkdhippoibjfkaaDoorW.PrintWords Go.Proofs.YtkdhippoibjfkaaDoorW.PrintLast
set_option linter.unusedVariables false
set_option linter.unusedSimpArgs false
def corebankref02_AmountP.f (a0_0 : Int) (a0_1 : Int) (a1 : Int) : Option (Int × Int × Int × Int) := (corebankref02_Divide.f a0_0 a0_1 1603080000000 a1).bind fun bt406 => (if bt406.2 = 0 then ((corebankref02_Good.f bt406.1).bind fun t408 => (if t408 = true then ((corebankref01_Mul.f bt406.1 1603080000000).bind fun bt409 => ((corebankref01_Sub.f a0_0 a0_1 bt409.1 bt409.2).bind fun bt411 => (some (bt406.1, bt411.1, bt411.2.1, 0)))) else (some (0, 0, 0, 6)))) else (some (0, 0, 0, bt406.2)))
def corebankref02_AmountP.T6 : Bool × List (List Nat × List Nat) := (true, [([], []), ([], []), ([1], [1]), ([0, 2, 2], [0, 2]), ([3], [3]), ([4], [4]), ([4], [4]), ([], []), ([7, 5, 3, 0, 1, 2, 3, 4, 5, 7], [5, 7]), ([6, 8, 0, 1, 2, 3, 4, 5, 6, 7, 8], [6])])
def corebankref02_AmountP.B6 : List Nat := [0, 0, 2, 7, 15, 31, 31, 0, 191, 511]
theorem corebankref02_AmountP.tab6 : rtab .any (opsOf Tryd.f17 6) = corebankref02_AmountP.T6 := by kernel_rfl
theorem corebankref02_AmountP.bits6 : waitsOk corebankref02_AmountP.T6.2 corebankref02_AmountP.B6 = true := by kernel_rfl
set_option maxHeartbeats 8000000 in
set_option maxRecDepth 100000 in
theorem corebankref02_AmountP.calls (a0_0 : Int) (a0_1 : Int) (a1 : Int) (r1 : Int) (r2 : Int) (r3 : Int) (r4 : Int) (w : World) (h : corebankref02_AmountP.f a0_0 a0_1 a1 = some (r1, r2, r3, r4)) :
  Calls Tryd.prog 17 #[.agg #[.int .i64 a0_0, .int .u64 a0_1], .int .i64 a1] w fun e w' => e = .returned (.tuple #[.int .i64 r1, .agg #[.int .i64 r2, .int .u64 r3], .int .i64 r4]) ∧ Below w.heap.size w w' := by
 have hu24 := Tryd.underlying24
 have HB := Aside0.mk (Below.refl w.heap.size w)
 have H : ((corebankref02_Divide.f a0_0 a0_1 1603080000000 a1).bind fun bt406 => (if bt406.2 = 0 then ((corebankref02_Good.f bt406.1).bind fun t408 => (if t408 = true then ((corebankref01_Mul.f bt406.1 1603080000000).bind fun bt409 => ((corebankref01_Sub.f a0_0 a0_1 bt409.1 bt409.2).bind fun bt411 => (some (bt406.1, bt411.1, bt411.2.1, 0)))) else (some (0, 0, 0, 6)))) else (some (0, 0, 0, bt406.2)))) = some (r1, r2, r3, r4) := h
 clear h
 replace H := Option.bind_eq_some_iff.mp H
 obtain ⟨⟨t406, t407⟩, A30, H⟩ := H
 replace H : (if t407 = 0 then ((corebankref02_Good.f t406).bind fun t408 => (if t408 = true then ((corebankref01_Mul.f t406 1603080000000).bind fun bt409 => ((corebankref01_Sub.f a0_0 a0_1 bt409.1 bt409.2).bind fun bt411 => (some (t406, bt411.1, bt411.2.1, 0)))) else (some (0, 0, 0, 6)))) else (some (0, 0, 0, t407))) = some (r1, r2, r3, r4) := H
 have A3 := Aside0.mk A30
 clear A30
 by_cases c4 : t407 = 0
 ·rw [if_pos c4] at H
  have c4b0 : (t407 == 0) = true := beq_iff_eq.mpr c4
  have c4b1 : (t407 != 0) = false := bne_eq_false_iff_eq.mpr c4
  clear c4
  replace H := Option.bind_eq_some_iff.mp H
  obtain ⟨t408, A50, H⟩ := H
  replace H : (if t408 = true then ((corebankref01_Mul.f t406 1603080000000).bind fun bt409 => ((corebankref01_Sub.f a0_0 a0_1 bt409.1 bt409.2).bind fun bt411 => (some (t406, bt411.1, bt411.2.1, 0)))) else (some (0, 0, 0, 6))) = some (r1, r2, r3, r4) := H
  have A5 := Aside0.mk A50
  clear A50
  by_cases c6 : t408 = true
  ·subst c6
   have H1 : ((corebankref01_Mul.f t406 1603080000000).bind fun bt409 => ((corebankref01_Sub.f a0_0 a0_1 bt409.1 bt409.2).bind fun bt411 => (some (t406, bt411.1, bt411.2.1, 0)))) = some (r1, r2, r3, r4) := by rw [if_pos rfl] at H; exact H
   clear H
   have H := H1
   clear H1
   replace H := Option.bind_eq_some_iff.mp H
   obtain ⟨⟨t409, t410⟩, A70, H⟩ := H
   replace H : ((corebankref01_Sub.f a0_0 a0_1 t409 t410).bind fun bt411 => (some (t406, bt411.1, bt411.2.1, 0))) = some (r1, r2, r3, r4) := H
   have A7 := Aside0.mk A70
   clear A70
   replace H := Option.bind_eq_some_iff.mp H
   obtain ⟨⟨t411, t412, t413⟩, A80, H⟩ := H
   replace H : (some (t406, t411, t412, 0)) = some (r1, r2, r3, r4) := H
   have A8 := Aside0.mk A80
   clear A80
   simp only [Option.some.injEq, Prod.mk.injEq] at H
   obtain ⟨rfl, rfl, rfl, rfl⟩ := H
   go_enter Tryd.func17, Tryd.ntmps17
   try go_wp2_with (first | ((with_reducible refine gate_dst (N := 2) rfl ?_); refine be_ (N := 2) (cs := #[.int .i64 a0_0, .int .u64 a0_1]) (t := 24) ?_; intro gb404 hg w9 hbox hb; have n0_ := Aside0.mk (below_step (qb_ HB.out) hb); have n1_ := Aside0.mk (hbox); have n2_ := Aside0.mk (bz_ hg (qb_ HB.out) : w.heap.size ≤ gb404); have n3_ := n2_; clear HB; have HB := n0_; have BK404 := n1_; have GW404 := n2_; have GE404 := n3_; clear n0_ n1_ n2_ n3_; clear hb hbox hg) | ((with_reducible refine gate_dst (N := 5) rfl ?_); refine be_ (N := 5) (cs := #[.int .i64 0, .int .u64 0]) (t := 24) ?_; intro gb405 hg w10 hbox hb; have n0_ := Aside0.mk (blk_below (qk_ BK404.out) hb); have n1_ := Aside0.mk (below_step (qb1_ GE404.out HB.out) hb); have n2_ := Aside0.mk (hbox); have n3_ := Aside0.mk (bz_ hg (qb1_ GE404.out HB.out) : w.heap.size ≤ gb405); have n4_ := n3_; have n5_ := Aside0.mk (nl_ hg (qk_ BK404.out) : gb404 ≠ gb405); have n6_ := Aside0.mk (ng_ hg (qk_ BK404.out) : gb405 ≠ gb404); clear BK404; clear HB; have BK404 := n0_; have HB := n1_; have BK405 := n2_; have GW405 := n3_; have GE405 := n4_; have NB404_405 := n5_; have NB405_404 := n6_; clear n0_ n1_ n2_ n3_ n4_ n5_ n6_; clear hb hbox hg; have hnb11 := NB404_405.out; have hnc11 := NB405_404.out; have hcz12_0 : w10.cell? ⟨gb404, 0, none⟩ = some (.int .i64 a0_0) := (blk_cell BK404.out 0).trans rfl; have hcz12_1 : w10.cell? ⟨gb404, 1, none⟩ = some (.int .u64 a0_1) := (blk_cell BK404.out 1).trans rfl; have hfz12_0 := blk_frozen BK404.out 0; have hfz12_1 := blk_frozen BK404.out 1) | ((with_reducible refine gate_callee (f := 12) rfl ?_); refine goesL_ (some 14) rfl rfl Tryd.func12 (by kernel_rfl) rfl #[.agg #[.int .i64 a0_0, .int .u64 a0_1], .int .i64 1603080000000, .int .i64 a1] rfl ql_ ?_; (with_reducible refine (corebankref02_Divide.calls a0_0 a0_1 1603080000000 a1 t406 t407 _ A3.out).mono ?_); rintro e w13 ⟨rfl, hb⟩; refine ⟨_, rfl, ?_⟩; have n0_ := Aside0.mk (blk_below (qk_ BK404.out) hb); have n1_ := Aside0.mk (blk_below (qk_ BK405.out) hb); have n2_ := Aside0.mk (below_step (qb2_ GE404.out GE405.out HB.out) hb); clear BK404; clear BK405; clear HB; have BK404 := n0_; have BK405 := n1_; have HB := n2_; clear n0_ n1_ n2_; (try clear hb); (try clear hb2); (try clear hk); (try clear hi)) | ((with_reducible refine gate_callee (f := 27) rfl ?_); refine goesL_ (some 22) rfl rfl Tryd.func27 (by kernel_rfl) rfl #[.int .i64 t406] rfl ql_ ?_; (with_reducible refine (corebankref02_Good.calls t406 true _ A5.out).mono ?_); rintro e w' ⟨rfl, ⟨nd, rfl⟩⟩; refine ⟨_, rfl, ?_⟩; (try (rw [drewN_self w13]; generalize hq_ : World.drewN w13 _ = w13; have n0_ : Aside0 (w13.heap[gb404]? = some (.cells #[.int .i64 a0_0, .int .u64 a0_1] 24 (0, 0))) := ⟨by rw [← hq_]; exact (qk_ BK404.out)⟩; have n1_ : Aside0 (w13.heap[gb405]? = some (.cells #[.int .i64 0, .int .u64 0] 24 (0, 0))) := ⟨by rw [← hq_]; exact (qk_ BK405.out)⟩; have n2_ : Aside0 (Below w.heap.size w w13) := ⟨by rw [← hq_]; exact (qb2_ GE404.out GE405.out HB.out)⟩; clear BK404 BK405 HB hq_; have BK404 := n0_; have BK405 := n1_; have HB := n2_; clear n0_ n1_ n2_))))
   have n0_ := Aside0.mk (blk_drew BK404.out)
   have n1_ := Aside0.mk (blk_drew BK405.out)
   have n2_ := Aside0.mk (below_drew1 HB.out)
   clear BK404
   clear BK405
   clear HB
   have BK404 := n0_
   have BK405 := n1_
   have HB := n2_
   clear n0_ n1_ n2_
   refine start_ (n := 10) (S := fun w' => w'.cell? ⟨gb404, 0, none⟩ = some (.int .i64 a0_0) ∧ w'.cell? ⟨gb404, 1, none⟩ = some (.int .u64 a0_1)) (ds := []) (nb_ 10 0) (by kernel_rfl) rfl rfl ⟨(blk_cell BK404.out 0).trans rfl, (blk_cell BK404.out 1).trans rfl⟩ (fun hHeld => ?_); refine with_tabW corebankref02_AmountP.tab6 corebankref02_AmountP.bits6 (fun HT_ HW_ => ?_)
   generalize w13.drew = w14 at BK404 BK405 HB hHeld ⊢
   refine pz_ 1 27 (nb_ 10 2) HT_.out ?_
   refine tk2_ 0 26 (nb_ 10 3) HT_.out HW_.out hHeld ?_
   refine join_ (σ := Nat) 2 (nb_ 10 255) (fun s_ => [(28, .agg #[.int .i64 t409, .int .u64 t410]), (29, .tuple #[.agg #[.int .i64 t411, .int .u64 t412], .int .i64 t413]), (9, .pointer (some ⟨s_, 0, none⟩)), (25, .tuple #[.agg #[.int .i64 t411, .int .u64 t412], .int .i64 t413]), (30, .agg #[.int .i64 t411, .int .u64 t412]), (31, .int .i64 t413)]) (fun s_ w' => (w'.cell? ⟨gb404, 0, none⟩ = some (.int .i64 a0_0) ∧ w'.cell? ⟨gb404, 1, none⟩ = some (.int .u64 a0_1)) ∧ (w'.heap[gb404]? = some (.cells #[.int .i64 a0_0, .int .u64 a0_1] 24 (0, 0))) ∧ (w'.heap[gb405]? = some (.cells #[.int .i64 0, .int .u64 0] 24 (0, 0))) ∧ (w'.heap[s_]? = some (.cells #[.int .i64 0, .int .u64 0] 24 (0, 0))) ∧ (w.heap.size ≤ s_) ∧ (w.heap.size ≤ s_) ∧ (gb404 ≠ s_) ∧ (s_ ≠ gb404) ∧ (gb405 ≠ s_) ∧ (s_ ≠ gb405) ∧ (Below w.heap.size w w')) ?_ ?_
   rotate_left
   ·intro hCont
    refine two_ (i := 2) (j := 7) (Ni := some 28) (Nj := some 9) (nb_ 10 7) (nb_ 10 131) rfl rfl rfl rfl (two_of HT_.out (by kernel_rfl)) (by decide) (by decide) (fun K hK => ?_) (fun K hK => ?_)
    ·skip
     refine goes_ Tryd.func19 (by kernel_rfl) rfl #[.int .i64 t406, .int .i64 1603080000000] (by rfl) rfl rfl ql_ ?_
     with_reducible refine (corebankref01_Mul.calls t406 1603080000000 t409 t410 _ A7.out).mono ?_
     rintro e w15 ⟨rfl, hb⟩
     refine ⟨_, rfl, ?_⟩
     have n0_ := Aside0.mk (blk_below (qk_ BK404.out) hb)
     have n1_ := Aside0.mk (blk_below (qk_ BK405.out) hb)
     have n2_ := Aside0.mk (below_step (qb2_ GE404.out GE405.out HB.out) hb)
     clear BK404
     clear BK405
     clear HB
     have BK404 := n0_
     have BK405 := n1_
     have HB := n2_
     clear n0_ n1_ n2_
     (try clear hb)
     (try clear hb2)
     (try clear hk)
     (try clear hi)
     refine hK.out _ _ ⟨(blk_cell BK404.out 0).trans rfl, (blk_cell BK404.out 1).trans rfl⟩ (fun hHeld => ?_)
     clear hK K
     refine no_ ?_
     refine two_ (i := 3) (j := 7) (Ni := some 29) (Nj := some 9) (nb_ 10 15) (nb_ 10 135) rfl rfl rfl rfl (two_of HT_.out (by kernel_rfl)) (by decide) (by decide) (fun K hK => ?_) (fun K hK => ?_)
     ·skip
      refine goes_ Tryd.func28 (by kernel_rfl) rfl #[.agg #[.int .i64 a0_0, .int .u64 a0_1], .agg #[.int .i64 t409, .int .u64 t410]] (by rfl) rfl rfl ql_ ?_
      with_reducible refine (corebankref01_Sub.calls a0_0 a0_1 t409 t410 t411 t412 t413 _ A8.out).mono ?_
      rintro e w16 ⟨rfl, hb⟩
      refine ⟨_, rfl, ?_⟩
      have n0_ := Aside0.mk (blk_below (qk_ BK404.out) hb)
      have n1_ := Aside0.mk (blk_below (qk_ BK405.out) hb)
      have n2_ := Aside0.mk (below_step (qb2_ GE404.out GE405.out HB.out) hb)
      clear BK404
      clear BK405
      clear HB
      have BK404 := n0_
      have BK405 := n1_
      have HB := n2_
      clear n0_ n1_ n2_
      (try clear hb)
      (try clear hb2)
      (try clear hk)
      (try clear hi)
      refine hK.out _ _ ⟨(blk_cell BK404.out 0).trans rfl, (blk_cell BK404.out 1).trans rfl⟩ (fun hHeld => ?_)
      clear hK K
      refine no_ ?_
      refine pz_ 4 25 (nb_ 10 31) HT_.out ?_
      refine pz_ 5 30 (nb_ 10 63) HT_.out ?_
      refine pz_ 6 31 (nb_ 10 127) HT_.out ?_
      refine on_ 7 9 (nb_ 10 255) HT_.out (fun K hK => ?_)
      refine box_step ?hg (N := 9) ?hd (cs := #[.int .i64 0, .int .u64 0]) (t := 24) ?hr ?_; (case hd => rfl); (case hg => rfl); (case hr => first | (go_simp; done) | (go_simp; rfl))
      intro gb414 hg w17 hbox hb
      have n0_ := Aside0.mk (blk_below (qk_ BK404.out) hb)
      have n1_ := Aside0.mk (blk_below (qk_ BK405.out) hb)
      have n2_ := Aside0.mk (below_step (qb2_ GE404.out GE405.out HB.out) hb)
      have n3_ := Aside0.mk (hbox)
      have n4_ := Aside0.mk (bz_ hg (qb2_ GE404.out GE405.out HB.out) : w.heap.size ≤ gb414)
      have n5_ := Aside0.mk (bz_ hg (qb2_ GE404.out GE405.out HB.out) : w.heap.size ≤ gb414)
      have n6_ := Aside0.mk (nl_ hg (qk_ BK404.out) : gb404 ≠ gb414)
      have n7_ := Aside0.mk (ng_ hg (qk_ BK404.out) : gb414 ≠ gb404)
      have n8_ := Aside0.mk (nl_ hg (qk_ BK405.out) : gb405 ≠ gb414)
      have n9_ := Aside0.mk (ng_ hg (qk_ BK405.out) : gb414 ≠ gb405)
      clear BK404
      clear BK405
      clear HB
      have BK404 := n0_
      have BK405 := n1_
      have HB := n2_
      have BK414 := n3_
      have GW414 := n4_
      have GE414 := n5_
      have NB404_414 := n6_
      have NB414_404 := n7_
      have NB405_414 := n8_
      have NB414_405 := n9_
      clear n0_ n1_ n2_ n3_ n4_ n5_ n6_ n7_ n8_ n9_
      clear hb hbox hg
      refine hK.out _ _ ⟨(blk_cell BK404.out 0).trans rfl, (blk_cell BK404.out 1).trans rfl⟩ (fun hHeld => ?_)
      clear hK K
      refine no_ ?_
      exact norm_ (by simp only [putAll, Act.put, List.setIfInBounds_toArray, List.set_cons_zero, List.set_cons_succ]) (hCont (gb414) _ ⟨hHeld, (qk_ BK404.out), (qk_ BK405.out), (qk_ BK414.out), GW414.out, GE414.out, NB404_414.out, NB414_404.out, NB405_414.out, NB414_405.out, (qb3_ GE404.out GE405.out GE414.out HB.out)⟩)
     ·skip
      refine box_step ?hg (N := 9) ?hd (cs := #[.int .i64 0, .int .u64 0]) (t := 24) ?hr ?_; (case hd => rfl); (case hg => rfl); (case hr => first | (go_simp; done) | (go_simp; rfl))
      intro gb414 hg w16 hbox hb
      have n0_ := Aside0.mk (blk_below (qk_ BK404.out) hb)
      have n1_ := Aside0.mk (blk_below (qk_ BK405.out) hb)
      have n2_ := Aside0.mk (below_step (qb2_ GE404.out GE405.out HB.out) hb)
      have n3_ := Aside0.mk (hbox)
      have n4_ := Aside0.mk (bz_ hg (qb2_ GE404.out GE405.out HB.out) : w.heap.size ≤ gb414)
      have n5_ := Aside0.mk (bz_ hg (qb2_ GE404.out GE405.out HB.out) : w.heap.size ≤ gb414)
      have n6_ := Aside0.mk (nl_ hg (qk_ BK404.out) : gb404 ≠ gb414)
      have n7_ := Aside0.mk (ng_ hg (qk_ BK404.out) : gb414 ≠ gb404)
      have n8_ := Aside0.mk (nl_ hg (qk_ BK405.out) : gb405 ≠ gb414)
      have n9_ := Aside0.mk (ng_ hg (qk_ BK405.out) : gb414 ≠ gb405)
      clear BK404
      clear BK405
      clear HB
      have BK404 := n0_
      have BK405 := n1_
      have HB := n2_
      have BK414 := n3_
      have GW414 := n4_
      have GE414 := n5_
      have NB404_414 := n6_
      have NB414_404 := n7_
      have NB405_414 := n8_
      have NB414_405 := n9_
      clear n0_ n1_ n2_ n3_ n4_ n5_ n6_ n7_ n8_ n9_
      clear hb hbox hg
      refine hK.out _ _ ⟨(blk_cell BK404.out 0).trans rfl, (blk_cell BK404.out 1).trans rfl⟩ (fun hHeld => ?_)
      clear hK K
      refine no_ ?_
      refine on_ 3 29 (nb_ 10 143) HT_.out (fun K hK => ?_)
      refine goes_ Tryd.func28 (by kernel_rfl) rfl #[.agg #[.int .i64 a0_0, .int .u64 a0_1], .agg #[.int .i64 t409, .int .u64 t410]] (by rfl) rfl rfl ql_ ?_
      with_reducible refine (corebankref01_Sub.calls a0_0 a0_1 t409 t410 t411 t412 t413 _ A8.out).mono ?_
      rintro e w17 ⟨rfl, hb⟩
      refine ⟨_, rfl, ?_⟩
      have n0_ := Aside0.mk (blk_below (qk_ BK404.out) hb)
      have n1_ := Aside0.mk (blk_below (qk_ BK405.out) hb)
      have n2_ := Aside0.mk (blk_below (qk_ BK414.out) hb)
      have n3_ := Aside0.mk (below_step (qb3_ GE404.out GE405.out GE414.out HB.out) hb)
      clear BK404
      clear BK405
      clear BK414
      clear HB
      have BK404 := n0_
      have BK405 := n1_
      have BK414 := n2_
      have HB := n3_
      clear n0_ n1_ n2_ n3_
      (try clear hb)
      (try clear hb2)
      (try clear hk)
      (try clear hi)
      refine hK.out _ _ ⟨(blk_cell BK404.out 0).trans rfl, (blk_cell BK404.out 1).trans rfl⟩ (fun hHeld => ?_)
      clear hK K
      refine no_ ?_
      refine pz_ 4 25 (nb_ 10 159) HT_.out ?_
      refine pz_ 5 30 (nb_ 10 191) HT_.out ?_
      refine pz_ 6 31 (nb_ 10 255) HT_.out ?_
      exact norm_ (by simp only [putAll, Act.put, List.setIfInBounds_toArray, List.set_cons_zero, List.set_cons_succ]) (hCont (gb414) _ ⟨hHeld, (qk_ BK404.out), (qk_ BK405.out), (qk_ BK414.out), GW414.out, GE414.out, NB404_414.out, NB414_404.out, NB405_414.out, NB414_405.out, (qb3_ GE404.out GE405.out GE414.out HB.out)⟩)
    ·skip
     refine box_step ?hg (N := 9) ?hd (cs := #[.int .i64 0, .int .u64 0]) (t := 24) ?hr ?_; (case hd => rfl); (case hg => rfl); (case hr => first | (go_simp; done) | (go_simp; rfl))
     intro gb414 hg w15 hbox hb
     have n0_ := Aside0.mk (blk_below (qk_ BK404.out) hb)
     have n1_ := Aside0.mk (blk_below (qk_ BK405.out) hb)
     have n2_ := Aside0.mk (below_step (qb2_ GE404.out GE405.out HB.out) hb)
     have n3_ := Aside0.mk (hbox)
     have n4_ := Aside0.mk (bz_ hg (qb2_ GE404.out GE405.out HB.out) : w.heap.size ≤ gb414)
     have n5_ := Aside0.mk (bz_ hg (qb2_ GE404.out GE405.out HB.out) : w.heap.size ≤ gb414)
     have n6_ := Aside0.mk (nl_ hg (qk_ BK404.out) : gb404 ≠ gb414)
     have n7_ := Aside0.mk (ng_ hg (qk_ BK404.out) : gb414 ≠ gb404)
     have n8_ := Aside0.mk (nl_ hg (qk_ BK405.out) : gb405 ≠ gb414)
     have n9_ := Aside0.mk (ng_ hg (qk_ BK405.out) : gb414 ≠ gb405)
     clear BK404
     clear BK405
     clear HB
     have BK404 := n0_
     have BK405 := n1_
     have HB := n2_
     have BK414 := n3_
     have GW414 := n4_
     have GE414 := n5_
     have NB404_414 := n6_
     have NB414_404 := n7_
     have NB405_414 := n8_
     have NB414_405 := n9_
     clear n0_ n1_ n2_ n3_ n4_ n5_ n6_ n7_ n8_ n9_
     clear hb hbox hg
     refine hK.out _ _ ⟨(blk_cell BK404.out 0).trans rfl, (blk_cell BK404.out 1).trans rfl⟩ (fun hHeld => ?_)
     clear hK K
     refine no_ ?_
     refine on_ 2 28 (nb_ 10 135) HT_.out (fun K hK => ?_)
     refine goes_ Tryd.func19 (by kernel_rfl) rfl #[.int .i64 t406, .int .i64 1603080000000] (by rfl) rfl rfl ql_ ?_
     with_reducible refine (corebankref01_Mul.calls t406 1603080000000 t409 t410 _ A7.out).mono ?_
     rintro e w16 ⟨rfl, hb⟩
     refine ⟨_, rfl, ?_⟩
     have n0_ := Aside0.mk (blk_below (qk_ BK404.out) hb)
     have n1_ := Aside0.mk (blk_below (qk_ BK405.out) hb)
     have n2_ := Aside0.mk (blk_below (qk_ BK414.out) hb)
     have n3_ := Aside0.mk (below_step (qb3_ GE404.out GE405.out GE414.out HB.out) hb)
     clear BK404
     clear BK405
     clear BK414
     clear HB
     have BK404 := n0_
     have BK405 := n1_
     have BK414 := n2_
     have HB := n3_
     clear n0_ n1_ n2_ n3_
     (try clear hb)
     (try clear hb2)
     (try clear hk)
     (try clear hi)
     refine hK.out _ _ ⟨(blk_cell BK404.out 0).trans rfl, (blk_cell BK404.out 1).trans rfl⟩ (fun hHeld => ?_)
     clear hK K
     refine no_ ?_
     refine on_ 3 29 (nb_ 10 143) HT_.out (fun K hK => ?_)
     refine goes_ Tryd.func28 (by kernel_rfl) rfl #[.agg #[.int .i64 a0_0, .int .u64 a0_1], .agg #[.int .i64 t409, .int .u64 t410]] (by rfl) rfl rfl ql_ ?_
     with_reducible refine (corebankref01_Sub.calls a0_0 a0_1 t409 t410 t411 t412 t413 _ A8.out).mono ?_
     rintro e w17 ⟨rfl, hb⟩
     refine ⟨_, rfl, ?_⟩
     have n0_ := Aside0.mk (blk_below (qk_ BK404.out) hb)
     have n1_ := Aside0.mk (blk_below (qk_ BK405.out) hb)
     have n2_ := Aside0.mk (blk_below (qk_ BK414.out) hb)
     have n3_ := Aside0.mk (below_step (qb3_ GE404.out GE405.out GE414.out HB.out) hb)
     clear BK404
     clear BK405
     clear BK414
     clear HB
     have BK404 := n0_
     have BK405 := n1_
     have BK414 := n2_
     have HB := n3_
     clear n0_ n1_ n2_ n3_
     (try clear hb)
     (try clear hb2)
     (try clear hk)
     (try clear hi)
     refine hK.out _ _ ⟨(blk_cell BK404.out 0).trans rfl, (blk_cell BK404.out 1).trans rfl⟩ (fun hHeld => ?_)
     clear hK K
     refine no_ ?_
     refine pz_ 4 25 (nb_ 10 159) HT_.out ?_
     refine pz_ 5 30 (nb_ 10 191) HT_.out ?_
     refine pz_ 6 31 (nb_ 10 255) HT_.out ?_
     exact norm_ (by simp only [putAll, Act.put, List.setIfInBounds_toArray, List.set_cons_zero, List.set_cons_succ]) (hCont (gb414) _ ⟨hHeld, (qk_ BK404.out), (qk_ BK405.out), (qk_ BK414.out), GW414.out, GE414.out, NB404_414.out, NB414_404.out, NB405_414.out, NB414_405.out, (qb3_ GE404.out GE405.out GE414.out HB.out)⟩)
   rintro gb414 w18 ⟨hS_, h0_, h1_, h2_, h3_, h4_, h5_, h6_, h7_, h8_, h9_⟩
   have n0_ : Aside0 (w18.heap[gb404]? = some (.cells #[.int .i64 a0_0, .int .u64 a0_1] 24 (0, 0))) := ⟨h0_⟩
   have n1_ : Aside0 (w18.heap[gb405]? = some (.cells #[.int .i64 0, .int .u64 0] 24 (0, 0))) := ⟨h1_⟩
   have n2_ : Aside0 (w18.heap[gb414]? = some (.cells #[.int .i64 0, .int .u64 0] 24 (0, 0))) := ⟨h2_⟩
   have n3_ : Aside0 (w.heap.size ≤ gb414) := ⟨h3_⟩
   have n4_ : Aside0 (w.heap.size ≤ gb414) := ⟨h4_⟩
   have n5_ : Aside0 (gb404 ≠ gb414) := ⟨h5_⟩
   have n6_ : Aside0 (gb414 ≠ gb404) := ⟨h6_⟩
   have n7_ : Aside0 (gb405 ≠ gb414) := ⟨h7_⟩
   have n8_ : Aside0 (gb414 ≠ gb405) := ⟨h8_⟩
   have n9_ : Aside0 (Below w.heap.size w w18) := ⟨h9_⟩
   clear BK404
   clear BK405
   clear HB
   clear h0_ h1_ h2_ h3_ h4_ h5_ h6_ h7_ h8_ h9_
   have BK404 := n0_
   have BK405 := n1_
   have BK414 := n2_
   have GW414 := n3_
   have GE414 := n4_
   have NB404_414 := n5_
   have NB414_404 := n6_
   have NB405_414 := n7_
   have NB414_405 := n8_
   have HB := n9_
   clear n0_ n1_ n2_ n3_ n4_ n5_ n6_ n7_ n8_ n9_
   have hHeld : w18.cell? ⟨gb404, 0, none⟩ = some (.int .i64 a0_0) ∧ w18.cell? ⟨gb404, 1, none⟩ = some (.int .u64 a0_1) := hS_
   refine norm_ (a' := ?_) ?_ ?_
   rotate_left
   ·simp only [putAll, Act.put, List.setIfInBounds_toArray, List.set_cons_zero, List.set_cons_succ]
    rfl
   refine one_ (i := 8) (N := none) (nb_ 10 511) rfl rfl (one_of HT_.out (by kernel_rfl)) (by decide) (fun K hK => ?_)
   have hs19 : w18.cell? ⟨gb414, 0, none⟩ = some (.int .i64 0) := (blk_cell BK414.out 0).trans rfl
   have hfs19 := blk_frozen BK414.out 0
   have hns19_0 := NB404_414.out
   have hns19_1 := NB405_414.out
   have hms19_0 := NB414_404.out
   have hms19_1 := NB414_405.out
   have hs20 : w18.cell? ⟨gb414, 1, none⟩ = some (.int .u64 0) := (blk_cell BK414.out 1).trans rfl
   have hfs20 := blk_frozen BK414.out 1
   have hns20_0 := NB404_414.out
   have hns20_1 := NB405_414.out
   have hms20_0 := NB414_404.out
   have hms20_1 := NB414_405.out
   refine skip_ (w1 := ?_) (by rfl) rfl ?_ ?_
   rotate_left
   ·go_simp
    rfl
   refine hK.out _ _ ⟨((cell_far (p := ⟨gb414, _, none⟩) NB404_414.out _).trans (((cell_far (p := ⟨gb414, _, none⟩) NB404_414.out _).trans (hHeld.1)))), ((cell_far (p := ⟨gb414, _, none⟩) NB404_414.out _).trans (((cell_far (p := ⟨gb414, _, none⟩) NB404_414.out _).trans (hHeld.2))))⟩ (fun hHeld => ?_)
   clear hK K
   refine pz_ 9 10 (nb_ 10 1023) HT_.out ?_
   refine done_ (done_of HT_.out (by kernel_rfl)) ?_
   try go_wp2
   have n0_ : Aside0 (((w18.setCell ⟨gb414, 0, none⟩ (.int .i64 t411)).setCell ⟨gb414, 1, none⟩ (.int .u64 t412)).heap[gb404]? = some (.cells #[.int .i64 a0_0, .int .u64 a0_1] 24 (0, 0))) := ⟨qff_ NB404_414.out NB404_414.out BK404.out⟩
   have n1_ : Aside0 (((w18.setCell ⟨gb414, 0, none⟩ (.int .i64 t411)).setCell ⟨gb414, 1, none⟩ (.int .u64 t412)).heap[gb405]? = some (.cells #[.int .i64 0, .int .u64 0] 24 (0, 0))) := ⟨qff_ NB405_414.out NB405_414.out BK405.out⟩
   have n2_ : Aside0 (((w18.setCell ⟨gb414, 0, none⟩ (.int .i64 t411)).setCell ⟨gb414, 1, none⟩ (.int .u64 t412)).heap[gb414]? = some (.cells #[.int .i64 t411, .int .u64 t412] 24 (0, 0))) := ⟨qpp_ #[.int .i64 t411, .int .u64 0] 1 #[.int .i64 0, .int .u64 0] 0 BK414.out⟩
   have n3_ : Aside0 (Below w.heap.size w ((w18.setCell ⟨gb414, 0, none⟩ (.int .i64 t411)).setCell ⟨gb414, 1, none⟩ (.int .u64 t412))) := ⟨qb3_ GE404.out GE405.out GE414.out HB.out⟩
   (try clear BK404)
   (try clear BK405)
   (try clear BK414)
   (try clear HB)
   generalize ((w18.setCell ⟨gb414, 0, none⟩ (.int .i64 t411)).setCell ⟨gb414, 1, none⟩ (.int .u64 t412)) = w21 at n0_ n1_ n2_ n3_ ⊢
   have BK404 := n0_
   have BK405 := n1_
   have BK414 := n2_
   have HB := n3_
   clear n0_ n1_ n2_ n3_
   have n0_ := Aside0.mk (blk_drew BK404.out)
   have n1_ := Aside0.mk (blk_drew BK405.out)
   have n2_ := Aside0.mk (blk_drew BK414.out)
   have n3_ := Aside0.mk (below_drew1 HB.out)
   clear BK404
   clear BK405
   clear BK414
   clear HB
   have BK404 := n0_
   have BK405 := n1_
   have BK414 := n2_
   have HB := n3_
   clear n0_ n1_ n2_ n3_
   refine start_ (n := 5) (S := fun w' => w'.cell? ⟨gb414, 0, none⟩ = some (.int .i64 t411) ∧ w'.cell? ⟨gb414, 1, none⟩ = some (.int .u64 t412)) (ds := []) (nb_ 5 0) (by kernel_rfl) rfl rfl ⟨(blk_cell BK414.out 0).trans rfl, (blk_cell BK414.out 1).trans rfl⟩ (fun hHeld => ?_)
   generalize w21.drew = w22 at BK404 BK405 BK414 HB hHeld ⊢
   refine pure_ (i := 0) (N := some 32) (v := ?_) (a' := ?_) (nb_ 5 1) rfl rfl (by kernel_rfl) (fun _ _ _ h => h) (Or.inl ⟨by rfl, ?_⟩) ?_ ?_
   rotate_left
   ·intro w'
    go_simp
    with_reducible rfl
   rotate_left
   ·simp only [Act.put, List.setIfInBounds_toArray, List.set_cons_zero, List.set_cons_succ, i64_w, i32_w]
    rfl
   refine pure_ (i := 2) (N := some 4) (v := ?_) (a' := ?_) (nb_ 5 5) rfl rfl (by kernel_rfl) (fun _ _ _ h => h) (Or.inl ⟨by rfl, ?_⟩) ?_ ?_
   rotate_left
   ·intro w'
    go_simp
    with_reducible rfl
   rotate_left
   ·simp only [Act.put, List.setIfInBounds_toArray, List.set_cons_zero, List.set_cons_succ, i64_w, i32_w]
    rfl
   refine take_ (i := 1) (N := some 33) (v := ?_) (a' := ?_) (nb_ 5 7) rfl rfl (by kernel_rfl) (fun _ _ _ h => h) (Or.inl ⟨by rfl, ?_⟩) hHeld ?_ ?_
   rotate_left
   ·rintro w' ⟨s0, s1⟩
    go_simp
    with_reducible rfl
   rotate_left
   ·simp only [Act.put, List.setIfInBounds_toArray, List.set_cons_zero, List.set_cons_succ, i64_w, i32_w]
    rfl
   refine one_ (i := 3) (N := none) (nb_ 5 15) rfl rfl (by kernel_rfl) (by decide) (fun K hK => ?_)
   have hs23 : w22.cell? ⟨gb405, 0, none⟩ = some (.int .i64 0) := (blk_cell BK405.out 0).trans rfl
   have hfs23 := blk_frozen BK405.out 0
   have hns23_0 := NB404_405.out
   have hns23_2 := NB414_405.out
   have hms23_0 := NB405_404.out
   have hms23_2 := NB405_414.out
   have hs24 : w22.cell? ⟨gb405, 1, none⟩ = some (.int .u64 0) := (blk_cell BK405.out 1).trans rfl
   have hfs24 := blk_frozen BK405.out 1
   have hns24_0 := NB404_405.out
   have hns24_2 := NB414_405.out
   have hms24_0 := NB405_404.out
   have hms24_2 := NB405_414.out
   refine skip_ (w1 := ?_) (by rfl) rfl ?_ ?_
   rotate_left
   ·go_simp
    rfl
   refine hK.out _ _ ⟨((cell_far (p := ⟨gb405, _, none⟩) NB414_405.out _).trans (((cell_far (p := ⟨gb405, _, none⟩) NB414_405.out _).trans (hHeld.1)))), ((cell_far (p := ⟨gb405, _, none⟩) NB414_405.out _).trans (((cell_far (p := ⟨gb405, _, none⟩) NB414_405.out _).trans (hHeld.2))))⟩ (fun hHeld => ?_)
   clear hK K
   refine pure_ (i := 4) (N := some 6) (v := ?_) (a' := ?_) (nb_ 5 31) rfl rfl (by kernel_rfl) (fun _ _ _ h => h) (Or.inl ⟨by rfl, ?_⟩) ?_ ?_
   rotate_left
   ·intro w'
    go_simp
    with_reducible rfl
   rotate_left
   ·simp only [Act.put, List.setIfInBounds_toArray, List.set_cons_zero, List.set_cons_succ, i64_w, i32_w]
    rfl
   refine done_ (by kernel_rfl) ?_
   try go_wp2
   refine bodyPost_ret (results_list (rs := [.tmp 4, .cell 5 24, .tmp 6]) rfl (by simp) (.tmp (.cell gb405 24 #[.int .i64 t411, .int .u64 t412] (0, 0) _ rfl (qpp_ #[.int .i64 t411, .int .u64 0] 1 #[.int .i64 0, .int .u64 0] 0 BK405.out) Tryd.underlying24 rfl (by kernel_rfl) (.tmp .nil)))) rfl ?_
   exact ⟨qe_, qb3_ GE404.out GE405.out GE414.out HB.out⟩
  ·replace c6 := Bool.eq_false_iff.mpr c6
   subst c6
   have H1 : (some (0, 0, 0, 6)) = some (r1, r2, r3, r4) := by rw [if_neg (show ¬ (false = true) by decide)] at H; exact H
   clear H
   have H := H1
   clear H1
   simp only [Option.some.injEq, Prod.mk.injEq] at H
   obtain ⟨rfl, rfl, rfl, rfl⟩ := H
   go_enter Tryd.func17, Tryd.ntmps17
   go_wp2_with (first | ((with_reducible refine gate_dst (N := 2) rfl ?_); refine be_ (N := 2) (cs := #[.int .i64 a0_0, .int .u64 a0_1]) (t := 24) ?_; intro gb404 hg w25 hbox hb; have n0_ := Aside0.mk (below_step (qb_ HB.out) hb); have n1_ := Aside0.mk (hbox); have n2_ := Aside0.mk (bz_ hg (qb_ HB.out) : w.heap.size ≤ gb404); have n3_ := n2_; clear HB; have HB := n0_; have BK404 := n1_; have GW404 := n2_; have GE404 := n3_; clear n0_ n1_ n2_ n3_; clear hb hbox hg) | ((with_reducible refine gate_dst (N := 5) rfl ?_); refine be_ (N := 5) (cs := #[.int .i64 0, .int .u64 0]) (t := 24) ?_; intro gb405 hg w26 hbox hb; have n0_ := Aside0.mk (blk_below (qk_ BK404.out) hb); have n1_ := Aside0.mk (below_step (qb1_ GE404.out HB.out) hb); have n2_ := Aside0.mk (hbox); have n3_ := Aside0.mk (bz_ hg (qb1_ GE404.out HB.out) : w.heap.size ≤ gb405); have n4_ := n3_; have n5_ := Aside0.mk (nl_ hg (qk_ BK404.out) : gb404 ≠ gb405); have n6_ := Aside0.mk (ng_ hg (qk_ BK404.out) : gb405 ≠ gb404); clear BK404; clear HB; have BK404 := n0_; have HB := n1_; have BK405 := n2_; have GW405 := n3_; have GE405 := n4_; have NB404_405 := n5_; have NB405_404 := n6_; clear n0_ n1_ n2_ n3_ n4_ n5_ n6_; clear hb hbox hg; have hnb27 := NB404_405.out; have hnc27 := NB405_404.out; have hcz28_0 : w26.cell? ⟨gb404, 0, none⟩ = some (.int .i64 a0_0) := (blk_cell BK404.out 0).trans rfl; have hcz28_1 : w26.cell? ⟨gb404, 1, none⟩ = some (.int .u64 a0_1) := (blk_cell BK404.out 1).trans rfl; have hfz28_0 := blk_frozen BK404.out 0; have hfz28_1 := blk_frozen BK404.out 1) | ((with_reducible refine gate_callee (f := 12) rfl ?_); refine goesL_ (some 14) rfl rfl Tryd.func12 (by kernel_rfl) rfl #[.agg #[.int .i64 a0_0, .int .u64 a0_1], .int .i64 1603080000000, .int .i64 a1] rfl ql_ ?_; (with_reducible refine (corebankref02_Divide.calls a0_0 a0_1 1603080000000 a1 t406 t407 _ A3.out).mono ?_); rintro e w29 ⟨rfl, hb⟩; refine ⟨_, rfl, ?_⟩; have n0_ := Aside0.mk (blk_below (qk_ BK404.out) hb); have n1_ := Aside0.mk (blk_below (qk_ BK405.out) hb); have n2_ := Aside0.mk (below_step (qb2_ GE404.out GE405.out HB.out) hb); clear BK404; clear BK405; clear HB; have BK404 := n0_; have BK405 := n1_; have HB := n2_; clear n0_ n1_ n2_; (try clear hb); (try clear hb2); (try clear hk); (try clear hi)) | ((with_reducible refine gate_callee (f := 27) rfl ?_); refine goesL_ (some 22) rfl rfl Tryd.func27 (by kernel_rfl) rfl #[.int .i64 t406] rfl ql_ ?_; (with_reducible refine (corebankref02_Good.calls t406 false _ A5.out).mono ?_); rintro e w' ⟨rfl, ⟨nd, rfl⟩⟩; refine ⟨_, rfl, ?_⟩; (try (rw [drewN_self w29]; generalize hq_ : World.drewN w29 _ = w29; have n0_ : Aside0 (w29.heap[gb404]? = some (.cells #[.int .i64 a0_0, .int .u64 a0_1] 24 (0, 0))) := ⟨by rw [← hq_]; exact (qk_ BK404.out)⟩; have n1_ : Aside0 (w29.heap[gb405]? = some (.cells #[.int .i64 0, .int .u64 0] 24 (0, 0))) := ⟨by rw [← hq_]; exact (qk_ BK405.out)⟩; have n2_ : Aside0 (Below w.heap.size w w29) := ⟨by rw [← hq_]; exact (qb2_ GE404.out GE405.out HB.out)⟩; clear BK404 BK405 HB hq_; have BK404 := n0_; have BK405 := n1_; have HB := n2_; clear n0_ n1_ n2_)); have hcz30_0 : w29.cell? ⟨gb405, 0, none⟩ = some (.int .i64 0) := (blk_cell BK405.out 0).trans rfl; have hcz30_1 : w29.cell? ⟨gb405, 1, none⟩ = some (.int .u64 0) := (blk_cell BK405.out 1).trans rfl; have hfz30_0 := blk_frozen BK405.out 0; have hfz30_1 := blk_frozen BK405.out 1))
   refine bodyPost_ret (results_list (rs := [.tmp 4, .cell 5 24, .tmp 6]) rfl (by simp) (.tmp (.cell gb405 24 #[.int .i64 0, .int .u64 0] (0, 0) _ rfl (qpp_ #[.int .i64 0, .int .u64 0] 1 #[.int .i64 0, .int .u64 0] 0 BK405.out) Tryd.underlying24 rfl (by kernel_rfl) (.tmp .nil)))) rfl ?_
   exact ⟨qe_, qb2_ GE404.out GE405.out HB.out⟩
 ·rw [if_neg c4] at H
  have c4b0 : (t407 == 0) = false := beq_eq_false_iff_ne.mpr c4
  have c4b1 : (t407 != 0) = true := bne_iff_ne.mpr c4
  simp only [Option.some.injEq, Prod.mk.injEq] at H
  obtain ⟨rfl, rfl, rfl, rfl⟩ := H
  go_enter Tryd.func17, Tryd.ntmps17
  go_wp2_with (first | ((with_reducible refine gate_dst (N := 2) rfl ?_); refine be_ (N := 2) (cs := #[.int .i64 a0_0, .int .u64 a0_1]) (t := 24) ?_; intro gb404 hg w31 hbox hb; have n0_ := Aside0.mk (below_step (qb_ HB.out) hb); have n1_ := Aside0.mk (hbox); have n2_ := Aside0.mk (bz_ hg (qb_ HB.out) : w.heap.size ≤ gb404); have n3_ := n2_; clear HB; have HB := n0_; have BK404 := n1_; have GW404 := n2_; have GE404 := n3_; clear n0_ n1_ n2_ n3_; clear hb hbox hg) | ((with_reducible refine gate_dst (N := 5) rfl ?_); refine be_ (N := 5) (cs := #[.int .i64 0, .int .u64 0]) (t := 24) ?_; intro gb405 hg w32 hbox hb; have n0_ := Aside0.mk (blk_below (qk_ BK404.out) hb); have n1_ := Aside0.mk (below_step (qb1_ GE404.out HB.out) hb); have n2_ := Aside0.mk (hbox); have n3_ := Aside0.mk (bz_ hg (qb1_ GE404.out HB.out) : w.heap.size ≤ gb405); have n4_ := n3_; have n5_ := Aside0.mk (nl_ hg (qk_ BK404.out) : gb404 ≠ gb405); have n6_ := Aside0.mk (ng_ hg (qk_ BK404.out) : gb405 ≠ gb404); clear BK404; clear HB; have BK404 := n0_; have HB := n1_; have BK405 := n2_; have GW405 := n3_; have GE405 := n4_; have NB404_405 := n5_; have NB405_404 := n6_; clear n0_ n1_ n2_ n3_ n4_ n5_ n6_; clear hb hbox hg; have hnb33 := NB404_405.out; have hnc33 := NB405_404.out; have hcz34_0 : w32.cell? ⟨gb404, 0, none⟩ = some (.int .i64 a0_0) := (blk_cell BK404.out 0).trans rfl; have hcz34_1 : w32.cell? ⟨gb404, 1, none⟩ = some (.int .u64 a0_1) := (blk_cell BK404.out 1).trans rfl; have hfz34_0 := blk_frozen BK404.out 0; have hfz34_1 := blk_frozen BK404.out 1) | ((with_reducible refine gate_callee (f := 12) rfl ?_); refine goesL_ (some 14) rfl rfl Tryd.func12 (by kernel_rfl) rfl #[.agg #[.int .i64 a0_0, .int .u64 a0_1], .int .i64 1603080000000, .int .i64 a1] rfl ql_ ?_; (with_reducible refine (corebankref02_Divide.calls a0_0 a0_1 1603080000000 a1 t406 t407 _ A3.out).mono ?_); rintro e w35 ⟨rfl, hb⟩; refine ⟨_, rfl, ?_⟩; have n0_ := Aside0.mk (blk_below (qk_ BK404.out) hb); have n1_ := Aside0.mk (blk_below (qk_ BK405.out) hb); have n2_ := Aside0.mk (below_step (qb2_ GE404.out GE405.out HB.out) hb); clear BK404; clear BK405; clear HB; have BK404 := n0_; have BK405 := n1_; have HB := n2_; clear n0_ n1_ n2_; (try clear hb); (try clear hb2); (try clear hk); (try clear hi); have hcz36_0 : w35.cell? ⟨gb405, 0, none⟩ = some (.int .i64 0) := (blk_cell BK405.out 0).trans rfl; have hcz36_1 : w35.cell? ⟨gb405, 1, none⟩ = some (.int .u64 0) := (blk_cell BK405.out 1).trans rfl; have hfz36_0 := blk_frozen BK405.out 0; have hfz36_1 := blk_frozen BK405.out 1))
  refine bodyPost_ret (results_list (rs := [.tmp 4, .cell 5 24, .tmp 6]) rfl (by simp) (.tmp (.cell gb405 24 #[.int .i64 0, .int .u64 0] (0, 0) _ rfl (qpp_ #[.int .i64 0, .int .u64 0] 1 #[.int .i64 0, .int .u64 0] 0 BK405.out) Tryd.underlying24 rfl (by kernel_rfl) (.tmp .nil)))) rfl ?_
  exact ⟨qe_, qb2_ GE404.out GE405.out HB.out⟩
end Go.Proofs.YtkdhippoibjfkaaDoor.PR
