import Derived.Test.YtkdhippoibjfkaaDoorQRm2
import Derived.Test.YtkdhippoibjfkaaDoorQRm5
import Derived.Test.YtkdhippoibjfkaaDoorQRm8
section
namespace Go.Proofs.YtkdhippoibjfkaaDoor.PR
open Go.RowKit Go.Proofs.YtkdhippoibjfkaaDoorW.PrintWords Go.Proofs.YtkdhippoibjfkaaDoorW.PrintLast
set_option linter.unusedVariables false
set_option linter.unusedSimpArgs false
def rounding_AmountP.f (a0_0 : Int) (a0_1 : Int) (a1 : Int) : Option (Int × Int × Int × Int) := (rounding_Divide.f a0_0 a0_1 1603080000000 a1).bind fun bt268 => (if bt268.2 = 0 then ((rounding_valid.f bt268.1).bind fun t270 => (if t270 = true then ((wide_Mul.f bt268.1 1603080000000).bind fun bt271 => ((wide_Sub.f a0_0 a0_1 bt271.1 bt271.2).bind fun bt273 => (some (bt268.1, bt273.1, bt273.2.1, 0)))) else (some (0, 0, 0, 6)))) else (some (0, 0, 0, bt268.2)))
def rounding_AmountP.T6 : Bool × List (List Nat × List Nat) := (true, [([], []), ([], []), ([1], [1]), ([0, 2, 2], [0, 2]), ([3], [3]), ([4], [4]), ([4], [4]), ([], []), ([7, 5, 3, 0, 1, 2, 3, 4, 5, 7], [5, 7]), ([6, 8, 0, 1, 2, 3, 4, 5, 6, 7, 8], [6])])
def rounding_AmountP.B6 : List Nat := [0, 0, 2, 7, 15, 31, 31, 0, 191, 511]
theorem rounding_AmountP.tab6 : rtab .any (opsOf Tryd.f16 6) = rounding_AmountP.T6 := by kernel_rfl
theorem rounding_AmountP.bits6 : waitsOk rounding_AmountP.T6.2 rounding_AmountP.B6 = true := by kernel_rfl
set_option maxHeartbeats 8000000 in
set_option maxRecDepth 100000 in
theorem rounding_AmountP.calls (a0_0 : Int) (a0_1 : Int) (a1 : Int) (r1 : Int) (r2 : Int) (r3 : Int) (r4 : Int) (w : World) (hG : GW w) (h : rounding_AmountP.f a0_0 a0_1 a1 = some (r1, r2, r3, r4)) :
  Calls Tryd.prog 16 #[.agg #[.int .i64 a0_0, .int .u64 a0_1], .int .i64 a1] w fun e w' => e = .returned (.tuple #[.int .i64 r1, .agg #[.int .i64 r2, .int .u64 r3], .int .i64 r4]) ∧ Below w.heap.size w w' := by
 have hu24 := Tryd.underlying24
 have HB := Aside0.mk (Below.refl w.heap.size w)
 have H : ((rounding_Divide.f a0_0 a0_1 1603080000000 a1).bind fun bt268 => (if bt268.2 = 0 then ((rounding_valid.f bt268.1).bind fun t270 => (if t270 = true then ((wide_Mul.f bt268.1 1603080000000).bind fun bt271 => ((wide_Sub.f a0_0 a0_1 bt271.1 bt271.2).bind fun bt273 => (some (bt268.1, bt273.1, bt273.2.1, 0)))) else (some (0, 0, 0, 6)))) else (some (0, 0, 0, bt268.2)))) = some (r1, r2, r3, r4) := h
 clear h
 replace H := Option.bind_eq_some_iff.mp H
 obtain ⟨⟨t268, t269⟩, A30, H⟩ := H
 replace H : (if t269 = 0 then ((rounding_valid.f t268).bind fun t270 => (if t270 = true then ((wide_Mul.f t268 1603080000000).bind fun bt271 => ((wide_Sub.f a0_0 a0_1 bt271.1 bt271.2).bind fun bt273 => (some (t268, bt273.1, bt273.2.1, 0)))) else (some (0, 0, 0, 6)))) else (some (0, 0, 0, t269))) = some (r1, r2, r3, r4) := H
 have A3 := Aside0.mk A30
 clear A30
 by_cases c4 : t269 = 0
 ·rw [if_pos c4] at H
  have c4b0 : (t269 == 0) = true := beq_iff_eq.mpr c4
  have c4b1 : (t269 != 0) = false := bne_eq_false_iff_eq.mpr c4
  clear c4
  replace H := Option.bind_eq_some_iff.mp H
  obtain ⟨t270, A50, H⟩ := H
  replace H : (if t270 = true then ((wide_Mul.f t268 1603080000000).bind fun bt271 => ((wide_Sub.f a0_0 a0_1 bt271.1 bt271.2).bind fun bt273 => (some (t268, bt273.1, bt273.2.1, 0)))) else (some (0, 0, 0, 6))) = some (r1, r2, r3, r4) := H
  have A5 := Aside0.mk A50
  clear A50
  by_cases c6 : t270 = true
  ·subst c6
   have H1 : ((wide_Mul.f t268 1603080000000).bind fun bt271 => ((wide_Sub.f a0_0 a0_1 bt271.1 bt271.2).bind fun bt273 => (some (t268, bt273.1, bt273.2.1, 0)))) = some (r1, r2, r3, r4) := by rw [if_pos rfl] at H; exact H
   clear H
   have H := H1
   clear H1
   replace H := Option.bind_eq_some_iff.mp H
   obtain ⟨⟨t271, t272⟩, A70, H⟩ := H
   replace H : ((wide_Sub.f a0_0 a0_1 t271 t272).bind fun bt273 => (some (t268, bt273.1, bt273.2.1, 0))) = some (r1, r2, r3, r4) := H
   have A7 := Aside0.mk A70
   clear A70
   replace H := Option.bind_eq_some_iff.mp H
   obtain ⟨⟨t273, t274, t275⟩, A80, H⟩ := H
   replace H : (some (t268, t273, t274, 0)) = some (r1, r2, r3, r4) := H
   have A8 := Aside0.mk A80
   clear A80
   simp only [Option.some.injEq, Prod.mk.injEq] at H
   obtain ⟨rfl, rfl, rfl, rfl⟩ := H
   go_enter Tryd.func16, Tryd.ntmps16
   try go_wp2_with (first | ((with_reducible refine gate_dst (N := 2) rfl ?_); refine be_ (N := 2) (cs := #[.int .i64 a0_0, .int .u64 a0_1]) (t := 24) ?_; intro gb266 hg w9 hbox hb; have n0_ := Aside0.mk (below_step (qb_ HB.out) hb); have n1_ := Aside0.mk (hbox); have n2_ := Aside0.mk (bz_ hg (qb_ HB.out) : w.heap.size ≤ gb266); have n3_ := n2_; clear HB; have HB := n0_; have BK266 := n1_; have GW266 := n2_; have GE266 := n3_; clear n0_ n1_ n2_ n3_; clear hb hbox hg) | ((with_reducible refine gate_dst (N := 5) rfl ?_); refine be_ (N := 5) (cs := #[.int .i64 0, .int .u64 0]) (t := 24) ?_; intro gb267 hg w10 hbox hb; have n0_ := Aside0.mk (blk_below (qk_ BK266.out) hb); have n1_ := Aside0.mk (below_step (qb1_ GE266.out HB.out) hb); have n2_ := Aside0.mk (hbox); have n3_ := Aside0.mk (bz_ hg (qb1_ GE266.out HB.out) : w.heap.size ≤ gb267); have n4_ := n3_; have n5_ := Aside0.mk (nl_ hg (qk_ BK266.out) : gb266 ≠ gb267); have n6_ := Aside0.mk (ng_ hg (qk_ BK266.out) : gb267 ≠ gb266); clear BK266; clear HB; have BK266 := n0_; have HB := n1_; have BK267 := n2_; have GW267 := n3_; have GE267 := n4_; have NB266_267 := n5_; have NB267_266 := n6_; clear n0_ n1_ n2_ n3_ n4_ n5_ n6_; clear hb hbox hg; have hnb11 := NB266_267.out; have hnc11 := NB267_266.out; have hcz12_0 : w10.cell? ⟨gb266, 0, none⟩ = some (.int .i64 a0_0) := (blk_cell BK266.out 0).trans rfl; have hcz12_1 : w10.cell? ⟨gb266, 1, none⟩ = some (.int .u64 a0_1) := (blk_cell BK266.out 1).trans rfl; have hfz12_0 := blk_frozen BK266.out 0; have hfz12_1 := blk_frozen BK266.out 1) | ((with_reducible refine gate_callee (f := 11) rfl ?_); refine goesL_ (some 14) rfl rfl Tryd.func11 (by kernel_rfl) rfl #[.agg #[.int .i64 a0_0, .int .u64 a0_1], .int .i64 1603080000000, .int .i64 a1] rfl ql_ ?_; (with_reducible refine (rounding_Divide.calls (hG := by first | exact hG | (with_reducible exact GW.below hG (qb2_ GE266.out GE267.out HB.out)) | (with_reducible repeat (first | exact hG | apply GW.drewN | apply GW.drew))) a0_0 a0_1 1603080000000 a1 t268 t269 _ A3.out).mono ?_); rintro e w13 ⟨rfl, hb⟩; refine ⟨_, rfl, ?_⟩; have n0_ := Aside0.mk (blk_below (qk_ BK266.out) hb); have n1_ := Aside0.mk (blk_below (qk_ BK267.out) hb); have n2_ := Aside0.mk (below_step (qb2_ GE266.out GE267.out HB.out) hb); clear BK266; clear BK267; clear HB; have BK266 := n0_; have BK267 := n1_; have HB := n2_; clear n0_ n1_ n2_; (try clear hb); (try clear hb2); (try clear hk); (try clear hi)) | ((with_reducible refine gate_callee (f := 40) rfl ?_); refine goesL_ (some 22) rfl rfl Tryd.func40 (by kernel_rfl) rfl #[.int .i64 t268] rfl ql_ ?_; (with_reducible refine (rounding_valid.calls t268 true _ A5.out).mono ?_); rintro e w' ⟨rfl, ⟨nd, rfl⟩⟩; refine ⟨_, rfl, ?_⟩; (try (rw [drewN_self w13]; generalize hq_ : World.drewN w13 _ = w13; have n0_ : Aside0 (w13.heap[gb266]? = some (.cells #[.int .i64 a0_0, .int .u64 a0_1] 24 (0, 0))) := ⟨by rw [← hq_]; exact (qk_ BK266.out)⟩; have n1_ : Aside0 (w13.heap[gb267]? = some (.cells #[.int .i64 0, .int .u64 0] 24 (0, 0))) := ⟨by rw [← hq_]; exact (qk_ BK267.out)⟩; have n2_ : Aside0 (Below w.heap.size w w13) := ⟨by rw [← hq_]; exact (qb2_ GE266.out GE267.out HB.out)⟩; clear BK266 BK267 HB hq_; have BK266 := n0_; have BK267 := n1_; have HB := n2_; clear n0_ n1_ n2_))))
   have n0_ := Aside0.mk (blk_drew BK266.out)
   have n1_ := Aside0.mk (blk_drew BK267.out)
   have n2_ := Aside0.mk (below_drew1 HB.out)
   clear BK266
   clear BK267
   clear HB
   have BK266 := n0_
   have BK267 := n1_
   have HB := n2_
   clear n0_ n1_ n2_
   refine start_ (n := 10) (S := fun w' => w'.cell? ⟨gb266, 0, none⟩ = some (.int .i64 a0_0) ∧ w'.cell? ⟨gb266, 1, none⟩ = some (.int .u64 a0_1)) (ds := []) (nb_ 10 0) (by kernel_rfl) rfl rfl ⟨(blk_cell BK266.out 0).trans rfl, (blk_cell BK266.out 1).trans rfl⟩ (fun hHeld => ?_); refine with_tabW rounding_AmountP.tab6 rounding_AmountP.bits6 (fun HT_ HW_ => ?_)
   generalize w13.drew = w14 at BK266 BK267 HB hHeld ⊢
   refine pz_ 1 27 (nb_ 10 2) HT_.out ?_
   refine tk2_ 0 26 (nb_ 10 3) HT_.out HW_.out hHeld ?_
   refine join_ (σ := Nat) 2 (nb_ 10 255) (fun s_ => [(28, .agg #[.int .i64 t271, .int .u64 t272]), (29, .tuple #[.agg #[.int .i64 t273, .int .u64 t274], .int .i64 t275]), (9, .pointer (some ⟨s_, 0, none⟩)), (25, .tuple #[.agg #[.int .i64 t273, .int .u64 t274], .int .i64 t275]), (30, .agg #[.int .i64 t273, .int .u64 t274]), (31, .int .i64 t275)]) (fun s_ w' => (w'.cell? ⟨gb266, 0, none⟩ = some (.int .i64 a0_0) ∧ w'.cell? ⟨gb266, 1, none⟩ = some (.int .u64 a0_1)) ∧ (w'.heap[gb266]? = some (.cells #[.int .i64 a0_0, .int .u64 a0_1] 24 (0, 0))) ∧ (w'.heap[gb267]? = some (.cells #[.int .i64 0, .int .u64 0] 24 (0, 0))) ∧ (w'.heap[s_]? = some (.cells #[.int .i64 0, .int .u64 0] 24 (0, 0))) ∧ (w.heap.size ≤ s_) ∧ (w.heap.size ≤ s_) ∧ (gb266 ≠ s_) ∧ (s_ ≠ gb266) ∧ (gb267 ≠ s_) ∧ (s_ ≠ gb267) ∧ (Below w.heap.size w w')) ?_ ?_
   rotate_left
   ·intro hCont
    refine two_ (i := 2) (j := 7) (Ni := some 28) (Nj := some 9) (nb_ 10 7) (nb_ 10 131) rfl rfl rfl rfl (two_of HT_.out (by kernel_rfl)) (by decide) (by decide) (fun K hK => ?_) (fun K hK => ?_)
    ·skip
     refine goes_ Tryd.func42 (by kernel_rfl) rfl #[.int .i64 t268, .int .i64 1603080000000] (by rfl) rfl rfl ql_ ?_
     with_reducible refine (wide_Mul.calls t268 1603080000000 t271 t272 _ A7.out).mono ?_
     rintro e w15 ⟨rfl, hb⟩
     refine ⟨_, rfl, ?_⟩
     have n0_ := Aside0.mk (blk_below (qk_ BK266.out) hb)
     have n1_ := Aside0.mk (blk_below (qk_ BK267.out) hb)
     have n2_ := Aside0.mk (below_step (qb2_ GE266.out GE267.out HB.out) hb)
     clear BK266
     clear BK267
     clear HB
     have BK266 := n0_
     have BK267 := n1_
     have HB := n2_
     clear n0_ n1_ n2_
     (try clear hb)
     (try clear hb2)
     (try clear hk)
     (try clear hi)
     refine hK.out _ _ ⟨(blk_cell BK266.out 0).trans rfl, (blk_cell BK266.out 1).trans rfl⟩ (fun hHeld => ?_)
     clear hK K
     refine no_ ?_
     refine two_ (i := 3) (j := 7) (Ni := some 29) (Nj := some 9) (nb_ 10 15) (nb_ 10 135) rfl rfl rfl rfl (two_of HT_.out (by kernel_rfl)) (by decide) (by decide) (fun K hK => ?_) (fun K hK => ?_)
     ·skip
      refine goes_ Tryd.func41 (by kernel_rfl) rfl #[.agg #[.int .i64 a0_0, .int .u64 a0_1], .agg #[.int .i64 t271, .int .u64 t272]] (by rfl) rfl rfl ql_ ?_
      with_reducible refine (wide_Sub.calls a0_0 a0_1 t271 t272 t273 t274 t275 _ A8.out).mono ?_
      rintro e w16 ⟨rfl, hb⟩
      refine ⟨_, rfl, ?_⟩
      have n0_ := Aside0.mk (blk_below (qk_ BK266.out) hb)
      have n1_ := Aside0.mk (blk_below (qk_ BK267.out) hb)
      have n2_ := Aside0.mk (below_step (qb2_ GE266.out GE267.out HB.out) hb)
      clear BK266
      clear BK267
      clear HB
      have BK266 := n0_
      have BK267 := n1_
      have HB := n2_
      clear n0_ n1_ n2_
      (try clear hb)
      (try clear hb2)
      (try clear hk)
      (try clear hi)
      refine hK.out _ _ ⟨(blk_cell BK266.out 0).trans rfl, (blk_cell BK266.out 1).trans rfl⟩ (fun hHeld => ?_)
      clear hK K
      refine no_ ?_
      refine pz_ 4 25 (nb_ 10 31) HT_.out ?_
      refine pz_ 5 30 (nb_ 10 63) HT_.out ?_
      refine pz_ 6 31 (nb_ 10 127) HT_.out ?_
      refine on_ 7 9 (nb_ 10 255) HT_.out (fun K hK => ?_)
      refine box_step ?hg (N := 9) ?hd (cs := #[.int .i64 0, .int .u64 0]) (t := 24) ?hr ?_; (case hd => rfl); (case hg => rfl); (case hr => first | (go_simp; done) | (go_simp; rfl))
      intro gb276 hg w17 hbox hb
      have n0_ := Aside0.mk (blk_below (qk_ BK266.out) hb)
      have n1_ := Aside0.mk (blk_below (qk_ BK267.out) hb)
      have n2_ := Aside0.mk (below_step (qb2_ GE266.out GE267.out HB.out) hb)
      have n3_ := Aside0.mk (hbox)
      have n4_ := Aside0.mk (bz_ hg (qb2_ GE266.out GE267.out HB.out) : w.heap.size ≤ gb276)
      have n5_ := Aside0.mk (bz_ hg (qb2_ GE266.out GE267.out HB.out) : w.heap.size ≤ gb276)
      have n6_ := Aside0.mk (nl_ hg (qk_ BK266.out) : gb266 ≠ gb276)
      have n7_ := Aside0.mk (ng_ hg (qk_ BK266.out) : gb276 ≠ gb266)
      have n8_ := Aside0.mk (nl_ hg (qk_ BK267.out) : gb267 ≠ gb276)
      have n9_ := Aside0.mk (ng_ hg (qk_ BK267.out) : gb276 ≠ gb267)
      clear BK266
      clear BK267
      clear HB
      have BK266 := n0_
      have BK267 := n1_
      have HB := n2_
      have BK276 := n3_
      have GW276 := n4_
      have GE276 := n5_
      have NB266_276 := n6_
      have NB276_266 := n7_
      have NB267_276 := n8_
      have NB276_267 := n9_
      clear n0_ n1_ n2_ n3_ n4_ n5_ n6_ n7_ n8_ n9_
      clear hb hbox hg
      refine hK.out _ _ ⟨(blk_cell BK266.out 0).trans rfl, (blk_cell BK266.out 1).trans rfl⟩ (fun hHeld => ?_)
      clear hK K
      refine no_ ?_
      exact norm_ (by simp only [putAll, Act.put, List.setIfInBounds_toArray, List.set_cons_zero, List.set_cons_succ]) (hCont (gb276) _ ⟨hHeld, (qk_ BK266.out), (qk_ BK267.out), (qk_ BK276.out), GW276.out, GE276.out, NB266_276.out, NB276_266.out, NB267_276.out, NB276_267.out, (qb3_ GE266.out GE267.out GE276.out HB.out)⟩)
     ·skip
      refine box_step ?hg (N := 9) ?hd (cs := #[.int .i64 0, .int .u64 0]) (t := 24) ?hr ?_; (case hd => rfl); (case hg => rfl); (case hr => first | (go_simp; done) | (go_simp; rfl))
      intro gb276 hg w16 hbox hb
      have n0_ := Aside0.mk (blk_below (qk_ BK266.out) hb)
      have n1_ := Aside0.mk (blk_below (qk_ BK267.out) hb)
      have n2_ := Aside0.mk (below_step (qb2_ GE266.out GE267.out HB.out) hb)
      have n3_ := Aside0.mk (hbox)
      have n4_ := Aside0.mk (bz_ hg (qb2_ GE266.out GE267.out HB.out) : w.heap.size ≤ gb276)
      have n5_ := Aside0.mk (bz_ hg (qb2_ GE266.out GE267.out HB.out) : w.heap.size ≤ gb276)
      have n6_ := Aside0.mk (nl_ hg (qk_ BK266.out) : gb266 ≠ gb276)
      have n7_ := Aside0.mk (ng_ hg (qk_ BK266.out) : gb276 ≠ gb266)
      have n8_ := Aside0.mk (nl_ hg (qk_ BK267.out) : gb267 ≠ gb276)
      have n9_ := Aside0.mk (ng_ hg (qk_ BK267.out) : gb276 ≠ gb267)
      clear BK266
      clear BK267
      clear HB
      have BK266 := n0_
      have BK267 := n1_
      have HB := n2_
      have BK276 := n3_
      have GW276 := n4_
      have GE276 := n5_
      have NB266_276 := n6_
      have NB276_266 := n7_
      have NB267_276 := n8_
      have NB276_267 := n9_
      clear n0_ n1_ n2_ n3_ n4_ n5_ n6_ n7_ n8_ n9_
      clear hb hbox hg
      refine hK.out _ _ ⟨(blk_cell BK266.out 0).trans rfl, (blk_cell BK266.out 1).trans rfl⟩ (fun hHeld => ?_)
      clear hK K
      refine no_ ?_
      refine on_ 3 29 (nb_ 10 143) HT_.out (fun K hK => ?_)
      refine goes_ Tryd.func41 (by kernel_rfl) rfl #[.agg #[.int .i64 a0_0, .int .u64 a0_1], .agg #[.int .i64 t271, .int .u64 t272]] (by rfl) rfl rfl ql_ ?_
      with_reducible refine (wide_Sub.calls a0_0 a0_1 t271 t272 t273 t274 t275 _ A8.out).mono ?_
      rintro e w17 ⟨rfl, hb⟩
      refine ⟨_, rfl, ?_⟩
      have n0_ := Aside0.mk (blk_below (qk_ BK266.out) hb)
      have n1_ := Aside0.mk (blk_below (qk_ BK267.out) hb)
      have n2_ := Aside0.mk (blk_below (qk_ BK276.out) hb)
      have n3_ := Aside0.mk (below_step (qb3_ GE266.out GE267.out GE276.out HB.out) hb)
      clear BK266
      clear BK267
      clear BK276
      clear HB
      have BK266 := n0_
      have BK267 := n1_
      have BK276 := n2_
      have HB := n3_
      clear n0_ n1_ n2_ n3_
      (try clear hb)
      (try clear hb2)
      (try clear hk)
      (try clear hi)
      refine hK.out _ _ ⟨(blk_cell BK266.out 0).trans rfl, (blk_cell BK266.out 1).trans rfl⟩ (fun hHeld => ?_)
      clear hK K
      refine no_ ?_
      refine pz_ 4 25 (nb_ 10 159) HT_.out ?_
      refine pz_ 5 30 (nb_ 10 191) HT_.out ?_
      refine pz_ 6 31 (nb_ 10 255) HT_.out ?_
      exact norm_ (by simp only [putAll, Act.put, List.setIfInBounds_toArray, List.set_cons_zero, List.set_cons_succ]) (hCont (gb276) _ ⟨hHeld, (qk_ BK266.out), (qk_ BK267.out), (qk_ BK276.out), GW276.out, GE276.out, NB266_276.out, NB276_266.out, NB267_276.out, NB276_267.out, (qb3_ GE266.out GE267.out GE276.out HB.out)⟩)
    ·skip
     refine box_step ?hg (N := 9) ?hd (cs := #[.int .i64 0, .int .u64 0]) (t := 24) ?hr ?_; (case hd => rfl); (case hg => rfl); (case hr => first | (go_simp; done) | (go_simp; rfl))
     intro gb276 hg w15 hbox hb
     have n0_ := Aside0.mk (blk_below (qk_ BK266.out) hb)
     have n1_ := Aside0.mk (blk_below (qk_ BK267.out) hb)
     have n2_ := Aside0.mk (below_step (qb2_ GE266.out GE267.out HB.out) hb)
     have n3_ := Aside0.mk (hbox)
     have n4_ := Aside0.mk (bz_ hg (qb2_ GE266.out GE267.out HB.out) : w.heap.size ≤ gb276)
     have n5_ := Aside0.mk (bz_ hg (qb2_ GE266.out GE267.out HB.out) : w.heap.size ≤ gb276)
     have n6_ := Aside0.mk (nl_ hg (qk_ BK266.out) : gb266 ≠ gb276)
     have n7_ := Aside0.mk (ng_ hg (qk_ BK266.out) : gb276 ≠ gb266)
     have n8_ := Aside0.mk (nl_ hg (qk_ BK267.out) : gb267 ≠ gb276)
     have n9_ := Aside0.mk (ng_ hg (qk_ BK267.out) : gb276 ≠ gb267)
     clear BK266
     clear BK267
     clear HB
     have BK266 := n0_
     have BK267 := n1_
     have HB := n2_
     have BK276 := n3_
     have GW276 := n4_
     have GE276 := n5_
     have NB266_276 := n6_
     have NB276_266 := n7_
     have NB267_276 := n8_
     have NB276_267 := n9_
     clear n0_ n1_ n2_ n3_ n4_ n5_ n6_ n7_ n8_ n9_
     clear hb hbox hg
     refine hK.out _ _ ⟨(blk_cell BK266.out 0).trans rfl, (blk_cell BK266.out 1).trans rfl⟩ (fun hHeld => ?_)
     clear hK K
     refine no_ ?_
     refine on_ 2 28 (nb_ 10 135) HT_.out (fun K hK => ?_)
     refine goes_ Tryd.func42 (by kernel_rfl) rfl #[.int .i64 t268, .int .i64 1603080000000] (by rfl) rfl rfl ql_ ?_
     with_reducible refine (wide_Mul.calls t268 1603080000000 t271 t272 _ A7.out).mono ?_
     rintro e w16 ⟨rfl, hb⟩
     refine ⟨_, rfl, ?_⟩
     have n0_ := Aside0.mk (blk_below (qk_ BK266.out) hb)
     have n1_ := Aside0.mk (blk_below (qk_ BK267.out) hb)
     have n2_ := Aside0.mk (blk_below (qk_ BK276.out) hb)
     have n3_ := Aside0.mk (below_step (qb3_ GE266.out GE267.out GE276.out HB.out) hb)
     clear BK266
     clear BK267
     clear BK276
     clear HB
     have BK266 := n0_
     have BK267 := n1_
     have BK276 := n2_
     have HB := n3_
     clear n0_ n1_ n2_ n3_
     (try clear hb)
     (try clear hb2)
     (try clear hk)
     (try clear hi)
     refine hK.out _ _ ⟨(blk_cell BK266.out 0).trans rfl, (blk_cell BK266.out 1).trans rfl⟩ (fun hHeld => ?_)
     clear hK K
     refine no_ ?_
     refine on_ 3 29 (nb_ 10 143) HT_.out (fun K hK => ?_)
     refine goes_ Tryd.func41 (by kernel_rfl) rfl #[.agg #[.int .i64 a0_0, .int .u64 a0_1], .agg #[.int .i64 t271, .int .u64 t272]] (by rfl) rfl rfl ql_ ?_
     with_reducible refine (wide_Sub.calls a0_0 a0_1 t271 t272 t273 t274 t275 _ A8.out).mono ?_
     rintro e w17 ⟨rfl, hb⟩
     refine ⟨_, rfl, ?_⟩
     have n0_ := Aside0.mk (blk_below (qk_ BK266.out) hb)
     have n1_ := Aside0.mk (blk_below (qk_ BK267.out) hb)
     have n2_ := Aside0.mk (blk_below (qk_ BK276.out) hb)
     have n3_ := Aside0.mk (below_step (qb3_ GE266.out GE267.out GE276.out HB.out) hb)
     clear BK266
     clear BK267
     clear BK276
     clear HB
     have BK266 := n0_
     have BK267 := n1_
     have BK276 := n2_
     have HB := n3_
     clear n0_ n1_ n2_ n3_
     (try clear hb)
     (try clear hb2)
     (try clear hk)
     (try clear hi)
     refine hK.out _ _ ⟨(blk_cell BK266.out 0).trans rfl, (blk_cell BK266.out 1).trans rfl⟩ (fun hHeld => ?_)
     clear hK K
     refine no_ ?_
     refine pz_ 4 25 (nb_ 10 159) HT_.out ?_
     refine pz_ 5 30 (nb_ 10 191) HT_.out ?_
     refine pz_ 6 31 (nb_ 10 255) HT_.out ?_
     exact norm_ (by simp only [putAll, Act.put, List.setIfInBounds_toArray, List.set_cons_zero, List.set_cons_succ]) (hCont (gb276) _ ⟨hHeld, (qk_ BK266.out), (qk_ BK267.out), (qk_ BK276.out), GW276.out, GE276.out, NB266_276.out, NB276_266.out, NB267_276.out, NB276_267.out, (qb3_ GE266.out GE267.out GE276.out HB.out)⟩)
   rintro gb276 w18 ⟨hS_, h0_, h1_, h2_, h3_, h4_, h5_, h6_, h7_, h8_, h9_⟩
   have n0_ : Aside0 (w18.heap[gb266]? = some (.cells #[.int .i64 a0_0, .int .u64 a0_1] 24 (0, 0))) := ⟨h0_⟩
   have n1_ : Aside0 (w18.heap[gb267]? = some (.cells #[.int .i64 0, .int .u64 0] 24 (0, 0))) := ⟨h1_⟩
   have n2_ : Aside0 (w18.heap[gb276]? = some (.cells #[.int .i64 0, .int .u64 0] 24 (0, 0))) := ⟨h2_⟩
   have n3_ : Aside0 (w.heap.size ≤ gb276) := ⟨h3_⟩
   have n4_ : Aside0 (w.heap.size ≤ gb276) := ⟨h4_⟩
   have n5_ : Aside0 (gb266 ≠ gb276) := ⟨h5_⟩
   have n6_ : Aside0 (gb276 ≠ gb266) := ⟨h6_⟩
   have n7_ : Aside0 (gb267 ≠ gb276) := ⟨h7_⟩
   have n8_ : Aside0 (gb276 ≠ gb267) := ⟨h8_⟩
   have n9_ : Aside0 (Below w.heap.size w w18) := ⟨h9_⟩
   clear BK266
   clear BK267
   clear HB
   clear h0_ h1_ h2_ h3_ h4_ h5_ h6_ h7_ h8_ h9_
   have BK266 := n0_
   have BK267 := n1_
   have BK276 := n2_
   have GW276 := n3_
   have GE276 := n4_
   have NB266_276 := n5_
   have NB276_266 := n6_
   have NB267_276 := n7_
   have NB276_267 := n8_
   have HB := n9_
   clear n0_ n1_ n2_ n3_ n4_ n5_ n6_ n7_ n8_ n9_
   have hHeld : w18.cell? ⟨gb266, 0, none⟩ = some (.int .i64 a0_0) ∧ w18.cell? ⟨gb266, 1, none⟩ = some (.int .u64 a0_1) := hS_
   refine norm_ (a' := ?_) ?_ ?_
   rotate_left
   ·simp only [putAll, Act.put, List.setIfInBounds_toArray, List.set_cons_zero, List.set_cons_succ]
    rfl
   refine one_ (i := 8) (N := none) (nb_ 10 511) rfl rfl (one_of HT_.out (by kernel_rfl)) (by decide) (fun K hK => ?_)
   have hs19 : w18.cell? ⟨gb276, 0, none⟩ = some (.int .i64 0) := (blk_cell BK276.out 0).trans rfl
   have hfs19 := blk_frozen BK276.out 0
   have hns19_0 := NB266_276.out
   have hns19_1 := NB267_276.out
   have hms19_0 := NB276_266.out
   have hms19_1 := NB276_267.out
   have hs20 : w18.cell? ⟨gb276, 1, none⟩ = some (.int .u64 0) := (blk_cell BK276.out 1).trans rfl
   have hfs20 := blk_frozen BK276.out 1
   have hns20_0 := NB266_276.out
   have hns20_1 := NB267_276.out
   have hms20_0 := NB276_266.out
   have hms20_1 := NB276_267.out
   refine skip_ (w1 := ?_) (by rfl) rfl ?_ ?_
   rotate_left
   ·go_simp
    rfl
   refine hK.out _ _ ⟨((cell_far (p := ⟨gb276, _, none⟩) NB266_276.out _).trans (((cell_far (p := ⟨gb276, _, none⟩) NB266_276.out _).trans (hHeld.1)))), ((cell_far (p := ⟨gb276, _, none⟩) NB266_276.out _).trans (((cell_far (p := ⟨gb276, _, none⟩) NB266_276.out _).trans (hHeld.2))))⟩ (fun hHeld => ?_)
   clear hK K
   refine pz_ 9 10 (nb_ 10 1023) HT_.out ?_
   refine done_ (done_of HT_.out (by kernel_rfl)) ?_
   try go_wp2
   have n0_ : Aside0 (((w18.setCell ⟨gb276, 0, none⟩ (.int .i64 t273)).setCell ⟨gb276, 1, none⟩ (.int .u64 t274)).heap[gb266]? = some (.cells #[.int .i64 a0_0, .int .u64 a0_1] 24 (0, 0))) := ⟨qff_ NB266_276.out NB266_276.out BK266.out⟩
   have n1_ : Aside0 (((w18.setCell ⟨gb276, 0, none⟩ (.int .i64 t273)).setCell ⟨gb276, 1, none⟩ (.int .u64 t274)).heap[gb267]? = some (.cells #[.int .i64 0, .int .u64 0] 24 (0, 0))) := ⟨qff_ NB267_276.out NB267_276.out BK267.out⟩
   have n2_ : Aside0 (((w18.setCell ⟨gb276, 0, none⟩ (.int .i64 t273)).setCell ⟨gb276, 1, none⟩ (.int .u64 t274)).heap[gb276]? = some (.cells #[.int .i64 t273, .int .u64 t274] 24 (0, 0))) := ⟨qpp_ #[.int .i64 t273, .int .u64 0] 1 #[.int .i64 0, .int .u64 0] 0 BK276.out⟩
   have n3_ : Aside0 (Below w.heap.size w ((w18.setCell ⟨gb276, 0, none⟩ (.int .i64 t273)).setCell ⟨gb276, 1, none⟩ (.int .u64 t274))) := ⟨qb3_ GE266.out GE267.out GE276.out HB.out⟩
   (try clear BK266)
   (try clear BK267)
   (try clear BK276)
   (try clear HB)
   generalize ((w18.setCell ⟨gb276, 0, none⟩ (.int .i64 t273)).setCell ⟨gb276, 1, none⟩ (.int .u64 t274)) = w21 at n0_ n1_ n2_ n3_ ⊢
   have BK266 := n0_
   have BK267 := n1_
   have BK276 := n2_
   have HB := n3_
   clear n0_ n1_ n2_ n3_
   have n0_ := Aside0.mk (blk_drew BK266.out)
   have n1_ := Aside0.mk (blk_drew BK267.out)
   have n2_ := Aside0.mk (blk_drew BK276.out)
   have n3_ := Aside0.mk (below_drew1 HB.out)
   clear BK266
   clear BK267
   clear BK276
   clear HB
   have BK266 := n0_
   have BK267 := n1_
   have BK276 := n2_
   have HB := n3_
   clear n0_ n1_ n2_ n3_
   refine start_ (n := 5) (S := fun w' => w'.cell? ⟨gb276, 0, none⟩ = some (.int .i64 t273) ∧ w'.cell? ⟨gb276, 1, none⟩ = some (.int .u64 t274)) (ds := []) (nb_ 5 0) (by kernel_rfl) rfl rfl ⟨(blk_cell BK276.out 0).trans rfl, (blk_cell BK276.out 1).trans rfl⟩ (fun hHeld => ?_)
   generalize w21.drew = w22 at BK266 BK267 BK276 HB hHeld ⊢
   refine pure_ (i := 0) (N := some 32) (v := ?_) (a' := ?_) (nb_ 5 1) rfl rfl (by kernel_rfl) (fun _ _ _ h => h) (Or.inl ⟨by rfl, ?_⟩) ?_ ?_
   rotate_left
   ·intro w'
    go_simp
    with_reducible rfl
   rotate_left
   ·simp only [Act.put, List.setIfInBounds_toArray, List.set_cons_zero, List.set_cons_succ, i64_w, i32_w]
    rfl
   refine pure_ (i := 2) (N := some 4) (v := ?_) (a' := ?_) (nb_ 5 5) rfl rfl (by kernel_rfl) (fun _ _ _ h => h) (Or.inl ⟨by rfl, ?_⟩) ?_ ?_
   rotate_left
   ·intro w'
    go_simp
    with_reducible rfl
   rotate_left
   ·simp only [Act.put, List.setIfInBounds_toArray, List.set_cons_zero, List.set_cons_succ, i64_w, i32_w]
    rfl
   refine take_ (i := 1) (N := some 33) (v := ?_) (a' := ?_) (nb_ 5 7) rfl rfl (by kernel_rfl) (fun _ _ _ h => h) (Or.inl ⟨by rfl, ?_⟩) hHeld ?_ ?_
   rotate_left
   ·rintro w' ⟨s0, s1⟩
    go_simp
    with_reducible rfl
   rotate_left
   ·simp only [Act.put, List.setIfInBounds_toArray, List.set_cons_zero, List.set_cons_succ, i64_w, i32_w]
    rfl
   refine one_ (i := 3) (N := none) (nb_ 5 15) rfl rfl (by kernel_rfl) (by decide) (fun K hK => ?_)
   have hs23 : w22.cell? ⟨gb267, 0, none⟩ = some (.int .i64 0) := (blk_cell BK267.out 0).trans rfl
   have hfs23 := blk_frozen BK267.out 0
   have hns23_0 := NB266_267.out
   have hns23_2 := NB276_267.out
   have hms23_0 := NB267_266.out
   have hms23_2 := NB267_276.out
   have hs24 : w22.cell? ⟨gb267, 1, none⟩ = some (.int .u64 0) := (blk_cell BK267.out 1).trans rfl
   have hfs24 := blk_frozen BK267.out 1
   have hns24_0 := NB266_267.out
   have hns24_2 := NB276_267.out
   have hms24_0 := NB267_266.out
   have hms24_2 := NB267_276.out
   refine skip_ (w1 := ?_) (by rfl) rfl ?_ ?_
   rotate_left
   ·go_simp
    rfl
   refine hK.out _ _ ⟨((cell_far (p := ⟨gb267, _, none⟩) NB276_267.out _).trans (((cell_far (p := ⟨gb267, _, none⟩) NB276_267.out _).trans (hHeld.1)))), ((cell_far (p := ⟨gb267, _, none⟩) NB276_267.out _).trans (((cell_far (p := ⟨gb267, _, none⟩) NB276_267.out _).trans (hHeld.2))))⟩ (fun hHeld => ?_)
   clear hK K
   refine pure_ (i := 4) (N := some 6) (v := ?_) (a' := ?_) (nb_ 5 31) rfl rfl (by kernel_rfl) (fun _ _ _ h => h) (Or.inl ⟨by rfl, ?_⟩) ?_ ?_
   rotate_left
   ·intro w'
    go_simp
    with_reducible rfl
   rotate_left
   ·simp only [Act.put, List.setIfInBounds_toArray, List.set_cons_zero, List.set_cons_succ, i64_w, i32_w]
    rfl
   refine done_ (by kernel_rfl) ?_
   try go_wp2
   refine bodyPost_ret (results_list (rs := [.tmp 4, .cell 5 24, .tmp 6]) rfl (by simp) (.tmp (.cell gb267 24 #[.int .i64 t273, .int .u64 t274] (0, 0) _ rfl (qpp_ #[.int .i64 t273, .int .u64 0] 1 #[.int .i64 0, .int .u64 0] 0 BK267.out) Tryd.underlying24 rfl (by kernel_rfl) (.tmp .nil)))) rfl ?_
   exact ⟨qe_, qb3_ GE266.out GE267.out GE276.out HB.out⟩
  ·replace c6 := Bool.eq_false_iff.mpr c6
   subst c6
   have H1 : (some (0, 0, 0, 6)) = some (r1, r2, r3, r4) := by rw [if_neg (show ¬ (false = true) by decide)] at H; exact H
   clear H
   have H := H1
   clear H1
   simp only [Option.some.injEq, Prod.mk.injEq] at H
   obtain ⟨rfl, rfl, rfl, rfl⟩ := H
   go_enter Tryd.func16, Tryd.ntmps16
   go_wp2_with (first | ((with_reducible refine gate_dst (N := 2) rfl ?_); refine be_ (N := 2) (cs := #[.int .i64 a0_0, .int .u64 a0_1]) (t := 24) ?_; intro gb266 hg w25 hbox hb; have n0_ := Aside0.mk (below_step (qb_ HB.out) hb); have n1_ := Aside0.mk (hbox); have n2_ := Aside0.mk (bz_ hg (qb_ HB.out) : w.heap.size ≤ gb266); have n3_ := n2_; clear HB; have HB := n0_; have BK266 := n1_; have GW266 := n2_; have GE266 := n3_; clear n0_ n1_ n2_ n3_; clear hb hbox hg) | ((with_reducible refine gate_dst (N := 5) rfl ?_); refine be_ (N := 5) (cs := #[.int .i64 0, .int .u64 0]) (t := 24) ?_; intro gb267 hg w26 hbox hb; have n0_ := Aside0.mk (blk_below (qk_ BK266.out) hb); have n1_ := Aside0.mk (below_step (qb1_ GE266.out HB.out) hb); have n2_ := Aside0.mk (hbox); have n3_ := Aside0.mk (bz_ hg (qb1_ GE266.out HB.out) : w.heap.size ≤ gb267); have n4_ := n3_; have n5_ := Aside0.mk (nl_ hg (qk_ BK266.out) : gb266 ≠ gb267); have n6_ := Aside0.mk (ng_ hg (qk_ BK266.out) : gb267 ≠ gb266); clear BK266; clear HB; have BK266 := n0_; have HB := n1_; have BK267 := n2_; have GW267 := n3_; have GE267 := n4_; have NB266_267 := n5_; have NB267_266 := n6_; clear n0_ n1_ n2_ n3_ n4_ n5_ n6_; clear hb hbox hg; have hnb27 := NB266_267.out; have hnc27 := NB267_266.out; have hcz28_0 : w26.cell? ⟨gb266, 0, none⟩ = some (.int .i64 a0_0) := (blk_cell BK266.out 0).trans rfl; have hcz28_1 : w26.cell? ⟨gb266, 1, none⟩ = some (.int .u64 a0_1) := (blk_cell BK266.out 1).trans rfl; have hfz28_0 := blk_frozen BK266.out 0; have hfz28_1 := blk_frozen BK266.out 1) | ((with_reducible refine gate_callee (f := 11) rfl ?_); refine goesL_ (some 14) rfl rfl Tryd.func11 (by kernel_rfl) rfl #[.agg #[.int .i64 a0_0, .int .u64 a0_1], .int .i64 1603080000000, .int .i64 a1] rfl ql_ ?_; (with_reducible refine (rounding_Divide.calls (hG := by first | exact hG | (with_reducible exact GW.below hG (qb2_ GE266.out GE267.out HB.out)) | (with_reducible repeat (first | exact hG | apply GW.drewN | apply GW.drew))) a0_0 a0_1 1603080000000 a1 t268 t269 _ A3.out).mono ?_); rintro e w29 ⟨rfl, hb⟩; refine ⟨_, rfl, ?_⟩; have n0_ := Aside0.mk (blk_below (qk_ BK266.out) hb); have n1_ := Aside0.mk (blk_below (qk_ BK267.out) hb); have n2_ := Aside0.mk (below_step (qb2_ GE266.out GE267.out HB.out) hb); clear BK266; clear BK267; clear HB; have BK266 := n0_; have BK267 := n1_; have HB := n2_; clear n0_ n1_ n2_; (try clear hb); (try clear hb2); (try clear hk); (try clear hi)) | ((with_reducible refine gate_callee (f := 40) rfl ?_); refine goesL_ (some 22) rfl rfl Tryd.func40 (by kernel_rfl) rfl #[.int .i64 t268] rfl ql_ ?_; (with_reducible refine (rounding_valid.calls t268 false _ A5.out).mono ?_); rintro e w' ⟨rfl, ⟨nd, rfl⟩⟩; refine ⟨_, rfl, ?_⟩; (try (rw [drewN_self w29]; generalize hq_ : World.drewN w29 _ = w29; have n0_ : Aside0 (w29.heap[gb266]? = some (.cells #[.int .i64 a0_0, .int .u64 a0_1] 24 (0, 0))) := ⟨by rw [← hq_]; exact (qk_ BK266.out)⟩; have n1_ : Aside0 (w29.heap[gb267]? = some (.cells #[.int .i64 0, .int .u64 0] 24 (0, 0))) := ⟨by rw [← hq_]; exact (qk_ BK267.out)⟩; have n2_ : Aside0 (Below w.heap.size w w29) := ⟨by rw [← hq_]; exact (qb2_ GE266.out GE267.out HB.out)⟩; clear BK266 BK267 HB hq_; have BK266 := n0_; have BK267 := n1_; have HB := n2_; clear n0_ n1_ n2_)); have hcz30_0 : w29.cell? ⟨gb267, 0, none⟩ = some (.int .i64 0) := (blk_cell BK267.out 0).trans rfl; have hcz30_1 : w29.cell? ⟨gb267, 1, none⟩ = some (.int .u64 0) := (blk_cell BK267.out 1).trans rfl; have hfz30_0 := blk_frozen BK267.out 0; have hfz30_1 := blk_frozen BK267.out 1))
   refine bodyPost_ret (results_list (rs := [.tmp 4, .cell 5 24, .tmp 6]) rfl (by simp) (.tmp (.cell gb267 24 #[.int .i64 0, .int .u64 0] (0, 0) _ rfl (qpp_ #[.int .i64 0, .int .u64 0] 1 #[.int .i64 0, .int .u64 0] 0 BK267.out) Tryd.underlying24 rfl (by kernel_rfl) (.tmp .nil)))) rfl ?_
   exact ⟨qe_, qb2_ GE266.out GE267.out HB.out⟩
 ·rw [if_neg c4] at H
  have c4b0 : (t269 == 0) = false := beq_eq_false_iff_ne.mpr c4
  have c4b1 : (t269 != 0) = true := bne_iff_ne.mpr c4
  simp only [Option.some.injEq, Prod.mk.injEq] at H
  obtain ⟨rfl, rfl, rfl, rfl⟩ := H
  go_enter Tryd.func16, Tryd.ntmps16
  go_wp2_with (first | ((with_reducible refine gate_dst (N := 2) rfl ?_); refine be_ (N := 2) (cs := #[.int .i64 a0_0, .int .u64 a0_1]) (t := 24) ?_; intro gb266 hg w31 hbox hb; have n0_ := Aside0.mk (below_step (qb_ HB.out) hb); have n1_ := Aside0.mk (hbox); have n2_ := Aside0.mk (bz_ hg (qb_ HB.out) : w.heap.size ≤ gb266); have n3_ := n2_; clear HB; have HB := n0_; have BK266 := n1_; have GW266 := n2_; have GE266 := n3_; clear n0_ n1_ n2_ n3_; clear hb hbox hg) | ((with_reducible refine gate_dst (N := 5) rfl ?_); refine be_ (N := 5) (cs := #[.int .i64 0, .int .u64 0]) (t := 24) ?_; intro gb267 hg w32 hbox hb; have n0_ := Aside0.mk (blk_below (qk_ BK266.out) hb); have n1_ := Aside0.mk (below_step (qb1_ GE266.out HB.out) hb); have n2_ := Aside0.mk (hbox); have n3_ := Aside0.mk (bz_ hg (qb1_ GE266.out HB.out) : w.heap.size ≤ gb267); have n4_ := n3_; have n5_ := Aside0.mk (nl_ hg (qk_ BK266.out) : gb266 ≠ gb267); have n6_ := Aside0.mk (ng_ hg (qk_ BK266.out) : gb267 ≠ gb266); clear BK266; clear HB; have BK266 := n0_; have HB := n1_; have BK267 := n2_; have GW267 := n3_; have GE267 := n4_; have NB266_267 := n5_; have NB267_266 := n6_; clear n0_ n1_ n2_ n3_ n4_ n5_ n6_; clear hb hbox hg; have hnb33 := NB266_267.out; have hnc33 := NB267_266.out; have hcz34_0 : w32.cell? ⟨gb266, 0, none⟩ = some (.int .i64 a0_0) := (blk_cell BK266.out 0).trans rfl; have hcz34_1 : w32.cell? ⟨gb266, 1, none⟩ = some (.int .u64 a0_1) := (blk_cell BK266.out 1).trans rfl; have hfz34_0 := blk_frozen BK266.out 0; have hfz34_1 := blk_frozen BK266.out 1) | ((with_reducible refine gate_callee (f := 11) rfl ?_); refine goesL_ (some 14) rfl rfl Tryd.func11 (by kernel_rfl) rfl #[.agg #[.int .i64 a0_0, .int .u64 a0_1], .int .i64 1603080000000, .int .i64 a1] rfl ql_ ?_; (with_reducible refine (rounding_Divide.calls (hG := by first | exact hG | (with_reducible exact GW.below hG (qb2_ GE266.out GE267.out HB.out)) | (with_reducible repeat (first | exact hG | apply GW.drewN | apply GW.drew))) a0_0 a0_1 1603080000000 a1 t268 t269 _ A3.out).mono ?_); rintro e w35 ⟨rfl, hb⟩; refine ⟨_, rfl, ?_⟩; have n0_ := Aside0.mk (blk_below (qk_ BK266.out) hb); have n1_ := Aside0.mk (blk_below (qk_ BK267.out) hb); have n2_ := Aside0.mk (below_step (qb2_ GE266.out GE267.out HB.out) hb); clear BK266; clear BK267; clear HB; have BK266 := n0_; have BK267 := n1_; have HB := n2_; clear n0_ n1_ n2_; (try clear hb); (try clear hb2); (try clear hk); (try clear hi); have hcz36_0 : w35.cell? ⟨gb267, 0, none⟩ = some (.int .i64 0) := (blk_cell BK267.out 0).trans rfl; have hcz36_1 : w35.cell? ⟨gb267, 1, none⟩ = some (.int .u64 0) := (blk_cell BK267.out 1).trans rfl; have hfz36_0 := blk_frozen BK267.out 0; have hfz36_1 := blk_frozen BK267.out 1))
  refine bodyPost_ret (results_list (rs := [.tmp 4, .cell 5 24, .tmp 6]) rfl (by simp) (.tmp (.cell gb267 24 #[.int .i64 0, .int .u64 0] (0, 0) _ rfl (qpp_ #[.int .i64 0, .int .u64 0] 1 #[.int .i64 0, .int .u64 0] 0 BK267.out) Tryd.underlying24 rfl (by kernel_rfl) (.tmp .nil)))) rfl ?_
  exact ⟨qe_, qb2_ GE266.out GE267.out HB.out⟩
end Go.Proofs.YtkdhippoibjfkaaDoor.PR
end
section
namespace Go.Proofs.YtkdhippoibjfkaaDoor.PR
open Go.RowKit Go.Proofs.YtkdhippoibjfkaaDoorW.PrintWords Go.Proofs.YtkdhippoibjfkaaDoorW.PrintLast
set_option linter.unusedVariables false
set_option linter.unusedSimpArgs false
/-- The amount of a number of grains: amount, what is left (two words), code. -/
def amtR (v m : Int) : Int × Int × Int × Int :=
 if (divR v 1603080000000 m).2 = 0 then
  (if -1000000000000 ≤ (divR v 1603080000000 m).1 ∧ (divR v 1603080000000 m).1 ≤ 1000000000000 then
   ((divR v 1603080000000 m).1, (v - (divR v 1603080000000 m).1 * 1603080000000) / 18446744073709551616, (v - (divR v 1603080000000 m).1 * 1603080000000) % 18446744073709551616, 0) else (0, 0, 0, 6))
 else (0, 0, 0, (divR v 1603080000000 m).2)
theorem amt_rest {v m : Int} (e : (divR v 1603080000000 m).2 = 0) : (divR v 1603080000000 m).1 = rq v 1603080000000 m ∧ -1603080000000 < v - rq v 1603080000000 m * 1603080000000 ∧ v - rq v 1603080000000 m * 1603080000000 < 1603080000000 := by
 have h1 := Int.emod_add_mul_ediv v 1603080000000
 have h2 := Int.emod_nonneg v (show (1603080000000 : Int) ≠ 0 by decide)
 have h3 := Int.emod_lt_of_pos v (show (0 : Int) < 1603080000000 by decide)
 refine ⟨?_, ?_⟩
 ·unfold divR at e ⊢
  split
  ·rename_i c; rw [if_pos c] at e; cases e
  ·rename_i c; rw [if_neg c] at e
   split
   ·rfl
   ·rename_i c2; rw [if_neg c2] at e; cases e
 ·unfold rq; split <;> omega
def rounding_Amount.f (a0_0 a0_1 a1 : Int) : Option (Int × Int × Int × Int) := if isW a0_0 a0_1 then some (amtR (wv a0_0 a0_1) a1) else none
theorem rounding_Amount.eq {a b m : Int} {r : Int × Int × Int × Int} (h : rounding_Amount.f a b m = some r) : rounding_AmountP.f a b m = some r := by
 unfold rounding_Amount.f at h
 split at h
 ·rename_i q
  injection h with h
  subst h
  unfold rounding_AmountP.f rounding_Divide.f
  rw [if_pos ⟨q, by decide⟩]
  simp only [Option.bind_some]
  unfold amtR
  by_cases e : (divR (wv a b) 1603080000000 m).2 = 0
  ·rw [if_pos e, if_pos e]
   obtain ⟨hq, q0, q1⟩ := amt_rest e
   rw [hq]
   generalize rq (wv a b) 1603080000000 m = x at *
   unfold rounding_valid.f
   by_cases g : -1000000000000 ≤ x ∧ x ≤ 1000000000000
   ·rw [if_pos g.1, decide_eq_true g.2, if_pos g]
    simp only [Option.bind_some, if_true]
    have hp : -1603080000000000000000000 ≤ x * 1603080000000 ∧ x * 1603080000000 ≤ 1603080000000000000000000 := by omega
    unfold wide_Mul.f
    rw [if_pos ⟨by unfold inI; omega, by decide⟩]
    simp only [Option.bind_some]
    have hw : wv (x * 1603080000000 / 18446744073709551616) (x * 1603080000000 % 18446744073709551616) = x * 1603080000000 := by unfold wv; omega
    unfold wide_Sub.f
    rw [if_pos ⟨q, by unfold inI; omega, by unfold inU; omega⟩, hw, if_pos (by unfold in128; omega)]
    simp only [Option.bind_some]
   ·rw [if_neg g]
    by_cases g1 : x ≥ -1000000000000
    ·rw [if_pos g1, decide_eq_false (by omega)]
     simp
    ·rw [if_neg g1]
     simp
  ·rw [if_neg e, if_neg e]
 ·cases h
theorem rounding_Amount.calls (a0_0 : Int) (a0_1 : Int) (a1 : Int) (r1 : Int) (r2 : Int) (r3 : Int) (r4 : Int) (w : World) (hG : GW w) (h : rounding_Amount.f a0_0 a0_1 a1 = some (r1, r2, r3, r4)) :
  Calls Tryd.prog 16 #[.agg #[.int .i64 a0_0, .int .u64 a0_1], .int .i64 a1] w fun e w' => e = .returned (.tuple #[.int .i64 r1, .agg #[.int .i64 r2, .int .u64 r3], .int .i64 r4]) ∧ Below w.heap.size w w' := by
 have h := rounding_Amount.eq h
 exact rounding_AmountP.calls a0_0 a0_1 a1 r1 r2 r3 r4 w hG h
def rounding_PercentP.j0 : Nat → Int → Int → Int → Bool → Option (Int × Int)
 | 0, _, _, _, _ => none
 | k + 1, x0, x1, x2, x23 => if x23 = true then (some (0, 1)) else ((wide_Mul.f x0 x1).bind fun bt279 => ((rounding_Divide.f bt279.1 bt279.2 1000000 x2).bind fun bt281 => (some (bt281.1, bt281.2))))
def rounding_PercentP.f (k : Nat) (a0 : Int) (a1 : Int) (a2 : Int) : Option (Int × Int) := (rounding_valid.f a0).bind fun t277 => (if t277 = true then (if a1 < 0 then (rounding_PercentP.j0 k a0 a1 a2 true) else (if a1 > 1000000 then (rounding_PercentP.j0 k a0 a1 a2 true) else ((rounding_Valid.f a2).bind fun t278 => (rounding_PercentP.j0 k a0 a1 a2 (!t278))))) else (rounding_PercentP.j0 k a0 a1 a2 true))
theorem rounding_PercentP.mono_l : ∀ k, (∀ y0 y1 y2 y3, LeO (rounding_PercentP.j0 k y0 y1 y2 y3) (rounding_PercentP.j0 (k + 1) y0 y1 y2 y3))
 | 0 => fun _ _ _ _ r h => by simp [rounding_PercentP.j0] at h
 | k + 1 => by
  have ih0 := rounding_PercentP.mono_l k
  ·intro y0 y1 y2 y3
   unfold rounding_PercentP.j0
   repeat' first
   | (with_reducible exact ih0 _ _ _ _)
   | (with_reducible exact LeO.refl _)
   | (with_reducible exact LeO.none _)
   | (with_reducible refine LeO.ite ?_ ?_)
   | (with_reducible refine LeO.bind ?_ (fun _ => ?_))
   | exact ih0 _ _ _ _
   | exact LeO.none _
   | refine LeO.ite ?_ ?_
   | refine LeO.bind ?_ (fun _ => ?_)
theorem rounding_PercentP.mono : ∀ a0 a1 a2 k, LeO (rounding_PercentP.f k a0 a1 a2) (rounding_PercentP.f (k + 1) a0 a1 a2) := by
 intro a0 a1 a2 k
 have ih0 := rounding_PercentP.mono_l k
 unfold rounding_PercentP.f
 repeat' first
   | (with_reducible exact ih0 _ _ _ _)
   | (with_reducible exact LeO.refl _)
   | (with_reducible exact LeO.none _)
   | (with_reducible refine LeO.ite ?_ ?_)
   | (with_reducible refine LeO.bind ?_ (fun _ => ?_))
   | exact ih0 _ _ _ _
   | exact LeO.none _
   | refine LeO.ite ?_ ?_
   | refine LeO.bind ?_ (fun _ => ?_)
set_option maxHeartbeats 8000000 in
set_option maxRecDepth 100000 in
theorem rounding_PercentP.calls (k : Nat) (a0 : Int) (a1 : Int) (a2 : Int) (r1 : Int) (r2 : Int) (w : World) (hG : GW w) (h : rounding_PercentP.f k a0 a1 a2 = some (r1, r2)) :
  Calls Tryd.prog 22 #[.int .i64 a0, .int .i64 a1, .int .i64 a2] w fun e w' => e = .returned (.tuple #[.int .i64 r1, .int .i64 r2]) ∧ Below w.heap.size w w' := by
 have HB := Aside0.mk (Below.refl w.heap.size w)
 have H : ((rounding_valid.f a0).bind fun t277 => (if t277 = true then (if a1 < 0 then (rounding_PercentP.j0 k a0 a1 a2 true) else (if a1 > 1000000 then (rounding_PercentP.j0 k a0 a1 a2 true) else ((rounding_Valid.f a2).bind fun t278 => (rounding_PercentP.j0 k a0 a1 a2 (!t278))))) else (rounding_PercentP.j0 k a0 a1 a2 true))) = some (r1, r2) := h
 clear h
 have HC4 := Aside0.mk H
 clear H
 go_enter Tryd.func22, Tryd.ntmps22
 go_upto_region 1 with (fail)
 go_cut [23] (fun v23 wc => ∃ (kq : Nat) (x23_3 : Bool), v23 = .bool x23_3 ∧ Aside0 (rounding_PercentP.j0 kq a0 a1 a2 x23_3 = some (r1, r2)) ∧ Aside0 (kq ≤ k) ∧ Aside0 (Below w.heap.size w wc))
 case first =>
  have H := HC4.out
  clear HC4
  replace H := Option.bind_eq_some_iff.mp H
  obtain ⟨t277, A50, H⟩ := H
  replace H : (if t277 = true then (if a1 < 0 then (rounding_PercentP.j0 k a0 a1 a2 true) else (if a1 > 1000000 then (rounding_PercentP.j0 k a0 a1 a2 true) else ((rounding_Valid.f a2).bind fun t278 => (rounding_PercentP.j0 k a0 a1 a2 (!t278))))) else (rounding_PercentP.j0 k a0 a1 a2 true)) = some (r1, r2) := H
  have A5 := Aside0.mk A50
  clear A50
  by_cases c6 : t277 = true
  ·subst c6
   have H1 : (if a1 < 0 then (rounding_PercentP.j0 k a0 a1 a2 true) else (if a1 > 1000000 then (rounding_PercentP.j0 k a0 a1 a2 true) else ((rounding_Valid.f a2).bind fun t278 => (rounding_PercentP.j0 k a0 a1 a2 (!t278))))) = some (r1, r2) := by rw [if_pos rfl] at H; exact H
   clear H
   have H := H1
   clear H1
   by_cases c7 : a1 < 0
   ·rw [if_pos c7] at H
    have c7b0 : decide (a1 < 0) = true := decide_eq_true c7
    clear c7
    (first | rw [c7b0] | (simp only [i64_w, i32_w]; rw [c7b0]) | skip)
    have H' := Aside0.mk H
    clear H
    go_wp2_with (first | ((with_reducible refine gate_callee (f := 40) rfl ?_); refine goesL_ (some 9) rfl rfl Tryd.func40 (by kernel_rfl) rfl #[.int .i64 a0] rfl ql_ ?_; (with_reducible refine (rounding_valid.calls a0 true _ A5.out).mono ?_); rintro e w' ⟨rfl, ⟨nd, rfl⟩⟩; refine ⟨_, rfl, ?_⟩))
    go_meet
    case rel => exact ⟨_, (true), qs_, H', ⟨qo_⟩, ⟨qb_ HB.out⟩⟩
   ·rw [if_neg c7] at H
    have c7b0 : decide (a1 < 0) = false := decide_eq_false c7
    clear c7
    (first | rw [c7b0] | (simp only [i64_w, i32_w]; rw [c7b0]) | skip)
    by_cases c8 : a1 > 1000000
    ·rw [if_pos c8] at H
     have c8b0 : decide (1000000 < a1) = true := decide_eq_true c8
     clear c8
     have H' := Aside0.mk H
     clear H
     go_wp2_with (first | ((with_reducible refine gate_callee (f := 40) rfl ?_); refine goesL_ (some 9) rfl rfl Tryd.func40 (by kernel_rfl) rfl #[.int .i64 a0] rfl ql_ ?_; (with_reducible refine (rounding_valid.calls a0 true _ A5.out).mono ?_); rintro e w' ⟨rfl, ⟨nd, rfl⟩⟩; refine ⟨_, rfl, ?_⟩))
     go_meet
     case rel => exact ⟨_, (true), qs_, H', ⟨qo_⟩, ⟨qb_ HB.out⟩⟩
    ·rw [if_neg c8] at H
     have c8b0 : decide (1000000 < a1) = false := decide_eq_false c8
     clear c8
     replace H := Option.bind_eq_some_iff.mp H
     obtain ⟨t278, A90, H⟩ := H
     replace H : (rounding_PercentP.j0 k a0 a1 a2 (!t278)) = some (r1, r2) := H
     have A9 := Aside0.mk A90
     clear A90
     have H' := Aside0.mk H
     clear H
     go_wp2_with (first | ((with_reducible refine gate_callee (f := 40) rfl ?_); refine goesL_ (some 9) rfl rfl Tryd.func40 (by kernel_rfl) rfl #[.int .i64 a0] rfl ql_ ?_; (with_reducible refine (rounding_valid.calls a0 true _ A5.out).mono ?_); rintro e w' ⟨rfl, ⟨nd, rfl⟩⟩; refine ⟨_, rfl, ?_⟩) | (go_at_call 13; (with_reducible refine (rounding_Valid.calls a2 t278 _ A9.out).mono ?_); rintro e w' ⟨rfl, ⟨nd, rfl⟩⟩))
     go_meet
     case rel => exact ⟨_, (!t278), qs_, H', ⟨qo_⟩, ⟨qb_ HB.out⟩⟩
  ·replace c6 := Bool.eq_false_iff.mpr c6
   subst c6
   have H1 : (rounding_PercentP.j0 k a0 a1 a2 true) = some (r1, r2) := by rw [if_neg (show ¬ (false = true) by decide)] at H; exact H
   clear H
   have H := H1
   clear H1
   have H' := Aside0.mk H
   clear H
   go_wp2_with (first | ((with_reducible refine gate_callee (f := 40) rfl ?_); refine goesL_ (some 9) rfl rfl Tryd.func40 (by kernel_rfl) rfl #[.int .i64 a0] rfl ql_ ?_; (with_reducible refine (rounding_valid.calls a0 false _ A5.out).mono ?_); rintro e w' ⟨rfl, ⟨nd, rfl⟩⟩; refine ⟨_, rfl, ?_⟩))
   go_meet
   case rel => exact ⟨_, (true), qs_, H', ⟨qo_⟩, ⟨qb_ HB.out⟩⟩
 case rest =>
  clear HC4
  try clear c2
  try clear p2
  try clear c4
  try clear c6
  try clear c7
  try clear c7b0
  try clear c8
  try clear c8b0
  obtain ⟨kq, x23_3, rfl, HA, HJ3, HB⟩ := hcut
  cases kq with
  | zero => exact absurd HA.out (by simp [rounding_PercentP.j0])
  | succ kj3 =>
   have H := HA.out
   clear HA
   simp only [rounding_PercentP.j0] at H
   by_cases c10 : x23_3 = true
   ·subst c10
    have H1 : (some (0, 1)) = some (r1, r2) := by rw [if_pos rfl] at H; exact H
    clear H
    have H := H1
    clear H1
    simp only [Option.some.injEq, Prod.mk.injEq] at H
    obtain ⟨rfl, rfl⟩ := H
    go_wp2
    go_ret2
    exact ⟨qe_, qb_ HB.out⟩
   ·replace c10 := Bool.eq_false_iff.mpr c10
    subst c10
    have H1 : ((wide_Mul.f a0 a1).bind fun bt279 => ((rounding_Divide.f bt279.1 bt279.2 1000000 a2).bind fun bt281 => (some (bt281.1, bt281.2)))) = some (r1, r2) := by rw [if_neg (show ¬ (false = true) by decide)] at H; exact H
    clear H
    have H := H1
    clear H1
    replace H := Option.bind_eq_some_iff.mp H
    obtain ⟨⟨t279, t280⟩, A110, H⟩ := H
    replace H : ((rounding_Divide.f t279 t280 1000000 a2).bind fun bt281 => (some (bt281.1, bt281.2))) = some (r1, r2) := H
    have A11 := Aside0.mk A110
    clear A110
    replace H := Option.bind_eq_some_iff.mp H
    obtain ⟨⟨t281, t282⟩, A120, H⟩ := H
    replace H : (some (t281, t282)) = some (r1, r2) := H
    have A12 := Aside0.mk A120
    clear A120
    simp only [Option.some.injEq, Prod.mk.injEq] at H
    obtain ⟨rfl, rfl⟩ := H
    go_wp2_with (first | ((with_reducible refine gate_callee (f := 42) rfl ?_); refine goesL_ (some 26) rfl rfl Tryd.func42 (by kernel_rfl) rfl #[.int .i64 a0, .int .i64 a1] rfl ql_ ?_; (with_reducible refine (wide_Mul.calls a0 a1 t279 t280 _ A11.out).mono ?_); rintro e w13 ⟨rfl, hb⟩; refine ⟨_, rfl, ?_⟩; have n0_ := Aside0.mk (below_step (qb_ HB.out) hb); clear HB; have HB := n0_; clear n0_; (try clear hb); (try clear hb2); (try clear hk); (try clear hi)) | ((with_reducible refine gate_callee (f := 11) rfl ?_); refine goesL_ (some 28) rfl rfl Tryd.func11 (by kernel_rfl) rfl #[.agg #[.int .i64 t279, .int .u64 t280], .int .i64 1000000, .int .i64 a2] rfl ql_ ?_; (with_reducible refine (rounding_Divide.calls (hG := by first | exact hG | (with_reducible exact GW.below hG (qb_ HB.out)) | (with_reducible repeat (first | exact hG | apply GW.drewN | apply GW.drew))) t279 t280 1000000 a2 t281 t282 _ A12.out).mono ?_); rintro e w14 ⟨rfl, hb⟩; refine ⟨_, rfl, ?_⟩; have n0_ := Aside0.mk (below_step (qb_ HB.out) hb); clear HB; have HB := n0_; clear n0_; (try clear hb); (try clear hb2); (try clear hk); (try clear hi)))
    go_ret2
    exact ⟨qe_, qb_ HB.out⟩
def pctR (a p m : Int) : Int × Int := if -1000000000000 ≤ a ∧ a ≤ 1000000000000 ∧ 0 ≤ p ∧ p ≤ 1000000 then divR (a * p) 1000000 m else (0, 1)
theorem pct_range {a p : Int} (h : -1000000000000 ≤ a ∧ a ≤ 1000000000000 ∧ 0 ≤ p ∧ p ≤ 1000000) : -1000000000000000000 ≤ a * p ∧ a * p ≤ 1000000000000000000 := by
 obtain ⟨h0, h1, h2, h3⟩ := h
 have a1 := Int.mul_le_mul_of_nonneg_right h1 h2
 have a2 := Int.mul_le_mul_of_nonneg_right h0 h2
 omega
def rounding_Percent.f (a0 a1 a2 : Int) : Option (Int × Int) := some (pctR a0 a1 a2)
theorem rounding_Percent.eq {a p m : Int} {r : Int × Int} (h : rounding_Percent.f a p m = some r) : ∃ k, rounding_PercentP.f k a p m = some r := by
 unfold rounding_Percent.f at h
 rw [← h]
 refine ⟨1, ?_⟩
 unfold rounding_PercentP.f rounding_valid.f pctR
 simp only [rounding_PercentP.j0]
 by_cases h0 : a ≥ -1000000000000 <;> by_cases h1 : a ≤ 1000000000000
 ·rw [if_pos h0, decide_eq_true h1]
  simp only [Option.bind_some, if_true]
  by_cases h2 : p < 0
  ·rw [if_pos h2, if_neg (by omega)]
  ·rw [if_neg h2]
   by_cases h3 : p > 1000000
   ·rw [if_pos h3, if_neg (by omega)]
   ·rw [if_neg h3]
    have hr := pct_range (a := a) (p := p) ⟨h0, h1, by omega, by omega⟩
    rw [if_pos ⟨h0, h1, by omega, by omega⟩]
    have hv : rounding_Valid.f m = some (decide (1 ≤ m ∧ m ≤ 6)) := by
     unfold rounding_Valid.f
     split
     ·congr 1; apply decide_eq_decide.mpr; omega
     ·congr 1; symm; apply decide_eq_false; omega
    rw [hv]
    simp only [Option.bind_some]
    by_cases hm : 1 ≤ m ∧ m ≤ 6
    ·rw [decide_eq_true hm, if_neg (by decide)]
     unfold wide_Mul.f
     rw [if_pos ⟨by unfold inI; omega, by unfold inI; omega⟩]
     simp only [Option.bind_some]
     unfold rounding_Divide.f
     rw [if_pos ⟨⟨by unfold inI; omega, by unfold inU; omega⟩, by decide⟩]
     simp only [Option.bind_some]
     have hw : wv (a * p / 18446744073709551616) (a * p % 18446744073709551616) = a * p := by unfold wv; omega
     rw [hw]
    ·rw [decide_eq_false hm, if_pos (by decide)]
     unfold divR
     rw [if_pos (by omega)]
 ·have hn : ¬ (-1000000000000 ≤ a ∧ a ≤ 1000000000000 ∧ 0 ≤ p ∧ p ≤ 1000000) := by omega
  rw [if_pos h0, decide_eq_false h1, if_neg hn]
  rfl
 ·have hn : ¬ (-1000000000000 ≤ a ∧ a ≤ 1000000000000 ∧ 0 ≤ p ∧ p ≤ 1000000) := by omega
  rw [if_neg h0, if_neg hn]
  rfl
 ·have hn : ¬ (-1000000000000 ≤ a ∧ a ≤ 1000000000000 ∧ 0 ≤ p ∧ p ≤ 1000000) := by omega
  rw [if_neg h0, if_neg hn]
  rfl
theorem rounding_Percent.calls (a0 : Int) (a1 : Int) (a2 : Int) (r1 : Int) (r2 : Int) (w : World) (hG : GW w) (h : rounding_Percent.f a0 a1 a2 = some (r1, r2)) :
  Calls Tryd.prog 22 #[.int .i64 a0, .int .i64 a1, .int .i64 a2] w fun e w' => e = .returned (.tuple #[.int .i64 r1, .int .i64 r2]) ∧ Below w.heap.size w w' := by
 obtain ⟨k, h⟩ := rounding_Percent.eq h
 exact rounding_PercentP.calls k a0 a1 a2 r1 r2 w hG h
end Go.Proofs.YtkdhippoibjfkaaDoor.PR
end
section
namespace Go.Proofs.YtkdhippoibjfkaaDoor.PR
open Go.RowKit Go.Proofs.YtkdhippoibjfkaaDoorW.PrintWords Go.Proofs.YtkdhippoibjfkaaDoorW.PrintLast
set_option linter.unusedVariables false
set_option linter.unusedSimpArgs false
mutual
def rounding_total.j0 : Nat → List Int → Bool → Option (Int × Bool)
 | 0, _, _ => none
 | k + 1, x0, x14 => if x14 = true then (some (0, false)) else (rounding_total.l0 k 0 x0 (x0.length : Int) 0)
def rounding_total.l0 : Nat → Int → List Int → Int → Int → Option (Int × Bool)
 | 0, _, _, _, _ => none
 | k + 1, x4, x15, x16, x17 => if x17 < x16 then (if 0 ≤ x17 then (if x17 < (x15.length : Int) then (if (rd x15 x17) < 0 then (rounding_total.j2 k x4 (rd x15 x17) x15 x16 x17 true) else (rounding_total.j2 k x4 (rd x15 x17) x15 x16 x17 (decide ((rd x15 x17) > 1000000000000)))) else (none)) else (none)) else (some (x4, decide (x4 > 0)))
def rounding_total.j2 : Nat → Int → Int → List Int → Int → Int → Bool → Option (Int × Bool)
 | 0, _, _, _, _, _, _ => none
 | k + 1, x4, x6, x15, x16, x17, x26 => if x26 = true then (some (0, false)) else (rounding_total.l0 k (wrap64 (x4 + x6)) x15 x16 (wrap64 (x17 + 1)))
end
def rounding_total.f (k : Nat) (l0 : List Int) : Option (Int × Bool) := if (l0.length : Int) < 1 then (rounding_total.j0 k l0 true) else (rounding_total.j0 k l0 (decide ((l0.length : Int) > 64)))
theorem rounding_total.mono_l : ∀ k, (∀ y0 y1, LeO (rounding_total.j0 k y0 y1) (rounding_total.j0 (k + 1) y0 y1)) ∧ (∀ y0 y1 y2 y3, LeO (rounding_total.l0 k y0 y1 y2 y3) (rounding_total.l0 (k + 1) y0 y1 y2 y3)) ∧ (∀ y0 y1 y2 y3 y4 y5, LeO (rounding_total.j2 k y0 y1 y2 y3 y4 y5) (rounding_total.j2 (k + 1) y0 y1 y2 y3 y4 y5))
 | 0 => ⟨fun _ _ r h => by simp [rounding_total.j0] at h, fun _ _ _ _ r h => by simp [rounding_total.l0] at h, fun _ _ _ _ _ _ r h => by simp [rounding_total.j2] at h⟩
 | k + 1 => by
  obtain ⟨ih0, ih1, ih2⟩ := rounding_total.mono_l k
  refine ⟨?_, ?_, ?_⟩
  ·intro y0 y1
   unfold rounding_total.j0
   repeat' first
   | (with_reducible exact ih0 _ _)
   | (with_reducible exact ih1 _ _ _ _)
   | (with_reducible exact ih2 _ _ _ _ _ _)
   | (with_reducible exact LeO.refl _)
   | (with_reducible exact LeO.none _)
   | (with_reducible refine LeO.ite ?_ ?_)
   | (with_reducible refine LeO.bind ?_ (fun _ => ?_))
   | exact ih0 _ _
   | exact ih1 _ _ _ _
   | exact ih2 _ _ _ _ _ _
   | exact LeO.none _
   | refine LeO.ite ?_ ?_
   | refine LeO.bind ?_ (fun _ => ?_)
  ·intro y0 y1 y2 y3
   unfold rounding_total.l0
   repeat' first
   | (with_reducible exact ih0 _ _)
   | (with_reducible exact ih1 _ _ _ _)
   | (with_reducible exact ih2 _ _ _ _ _ _)
   | (with_reducible exact LeO.refl _)
   | (with_reducible exact LeO.none _)
   | (with_reducible refine LeO.ite ?_ ?_)
   | (with_reducible refine LeO.bind ?_ (fun _ => ?_))
   | exact ih0 _ _
   | exact ih1 _ _ _ _
   | exact ih2 _ _ _ _ _ _
   | exact LeO.none _
   | refine LeO.ite ?_ ?_
   | refine LeO.bind ?_ (fun _ => ?_)
  ·intro y0 y1 y2 y3 y4 y5
   unfold rounding_total.j2
   repeat' first
   | (with_reducible exact ih0 _ _)
   | (with_reducible exact ih1 _ _ _ _)
   | (with_reducible exact ih2 _ _ _ _ _ _)
   | (with_reducible exact LeO.refl _)
   | (with_reducible exact LeO.none _)
   | (with_reducible refine LeO.ite ?_ ?_)
   | (with_reducible refine LeO.bind ?_ (fun _ => ?_))
   | exact ih0 _ _
   | exact ih1 _ _ _ _
   | exact ih2 _ _ _ _ _ _
   | exact LeO.none _
   | refine LeO.ite ?_ ?_
   | refine LeO.bind ?_ (fun _ => ?_)
theorem rounding_total.mono : ∀ a0 k, LeO (rounding_total.f k a0) (rounding_total.f (k + 1) a0) := by
 intro a0 k
 obtain ⟨ih0, ih1, ih2⟩ := rounding_total.mono_l k
 unfold rounding_total.f
 repeat' first
   | (with_reducible exact ih0 _ _)
   | (with_reducible exact ih1 _ _ _ _)
   | (with_reducible exact ih2 _ _ _ _ _ _)
   | (with_reducible exact LeO.refl _)
   | (with_reducible exact LeO.none _)
   | (with_reducible refine LeO.ite ?_ ?_)
   | (with_reducible refine LeO.bind ?_ (fun _ => ?_))
   | exact ih0 _ _
   | exact ih1 _ _ _ _
   | exact ih2 _ _ _ _ _ _
   | exact LeO.none _
   | refine LeO.ite ?_ ?_
   | refine LeO.bind ?_ (fun _ => ?_)
set_option maxHeartbeats 8000000 in
set_option maxRecDepth 100000 in
theorem rounding_total.calls (k : Nat) (A0 : Option Addr) (c0 : Nat) (l0 : List Int) (r1 : Int) (r2 : Bool) (w : World) (hr0 : Kd.C (Kd.int .i64) w A0 l0.length l0) (hc0 : l0.length ≤ c0) (h : rounding_total.f k l0 = some (r1, r2)) :
  Calls Tryd.prog 46 #[.slice A0 l0.length c0] w fun e w' => e = .returned (.tuple #[.int .i64 r1, .bool r2]) ∧ Drawn0 w w' := by
 have HR0 := Aside0.mk hr0
 have HC0 := Aside0.mk hc0
 clear hr0 hc0
 have H : (if (l0.length : Int) < 1 then (rounding_total.j0 k l0 true) else (rounding_total.j0 k l0 (decide ((l0.length : Int) > 64)))) = some (r1, r2) := h
 clear h
 have HC2 := Aside0.mk H
 clear H
 go_enter Tryd.func46, Tryd.ntmps46
 go_upto_region 1 with (fail)
 go_cut [14] (fun v14 wc => ∃ (kq : Nat) (x14_1 : Bool), v14 = .bool x14_1 ∧ Aside0 (rounding_total.j0 kq l0 x14_1 = some (r1, r2)) ∧ Aside0 (kq ≤ k) ∧ Drawn0 w wc)
 case first =>
  have H := HC2.out
  clear HC2
  by_cases c3 : (l0.length : Int) < 1
  ·rw [if_pos c3] at H
   have c3b0 : decide ((l0.length : Int) < 1) = true := decide_eq_true c3
   have c3b1 : decide (l0.length < 1) = true := decide_eq_true (by omega)
   clear c3
   (first | rw [c3b0] | (simp only [i64_w, i32_w]; rw [c3b0]) | skip)
   have H' := Aside0.mk H
   clear H
   go_wp2
   go_meet
   case rel => exact ⟨_, (true), qs_, H', ⟨qo_⟩, by repeat (first | exact Drawn0.refl _ | apply Drawn0.step)⟩
  ·rw [if_neg c3] at H
   have c3b0 : decide ((l0.length : Int) < 1) = false := decide_eq_false c3
   have c3b1 : decide (l0.length < 1) = false := decide_eq_false (by omega)
   clear c3
   (first | rw [c3b0] | (simp only [i64_w, i32_w]; rw [c3b0]) | skip)
   have H' := Aside0.mk H
   clear H
   go_wp2
   go_meet
   case rel => exact ⟨_, (decide ((l0.length : Int) > 64)), qs_, H', ⟨qo_⟩, by repeat (first | exact Drawn0.refl _ | apply Drawn0.step)⟩
 case rest =>
  clear HC2
  try clear p2
  try clear c3
  try clear c3b0
  try clear c3b1
  obtain ⟨kq, x14_1, rfl, HA, HJ1, ⟨mc1, rfl⟩⟩ := hcut
  cases kq with
  | zero => exact absurd HA.out (by simp [rounding_total.j0])
  | succ kj1 =>
   have H := HA.out
   clear HA
   simp only [rounding_total.j0] at H
   by_cases c4 : x14_1 = true
   ·subst c4
    have H1 : (some (0, false)) = some (r1, r2) := by rw [if_pos rfl] at H; exact H
    clear H
    have H := H1
    clear H1
    simp only [Option.some.injEq, Prod.mk.injEq] at H
    obtain ⟨rfl, rfl⟩ := H
    go_wp2
    go_ret2
    exact ⟨by first | rfl | (simp; done) | (simp [*]; done), by repeat (first | exact Drawn0.refl _ | apply Drawn0.step)⟩
   ·replace c4 := Bool.eq_false_iff.mpr c4
    subst c4
    have H1 : (rounding_total.l0 kj1 0 l0 (l0.length : Int) 0) = some (r1, r2) := by rw [if_neg (show ¬ (false = true) by decide)] at H; exact H
    clear H
    have H := H1
    clear H1
    have H' := Aside0.mk H
    clear H
    go_wp2
    go_loopg [4, 17] kj1 (fun kq v4 v17 w' => ∃ (x4_2 : Int) (x17_2 : Int), v4 = .int .i64 x4_2 ∧ v17 = .int .i64 x17_2 ∧ Aside0 (rounding_total.l0 kq x4_2 l0 (l0.length : Int) x17_2 = some (r1, r2)) ∧ Aside0 (kq ≤ kj1) ∧ Drawn0 w w')
    case atStart => exact ⟨(0), (0), qs_, qs_, H', ⟨Nat.le_refl _⟩, by repeat (first | exact Drawn0.refl _ | apply Drawn0.step)⟩
    case round =>
     clear H'
     try clear c1
     try clear p2
     try clear c3
     try clear c3b0
     try clear c3b1
     try clear c4
     try clear p2
     obtain ⟨x4_2, x17_2, rfl, rfl, HA, HK2, ⟨m2, rfl⟩⟩ := hrel
     cases gk with
     | zero => exact absurd HA.out (by simp [rounding_total.l0])
     | succ k2 =>
      have H := HA.out
      clear HA
      simp only [rounding_total.l0] at H
      by_cases c5 : x17_2 < (l0.length : Int)
      ·rw [if_pos c5] at H
       have c5b0 : decide (x17_2 < (l0.length : Int)) = true := decide_eq_true c5
       clear c5
       by_cases c6 : 0 ≤ x17_2
       ·rw [if_pos c6] at H
        have c6b0 : decide (0 ≤ x17_2) = true := decide_eq_true c6
        clear c6
        by_cases c7 : x17_2 < (l0.length : Int)
        ·rw [if_pos c7] at H
         have c7b0 : decide (x17_2 < (l0.length : Int)) = true := decide_eq_true c7
         clear c7
         have HC8 := Aside0.mk H
         clear H
         have p283 : 0 ≤ (x17_2 : Int) := of_decide_eq_true (by first | (with_reducible assumption) | assumption)
         have q283 : x17_2 < (l0.length : Int) := of_decide_eq_true (by first | (with_reducible assumption) | assumption)
         obtain ⟨ad283, e283, hx283_0⟩ := Kd.at_int HR0.out x17_2 p283 q283
         cases e283
         replace p283 := eq_true p283
         replace q283 := eq_true q283
         go_upto_region 7 with (fail)
         go_cut [26] (fun v26 wc => ∃ (kq : Nat) (x26_7 : Bool), v26 = .bool x26_7 ∧ Aside0 (rounding_total.j2 kq x4_2 (rd l0 x17_2) l0 (l0.length : Int) x17_2 x26_7 = some (r1, r2)) ∧ Aside0 (kq ≤ k2) ∧ Drawn0 w wc)
         case first =>
          have H := HC8.out
          clear HC8
          by_cases c9 : (rd l0 x17_2) < 0
          ·rw [if_pos c9] at H
           have c9b0 : decide ((rd l0 x17_2) < 0) = true := decide_eq_true c9
           clear c9
           (first | rw [c9b0] | (simp only [i64_w, i32_w]; rw [c9b0]) | skip)
           have H' := Aside0.mk H
           clear H
           go_wp2
           go_meet
           case rel => exact ⟨_, (true), qs_, H', ⟨by have := HJ1.out; have := HK2.out; first | omega | exact Nat.le_refl _⟩, by repeat (first | exact Drawn0.refl _ | apply Drawn0.step)⟩
          ·rw [if_neg c9] at H
           have c9b0 : decide ((rd l0 x17_2) < 0) = false := decide_eq_false c9
           clear c9
           (first | rw [c9b0] | (simp only [i64_w, i32_w]; rw [c9b0]) | skip)
           have H' := Aside0.mk H
           clear H
           go_wp2
           go_meet
           case rel => exact ⟨_, (decide ((rd l0 x17_2) > 1000000000000)), qs_, H', ⟨by have := HJ1.out; have := HK2.out; first | omega | exact Nat.le_refl _⟩, by repeat (first | exact Drawn0.refl _ | apply Drawn0.step)⟩
         case rest =>
          clear HC8
          try clear c1
          try clear p2
          try clear q2
          try clear hx2
          try clear c3
          try clear c3b0
          try clear c3b1
          try clear c4
          try clear c5
          try clear c5b0
          try clear c6
          try clear c6b0
          try clear c7
          try clear c7b0
          try clear c9
          try clear c9b0
          try clear hx283_0
          try clear p2
          try clear p283
          try clear q283
          obtain ⟨kq, x26_7, rfl, HA, HJ7, ⟨mc7, rfl⟩⟩ := hcut
          cases kq with
          | zero => exact absurd HA.out (by simp [rounding_total.j2])
          | succ kj7 =>
           have H := HA.out
           clear HA
           simp only [rounding_total.j2] at H
           by_cases c10 : x26_7 = true
           ·subst c10
            have H1 : (some (0, false)) = some (r1, r2) := by rw [if_pos rfl] at H; exact H
            clear H
            have H := H1
            clear H1
            simp only [Option.some.injEq, Prod.mk.injEq] at H
            obtain ⟨rfl, rfl⟩ := H
            go_wp2
            go_ret2
            exact ⟨by first | rfl | (simp; done) | (simp [*]; done), by repeat (first | exact Drawn0.refl _ | apply Drawn0.step)⟩
           ·replace c10 := Bool.eq_false_iff.mpr c10
            subst c10
            have H1 : (rounding_total.l0 kj7 (wrap64 (x4_2 + (rd l0 x17_2))) l0 (l0.length : Int) (wrap64 (x17_2 + 1))) = some (r1, r2) := by rw [if_neg (show ¬ (false = true) by decide)] at H; exact H
            clear H
            have H := H1
            clear H1
            have H' := Aside0.mk H
            clear H
            go_wp2
            go_roundg kj7
            case measure => have := HJ1.out; have := HK2.out; have := HJ7.out; omega
            case rel => exact ⟨(wrap64 (x4_2 + (rd l0 x17_2))), (wrap64 (x17_2 + 1)), qs_, qs_, H', ⟨by have := HJ1.out; have := HK2.out; have := HJ7.out; omega⟩, by repeat (first | exact Drawn0.refl _ | apply Drawn0.step)⟩
        ·rw [if_neg c7] at H
         exact absurd H (by simp)
       ·rw [if_neg c6] at H
        exact absurd H (by simp)
      ·rw [if_neg c5] at H
       have c5b0 : decide (x17_2 < (l0.length : Int)) = false := decide_eq_false c5
       clear c5
       simp only [Option.some.injEq, Prod.mk.injEq] at H
       obtain ⟨rfl, rfl⟩ := H
       go_wp2
       go_ret2
       exact ⟨by first | rfl | (simp; done) | (simp [*]; done), by repeat (first | exact Drawn0.refl _ | apply Drawn0.step)⟩
end Go.Proofs.YtkdhippoibjfkaaDoor.PR
end
