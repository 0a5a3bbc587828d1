import Derived.Test.YtogcdcjbleafdaaDoorQRm2
import Derived.Test.YtogcdcjbleafdaaDoorQRm5
import Derived.Test.YtogcdcjbleafdaaDoorQRm9
section
namespace Go.Proofs.YtogcdcjbleafdaaDoor.PS
open Go.RowKit Go.Proofs.YtogcdcjbleafdaaDoorW.PrintWords Go.Proofs.YtogcdcjbleafdaaDoorW.PrintLast Go.Proofs.YtogcdcjbleafdaaDoorW.PrintMore
attribute [local go_sem] max2_int min2_int max_two min_two
set_option linter.unusedVariables false
set_option linter.unusedSimpArgs false
def rounding_AmountP.f (a0_0 a0_1 a1 : Int) : Option (Int × Int × Int × Int) := (rounding_Divide.f a0_0 a0_1 1603080000000 a1).bind fun bt267 => (if bt267.2 = 0 then ((rounding_valid.f bt267.1).bind fun t269 => (if t269 = true then ((wide_Mul.f bt267.1 1603080000000).bind fun bt270 => ((wide_Sub.f a0_0 a0_1 bt270.1 bt270.2).bind fun bt272 => (some (bt267.1, bt272.1, bt272.2.1, 0)))) else (some (0, 0, 0, 6)))) else (some (0, 0, 0, bt267.2)))
def rounding_AmountP.T6 : Bool × List (List Nat × List Nat) := (true, [([], []), ([], []), ([1], [1]), ([0, 2, 2], [0, 2]), ([3], [3]), ([4], [4]), ([4], [4]), ([], []), ([7, 5, 3, 0, 1, 2, 3, 4, 5, 7], [5, 7]), ([6, 8, 0, 1, 2, 3, 4, 5, 6, 7, 8], [6])])
def rounding_AmountP.B6 : List Nat := [0, 0, 2, 7, 15, 31, 31, 0, 191, 511]
theorem rounding_AmountP.tab6 : rtab .any (opsOf Tryd.f33 6) = rounding_AmountP.T6 := by kernel_rfl
theorem rounding_AmountP.bits6 : waitsOk rounding_AmountP.T6.2 rounding_AmountP.B6 = true := by kernel_rfl
set_option maxHeartbeats 8000000 in
set_option maxRecDepth 100000 in
theorem rounding_AmountP.calls (a0_0 a0_1 a1 r1 r2 r3 r4 : Int) (w : World) (hG : GW w) (h : rounding_AmountP.f a0_0 a0_1 a1 = some (r1, r2, r3, r4)) :
  Calls Tryd.prog 33 #[.agg #[.int .i64 a0_0, .int .u64 a0_1], .int .i64 a1] w fun e w' => e = .returned (.tuple #[.int .i64 r1, .agg #[.int .i64 r2, .int .u64 r3], .int .i64 r4]) ∧ Below w.heap.size w w' := by
 have hu32 := Tryd.underlying32
 have HB := am_ (Below.refl w.heap.size w)
 have H := h
 clear h
 unfold rounding_AmountP.f at H
 replace H := Option.bind_eq_some_iff.mp H
 obtain ⟨⟨t267, t268⟩, A30, H⟩ := H
 (try dsimp only at H)
 have A3 := am_ A30
 clear A30
 by_cases c4 : t268 = 0
 ·rw [if_pos c4] at H
  have c4b0 : (t268 == 0) = true := beq_iff_eq.mpr c4
  have c4b1 : (t268 != 0) = false := bne_eq_false_iff_eq.mpr c4
  clear c4
  replace H := Option.bind_eq_some_iff.mp H
  obtain ⟨t269, A50, H⟩ := H
  (try dsimp only at H)
  have A5 := am_ A50
  clear A50
  by_cases c6 : t269 = true
  ·subst c6
   rw [if_pos rfl] at H
   replace H := Option.bind_eq_some_iff.mp H
   obtain ⟨⟨t270, t271⟩, A70, H⟩ := H
   (try dsimp only at H)
   have A7 := am_ A70
   clear A70
   replace H := Option.bind_eq_some_iff.mp H
   obtain ⟨⟨t272, t273, t274⟩, A80, H⟩ := H
   (try dsimp only at H)
   have A8 := am_ A80
   clear A80
   simp only [Option.some.injEq, Prod.mk.injEq] at H
   obtain ⟨rfl, rfl, rfl, rfl⟩ := H
   go_enter Tryd.func33, Tryd.ntmps33
   try go_wp2_with (first | ((with_reducible refine gate_dst (N := 2) rfl ?_); refine be_ (N := 2) (cs := #[.int .i64 a0_0, .int .u64 a0_1]) (t := 32) ?_; intro gb265 hg w9 hbox hb; have BK265 := am_ (hbox); have GE265 := am_ (bz_ hg (qb_ HB.out) : w.heap.size ≤ gb265); replace HB := am_ (below_step (qb_ HB.out) hb); clear hb hbox hg) | ((with_reducible refine gate_dst (N := 5) rfl ?_); refine be_ (N := 5) (cs := #[.int .i64 0, .int .u64 0]) (t := 32) ?_; intro gb266 hg w10 hbox hb; have BK266 := am_ (hbox); have GE266 := am_ (bz_ hg (qb1_ GE265.out HB.out) : w.heap.size ≤ gb266); replace HB := am_ (below_step (qb1_ GE265.out HB.out) hb); have NB265_266 := am_ (nl_ hg (qk_ BK265.out) : gb265 ≠ gb266); have NB266_265 := am_ (ng_ hg (qk_ BK265.out) : gb266 ≠ gb265); replace BK265 := am_ (blk_below (qk_ BK265.out) hb); clear hb hbox hg; have hnb11 := NB265_266.out; have hnc11 := NB266_265.out; obtain ⟨Z12_0, Z12_1, Y12_0, Y12_1⟩ := cz2_ BK265.out) | ((with_reducible refine gate_callee (f := 71) rfl ?_); refine goesL_ (some 14) rfl rfl Tryd.func71 (by kernel_rfl) rfl #[.agg #[.int .i64 a0_0, .int .u64 a0_1], .int .i64 1603080000000, .int .i64 a1] rfl ql_ ?_; (with_reducible refine (rounding_Divide.calls (hG := by first | exact hG | (with_reducible exact GW.below hG (qb2_ GE265.out GE266.out HB.out)) | (with_reducible repeat (first | exact hG | apply GW.drewN | apply GW.drew))) a0_0 a0_1 1603080000000 a1 t267 t268 _ A3.out).mono ?_); rintro e w13 ⟨rfl, hb⟩; refine ⟨_, rfl, ?_⟩; replace BK265 := am_ (blk_below (qk_ BK265.out) hb); replace BK266 := am_ (blk_below (qk_ BK266.out) hb); replace HB := am_ (below_step (qb2_ GE265.out GE266.out HB.out) hb); (try clear hb)) | ((with_reducible refine gate_callee (f := 72) rfl ?_); refine goesL_ (some 22) rfl rfl Tryd.func72 (by kernel_rfl) rfl #[.int .i64 t267] rfl ql_ ?_; (with_reducible refine (rounding_valid.calls t267 true _ A5.out).mono ?_); rintro e w' ⟨rfl, ⟨nd, rfl⟩⟩; refine ⟨_, rfl, ?_⟩; (try (rw [drewN_self w13]; generalize hq_ : World.drewN w13 _ = w13; replace BK265 : Aside0 (w13.heap[gb265]? = some (.cells #[.int .i64 a0_0, .int .u64 a0_1] 32 (0, 0))) := ⟨by rw [← hq_]; exact (qk_ BK265.out)⟩; replace BK266 : Aside0 (w13.heap[gb266]? = some (.cells #[.int .i64 0, .int .u64 0] 32 (0, 0))) := ⟨by rw [← hq_]; exact (qk_ BK266.out)⟩; replace HB : Aside0 (Below w.heap.size w w13) := ⟨by rw [← hq_]; exact (qb2_ GE265.out GE266.out HB.out)⟩; clear hq_))))
   replace BK265 := am_ (blk_drew BK265.out)
   replace BK266 := am_ (blk_drew BK266.out)
   replace HB := am_ (below_drew1 HB.out)
   refine start_ (n := 10) (S := cS2_ gb265 (.int .i64 a0_0) (.int .u64 a0_1)) (ds := []) (nb_ 10 0) (by kernel_rfl) rfl rfl (cc2_ BK265.out) (fun hHeld => ?_); refine with_tabW rounding_AmountP.tab6 rounding_AmountP.bits6 (fun HT_ HW_ => ?_)
   generalize w13.drew = w14 at BK265 BK266 HB hHeld ⊢
   refine pz_ 1 27 (nb_ 10 2) HT_.out ?_
   refine tk2_ 0 26 (nb_ 10 3) HT_.out HW_.out hHeld ?_
   refine join_ (σ := Nat) 2 (nb_ 10 255) (fun s_ => [(28, .agg #[.int .i64 t270, .int .u64 t271]), (29, .tuple #[.agg #[.int .i64 t272, .int .u64 t273], .int .i64 t274]), (9, .pointer (some ⟨s_, 0, none⟩)), (25, .tuple #[.agg #[.int .i64 t272, .int .u64 t273], .int .i64 t274]), (30, .agg #[.int .i64 t272, .int .u64 t273]), (31, .int .i64 t274)]) (fun s_ w' => (cS2_ gb265 (.int .i64 a0_0) (.int .u64 a0_1) w') ∧ (w'.heap[gb265]? = some (.cells #[.int .i64 a0_0, .int .u64 a0_1] 32 (0, 0))) ∧ (w'.heap[gb266]? = some (.cells #[.int .i64 0, .int .u64 0] 32 (0, 0))) ∧ (w'.heap[s_]? = some (.cells #[.int .i64 0, .int .u64 0] 32 (0, 0))) ∧ (w.heap.size ≤ s_) ∧ (w.heap.size ≤ s_) ∧ (gb265 ≠ s_) ∧ (s_ ≠ gb265) ∧ (gb266 ≠ s_) ∧ (s_ ≠ gb266) ∧ (Below w.heap.size w w')) ?_ ?_
   rotate_left
   ·intro hCont
    refine two_ (i := 2) (j := 7) (Ni := some 28) (Nj := some 9) (nb_ 10 7) (nb_ 10 131) rfl rfl rfl rfl (two_of HT_.out (by kernel_rfl)) (by decide) (by decide) (fun K hK => ?_) (fun K hK => ?_)
    ·skip
     refine goes_ Tryd.func28 (by kernel_rfl) rfl #[.int .i64 t267, .int .i64 1603080000000] (by rfl) rfl rfl ql_ ?_
     with_reducible refine (wide_Mul.calls t267 1603080000000 t270 t271 _ A7.out).mono ?_
     rintro e w15 ⟨rfl, hb⟩
     refine ⟨_, rfl, ?_⟩
     replace BK265 := am_ (blk_below (qk_ BK265.out) hb)
     replace BK266 := am_ (blk_below (qk_ BK266.out) hb)
     replace HB := am_ (below_step (qb2_ GE265.out GE266.out HB.out) hb)
     (try clear hb)
     refine hK.out _ _ (cc2_ BK265.out) (fun hHeld => ?_)
     clear hK K
     refine no_ ?_
     refine two_ (i := 3) (j := 7) (Ni := some 29) (Nj := some 9) (nb_ 10 15) (nb_ 10 135) rfl rfl rfl rfl (two_of HT_.out (by kernel_rfl)) (by decide) (by decide) (fun K hK => ?_) (fun K hK => ?_)
     ·skip
      refine goes_ Tryd.func73 (by kernel_rfl) rfl #[.agg #[.int .i64 a0_0, .int .u64 a0_1], .agg #[.int .i64 t270, .int .u64 t271]] (by rfl) rfl rfl ql_ ?_
      with_reducible refine (wide_Sub.calls a0_0 a0_1 t270 t271 t272 t273 t274 _ A8.out).mono ?_
      rintro e w16 ⟨rfl, hb⟩
      refine ⟨_, rfl, ?_⟩
      replace BK265 := am_ (blk_below (qk_ BK265.out) hb)
      replace BK266 := am_ (blk_below (qk_ BK266.out) hb)
      replace HB := am_ (below_step (qb2_ GE265.out GE266.out HB.out) hb)
      (try clear hb)
      refine hK.out _ _ (cc2_ BK265.out) (fun hHeld => ?_)
      clear hK K
      refine no_ ?_
      refine pz_ 4 25 (nb_ 10 31) HT_.out ?_
      refine pz_ 5 30 (nb_ 10 63) HT_.out ?_
      refine pz_ 6 31 (nb_ 10 127) HT_.out ?_
      refine on_ 7 9 (nb_ 10 255) HT_.out (fun K hK => ?_)
      refine box_step ?hg (N := 9) ?hd (cs := #[.int .i64 0, .int .u64 0]) (t := 32) ?hr ?_; (case hd => rfl); (case hg => rfl); (case hr => first | (go_simp; done) | (go_simp; rfl))
      intro gb275 hg w17 hbox hb
      have BK275 := am_ (hbox)
      have GW275 := am_ (bz_ hg (qb2_ GE265.out GE266.out HB.out) : w.heap.size ≤ gb275)
      have GE275 := am_ (bz_ hg (qb2_ GE265.out GE266.out HB.out) : w.heap.size ≤ gb275)
      replace HB := am_ (below_step (qb2_ GE265.out GE266.out HB.out) hb)
      have NB265_275 := am_ (nl_ hg (qk_ BK265.out) : gb265 ≠ gb275)
      have NB275_265 := am_ (ng_ hg (qk_ BK265.out) : gb275 ≠ gb265)
      replace BK265 := am_ (blk_below (qk_ BK265.out) hb)
      have NB266_275 := am_ (nl_ hg (qk_ BK266.out) : gb266 ≠ gb275)
      have NB275_266 := am_ (ng_ hg (qk_ BK266.out) : gb275 ≠ gb266)
      replace BK266 := am_ (blk_below (qk_ BK266.out) hb)
      clear hb hbox hg
      refine hK.out _ _ (cc2_ BK265.out) (fun hHeld => ?_)
      clear hK K
      refine no_ ?_
      exact norm_ (by simp only [putAll, Act.put, List.setIfInBounds_toArray, List.set_cons_zero, List.set_cons_succ]) (hCont (gb275) _ ⟨hHeld, (qk_ BK265.out), (qk_ BK266.out), (qk_ BK275.out), GW275.out, GE275.out, NB265_275.out, NB275_265.out, NB266_275.out, NB275_266.out, (qb3_ GE265.out GE266.out GE275.out HB.out)⟩)
     ·skip
      refine box_step ?hg (N := 9) ?hd (cs := #[.int .i64 0, .int .u64 0]) (t := 32) ?hr ?_; (case hd => rfl); (case hg => rfl); (case hr => first | (go_simp; done) | (go_simp; rfl))
      intro gb275 hg w16 hbox hb
      have BK275 := am_ (hbox)
      have GW275 := am_ (bz_ hg (qb2_ GE265.out GE266.out HB.out) : w.heap.size ≤ gb275)
      have GE275 := am_ (bz_ hg (qb2_ GE265.out GE266.out HB.out) : w.heap.size ≤ gb275)
      replace HB := am_ (below_step (qb2_ GE265.out GE266.out HB.out) hb)
      have NB265_275 := am_ (nl_ hg (qk_ BK265.out) : gb265 ≠ gb275)
      have NB275_265 := am_ (ng_ hg (qk_ BK265.out) : gb275 ≠ gb265)
      replace BK265 := am_ (blk_below (qk_ BK265.out) hb)
      have NB266_275 := am_ (nl_ hg (qk_ BK266.out) : gb266 ≠ gb275)
      have NB275_266 := am_ (ng_ hg (qk_ BK266.out) : gb275 ≠ gb266)
      replace BK266 := am_ (blk_below (qk_ BK266.out) hb)
      clear hb hbox hg
      refine hK.out _ _ (cc2_ BK265.out) (fun hHeld => ?_)
      clear hK K
      refine no_ ?_
      refine on_ 3 29 (nb_ 10 143) HT_.out (fun K hK => ?_)
      refine goes_ Tryd.func73 (by kernel_rfl) rfl #[.agg #[.int .i64 a0_0, .int .u64 a0_1], .agg #[.int .i64 t270, .int .u64 t271]] (by rfl) rfl rfl ql_ ?_
      with_reducible refine (wide_Sub.calls a0_0 a0_1 t270 t271 t272 t273 t274 _ A8.out).mono ?_
      rintro e w17 ⟨rfl, hb⟩
      refine ⟨_, rfl, ?_⟩
      replace BK265 := am_ (blk_below (qk_ BK265.out) hb)
      replace BK266 := am_ (blk_below (qk_ BK266.out) hb)
      replace BK275 := am_ (blk_below (qk_ BK275.out) hb)
      replace HB := am_ (below_step (qb3_ GE265.out GE266.out GE275.out HB.out) hb)
      (try clear hb)
      refine hK.out _ _ (cc2_ BK265.out) (fun hHeld => ?_)
      clear hK K
      refine no_ ?_
      refine pz_ 4 25 (nb_ 10 159) HT_.out ?_
      refine pz_ 5 30 (nb_ 10 191) HT_.out ?_
      refine pz_ 6 31 (nb_ 10 255) HT_.out ?_
      exact norm_ (by simp only [putAll, Act.put, List.setIfInBounds_toArray, List.set_cons_zero, List.set_cons_succ]) (hCont (gb275) _ ⟨hHeld, (qk_ BK265.out), (qk_ BK266.out), (qk_ BK275.out), GW275.out, GE275.out, NB265_275.out, NB275_265.out, NB266_275.out, NB275_266.out, (qb3_ GE265.out GE266.out GE275.out HB.out)⟩)
    ·skip
     refine box_step ?hg (N := 9) ?hd (cs := #[.int .i64 0, .int .u64 0]) (t := 32) ?hr ?_; (case hd => rfl); (case hg => rfl); (case hr => first | (go_simp; done) | (go_simp; rfl))
     intro gb275 hg w15 hbox hb
     have BK275 := am_ (hbox)
     have GW275 := am_ (bz_ hg (qb2_ GE265.out GE266.out HB.out) : w.heap.size ≤ gb275)
     have GE275 := am_ (bz_ hg (qb2_ GE265.out GE266.out HB.out) : w.heap.size ≤ gb275)
     replace HB := am_ (below_step (qb2_ GE265.out GE266.out HB.out) hb)
     have NB265_275 := am_ (nl_ hg (qk_ BK265.out) : gb265 ≠ gb275)
     have NB275_265 := am_ (ng_ hg (qk_ BK265.out) : gb275 ≠ gb265)
     replace BK265 := am_ (blk_below (qk_ BK265.out) hb)
     have NB266_275 := am_ (nl_ hg (qk_ BK266.out) : gb266 ≠ gb275)
     have NB275_266 := am_ (ng_ hg (qk_ BK266.out) : gb275 ≠ gb266)
     replace BK266 := am_ (blk_below (qk_ BK266.out) hb)
     clear hb hbox hg
     refine hK.out _ _ (cc2_ BK265.out) (fun hHeld => ?_)
     clear hK K
     refine no_ ?_
     refine on_ 2 28 (nb_ 10 135) HT_.out (fun K hK => ?_)
     refine goes_ Tryd.func28 (by kernel_rfl) rfl #[.int .i64 t267, .int .i64 1603080000000] (by rfl) rfl rfl ql_ ?_
     with_reducible refine (wide_Mul.calls t267 1603080000000 t270 t271 _ A7.out).mono ?_
     rintro e w16 ⟨rfl, hb⟩
     refine ⟨_, rfl, ?_⟩
     replace BK265 := am_ (blk_below (qk_ BK265.out) hb)
     replace BK266 := am_ (blk_below (qk_ BK266.out) hb)
     replace BK275 := am_ (blk_below (qk_ BK275.out) hb)
     replace HB := am_ (below_step (qb3_ GE265.out GE266.out GE275.out HB.out) hb)
     (try clear hb)
     refine hK.out _ _ (cc2_ BK265.out) (fun hHeld => ?_)
     clear hK K
     refine no_ ?_
     refine on_ 3 29 (nb_ 10 143) HT_.out (fun K hK => ?_)
     refine goes_ Tryd.func73 (by kernel_rfl) rfl #[.agg #[.int .i64 a0_0, .int .u64 a0_1], .agg #[.int .i64 t270, .int .u64 t271]] (by rfl) rfl rfl ql_ ?_
     with_reducible refine (wide_Sub.calls a0_0 a0_1 t270 t271 t272 t273 t274 _ A8.out).mono ?_
     rintro e w17 ⟨rfl, hb⟩
     refine ⟨_, rfl, ?_⟩
     replace BK265 := am_ (blk_below (qk_ BK265.out) hb)
     replace BK266 := am_ (blk_below (qk_ BK266.out) hb)
     replace BK275 := am_ (blk_below (qk_ BK275.out) hb)
     replace HB := am_ (below_step (qb3_ GE265.out GE266.out GE275.out HB.out) hb)
     (try clear hb)
     refine hK.out _ _ (cc2_ BK265.out) (fun hHeld => ?_)
     clear hK K
     refine no_ ?_
     refine pz_ 4 25 (nb_ 10 159) HT_.out ?_
     refine pz_ 5 30 (nb_ 10 191) HT_.out ?_
     refine pz_ 6 31 (nb_ 10 255) HT_.out ?_
     exact norm_ (by simp only [putAll, Act.put, List.setIfInBounds_toArray, List.set_cons_zero, List.set_cons_succ]) (hCont (gb275) _ ⟨hHeld, (qk_ BK265.out), (qk_ BK266.out), (qk_ BK275.out), GW275.out, GE275.out, NB265_275.out, NB275_265.out, NB266_275.out, NB275_266.out, (qb3_ GE265.out GE266.out GE275.out HB.out)⟩)
   rintro gb275 w18 ⟨hS_, h0_, h1_, h2_, h3_, h4_, h5_, h6_, h7_, h8_, h9_⟩
   replace BK265 := am_ h0_
   replace BK266 := am_ h1_
   have BK275 := am_ h2_
   have GE275 := am_ h4_
   have NB265_275 := am_ h5_
   have NB275_265 := am_ h6_
   have NB266_275 := am_ h7_
   have NB275_266 := am_ h8_
   replace HB := am_ h9_
   clear h0_ h1_ h2_ h3_ h4_ h5_ h6_ h7_ h8_ h9_
   have hHeld := hS_
   refine norm_ (a' := ?_) ?_ ?_
   rotate_left
   ·simp only [putAll, Act.put, List.setIfInBounds_toArray, List.set_cons_zero, List.set_cons_succ]
    rfl
   refine one_ (i := 8) (N := none) (nb_ 10 511) rfl rfl (one_of HT_.out (by kernel_rfl)) (by decide) (fun K hK => ?_)
   have hs19 : w18.cell? ⟨gb275, 0, none⟩ = some (.int .i64 0) := (blk_cell BK275.out 0).trans rfl
   have hfs19 := blk_frozen BK275.out 0
   have hns19_0 := NB265_275.out
   have hns19_1 := NB266_275.out
   have hms19_0 := NB275_265.out
   have hms19_1 := NB275_266.out
   have hs20 : w18.cell? ⟨gb275, 1, none⟩ = some (.int .u64 0) := (blk_cell BK275.out 1).trans rfl
   have hfs20 := blk_frozen BK275.out 1
   have hns20_0 := NB265_275.out
   have hns20_1 := NB266_275.out
   have hms20_0 := NB275_265.out
   have hms20_1 := NB275_266.out
   refine skip_ (w1 := ?_) (by rfl) rfl ?_ ?_
   rotate_left
   ·go_simp
    rfl
   refine hK.out _ _ ⟨((cell_far (p := ⟨gb275, _, none⟩) NB265_275.out _).trans (((cell_far (p := ⟨gb275, _, none⟩) NB265_275.out _).trans (hHeld.1)))), ((cell_far (p := ⟨gb275, _, none⟩) NB265_275.out _).trans (((cell_far (p := ⟨gb275, _, none⟩) NB265_275.out _).trans (hHeld.2))))⟩ (fun hHeld => ?_)
   clear hK K
   refine pz_ 9 10 (nb_ 10 1023) HT_.out ?_
   refine done_ (done_of HT_.out (by kernel_rfl)) ?_
   try go_wp2
   have n0_ : Aside0 (((w18.setCell ⟨gb275, 0, none⟩ (.int .i64 t272)).setCell ⟨gb275, 1, none⟩ (.int .u64 t273)).heap[gb265]? = some (.cells #[.int .i64 a0_0, .int .u64 a0_1] 32 (0, 0))) := ⟨qff_ NB265_275.out NB265_275.out BK265.out⟩
   have n1_ : Aside0 (((w18.setCell ⟨gb275, 0, none⟩ (.int .i64 t272)).setCell ⟨gb275, 1, none⟩ (.int .u64 t273)).heap[gb266]? = some (.cells #[.int .i64 0, .int .u64 0] 32 (0, 0))) := ⟨qff_ NB266_275.out NB266_275.out BK266.out⟩
   have n2_ : Aside0 (((w18.setCell ⟨gb275, 0, none⟩ (.int .i64 t272)).setCell ⟨gb275, 1, none⟩ (.int .u64 t273)).heap[gb275]? = some (.cells #[.int .i64 t272, .int .u64 t273] 32 (0, 0))) := ⟨qpp_ #[.int .i64 t272, .int .u64 0] 1 #[.int .i64 0, .int .u64 0] 0 BK275.out⟩
   have n3_ : Aside0 (Below w.heap.size w ((w18.setCell ⟨gb275, 0, none⟩ (.int .i64 t272)).setCell ⟨gb275, 1, none⟩ (.int .u64 t273))) := ⟨qb3_ GE265.out GE266.out GE275.out HB.out⟩
   (try clear BK265)
   (try clear BK266)
   (try clear BK275)
   (try clear HB)
   generalize ((w18.setCell ⟨gb275, 0, none⟩ (.int .i64 t272)).setCell ⟨gb275, 1, none⟩ (.int .u64 t273)) = w21 at n0_ n1_ n2_ n3_ ⊢
   have BK265 := n0_
   have BK266 := n1_
   have BK275 := n2_
   have HB := n3_
   clear n0_ n1_ n2_ n3_
   replace BK265 := am_ (blk_drew BK265.out)
   replace BK266 := am_ (blk_drew BK266.out)
   replace BK275 := am_ (blk_drew BK275.out)
   replace HB := am_ (below_drew1 HB.out)
   refine start_ (n := 5) (S := cS2_ gb275 (.int .i64 t272) (.int .u64 t273)) (ds := []) (nb_ 5 0) (by kernel_rfl) rfl rfl (cc2_ BK275.out) (fun hHeld => ?_)
   generalize w21.drew = w22 at BK265 BK266 HB hHeld ⊢
   refine pure_ (i := 0) (N := some 32) (v := ?_) (a' := ?_) (nb_ 5 1) rfl rfl (by kernel_rfl) (fun _ _ _ h => h) (Or.inl ⟨by rfl, ?_⟩) ?_ ?_
   rotate_left
   ·intro w'
    go_simp
    with_reducible rfl
   rotate_left
   ·simp only [Act.put, List.setIfInBounds_toArray, List.set_cons_zero, List.set_cons_succ, i64_w, i32_w]
    rfl
   refine pure_ (i := 2) (N := some 4) (v := ?_) (a' := ?_) (nb_ 5 5) rfl rfl (by kernel_rfl) (fun _ _ _ h => h) (Or.inl ⟨by rfl, ?_⟩) ?_ ?_
   rotate_left
   ·intro w'
    go_simp
    with_reducible rfl
   rotate_left
   ·simp only [Act.put, List.setIfInBounds_toArray, List.set_cons_zero, List.set_cons_succ, i64_w, i32_w]
    rfl
   refine take_ (i := 1) (N := some 33) (v := ?_) (a' := ?_) (nb_ 5 7) rfl rfl (by kernel_rfl) (fun _ _ _ h => h) (Or.inl ⟨by rfl, ?_⟩) hHeld ?_ ?_
   rotate_left
   ·rintro w' ⟨s0, s1⟩
    go_simp
    with_reducible rfl
   rotate_left
   ·simp only [Act.put, List.setIfInBounds_toArray, List.set_cons_zero, List.set_cons_succ, i64_w, i32_w]
    rfl
   refine one_ (i := 3) (N := none) (nb_ 5 15) rfl rfl (by kernel_rfl) (by decide) (fun K hK => ?_)
   have hs23 : w22.cell? ⟨gb266, 0, none⟩ = some (.int .i64 0) := (blk_cell BK266.out 0).trans rfl
   have hfs23 := blk_frozen BK266.out 0
   have hns23_0 := NB265_266.out
   have hns23_2 := NB275_266.out
   have hms23_0 := NB266_265.out
   have hms23_2 := NB266_275.out
   have hs24 : w22.cell? ⟨gb266, 1, none⟩ = some (.int .u64 0) := (blk_cell BK266.out 1).trans rfl
   have hfs24 := blk_frozen BK266.out 1
   have hns24_0 := NB265_266.out
   have hns24_2 := NB275_266.out
   have hms24_0 := NB266_265.out
   have hms24_2 := NB266_275.out
   refine skip_ (w1 := ?_) (by rfl) rfl ?_ ?_
   rotate_left
   ·go_simp
    rfl
   refine hK.out _ _ ⟨((cell_far (p := ⟨gb266, _, none⟩) NB275_266.out _).trans (((cell_far (p := ⟨gb266, _, none⟩) NB275_266.out _).trans (hHeld.1)))), ((cell_far (p := ⟨gb266, _, none⟩) NB275_266.out _).trans (((cell_far (p := ⟨gb266, _, none⟩) NB275_266.out _).trans (hHeld.2))))⟩ (fun hHeld => ?_)
   clear hK K
   refine pure_ (i := 4) (N := some 6) (v := ?_) (a' := ?_) (nb_ 5 31) rfl rfl (by kernel_rfl) (fun _ _ _ h => h) (Or.inl ⟨by rfl, ?_⟩) ?_ ?_
   rotate_left
   ·intro w'
    go_simp
    with_reducible rfl
   rotate_left
   ·simp only [Act.put, List.setIfInBounds_toArray, List.set_cons_zero, List.set_cons_succ, i64_w, i32_w]
    rfl
   refine done_ (by kernel_rfl) ?_
   try go_wp2
   refine bodyPost_ret (results_list (rs := [.tmp 4, .cell 5 32, .tmp 6]) rfl (by simp) (.tmp (.cell gb266 32 #[.int .i64 t272, .int .u64 t273] (0, 0) _ rfl (qpp_ #[.int .i64 t272, .int .u64 0] 1 #[.int .i64 0, .int .u64 0] 0 BK266.out) Tryd.underlying32 rfl (by kernel_rfl) (.tmp .nil)))) rfl ?_
   exact ⟨qe_, qb3_ GE265.out GE266.out GE275.out HB.out⟩
  ·replace c6 := Bool.eq_false_iff.mpr c6
   subst c6
   rw [if_neg (show ¬ (false = true) by decide)] at H
   simp only [Option.some.injEq, Prod.mk.injEq] at H
   obtain ⟨rfl, rfl, rfl, rfl⟩ := H
   go_enter Tryd.func33, Tryd.ntmps33
   go_wp2_with (first | ((with_reducible refine gate_dst (N := 2) rfl ?_); refine be_ (N := 2) (cs := #[.int .i64 a0_0, .int .u64 a0_1]) (t := 32) ?_; intro gb265 hg w25 hbox hb; have BK265 := am_ (hbox); have GE265 := am_ (bz_ hg (qb_ HB.out) : w.heap.size ≤ gb265); replace HB := am_ (below_step (qb_ HB.out) hb); clear hb hbox hg) | ((with_reducible refine gate_dst (N := 5) rfl ?_); refine be_ (N := 5) (cs := #[.int .i64 0, .int .u64 0]) (t := 32) ?_; intro gb266 hg w26 hbox hb; have BK266 := am_ (hbox); have GE266 := am_ (bz_ hg (qb1_ GE265.out HB.out) : w.heap.size ≤ gb266); replace HB := am_ (below_step (qb1_ GE265.out HB.out) hb); have NB265_266 := am_ (nl_ hg (qk_ BK265.out) : gb265 ≠ gb266); have NB266_265 := am_ (ng_ hg (qk_ BK265.out) : gb266 ≠ gb265); replace BK265 := am_ (blk_below (qk_ BK265.out) hb); clear hb hbox hg; have hnb27 := NB265_266.out; have hnc27 := NB266_265.out; obtain ⟨Z28_0, Z28_1, Y28_0, Y28_1⟩ := cz2_ BK265.out) | ((with_reducible refine gate_callee (f := 71) rfl ?_); refine goesL_ (some 14) rfl rfl Tryd.func71 (by kernel_rfl) rfl #[.agg #[.int .i64 a0_0, .int .u64 a0_1], .int .i64 1603080000000, .int .i64 a1] rfl ql_ ?_; (with_reducible refine (rounding_Divide.calls (hG := by first | exact hG | (with_reducible exact GW.below hG (qb2_ GE265.out GE266.out HB.out)) | (with_reducible repeat (first | exact hG | apply GW.drewN | apply GW.drew))) a0_0 a0_1 1603080000000 a1 t267 t268 _ A3.out).mono ?_); rintro e w29 ⟨rfl, hb⟩; refine ⟨_, rfl, ?_⟩; replace BK265 := am_ (blk_below (qk_ BK265.out) hb); replace BK266 := am_ (blk_below (qk_ BK266.out) hb); replace HB := am_ (below_step (qb2_ GE265.out GE266.out HB.out) hb); (try clear hb)) | ((with_reducible refine gate_callee (f := 72) rfl ?_); refine goesL_ (some 22) rfl rfl Tryd.func72 (by kernel_rfl) rfl #[.int .i64 t267] rfl ql_ ?_; (with_reducible refine (rounding_valid.calls t267 false _ A5.out).mono ?_); rintro e w' ⟨rfl, ⟨nd, rfl⟩⟩; refine ⟨_, rfl, ?_⟩; (try (rw [drewN_self w29]; generalize hq_ : World.drewN w29 _ = w29; replace BK265 : Aside0 (w29.heap[gb265]? = some (.cells #[.int .i64 a0_0, .int .u64 a0_1] 32 (0, 0))) := ⟨by rw [← hq_]; exact (qk_ BK265.out)⟩; replace BK266 : Aside0 (w29.heap[gb266]? = some (.cells #[.int .i64 0, .int .u64 0] 32 (0, 0))) := ⟨by rw [← hq_]; exact (qk_ BK266.out)⟩; replace HB : Aside0 (Below w.heap.size w w29) := ⟨by rw [← hq_]; exact (qb2_ GE265.out GE266.out HB.out)⟩; clear hq_)); obtain ⟨Z30_0, Z30_1, Y30_0, Y30_1⟩ := cz2_ BK266.out))
   refine bodyPost_ret (results_list (rs := [.tmp 4, .cell 5 32, .tmp 6]) rfl (by simp) (.tmp (.cell gb266 32 #[.int .i64 0, .int .u64 0] (0, 0) _ rfl (qpp_ #[.int .i64 0, .int .u64 0] 1 #[.int .i64 0, .int .u64 0] 0 BK266.out) Tryd.underlying32 rfl (by kernel_rfl) (.tmp .nil)))) rfl ?_
   exact ⟨qe_, qb2_ GE265.out GE266.out HB.out⟩
 ·rw [if_neg c4] at H
  have c4b0 : (t268 == 0) = false := beq_eq_false_iff_ne.mpr c4
  have c4b1 : (t268 != 0) = true := bne_iff_ne.mpr c4
  simp only [Option.some.injEq, Prod.mk.injEq] at H
  obtain ⟨rfl, rfl, rfl, rfl⟩ := H
  go_enter Tryd.func33, Tryd.ntmps33
  go_wp2_with (first | ((with_reducible refine gate_dst (N := 2) rfl ?_); refine be_ (N := 2) (cs := #[.int .i64 a0_0, .int .u64 a0_1]) (t := 32) ?_; intro gb265 hg w31 hbox hb; have BK265 := am_ (hbox); have GE265 := am_ (bz_ hg (qb_ HB.out) : w.heap.size ≤ gb265); replace HB := am_ (below_step (qb_ HB.out) hb); clear hb hbox hg) | ((with_reducible refine gate_dst (N := 5) rfl ?_); refine be_ (N := 5) (cs := #[.int .i64 0, .int .u64 0]) (t := 32) ?_; intro gb266 hg w32 hbox hb; have BK266 := am_ (hbox); have GE266 := am_ (bz_ hg (qb1_ GE265.out HB.out) : w.heap.size ≤ gb266); replace HB := am_ (below_step (qb1_ GE265.out HB.out) hb); have NB265_266 := am_ (nl_ hg (qk_ BK265.out) : gb265 ≠ gb266); have NB266_265 := am_ (ng_ hg (qk_ BK265.out) : gb266 ≠ gb265); replace BK265 := am_ (blk_below (qk_ BK265.out) hb); clear hb hbox hg; have hnb33 := NB265_266.out; have hnc33 := NB266_265.out; obtain ⟨Z34_0, Z34_1, Y34_0, Y34_1⟩ := cz2_ BK265.out) | ((with_reducible refine gate_callee (f := 71) rfl ?_); refine goesL_ (some 14) rfl rfl Tryd.func71 (by kernel_rfl) rfl #[.agg #[.int .i64 a0_0, .int .u64 a0_1], .int .i64 1603080000000, .int .i64 a1] rfl ql_ ?_; (with_reducible refine (rounding_Divide.calls (hG := by first | exact hG | (with_reducible exact GW.below hG (qb2_ GE265.out GE266.out HB.out)) | (with_reducible repeat (first | exact hG | apply GW.drewN | apply GW.drew))) a0_0 a0_1 1603080000000 a1 t267 t268 _ A3.out).mono ?_); rintro e w35 ⟨rfl, hb⟩; refine ⟨_, rfl, ?_⟩; have n1_ := am_ (blk_below (qk_ BK266.out) hb); have n2_ := am_ (below_step (qb2_ GE265.out GE266.out HB.out) hb); (try clear BK265); clear BK266; clear HB; have BK266 := n1_; have HB := n2_; clear n1_ n2_; (try clear hb); obtain ⟨Z36_0, Z36_1, Y36_0, Y36_1⟩ := cz2_ BK266.out))
  refine bodyPost_ret (results_list (rs := [.tmp 4, .cell 5 32, .tmp 6]) rfl (by simp) (.tmp (.cell gb266 32 #[.int .i64 0, .int .u64 0] (0, 0) _ rfl (qpp_ #[.int .i64 0, .int .u64 0] 1 #[.int .i64 0, .int .u64 0] 0 BK266.out) Tryd.underlying32 rfl (by kernel_rfl) (.tmp .nil)))) rfl ?_
  exact ⟨qe_, qb2_ GE265.out GE266.out HB.out⟩
/-- The amount of a number of grains: amount, what is left (two words), code. -/
def amtR (v m : Int) : Int × Int × Int × Int :=
 if (divR v 1603080000000 m).2 = 0 then
  (if -1000000000000 ≤ (divR v 1603080000000 m).1 ∧ (divR v 1603080000000 m).1 ≤ 1000000000000 then
   ((divR v 1603080000000 m).1, (v - (divR v 1603080000000 m).1 * 1603080000000) / 18446744073709551616, (v - (divR v 1603080000000 m).1 * 1603080000000) % 18446744073709551616, 0) else (0, 0, 0, 6))
 else (0, 0, 0, (divR v 1603080000000 m).2)
theorem amt_rest {v m : Int} (e : (divR v 1603080000000 m).2 = 0) : (divR v 1603080000000 m).1 = rq v 1603080000000 m ∧ -1603080000000 < v - rq v 1603080000000 m * 1603080000000 ∧ v - rq v 1603080000000 m * 1603080000000 < 1603080000000 := by
 have h1 := Int.emod_add_mul_ediv v 1603080000000
 have h2 := Int.emod_nonneg v (show (1603080000000 : Int) ≠ 0 by decide)
 have h3 := Int.emod_lt_of_pos v (show (0 : Int) < 1603080000000 by decide)
 refine ⟨?_, ?_⟩
 ·unfold divR at e ⊢
  split
  ·rename_i c; rw [if_pos c] at e; cases e
  ·rename_i c; rw [if_neg c] at e
   split
   ·rfl
   ·rename_i c2; rw [if_neg c2] at e; cases e
 ·unfold rq; split <;> omega
def rounding_Amount.f (a0_0 a0_1 a1 : Int) : Option (Int × Int × Int × Int) := if isW a0_0 a0_1 then some (amtR (wv a0_0 a0_1) a1) else none
theorem rounding_Amount.eq {a b m : Int} {r : Int × Int × Int × Int} (h : rounding_Amount.f a b m = some r) : rounding_AmountP.f a b m = some r := by
 unfold rounding_Amount.f at h
 split at h
 ·rename_i q
  injection h with h
  subst h
  unfold rounding_AmountP.f rounding_Divide.f
  rw [if_pos ⟨q, by decide⟩]
  simp only [Option.bind_some]
  unfold amtR
  by_cases e : (divR (wv a b) 1603080000000 m).2 = 0
  ·rw [if_pos e, if_pos e]
   obtain ⟨hq, q0, q1⟩ := amt_rest e
   rw [hq]
   generalize rq (wv a b) 1603080000000 m = x at *
   unfold rounding_valid.f
   by_cases g : -1000000000000 ≤ x ∧ x ≤ 1000000000000
   ·rw [if_pos g.1, decide_eq_true g.2, if_pos g]
    simp only [Option.bind_some, if_true]
    have hp : -1603080000000000000000000 ≤ x * 1603080000000 ∧ x * 1603080000000 ≤ 1603080000000000000000000 := by omega
    unfold wide_Mul.f
    rw [if_pos ⟨by unfold inI; omega, by decide⟩]
    simp only [Option.bind_some]
    have hw : wv (x * 1603080000000 / 18446744073709551616) (x * 1603080000000 % 18446744073709551616) = x * 1603080000000 := by unfold wv; omega
    unfold wide_Sub.f
    rw [if_pos ⟨q, by unfold inI; omega, by unfold inU; omega⟩, hw, if_pos (by unfold in128; omega)]
    simp only [Option.bind_some]
   ·rw [if_neg g]
    by_cases g1 : x ≥ -1000000000000
    ·rw [if_pos g1, decide_eq_false (by omega)]
     simp
    ·rw [if_neg g1]
     simp
  ·rw [if_neg e, if_neg e]
 ·cases h
theorem rounding_Amount.calls (a0_0 a0_1 a1 r1 r2 r3 r4 : Int) (w : World) (hG : GW w) (h : rounding_Amount.f a0_0 a0_1 a1 = some (r1, r2, r3, r4)) :
  Calls Tryd.prog 33 #[.agg #[.int .i64 a0_0, .int .u64 a0_1], .int .i64 a1] w fun e w' => e = .returned (.tuple #[.int .i64 r1, .agg #[.int .i64 r2, .int .u64 r3], .int .i64 r4]) ∧ Below w.heap.size w w' := by
 have h := rounding_Amount.eq h
 exact rounding_AmountP.calls a0_0 a0_1 a1 r1 r2 r3 r4 w hG h
def api_Due_34.f (l0 : List (S67)) : Option ((List (S67))) := (some (([] : List (S67)) : List (S67))).bind fun y199 => (if y199.length + l0.length < 4398046511104 then (some (y199 ++ l0)) else (none))
set_option maxHeartbeats 8000000 in
set_option maxRecDepth 100000 in
theorem api_Due_34.some_calls (ad0 : Addr) (c0 : Nat) (l0 r : List (S67)) (w : World) (hr0 : Kd.C k67 w (some ad0) l0.length l0) (hc0 : l0.length ≤ c0) (h : api_Due_34.f l0 = some r) :
  Calls Tryd.prog 34 #[.slice (some ad0) l0.length c0] w fun e w' => ∃ v0_ : Value, e = .returned (v0_) ∧ Kd.R k67 67 w' w.heap.size (fun _ => True) v0_ r ∧ Below w.heap.size w w' := by
 have HR0 := am_ hr0
 have HC0 := am_ hc0
 clear hr0 hc0
 have HB := am_ (Below.refl w.heap.size w)
 have qnil : ∀ (w : World) (a : Option Addr) (n c n' c' : Nat), (binOp .eql 24 (.slice a n c) (.slice none n' c')).run Tryd.prog w = .ok (.bool a.isNone) w := fun w a n c n' c' => Lib.run_eql_slice_nil w _ _ a n c n' c' Tryd.underlying24
 have H : ((some (([] : List (S67)) : List (S67))).bind fun y199 => (if y199.length + l0.length < 4398046511104 then (some (y199 ++ l0)) else (none))) = some r := h
 clear h
 obtain ⟨y199, hy199⟩ : ∃ y_ : List (S67), y_ = (([] : List (S67))) := ⟨_, rfl⟩
 replace H : (if y199.length + l0.length < 4398046511104 then (some (y199 ++ l0)) else (none)) = some r := by first | (rw [hy199]; with_reducible exact H) | (have H2_ := (Option.bind_some _ _).symm.trans H; rw [hy199]; with_reducible exact H2_) | (have H2_ := (Option.bind_some _ _).symm.trans H; with_reducible exact H2_) | with_reducible exact H | (rw [hy199]; exact H) | exact H
 have Ny199 := am_ hy199
 clear hy199
 by_cases c2 : y199.length + l0.length < 4398046511104
 ·rw [if_pos c2] at H
  have LMc2 := am_ c2
  clear c2
  obtain ⟨y202, hy202⟩ : ∃ y_ : List (S67), y_ = (y199 ++ l0) := ⟨_, rfl⟩
  replace H : (some y202) = some r := by first | (rw [hy202]; with_reducible exact H) | (have H2_ := (Option.bind_some _ _).symm.trans H; rw [hy202]; with_reducible exact H2_) | (have H2_ := (Option.bind_some _ _).symm.trans H; with_reducible exact H2_) | with_reducible exact H | (rw [hy202]; exact H) | exact H
  have Ny202 := am_ hy202
  clear hy202
  obtain rfl := Option.some.inj H
  go_enter Tryd.func34, Tryd.ntmps34
  go_wp2_with (first | ((with_reducible refine gate_dst (N := 5) rfl ?_); refine Kd.R_lit k67 _ 67 ?hg (N := 5) ?hd (xs := ([] : List (S67))) (inner := []) (ok := fun _ => True) (okp := fun _ => True) ?hr ?hp (fun _ hk => hk) trivial (Below.refl _ _) (Nat.le_refl _) (by simp) ?_; (case hd => rfl); (case hg => rfl); (case hr => first | (go_simp; done) | (go_simp; rfl)); (case hp => exact (Reps.none _ _)); intro v200 w3 ho4 hb hg_ hnew_; clear hg_ hnew_; (first | rw [← Ny199.out] at ho4 | (simp only [Int.reduceToNat] at ho4; rw [← Ny199.out] at ho4)); have n0_ := am_ (Kd.R_lower ho4 (below_size (qb_ HB.out))); have n1_ := am_ (below_step (qb_ HB.out) hb); clear HB; have HO201 := n0_; have HB := n1_; clear n0_ n1_; clear hb ho4) | ((with_reducible refine gate_builtin (b := .append) (xs := #[.tmp 5, .tmp 6]) rfl ?_); at_builtin; refine Kd.R_append_rows k67 (w0 := w) w.heap.size rfl (.tmp 5) (.tmp 6) 24 67 (.agg #[(.int .i64 0), (.int .i64 0), (.int .i64 0), (.int .i64 0)]) 32 rfl Tryd.underlying24 (by kernel_rfl) rfl (by decide) (by omega) v200 y199 l0 _ _ _ (fun _ => True) (fun _ => False) rfl rfl ?aO ?aR (fun _ _ h => h) (fun _ h => h.elim) ?aF ?aB ?aS ?aL ?_; (case aR => repeat (first | exact (Kd.C_below HR0.out HB.out) | (with_reducible refine Kd.C_alloc ?_ _) | (with_reducible refine Kd.C_drewN ?_ _) | (with_reducible refine Kd.C_drew ?_))); (case aB => exact (qb_ HB.out)); (case aF => exact (fun _ _ => trivial)); (case aO => exact (by (with_reducible repeat (first | apply Kd.R_alloc | apply Kd.R_drewN | apply Kd.R_drew)); exact HO201.out)); (case aS => exact (below_size (qb_ HB.out))); (case aL => have := LMc2.out; omega); intro v203 w5 ho hb hg hat; rw [← Ny202.out] at ho; have n0_ := am_ (hb); have n1_ := am_ (ho); clear HB; clear HO201; have HB := n0_; have HO204 := n1_; clear n0_ n1_; clear ho hb hg hat))
  go_ret
  exact ⟨_, qe_, by (with_reducible repeat (first | apply Kd.R_alloc | apply Kd.R_drewN | apply Kd.R_drew)); exact HO204.out, qb_ HB.out⟩
 ·rw [if_neg c2] at H
  exact absurd H (by simp)
set_option maxHeartbeats 1000000 in
set_option maxRecDepth 100000 in
theorem api_Due_34.none_calls (c0 : Nat) (w : World) : Calls Tryd.prog 34 #[.slice none 0 c0] w fun e w' => e = .returned (.slice none 0 0) ∧ Below w.heap.size w w' := by
 have qnil : ∀ (w : World) (a : Option Addr) (n c n' c' : Nat), (binOp .eql 24 (.slice a n c) (.slice none n' c')).run Tryd.prog w = .ok (.bool a.isNone) w := fun w a n c n' c' => Lib.run_eql_slice_nil w _ _ a n c n' c' Tryd.underlying24
 go_enter Tryd.func34, Tryd.ntmps34
 go_wp2
 go_ret
 exact ⟨rfl, Below.refl _ _⟩
theorem api_Due_34.calls (A0 : Option Addr) (c0 : Nat) (l0 r : List (S67)) (w : World) (hr0 : Kd.C k67 w A0 l0.length l0) (hc0 : l0.length ≤ c0) (h : api_Due_34.f l0 = some r) :
  Calls Tryd.prog 34 #[.slice A0 l0.length c0] w fun e w' => ∃ v0_ : Value, e = .returned (v0_) ∧ Kd.R k67 67 w' w.heap.size (fun _ => True) v0_ r ∧ Below w.heap.size w w' := by
 cases A0 with
 | some ad0 => exact api_Due_34.some_calls ad0 c0 l0 r w hr0 hc0 h
 | none =>
  have hz : l0.length = 0 := by
   rcases Nat.eq_zero_or_pos l0.length with z | z
   ·exact z
   ·obtain ⟨ad, e, _⟩ := hr0.2.2 z; cases e
  have hl : l0 = [] := List.length_eq_zero_iff.1 hz
  subst hl
  have hr : r = [] := by
   have : api_Due_34.f [] = some [] := by unfold api_Due_34.f; simp
   rw [this] at h; exact (Option.some.inj h).symm
  subst hr
  refine (api_Due_34.none_calls c0 w).mono ?_
  rintro e w' ⟨rfl, hb⟩
  exact ⟨_, rfl, Kd.R_nil _ _ _ _ _, hb⟩
def api_Change.f (l0 : List (S70)) : Option ((List (S70))) := (some (([] : List (S70)) : List (S70))).bind fun y205 => (if y205.length + l0.length < 1099511627776 then (some (y205 ++ l0)) else (none))
set_option maxHeartbeats 8000000 in
set_option maxRecDepth 100000 in
theorem api_Change.some_calls (ad0 : Addr) (c0 : Nat) (l0 r : List (S70)) (w : World) (hr0 : Kd.C k70 w (some ad0) l0.length l0) (hc0 : l0.length ≤ c0) (h : api_Change.f l0 = some r) :
  Calls Tryd.prog 35 #[.slice (some ad0) l0.length c0] w fun e w' => ∃ v0_ : Value, e = .returned (v0_) ∧ Kd.R k70 70 w' w.heap.size (fun _ => True) v0_ r ∧ Below w.heap.size w w' := by
 have HR0 := am_ hr0
 have HC0 := am_ hc0
 clear hr0 hc0
 have HB := am_ (Below.refl w.heap.size w)
 have qnil : ∀ (w : World) (a : Option Addr) (n c n' c' : Nat), (binOp .eql 25 (.slice a n c) (.slice none n' c')).run Tryd.prog w = .ok (.bool a.isNone) w := fun w a n c n' c' => Lib.run_eql_slice_nil w _ _ a n c n' c' Tryd.underlying25
 have H : ((some (([] : List (S70)) : List (S70))).bind fun y205 => (if y205.length + l0.length < 1099511627776 then (some (y205 ++ l0)) else (none))) = some r := h
 clear h
 obtain ⟨y205, hy205⟩ : ∃ y_ : List (S70), y_ = (([] : List (S70))) := ⟨_, rfl⟩
 replace H : (if y205.length + l0.length < 1099511627776 then (some (y205 ++ l0)) else (none)) = some r := by first | (rw [hy205]; with_reducible exact H) | (have H2_ := (Option.bind_some _ _).symm.trans H; rw [hy205]; with_reducible exact H2_) | (have H2_ := (Option.bind_some _ _).symm.trans H; with_reducible exact H2_) | with_reducible exact H | (rw [hy205]; exact H) | exact H
 have Ny205 := am_ hy205
 clear hy205
 by_cases c2 : y205.length + l0.length < 1099511627776
 ·rw [if_pos c2] at H
  have LMc2 := am_ c2
  clear c2
  obtain ⟨y208, hy208⟩ : ∃ y_ : List (S70), y_ = (y205 ++ l0) := ⟨_, rfl⟩
  replace H : (some y208) = some r := by first | (rw [hy208]; with_reducible exact H) | (have H2_ := (Option.bind_some _ _).symm.trans H; rw [hy208]; with_reducible exact H2_) | (have H2_ := (Option.bind_some _ _).symm.trans H; with_reducible exact H2_) | with_reducible exact H | (rw [hy208]; exact H) | exact H
  have Ny208 := am_ hy208
  clear hy208
  obtain rfl := Option.some.inj H
  go_enter Tryd.func35, Tryd.ntmps35
  go_wp2_with (first | ((with_reducible refine gate_dst (N := 5) rfl ?_); refine Kd.R_lit k70 _ 70 ?hg (N := 5) ?hd (xs := ([] : List (S70))) (inner := []) (ok := fun _ => True) (okp := fun _ => True) ?hr ?hp (fun _ hk => hk) trivial (Below.refl _ _) (Nat.le_refl _) (by simp) ?_; (case hd => rfl); (case hg => rfl); (case hr => first | (go_simp; done) | (go_simp; rfl)); (case hp => exact (Reps.none _ _)); intro v206 w3 ho4 hb hg_ hnew_; clear hg_ hnew_; (first | rw [← Ny205.out] at ho4 | (simp only [Int.reduceToNat] at ho4; rw [← Ny205.out] at ho4)); have n0_ := am_ (Kd.R_lower ho4 (below_size (qb_ HB.out))); have n1_ := am_ (below_step (qb_ HB.out) hb); clear HB; have HO207 := n0_; have HB := n1_; clear n0_ n1_; clear hb ho4) | ((with_reducible refine gate_builtin (b := .append) (xs := #[.tmp 5, .tmp 6]) rfl ?_); at_builtin; refine Kd.R_append_rows k70 (w0 := w) w.heap.size rfl (.tmp 5) (.tmp 6) 25 70 (.agg #[(.int .i64 0), (.int .i64 0), (.int .i64 0), (.int .i64 0), (.int .i64 0), (.int .i64 0), (.int .i64 0), (.int .i64 0), (.int .i64 0), (.int .i64 0), (.int .i64 0), (.int .i64 0), (.string ⟨#[]⟩), (.string ⟨#[]⟩)]) 128 rfl Tryd.underlying25 (by kernel_rfl) rfl (by decide) (by omega) v206 y205 l0 _ _ _ (fun _ => True) (fun _ => False) rfl rfl ?aO ?aR (fun _ _ h => h) (fun _ h => h.elim) ?aF ?aB ?aS ?aL ?_; (case aR => repeat (first | exact (Kd.C_below HR0.out HB.out) | (with_reducible refine Kd.C_alloc ?_ _) | (with_reducible refine Kd.C_drewN ?_ _) | (with_reducible refine Kd.C_drew ?_))); (case aB => exact (qb_ HB.out)); (case aF => exact (fun _ _ => trivial)); (case aO => exact (by (with_reducible repeat (first | apply Kd.R_alloc | apply Kd.R_drewN | apply Kd.R_drew)); exact HO207.out)); (case aS => exact (below_size (qb_ HB.out))); (case aL => have := LMc2.out; omega); intro v209 w5 ho hb hg hat; rw [← Ny208.out] at ho; have n0_ := am_ (hb); have n1_ := am_ (ho); clear HB; clear HO207; have HB := n0_; have HO210 := n1_; clear n0_ n1_; clear ho hb hg hat))
  go_ret
  exact ⟨_, qe_, by (with_reducible repeat (first | apply Kd.R_alloc | apply Kd.R_drewN | apply Kd.R_drew)); exact HO210.out, qb_ HB.out⟩
 ·rw [if_neg c2] at H
  exact absurd H (by simp)
set_option maxHeartbeats 1000000 in
set_option maxRecDepth 100000 in
theorem api_Change.none_calls (c0 : Nat) (w : World) : Calls Tryd.prog 35 #[.slice none 0 c0] w fun e w' => e = .returned (.slice none 0 0) ∧ Below w.heap.size w w' := by
 have qnil : ∀ (w : World) (a : Option Addr) (n c n' c' : Nat), (binOp .eql 25 (.slice a n c) (.slice none n' c')).run Tryd.prog w = .ok (.bool a.isNone) w := fun w a n c n' c' => Lib.run_eql_slice_nil w _ _ a n c n' c' Tryd.underlying25
 go_enter Tryd.func35, Tryd.ntmps35
 go_wp2
 go_ret
 exact ⟨rfl, Below.refl _ _⟩
theorem api_Change.calls (A0 : Option Addr) (c0 : Nat) (l0 r : List (S70)) (w : World) (hr0 : Kd.C k70 w A0 l0.length l0) (hc0 : l0.length ≤ c0) (h : api_Change.f l0 = some r) :
  Calls Tryd.prog 35 #[.slice A0 l0.length c0] w fun e w' => ∃ v0_ : Value, e = .returned (v0_) ∧ Kd.R k70 70 w' w.heap.size (fun _ => True) v0_ r ∧ Below w.heap.size w w' := by
 cases A0 with
 | some ad0 => exact api_Change.some_calls ad0 c0 l0 r w hr0 hc0 h
 | none =>
  have hz : l0.length = 0 := by
   rcases Nat.eq_zero_or_pos l0.length with z | z
   ·exact z
   ·obtain ⟨ad, e, _⟩ := hr0.2.2 z; cases e
  have hl : l0 = [] := List.length_eq_zero_iff.1 hz
  subst hl
  have hr : r = [] := by
   have : api_Change.f [] = some [] := by unfold api_Change.f; simp
   rw [this] at h; exact (Option.some.inj h).symm
  subst hr
  refine (api_Change.none_calls c0 w).mono ?_
  rintro e w' ⟨rfl, hb⟩
  exact ⟨_, rfl, Kd.R_nil _ _ _ _ _, hb⟩
end Go.Proofs.YtogcdcjbleafdaaDoor.PS
end
