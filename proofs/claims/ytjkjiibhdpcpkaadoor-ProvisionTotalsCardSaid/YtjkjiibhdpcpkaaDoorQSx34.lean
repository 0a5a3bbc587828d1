import Derived.Test.YtjkjiibhdpcpkaaDoorQRm2
import Derived.Test.YtjkjiibhdpcpkaaDoorQSx29
import Derived.Test.YtjkjiibhdpcpkaaDoorQSx32
import Derived.Test.YtjkjiibhdpcpkaaDoorQSx33
namespace Go.Proofs.YtjkjiibhdpcpkaaDoor.PS
open Go.RowKit Go.Proofs.YtjkjiibhdpcpkaaDoorW.PrintWords Go.Proofs.YtjkjiibhdpcpkaaDoorW.PrintLast
set_option linter.unusedVariables false
set_option linter.unusedSimpArgs false
mutual
def corebankref01_sumP.j0 : Nat → Bool → Bool → Int → Int → Option (Int × Int × Int)
 | 0, _, _, _, _ => none
 | k + 1, x10, x12, x328000, x328001 => (corebankref01_Join.f x10 x328000 x328001).bind fun bt336 => (if x12 = true then (corebankref01_sumP.j1 k (!bt336.2.2) bt336.1 bt336.2.1) else (corebankref01_sumP.j1 k true bt336.1 bt336.2.1))
def corebankref01_sumP.j1 : Nat → Bool → Int → Int → Option (Int × Int × Int)
 | 0, _, _, _ => none
 | k + 1, x49, x340000, x340001 => if x49 = true then (some (0, 0, 6)) else (some (x340000, x340001, 0))
end
def corebankref01_sumP.f (k : Nat) (a0 : Bool) (a1_0 a1_1 : Int) (a2 : Bool) (a3_0 a3_1 : Int) : Option (Int × Int × Int) := if (a0 == a2) = true then ((corebankref01_plus.f a1_0 a1_1 a3_0 a3_1).bind fun bt328 => (corebankref01_sumP.j0 k a0 bt328.2.2 bt328.1 bt328.2.1)) else ((corebankref01_Less.f a1_0 a1_1 a3_0 a3_1).bind fun t331 => (if t331 = true then ((corebankref01_minus.f a3_0 a3_1 a1_0 a1_1).bind fun bt332 => (corebankref01_sumP.j0 k a2 true bt332.1 bt332.2)) else ((corebankref01_minus.f a1_0 a1_1 a3_0 a3_1).bind fun bt334 => (corebankref01_sumP.j0 k a0 true bt334.1 bt334.2))))
theorem corebankref01_sumP.mono_l : ∀ k, (∀ y0 y1 y2 y3, LeO (corebankref01_sumP.j0 k y0 y1 y2 y3) (corebankref01_sumP.j0 (k + 1) y0 y1 y2 y3)) ∧ (∀ y0 y1 y2, LeO (corebankref01_sumP.j1 k y0 y1 y2) (corebankref01_sumP.j1 (k + 1) y0 y1 y2))
 | 0 => ⟨fun _ _ _ _ r h => by simp [corebankref01_sumP.j0] at h, fun _ _ _ r h => by simp [corebankref01_sumP.j1] at h⟩
 | k + 1 => by
  obtain ⟨ih0, ih1⟩ := corebankref01_sumP.mono_l k
  refine ⟨?_, ?_⟩
  ·intro y0 y1 y2 y3
   unfold corebankref01_sumP.j0
   repeat' first
   | (with_reducible exact ih0 _ _ _ _)
   | (with_reducible exact ih1 _ _ _)
   | (with_reducible exact LeO.refl _)
   | (with_reducible exact LeO.none _)
   | (with_reducible refine LeO.ite ?_ ?_)
   | (with_reducible refine LeO.bind ?_ (fun _ => ?_))
   | exact ih0 _ _ _ _
   | exact ih1 _ _ _
   | exact LeO.none _
   | refine LeO.ite ?_ ?_
   | refine LeO.bind ?_ (fun _ => ?_)
  ·intro y0 y1 y2
   unfold corebankref01_sumP.j1
   repeat' first
   | (with_reducible exact ih0 _ _ _ _)
   | (with_reducible exact ih1 _ _ _)
   | (with_reducible exact LeO.refl _)
   | (with_reducible exact LeO.none _)
   | (with_reducible refine LeO.ite ?_ ?_)
   | (with_reducible refine LeO.bind ?_ (fun _ => ?_))
   | exact ih0 _ _ _ _
   | exact ih1 _ _ _
   | exact LeO.none _
   | refine LeO.ite ?_ ?_
   | refine LeO.bind ?_ (fun _ => ?_)
theorem corebankref01_sumP.mono : ∀ a0 a1 a2 a3 a4 a5 k, LeO (corebankref01_sumP.f k a0 a1 a2 a3 a4 a5) (corebankref01_sumP.f (k + 1) a0 a1 a2 a3 a4 a5) := by
 intro a0 a1 a2 a3 a4 a5 k
 obtain ⟨ih0, ih1⟩ := corebankref01_sumP.mono_l k
 unfold corebankref01_sumP.f
 repeat' first
   | (with_reducible exact ih0 _ _ _ _)
   | (with_reducible exact ih1 _ _ _)
   | (with_reducible exact LeO.refl _)
   | (with_reducible exact LeO.none _)
   | (with_reducible refine LeO.ite ?_ ?_)
   | (with_reducible refine LeO.bind ?_ (fun _ => ?_))
   | exact ih0 _ _ _ _
   | exact ih1 _ _ _
   | exact LeO.none _
   | refine LeO.ite ?_ ?_
   | refine LeO.bind ?_ (fun _ => ?_)
set_option maxHeartbeats 8000000 in
set_option maxRecDepth 100000 in
theorem corebankref01_sumP.calls (k : Nat) (a0 : Bool) (a1_0 a1_1 : Int) (a2 : Bool) (a3_0 a3_1 r1 r2 r3 : Int) (w : World) (h : corebankref01_sumP.f k a0 a1_0 a1_1 a2 a3_0 a3_1 = some (r1, r2, r3)) :
  Calls Tryd.prog 74 #[.bool a0, .agg #[.int .u64 a1_0, .int .u64 a1_1], .bool a2, .agg #[.int .u64 a3_0, .int .u64 a3_1]] w fun e w' => e = .returned (.tuple #[.agg #[.int .i64 r1, .int .u64 r2], .int .i64 r3]) ∧ Below w.heap.size w w' := by
 have hu96 := Tryd.underlying96
 have hu63 := Tryd.underlying63
 have HB := Aside0.mk (Below.refl w.heap.size w)
 have H : (if (a0 == a2) = true then ((corebankref01_plus.f a1_0 a1_1 a3_0 a3_1).bind fun bt328 => (corebankref01_sumP.j0 k a0 bt328.2.2 bt328.1 bt328.2.1)) else ((corebankref01_Less.f a1_0 a1_1 a3_0 a3_1).bind fun t331 => (if t331 = true then ((corebankref01_minus.f a3_0 a3_1 a1_0 a1_1).bind fun bt332 => (corebankref01_sumP.j0 k a2 true bt332.1 bt332.2)) else ((corebankref01_minus.f a1_0 a1_1 a3_0 a3_1).bind fun bt334 => (corebankref01_sumP.j0 k a0 true bt334.1 bt334.2))))) = some (r1, r2, r3) := h
 clear h
 have HC5 := Aside0.mk H
 clear H
 go_enter Tryd.func74, Tryd.ntmps74
 try go_wp2_with (first | ((with_reducible refine gate_dst (N := 5) rfl ?_); refine be_ (N := 5) (cs := #[.int .u64 a1_0, .int .u64 a1_1]) (t := 96) ?_; intro gb324 hg w6 hbox hb; have n0_ := Aside0.mk (below_step (qb_ HB.out) hb); have n1_ := Aside0.mk (hbox); have n2_ := Aside0.mk (bz_ hg (qb_ HB.out) : w.heap.size ≤ gb324); have n3_ := n2_; clear HB; have HB := n0_; have BK324 := n1_; have GW324 := n2_; have GE324 := n3_; clear n0_ n1_ n2_ n3_; clear hb hbox hg) | ((with_reducible refine gate_dst (N := 7) rfl ?_); refine be_ (N := 7) (cs := #[.int .u64 a3_0, .int .u64 a3_1]) (t := 96) ?_; intro gb325 hg w7 hbox hb; have n0_ := Aside0.mk (blk_below (qk_ BK324.out) hb); have n1_ := Aside0.mk (below_step (qb1_ GE324.out HB.out) hb); have n2_ := Aside0.mk (hbox); have n3_ := Aside0.mk (bz_ hg (qb1_ GE324.out HB.out) : w.heap.size ≤ gb325); have n4_ := n3_; have n5_ := Aside0.mk (nl_ hg (qk_ BK324.out) : gb324 ≠ gb325); have n6_ := Aside0.mk (ng_ hg (qk_ BK324.out) : gb325 ≠ gb324); clear BK324; clear HB; have BK324 := n0_; have HB := n1_; have BK325 := n2_; have GW325 := n3_; have GE325 := n4_; have NB324_325 := n5_; have NB325_324 := n6_; clear n0_ n1_ n2_ n3_ n4_ n5_ n6_; clear hb hbox hg) | ((with_reducible refine gate_dst (N := 8) rfl ?_); refine be_ (N := 8) (cs := #[.int .i64 0, .int .u64 0]) (t := 63) ?_; intro gb326 hg w8 hbox hb; have n0_ := Aside0.mk (blk_below (qk_ BK324.out) hb); have n1_ := Aside0.mk (blk_below (qk_ BK325.out) hb); have n2_ := Aside0.mk (below_step (qb2_ GE324.out GE325.out HB.out) hb); have n3_ := Aside0.mk (hbox); have n4_ := Aside0.mk (bz_ hg (qb2_ GE324.out GE325.out HB.out) : w.heap.size ≤ gb326); have n5_ := n4_; have n6_ := Aside0.mk (nl_ hg (qk_ BK324.out) : gb324 ≠ gb326); have n7_ := Aside0.mk (ng_ hg (qk_ BK324.out) : gb326 ≠ gb324); have n8_ := Aside0.mk (nl_ hg (qk_ BK325.out) : gb325 ≠ gb326); have n9_ := Aside0.mk (ng_ hg (qk_ BK325.out) : gb326 ≠ gb325); clear BK324; clear BK325; clear HB; have BK324 := n0_; have BK325 := n1_; have HB := n2_; have BK326 := n3_; have GW326 := n4_; have GE326 := n5_; have NB324_326 := n6_; have NB326_324 := n7_; have NB325_326 := n8_; have NB326_325 := n9_; clear n0_ n1_ n2_ n3_ n4_ n5_ n6_ n7_ n8_ n9_; clear hb hbox hg))
 have n0_ := Aside0.mk (blk_drew BK324.out)
 have n1_ := Aside0.mk (blk_drew BK325.out)
 have n2_ := Aside0.mk (blk_drew BK326.out)
 have n3_ := Aside0.mk (below_drew1 HB.out)
 clear BK324
 clear BK325
 clear BK326
 clear HB
 have BK324 := n0_
 have BK325 := n1_
 have BK326 := n2_
 have HB := n3_
 clear n0_ n1_ n2_ n3_
 refine start_ (n := 6) (S := fun w' => w'.cell? ⟨gb324, 0, none⟩ = some (.int .u64 a1_0) ∧ w'.cell? ⟨gb324, 1, none⟩ = some (.int .u64 a1_1)) (ds := []) (nb_ 6 0) (by kernel_rfl) rfl rfl (cc2_ BK324.out) (fun hHeld => ?_)
 generalize w8.drew = w9 at BK324 BK325 BK326 HB hHeld ⊢
 refine pure_ (i := 0) (N := some 15) (v := ?_) (a' := ?_) (nb_ 6 1) rfl rfl (by kernel_rfl) (fun _ _ _ h => h) (Or.inl ⟨by rfl, ?_⟩) ?_ ?_
 rotate_left
 ·intro w'
  go_simp
  with_reducible rfl
 rotate_left
 ·simp only [Act.put, List.setIfInBounds_toArray, List.set_cons_zero, List.set_cons_succ, i64_w, i32_w]
  rfl
 refine take_ (i := 1) (N := some 16) (v := ?_) (a' := ?_) (nb_ 6 3) rfl rfl (by kernel_rfl) (fun _ _ _ h => h) (Or.inl ⟨by rfl, ?_⟩) hHeld ?_ ?_
 rotate_left
 ·rintro w' ⟨s0, s1⟩
  go_simp
  with_reducible rfl
 rotate_left
 ·simp only [Act.put, List.setIfInBounds_toArray, List.set_cons_zero, List.set_cons_succ, i64_w, i32_w]
  rfl
 refine one_ (i := 2) (N := some 11) (nb_ 6 7) rfl rfl (by kernel_rfl) (by decide) (fun K hK => ?_)
 refine box_step ?hg (N := 11) ?hd (cs := #[.int .u64 0, .int .u64 0]) (t := 96) ?hr ?_; (case hd => rfl); (case hg => rfl); (case hr => first | (go_simp; done) | (go_simp; rfl))
 intro gb327 hg w10 hbox hb
 have n0_ := Aside0.mk (blk_below (qk_ BK324.out) hb)
 have n1_ := Aside0.mk (blk_below (qk_ BK325.out) hb)
 have n2_ := Aside0.mk (blk_below (qk_ BK326.out) hb)
 have n3_ := Aside0.mk (below_step (qb3_ GE324.out GE325.out GE326.out HB.out) hb)
 have n4_ := Aside0.mk (hbox)
 have n5_ := Aside0.mk (bz_ hg (qb3_ GE324.out GE325.out GE326.out HB.out) : w.heap.size ≤ gb327)
 have n6_ := Aside0.mk (bz_ hg (qb3_ GE324.out GE325.out GE326.out HB.out) : w.heap.size ≤ gb327)
 have n7_ := Aside0.mk (nl_ hg (qk_ BK324.out) : gb324 ≠ gb327)
 have n8_ := Aside0.mk (ng_ hg (qk_ BK324.out) : gb327 ≠ gb324)
 have n9_ := Aside0.mk (nl_ hg (qk_ BK325.out) : gb325 ≠ gb327)
 have n10_ := Aside0.mk (ng_ hg (qk_ BK325.out) : gb327 ≠ gb325)
 have n11_ := Aside0.mk (nl_ hg (qk_ BK326.out) : gb326 ≠ gb327)
 have n12_ := Aside0.mk (ng_ hg (qk_ BK326.out) : gb327 ≠ gb326)
 clear BK324
 clear BK325
 clear BK326
 clear HB
 have BK324 := n0_
 have BK325 := n1_
 have BK326 := n2_
 have HB := n3_
 have BK327 := n4_
 have GW327 := n5_
 have GE327 := n6_
 have NB324_327 := n7_
 have NB327_324 := n8_
 have NB325_327 := n9_
 have NB327_325 := n10_
 have NB326_327 := n11_
 have NB327_326 := n12_
 clear n0_ n1_ n2_ n3_ n4_ n5_ n6_ n7_ n8_ n9_ n10_ n11_ n12_
 clear hb hbox hg
 refine hK.out _ _ (cc2_ BK324.out) (fun hHeld => ?_)
 clear hK K
 refine no_ ?_
 refine pure_ (i := 3) (N := some 10) (v := ?_) (a' := ?_) (nb_ 6 15) rfl rfl (by kernel_rfl) (fun _ _ _ h => h) (Or.inl ⟨by rfl, ?_⟩) ?_ ?_
 rotate_left
 ·intro w'
  go_simp
  with_reducible rfl
 rotate_left
 ·simp only [Act.put, List.setIfInBounds_toArray, List.set_cons_zero, List.set_cons_succ, i64_w, i32_w]
  rfl
 refine one_ (i := 4) (N := none) (nb_ 6 31) rfl rfl (by kernel_rfl) (by decide) (fun K hK => ?_)
 have hs11 : w10.cell? ⟨gb327, 0, none⟩ = some (.int .u64 0) := (blk_cell BK327.out 0).trans rfl
 have hfs11 := blk_frozen BK327.out 0
 have hns11_0 := NB324_327.out
 have hns11_1 := NB325_327.out
 have hns11_2 := NB326_327.out
 have hms11_0 := NB327_324.out
 have hms11_1 := NB327_325.out
 have hms11_2 := NB327_326.out
 have hs12 : w10.cell? ⟨gb327, 1, none⟩ = some (.int .u64 0) := (blk_cell BK327.out 1).trans rfl
 have hfs12 := blk_frozen BK327.out 1
 have hns12_0 := NB324_327.out
 have hns12_1 := NB325_327.out
 have hns12_2 := NB326_327.out
 have hms12_0 := NB327_324.out
 have hms12_1 := NB327_325.out
 have hms12_2 := NB327_326.out
 refine skip_ (w1 := ?_) (by rfl) rfl ?_ ?_
 rotate_left
 ·go_simp
  rfl
 refine hK.out _ _ ⟨((cell_far (p := ⟨gb327, _, none⟩) NB324_327.out _).trans (((cell_far (p := ⟨gb327, _, none⟩) NB324_327.out _).trans (hHeld.1)))), ((cell_far (p := ⟨gb327, _, none⟩) NB324_327.out _).trans (((cell_far (p := ⟨gb327, _, none⟩) NB324_327.out _).trans (hHeld.2))))⟩ (fun hHeld => ?_)
 clear hK K
 refine pure_ (i := 5) (N := some 12) (v := ?_) (a' := ?_) (nb_ 6 63) rfl rfl (by kernel_rfl) (fun _ _ _ h => h) (Or.inl ⟨by rfl, ?_⟩) ?_ ?_
 rotate_left
 ·intro w'
  go_simp
  with_reducible rfl
 rotate_left
 ·simp only [Act.put, List.setIfInBounds_toArray, List.set_cons_zero, List.set_cons_succ, i64_w, i32_w]
  rfl
 refine done_ (by kernel_rfl) ?_
 go_upto_block 0 with (fail)
 go_cut [10, 12] (fun v10 v12 wc => ∃ (kq : Nat) (x10_4 x12_4 : Bool) (x328000_4 x328001_4 : Int), v10 = .bool x10_4 ∧ v12 = .bool x12_4 ∧ Aside0 (corebankref01_sumP.j0 kq x10_4 x12_4 x328000_4 x328001_4 = some (r1, r2, r3)) ∧ Aside0 (kq ≤ k) ∧ Aside0 (wc.heap[gb324]? = some (.cells #[.int .u64 a1_0, .int .u64 a1_1] 96 (0, 0))) ∧ Aside0 (wc.heap[gb325]? = some (.cells #[.int .u64 a3_0, .int .u64 a3_1] 96 (0, 0))) ∧ Aside0 (wc.heap[gb326]? = some (.cells #[.int .i64 0, .int .u64 0] 63 (0, 0))) ∧ Aside0 (wc.heap[gb327]? = some (.cells #[.int .u64 x328000_4, .int .u64 x328001_4] 96 (0, 0))) ∧ Aside0 (Below w.heap.size w wc))
 case first =>
  have H := HC5.out
  clear HC5
  by_cases c13 : (a0 == a2) = true
  ·rw [if_pos c13] at H
   have c13b0 : (a0 == a2) = true := c13
   (try (have c13b1 : decide (a0 = a2) = true := by simpa using c13))
   (try (have c13b2 : (a0 == a2) = true := by simpa using c13))
   clear c13
   (first | rw [c13b0] | (simp only [i64_w, i32_w]; rw [c13b0]) | skip)
   replace H := Option.bind_eq_some_iff.mp H
   obtain ⟨⟨t328, t329, t330⟩, A140, H⟩ := H
   replace H : (corebankref01_sumP.j0 k a0 t330 t328 t329) = some (r1, r2, r3) := H
   have A14 := Aside0.mk A140
   clear A140
   have H' := Aside0.mk H
   clear H
   have hnb15 := NB324_325.out
   have hnc15 := NB325_324.out
   have hnb16 := NB324_326.out
   have hnc16 := NB326_324.out
   have hnb17 := NB324_327.out
   have hnc17 := NB327_324.out
   obtain ⟨hcz18_0, hcz18_1, hfz18_0, hfz18_1⟩ := cz2_ BK324.out
   have hnb19 := NB325_326.out
   have hnc19 := NB326_325.out
   have hnb20 := NB325_327.out
   have hnc20 := NB327_325.out
   obtain ⟨hcz21_0, hcz21_1, hfz21_0, hfz21_1⟩ := cz2_ BK325.out
   go_wp2_with (first | ((with_reducible refine gate_callee (f := 72) rfl ?_); refine goesL_ (some 27) rfl rfl Tryd.func72 (by kernel_rfl) rfl #[.agg #[.int .u64 a1_0, .int .u64 a1_1], .agg #[.int .u64 a3_0, .int .u64 a3_1]] rfl ql_ ?_; (with_reducible refine (corebankref01_plus.calls a1_0 a1_1 a3_0 a3_1 t328 t329 t330 _ A14.out).mono ?_); rintro e w22 ⟨rfl, hb⟩; refine ⟨_, rfl, ?_⟩; have n0_ := Aside0.mk (blk_below (g := gb324) (o := .cells #[.int .u64 a1_0, .int .u64 a1_1] 96 (0, 0)) (qff_ NB324_327.out NB324_327.out BK324.out) hb); have n1_ := Aside0.mk (blk_below (g := gb325) (o := .cells #[.int .u64 a3_0, .int .u64 a3_1] 96 (0, 0)) (qff_ NB325_327.out NB325_327.out BK325.out) hb); have n2_ := Aside0.mk (blk_below (g := gb326) (o := .cells #[.int .i64 0, .int .u64 0] 63 (0, 0)) (qff_ NB326_327.out NB326_327.out BK326.out) hb); have n3_ := Aside0.mk (blk_below (g := gb327) (o := .cells #[.int .u64 a1_0, .int .u64 a1_1] 96 (0, 0)) (qpp_ #[.int .u64 a1_0, .int .u64 0] 1 #[.int .u64 0, .int .u64 0] 0 BK327.out) hb); have n4_ := Aside0.mk (below_step (qb4_ GE324.out GE325.out GE326.out GE327.out HB.out) hb); clear BK324; clear BK325; clear BK326; clear BK327; clear HB; have BK324 := n0_; have BK325 := n1_; have BK326 := n2_; have BK327 := n3_; have HB := n4_; clear n0_ n1_ n2_ n3_ n4_; (try clear hb); (try clear hb2); (try clear hk); (try clear hi); have hnb23 := NB327_326.out; have hnc23 := NB326_327.out; obtain ⟨hcz24_0, hcz24_1, hfz24_0, hfz24_1⟩ := cz2_ BK327.out))
   go_meet
   case rel => exact ⟨_, (a0), (t330), (t328), (t329), qs_, qs_, H', ⟨qo_⟩, ⟨qff_ NB324_327.out NB324_327.out BK324.out⟩, ⟨qff_ NB325_327.out NB325_327.out BK325.out⟩, ⟨qff_ NB326_327.out NB326_327.out BK326.out⟩, ⟨qpp_ #[.int .u64 t328, .int .u64 a1_1] 1 #[.int .u64 a1_0, .int .u64 a1_1] 0 BK327.out⟩, ⟨qb4_ GE324.out GE325.out GE326.out GE327.out HB.out⟩⟩
  ·rw [if_neg c13] at H
   have c13b0 : (a0 == a2) = false := by simpa using c13
   (try (have c13b1 : decide (a0 = a2) = false := by simpa using c13))
   (try (have c13b2 : (a0 == a2) = false := by simpa using c13))
   (try (have c13b3 : ¬ (a0 = a2) := by simpa using c13))
   clear c13
   (first | rw [c13b0] | (simp only [i64_w, i32_w]; rw [c13b0]) | skip)
   replace H := Option.bind_eq_some_iff.mp H
   obtain ⟨t331, A250, H⟩ := H
   replace H : (if t331 = true then ((corebankref01_minus.f a3_0 a3_1 a1_0 a1_1).bind fun bt332 => (corebankref01_sumP.j0 k a2 true bt332.1 bt332.2)) else ((corebankref01_minus.f a1_0 a1_1 a3_0 a3_1).bind fun bt334 => (corebankref01_sumP.j0 k a0 true bt334.1 bt334.2))) = some (r1, r2, r3) := H
   have A25 := Aside0.mk A250
   clear A250
   by_cases c26 : t331 = true
   ·subst c26
    have H1 : ((corebankref01_minus.f a3_0 a3_1 a1_0 a1_1).bind fun bt332 => (corebankref01_sumP.j0 k a2 true bt332.1 bt332.2)) = some (r1, r2, r3) := by rw [if_pos rfl] at H; exact H
    clear H
    have H := H1
    clear H1
    replace H := Option.bind_eq_some_iff.mp H
    obtain ⟨⟨t332, t333⟩, A270, H⟩ := H
    replace H : (corebankref01_sumP.j0 k a2 true t332 t333) = some (r1, r2, r3) := H
    have A27 := Aside0.mk A270
    clear A270
    have H' := Aside0.mk H
    clear H
    have hnb28 := NB324_325.out
    have hnc28 := NB325_324.out
    have hnb29 := NB324_326.out
    have hnc29 := NB326_324.out
    have hnb30 := NB324_327.out
    have hnc30 := NB327_324.out
    obtain ⟨hcz31_0, hcz31_1, hfz31_0, hfz31_1⟩ := cz2_ BK324.out
    have hnb32 := NB325_326.out
    have hnc32 := NB326_325.out
    have hnb33 := NB325_327.out
    have hnc33 := NB327_325.out
    obtain ⟨hcz34_0, hcz34_1, hfz34_0, hfz34_1⟩ := cz2_ BK325.out
    go_wp2_with (first | ((with_reducible refine gate_callee (f := 79) rfl ?_); refine goesL_ (some 33) rfl rfl Tryd.func79 (by kernel_rfl) rfl #[.agg #[.int .u64 a1_0, .int .u64 a1_1], .agg #[.int .u64 a3_0, .int .u64 a3_1]] rfl ql_ ?_; (with_reducible refine (corebankref01_Less.calls a1_0 a1_1 a3_0 a3_1 true _ A25.out).mono ?_); rintro e w35 ⟨rfl, hb⟩; refine ⟨_, rfl, ?_⟩; have n0_ := Aside0.mk (blk_below (g := gb324) (o := .cells #[.int .u64 a1_0, .int .u64 a1_1] 96 (0, 0)) (qff_ NB324_327.out NB324_327.out BK324.out) hb); have n1_ := Aside0.mk (blk_below (g := gb325) (o := .cells #[.int .u64 a3_0, .int .u64 a3_1] 96 (0, 0)) (qff_ NB325_327.out NB325_327.out BK325.out) hb); have n2_ := Aside0.mk (blk_below (g := gb326) (o := .cells #[.int .i64 0, .int .u64 0] 63 (0, 0)) (qff_ NB326_327.out NB326_327.out BK326.out) hb); have n3_ := Aside0.mk (blk_below (g := gb327) (o := .cells #[.int .u64 a1_0, .int .u64 a1_1] 96 (0, 0)) (qpp_ #[.int .u64 a1_0, .int .u64 0] 1 #[.int .u64 0, .int .u64 0] 0 BK327.out) hb); have n4_ := Aside0.mk (below_step (qb4_ GE324.out GE325.out GE326.out GE327.out HB.out) hb); clear BK324; clear BK325; clear BK326; clear BK327; clear HB; have BK324 := n0_; have BK325 := n1_; have BK326 := n2_; have BK327 := n3_; have HB := n4_; clear n0_ n1_ n2_ n3_ n4_; (try clear hb); (try clear hb2); (try clear hk); (try clear hi); obtain ⟨hcz36_0, hcz36_1, hfz36_0, hfz36_1⟩ := cz2_ BK325.out; obtain ⟨hcz37_0, hcz37_1, hfz37_0, hfz37_1⟩ := cz2_ BK324.out) | ((with_reducible refine gate_callee (f := 80) rfl ?_); refine goesL_ (some 37) rfl rfl Tryd.func80 (by kernel_rfl) rfl #[.agg #[.int .u64 a3_0, .int .u64 a3_1], .agg #[.int .u64 a1_0, .int .u64 a1_1]] rfl ql_ ?_; (with_reducible refine (corebankref01_minus.calls a3_0 a3_1 a1_0 a1_1 t332 t333 _ A27.out).mono ?_); rintro e w38 ⟨rfl, hb⟩; refine ⟨_, rfl, ?_⟩; have n0_ := Aside0.mk (blk_below (qk_ BK324.out) hb); have n1_ := Aside0.mk (blk_below (qk_ BK325.out) hb); have n2_ := Aside0.mk (blk_below (qk_ BK326.out) hb); have n3_ := Aside0.mk (blk_below (qk_ BK327.out) hb); have n4_ := Aside0.mk (below_step (qb4_ GE324.out GE325.out GE326.out GE327.out HB.out) hb); clear BK324; clear BK325; clear BK326; clear BK327; clear HB; have BK324 := n0_; have BK325 := n1_; have BK326 := n2_; have BK327 := n3_; have HB := n4_; clear n0_ n1_ n2_ n3_ n4_; (try clear hb); (try clear hb2); (try clear hk); (try clear hi); have hnb39 := NB327_326.out; have hnc39 := NB326_327.out; obtain ⟨hcz40_0, hcz40_1, hfz40_0, hfz40_1⟩ := cz2_ BK327.out))
    go_meet
    case rel => exact ⟨_, (a2), (true), (t332), (t333), qs_, qs_, H', ⟨qo_⟩, ⟨qff_ NB324_327.out NB324_327.out BK324.out⟩, ⟨qff_ NB325_327.out NB325_327.out BK325.out⟩, ⟨qff_ NB326_327.out NB326_327.out BK326.out⟩, ⟨qpp_ #[.int .u64 t332, .int .u64 a1_1] 1 #[.int .u64 a1_0, .int .u64 a1_1] 0 BK327.out⟩, ⟨qb4_ GE324.out GE325.out GE326.out GE327.out HB.out⟩⟩
   ·replace c26 := Bool.eq_false_iff.mpr c26
    subst c26
    have H1 : ((corebankref01_minus.f a1_0 a1_1 a3_0 a3_1).bind fun bt334 => (corebankref01_sumP.j0 k a0 true bt334.1 bt334.2)) = some (r1, r2, r3) := by rw [if_neg (show ¬ (false = true) by decide)] at H; exact H
    clear H
    have H := H1
    clear H1
    replace H := Option.bind_eq_some_iff.mp H
    obtain ⟨⟨t334, t335⟩, A410, H⟩ := H
    replace H : (corebankref01_sumP.j0 k a0 true t334 t335) = some (r1, r2, r3) := H
    have A41 := Aside0.mk A410
    clear A410
    have H' := Aside0.mk H
    clear H
    have hnb42 := NB324_325.out
    have hnc42 := NB325_324.out
    have hnb43 := NB324_326.out
    have hnc43 := NB326_324.out
    have hnb44 := NB324_327.out
    have hnc44 := NB327_324.out
    obtain ⟨hcz45_0, hcz45_1, hfz45_0, hfz45_1⟩ := cz2_ BK324.out
    have hnb46 := NB325_326.out
    have hnc46 := NB326_325.out
    have hnb47 := NB325_327.out
    have hnc47 := NB327_325.out
    obtain ⟨hcz48_0, hcz48_1, hfz48_0, hfz48_1⟩ := cz2_ BK325.out
    go_wp2_with (first | ((with_reducible refine gate_callee (f := 79) rfl ?_); refine goesL_ (some 33) rfl rfl Tryd.func79 (by kernel_rfl) rfl #[.agg #[.int .u64 a1_0, .int .u64 a1_1], .agg #[.int .u64 a3_0, .int .u64 a3_1]] rfl ql_ ?_; (with_reducible refine (corebankref01_Less.calls a1_0 a1_1 a3_0 a3_1 false _ A25.out).mono ?_); rintro e w49 ⟨rfl, hb⟩; refine ⟨_, rfl, ?_⟩; have n0_ := Aside0.mk (blk_below (g := gb324) (o := .cells #[.int .u64 a1_0, .int .u64 a1_1] 96 (0, 0)) (qff_ NB324_327.out NB324_327.out BK324.out) hb); have n1_ := Aside0.mk (blk_below (g := gb325) (o := .cells #[.int .u64 a3_0, .int .u64 a3_1] 96 (0, 0)) (qff_ NB325_327.out NB325_327.out BK325.out) hb); have n2_ := Aside0.mk (blk_below (g := gb326) (o := .cells #[.int .i64 0, .int .u64 0] 63 (0, 0)) (qff_ NB326_327.out NB326_327.out BK326.out) hb); have n3_ := Aside0.mk (blk_below (g := gb327) (o := .cells #[.int .u64 a1_0, .int .u64 a1_1] 96 (0, 0)) (qpp_ #[.int .u64 a1_0, .int .u64 0] 1 #[.int .u64 0, .int .u64 0] 0 BK327.out) hb); have n4_ := Aside0.mk (below_step (qb4_ GE324.out GE325.out GE326.out GE327.out HB.out) hb); clear BK324; clear BK325; clear BK326; clear BK327; clear HB; have BK324 := n0_; have BK325 := n1_; have BK326 := n2_; have BK327 := n3_; have HB := n4_; clear n0_ n1_ n2_ n3_ n4_; (try clear hb); (try clear hb2); (try clear hk); (try clear hi); obtain ⟨hcz50_0, hcz50_1, hfz50_0, hfz50_1⟩ := cz2_ BK324.out; obtain ⟨hcz51_0, hcz51_1, hfz51_0, hfz51_1⟩ := cz2_ BK325.out) | ((with_reducible refine gate_callee (f := 80) rfl ?_); refine goesL_ (some 19) rfl rfl Tryd.func80 (by kernel_rfl) rfl #[.agg #[.int .u64 a1_0, .int .u64 a1_1], .agg #[.int .u64 a3_0, .int .u64 a3_1]] rfl ql_ ?_; (with_reducible refine (corebankref01_minus.calls a1_0 a1_1 a3_0 a3_1 t334 t335 _ A41.out).mono ?_); rintro e w52 ⟨rfl, hb⟩; refine ⟨_, rfl, ?_⟩; have n0_ := Aside0.mk (blk_below (qk_ BK324.out) hb); have n1_ := Aside0.mk (blk_below (qk_ BK325.out) hb); have n2_ := Aside0.mk (blk_below (qk_ BK326.out) hb); have n3_ := Aside0.mk (blk_below (qk_ BK327.out) hb); have n4_ := Aside0.mk (below_step (qb4_ GE324.out GE325.out GE326.out GE327.out HB.out) hb); clear BK324; clear BK325; clear BK326; clear BK327; clear HB; have BK324 := n0_; have BK325 := n1_; have BK326 := n2_; have BK327 := n3_; have HB := n4_; clear n0_ n1_ n2_ n3_ n4_; (try clear hb); (try clear hb2); (try clear hk); (try clear hi); have hnb53 := NB327_326.out; have hnc53 := NB326_327.out; obtain ⟨hcz54_0, hcz54_1, hfz54_0, hfz54_1⟩ := cz2_ BK327.out))
    go_meet
    case rel => exact ⟨_, (a0), (true), (t334), (t335), qs_, qs_, H', ⟨qo_⟩, ⟨qff_ NB324_327.out NB324_327.out BK324.out⟩, ⟨qff_ NB325_327.out NB325_327.out BK325.out⟩, ⟨qff_ NB326_327.out NB326_327.out BK326.out⟩, ⟨qpp_ #[.int .u64 t334, .int .u64 a1_1] 1 #[.int .u64 a1_0, .int .u64 a1_1] 0 BK327.out⟩, ⟨qb4_ GE324.out GE325.out GE326.out GE327.out HB.out⟩⟩
 case rest =>
  clear HC5
  try clear c1
  try clear c2
  try clear p2
  try clear c3
  try clear c4
  try clear c5
  try clear c7
  try clear c8
  try clear c13
  try clear c13b0
  try clear c13b1
  try clear c13b2
  try clear c15
  try clear c16
  try clear c17
  try clear c19
  try clear c20
  try clear c23
  try clear c26
  try clear c28
  try clear c29
  try clear c30
  try clear c32
  try clear c33
  try clear c39
  try clear c42
  try clear c43
  try clear c44
  try clear c46
  try clear c47
  try clear c53
  try clear hcz18_0
  try clear hcz18_1
  try clear hcz21_0
  try clear hcz21_1
  try clear hcz24_0
  try clear hcz24_1
  try clear hcz31_0
  try clear hcz31_1
  try clear hcz34_0
  try clear hcz34_1
  try clear hcz36_0
  try clear hcz36_1
  try clear hcz37_0
  try clear hcz37_1
  try clear hcz40_0
  try clear hcz40_1
  try clear hcz45_0
  try clear hcz45_1
  try clear hcz48_0
  try clear hcz48_1
  try clear hcz50_0
  try clear hcz50_1
  try clear hcz51_0
  try clear hcz51_1
  try clear hcz54_0
  try clear hcz54_1
  try clear hfz18_0
  try clear hfz18_1
  try clear hfz21_0
  try clear hfz21_1
  try clear hfz24_0
  try clear hfz24_1
  try clear hfz31_0
  try clear hfz31_1
  try clear hfz34_0
  try clear hfz34_1
  try clear hfz36_0
  try clear hfz36_1
  try clear hfz37_0
  try clear hfz37_1
  try clear hfz40_0
  try clear hfz40_1
  try clear hfz45_0
  try clear hfz45_1
  try clear hfz48_0
  try clear hfz48_1
  try clear hfz50_0
  try clear hfz50_1
  try clear hfz51_0
  try clear hfz51_1
  try clear hfz54_0
  try clear hfz54_1
  obtain ⟨kq, x10_4, x12_4, x328000_4, x328001_4, rfl, rfl, HA, HJ4, BK324, BK325, BK326, BK327, HB⟩ := hcut
  cases kq with
  | zero => exact absurd HA.out (by simp [corebankref01_sumP.j0])
  | succ kj4 =>
   have H := HA.out
   clear HA
   simp only [corebankref01_sumP.j0] at H
   replace H := Option.bind_eq_some_iff.mp H
   obtain ⟨⟨t336, t337, t338⟩, A550, H⟩ := H
   replace H : (if x12_4 = true then (corebankref01_sumP.j1 kj4 (!t338) t336 t337) else (corebankref01_sumP.j1 kj4 true t336 t337)) = some (r1, r2, r3) := H
   have A55 := Aside0.mk A550
   clear A550
   have HC56 := Aside0.mk H
   clear H
   have hnb57 := NB327_324.out
   have hnc57 := NB324_327.out
   have hnb58 := NB327_325.out
   have hnc58 := NB325_327.out
   have hnb59 := NB327_326.out
   have hnc59 := NB326_327.out
   obtain ⟨hcz60_0, hcz60_1, hfz60_0, hfz60_1⟩ := cz2_ BK327.out
   go_upto_region 9 with (first | ((with_reducible refine gate_callee (f := 73) rfl ?_); refine goesL_ (some 41) rfl rfl Tryd.func73 (by kernel_rfl) rfl #[.bool x10_4, .agg #[.int .u64 x328000_4, .int .u64 x328001_4]] rfl ql_ ?_; (with_reducible refine (corebankref01_Join.calls x10_4 x328000_4 x328001_4 t336 t337 t338 _ A55.out).mono ?_); rintro e w61 ⟨rfl, hb⟩; refine ⟨_, rfl, ?_⟩; have n0_ := Aside0.mk (blk_below (qk_ BK324.out) hb); have n1_ := Aside0.mk (blk_below (qk_ BK325.out) hb); have n2_ := Aside0.mk (blk_below (qk_ BK326.out) hb); have n3_ := Aside0.mk (blk_below (qk_ BK327.out) hb); have n4_ := Aside0.mk (below_step (qb4_ GE324.out GE325.out GE326.out GE327.out HB.out) hb); clear BK324; clear BK325; clear BK326; clear BK327; clear HB; have BK324 := n0_; have BK325 := n1_; have BK326 := n2_; have BK327 := n3_; have HB := n4_; clear n0_ n1_ n2_ n3_ n4_; (try clear hb); (try clear hb2); (try clear hk); (try clear hi)) | ((with_reducible refine gate_dst (N := 13) rfl ?_); refine be_ (N := 13) (cs := #[.int .i64 0, .int .u64 0]) (t := 63) ?_; intro gb339 hg w62 hbox hb; have n0_ := Aside0.mk (blk_below (qk_ BK324.out) hb); have n1_ := Aside0.mk (blk_below (qk_ BK325.out) hb); have n2_ := Aside0.mk (blk_below (qk_ BK326.out) hb); have n3_ := Aside0.mk (blk_below (qk_ BK327.out) hb); have n4_ := Aside0.mk (below_step (qb4_ GE324.out GE325.out GE326.out GE327.out HB.out) hb); have n5_ := Aside0.mk (hbox); have n6_ := Aside0.mk (bz_ hg (qb4_ GE324.out GE325.out GE326.out GE327.out HB.out) : w.heap.size ≤ gb339); have n7_ := n6_; have n8_ := Aside0.mk (nl_ hg (qk_ BK324.out) : gb324 ≠ gb339); have n9_ := Aside0.mk (ng_ hg (qk_ BK324.out) : gb339 ≠ gb324); have n10_ := Aside0.mk (nl_ hg (qk_ BK325.out) : gb325 ≠ gb339); have n11_ := Aside0.mk (ng_ hg (qk_ BK325.out) : gb339 ≠ gb325); have n12_ := Aside0.mk (nl_ hg (qk_ BK326.out) : gb326 ≠ gb339); have n13_ := Aside0.mk (ng_ hg (qk_ BK326.out) : gb339 ≠ gb326); have n14_ := Aside0.mk (nl_ hg (qk_ BK327.out) : gb327 ≠ gb339); have n15_ := Aside0.mk (ng_ hg (qk_ BK327.out) : gb339 ≠ gb327); clear BK324; clear BK325; clear BK326; clear BK327; clear HB; have BK324 := n0_; have BK325 := n1_; have BK326 := n2_; have BK327 := n3_; have HB := n4_; have BK339 := n5_; have GW339 := n6_; have GE339 := n7_; have NB324_339 := n8_; have NB339_324 := n9_; have NB325_339 := n10_; have NB339_325 := n11_; have NB326_339 := n12_; have NB339_326 := n13_; have NB327_339 := n14_; have NB339_327 := n15_; clear n0_ n1_ n2_ n3_ n4_ n5_ n6_ n7_ n8_ n9_ n10_ n11_ n12_ n13_ n14_ n15_; clear hb hbox hg; have hnb63 := NB339_324.out; have hnc63 := NB324_339.out; have hnb64 := NB339_325.out; have hnc64 := NB325_339.out; have hnb65 := NB339_326.out; have hnc65 := NB326_339.out; have hnb66 := NB339_327.out; have hnc66 := NB327_339.out; obtain ⟨hcz67_0, hcz67_1, hfz67_0, hfz67_1⟩ := cz2_ BK339.out))
   (try simp only [Act.put, List.setIfInBounds_toArray, List.set_cons_zero, List.set_cons_succ])
   go_cut [49] (fun v49 wc => ∃ (kq : Nat) (x49_55 : Bool), v49 = .bool x49_55 ∧ Aside0 (corebankref01_sumP.j1 kq x49_55 t336 t337 = some (r1, r2, r3)) ∧ Aside0 (kq ≤ kj4) ∧ Aside0 (wc.heap[gb324]? = some (.cells #[.int .u64 a1_0, .int .u64 a1_1] 96 (0, 0))) ∧ Aside0 (wc.heap[gb325]? = some (.cells #[.int .u64 a3_0, .int .u64 a3_1] 96 (0, 0))) ∧ Aside0 (wc.heap[gb326]? = some (.cells #[.int .i64 0, .int .u64 0] 63 (0, 0))) ∧ Aside0 (wc.heap[gb327]? = some (.cells #[.int .u64 x328000_4, .int .u64 x328001_4] 96 (0, 0))) ∧ Aside0 (wc.heap[gb339]? = some (.cells #[.int .i64 t336, .int .u64 t337] 63 (0, 0))) ∧ Aside0 (Below w.heap.size w wc))
   case first =>
    have H := HC56.out
    clear HC56
    by_cases c68 : x12_4 = true
    ·subst c68
     have H1 : (corebankref01_sumP.j1 kj4 (!t338) t336 t337) = some (r1, r2, r3) := by rw [if_pos rfl] at H; exact H
     clear H
     have H := H1
     clear H1
     have H' := Aside0.mk H
     clear H
     go_wp2
     go_meet
     case rel => exact ⟨_, (!t338), qs_, H', ⟨by have := HJ4.out; first | omega | exact Nat.le_refl _⟩, ⟨qff_ NB324_339.out NB324_339.out BK324.out⟩, ⟨qff_ NB325_339.out NB325_339.out BK325.out⟩, ⟨qff_ NB326_339.out NB326_339.out BK326.out⟩, ⟨qff_ NB327_339.out NB327_339.out BK327.out⟩, ⟨qpp_ #[.int .i64 t336, .int .u64 0] 1 #[.int .i64 0, .int .u64 0] 0 BK339.out⟩, ⟨qb5_ GE324.out GE325.out GE326.out GE327.out GE339.out HB.out⟩⟩
    ·replace c68 := Bool.eq_false_iff.mpr c68
     subst c68
     have H1 : (corebankref01_sumP.j1 kj4 true t336 t337) = some (r1, r2, r3) := by rw [if_neg (show ¬ (false = true) by decide)] at H; exact H
     clear H
     have H := H1
     clear H1
     have H' := Aside0.mk H
     clear H
     go_wp2
     go_meet
     case rel => exact ⟨_, (true), qs_, H', ⟨by have := HJ4.out; first | omega | exact Nat.le_refl _⟩, ⟨qff_ NB324_339.out NB324_339.out BK324.out⟩, ⟨qff_ NB325_339.out NB325_339.out BK325.out⟩, ⟨qff_ NB326_339.out NB326_339.out BK326.out⟩, ⟨qff_ NB327_339.out NB327_339.out BK327.out⟩, ⟨qpp_ #[.int .i64 t336, .int .u64 0] 1 #[.int .i64 0, .int .u64 0] 0 BK339.out⟩, ⟨qb5_ GE324.out GE325.out GE326.out GE327.out GE339.out HB.out⟩⟩
   case rest =>
    clear HC56
    try clear c1
    try clear c2
    try clear p2
    try clear c3
    try clear c4
    try clear c5
    try clear c6
    try clear c7
    try clear c8
    try clear c13
    try clear c13b0
    try clear c13b1
    try clear c13b2
    try clear c15
    try clear c16
    try clear c17
    try clear c19
    try clear c20
    try clear c23
    try clear c26
    try clear c28
    try clear c29
    try clear c30
    try clear c32
    try clear c33
    try clear c39
    try clear c42
    try clear c43
    try clear c44
    try clear c46
    try clear c47
    try clear c53
    try clear c57
    try clear c58
    try clear c59
    try clear c63
    try clear c64
    try clear c65
    try clear c66
    try clear c68
    try clear hcz18_0
    try clear hcz18_1
    try clear hcz21_0
    try clear hcz21_1
    try clear hcz24_0
    try clear hcz24_1
    try clear hcz31_0
    try clear hcz31_1
    try clear hcz34_0
    try clear hcz34_1
    try clear hcz36_0
    try clear hcz36_1
    try clear hcz37_0
    try clear hcz37_1
    try clear hcz40_0
    try clear hcz40_1
    try clear hcz45_0
    try clear hcz45_1
    try clear hcz48_0
    try clear hcz48_1
    try clear hcz50_0
    try clear hcz50_1
    try clear hcz51_0
    try clear hcz51_1
    try clear hcz54_0
    try clear hcz54_1
    try clear hcz60_0
    try clear hcz60_1
    try clear hcz67_0
    try clear hcz67_1
    try clear hfz18_0
    try clear hfz18_1
    try clear hfz21_0
    try clear hfz21_1
    try clear hfz24_0
    try clear hfz24_1
    try clear hfz31_0
    try clear hfz31_1
    try clear hfz34_0
    try clear hfz34_1
    try clear hfz36_0
    try clear hfz36_1
    try clear hfz37_0
    try clear hfz37_1
    try clear hfz40_0
    try clear hfz40_1
    try clear hfz45_0
    try clear hfz45_1
    try clear hfz48_0
    try clear hfz48_1
    try clear hfz50_0
    try clear hfz50_1
    try clear hfz51_0
    try clear hfz51_1
    try clear hfz54_0
    try clear hfz54_1
    try clear hfz60_0
    try clear hfz60_1
    try clear hfz67_0
    try clear hfz67_1
    try clear p2
    obtain ⟨kq, x49_55, rfl, HA, HJ55, BK324, BK325, BK326, BK327, BK339, HB⟩ := hcut
    cases kq with
    | zero => exact absurd HA.out (by simp [corebankref01_sumP.j1])
    | succ kj55 =>
     have H := HA.out
     clear HA
     simp only [corebankref01_sumP.j1] at H
     by_cases c69 : x49_55 = true
     ·subst c69
      have H1 : (some (0, 0, 6)) = some (r1, r2, r3) := by rw [if_pos rfl] at H; exact H
      clear H
      have H := H1
      clear H1
      simp only [Option.some.injEq, Prod.mk.injEq] at H
      obtain ⟨rfl, rfl, rfl⟩ := H
      have hnb70 := NB326_324.out
      have hnc70 := NB324_326.out
      have hnb71 := NB326_325.out
      have hnc71 := NB325_326.out
      have hnb72 := NB326_327.out
      have hnc72 := NB327_326.out
      have hnb73 := NB326_339.out
      have hnc73 := NB339_326.out
      obtain ⟨hcz74_0, hcz74_1, hfz74_0, hfz74_1⟩ := cz2_ BK326.out
      go_wp2
      refine bodyPost_ret (results_ct rfl _ _ gb326 63 #[.int .i64 0, .int .u64 0] (0, 0) _ rfl (qpp_ #[.int .i64 0, .int .u64 0] 1 #[.int .i64 0, .int .u64 0] 0 BK326.out) Tryd.underlying63 rfl (by kernel_rfl)) rfl ?_
      exact ⟨qe_, qb5_ GE324.out GE325.out GE326.out GE327.out GE339.out HB.out⟩
     ·replace c69 := Bool.eq_false_iff.mpr c69
      subst c69
      have H1 : (some (t336, t337, 0)) = some (r1, r2, r3) := by rw [if_neg (show ¬ (false = true) by decide)] at H; exact H
      clear H
      have H := H1
      clear H1
      simp only [Option.some.injEq, Prod.mk.injEq] at H
      obtain ⟨rfl, rfl, rfl⟩ := H
      have hnb75 := NB339_324.out
      have hnc75 := NB324_339.out
      have hnb76 := NB339_325.out
      have hnc76 := NB325_339.out
      have hnb77 := NB339_326.out
      have hnc77 := NB326_339.out
      have hnb78 := NB339_327.out
      have hnc78 := NB327_339.out
      obtain ⟨hcz79_0, hcz79_1, hfz79_0, hfz79_1⟩ := cz2_ BK339.out
      have hnb80 := NB326_324.out
      have hnc80 := NB324_326.out
      have hnb81 := NB326_325.out
      have hnc81 := NB325_326.out
      have hnb82 := NB326_327.out
      have hnc82 := NB327_326.out
      obtain ⟨hcz83_0, hcz83_1, hfz83_0, hfz83_1⟩ := cz2_ BK326.out
      go_wp2
      refine bodyPost_ret (results_ct rfl _ _ gb326 63 #[.int .i64 t336, .int .u64 t337] (0, 0) _ rfl (qpp_ #[.int .i64 t336, .int .u64 0] 1 #[.int .i64 0, .int .u64 0] 0 BK326.out) Tryd.underlying63 rfl (by kernel_rfl)) rfl ?_
      exact ⟨qe_, qb5_ GE324.out GE325.out GE326.out GE327.out GE339.out HB.out⟩
end Go.Proofs.YtjkjiibhdpcpkaaDoor.PS
