import Derived.Test.YtkdhippoibjfkaaDoorQRm2
import Derived.Test.YtkdhippoibjfkaaDoorQRm5
import Derived.Test.YtkdhippoibjfkaaDoorQRm6
section
namespace Go.Proofs.YtkdhippoibjfkaaDoor.PR
open Go.RowKit Go.Proofs.YtkdhippoibjfkaaDoorW.PrintWords Go.Proofs.YtkdhippoibjfkaaDoorW.PrintLast
set_option linter.unusedVariables false
set_option linter.unusedSimpArgs false
mutual
def corebankref01_QuotientP.l0 : Nat → Int → Int → Int → Int → Int → Int → Int → Option (Int × Int × Int)
 | 0, _, _, _, _, _, _, _ => none
 | k + 1, x1, x7, x8, x211000, x211001, x213000, x213001 => if x8 < 128 then (if (Go.bits .and .u64 x211000 9223372036854775808) = 0 then (corebankref01_QuotientP.j1 k x1 (IntKind.u64.wrap (x7 * 2)) x8 x211000 x211001 x213000 x213001) else (corebankref01_QuotientP.j1 k x1 (IntKind.u64.wrap ((IntKind.u64.wrap (x7 * 2)) + 1)) x8 x211000 x211001 x213000 x213001)) else (some (x213000, x213001, x7))
def corebankref01_QuotientP.j1 : Nat → Int → Int → Int → Int → Int → Int → Int → Option (Int × Int × Int)
 | 0, _, _, _, _, _, _, _ => none
 | k + 1, x1, x7, x8, x211000, x211001, x213000, x213001 => (corebankref01_shifted.f x211000 x211001).bind fun bt213 => ((corebankref01_shifted.f x213000 x213001).bind fun bt216 => (if x7 ≥ x1 then (corebankref01_QuotientP.l0 k x1 (IntKind.u64.wrap (x7 - x1)) (wrap64 (x8 + 1)) bt213.1 bt213.2.1 bt216.1 (IntKind.u64.wrap (bt216.2.1 + 1))) else (corebankref01_QuotientP.l0 k x1 x7 (wrap64 (x8 + 1)) bt213.1 bt213.2.1 bt216.1 bt216.2.1)))
end
def corebankref01_QuotientP.f (k : Nat) (a0_0 : Int) (a0_1 : Int) (a1 : Int) : Option (Int × Int × Int) := corebankref01_QuotientP.l0 k a1 0 0 a0_0 a0_1 0 0
theorem corebankref01_QuotientP.mono_l : ∀ k, (∀ y0 y1 y2 y3 y4 y5 y6, LeO (corebankref01_QuotientP.l0 k y0 y1 y2 y3 y4 y5 y6) (corebankref01_QuotientP.l0 (k + 1) y0 y1 y2 y3 y4 y5 y6)) ∧ (∀ y0 y1 y2 y3 y4 y5 y6, LeO (corebankref01_QuotientP.j1 k y0 y1 y2 y3 y4 y5 y6) (corebankref01_QuotientP.j1 (k + 1) y0 y1 y2 y3 y4 y5 y6))
 | 0 => ⟨fun _ _ _ _ _ _ _ r h => by simp [corebankref01_QuotientP.l0] at h, fun _ _ _ _ _ _ _ r h => by simp [corebankref01_QuotientP.j1] at h⟩
 | k + 1 => by
  obtain ⟨ih0, ih1⟩ := corebankref01_QuotientP.mono_l k
  refine ⟨?_, ?_⟩
  ·intro y0 y1 y2 y3 y4 y5 y6
   unfold corebankref01_QuotientP.l0
   repeat' first
   | (with_reducible exact ih0 _ _ _ _ _ _ _)
   | (with_reducible exact ih1 _ _ _ _ _ _ _)
   | (with_reducible exact LeO.refl _)
   | (with_reducible exact LeO.none _)
   | (with_reducible refine LeO.ite ?_ ?_)
   | (with_reducible refine LeO.bind ?_ (fun _ => ?_))
   | exact ih0 _ _ _ _ _ _ _
   | exact ih1 _ _ _ _ _ _ _
   | exact LeO.none _
   | refine LeO.ite ?_ ?_
   | refine LeO.bind ?_ (fun _ => ?_)
  ·intro y0 y1 y2 y3 y4 y5 y6
   unfold corebankref01_QuotientP.j1
   repeat' first
   | (with_reducible exact ih0 _ _ _ _ _ _ _)
   | (with_reducible exact ih1 _ _ _ _ _ _ _)
   | (with_reducible exact LeO.refl _)
   | (with_reducible exact LeO.none _)
   | (with_reducible refine LeO.ite ?_ ?_)
   | (with_reducible refine LeO.bind ?_ (fun _ => ?_))
   | exact ih0 _ _ _ _ _ _ _
   | exact ih1 _ _ _ _ _ _ _
   | exact LeO.none _
   | refine LeO.ite ?_ ?_
   | refine LeO.bind ?_ (fun _ => ?_)
theorem corebankref01_QuotientP.mono : ∀ a0 a1 a2 k, LeO (corebankref01_QuotientP.f k a0 a1 a2) (corebankref01_QuotientP.f (k + 1) a0 a1 a2) := by
 intro a0 a1 a2 k
 obtain ⟨ih0, ih1⟩ := corebankref01_QuotientP.mono_l k
 unfold corebankref01_QuotientP.f
 repeat' first
   | (with_reducible exact ih0 _ _ _ _ _ _ _)
   | (with_reducible exact ih1 _ _ _ _ _ _ _)
   | (with_reducible exact LeO.refl _)
   | (with_reducible exact LeO.none _)
   | (with_reducible refine LeO.ite ?_ ?_)
   | (with_reducible refine LeO.bind ?_ (fun _ => ?_))
   | exact ih0 _ _ _ _ _ _ _
   | exact ih1 _ _ _ _ _ _ _
   | exact LeO.none _
   | refine LeO.ite ?_ ?_
   | refine LeO.bind ?_ (fun _ => ?_)
set_option maxHeartbeats 8000000 in
set_option maxRecDepth 100000 in
theorem corebankref01_QuotientP.calls (k : Nat) (a0_0 : Int) (a0_1 : Int) (a1 : Int) (r1 : Int) (r2 : Int) (r3 : Int) (w : World) (h : corebankref01_QuotientP.f k a0_0 a0_1 a1 = some (r1, r2, r3)) :
  Calls Tryd.prog 47 #[.agg #[.int .u64 a0_0, .int .u64 a0_1], .int .u64 a1] w fun e w' => e = .returned (.tuple #[.agg #[.int .u64 r1, .int .u64 r2], .int .u64 r3]) ∧ Below w.heap.size w w' := by
 have hu54 := Tryd.underlying54
 have HB := Aside0.mk (Below.refl w.heap.size w)
 have H : (corebankref01_QuotientP.l0 k a1 0 0 a0_0 a0_1 0 0) = some (r1, r2, r3) := h
 clear h
 have H' := Aside0.mk H
 clear H
 go_enter Tryd.func47, Tryd.ntmps47
 go_wp2_with (first | ((with_reducible refine gate_dst (N := 2) rfl ?_); refine be_ (N := 2) (cs := #[.int .u64 a0_0, .int .u64 a0_1]) (t := 54) ?_; intro gb210 hg w3 hbox hb; have n0_ := Aside0.mk (below_step (qb_ HB.out) hb); have n1_ := Aside0.mk (hbox); have n2_ := Aside0.mk (bz_ hg (qb_ HB.out) : w.heap.size ≤ gb210); have n3_ := n2_; clear HB; have HB := n0_; have BK210 := n1_; have GW210 := n2_; have GE210 := n3_; clear n0_ n1_ n2_ n3_; clear hb hbox hg) | ((with_reducible refine gate_dst (N := 4) rfl ?_); refine be_ (N := 4) (cs := #[.int .u64 0, .int .u64 0]) (t := 54) ?_; intro gb211 hg w4 hbox hb; have n0_ := Aside0.mk (blk_below (qk_ BK210.out) hb); have n1_ := Aside0.mk (below_step (qb1_ GE210.out HB.out) hb); have n2_ := Aside0.mk (hbox); have n3_ := Aside0.mk (bz_ hg (qb1_ GE210.out HB.out) : w.heap.size ≤ gb211); have n4_ := n3_; have n5_ := Aside0.mk (nl_ hg (qk_ BK210.out) : gb210 ≠ gb211); have n6_ := Aside0.mk (ng_ hg (qk_ BK210.out) : gb211 ≠ gb210); clear BK210; clear HB; have BK210 := n0_; have HB := n1_; have BK211 := n2_; have GW211 := n3_; have GE211 := n4_; have NB210_211 := n5_; have NB211_210 := n6_; clear n0_ n1_ n2_ n3_ n4_ n5_ n6_; clear hb hbox hg) | ((with_reducible refine gate_dst (N := 6) rfl ?_); refine be_ (N := 6) (cs := #[.int .u64 0, .int .u64 0]) (t := 54) ?_; intro gb212 hg w5 hbox hb; have n0_ := Aside0.mk (blk_below (qk_ BK210.out) hb); have n1_ := Aside0.mk (blk_below (qk_ BK211.out) hb); have n2_ := Aside0.mk (below_step (qb2_ GE210.out GE211.out HB.out) hb); have n3_ := Aside0.mk (hbox); have n4_ := Aside0.mk (bz_ hg (qb2_ GE210.out GE211.out HB.out) : w.heap.size ≤ gb212); have n5_ := n4_; have n6_ := Aside0.mk (nl_ hg (qk_ BK210.out) : gb210 ≠ gb212); have n7_ := Aside0.mk (ng_ hg (qk_ BK210.out) : gb212 ≠ gb210); have n8_ := Aside0.mk (nl_ hg (qk_ BK211.out) : gb211 ≠ gb212); have n9_ := Aside0.mk (ng_ hg (qk_ BK211.out) : gb212 ≠ gb211); clear BK210; clear BK211; clear HB; have BK210 := n0_; have BK211 := n1_; have HB := n2_; have BK212 := n3_; have GW212 := n4_; have GE212 := n5_; have NB210_212 := n6_; have NB212_210 := n7_; have NB211_212 := n8_; have NB212_211 := n9_; clear n0_ n1_ n2_ n3_ n4_ n5_ n6_ n7_ n8_ n9_; clear hb hbox hg; have hnb6 := NB212_210.out; have hnc6 := NB210_212.out; have hnb7 := NB212_211.out; have hnc7 := NB211_212.out; have hcz8_0 : w5.cell? ⟨gb212, 0, none⟩ = some (.int .u64 0) := (blk_cell BK212.out 0).trans rfl; have hcz8_1 : w5.cell? ⟨gb212, 1, none⟩ = some (.int .u64 0) := (blk_cell BK212.out 1).trans rfl; have hfz8_0 := blk_frozen BK212.out 0; have hfz8_1 := blk_frozen BK212.out 1))
 go_loopg [7, 8] k (fun kq v7 v8 w' => ∃ (x7_1 : Int) (x8_1 : Int) (x211000_1 : Int) (x211001_1 : Int) (x213000_1 : Int) (x213001_1 : Int), v7 = .int .u64 x7_1 ∧ v8 = .int .i64 x8_1 ∧ Aside0 (corebankref01_QuotientP.l0 kq a1 x7_1 x8_1 x211000_1 x211001_1 x213000_1 x213001_1 = some (r1, r2, r3)) ∧ Aside0 (kq ≤ k) ∧ Aside0 (w'.heap[gb210]? = some (.cells #[.int .u64 x211000_1, .int .u64 x211001_1] 54 (0, 0))) ∧ Aside0 (w'.heap[gb211]? = some (.cells #[.int .u64 0, .int .u64 0] 54 (0, 0))) ∧ Aside0 (w'.heap[gb212]? = some (.cells #[.int .u64 x213000_1, .int .u64 x213001_1] 54 (0, 0))) ∧ Aside0 (Below w.heap.size w w'))
 case atStart => exact ⟨(0), (0), (a0_0), (a0_1), (0), (0), qs_, qs_, H', ⟨Nat.le_refl _⟩, ⟨qff_ NB210_212.out NB210_212.out BK210.out⟩, ⟨qff_ NB211_212.out NB211_212.out BK211.out⟩, ⟨qpp_ #[.int .u64 0, .int .u64 0] 1 #[.int .u64 0, .int .u64 0] 0 BK212.out⟩, ⟨qb3_ GE210.out GE211.out GE212.out HB.out⟩⟩
 case round =>
  clear H'
  try clear p2
  try clear c4
  try clear c6
  try clear c7
  try clear hcz8_0
  try clear hcz8_1
  try clear hfz8_0
  try clear hfz8_1
  obtain ⟨x7_1, x8_1, x211000_1, x211001_1, x213000_1, x213001_1, rfl, rfl, HA, HK1, BK210, BK211, BK212, HB⟩ := hrel
  cases gk with
  | zero => exact absurd HA.out (by simp [corebankref01_QuotientP.l0])
  | succ k1 =>
   have H := HA.out
   clear HA
   simp only [corebankref01_QuotientP.l0] at H
   by_cases c9 : x8_1 < 128
   ·rw [if_pos c9] at H
    have c9b0 : decide (x8_1 < 128) = true := decide_eq_true c9
    clear c9
    have HC10 := Aside0.mk H
    clear H
    have hnb11 := NB210_211.out
    have hnc11 := NB211_210.out
    have hnb12 := NB210_212.out
    have hnc12 := NB212_210.out
    have hcz13_0 : wr.cell? ⟨gb210, 0, none⟩ = some (.int .u64 x211000_1) := (blk_cell BK210.out 0).trans rfl
    have hcz13_1 : wr.cell? ⟨gb210, 1, none⟩ = some (.int .u64 x211001_1) := (blk_cell BK210.out 1).trans rfl
    have hfz13_0 := blk_frozen BK210.out 0
    have hfz13_1 := blk_frozen BK210.out 1
    go_upto_if 19 with (fail)
    go_cut [7] (fun v7 wc => ∃ (kq : Nat) (x7_9 : Int), v7 = .int .u64 x7_9 ∧ Aside0 (corebankref01_QuotientP.j1 kq a1 x7_9 x8_1 x211000_1 x211001_1 x213000_1 x213001_1 = some (r1, r2, r3)) ∧ Aside0 (kq ≤ k1) ∧ Aside0 (wc.heap[gb210]? = some (.cells #[.int .u64 x211000_1, .int .u64 x211001_1] 54 (0, 0))) ∧ Aside0 (wc.heap[gb211]? = some (.cells #[.int .u64 0, .int .u64 0] 54 (0, 0))) ∧ Aside0 (wc.heap[gb212]? = some (.cells #[.int .u64 x213000_1, .int .u64 x213001_1] 54 (0, 0))) ∧ Aside0 (Below w.heap.size w wc))
    case first =>
     have H := HC10.out
     clear HC10
     by_cases c14 : (Go.bits .and .u64 x211000_1 9223372036854775808) = 0
     ·rw [if_pos c14] at H
      have c14b0 : ((Go.bits .and .u64 x211000_1 9223372036854775808) == 0) = true := beq_iff_eq.mpr c14
      have c14b1 : ((Go.bits .and .u64 x211000_1 9223372036854775808) != 0) = false := bne_eq_false_iff_eq.mpr c14
      clear c14
      (first | rw [c14b0] | (simp only [i64_w, i32_w]; rw [c14b0]) | skip)
      have H' := Aside0.mk H
      clear H
      go_wp2
      go_meet
      case rel => exact ⟨_, (IntKind.u64.wrap (x7_1 * 2)), qs_, H', ⟨by have := HK1.out; first | omega | exact Nat.le_refl _⟩, ⟨qk_ BK210.out⟩, ⟨qk_ BK211.out⟩, ⟨qk_ BK212.out⟩, ⟨qb3_ GE210.out GE211.out GE212.out HB.out⟩⟩
     ·rw [if_neg c14] at H
      have c14b0 : ((Go.bits .and .u64 x211000_1 9223372036854775808) == 0) = false := beq_eq_false_iff_ne.mpr c14
      have c14b1 : ((Go.bits .and .u64 x211000_1 9223372036854775808) != 0) = true := bne_iff_ne.mpr c14
      (first | rw [c14b0] | (simp only [i64_w, i32_w]; rw [c14b0]) | skip)
      have H' := Aside0.mk H
      clear H
      go_wp2
      go_meet
      case rel => exact ⟨_, (IntKind.u64.wrap ((IntKind.u64.wrap (x7_1 * 2)) + 1)), qs_, H', ⟨by have := HK1.out; first | omega | exact Nat.le_refl _⟩, ⟨qk_ BK210.out⟩, ⟨qk_ BK211.out⟩, ⟨qk_ BK212.out⟩, ⟨qb3_ GE210.out GE211.out GE212.out HB.out⟩⟩
    case rest =>
     clear HC10
     try clear c1
     try clear p2
     try clear c4
     try clear c6
     try clear c7
     try clear c9
     try clear c9b0
     try clear c11
     try clear c12
     try clear c14
     try clear c14b0
     try clear c14b1
     try clear hcz13_0
     try clear hcz13_1
     try clear hcz8_0
     try clear hcz8_1
     try clear hfz13_0
     try clear hfz13_1
     try clear hfz8_0
     try clear hfz8_1
     try clear p2
     obtain ⟨kq, x7_9, rfl, HA, HJ9, BK210, BK211, BK212, HB⟩ := hcut
     cases kq with
     | zero => exact absurd HA.out (by simp [corebankref01_QuotientP.j1])
     | succ kj9 =>
      have H := HA.out
      clear HA
      simp only [corebankref01_QuotientP.j1] at H
      replace H := Option.bind_eq_some_iff.mp H
      obtain ⟨⟨t213, t214, t215⟩, A150, H⟩ := H
      replace H : ((corebankref01_shifted.f x213000_1 x213001_1).bind fun bt216 => (if x7_9 ≥ a1 then (corebankref01_QuotientP.l0 kj9 a1 (IntKind.u64.wrap (x7_9 - a1)) (wrap64 (x8_1 + 1)) t213 t214 bt216.1 (IntKind.u64.wrap (bt216.2.1 + 1))) else (corebankref01_QuotientP.l0 kj9 a1 x7_9 (wrap64 (x8_1 + 1)) t213 t214 bt216.1 bt216.2.1))) = some (r1, r2, r3) := H
      have A15 := Aside0.mk A150
      clear A150
      replace H := Option.bind_eq_some_iff.mp H
      obtain ⟨⟨t216, t217, t218⟩, A160, H⟩ := H
      replace H : (if x7_9 ≥ a1 then (corebankref01_QuotientP.l0 kj9 a1 (IntKind.u64.wrap (x7_9 - a1)) (wrap64 (x8_1 + 1)) t213 t214 t216 (IntKind.u64.wrap (t217 + 1))) else (corebankref01_QuotientP.l0 kj9 a1 x7_9 (wrap64 (x8_1 + 1)) t213 t214 t216 t217)) = some (r1, r2, r3) := H
      have A16 := Aside0.mk A160
      clear A160
      by_cases c17 : x7_9 ≥ a1
      ·rw [if_pos c17] at H
       have c17b0 : decide (a1 ≤ x7_9) = true := decide_eq_true c17
       clear c17
       have H' := Aside0.mk H
       clear H
       have hnb18 := NB210_211.out
       have hnc18 := NB211_210.out
       have hnb19 := NB210_212.out
       have hnc19 := NB212_210.out
       have hcz20_0 : wc.cell? ⟨gb210, 0, none⟩ = some (.int .u64 x211000_1) := (blk_cell BK210.out 0).trans rfl
       have hcz20_1 : wc.cell? ⟨gb210, 1, none⟩ = some (.int .u64 x211001_1) := (blk_cell BK210.out 1).trans rfl
       have hfz20_0 := blk_frozen BK210.out 0
       have hfz20_1 := blk_frozen BK210.out 1
       go_wp2_with (first | ((with_reducible refine gate_callee (f := 63) rfl ?_); refine goesL_ (some 24) rfl rfl Tryd.func63 (by kernel_rfl) rfl #[.agg #[.int .u64 x211000_1, .int .u64 x211001_1]] rfl ql_ ?_; (with_reducible refine (corebankref01_shifted.calls x211000_1 x211001_1 t213 t214 t215 _ A15.out).mono ?_); rintro e w21 ⟨rfl, hb⟩; refine ⟨_, rfl, ?_⟩; have n0_ := Aside0.mk (blk_below (qk_ BK210.out) hb); have n1_ := Aside0.mk (blk_below (qk_ BK211.out) hb); have n2_ := Aside0.mk (blk_below (qk_ BK212.out) hb); have n3_ := Aside0.mk (below_step (qb3_ GE210.out GE211.out GE212.out HB.out) hb); clear BK210; clear BK211; clear BK212; clear HB; have BK210 := n0_; have BK211 := n1_; have BK212 := n2_; have HB := n3_; clear n0_ n1_ n2_ n3_; (try clear hb); (try clear hb2); (try clear hk); (try clear hi); have hcz22_0 : w21.cell? ⟨gb210, 0, none⟩ = some (.int .u64 x211000_1) := (blk_cell BK210.out 0).trans rfl; have hcz22_1 : w21.cell? ⟨gb210, 1, none⟩ = some (.int .u64 x211001_1) := (blk_cell BK210.out 1).trans rfl; have hfz22_0 := blk_frozen BK210.out 0; have hfz22_1 := blk_frozen BK210.out 1; have hnb23 := NB212_211.out; have hnc23 := NB211_212.out; have hcz24_0 : w21.cell? ⟨gb212, 0, none⟩ = some (.int .u64 x213000_1) := (blk_cell BK212.out 0).trans rfl; have hcz24_1 : w21.cell? ⟨gb212, 1, none⟩ = some (.int .u64 x213001_1) := (blk_cell BK212.out 1).trans rfl; have hfz24_0 := blk_frozen BK212.out 0; have hfz24_1 := blk_frozen BK212.out 1) | ((with_reducible refine gate_callee (f := 63) rfl ?_); refine goesL_ (some 29) rfl rfl Tryd.func63 (by kernel_rfl) rfl #[.agg #[.int .u64 x213000_1, .int .u64 x213001_1]] rfl ql_ ?_; (with_reducible refine (corebankref01_shifted.calls x213000_1 x213001_1 t216 t217 t218 _ A16.out).mono ?_); rintro e w25 ⟨rfl, hb⟩; refine ⟨_, rfl, ?_⟩; have n0_ := Aside0.mk (blk_below (g := gb210) (o := .cells #[.int .u64 t213, .int .u64 t214] 54 (0, 0)) (qpp_ #[.int .u64 t213, .int .u64 x211001_1] 1 #[.int .u64 x211000_1, .int .u64 x211001_1] 0 BK210.out) hb); have n1_ := Aside0.mk (blk_below (g := gb211) (o := .cells #[.int .u64 0, .int .u64 0] 54 (0, 0)) (qff_ NB211_210.out NB211_210.out BK211.out) hb); have n2_ := Aside0.mk (blk_below (g := gb212) (o := .cells #[.int .u64 x213000_1, .int .u64 x213001_1] 54 (0, 0)) (qff_ NB212_210.out NB212_210.out BK212.out) hb); have n3_ := Aside0.mk (below_step (qb3_ GE210.out GE211.out GE212.out HB.out) hb); clear BK210; clear BK211; clear BK212; clear HB; have BK210 := n0_; have BK211 := n1_; have BK212 := n2_; have HB := n3_; clear n0_ n1_ n2_ n3_; (try clear hb); (try clear hb2); (try clear hk); (try clear hi); have hcz26_0 : w25.cell? ⟨gb212, 0, none⟩ = some (.int .u64 x213000_1) := (blk_cell BK212.out 0).trans rfl; have hcz26_1 : w25.cell? ⟨gb212, 1, none⟩ = some (.int .u64 x213001_1) := (blk_cell BK212.out 1).trans rfl; have hfz26_0 := blk_frozen BK212.out 0; have hfz26_1 := blk_frozen BK212.out 1))
       go_roundg kj9
       case measure => have := HK1.out; have := HJ9.out; omega
       case rel => exact ⟨(IntKind.u64.wrap (x7_9 - a1)), (wrap64 (x8_1 + 1)), (t213), (t214), (t216), (IntKind.u64.wrap (t217 + 1)), qs_, qs_, H', ⟨by have := HK1.out; have := HJ9.out; omega⟩, ⟨qfff_ NB210_212.out NB210_212.out NB210_212.out BK210.out⟩, ⟨qfff_ NB211_212.out NB211_212.out NB211_212.out BK211.out⟩, ⟨by (with_reducible repeat (first | refine blk_drewN ?_ _ | refine blk_drew ?_ | refine blk_alloc ?_ _)); refine blk_put (cs := #[.int .u64 t216, .int .u64 t217]) ?_ 1 _ rfl; (with_reducible repeat (first | refine blk_drewN ?_ _ | refine blk_drew ?_ | refine blk_alloc ?_ _)); refine blk_put (cs := #[.int .u64 t216, .int .u64 x213001_1]) ?_ 1 _ rfl; (with_reducible repeat (first | refine blk_drewN ?_ _ | refine blk_drew ?_ | refine blk_alloc ?_ _)); refine blk_put (cs := #[.int .u64 x213000_1, .int .u64 x213001_1]) ?_ 0 _ rfl; (with_reducible repeat (first | refine blk_drewN ?_ _ | refine blk_drew ?_ | refine blk_alloc ?_ _)); exact BK212.out⟩, ⟨qb3_ GE210.out GE211.out GE212.out HB.out⟩⟩
      ·rw [if_neg c17] at H
       have c17b0 : decide (a1 ≤ x7_9) = false := decide_eq_false c17
       clear c17
       have H' := Aside0.mk H
       clear H
       have hnb27 := NB210_211.out
       have hnc27 := NB211_210.out
       have hnb28 := NB210_212.out
       have hnc28 := NB212_210.out
       have hcz29_0 : wc.cell? ⟨gb210, 0, none⟩ = some (.int .u64 x211000_1) := (blk_cell BK210.out 0).trans rfl
       have hcz29_1 : wc.cell? ⟨gb210, 1, none⟩ = some (.int .u64 x211001_1) := (blk_cell BK210.out 1).trans rfl
       have hfz29_0 := blk_frozen BK210.out 0
       have hfz29_1 := blk_frozen BK210.out 1
       go_wp2_with (first | ((with_reducible refine gate_callee (f := 63) rfl ?_); refine goesL_ (some 24) rfl rfl Tryd.func63 (by kernel_rfl) rfl #[.agg #[.int .u64 x211000_1, .int .u64 x211001_1]] rfl ql_ ?_; (with_reducible refine (corebankref01_shifted.calls x211000_1 x211001_1 t213 t214 t215 _ A15.out).mono ?_); rintro e w30 ⟨rfl, hb⟩; refine ⟨_, rfl, ?_⟩; have n0_ := Aside0.mk (blk_below (qk_ BK210.out) hb); have n1_ := Aside0.mk (blk_below (qk_ BK211.out) hb); have n2_ := Aside0.mk (blk_below (qk_ BK212.out) hb); have n3_ := Aside0.mk (below_step (qb3_ GE210.out GE211.out GE212.out HB.out) hb); clear BK210; clear BK211; clear BK212; clear HB; have BK210 := n0_; have BK211 := n1_; have BK212 := n2_; have HB := n3_; clear n0_ n1_ n2_ n3_; (try clear hb); (try clear hb2); (try clear hk); (try clear hi); have hcz31_0 : w30.cell? ⟨gb210, 0, none⟩ = some (.int .u64 x211000_1) := (blk_cell BK210.out 0).trans rfl; have hcz31_1 : w30.cell? ⟨gb210, 1, none⟩ = some (.int .u64 x211001_1) := (blk_cell BK210.out 1).trans rfl; have hfz31_0 := blk_frozen BK210.out 0; have hfz31_1 := blk_frozen BK210.out 1; have hnb32 := NB212_211.out; have hnc32 := NB211_212.out; have hcz33_0 : w30.cell? ⟨gb212, 0, none⟩ = some (.int .u64 x213000_1) := (blk_cell BK212.out 0).trans rfl; have hcz33_1 : w30.cell? ⟨gb212, 1, none⟩ = some (.int .u64 x213001_1) := (blk_cell BK212.out 1).trans rfl; have hfz33_0 := blk_frozen BK212.out 0; have hfz33_1 := blk_frozen BK212.out 1) | ((with_reducible refine gate_callee (f := 63) rfl ?_); refine goesL_ (some 29) rfl rfl Tryd.func63 (by kernel_rfl) rfl #[.agg #[.int .u64 x213000_1, .int .u64 x213001_1]] rfl ql_ ?_; (with_reducible refine (corebankref01_shifted.calls x213000_1 x213001_1 t216 t217 t218 _ A16.out).mono ?_); rintro e w34 ⟨rfl, hb⟩; refine ⟨_, rfl, ?_⟩; have n0_ := Aside0.mk (blk_below (g := gb210) (o := .cells #[.int .u64 t213, .int .u64 t214] 54 (0, 0)) (qpp_ #[.int .u64 t213, .int .u64 x211001_1] 1 #[.int .u64 x211000_1, .int .u64 x211001_1] 0 BK210.out) hb); have n1_ := Aside0.mk (blk_below (g := gb211) (o := .cells #[.int .u64 0, .int .u64 0] 54 (0, 0)) (qff_ NB211_210.out NB211_210.out BK211.out) hb); have n2_ := Aside0.mk (blk_below (g := gb212) (o := .cells #[.int .u64 x213000_1, .int .u64 x213001_1] 54 (0, 0)) (qff_ NB212_210.out NB212_210.out BK212.out) hb); have n3_ := Aside0.mk (below_step (qb3_ GE210.out GE211.out GE212.out HB.out) hb); clear BK210; clear BK211; clear BK212; clear HB; have BK210 := n0_; have BK211 := n1_; have BK212 := n2_; have HB := n3_; clear n0_ n1_ n2_ n3_; (try clear hb); (try clear hb2); (try clear hk); (try clear hi); have hcz35_0 : w34.cell? ⟨gb212, 0, none⟩ = some (.int .u64 x213000_1) := (blk_cell BK212.out 0).trans rfl; have hcz35_1 : w34.cell? ⟨gb212, 1, none⟩ = some (.int .u64 x213001_1) := (blk_cell BK212.out 1).trans rfl; have hfz35_0 := blk_frozen BK212.out 0; have hfz35_1 := blk_frozen BK212.out 1))
       go_roundg kj9
       case measure => have := HK1.out; have := HJ9.out; omega
       case rel => exact ⟨(x7_9), (wrap64 (x8_1 + 1)), (t213), (t214), (t216), (t217), qs_, qs_, H', ⟨by have := HK1.out; have := HJ9.out; omega⟩, ⟨qff_ NB210_212.out NB210_212.out BK210.out⟩, ⟨qff_ NB211_212.out NB211_212.out BK211.out⟩, ⟨qpp_ #[.int .u64 t216, .int .u64 x213001_1] 1 #[.int .u64 x213000_1, .int .u64 x213001_1] 0 BK212.out⟩, ⟨qb3_ GE210.out GE211.out GE212.out HB.out⟩⟩
   ·rw [if_neg c9] at H
    have c9b0 : decide (x8_1 < 128) = false := decide_eq_false c9
    clear c9
    simp only [Option.some.injEq, Prod.mk.injEq] at H
    obtain ⟨rfl, rfl, rfl⟩ := H
    have hnb36 := NB212_210.out
    have hnc36 := NB210_212.out
    have hnb37 := NB212_211.out
    have hnc37 := NB211_212.out
    have hcz38_0 : wr.cell? ⟨gb212, 0, none⟩ = some (.int .u64 x213000_1) := (blk_cell BK212.out 0).trans rfl
    have hcz38_1 : wr.cell? ⟨gb212, 1, none⟩ = some (.int .u64 x213001_1) := (blk_cell BK212.out 1).trans rfl
    have hfz38_0 := blk_frozen BK212.out 0
    have hfz38_1 := blk_frozen BK212.out 1
    have hnb39 := NB211_210.out
    have hnc39 := NB210_211.out
    have hcz40_0 : wr.cell? ⟨gb211, 0, none⟩ = some (.int .u64 0) := (blk_cell BK211.out 0).trans rfl
    have hcz40_1 : wr.cell? ⟨gb211, 1, none⟩ = some (.int .u64 0) := (blk_cell BK211.out 1).trans rfl
    have hfz40_0 := blk_frozen BK211.out 0
    have hfz40_1 := blk_frozen BK211.out 1
    go_wp2
    refine bodyPost_ret (results_ct rfl _ _ gb211 54 #[.int .u64 x213000_1, .int .u64 x213001_1] (0, 0) _ rfl (qpp_ #[.int .u64 x213000_1, .int .u64 0] 1 #[.int .u64 0, .int .u64 0] 0 BK211.out) Tryd.underlying54 rfl (by kernel_rfl)) rfl ?_
    exact ⟨qe_, qb3_ GE210.out GE211.out GE212.out HB.out⟩
def corebankref01_Quotient.f (a0_0 a0_1 a1 : Int) : Option (Int × Int × Int) :=
 if (inU a0_0 ∧ inU a0_1) ∧ 1 ≤ a1 ∧ a1 ≤ 9223372036854775807 then
  some (wv a0_0 a0_1 / a1 / 18446744073709551616, wv a0_0 a0_1 / a1 % 18446744073709551616, wv a0_0 a0_1 % a1) else none
theorem quot_loop (y : Int) (y0 : 1 ≤ y) (y1 : y ≤ 9223372036854775807) (n : Nat) :
  ∀ (x T q rest i : Int), 0 ≤ x → x < 340282366920938463463374607431768211456 → 0 ≤ q → 0 ≤ rest → rest < y → T = q * y + rest → T * 2 ^ n + x * 2 ^ n / 340282366920938463463374607431768211456 < 340282366920938463463374607431768211456 → 0 ≤ i → 128 - i = n →
   corebankref01_QuotientP.l0 (2 * n + 1) y rest i (x / 18446744073709551616) (x % 18446744073709551616) (q / 18446744073709551616) (q % 18446744073709551616) =
    some ((T * 2 ^ n + x * 2 ^ n / 340282366920938463463374607431768211456) / y / 18446744073709551616, (T * 2 ^ n + x * 2 ^ n / 340282366920938463463374607431768211456) / y % 18446744073709551616, (T * 2 ^ n + x * 2 ^ n / 340282366920938463463374607431768211456) % y) := by
 induction n with
 | zero =>
  intro x T q rest i x0 x1 q0 r0 r1 hT hF j0 j1
  simp only [Nat.mul_zero, Nat.zero_add, corebankref01_QuotientP.l0]
  rw [if_neg (by omega)]
  have : T * 2 ^ 0 + x * 2 ^ 0 / 340282366920938463463374607431768211456 = T := by rw [Int.pow_zero, Int.mul_one, Int.mul_one, Int.ediv_eq_zero_of_lt x0 x1]; omega
  rw [this]
  obtain ⟨f1, f2⟩ := div_of (by omega) hT r0 r1
  rw [f1, f2]
 | succ n ih =>
  intro x T q rest i x0 x1 q0 r0 r1 hT hF j0 j1
  have p0 : 0 < (2 : Int) ^ n := Int.pow_pos (by decide)
  have hqy : 0 ≤ q * y := Int.mul_nonneg q0 (by omega)
  have T0 : 0 ≤ T := by omega
  have hf : T * 2 ^ (n + 1) = 2 * T * 2 ^ n := by rw [Int.pow_succ]; grind
  have hx : x * 2 ^ (n + 1) = 2 * x * 2 ^ n := by rw [Int.pow_succ]; grind
  rw [hf, hx] at hF
  have hxp : 0 ≤ 2 * x * 2 ^ n := Int.mul_nonneg (by omega) (by omega)
  have hT2 : 2 * T < 340282366920938463463374607431768211456 := by
   have h1 : 2 * T * 1 ≤ 2 * T * 2 ^ n := Int.mul_le_mul_of_nonneg_left (by omega) (by omega)
   omega
  have hq2 : 2 * q ≤ 2 * T := by
   have : q * 1 ≤ q * y := Int.mul_le_mul_of_nonneg_left y0 q0
   omega
  have hwx : wv (x / 18446744073709551616) (x % 18446744073709551616) = x := by unfold wv; omega
  have hwq : wv (q / 18446744073709551616) (q % 18446744073709551616) = q := by unfold wv; omega
  have hbit : (Go.bits .and .u64 (x / 18446744073709551616) 9223372036854775808 = 0) ↔ x < 170141183460469231731687303715884105728 := by
   rw [andTop _ (by omega) (by omega)]; omega
  have hr2 : IntKind.u64.wrap (rest * 2) = rest * 2 := u64_id _ (by omega) (by omega)
  have hr3 : IntKind.u64.wrap (rest * 2 + 1) = rest * 2 + 1 := u64_id _ (by omega) (by omega)
  have hi : wrap64 (i + 1) = i + 1 := i64_id _ (by omega) (by omega)
  -- one round, for each value of the bit
  have round : ∀ bit : Int, (bit = 0 ∧ x < 170141183460469231731687303715884105728 ∨ bit = 1 ∧ ¬ x < 170141183460469231731687303715884105728) →
    corebankref01_QuotientP.j1 (2 * n + 1 + 1) y (rest * 2 + bit) i (x / 18446744073709551616) (x % 18446744073709551616) (q / 18446744073709551616) (q % 18446744073709551616) =
     some ((2 * T * 2 ^ n + 2 * x * 2 ^ n / 340282366920938463463374607431768211456) / y / 18446744073709551616, (2 * T * 2 ^ n + 2 * x * 2 ^ n / 340282366920938463463374607431768211456) / y % 18446744073709551616, (2 * T * 2 ^ n + 2 * x * 2 ^ n / 340282366920938463463374607431768211456) % y) := by
   intro bit hb
   have b01 : 0 ≤ bit ∧ bit ≤ 1 := by omega
   simp only [corebankref01_QuotientP.j1]
   unfold corebankref01_shifted.f
   rw [if_pos ⟨by unfold inU; omega, by unfold inU; omega⟩, if_pos ⟨by unfold inU; omega, by unfold inU; omega⟩, hwx, hwq]
   simp only [Option.bind_some]
   have g : (2 * T + bit) * 2 ^ n + (2 * x - bit * 340282366920938463463374607431768211456) * 2 ^ n / 340282366920938463463374607431768211456 = 2 * T * 2 ^ n + 2 * x * 2 ^ n / 340282366920938463463374607431768211456 := by
    rw [Int.add_mul, Int.sub_mul]
    have : bit * 340282366920938463463374607431768211456 * 2 ^ n = bit * 2 ^ n * 340282366920938463463374607431768211456 := by rw [Int.mul_right_comm]
    rw [this]
    generalize bit * 2 ^ n = p at *
    generalize 2 * x * 2 ^ n = z at *
    omega
   have hxm : 2 * x / 18446744073709551616 % 18446744073709551616 = (2 * x - bit * 340282366920938463463374607431768211456) / 18446744073709551616 := by omega
   have hxl : 2 * x % 18446744073709551616 = (2 * x - bit * 340282366920938463463374607431768211456) % 18446744073709551616 := by omega
   have hqm : 2 * q / 18446744073709551616 % 18446744073709551616 = 2 * q / 18446744073709551616 := by omega
   rw [hxm, hxl, hqm, hi]
   by_cases hc : rest * 2 + bit ≥ y
   ·rw [if_pos hc, u64_id (rest * 2 + bit - y) (by omega) (by omega), u64_id (2 * q % 18446744073709551616 + 1) (by omega) (by omega),
     show 2 * q / 18446744073709551616 = (2 * q + 1) / 18446744073709551616 by omega, show 2 * q % 18446744073709551616 + 1 = (2 * q + 1) % 18446744073709551616 by omega,
     ih (2 * x - bit * 340282366920938463463374607431768211456) (2 * T + bit) (2 * q + 1) (rest * 2 + bit - y) (i + 1) (by omega) (by omega) (by omega) (by omega) (by omega)
      (by rw [hT, Int.add_mul, Int.one_mul, Int.mul_assoc]; omega) (by rw [g]; exact hF) (by omega) (by omega), g]
   ·rw [if_neg hc, ih (2 * x - bit * 340282366920938463463374607431768211456) (2 * T + bit) (2 * q) (rest * 2 + bit) (i + 1) (by omega) (by omega) (by omega) (by omega) (by omega)
      (by rw [hT, Int.mul_assoc]; omega) (by rw [g]; exact hF) (by omega) (by omega), g]
  rw [show 2 * (n + 1) + 1 = (2 * n + 1 + 1) + 1 by omega, corebankref01_QuotientP.l0, if_pos (by omega), hf, hx, hr2, hr3]
  by_cases hb : x < 170141183460469231731687303715884105728
  ·rw [if_pos (hbit.2 hb)]
   have := round 0 (.inl ⟨rfl, hb⟩)
   rwa [Int.add_zero] at this
  ·rw [if_neg (fun hc => hb (hbit.1 hc))]
   exact round 1 (.inr ⟨rfl, hb⟩)
theorem corebankref01_Quotient.eq {a b c : Int} {r : Int × Int × Int} (h : corebankref01_Quotient.f a b c = some r) : ∃ k, corebankref01_QuotientP.f k a b c = some r := by
 unfold corebankref01_Quotient.f at h
 split at h
 ·rename_i q
  obtain ⟨⟨⟨a0, a1⟩, b0, b1⟩, c0, c1⟩ := q
  injection h with h
  subst h
  refine ⟨2 * 128 + 1, ?_⟩
  unfold corebankref01_QuotientP.f
  have hv : wv a b = a * 18446744073709551616 + b := rfl
  have hF : 0 * 2 ^ 128 + wv a b * 2 ^ 128 / 340282366920938463463374607431768211456 = wv a b := by
   rw [show (340282366920938463463374607431768211456 : Int) = 2 ^ 128 by decide, Int.mul_ediv_cancel _ (by decide)]; omega
  have := quot_loop c c0 c1 128 (wv a b) 0 0 0 0 (by omega) (by omega) (by omega) (by omega) (by omega) (by omega) (by rw [hF]; omega) (by omega) (by omega)
  rw [hF, show wv a b / 18446744073709551616 = a by omega, show wv a b % 18446744073709551616 = b by omega] at this
  exact this
 ·cases h
theorem corebankref01_Quotient.calls (a0_0 : Int) (a0_1 : Int) (a1 : Int) (r1 : Int) (r2 : Int) (r3 : Int) (w : World) (h : corebankref01_Quotient.f a0_0 a0_1 a1 = some (r1, r2, r3)) :
  Calls Tryd.prog 47 #[.agg #[.int .u64 a0_0, .int .u64 a0_1], .int .u64 a1] w fun e w' => e = .returned (.tuple #[.agg #[.int .u64 r1, .int .u64 r2], .int .u64 r3]) ∧ Below w.heap.size w w' := by
 obtain ⟨k, h⟩ := corebankref01_Quotient.eq h
 exact corebankref01_QuotientP.calls k a0_0 a0_1 a1 r1 r2 r3 w h
end Go.Proofs.YtkdhippoibjfkaaDoor.PR
end
section
namespace Go.Proofs.YtkdhippoibjfkaaDoor.PR
open Go.RowKit Go.Proofs.YtkdhippoibjfkaaDoorW.PrintWords Go.Proofs.YtkdhippoibjfkaaDoorW.PrintLast
set_option linter.unusedVariables false
set_option linter.unusedSimpArgs false
mutual
def corebankref01_DivP.j0 : Nat → Int → Bool → Int → Bool → Int → Int → Option (Int × Int × Int × Int)
 | 0, _, _, _, _, _, _ => none
 | k + 1, x1, x7, x10, x32, x229000, x229001 => if x32 = true then ((corebankref01_plus.f x229000 x229001 0 1).bind fun bt229 => (corebankref01_DivP.j1 k x7 (IntKind.u64.wrap ((IntKind.u64.wrap (x1)) - x10)) bt229.1 bt229.2.1)) else (corebankref01_DivP.j1 k x7 x10 x229000 x229001)
def corebankref01_DivP.j1 : Nat → Bool → Int → Int → Int → Option (Int × Int × Int × Int)
 | 0, _, _, _, _ => none
 | k + 1, x7, x10, x229000, x229001 => (corebankref01_Join.f x7 x229000 x229001).bind fun bt232 => (some (bt232.1, bt232.2.1, wrap64 (x10), 0))
end
def corebankref01_DivP.f (k : Nat) (a0_0 : Int) (a0_1 : Int) (a1 : Int) : Option (Int × Int × Int × Int) := if a1 < 1 then (some (0, 0, 0, 1)) else ((corebankref01_Split.f a0_0 a0_1).bind fun bt221 => ((corebankref01_Quotient.f bt221.2.1 bt221.2.2 (IntKind.u64.wrap (a1))).bind fun bt225 => (if bt221.1 = true then (corebankref01_DivP.j0 k a1 bt221.1 bt225.2.2 (decide (bt225.2.2 > 0)) bt225.1 bt225.2.1) else (corebankref01_DivP.j0 k a1 bt221.1 bt225.2.2 false bt225.1 bt225.2.1))))
theorem corebankref01_DivP.mono_l : ∀ k, (∀ y0 y1 y2 y3 y4 y5, LeO (corebankref01_DivP.j0 k y0 y1 y2 y3 y4 y5) (corebankref01_DivP.j0 (k + 1) y0 y1 y2 y3 y4 y5)) ∧ (∀ y0 y1 y2 y3, LeO (corebankref01_DivP.j1 k y0 y1 y2 y3) (corebankref01_DivP.j1 (k + 1) y0 y1 y2 y3))
 | 0 => ⟨fun _ _ _ _ _ _ r h => by simp [corebankref01_DivP.j0] at h, fun _ _ _ _ r h => by simp [corebankref01_DivP.j1] at h⟩
 | k + 1 => by
  obtain ⟨ih0, ih1⟩ := corebankref01_DivP.mono_l k
  refine ⟨?_, ?_⟩
  ·intro y0 y1 y2 y3 y4 y5
   unfold corebankref01_DivP.j0
   repeat' first
   | (with_reducible exact ih0 _ _ _ _ _ _)
   | (with_reducible exact ih1 _ _ _ _)
   | (with_reducible exact LeO.refl _)
   | (with_reducible exact LeO.none _)
   | (with_reducible refine LeO.ite ?_ ?_)
   | (with_reducible refine LeO.bind ?_ (fun _ => ?_))
   | exact ih0 _ _ _ _ _ _
   | exact ih1 _ _ _ _
   | exact LeO.none _
   | refine LeO.ite ?_ ?_
   | refine LeO.bind ?_ (fun _ => ?_)
  ·intro y0 y1 y2 y3
   unfold corebankref01_DivP.j1
   repeat' first
   | (with_reducible exact ih0 _ _ _ _ _ _)
   | (with_reducible exact ih1 _ _ _ _)
   | (with_reducible exact LeO.refl _)
   | (with_reducible exact LeO.none _)
   | (with_reducible refine LeO.ite ?_ ?_)
   | (with_reducible refine LeO.bind ?_ (fun _ => ?_))
   | exact ih0 _ _ _ _ _ _
   | exact ih1 _ _ _ _
   | exact LeO.none _
   | refine LeO.ite ?_ ?_
   | refine LeO.bind ?_ (fun _ => ?_)
theorem corebankref01_DivP.mono : ∀ a0 a1 a2 k, LeO (corebankref01_DivP.f k a0 a1 a2) (corebankref01_DivP.f (k + 1) a0 a1 a2) := by
 intro a0 a1 a2 k
 obtain ⟨ih0, ih1⟩ := corebankref01_DivP.mono_l k
 unfold corebankref01_DivP.f
 repeat' first
   | (with_reducible exact ih0 _ _ _ _ _ _)
   | (with_reducible exact ih1 _ _ _ _)
   | (with_reducible exact LeO.refl _)
   | (with_reducible exact LeO.none _)
   | (with_reducible refine LeO.ite ?_ ?_)
   | (with_reducible refine LeO.bind ?_ (fun _ => ?_))
   | exact ih0 _ _ _ _ _ _
   | exact ih1 _ _ _ _
   | exact LeO.none _
   | refine LeO.ite ?_ ?_
   | refine LeO.bind ?_ (fun _ => ?_)
set_option maxHeartbeats 8000000 in
set_option maxRecDepth 100000 in
theorem corebankref01_DivP.calls (k : Nat) (a0_0 : Int) (a0_1 : Int) (a1 : Int) (r1 : Int) (r2 : Int) (r3 : Int) (r4 : Int) (w : World) (h : corebankref01_DivP.f k a0_0 a0_1 a1 = some (r1, r2, r3, r4)) :
  Calls Tryd.prog 31 #[.agg #[.int .i64 a0_0, .int .u64 a0_1], .int .i64 a1] w fun e w' => e = .returned (.tuple #[.agg #[.int .i64 r1, .int .u64 r2], .int .i64 r3, .int .i64 r4]) ∧ Below w.heap.size w w' := by
 have hu24 := Tryd.underlying24
 have hu54 := Tryd.underlying54
 have HB := Aside0.mk (Below.refl w.heap.size w)
 have H : (if a1 < 1 then (some (0, 0, 0, 1)) else ((corebankref01_Split.f a0_0 a0_1).bind fun bt221 => ((corebankref01_Quotient.f bt221.2.1 bt221.2.2 (IntKind.u64.wrap (a1))).bind fun bt225 => (if bt221.1 = true then (corebankref01_DivP.j0 k a1 bt221.1 bt225.2.2 (decide (bt225.2.2 > 0)) bt225.1 bt225.2.1) else (corebankref01_DivP.j0 k a1 bt221.1 bt225.2.2 false bt225.1 bt225.2.1))))) = some (r1, r2, r3, r4) := h
 clear h
 by_cases c3 : a1 < 1
 ·rw [if_pos c3] at H
  have c3b0 : decide (a1 < 1) = true := decide_eq_true c3
  clear c3
  simp only [Option.some.injEq, Prod.mk.injEq] at H
  obtain ⟨rfl, rfl, rfl, rfl⟩ := H
  go_enter Tryd.func31, Tryd.ntmps31
  go_wp2_with (first | ((with_reducible refine gate_dst (N := 2) rfl ?_); refine be_ (N := 2) (cs := #[.int .i64 a0_0, .int .u64 a0_1]) (t := 24) ?_; intro gb219 hg w4 hbox hb; have n0_ := Aside0.mk (below_step (qb_ HB.out) hb); have n1_ := Aside0.mk (hbox); have n2_ := Aside0.mk (bz_ hg (qb_ HB.out) : w.heap.size ≤ gb219); have n3_ := n2_; clear HB; have HB := n0_; have BK219 := n1_; have GW219 := n2_; have GE219 := n3_; clear n0_ n1_ n2_ n3_; clear hb hbox hg) | ((with_reducible refine gate_dst (N := 4) rfl ?_); refine be_ (N := 4) (cs := #[.int .i64 0, .int .u64 0]) (t := 24) ?_; intro gb220 hg w5 hbox hb; have n0_ := Aside0.mk (blk_below (qk_ BK219.out) hb); have n1_ := Aside0.mk (below_step (qb1_ GE219.out HB.out) hb); have n2_ := Aside0.mk (hbox); have n3_ := Aside0.mk (bz_ hg (qb1_ GE219.out HB.out) : w.heap.size ≤ gb220); have n4_ := n3_; have n5_ := Aside0.mk (nl_ hg (qk_ BK219.out) : gb219 ≠ gb220); have n6_ := Aside0.mk (ng_ hg (qk_ BK219.out) : gb220 ≠ gb219); clear BK219; clear HB; have BK219 := n0_; have HB := n1_; have BK220 := n2_; have GW220 := n3_; have GE220 := n4_; have NB219_220 := n5_; have NB220_219 := n6_; clear n0_ n1_ n2_ n3_ n4_ n5_ n6_; clear hb hbox hg; have hnb6 := NB220_219.out; have hnc6 := NB219_220.out; have hcz7_0 : w5.cell? ⟨gb220, 0, none⟩ = some (.int .i64 0) := (blk_cell BK220.out 0).trans rfl; have hcz7_1 : w5.cell? ⟨gb220, 1, none⟩ = some (.int .u64 0) := (blk_cell BK220.out 1).trans rfl; have hfz7_0 := blk_frozen BK220.out 0; have hfz7_1 := blk_frozen BK220.out 1))
  refine bodyPost_ret (results_ctt rfl _ _ gb220 24 #[.int .i64 0, .int .u64 0] (0, 0) _ rfl (qpp_ #[.int .i64 0, .int .u64 0] 1 #[.int .i64 0, .int .u64 0] 0 BK220.out) Tryd.underlying24 rfl (by kernel_rfl)) rfl ?_
  exact ⟨qe_, qb2_ GE219.out GE220.out HB.out⟩
 ·rw [if_neg c3] at H
  have c3b0 : decide (a1 < 1) = false := decide_eq_false c3
  clear c3
  replace H := Option.bind_eq_some_iff.mp H
  obtain ⟨⟨t221, t222, t223⟩, A80, H⟩ := H
  replace H : ((corebankref01_Quotient.f t222 t223 (IntKind.u64.wrap (a1))).bind fun bt225 => (if t221 = true then (corebankref01_DivP.j0 k a1 t221 bt225.2.2 (decide (bt225.2.2 > 0)) bt225.1 bt225.2.1) else (corebankref01_DivP.j0 k a1 t221 bt225.2.2 false bt225.1 bt225.2.1))) = some (r1, r2, r3, r4) := H
  have A8 := Aside0.mk A80
  clear A80
  replace H := Option.bind_eq_some_iff.mp H
  obtain ⟨⟨t225, t226, t227⟩, A90, H⟩ := H
  replace H : (if t221 = true then (corebankref01_DivP.j0 k a1 t221 t227 (decide (t227 > 0)) t225 t226) else (corebankref01_DivP.j0 k a1 t221 t227 false t225 t226)) = some (r1, r2, r3, r4) := H
  have A9 := Aside0.mk A90
  clear A90
  have HC10 := Aside0.mk H
  clear H
  go_enter Tryd.func31, Tryd.ntmps31
  go_upto_region 5 with (first | ((with_reducible refine gate_dst (N := 2) rfl ?_); refine be_ (N := 2) (cs := #[.int .i64 a0_0, .int .u64 a0_1]) (t := 24) ?_; intro gb219 hg w11 hbox hb; have n0_ := Aside0.mk (below_step (qb_ HB.out) hb); have n1_ := Aside0.mk (hbox); have n2_ := Aside0.mk (bz_ hg (qb_ HB.out) : w.heap.size ≤ gb219); have n3_ := n2_; clear HB; have HB := n0_; have BK219 := n1_; have GW219 := n2_; have GE219 := n3_; clear n0_ n1_ n2_ n3_; clear hb hbox hg) | ((with_reducible refine gate_dst (N := 4) rfl ?_); refine be_ (N := 4) (cs := #[.int .i64 0, .int .u64 0]) (t := 24) ?_; intro gb220 hg w12 hbox hb; have n0_ := Aside0.mk (blk_below (qk_ BK219.out) hb); have n1_ := Aside0.mk (below_step (qb1_ GE219.out HB.out) hb); have n2_ := Aside0.mk (hbox); have n3_ := Aside0.mk (bz_ hg (qb1_ GE219.out HB.out) : w.heap.size ≤ gb220); have n4_ := n3_; have n5_ := Aside0.mk (nl_ hg (qk_ BK219.out) : gb219 ≠ gb220); have n6_ := Aside0.mk (ng_ hg (qk_ BK219.out) : gb220 ≠ gb219); clear BK219; clear HB; have BK219 := n0_; have HB := n1_; have BK220 := n2_; have GW220 := n3_; have GE220 := n4_; have NB219_220 := n5_; have NB220_219 := n6_; clear n0_ n1_ n2_ n3_ n4_ n5_ n6_; clear hb hbox hg; have hnb13 := NB219_220.out; have hnc13 := NB220_219.out; have hcz14_0 : w12.cell? ⟨gb219, 0, none⟩ = some (.int .i64 a0_0) := (blk_cell BK219.out 0).trans rfl; have hcz14_1 : w12.cell? ⟨gb219, 1, none⟩ = some (.int .u64 a0_1) := (blk_cell BK219.out 1).trans rfl; have hfz14_0 := blk_frozen BK219.out 0; have hfz14_1 := blk_frozen BK219.out 1) | ((with_reducible refine gate_callee (f := 43) rfl ?_); refine goesL_ (some 18) rfl rfl Tryd.func43 (by kernel_rfl) rfl #[.agg #[.int .i64 a0_0, .int .u64 a0_1]] rfl ql_ ?_; (with_reducible refine (corebankref01_Split.calls a0_0 a0_1 t221 t222 t223 _ A8.out).mono ?_); rintro e w15 ⟨rfl, hb⟩; refine ⟨_, rfl, ?_⟩; have n0_ := Aside0.mk (blk_below (qk_ BK219.out) hb); have n1_ := Aside0.mk (blk_below (qk_ BK220.out) hb); have n2_ := Aside0.mk (below_step (qb2_ GE219.out GE220.out HB.out) hb); clear BK219; clear BK220; clear HB; have BK219 := n0_; have BK220 := n1_; have HB := n2_; clear n0_ n1_ n2_; (try clear hb); (try clear hb2); (try clear hk); (try clear hi)) | ((with_reducible refine gate_dst (N := 8) rfl ?_); refine be_ (N := 8) (cs := #[.int .u64 0, .int .u64 0]) (t := 54) ?_; intro gb224 hg w16 hbox hb; have n0_ := Aside0.mk (blk_below (qk_ BK219.out) hb); have n1_ := Aside0.mk (blk_below (qk_ BK220.out) hb); have n2_ := Aside0.mk (below_step (qb2_ GE219.out GE220.out HB.out) hb); have n3_ := Aside0.mk (hbox); have n4_ := Aside0.mk (bz_ hg (qb2_ GE219.out GE220.out HB.out) : w.heap.size ≤ gb224); have n5_ := n4_; have n6_ := Aside0.mk (nl_ hg (qk_ BK219.out) : gb219 ≠ gb224); have n7_ := Aside0.mk (ng_ hg (qk_ BK219.out) : gb224 ≠ gb219); have n8_ := Aside0.mk (nl_ hg (qk_ BK220.out) : gb220 ≠ gb224); have n9_ := Aside0.mk (ng_ hg (qk_ BK220.out) : gb224 ≠ gb220); clear BK219; clear BK220; clear HB; have BK219 := n0_; have BK220 := n1_; have HB := n2_; have BK224 := n3_; have GW224 := n4_; have GE224 := n5_; have NB219_224 := n6_; have NB224_219 := n7_; have NB220_224 := n8_; have NB224_220 := n9_; clear n0_ n1_ n2_ n3_ n4_ n5_ n6_ n7_ n8_ n9_; clear hb hbox hg; have hnb17 := NB224_219.out; have hnc17 := NB219_224.out; have hnb18 := NB224_220.out; have hnc18 := NB220_224.out; have hcz19_0 : w16.cell? ⟨gb224, 0, none⟩ = some (.int .u64 0) := (blk_cell BK224.out 0).trans rfl; have hcz19_1 : w16.cell? ⟨gb224, 1, none⟩ = some (.int .u64 0) := (blk_cell BK224.out 1).trans rfl; have hfz19_0 := blk_frozen BK224.out 0; have hfz19_1 := blk_frozen BK224.out 1) | ((with_reducible refine gate_callee (f := 47) rfl ?_); refine goesL_ (some 25) rfl rfl Tryd.func47 (by kernel_rfl) rfl #[.agg #[.int .u64 t222, .int .u64 t223], .int .u64 (IntKind.u64.wrap (a1))] rfl ql_ ?_; (with_reducible refine (corebankref01_Quotient.calls t222 t223 (IntKind.u64.wrap (a1)) t225 t226 t227 _ A9.out).mono ?_); rintro e w20 ⟨rfl, hb⟩; refine ⟨_, rfl, ?_⟩; have n0_ := Aside0.mk (blk_below (g := gb219) (o := .cells #[.int .i64 a0_0, .int .u64 a0_1] 24 (0, 0)) (qff_ NB219_224.out NB219_224.out BK219.out) hb); have n1_ := Aside0.mk (blk_below (g := gb220) (o := .cells #[.int .i64 0, .int .u64 0] 24 (0, 0)) (qff_ NB220_224.out NB220_224.out BK220.out) hb); have n2_ := Aside0.mk (blk_below (g := gb224) (o := .cells #[.int .u64 t222, .int .u64 t223] 54 (0, 0)) (qpp_ #[.int .u64 t222, .int .u64 0] 1 #[.int .u64 0, .int .u64 0] 0 BK224.out) hb); have n3_ := Aside0.mk (below_step (qb3_ GE219.out GE220.out GE224.out HB.out) hb); clear BK219; clear BK220; clear BK224; clear HB; have BK219 := n0_; have BK220 := n1_; have BK224 := n2_; have HB := n3_; clear n0_ n1_ n2_ n3_; (try clear hb); (try clear hb2); (try clear hk); (try clear hi)) | ((with_reducible refine gate_dst (N := 9) rfl ?_); refine be_ (N := 9) (cs := #[.int .u64 0, .int .u64 0]) (t := 54) ?_; intro gb228 hg w21 hbox hb; have n0_ := Aside0.mk (blk_below (qk_ BK219.out) hb); have n1_ := Aside0.mk (blk_below (qk_ BK220.out) hb); have n2_ := Aside0.mk (blk_below (qk_ BK224.out) hb); have n3_ := Aside0.mk (below_step (qb3_ GE219.out GE220.out GE224.out HB.out) hb); have n4_ := Aside0.mk (hbox); have n5_ := Aside0.mk (bz_ hg (qb3_ GE219.out GE220.out GE224.out HB.out) : w.heap.size ≤ gb228); have n6_ := n5_; have n7_ := Aside0.mk (nl_ hg (qk_ BK219.out) : gb219 ≠ gb228); have n8_ := Aside0.mk (ng_ hg (qk_ BK219.out) : gb228 ≠ gb219); have n9_ := Aside0.mk (nl_ hg (qk_ BK220.out) : gb220 ≠ gb228); have n10_ := Aside0.mk (ng_ hg (qk_ BK220.out) : gb228 ≠ gb220); have n11_ := Aside0.mk (nl_ hg (qk_ BK224.out) : gb224 ≠ gb228); have n12_ := Aside0.mk (ng_ hg (qk_ BK224.out) : gb228 ≠ gb224); clear BK219; clear BK220; clear BK224; clear HB; have BK219 := n0_; have BK220 := n1_; have BK224 := n2_; have HB := n3_; have BK228 := n4_; have GW228 := n5_; have GE228 := n6_; have NB219_228 := n7_; have NB228_219 := n8_; have NB220_228 := n9_; have NB228_220 := n10_; have NB224_228 := n11_; have NB228_224 := n12_; clear n0_ n1_ n2_ n3_ n4_ n5_ n6_ n7_ n8_ n9_ n10_ n11_ n12_; clear hb hbox hg; have hnb22 := NB228_219.out; have hnc22 := NB219_228.out; have hnb23 := NB228_220.out; have hnc23 := NB220_228.out; have hnb24 := NB228_224.out; have hnc24 := NB224_228.out; have hcz25_0 : w21.cell? ⟨gb228, 0, none⟩ = some (.int .u64 0) := (blk_cell BK228.out 0).trans rfl; have hcz25_1 : w21.cell? ⟨gb228, 1, none⟩ = some (.int .u64 0) := (blk_cell BK228.out 1).trans rfl; have hfz25_0 := blk_frozen BK228.out 0; have hfz25_1 := blk_frozen BK228.out 1))
  (try simp only [Act.put, List.setIfInBounds_toArray, List.set_cons_zero, List.set_cons_succ])
  go_cut [32] (fun v32 wc => ∃ (kq : Nat) (x32_9 : Bool), v32 = .bool x32_9 ∧ Aside0 (corebankref01_DivP.j0 kq a1 t221 t227 x32_9 t225 t226 = some (r1, r2, r3, r4)) ∧ Aside0 (kq ≤ k) ∧ Aside0 (wc.heap[gb219]? = some (.cells #[.int .i64 a0_0, .int .u64 a0_1] 24 (0, 0))) ∧ Aside0 (wc.heap[gb220]? = some (.cells #[.int .i64 0, .int .u64 0] 24 (0, 0))) ∧ Aside0 (wc.heap[gb224]? = some (.cells #[.int .u64 t222, .int .u64 t223] 54 (0, 0))) ∧ Aside0 (wc.heap[gb228]? = some (.cells #[.int .u64 t225, .int .u64 t226] 54 (0, 0))) ∧ Aside0 (Below w.heap.size w wc))
  case first =>
   have H := HC10.out
   clear HC10
   by_cases c26 : t221 = true
   ·subst c26
    have H1 : (corebankref01_DivP.j0 k a1 true t227 (decide (t227 > 0)) t225 t226) = some (r1, r2, r3, r4) := by rw [if_pos rfl] at H; exact H
    clear H
    have H := H1
    clear H1
    have H' := Aside0.mk H
    clear H
    go_wp2
    go_meet
    case rel => exact ⟨_, (decide (t227 > 0)), qs_, H', ⟨qo_⟩, ⟨qff_ NB219_228.out NB219_228.out BK219.out⟩, ⟨qff_ NB220_228.out NB220_228.out BK220.out⟩, ⟨qff_ NB224_228.out NB224_228.out BK224.out⟩, ⟨qpp_ #[.int .u64 t225, .int .u64 0] 1 #[.int .u64 0, .int .u64 0] 0 BK228.out⟩, ⟨qb4_ GE219.out GE220.out GE224.out GE228.out HB.out⟩⟩
   ·replace c26 := Bool.eq_false_iff.mpr c26
    subst c26
    have H1 : (corebankref01_DivP.j0 k a1 false t227 false t225 t226) = some (r1, r2, r3, r4) := by rw [if_neg (show ¬ (false = true) by decide)] at H; exact H
    clear H
    have H := H1
    clear H1
    have H' := Aside0.mk H
    clear H
    go_wp2
    go_meet
    case rel => exact ⟨_, (false), qs_, H', ⟨qo_⟩, ⟨qff_ NB219_228.out NB219_228.out BK219.out⟩, ⟨qff_ NB220_228.out NB220_228.out BK220.out⟩, ⟨qff_ NB224_228.out NB224_228.out BK224.out⟩, ⟨qpp_ #[.int .u64 t225, .int .u64 0] 1 #[.int .u64 0, .int .u64 0] 0 BK228.out⟩, ⟨qb4_ GE219.out GE220.out GE224.out GE228.out HB.out⟩⟩
  case rest =>
   clear HC10
   try clear c1
   try clear c2
   try clear p2
   try clear c3
   try clear c3b0
   try clear c4
   try clear c6
   try clear c13
   try clear c17
   try clear c18
   try clear c22
   try clear c23
   try clear c24
   try clear c26
   try clear hcz14_0
   try clear hcz14_1
   try clear hcz19_0
   try clear hcz19_1
   try clear hcz25_0
   try clear hcz25_1
   try clear hcz7_0
   try clear hcz7_1
   try clear hfz14_0
   try clear hfz14_1
   try clear hfz19_0
   try clear hfz19_1
   try clear hfz25_0
   try clear hfz25_1
   try clear hfz7_0
   try clear hfz7_1
   obtain ⟨kq, x32_9, rfl, HA, HJ9, BK219, BK220, BK224, BK228, HB⟩ := hcut
   cases kq with
   | zero => exact absurd HA.out (by simp [corebankref01_DivP.j0])
   | succ kj9 =>
    have H := HA.out
    clear HA
    simp only [corebankref01_DivP.j0] at H
    have HC27 := Aside0.mk H
    clear H
    go_upto_if 32 with (fail)
    go_cut [10] (fun v10 wc => ∃ (kq : Nat) (x10_26 : Int) (x229000_26 : Int) (x229001_26 : Int), v10 = .int .u64 x10_26 ∧ Aside0 (corebankref01_DivP.j1 kq t221 x10_26 x229000_26 x229001_26 = some (r1, r2, r3, r4)) ∧ Aside0 (kq ≤ kj9) ∧ Aside0 (wc.heap[gb219]? = some (.cells #[.int .i64 a0_0, .int .u64 a0_1] 24 (0, 0))) ∧ Aside0 (wc.heap[gb220]? = some (.cells #[.int .i64 0, .int .u64 0] 24 (0, 0))) ∧ Aside0 (wc.heap[gb224]? = some (.cells #[.int .u64 t222, .int .u64 t223] 54 (0, 0))) ∧ Aside0 (wc.heap[gb228]? = some (.cells #[.int .u64 x229000_26, .int .u64 x229001_26] 54 (0, 0))) ∧ Aside0 (Below w.heap.size w wc))
    case first =>
     have H := HC27.out
     clear HC27
     by_cases c28 : x32_9 = true
     ·subst c28
      have H1 : ((corebankref01_plus.f t225 t226 0 1).bind fun bt229 => (corebankref01_DivP.j1 kj9 t221 (IntKind.u64.wrap ((IntKind.u64.wrap (a1)) - t227)) bt229.1 bt229.2.1)) = some (r1, r2, r3, r4) := by rw [if_pos rfl] at H; exact H
      clear H
      have H := H1
      clear H1
      replace H := Option.bind_eq_some_iff.mp H
      obtain ⟨⟨t229, t230, t231⟩, A290, H⟩ := H
      replace H : (corebankref01_DivP.j1 kj9 t221 (IntKind.u64.wrap ((IntKind.u64.wrap (a1)) - t227)) t229 t230) = some (r1, r2, r3, r4) := H
      have A29 := Aside0.mk A290
      clear A290
      have H' := Aside0.mk H
      clear H
      have hnb30 := NB228_219.out
      have hnc30 := NB219_228.out
      have hnb31 := NB228_220.out
      have hnc31 := NB220_228.out
      have hnb32 := NB228_224.out
      have hnc32 := NB224_228.out
      have hcz33_0 : wc.cell? ⟨gb228, 0, none⟩ = some (.int .u64 t225) := (blk_cell BK228.out 0).trans rfl
      have hcz33_1 : wc.cell? ⟨gb228, 1, none⟩ = some (.int .u64 t226) := (blk_cell BK228.out 1).trans rfl
      have hfz33_0 := blk_frozen BK228.out 0
      have hfz33_1 := blk_frozen BK228.out 1
      go_wp2_with (first | ((with_reducible refine gate_callee (f := 48) rfl ?_); refine goesL_ (some 36) rfl rfl Tryd.func48 (by kernel_rfl) rfl #[.agg #[.int .u64 t225, .int .u64 t226], .agg #[.int .u64 0, .int .u64 1]] rfl ql_ ?_; (with_reducible refine (corebankref01_plus.calls t225 t226 0 1 t229 t230 t231 _ A29.out).mono ?_); rintro e w34 ⟨rfl, hb⟩; refine ⟨_, rfl, ?_⟩; have n0_ := Aside0.mk (blk_below (qk_ BK219.out) hb); have n1_ := Aside0.mk (blk_below (qk_ BK220.out) hb); have n2_ := Aside0.mk (blk_below (qk_ BK224.out) hb); have n3_ := Aside0.mk (blk_below (qk_ BK228.out) hb); have n4_ := Aside0.mk (below_step (qb4_ GE219.out GE220.out GE224.out GE228.out HB.out) hb); clear BK219; clear BK220; clear BK224; clear BK228; clear HB; have BK219 := n0_; have BK220 := n1_; have BK224 := n2_; have BK228 := n3_; have HB := n4_; clear n0_ n1_ n2_ n3_ n4_; (try clear hb); (try clear hb2); (try clear hk); (try clear hi); have hcz35_0 : w34.cell? ⟨gb228, 0, none⟩ = some (.int .u64 t225) := (blk_cell BK228.out 0).trans rfl; have hcz35_1 : w34.cell? ⟨gb228, 1, none⟩ = some (.int .u64 t226) := (blk_cell BK228.out 1).trans rfl; have hfz35_0 := blk_frozen BK228.out 0; have hfz35_1 := blk_frozen BK228.out 1))
      go_meet
      case rel => exact ⟨_, (IntKind.u64.wrap ((IntKind.u64.wrap (a1)) - t227)), (t229), (t230), qs_, H', ⟨by have := HJ9.out; first | omega | exact Nat.le_refl _⟩, ⟨qff_ NB219_228.out NB219_228.out BK219.out⟩, ⟨qff_ NB220_228.out NB220_228.out BK220.out⟩, ⟨qff_ NB224_228.out NB224_228.out BK224.out⟩, ⟨qpp_ #[.int .u64 t229, .int .u64 t226] 1 #[.int .u64 t225, .int .u64 t226] 0 BK228.out⟩, ⟨qb4_ GE219.out GE220.out GE224.out GE228.out HB.out⟩⟩
     ·replace c28 := Bool.eq_false_iff.mpr c28
      subst c28
      have H1 : (corebankref01_DivP.j1 kj9 t221 t227 t225 t226) = some (r1, r2, r3, r4) := by rw [if_neg (show ¬ (false = true) by decide)] at H; exact H
      clear H
      have H := H1
      clear H1
      have H' := Aside0.mk H
      clear H
      go_wp2
      go_meet
      case rel => exact ⟨_, (t227), (t225), (t226), qs_, H', ⟨by have := HJ9.out; first | omega | exact Nat.le_refl _⟩, ⟨qk_ BK219.out⟩, ⟨qk_ BK220.out⟩, ⟨qk_ BK224.out⟩, ⟨qk_ BK228.out⟩, ⟨qb4_ GE219.out GE220.out GE224.out GE228.out HB.out⟩⟩
    case rest =>
     clear HC27
     try clear c1
     try clear c2
     try clear p2
     try clear c3
     try clear c3b0
     try clear c4
     try clear c6
     try clear c13
     try clear c17
     try clear c18
     try clear c22
     try clear c23
     try clear c24
     try clear c26
     try clear c28
     try clear c30
     try clear c31
     try clear c32
     try clear hcz14_0
     try clear hcz14_1
     try clear hcz19_0
     try clear hcz19_1
     try clear hcz25_0
     try clear hcz25_1
     try clear hcz33_0
     try clear hcz33_1
     try clear hcz35_0
     try clear hcz35_1
     try clear hcz7_0
     try clear hcz7_1
     try clear hfz14_0
     try clear hfz14_1
     try clear hfz19_0
     try clear hfz19_1
     try clear hfz25_0
     try clear hfz25_1
     try clear hfz33_0
     try clear hfz33_1
     try clear hfz35_0
     try clear hfz35_1
     try clear hfz7_0
     try clear hfz7_1
     try clear p2
     obtain ⟨kq, x10_26, x229000_26, x229001_26, rfl, HA, HJ26, BK219, BK220, BK224, BK228, HB⟩ := hcut
     cases kq with
     | zero => exact absurd HA.out (by simp [corebankref01_DivP.j1])
     | succ kj26 =>
      have H := HA.out
      clear HA
      simp only [corebankref01_DivP.j1] at H
      replace H := Option.bind_eq_some_iff.mp H
      obtain ⟨⟨t232, t233, t234⟩, A360, H⟩ := H
      replace H : (some (t232, t233, wrap64 (x10_26), 0)) = some (r1, r2, r3, r4) := H
      have A36 := Aside0.mk A360
      clear A360
      simp only [Option.some.injEq, Prod.mk.injEq] at H
      obtain ⟨rfl, rfl, rfl, rfl⟩ := H
      have hnb37 := NB228_219.out
      have hnc37 := NB219_228.out
      have hnb38 := NB228_220.out
      have hnc38 := NB220_228.out
      have hnb39 := NB228_224.out
      have hnc39 := NB224_228.out
      have hcz40_0 : wc.cell? ⟨gb228, 0, none⟩ = some (.int .u64 x229000_26) := (blk_cell BK228.out 0).trans rfl
      have hcz40_1 : wc.cell? ⟨gb228, 1, none⟩ = some (.int .u64 x229001_26) := (blk_cell BK228.out 1).trans rfl
      have hfz40_0 := blk_frozen BK228.out 0
      have hfz40_1 := blk_frozen BK228.out 1
      go_wp2_with (first | ((with_reducible refine gate_callee (f := 49) rfl ?_); refine goesL_ (some 46) rfl rfl Tryd.func49 (by kernel_rfl) rfl #[.bool t221, .agg #[.int .u64 x229000_26, .int .u64 x229001_26]] rfl ql_ ?_; (with_reducible refine (corebankref01_Join.calls t221 x229000_26 x229001_26 t232 t233 t234 _ A36.out).mono ?_); rintro e w41 ⟨rfl, hb⟩; refine ⟨_, rfl, ?_⟩; have n0_ := Aside0.mk (blk_below (qk_ BK219.out) hb); have n1_ := Aside0.mk (blk_below (qk_ BK220.out) hb); have n2_ := Aside0.mk (blk_below (qk_ BK224.out) hb); have n3_ := Aside0.mk (blk_below (qk_ BK228.out) hb); have n4_ := Aside0.mk (below_step (qb4_ GE219.out GE220.out GE224.out GE228.out HB.out) hb); clear BK219; clear BK220; clear BK224; clear BK228; clear HB; have BK219 := n0_; have BK220 := n1_; have BK224 := n2_; have BK228 := n3_; have HB := n4_; clear n0_ n1_ n2_ n3_ n4_; (try clear hb); (try clear hb2); (try clear hk); (try clear hi)) | ((with_reducible refine gate_dst (N := 11) rfl ?_); refine be_ (N := 11) (cs := #[.int .i64 0, .int .u64 0]) (t := 24) ?_; intro gb235 hg w42 hbox hb; have n0_ := Aside0.mk (blk_below (qk_ BK219.out) hb); have n1_ := Aside0.mk (blk_below (qk_ BK220.out) hb); have n2_ := Aside0.mk (blk_below (qk_ BK224.out) hb); have n3_ := Aside0.mk (blk_below (qk_ BK228.out) hb); have n4_ := Aside0.mk (below_step (qb4_ GE219.out GE220.out GE224.out GE228.out HB.out) hb); have n5_ := Aside0.mk (hbox); have n6_ := Aside0.mk (bz_ hg (qb4_ GE219.out GE220.out GE224.out GE228.out HB.out) : w.heap.size ≤ gb235); have n7_ := n6_; have n8_ := Aside0.mk (nl_ hg (qk_ BK219.out) : gb219 ≠ gb235); have n9_ := Aside0.mk (ng_ hg (qk_ BK219.out) : gb235 ≠ gb219); have n10_ := Aside0.mk (nl_ hg (qk_ BK220.out) : gb220 ≠ gb235); have n11_ := Aside0.mk (ng_ hg (qk_ BK220.out) : gb235 ≠ gb220); have n12_ := Aside0.mk (nl_ hg (qk_ BK224.out) : gb224 ≠ gb235); have n13_ := Aside0.mk (ng_ hg (qk_ BK224.out) : gb235 ≠ gb224); have n14_ := Aside0.mk (nl_ hg (qk_ BK228.out) : gb228 ≠ gb235); have n15_ := Aside0.mk (ng_ hg (qk_ BK228.out) : gb235 ≠ gb228); clear BK219; clear BK220; clear BK224; clear BK228; clear HB; have BK219 := n0_; have BK220 := n1_; have BK224 := n2_; have BK228 := n3_; have HB := n4_; have BK235 := n5_; have GW235 := n6_; have GE235 := n7_; have NB219_235 := n8_; have NB235_219 := n9_; have NB220_235 := n10_; have NB235_220 := n11_; have NB224_235 := n12_; have NB235_224 := n13_; have NB228_235 := n14_; have NB235_228 := n15_; clear n0_ n1_ n2_ n3_ n4_ n5_ n6_ n7_ n8_ n9_ n10_ n11_ n12_ n13_ n14_ n15_; clear hb hbox hg; have hnb43 := NB235_219.out; have hnc43 := NB219_235.out; have hnb44 := NB235_220.out; have hnc44 := NB220_235.out; have hnb45 := NB235_224.out; have hnc45 := NB224_235.out; have hnb46 := NB235_228.out; have hnc46 := NB228_235.out; have hcz47_0 : w42.cell? ⟨gb235, 0, none⟩ = some (.int .i64 0) := (blk_cell BK235.out 0).trans rfl; have hcz47_1 : w42.cell? ⟨gb235, 1, none⟩ = some (.int .u64 0) := (blk_cell BK235.out 1).trans rfl; have hfz47_0 := blk_frozen BK235.out 0; have hfz47_1 := blk_frozen BK235.out 1; have hnb48 := NB220_219.out; have hnc48 := NB219_220.out; have hnb49 := NB220_224.out; have hnc49 := NB224_220.out; have hcz50_0 : w42.cell? ⟨gb220, 0, none⟩ = some (.int .i64 0) := (blk_cell BK220.out 0).trans rfl; have hcz50_1 : w42.cell? ⟨gb220, 1, none⟩ = some (.int .u64 0) := (blk_cell BK220.out 1).trans rfl; have hfz50_0 := blk_frozen BK220.out 0; have hfz50_1 := blk_frozen BK220.out 1))
      refine bodyPost_ret (results_ctt rfl _ _ gb220 24 #[.int .i64 t232, .int .u64 t233] (0, 0) _ rfl (qppff_ #[.int .i64 t232, .int .u64 0] 1 #[.int .i64 0, .int .u64 0] 0 NB220_235.out NB220_235.out BK220.out) Tryd.underlying24 rfl (by kernel_rfl)) rfl ?_
      exact ⟨qe_, qb5_ GE219.out GE220.out GE224.out GE228.out GE235.out HB.out⟩
def corebankref01_Div.f (a0_0 a0_1 a1 : Int) : Option (Int × Int × Int × Int) :=
 if isW a0_0 a0_1 ∧ inI a1 then
  some (if a1 < 1 then (0, 0, 0, 1) else (wv a0_0 a0_1 / a1 / 18446744073709551616, wv a0_0 a0_1 / a1 % 18446744073709551616, wv a0_0 a0_1 % a1, 0)) else none
theorem corebankref01_Div.eq {a b n : Int} {r : Int × Int × Int × Int} (h : corebankref01_Div.f a b n = some r) : ∃ k, corebankref01_DivP.f k a b n = some r := by
 unfold corebankref01_Div.f at h
 split at h
 ·rename_i q
  obtain ⟨⟨⟨a0, a1⟩, b0, b1⟩, n0, n1⟩ := q
  injection h with h
  subst h
  refine ⟨2, ?_⟩
  unfold corebankref01_DivP.f
  by_cases hn : n < 1
  ·rw [if_pos hn, if_pos hn]
  ·rw [if_neg hn, if_neg hn]
   have hW : isW a b := ⟨⟨a0, a1⟩, b0, b1⟩
   unfold corebankref01_Split.f
   rw [if_pos hW]
   simp only [Option.bind_some]
   have hun : IntKind.u64.wrap n = n := u64_id _ (by omega) (by omega)
   have hv : wv a b = a * 18446744073709551616 + b := rfl
   have mrange : 0 ≤ (if a < 0 then -(wv a b) else wv a b) ∧ (if a < 0 then -(wv a b) else wv a b) ≤ 170141183460469231731687303715884105728 := by split <;> omega
   have hvm : wv a b = if a < 0 then -(if a < 0 then -(wv a b) else wv a b) else (if a < 0 then -(wv a b) else wv a b) := by split <;> omega
   generalize hm : (if a < 0 then -(wv a b) else wv a b) = m at *
   obtain ⟨m0, m1⟩ := mrange
   have hwm : wv (m / 18446744073709551616) (m % 18446744073709551616) = m := by unfold wv; omega
   have hU : (inU (m / 18446744073709551616) ∧ inU (m % 18446744073709551616)) ∧ 1 ≤ n ∧ n ≤ 9223372036854775807 := ⟨⟨by unfold inU; omega, by unfold inU; omega⟩, by omega, by omega⟩
   unfold corebankref01_Quotient.f
   rw [hun, if_pos hU, hwm]
   simp only [Option.bind_some]
   have q0 : 0 ≤ m / n := Int.ediv_nonneg m0 (by omega)
   have q1 : m / n ≤ m := Int.ediv_le_self n m0
   have r0 := Int.emod_nonneg m (show n ≠ 0 by omega)
   have r1 := Int.emod_lt_of_pos m (show 0 < n by omega)
   have hwq : wv (m / n / 18446744073709551616) (m / n % 18446744073709551616) = m / n := by unfold wv; omega
   have hUq : inU (m / n / 18446744073709551616) ∧ inU (m / n % 18446744073709551616) := ⟨by unfold inU; omega, by unfold inU; omega⟩
   by_cases ha : a < 0
   ·rw [decide_eq_true ha, if_pos rfl]
    simp only [corebankref01_DivP.j0, corebankref01_DivP.j1]
    rw [if_pos ha] at hvm
    obtain ⟨d1, d2⟩ := neg_div (m := m) (n := n) (by omega)
    rw [hvm, d1, d2]
    by_cases hr : 0 < m % n
    ·rw [if_pos (by simpa using hr), if_pos hr, if_pos hr]
     have hq2 : m / n ≤ 170141183460469231731687303715884105727 := by
      by_cases h1n : n = 1
      ·subst h1n; rw [Int.emod_one] at hr; omega
      ·have h3 := Int.emod_add_mul_ediv m n
       have h4 : 2 * (m / n) ≤ n * (m / n) := Int.mul_le_mul_of_nonneg_right (by omega) q0
       omega
     have hw1 : wv 0 1 = 1 := by decide
     unfold corebankref01_plus.f
     rw [if_pos ⟨hUq, by decide, by decide⟩, hwq, hw1]
     simp only [Option.bind_some]
     rw [hun, u64_id (n - m % n) (by omega) (by omega)]
     have hwq2 : wv ((m / n + 1) / 18446744073709551616 % 18446744073709551616) ((m / n + 1) % 18446744073709551616) = m / n + 1 := by unfold wv; omega
     have hUq2 : inU ((m / n + 1) / 18446744073709551616 % 18446744073709551616) ∧ inU ((m / n + 1) % 18446744073709551616) := ⟨by unfold inU; omega, by unfold inU; omega⟩
     unfold corebankref01_Join.f
     rw [if_pos hUq2, hwq2]
     simp only [Option.bind_some, if_true]
     rw [i64_id (n - m % n) (by omega) (by omega), i64_id (-(m / n + 1) / 18446744073709551616) (by omega) (by omega)]
    ·rw [if_neg (by simpa using hr), if_neg hr, if_neg hr]
     unfold corebankref01_Join.f
     rw [if_pos hUq, hwq]
     simp only [Option.bind_some, if_true]
     rw [show m % n = 0 by omega, i64_id 0 (by omega) (by omega), i64_id (-(m / n) / 18446744073709551616) (by omega) (by omega)]
   ·rw [decide_eq_false ha, if_neg (by decide)]
    simp only [corebankref01_DivP.j0, corebankref01_DivP.j1]
    rw [if_neg ha] at hvm hm
    rw [if_neg (by decide), hvm]
    unfold corebankref01_Join.f
    rw [if_pos hUq, hwq]
    simp only [Option.bind_some, Bool.false_eq_true, if_false]
    rw [i64_id (m % n) (by omega) (by omega), i64_id (m / n / 18446744073709551616) (by omega) (by omega)]
 ·cases h
theorem corebankref01_Div.calls (a0_0 : Int) (a0_1 : Int) (a1 : Int) (r1 : Int) (r2 : Int) (r3 : Int) (r4 : Int) (w : World) (h : corebankref01_Div.f a0_0 a0_1 a1 = some (r1, r2, r3, r4)) :
  Calls Tryd.prog 31 #[.agg #[.int .i64 a0_0, .int .u64 a0_1], .int .i64 a1] w fun e w' => e = .returned (.tuple #[.agg #[.int .i64 r1, .int .u64 r2], .int .i64 r3, .int .i64 r4]) ∧ Below w.heap.size w w' := by
 obtain ⟨k, h⟩ := corebankref01_Div.eq h
 exact corebankref01_DivP.calls k a0_0 a0_1 a1 r1 r2 r3 r4 w h
end Go.Proofs.YtkdhippoibjfkaaDoor.PR
end
section
namespace Go.Proofs.YtkdhippoibjfkaaDoor.PR
open Go.RowKit Go.Proofs.YtkdhippoibjfkaaDoorW.PrintWords Go.Proofs.YtkdhippoibjfkaaDoorW.PrintLast
set_option linter.unusedVariables false
set_option linter.unusedSimpArgs false
attribute [local go_sem high] eqA24
def corebankref01_IntP.f (a0_0 : Int) (a0_1 : Int) : Option (Int × Bool) := (corebankref01_Of.f (wrap64 (a0_1))).bind fun bt237 => (if (bt237.1 == a0_0 && (bt237.2 == a0_1)) = true then (some (wrap64 (a0_1), true)) else (some (0, false)))
set_option maxHeartbeats 8000000 in
set_option maxRecDepth 100000 in
theorem corebankref01_IntP.calls (a0_0 : Int) (a0_1 : Int) (r1 : Int) (r2 : Bool) (w : World) (h : corebankref01_IntP.f a0_0 a0_1 = some (r1, r2)) :
  Calls Tryd.prog 32 #[.agg #[.int .i64 a0_0, .int .u64 a0_1]] w fun e w' => e = .returned (.tuple #[.int .i64 r1, .bool r2]) ∧ Below w.heap.size w w' := by
 have hu24 := Tryd.underlying24
 have HB := Aside0.mk (Below.refl w.heap.size w)
 have H : ((corebankref01_Of.f (wrap64 (a0_1))).bind fun bt237 => (if (bt237.1 == a0_0 && (bt237.2 == a0_1)) = true then (some (wrap64 (a0_1), true)) else (some (0, false)))) = some (r1, r2) := h
 clear h
 replace H := Option.bind_eq_some_iff.mp H
 obtain ⟨⟨t237, t238⟩, A20, H⟩ := H
 replace H : (if (t237 == a0_0 && (t238 == a0_1)) = true then (some (wrap64 (a0_1), true)) else (some (0, false))) = some (r1, r2) := H
 have A2 := Aside0.mk A20
 clear A20
 by_cases c3 : (t237 == a0_0 && (t238 == a0_1)) = true
 ·rw [if_pos c3] at H
  have c3b0 : (t237 == a0_0 && (t238 == a0_1)) = true := c3
  (try (have c3b1 : decide (t237 = a0_0 && (t238 == a0_1)) = true := by simpa using c3))
  (try (have c3b2 : (t237 == a0_0 && (t238 == a0_1)) = true := by simpa using c3))
  clear c3
  simp only [Option.some.injEq, Prod.mk.injEq] at H
  obtain ⟨rfl, rfl⟩ := H
  go_enter Tryd.func32, Tryd.ntmps32
  try go_wp2_with (first | ((with_reducible refine gate_dst (N := 1) rfl ?_); refine be_ (N := 1) (cs := #[.int .i64 a0_0, .int .u64 a0_1]) (t := 24) ?_; intro gb236 hg w4 hbox hb; have n0_ := Aside0.mk (below_step (qb_ HB.out) hb); have n1_ := Aside0.mk (hbox); have n2_ := Aside0.mk (bz_ hg (qb_ HB.out) : w.heap.size ≤ gb236); have n3_ := n2_; clear HB; have HB := n0_; have BK236 := n1_; have GW236 := n2_; have GE236 := n3_; clear n0_ n1_ n2_ n3_; clear hb hbox hg))
  have n0_ := Aside0.mk (blk_drew BK236.out)
  have n1_ := Aside0.mk (below_drew1 HB.out)
  clear BK236
  clear HB
  have BK236 := n0_
  have HB := n1_
  clear n0_ n1_
  refine start_ (n := 6) (S := fun w' => w'.cell? ⟨gb236, 0, none⟩ = some (.int .i64 a0_0) ∧ w'.cell? ⟨gb236, 1, none⟩ = some (.int .u64 a0_1)) (ds := []) (nb_ 6 0) (by kernel_rfl) rfl rfl ⟨(blk_cell BK236.out 0).trans rfl, (blk_cell BK236.out 1).trans rfl⟩ (fun hHeld => ?_)
  generalize w4.drew = w5 at BK236 HB hHeld ⊢
  refine pure_ (i := 0) (N := some 4) (v := ?_) (a' := ?_) (nb_ 6 1) rfl rfl (by kernel_rfl) (fun _ _ _ h => h) (Or.inl ⟨by rfl, ?_⟩) ?_ ?_
  rotate_left
  ·intro w'
   go_simp
   with_reducible rfl
  rotate_left
  ·simp only [Act.put, List.setIfInBounds_toArray, List.set_cons_zero, List.set_cons_succ, i64_w, i32_w]
   rfl
  refine take_ (i := 1) (N := some 5) (v := ?_) (a' := ?_) (nb_ 6 3) rfl rfl (by kernel_rfl) (fun _ _ _ h => h) (Or.inl ⟨by rfl, ?_⟩) hHeld ?_ ?_
  rotate_left
  ·rintro w' ⟨s0, s1⟩
   go_simp
   with_reducible rfl
  rotate_left
  ·simp only [Act.put, List.setIfInBounds_toArray, List.set_cons_zero, List.set_cons_succ, i64_w, i32_w]
   rfl
  refine pure_ (i := 2) (N := some 6) (v := ?_) (a' := ?_) (nb_ 6 7) rfl rfl (by kernel_rfl) (fun _ _ _ h => h) (Or.inl ⟨by rfl, ?_⟩) ?_ ?_
  rotate_left
  ·intro w'
   go_simp
   with_reducible rfl
  rotate_left
  ·simp only [Act.put, List.setIfInBounds_toArray, List.set_cons_zero, List.set_cons_succ, i64_w, i32_w]
   rfl
  refine take_ (i := 4) (N := some 8) (v := ?_) (a' := ?_) (nb_ 6 23) rfl rfl (by kernel_rfl) (fun _ _ _ h => h) (Or.inl ⟨by rfl, ?_⟩) hHeld ?_ ?_
  rotate_left
  ·rintro w' ⟨s0, s1⟩
   go_simp
   with_reducible rfl
  rotate_left
  ·simp only [Act.put, List.setIfInBounds_toArray, List.set_cons_zero, List.set_cons_succ, i64_w, i32_w]
   rfl
  refine one_ (i := 3) (N := some 7) (nb_ 6 31) rfl rfl (by kernel_rfl) (by decide) (fun K hK => ?_)
  refine goes_ Tryd.func21 (by kernel_rfl) rfl #[.int .i64 (wrap64 (a0_1))] (by rfl) rfl rfl ql_ ?_
  with_reducible refine (corebankref01_Of.calls (wrap64 (a0_1)) t237 t238 _ A2.out).mono ?_
  rintro e w6 ⟨rfl, hb⟩
  refine ⟨_, rfl, ?_⟩
  have n0_ := Aside0.mk (blk_below (qk_ BK236.out) hb)
  have n1_ := Aside0.mk (below_step (qb1_ GE236.out HB.out) hb)
  clear BK236
  clear HB
  have BK236 := n0_
  have HB := n1_
  clear n0_ n1_
  (try clear hb)
  (try clear hb2)
  (try clear hk)
  (try clear hi)
  refine hK.out _ _ ⟨(blk_cell BK236.out 0).trans rfl, (blk_cell BK236.out 1).trans rfl⟩ (fun hHeld => ?_)
  clear hK K
  refine no_ ?_
  refine pure_ (i := 5) (N := some 9) (v := ?_) (a' := ?_) (nb_ 6 63) rfl rfl (by kernel_rfl) (fun _ _ _ h => h) (Or.inl ⟨by rfl, ?_⟩) ?_ ?_
  rotate_left
  ·intro w'
   go_simp
   with_reducible rfl
  rotate_left
  ·simp only [Act.put, List.setIfInBounds_toArray, List.set_cons_zero, List.set_cons_succ, i64_w, i32_w]
   rfl
  refine done_ (by kernel_rfl) ?_
  have hcz7_0 : w6.cell? ⟨gb236, 0, none⟩ = some (.int .i64 a0_0) := (blk_cell BK236.out 0).trans rfl
  have hcz7_1 : w6.cell? ⟨gb236, 1, none⟩ = some (.int .u64 a0_1) := (blk_cell BK236.out 1).trans rfl
  have hfz7_0 := blk_frozen BK236.out 0
  have hfz7_1 := blk_frozen BK236.out 1
  try go_wp2
  go_ret2
  exact ⟨qe_, qb1_ GE236.out HB.out⟩
 ·rw [if_neg c3] at H
  have c3b0 : (t237 == a0_0 && (t238 == a0_1)) = false := by simpa using c3
  (try (have c3b1 : decide (t237 = a0_0 && (t238 == a0_1)) = false := by simpa using c3))
  (try (have c3b2 : (t237 == a0_0 && (t238 == a0_1)) = false := by simpa using c3))
  (try (have c3b3 : ¬ (t237 = a0_0 && (t238 == a0_1)) := by simpa using c3))
  clear c3
  simp only [Option.some.injEq, Prod.mk.injEq] at H
  obtain ⟨rfl, rfl⟩ := H
  go_enter Tryd.func32, Tryd.ntmps32
  try go_wp2_with (first | ((with_reducible refine gate_dst (N := 1) rfl ?_); refine be_ (N := 1) (cs := #[.int .i64 a0_0, .int .u64 a0_1]) (t := 24) ?_; intro gb236 hg w8 hbox hb; have n0_ := Aside0.mk (below_step (qb_ HB.out) hb); have n1_ := Aside0.mk (hbox); have n2_ := Aside0.mk (bz_ hg (qb_ HB.out) : w.heap.size ≤ gb236); have n3_ := n2_; clear HB; have HB := n0_; have BK236 := n1_; have GW236 := n2_; have GE236 := n3_; clear n0_ n1_ n2_ n3_; clear hb hbox hg))
  have n0_ := Aside0.mk (blk_drew BK236.out)
  have n1_ := Aside0.mk (below_drew1 HB.out)
  clear BK236
  clear HB
  have BK236 := n0_
  have HB := n1_
  clear n0_ n1_
  refine start_ (n := 6) (S := fun w' => w'.cell? ⟨gb236, 0, none⟩ = some (.int .i64 a0_0) ∧ w'.cell? ⟨gb236, 1, none⟩ = some (.int .u64 a0_1)) (ds := []) (nb_ 6 0) (by kernel_rfl) rfl rfl ⟨(blk_cell BK236.out 0).trans rfl, (blk_cell BK236.out 1).trans rfl⟩ (fun hHeld => ?_)
  generalize w8.drew = w9 at BK236 HB hHeld ⊢
  refine pure_ (i := 0) (N := some 4) (v := ?_) (a' := ?_) (nb_ 6 1) rfl rfl (by kernel_rfl) (fun _ _ _ h => h) (Or.inl ⟨by rfl, ?_⟩) ?_ ?_
  rotate_left
  ·intro w'
   go_simp
   with_reducible rfl
  rotate_left
  ·simp only [Act.put, List.setIfInBounds_toArray, List.set_cons_zero, List.set_cons_succ, i64_w, i32_w]
   rfl
  refine take_ (i := 1) (N := some 5) (v := ?_) (a' := ?_) (nb_ 6 3) rfl rfl (by kernel_rfl) (fun _ _ _ h => h) (Or.inl ⟨by rfl, ?_⟩) hHeld ?_ ?_
  rotate_left
  ·rintro w' ⟨s0, s1⟩
   go_simp
   with_reducible rfl
  rotate_left
  ·simp only [Act.put, List.setIfInBounds_toArray, List.set_cons_zero, List.set_cons_succ, i64_w, i32_w]
   rfl
  refine pure_ (i := 2) (N := some 6) (v := ?_) (a' := ?_) (nb_ 6 7) rfl rfl (by kernel_rfl) (fun _ _ _ h => h) (Or.inl ⟨by rfl, ?_⟩) ?_ ?_
  rotate_left
  ·intro w'
   go_simp
   with_reducible rfl
  rotate_left
  ·simp only [Act.put, List.setIfInBounds_toArray, List.set_cons_zero, List.set_cons_succ, i64_w, i32_w]
   rfl
  refine take_ (i := 4) (N := some 8) (v := ?_) (a' := ?_) (nb_ 6 23) rfl rfl (by kernel_rfl) (fun _ _ _ h => h) (Or.inl ⟨by rfl, ?_⟩) hHeld ?_ ?_
  rotate_left
  ·rintro w' ⟨s0, s1⟩
   go_simp
   with_reducible rfl
  rotate_left
  ·simp only [Act.put, List.setIfInBounds_toArray, List.set_cons_zero, List.set_cons_succ, i64_w, i32_w]
   rfl
  refine one_ (i := 3) (N := some 7) (nb_ 6 31) rfl rfl (by kernel_rfl) (by decide) (fun K hK => ?_)
  refine goes_ Tryd.func21 (by kernel_rfl) rfl #[.int .i64 (wrap64 (a0_1))] (by rfl) rfl rfl ql_ ?_
  with_reducible refine (corebankref01_Of.calls (wrap64 (a0_1)) t237 t238 _ A2.out).mono ?_
  rintro e w10 ⟨rfl, hb⟩
  refine ⟨_, rfl, ?_⟩
  have n0_ := Aside0.mk (blk_below (qk_ BK236.out) hb)
  have n1_ := Aside0.mk (below_step (qb1_ GE236.out HB.out) hb)
  clear BK236
  clear HB
  have BK236 := n0_
  have HB := n1_
  clear n0_ n1_
  (try clear hb)
  (try clear hb2)
  (try clear hk)
  (try clear hi)
  refine hK.out _ _ ⟨(blk_cell BK236.out 0).trans rfl, (blk_cell BK236.out 1).trans rfl⟩ (fun hHeld => ?_)
  clear hK K
  refine no_ ?_
  refine pure_ (i := 5) (N := some 9) (v := ?_) (a' := ?_) (nb_ 6 63) rfl rfl (by kernel_rfl) (fun _ _ _ h => h) (Or.inl ⟨by rfl, ?_⟩) ?_ ?_
  rotate_left
  ·intro w'
   go_simp
   with_reducible rfl
  rotate_left
  ·simp only [Act.put, List.setIfInBounds_toArray, List.set_cons_zero, List.set_cons_succ, i64_w, i32_w]
   rfl
  refine done_ (by kernel_rfl) ?_
  try go_wp2
  go_ret2
  exact ⟨qe_, qb1_ GE236.out HB.out⟩
def corebankref01_Int.f (a0_0 a0_1 : Int) : Option (Int × Bool) :=
 if isW a0_0 a0_1 then some (if inI (wv a0_0 a0_1) then (wv a0_0 a0_1, true) else (0, false)) else none
theorem corebankref01_Int.eq {a b : Int} {r : Int × Bool} (h : corebankref01_Int.f a b = some r) : corebankref01_IntP.f a b = some r := by
 unfold corebankref01_Int.f at h
 split at h
 ·rename_i c
  obtain ⟨⟨c0, c1⟩, c2, c3⟩ := c
  injection h with h
  subst h
  unfold corebankref01_IntP.f corebankref01_Of.f
  have hI : inI (wrap64 b) := by unfold inI wrap64; omega
  rw [if_pos hI]
  simp only [Option.bind_some]
  by_cases e : inI (wv a b)
  ·rw [if_pos e]
   unfold inI wv at e
   have e1 : wrap64 b / 18446744073709551616 = a := by unfold wrap64; omega
   have e2 : wrap64 b % 18446744073709551616 = b := by unfold wrap64; omega
   rw [e1, e2, if_pos (by simp)]
   congr 2
   unfold wrap64 wv
   omega
  ·rw [if_neg e]
   unfold inI wv at e
   have e1 : wrap64 b / 18446744073709551616 ≠ a := by unfold wrap64; omega
   rw [if_neg (by simp [e1])]
 ·cases h
theorem corebankref01_Int.calls (a0_0 : Int) (a0_1 : Int) (r1 : Int) (r2 : Bool) (w : World) (h : corebankref01_Int.f a0_0 a0_1 = some (r1, r2)) :
  Calls Tryd.prog 32 #[.agg #[.int .i64 a0_0, .int .u64 a0_1]] w fun e w' => e = .returned (.tuple #[.int .i64 r1, .bool r2]) ∧ Below w.heap.size w w' := by
 have h := corebankref01_Int.eq h
 exact corebankref01_IntP.calls a0_0 a0_1 r1 r2 w h
def corebankref02_upP.f (a0 : Bool) (a1 : Bool) (a2 : Int) (a3 : Int) (a4 : Int) : Option (Bool) := if a4 = 1 then (some a0) else (if a4 = 2 then (some (!a0)) else (if a4 = 3 then (some false) else (if a4 = 4 then (some true) else (if a2 = (wrap64 (a3 - a2)) then (if a4 = 5 then (some (!a0)) else (some a1)) else (some (decide (a2 > (wrap64 (a3 - a2)))))))))
set_option maxHeartbeats 8000000 in
set_option maxRecDepth 100000 in
theorem corebankref02_upP.calls (a0 : Bool) (a1 : Bool) (a2 : Int) (a3 : Int) (a4 : Int) (r : Bool) (w : World) (h : corebankref02_upP.f a0 a1 a2 a3 a4 = some r) :
  Calls Tryd.prog 39 #[.bool a0, .bool a1, .int .i64 a2, .int .i64 a3, .int .i64 a4] w fun e w' => e = .returned (.bool r) ∧ Drawn0 w w' := by
 have H : (if a4 = 1 then (some a0) else (if a4 = 2 then (some (!a0)) else (if a4 = 3 then (some false) else (if a4 = 4 then (some true) else (if a2 = (wrap64 (a3 - a2)) then (if a4 = 5 then (some (!a0)) else (some a1)) else (some (decide (a2 > (wrap64 (a3 - a2)))))))))) = some r := h
 clear h
 by_cases c6 : a4 = 1
 ·rw [if_pos c6] at H
  have c6b0 : (a4 == 1) = true := beq_iff_eq.mpr c6
  have c6b1 : (a4 != 1) = false := bne_eq_false_iff_eq.mpr c6
  clear c6
  obtain rfl := Option.some.inj H
  go_enter Tryd.func39, Tryd.ntmps39
  go_wp2
  go_ret
  exact ⟨by first | rfl | (simp; done) | (simp [*]; done), by repeat (first | exact Drawn0.refl _ | apply Drawn0.step)⟩
 ·rw [if_neg c6] at H
  have c6b0 : (a4 == 1) = false := beq_eq_false_iff_ne.mpr c6
  have c6b1 : (a4 != 1) = true := bne_iff_ne.mpr c6
  by_cases c7 : a4 = 2
  ·rw [if_pos c7] at H
   have c7b0 : (a4 == 2) = true := beq_iff_eq.mpr c7
   have c7b1 : (a4 != 2) = false := bne_eq_false_iff_eq.mpr c7
   clear c7
   obtain rfl := Option.some.inj H
   go_enter Tryd.func39, Tryd.ntmps39
   go_wp2
   go_ret
   exact ⟨by first | rfl | (simp; done) | (simp [*]; done), by repeat (first | exact Drawn0.refl _ | apply Drawn0.step)⟩
  ·rw [if_neg c7] at H
   have c7b0 : (a4 == 2) = false := beq_eq_false_iff_ne.mpr c7
   have c7b1 : (a4 != 2) = true := bne_iff_ne.mpr c7
   by_cases c8 : a4 = 3
   ·rw [if_pos c8] at H
    have c8b0 : (a4 == 3) = true := beq_iff_eq.mpr c8
    have c8b1 : (a4 != 3) = false := bne_eq_false_iff_eq.mpr c8
    clear c8
    obtain rfl := Option.some.inj H
    go_enter Tryd.func39, Tryd.ntmps39
    go_wp2
    go_ret
    exact ⟨by first | rfl | (simp; done) | (simp [*]; done), by repeat (first | exact Drawn0.refl _ | apply Drawn0.step)⟩
   ·rw [if_neg c8] at H
    have c8b0 : (a4 == 3) = false := beq_eq_false_iff_ne.mpr c8
    have c8b1 : (a4 != 3) = true := bne_iff_ne.mpr c8
    by_cases c9 : a4 = 4
    ·rw [if_pos c9] at H
     have c9b0 : (a4 == 4) = true := beq_iff_eq.mpr c9
     have c9b1 : (a4 != 4) = false := bne_eq_false_iff_eq.mpr c9
     clear c9
     obtain rfl := Option.some.inj H
     go_enter Tryd.func39, Tryd.ntmps39
     go_wp2
     go_ret
     exact ⟨by first | rfl | (simp; done) | (simp [*]; done), by repeat (first | exact Drawn0.refl _ | apply Drawn0.step)⟩
    ·rw [if_neg c9] at H
     have c9b0 : (a4 == 4) = false := beq_eq_false_iff_ne.mpr c9
     have c9b1 : (a4 != 4) = true := bne_iff_ne.mpr c9
     by_cases c10 : a2 = (wrap64 (a3 - a2))
     ·rw [if_pos c10] at H
      have c10b0 : (a2 == (wrap64 (a3 - a2))) = true := beq_iff_eq.mpr c10
      have c10b1 : (a2 != (wrap64 (a3 - a2))) = false := bne_eq_false_iff_eq.mpr c10
      clear c10
      by_cases c11 : a4 = 5
      ·rw [if_pos c11] at H
       have c11b0 : (a4 == 5) = true := beq_iff_eq.mpr c11
       have c11b1 : (a4 != 5) = false := bne_eq_false_iff_eq.mpr c11
       clear c11
       obtain rfl := Option.some.inj H
       go_enter Tryd.func39, Tryd.ntmps39
       go_wp2
       go_ret
       exact ⟨by first | rfl | (simp; done) | (simp [*]; done), by repeat (first | exact Drawn0.refl _ | apply Drawn0.step)⟩
      ·rw [if_neg c11] at H
       have c11b0 : (a4 == 5) = false := beq_eq_false_iff_ne.mpr c11
       have c11b1 : (a4 != 5) = true := bne_iff_ne.mpr c11
       obtain rfl := Option.some.inj H
       go_enter Tryd.func39, Tryd.ntmps39
       go_wp2
       go_ret
       exact ⟨by first | rfl | (simp; done) | (simp [*]; done), by repeat (first | exact Drawn0.refl _ | apply Drawn0.step)⟩
     ·rw [if_neg c10] at H
      have c10b0 : (a2 == (wrap64 (a3 - a2))) = false := beq_eq_false_iff_ne.mpr c10
      have c10b1 : (a2 != (wrap64 (a3 - a2))) = true := bne_iff_ne.mpr c10
      obtain rfl := Option.some.inj H
      go_enter Tryd.func39, Tryd.ntmps39
      go_wp2
      go_ret
      exact ⟨by first | rfl | (simp; done) | (simp [*]; done), by repeat (first | exact Drawn0.refl _ | apply Drawn0.step)⟩
def corebankref02_up.f (a0 a1 : Bool) (a2 a3 a4 : Int) : Option Bool := if (1 ≤ a4 ∧ a4 ≤ 6) ∧ 0 < a2 ∧ a2 < a3 ∧ a3 ≤ 9223372036854775807 then some (upB a0 a1 a2 a3 a4) else none
theorem corebankref02_up.eq {a b : Bool} {c d m : Int} {r : Bool} (h : corebankref02_up.f a b c d m = some r) : corebankref02_upP.f a b c d m = some r := by
 unfold corebankref02_up.f at h
 split at h
 ·rename_i q
  obtain ⟨⟨m0, m1⟩, c0, c1, c2⟩ := q
  injection h with h
  subst h
  unfold corebankref02_upP.f upB
  rw [i64_id (d - c) (by omega) (by omega)]
  repeat' split
  all_goals first | rfl | omega | (congr 1; apply decide_eq_true; omega) | (congr 1; apply decide_eq_false; omega)
 ·cases h
theorem corebankref02_up.calls (a0 : Bool) (a1 : Bool) (a2 : Int) (a3 : Int) (a4 : Int) (r : Bool) (w : World) (h : corebankref02_up.f a0 a1 a2 a3 a4 = some r) :
  Calls Tryd.prog 39 #[.bool a0, .bool a1, .int .i64 a2, .int .i64 a3, .int .i64 a4] w fun e w' => e = .returned (.bool r) ∧ Drawn0 w w' := by
 have h := corebankref02_up.eq h
 exact corebankref02_upP.calls a0 a1 a2 a3 a4 r w h
end Go.Proofs.YtkdhippoibjfkaaDoor.PR
end
