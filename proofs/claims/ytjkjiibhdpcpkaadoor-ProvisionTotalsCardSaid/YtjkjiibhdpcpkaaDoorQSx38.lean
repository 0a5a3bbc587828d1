import Derived.Test.YtjkjiibhdpcpkaaDoorQRm2
import Derived.Test.YtjkjiibhdpcpkaaDoorQSx29
import Derived.Test.YtjkjiibhdpcpkaaDoorQSx33
import Derived.Test.YtjkjiibhdpcpkaaDoorQSx35
import Derived.Test.YtjkjiibhdpcpkaaDoorQSx36
import Derived.Test.YtjkjiibhdpcpkaaDoorQSx37
namespace Go.Proofs.YtjkjiibhdpcpkaaDoor.PS
open Go.RowKit Go.Proofs.YtjkjiibhdpcpkaaDoorW.PrintWords Go.Proofs.YtjkjiibhdpcpkaaDoorW.PrintLast
set_option linter.unusedVariables false
set_option linter.unusedSimpArgs false
def corebankref02_Divide.f (a0_0 a0_1 a1 a2 : Int) : Option (Int × Int) := if isW a0_0 a0_1 ∧ inI a1 then some (divR (wv a0_0 a0_1) a1 a2) else none
theorem corebankref02_Divide.eq {a b n m : Int} {r : Int × Int} (h : corebankref02_Divide.f a b n m = some r) : ∃ k, corebankref02_DivideP.f k a b n m = some r := by
 unfold corebankref02_Divide.f at h
 split at h
 ·rename_i q
  obtain ⟨⟨⟨a0, a1⟩, b0, b1⟩, n0, n1⟩ := id q
  injection h with h
  subst h
  refine ⟨3, ?_⟩
  unfold corebankref02_DivideP.f divR
  by_cases hn : n < 1
  ·rw [if_pos hn, if_pos (.inl hn)]
   simp only [corebankref02_DivideP.j0]
   rw [if_pos trivial]
  ·rw [if_neg hn]
   by_cases hm : m < 1 ∨ 6 < m
   ·rw [if_pos (.inr hm)]
    have hval : corebankref02_Valid.f m = some false := by
     unfold corebankref02_Valid.f
     split
     ·congr 1; apply decide_eq_false; omega
     ·rfl
    rw [hval]
    simp only [Option.bind_some, corebankref02_DivideP.j0]
    rfl
   ·rw [if_neg (by omega)]
    have hval : corebankref02_Valid.f m = some true := by
     unfold corebankref02_Valid.f
     rw [if_pos (by omega)]
     congr 1; apply decide_eq_true; omega
    rw [hval]
    simp only [Option.bind_some, corebankref02_DivideP.j0]
    rw [if_neg (by decide)]
    unfold corebankref01_Div.f
    rw [if_pos q, if_neg hn]
    simp only [Option.bind_some]
    have hv : wv a b = a * 18446744073709551616 + b := rfl
    have hsv : decide (a < 0) = decide (wv a b / n < 0) := by
     apply decide_eq_decide.mpr
     constructor
     ·intro ha; exact Int.ediv_neg_of_neg_of_pos (by omega) (by omega)
     ·intro hq
      have : ¬ 0 ≤ wv a b := fun h0 => by have := Int.ediv_nonneg h0 (show 0 ≤ n by omega); omega
      omega
    obtain ⟨qr, qs⟩ := quo_range (v := wv a b) (n := n) (by omega) (by omega)
    have r1 := Int.emod_lt_of_pos (wv a b) (show 0 < n by omega)
    rw [hsv]
    generalize wv a b = v at *
    have hwq : wv (v / n / 18446744073709551616) (v / n % 18446744073709551616) = v / n := by unfold wv; omega
    have hWq : isW (v / n / 18446744073709551616) (v / n % 18446744073709551616) := ⟨by unfold inI; omega, by unfold inU; omega⟩
    have hodd : (Int.tmod (v / n % 18446744073709551616) 2 == 1) = decide (v / n % 2 = 1) := by
     rw [Int.tmod_eq_emod_of_nonneg (by omega), Bool.eq_iff_iff, beq_iff_eq, decide_eq_true_eq]; omega
    rw [hodd]
    unfold rq
    by_cases hr : v % n > 0
    ·rw [if_pos hr]
     have qs' := qs hr
     unfold corebankref02_up.f
     rw [if_pos ⟨by omega, hr, r1, by omega⟩]
     simp only [Option.bind_some, corebankref02_DivideP.j1]
     by_cases hu : upB (decide (v / n < 0)) (decide (v / n % 2 = 1)) (v % n) n m = true
     ·have hup : (if 0 < v % n ∧ upB (decide (v / n < 0)) (decide (v / n % 2 = 1)) (v % n) n m = true then (1 : Int) else 0) = 1 := if_pos ⟨hr, hu⟩
      rw [if_pos hu, hup]
      have hO : corebankref01_Of.f 1 = some (0, 1) := by decide +kernel
      rw [hO]
      simp only [Option.bind_some]
      have hw1 : wv 0 1 = 1 := by decide
      unfold corebankref01_Add.f
      rw [if_pos ⟨hWq, by decide⟩, hwq, hw1, if_pos (by unfold in128; omega)]
      simp only [Option.bind_some, corebankref02_DivideP.j2]
      have hws : wv ((v / n + 1) / 18446744073709551616) ((v / n + 1) % 18446744073709551616) = v / n + 1 := by unfold wv; omega
      have hWs : isW ((v / n + 1) / 18446744073709551616) ((v / n + 1) % 18446744073709551616) := ⟨by unfold inI; omega, by unfold inU; omega⟩
      unfold corebankref01_Int.f
      rw [if_pos hWs, hws]
      simp only [Option.bind_some]
      split <;> rfl
     ·have hup : (if 0 < v % n ∧ upB (decide (v / n < 0)) (decide (v / n % 2 = 1)) (v % n) n m = true then (1 : Int) else 0) = 0 := if_neg (fun hc => hu hc.2)
      rw [if_neg hu, hup, Int.add_zero]
      simp only [corebankref02_DivideP.j2]
      unfold corebankref01_Int.f
      rw [if_pos hWq, hwq]
      simp only [Option.bind_some]
      split <;> rfl
    ·have hup : (if 0 < v % n ∧ upB (decide (v / n < 0)) (decide (v / n % 2 = 1)) (v % n) n m = true then (1 : Int) else 0) = 0 := if_neg (fun hc => hr hc.1)
     rw [if_neg hr, hup, Int.add_zero]
     simp only [corebankref02_DivideP.j1, corebankref02_DivideP.j2]
     rw [if_neg (by decide)]
     unfold corebankref01_Int.f
     rw [if_pos hWq, hwq]
     simp only [Option.bind_some]
     split <;> rfl
 ·cases h
theorem corebankref02_Divide.calls (a0_0 a0_1 a1 a2 r1 r2 : Int) (w : World) (h : corebankref02_Divide.f a0_0 a0_1 a1 a2 = some (r1, r2)) :
  Calls Tryd.prog 46 #[.agg #[.int .i64 a0_0, .int .u64 a0_1], .int .i64 a1, .int .i64 a2] w fun e w' => e = .returned (.tuple #[.int .i64 r1, .int .i64 r2]) ∧ Below w.heap.size w w' := by
 obtain ⟨k, h⟩ := corebankref02_Divide.eq h
 exact corebankref02_DivideP.calls k a0_0 a0_1 a1 a2 r1 r2 w h
mutual
def corebankref01_timesP.l0 : Nat → Int → Bool → Int → Int → Int → Int → Int → Option (Int × Int × Bool)
 | 0, _, _, _, _, _, _, _ => none
 | k + 1, x1, x7, x8, x375000, x375001, x377000, x377001 => if x8 < 64 then ((corebankref01_plus.f x377000 x377001 x377000 x377001).bind fun bt377 => (if x7 = true then (corebankref01_timesP.j1 k x1 bt377.2.2 x8 x375000 x375001 bt377.1 bt377.2.1) else (corebankref01_timesP.j1 k x1 false x8 x375000 x375001 bt377.1 bt377.2.1))) else (some (x377000, x377001, x7))
def corebankref01_timesP.j1 : Nat → Int → Bool → Int → Int → Int → Int → Int → Option (Int × Int × Bool)
 | 0, _, _, _, _, _, _, _ => none
 | k + 1, x1, x7, x8, x375000, x375001, x377000, x377001 => if (Go.bits .and .u64 x1 9223372036854775808) = 0 then (corebankref01_timesP.l0 k (IntKind.u64.wrap (x1 * 2)) x7 (wrap64 (x8 + 1)) x375000 x375001 x377000 x377001) else ((corebankref01_plus.f x377000 x377001 x375000 x375001).bind fun bt381 => (if x7 = true then (corebankref01_timesP.l0 k (IntKind.u64.wrap (x1 * 2)) bt381.2.2 (wrap64 (x8 + 1)) x375000 x375001 bt381.1 bt381.2.1) else (corebankref01_timesP.l0 k (IntKind.u64.wrap (x1 * 2)) false (wrap64 (x8 + 1)) x375000 x375001 bt381.1 bt381.2.1)))
end
def corebankref01_timesP.f (k : Nat) (a0_0 a0_1 a1 : Int) : Option (Int × Int × Bool) := corebankref01_timesP.l0 k a1 true 0 a0_0 a0_1 0 0
theorem corebankref01_timesP.mono_l : ∀ k, (∀ y0 y1 y2 y3 y4 y5 y6, LeO (corebankref01_timesP.l0 k y0 y1 y2 y3 y4 y5 y6) (corebankref01_timesP.l0 (k + 1) y0 y1 y2 y3 y4 y5 y6)) ∧ (∀ y0 y1 y2 y3 y4 y5 y6, LeO (corebankref01_timesP.j1 k y0 y1 y2 y3 y4 y5 y6) (corebankref01_timesP.j1 (k + 1) y0 y1 y2 y3 y4 y5 y6))
 | 0 => ⟨fun _ _ _ _ _ _ _ r h => by simp [corebankref01_timesP.l0] at h, fun _ _ _ _ _ _ _ r h => by simp [corebankref01_timesP.j1] at h⟩
 | k + 1 => by
  obtain ⟨ih0, ih1⟩ := corebankref01_timesP.mono_l k
  refine ⟨?_, ?_⟩
  ·intro y0 y1 y2 y3 y4 y5 y6
   unfold corebankref01_timesP.l0
   repeat' first
   | (with_reducible exact ih0 _ _ _ _ _ _ _)
   | (with_reducible exact ih1 _ _ _ _ _ _ _)
   | (with_reducible exact LeO.refl _)
   | (with_reducible exact LeO.none _)
   | (with_reducible refine LeO.ite ?_ ?_)
   | (with_reducible refine LeO.bind ?_ (fun _ => ?_))
   | exact ih0 _ _ _ _ _ _ _
   | exact ih1 _ _ _ _ _ _ _
   | exact LeO.none _
   | refine LeO.ite ?_ ?_
   | refine LeO.bind ?_ (fun _ => ?_)
  ·intro y0 y1 y2 y3 y4 y5 y6
   unfold corebankref01_timesP.j1
   repeat' first
   | (with_reducible exact ih0 _ _ _ _ _ _ _)
   | (with_reducible exact ih1 _ _ _ _ _ _ _)
   | (with_reducible exact LeO.refl _)
   | (with_reducible exact LeO.none _)
   | (with_reducible refine LeO.ite ?_ ?_)
   | (with_reducible refine LeO.bind ?_ (fun _ => ?_))
   | exact ih0 _ _ _ _ _ _ _
   | exact ih1 _ _ _ _ _ _ _
   | exact LeO.none _
   | refine LeO.ite ?_ ?_
   | refine LeO.bind ?_ (fun _ => ?_)
theorem corebankref01_timesP.mono : ∀ a0 a1 a2 k, LeO (corebankref01_timesP.f k a0 a1 a2) (corebankref01_timesP.f (k + 1) a0 a1 a2) := by
 intro a0 a1 a2 k
 obtain ⟨ih0, ih1⟩ := corebankref01_timesP.mono_l k
 unfold corebankref01_timesP.f
 repeat' first
   | (with_reducible exact ih0 _ _ _ _ _ _ _)
   | (with_reducible exact ih1 _ _ _ _ _ _ _)
   | (with_reducible exact LeO.refl _)
   | (with_reducible exact LeO.none _)
   | (with_reducible refine LeO.ite ?_ ?_)
   | (with_reducible refine LeO.bind ?_ (fun _ => ?_))
   | exact ih0 _ _ _ _ _ _ _
   | exact ih1 _ _ _ _ _ _ _
   | exact LeO.none _
   | refine LeO.ite ?_ ?_
   | refine LeO.bind ?_ (fun _ => ?_)
set_option maxHeartbeats 8000000 in
set_option maxRecDepth 100000 in
theorem corebankref01_timesP.calls (k : Nat) (a0_0 a0_1 a1 r1 r2 : Int) (r3 : Bool) (w : World) (h : corebankref01_timesP.f k a0_0 a0_1 a1 = some (r1, r2, r3)) :
  Calls Tryd.prog 75 #[.agg #[.int .u64 a0_0, .int .u64 a0_1], .int .u64 a1] w fun e w' => e = .returned (.tuple #[.agg #[.int .u64 r1, .int .u64 r2], .bool r3]) ∧ Below w.heap.size w w' := by
 have hu96 := Tryd.underlying96
 have HB := Aside0.mk (Below.refl w.heap.size w)
 have H : (corebankref01_timesP.l0 k a1 true 0 a0_0 a0_1 0 0) = some (r1, r2, r3) := h
 clear h
 have H' := Aside0.mk H
 clear H
 go_enter Tryd.func75, Tryd.ntmps75
 go_wp2_with (first | ((with_reducible refine gate_dst (N := 2) rfl ?_); refine be_ (N := 2) (cs := #[.int .u64 a0_0, .int .u64 a0_1]) (t := 96) ?_; intro gb374 hg w3 hbox hb; have n0_ := Aside0.mk (below_step (qb_ HB.out) hb); have n1_ := Aside0.mk (hbox); have n2_ := Aside0.mk (bz_ hg (qb_ HB.out) : w.heap.size ≤ gb374); have n3_ := n2_; clear HB; have HB := n0_; have BK374 := n1_; have GW374 := n2_; have GE374 := n3_; clear n0_ n1_ n2_ n3_; clear hb hbox hg) | ((with_reducible refine gate_dst (N := 4) rfl ?_); refine be_ (N := 4) (cs := #[.int .u64 0, .int .u64 0]) (t := 96) ?_; intro gb375 hg w4 hbox hb; have n0_ := Aside0.mk (blk_below (qk_ BK374.out) hb); have n1_ := Aside0.mk (below_step (qb1_ GE374.out HB.out) hb); have n2_ := Aside0.mk (hbox); have n3_ := Aside0.mk (bz_ hg (qb1_ GE374.out HB.out) : w.heap.size ≤ gb375); have n4_ := n3_; have n5_ := Aside0.mk (nl_ hg (qk_ BK374.out) : gb374 ≠ gb375); have n6_ := Aside0.mk (ng_ hg (qk_ BK374.out) : gb375 ≠ gb374); clear BK374; clear HB; have BK374 := n0_; have HB := n1_; have BK375 := n2_; have GW375 := n3_; have GE375 := n4_; have NB374_375 := n5_; have NB375_374 := n6_; clear n0_ n1_ n2_ n3_ n4_ n5_ n6_; clear hb hbox hg) | ((with_reducible refine gate_dst (N := 6) rfl ?_); refine be_ (N := 6) (cs := #[.int .u64 0, .int .u64 0]) (t := 96) ?_; intro gb376 hg w5 hbox hb; have n0_ := Aside0.mk (blk_below (qk_ BK374.out) hb); have n1_ := Aside0.mk (blk_below (qk_ BK375.out) hb); have n2_ := Aside0.mk (below_step (qb2_ GE374.out GE375.out HB.out) hb); have n3_ := Aside0.mk (hbox); have n4_ := Aside0.mk (bz_ hg (qb2_ GE374.out GE375.out HB.out) : w.heap.size ≤ gb376); have n5_ := n4_; have n6_ := Aside0.mk (nl_ hg (qk_ BK374.out) : gb374 ≠ gb376); have n7_ := Aside0.mk (ng_ hg (qk_ BK374.out) : gb376 ≠ gb374); have n8_ := Aside0.mk (nl_ hg (qk_ BK375.out) : gb375 ≠ gb376); have n9_ := Aside0.mk (ng_ hg (qk_ BK375.out) : gb376 ≠ gb375); clear BK374; clear BK375; clear HB; have BK374 := n0_; have BK375 := n1_; have HB := n2_; have BK376 := n3_; have GW376 := n4_; have GE376 := n5_; have NB374_376 := n6_; have NB376_374 := n7_; have NB375_376 := n8_; have NB376_375 := n9_; clear n0_ n1_ n2_ n3_ n4_ n5_ n6_ n7_ n8_ n9_; clear hb hbox hg; have hnb6 := NB376_374.out; have hnc6 := NB374_376.out; have hnb7 := NB376_375.out; have hnc7 := NB375_376.out; obtain ⟨hcz8_0, hcz8_1, hfz8_0, hfz8_1⟩ := cz2_ BK376.out))
 go_loopg [1, 7, 8] k (fun kq v1 v7 v8 w' => ∃ (x1_1 : Int) (x7_1 : Bool) (x8_1 x377000_1 x377001_1 : Int), v1 = .int .u64 x1_1 ∧ v7 = .bool x7_1 ∧ v8 = .int .i64 x8_1 ∧ Aside0 (corebankref01_timesP.l0 kq x1_1 x7_1 x8_1 a0_0 a0_1 x377000_1 x377001_1 = some (r1, r2, r3)) ∧ Aside0 (kq ≤ k) ∧ Aside0 (w'.heap[gb374]? = some (.cells #[.int .u64 a0_0, .int .u64 a0_1] 96 (0, 0))) ∧ Aside0 (w'.heap[gb375]? = some (.cells #[.int .u64 0, .int .u64 0] 96 (0, 0))) ∧ Aside0 (w'.heap[gb376]? = some (.cells #[.int .u64 x377000_1, .int .u64 x377001_1] 96 (0, 0))) ∧ Aside0 (Below w.heap.size w w'))
 case atStart => exact ⟨(a1), (true), (0), (0), (0), qs_, qs_, qs_, H', ⟨Nat.le_refl _⟩, ⟨qff_ NB374_376.out NB374_376.out BK374.out⟩, ⟨qff_ NB375_376.out NB375_376.out BK375.out⟩, ⟨qpp_ #[.int .u64 0, .int .u64 0] 1 #[.int .u64 0, .int .u64 0] 0 BK376.out⟩, ⟨qb3_ GE374.out GE375.out GE376.out HB.out⟩⟩
 case round =>
  clear H'
  try clear p2
  try clear c6
  try clear c7
  try clear hcz8_0
  try clear hcz8_1
  try clear hfz8_0
  try clear hfz8_1
  obtain ⟨x1_1, x7_1, x8_1, x377000_1, x377001_1, rfl, rfl, rfl, HA, HK1, BK374, BK375, BK376, HB⟩ := hrel
  cases gk with
  | zero => exact absurd HA.out (by simp [corebankref01_timesP.l0])
  | succ k1 =>
   have H := HA.out
   clear HA
   simp only [corebankref01_timesP.l0] at H
   by_cases c9 : x8_1 < 64
   ·rw [if_pos c9] at H
    have c9b0 : decide (x8_1 < 64) = true := decide_eq_true c9
    clear c9
    replace H := Option.bind_eq_some_iff.mp H
    obtain ⟨⟨t377, t378, t379⟩, A100, H⟩ := H
    replace H : (if x7_1 = true then (corebankref01_timesP.j1 k1 x1_1 t379 x8_1 a0_0 a0_1 t377 t378) else (corebankref01_timesP.j1 k1 x1_1 false x8_1 a0_0 a0_1 t377 t378)) = some (r1, r2, r3) := H
    have A10 := Aside0.mk A100
    clear A100
    have HC11 := Aside0.mk H
    clear H
    have hnb12 := NB376_374.out
    have hnc12 := NB374_376.out
    have hnb13 := NB376_375.out
    have hnc13 := NB375_376.out
    obtain ⟨hcz14_0, hcz14_1, hfz14_0, hfz14_1⟩ := cz2_ BK376.out
    go_upto_region 8 with (first | ((with_reducible refine gate_callee (f := 72) rfl ?_); refine goesL_ (some 19) rfl rfl Tryd.func72 (by kernel_rfl) rfl #[.agg #[.int .u64 x377000_1, .int .u64 x377001_1], .agg #[.int .u64 x377000_1, .int .u64 x377001_1]] rfl ql_ ?_; (with_reducible refine (corebankref01_plus.calls x377000_1 x377001_1 x377000_1 x377001_1 t377 t378 t379 _ A10.out).mono ?_); rintro e w15 ⟨rfl, hb⟩; refine ⟨_, rfl, ?_⟩; have n0_ := Aside0.mk (blk_below (qk_ BK374.out) hb); have n1_ := Aside0.mk (blk_below (qk_ BK375.out) hb); have n2_ := Aside0.mk (blk_below (qk_ BK376.out) hb); have n3_ := Aside0.mk (below_step (qb3_ GE374.out GE375.out GE376.out HB.out) hb); clear BK374; clear BK375; clear BK376; clear HB; have BK374 := n0_; have BK375 := n1_; have BK376 := n2_; have HB := n3_; clear n0_ n1_ n2_ n3_; (try clear hb); (try clear hb2); (try clear hk); (try clear hi)) | ((with_reducible refine gate_dst (N := 9) rfl ?_); refine be_ (N := 9) (cs := #[.int .u64 0, .int .u64 0]) (t := 96) ?_; intro gb380 hg w16 hbox hb; have n0_ := Aside0.mk (blk_below (qk_ BK374.out) hb); have n1_ := Aside0.mk (blk_below (qk_ BK375.out) hb); have n2_ := Aside0.mk (blk_below (qk_ BK376.out) hb); have n3_ := Aside0.mk (below_step (qb3_ GE374.out GE375.out GE376.out HB.out) hb); have n4_ := Aside0.mk (hbox); have n5_ := Aside0.mk (bz_ hg (qb3_ GE374.out GE375.out GE376.out HB.out) : w.heap.size ≤ gb380); have n6_ := n5_; have n7_ := Aside0.mk (nl_ hg (qk_ BK374.out) : gb374 ≠ gb380); have n8_ := Aside0.mk (ng_ hg (qk_ BK374.out) : gb380 ≠ gb374); have n9_ := Aside0.mk (nl_ hg (qk_ BK375.out) : gb375 ≠ gb380); have n10_ := Aside0.mk (ng_ hg (qk_ BK375.out) : gb380 ≠ gb375); have n11_ := Aside0.mk (nl_ hg (qk_ BK376.out) : gb376 ≠ gb380); have n12_ := Aside0.mk (ng_ hg (qk_ BK376.out) : gb380 ≠ gb376); clear BK374; clear BK375; clear BK376; clear HB; have BK374 := n0_; have BK375 := n1_; have BK376 := n2_; have HB := n3_; have BK380 := n4_; have GW380 := n5_; have GE380 := n6_; have NB374_380 := n7_; have NB380_374 := n8_; have NB375_380 := n9_; have NB380_375 := n10_; have NB376_380 := n11_; have NB380_376 := n12_; clear n0_ n1_ n2_ n3_ n4_ n5_ n6_ n7_ n8_ n9_ n10_ n11_ n12_; clear hb hbox hg; have hnb17 := NB380_374.out; have hnc17 := NB374_380.out; have hnb18 := NB380_375.out; have hnc18 := NB375_380.out; have hnb19 := NB380_376.out; have hnc19 := NB376_380.out; obtain ⟨hcz20_0, hcz20_1, hfz20_0, hfz20_1⟩ := cz2_ BK380.out; obtain ⟨hcz21_0, hcz21_1, hfz21_0, hfz21_1⟩ := cz2_ BK376.out))
    (try simp only [Act.put, List.setIfInBounds_toArray, List.set_cons_zero, List.set_cons_succ])
    go_cut [7] (fun v7 wc => ∃ (kq : Nat) (x7_10 : Bool), v7 = .bool x7_10 ∧ Aside0 (corebankref01_timesP.j1 kq x1_1 x7_10 x8_1 a0_0 a0_1 t377 t378 = some (r1, r2, r3)) ∧ Aside0 (kq ≤ k1) ∧ Aside0 (wc.heap[gb374]? = some (.cells #[.int .u64 a0_0, .int .u64 a0_1] 96 (0, 0))) ∧ Aside0 (wc.heap[gb375]? = some (.cells #[.int .u64 0, .int .u64 0] 96 (0, 0))) ∧ Aside0 (wc.heap[gb376]? = some (.cells #[.int .u64 t377, .int .u64 t378] 96 (0, 0))) ∧ Aside0 (wc.heap[gb380]? = some (.cells #[.int .u64 t377, .int .u64 t378] 96 (0, 0))) ∧ Aside0 (Below w.heap.size w wc))
    case first =>
     have H := HC11.out
     clear HC11
     by_cases c22 : x7_1 = true
     ·subst c22
      have H1 : (corebankref01_timesP.j1 k1 x1_1 t379 x8_1 a0_0 a0_1 t377 t378) = some (r1, r2, r3) := by rw [if_pos rfl] at H; exact H
      clear H
      have H := H1
      clear H1
      have H' := Aside0.mk H
      clear H
      go_wp2
      go_meet
      case rel => exact ⟨_, (t379), qs_, H', ⟨by have := HK1.out; first | omega | exact Nat.le_refl _⟩, ⟨qffff_ NB374_376.out NB374_376.out NB374_380.out NB374_380.out BK374.out⟩, ⟨qffff_ NB375_376.out NB375_376.out NB375_380.out NB375_380.out BK375.out⟩, ⟨qppff_ #[.int .u64 t377, .int .u64 x377001_1] 1 #[.int .u64 x377000_1, .int .u64 x377001_1] 0 NB376_380.out NB376_380.out BK376.out⟩, ⟨qffpp_ NB380_376.out NB380_376.out #[.int .u64 t377, .int .u64 0] 1 #[.int .u64 0, .int .u64 0] 0 BK380.out⟩, ⟨qb4_ GE374.out GE375.out GE376.out GE380.out HB.out⟩⟩
     ·replace c22 := Bool.eq_false_iff.mpr c22
      subst c22
      have H1 : (corebankref01_timesP.j1 k1 x1_1 false x8_1 a0_0 a0_1 t377 t378) = some (r1, r2, r3) := by rw [if_neg (show ¬ (false = true) by decide)] at H; exact H
      clear H
      have H := H1
      clear H1
      have H' := Aside0.mk H
      clear H
      go_wp2
      go_meet
      case rel => exact ⟨_, (false), qs_, H', ⟨by have := HK1.out; first | omega | exact Nat.le_refl _⟩, ⟨qffff_ NB374_376.out NB374_376.out NB374_380.out NB374_380.out BK374.out⟩, ⟨qffff_ NB375_376.out NB375_376.out NB375_380.out NB375_380.out BK375.out⟩, ⟨qppff_ #[.int .u64 t377, .int .u64 x377001_1] 1 #[.int .u64 x377000_1, .int .u64 x377001_1] 0 NB376_380.out NB376_380.out BK376.out⟩, ⟨qffpp_ NB380_376.out NB380_376.out #[.int .u64 t377, .int .u64 0] 1 #[.int .u64 0, .int .u64 0] 0 BK380.out⟩, ⟨qb4_ GE374.out GE375.out GE376.out GE380.out HB.out⟩⟩
    case rest =>
     clear HC11
     try clear c1
     try clear c2
     try clear p2
     try clear c6
     try clear c7
     try clear c9
     try clear c9b0
     try clear c12
     try clear c13
     try clear c17
     try clear c18
     try clear c19
     try clear c22
     try clear hcz14_0
     try clear hcz14_1
     try clear hcz20_0
     try clear hcz20_1
     try clear hcz21_0
     try clear hcz21_1
     try clear hcz8_0
     try clear hcz8_1
     try clear hfz14_0
     try clear hfz14_1
     try clear hfz20_0
     try clear hfz20_1
     try clear hfz21_0
     try clear hfz21_1
     try clear hfz8_0
     try clear hfz8_1
     try clear p2
     obtain ⟨kq, x7_10, rfl, HA, HJ10, BK374, BK375, BK376, BK380, HB⟩ := hcut
     cases kq with
     | zero => exact absurd HA.out (by simp [corebankref01_timesP.j1])
     | succ kj10 =>
      have H := HA.out
      clear HA
      simp only [corebankref01_timesP.j1] at H
      by_cases c23 : (Go.bits .and .u64 x1_1 9223372036854775808) = 0
      ·rw [if_pos c23] at H
       have c23b0 : ((Go.bits .and .u64 x1_1 9223372036854775808) == 0) = true := beq_iff_eq.mpr c23
       have c23b1 : ((Go.bits .and .u64 x1_1 9223372036854775808) != 0) = false := bne_eq_false_iff_eq.mpr c23
       clear c23
       have H' := Aside0.mk H
       clear H
       go_wp2
       go_roundg kj10
       case measure => have := HK1.out; have := HJ10.out; omega
       case rel => exact ⟨(IntKind.u64.wrap (x1_1 * 2)), (x7_10), (wrap64 (x8_1 + 1)), (t377), (t378), qs_, qs_, qs_, H', ⟨by have := HK1.out; have := HJ10.out; omega⟩, ⟨qk_ BK374.out⟩, ⟨qk_ BK375.out⟩, ⟨qk_ BK376.out⟩, ⟨qb4_ GE374.out GE375.out GE376.out GE380.out HB.out⟩⟩
      ·rw [if_neg c23] at H
       have c23b0 : ((Go.bits .and .u64 x1_1 9223372036854775808) == 0) = false := beq_eq_false_iff_ne.mpr c23
       have c23b1 : ((Go.bits .and .u64 x1_1 9223372036854775808) != 0) = true := bne_iff_ne.mpr c23
       replace H := Option.bind_eq_some_iff.mp H
       obtain ⟨⟨t381, t382, t383⟩, A240, H⟩ := H
       replace H : (if x7_10 = true then (corebankref01_timesP.l0 kj10 (IntKind.u64.wrap (x1_1 * 2)) t383 (wrap64 (x8_1 + 1)) a0_0 a0_1 t381 t382) else (corebankref01_timesP.l0 kj10 (IntKind.u64.wrap (x1_1 * 2)) false (wrap64 (x8_1 + 1)) a0_0 a0_1 t381 t382)) = some (r1, r2, r3) := H
       have A24 := Aside0.mk A240
       clear A240
       by_cases c25 : x7_10 = true
       ·subst c25
        have H1 : (corebankref01_timesP.l0 kj10 (IntKind.u64.wrap (x1_1 * 2)) t383 (wrap64 (x8_1 + 1)) a0_0 a0_1 t381 t382) = some (r1, r2, r3) := by rw [if_pos rfl] at H; exact H
        clear H
        have H := H1
        clear H1
        have H' := Aside0.mk H
        clear H
        have hnb26 := NB376_374.out
        have hnc26 := NB374_376.out
        have hnb27 := NB376_375.out
        have hnc27 := NB375_376.out
        have hnb28 := NB376_380.out
        have hnc28 := NB380_376.out
        obtain ⟨hcz29_0, hcz29_1, hfz29_0, hfz29_1⟩ := cz2_ BK376.out
        have hnb30 := NB374_375.out
        have hnc30 := NB375_374.out
        have hnb31 := NB374_380.out
        have hnc31 := NB380_374.out
        obtain ⟨hcz32_0, hcz32_1, hfz32_0, hfz32_1⟩ := cz2_ BK374.out
        go_wp2_with (first | ((with_reducible refine gate_callee (f := 72) rfl ?_); refine goesL_ (some 33) rfl rfl Tryd.func72 (by kernel_rfl) rfl #[.agg #[.int .u64 t377, .int .u64 t378], .agg #[.int .u64 a0_0, .int .u64 a0_1]] rfl ql_ ?_; (with_reducible refine (corebankref01_plus.calls t377 t378 a0_0 a0_1 t381 t382 t383 _ A24.out).mono ?_); rintro e w33 ⟨rfl, hb⟩; refine ⟨_, rfl, ?_⟩; have n0_ := Aside0.mk (blk_below (qk_ BK374.out) hb); have n1_ := Aside0.mk (blk_below (qk_ BK375.out) hb); have n2_ := Aside0.mk (blk_below (qk_ BK376.out) hb); have n3_ := Aside0.mk (blk_below (qk_ BK380.out) hb); have n4_ := Aside0.mk (below_step (qb4_ GE374.out GE375.out GE376.out GE380.out HB.out) hb); clear BK374; clear BK375; clear BK376; clear BK380; clear HB; have BK374 := n0_; have BK375 := n1_; have BK376 := n2_; have BK380 := n3_; have HB := n4_; clear n0_ n1_ n2_ n3_ n4_; (try clear hb); (try clear hb2); (try clear hk); (try clear hi); have hnb34 := NB380_375.out; have hnc34 := NB375_380.out; obtain ⟨hcz35_0, hcz35_1, hfz35_0, hfz35_1⟩ := cz2_ BK380.out; obtain ⟨hcz36_0, hcz36_1, hfz36_0, hfz36_1⟩ := cz2_ BK376.out))
        go_roundg kj10
        case measure => have := HK1.out; have := HJ10.out; omega
        case rel => exact ⟨(IntKind.u64.wrap (x1_1 * 2)), (t383), (wrap64 (x8_1 + 1)), (t381), (t382), qs_, qs_, qs_, H', ⟨by have := HK1.out; have := HJ10.out; omega⟩, ⟨qffff_ NB374_376.out NB374_376.out NB374_380.out NB374_380.out BK374.out⟩, ⟨qffff_ NB375_376.out NB375_376.out NB375_380.out NB375_380.out BK375.out⟩, ⟨qppff_ #[.int .u64 t381, .int .u64 t378] 1 #[.int .u64 t377, .int .u64 t378] 0 NB376_380.out NB376_380.out BK376.out⟩, ⟨qb4_ GE374.out GE375.out GE376.out GE380.out HB.out⟩⟩
       ·replace c25 := Bool.eq_false_iff.mpr c25
        subst c25
        have H1 : (corebankref01_timesP.l0 kj10 (IntKind.u64.wrap (x1_1 * 2)) false (wrap64 (x8_1 + 1)) a0_0 a0_1 t381 t382) = some (r1, r2, r3) := by rw [if_neg (show ¬ (false = true) by decide)] at H; exact H
        clear H
        have H := H1
        clear H1
        have H' := Aside0.mk H
        clear H
        have hnb37 := NB376_374.out
        have hnc37 := NB374_376.out
        have hnb38 := NB376_375.out
        have hnc38 := NB375_376.out
        have hnb39 := NB376_380.out
        have hnc39 := NB380_376.out
        obtain ⟨hcz40_0, hcz40_1, hfz40_0, hfz40_1⟩ := cz2_ BK376.out
        have hnb41 := NB374_375.out
        have hnc41 := NB375_374.out
        have hnb42 := NB374_380.out
        have hnc42 := NB380_374.out
        obtain ⟨hcz43_0, hcz43_1, hfz43_0, hfz43_1⟩ := cz2_ BK374.out
        go_wp2_with (first | ((with_reducible refine gate_callee (f := 72) rfl ?_); refine goesL_ (some 33) rfl rfl Tryd.func72 (by kernel_rfl) rfl #[.agg #[.int .u64 t377, .int .u64 t378], .agg #[.int .u64 a0_0, .int .u64 a0_1]] rfl ql_ ?_; (with_reducible refine (corebankref01_plus.calls t377 t378 a0_0 a0_1 t381 t382 t383 _ A24.out).mono ?_); rintro e w44 ⟨rfl, hb⟩; refine ⟨_, rfl, ?_⟩; have n0_ := Aside0.mk (blk_below (qk_ BK374.out) hb); have n1_ := Aside0.mk (blk_below (qk_ BK375.out) hb); have n2_ := Aside0.mk (blk_below (qk_ BK376.out) hb); have n3_ := Aside0.mk (blk_below (qk_ BK380.out) hb); have n4_ := Aside0.mk (below_step (qb4_ GE374.out GE375.out GE376.out GE380.out HB.out) hb); clear BK374; clear BK375; clear BK376; clear BK380; clear HB; have BK374 := n0_; have BK375 := n1_; have BK376 := n2_; have BK380 := n3_; have HB := n4_; clear n0_ n1_ n2_ n3_ n4_; (try clear hb); (try clear hb2); (try clear hk); (try clear hi); have hnb45 := NB380_375.out; have hnc45 := NB375_380.out; obtain ⟨hcz46_0, hcz46_1, hfz46_0, hfz46_1⟩ := cz2_ BK380.out; obtain ⟨hcz47_0, hcz47_1, hfz47_0, hfz47_1⟩ := cz2_ BK376.out))
        go_roundg kj10
        case measure => have := HK1.out; have := HJ10.out; omega
        case rel => exact ⟨(IntKind.u64.wrap (x1_1 * 2)), (false), (wrap64 (x8_1 + 1)), (t381), (t382), qs_, qs_, qs_, H', ⟨by have := HK1.out; have := HJ10.out; omega⟩, ⟨qffff_ NB374_376.out NB374_376.out NB374_380.out NB374_380.out BK374.out⟩, ⟨qffff_ NB375_376.out NB375_376.out NB375_380.out NB375_380.out BK375.out⟩, ⟨qppff_ #[.int .u64 t381, .int .u64 t378] 1 #[.int .u64 t377, .int .u64 t378] 0 NB376_380.out NB376_380.out BK376.out⟩, ⟨qb4_ GE374.out GE375.out GE376.out GE380.out HB.out⟩⟩
   ·rw [if_neg c9] at H
    have c9b0 : decide (x8_1 < 64) = false := decide_eq_false c9
    clear c9
    simp only [Option.some.injEq, Prod.mk.injEq] at H
    obtain ⟨rfl, rfl, rfl⟩ := H
    have hnb48 := NB376_374.out
    have hnc48 := NB374_376.out
    have hnb49 := NB376_375.out
    have hnc49 := NB375_376.out
    obtain ⟨hcz50_0, hcz50_1, hfz50_0, hfz50_1⟩ := cz2_ BK376.out
    have hnb51 := NB375_374.out
    have hnc51 := NB374_375.out
    obtain ⟨hcz52_0, hcz52_1, hfz52_0, hfz52_1⟩ := cz2_ BK375.out
    go_wp2
    refine bodyPost_ret (results_ct rfl _ _ gb375 96 #[.int .u64 x377000_1, .int .u64 x377001_1] (0, 0) _ rfl (qpp_ #[.int .u64 x377000_1, .int .u64 0] 1 #[.int .u64 0, .int .u64 0] 0 BK375.out) Tryd.underlying96 rfl (by kernel_rfl)) rfl ?_
    exact ⟨qe_, qb3_ GE374.out GE375.out GE376.out HB.out⟩
end Go.Proofs.YtjkjiibhdpcpkaaDoor.PS
