import Derived.Test.YtogcdcjbleafdaaDoorQRm2
import Derived.Test.YtogcdcjbleafdaaDoorQRm5
import Derived.Test.YtogcdcjbleafdaaDoorQRm6
import Derived.Test.YtogcdcjbleafdaaDoorQRm8
section
namespace Go.Proofs.YtogcdcjbleafdaaDoor.PS
open Go.RowKit Go.Proofs.YtogcdcjbleafdaaDoorW.PrintWords Go.Proofs.YtogcdcjbleafdaaDoorW.PrintLast Go.Proofs.YtogcdcjbleafdaaDoorW.PrintMore
attribute [local go_sem] max2_int min2_int max_two min_two
set_option linter.unusedVariables false
set_option linter.unusedSimpArgs false
attribute [local go_sem high] eqA87
mutual
def wide_DivP.j0 : Nat → Int → Int → Bool → Int → Int → Int → Int → Option (Int × Int × Int × Int)
 | 0, _, _, _, _, _, _, _ => none
 | k + 1, x1, x8, x28, x225000, x225001, x232000, x232001 => if x28 = true then ((wide_size_times.f x232000 x232001 1 1).bind fun bt232 => (wide_DivP.j1 k (IntKind.u64.wrap ((IntKind.u64.wrap (x1)) - x8)) x225000 x225001 bt232.1 bt232.2.1)) else (wide_DivP.j1 k x8 x225000 x225001 x232000 x232001)
def wide_DivP.j1 : Nat → Int → Int → Int → Int → Int → Option (Int × Int × Int × Int)
 | 0, _, _, _, _, _ => none
 | k + 1, x8, x225000, x225001, x232000, x232001 => if x225000 < 0 then ((wide_size_signed.f x232000 x232001 (!(x232000 == 0) || (!(x232001 == 0)))).bind fun bt235 => (some (bt235.1, bt235.2.1, wrap64 (x8), 0))) else ((wide_size_signed.f x232000 x232001 false).bind fun bt239 => (some (bt239.1, bt239.2.1, wrap64 (x8), 0)))
end
def wide_DivP.f (k : Nat) (a0_0 a0_1 a1 : Int) : Option (Int × Int × Int × Int) := if a1 < 1 then (some (0, 0, 0, 1)) else ((wide_absolute.f a0_0 a0_1).bind fun bt226 => ((wide_size_divide.f bt226.1 bt226.2 (IntKind.u64.wrap (a1))).bind fun bt228 => (if a0_0 < 0 then (wide_DivP.j0 k a1 bt228.2.2 (decide (bt228.2.2 > 0)) a0_0 a0_1 bt228.1 bt228.2.1) else (wide_DivP.j0 k a1 bt228.2.2 false a0_0 a0_1 bt228.1 bt228.2.1))))
def wide_DivP.T7 : Bool × List (List Nat × List Nat) := (true, [([], []), ([], []), ([1], [1]), ([2], [2]), ([3], [3]), ([4], [4]), ([4], [4]), ([5, 6, 4], [4, 5, 6]), ([4, 7], [4, 7]), ([0, 8, 4], [0, 8]), ([9], [9]), ([10], [10]), ([10], [10]), ([], []), ([13, 11, 9, 0, 1, 2, 3, 4, 5, 6, 7, 8, 9, 10, 11, 13], [11, 13]), ([12, 14, 0, 1, 2, 3, 4, 5, 6, 7, 8, 9, 10, 11, 12, 13, 14], [12])])
def wide_DivP.B7 : List Nat := [0, 0, 2, 6, 14, 30, 30, 126, 254, 511, 1023, 2047, 2047, 0, 12287, 32767]
theorem wide_DivP.tab7 : rtab .any (opsOf Tryd.f97 7) = wide_DivP.T7 := by kernel_rfl
theorem wide_DivP.bits7 : waitsOk wide_DivP.T7.2 wide_DivP.B7 = true := by kernel_rfl
set_option maxHeartbeats 8000000 in
set_option maxRecDepth 100000 in
theorem wide_DivP.calls (k : Nat) (a0_0 a0_1 a1 r1 r2 r3 r4 : Int) (w : World) (h : wide_DivP.f k a0_0 a0_1 a1 = some (r1, r2, r3, r4)) :
  Calls Tryd.prog 97 #[.agg #[.int .i64 a0_0, .int .u64 a0_1], .int .i64 a1] w fun e w' => e = .returned (.tuple #[.agg #[.int .i64 r1, .int .u64 r2], .int .i64 r3, .int .i64 r4]) ∧ Below w.heap.size w w' := by
 have hu32 := Tryd.underlying32
 have hu87 := Tryd.underlying87
 have HB := am_ (Below.refl w.heap.size w)
 have H := h
 clear h
 unfold wide_DivP.f at H
 by_cases c3 : a1 < 1
 ·rw [if_pos c3] at H
  have c3b0 : decide (a1 < 1) = true := decide_eq_true c3
  clear c3
  simp only [Option.some.injEq, Prod.mk.injEq] at H
  obtain ⟨rfl, rfl, rfl, rfl⟩ := H
  go_enter Tryd.func97, Tryd.ntmps97
  go_wp2_with (first | ((with_reducible refine gate_dst (N := 2) rfl ?_); refine be_ (N := 2) (cs := #[.int .i64 a0_0, .int .u64 a0_1]) (t := 32) ?_; intro gb224 hg w4 hbox hb; have BK224 := am_ (hbox); have GE224 := am_ (bz_ hg (qb_ HB.out) : w.heap.size ≤ gb224); replace HB := am_ (below_step (qb_ HB.out) hb); clear hb hbox hg) | ((with_reducible refine gate_dst (N := 4) rfl ?_); refine be_ (N := 4) (cs := #[.int .i64 0, .int .u64 0]) (t := 32) ?_; intro gb225 hg w5 hbox hb; have BK225 := am_ (hbox); have GE225 := am_ (bz_ hg (qb1_ GE224.out HB.out) : w.heap.size ≤ gb225); replace HB := am_ (below_step (qb1_ GE224.out HB.out) hb); have NB224_225 := am_ (nl_ hg (qk_ BK224.out) : gb224 ≠ gb225); have NB225_224 := am_ (ng_ hg (qk_ BK224.out) : gb225 ≠ gb224); replace BK224 := am_ (blk_below (qk_ BK224.out) hb); clear hb hbox hg; have hnb6 := NB225_224.out; have hnc6 := NB224_225.out; obtain ⟨Z7_0, Z7_1, Y7_0, Y7_1⟩ := cz2_ BK225.out))
  refine bodyPost_ret (results_ctt rfl _ _ gb225 32 #[.int .i64 0, .int .u64 0] (0, 0) _ rfl (qpp_ #[.int .i64 0, .int .u64 0] 1 #[.int .i64 0, .int .u64 0] 0 BK225.out) Tryd.underlying32 rfl (by kernel_rfl)) rfl ?_
  exact ⟨qe_, qb2_ GE224.out GE225.out HB.out⟩
 ·rw [if_neg c3] at H
  have c3b0 : decide (a1 < 1) = false := decide_eq_false c3
  clear c3
  replace H := Option.bind_eq_some_iff.mp H
  obtain ⟨⟨t226, t227⟩, A80, H⟩ := H
  (try dsimp only at H)
  have A8 := am_ A80
  clear A80
  replace H := Option.bind_eq_some_iff.mp H
  obtain ⟨⟨t228, t229, t230⟩, A90, H⟩ := H
  (try dsimp only at H)
  have A9 := am_ A90
  clear A90
  have HC10 := am_ H
  clear H
  go_enter Tryd.func97, Tryd.ntmps97
  go_upto_region 4 with (first | ((with_reducible refine gate_dst (N := 2) rfl ?_); refine be_ (N := 2) (cs := #[.int .i64 a0_0, .int .u64 a0_1]) (t := 32) ?_; intro gb224 hg w11 hbox hb; have BK224 := am_ (hbox); have GE224 := am_ (bz_ hg (qb_ HB.out) : w.heap.size ≤ gb224); replace HB := am_ (below_step (qb_ HB.out) hb); clear hb hbox hg) | ((with_reducible refine gate_dst (N := 4) rfl ?_); refine be_ (N := 4) (cs := #[.int .i64 0, .int .u64 0]) (t := 32) ?_; intro gb225 hg w12 hbox hb; have BK225 := am_ (hbox); have GE225 := am_ (bz_ hg (qb1_ GE224.out HB.out) : w.heap.size ≤ gb225); replace HB := am_ (below_step (qb1_ GE224.out HB.out) hb); have NB224_225 := am_ (nl_ hg (qk_ BK224.out) : gb224 ≠ gb225); have NB225_224 := am_ (ng_ hg (qk_ BK224.out) : gb225 ≠ gb224); replace BK224 := am_ (blk_below (qk_ BK224.out) hb); clear hb hbox hg; have hnb13 := NB224_225.out; have hnc13 := NB225_224.out; obtain ⟨Z14_0, Z14_1, Y14_0, Y14_1⟩ := cz2_ BK224.out) | ((with_reducible refine gate_callee (f := 56) rfl ?_); refine goesL_ (some 16) rfl rfl Tryd.func56 (by kernel_rfl) rfl #[.agg #[.int .i64 a0_0, .int .u64 a0_1]] rfl ql_ ?_; (with_reducible refine (wide_absolute.calls a0_0 a0_1 t226 t227 _ A8.out).mono ?_); rintro e w15 ⟨rfl, hb⟩; refine ⟨_, rfl, ?_⟩; replace BK224 := am_ (blk_below (qk_ BK224.out) hb); replace BK225 := am_ (blk_below (qk_ BK225.out) hb); replace HB := am_ (below_step (qb2_ GE224.out GE225.out HB.out) hb); (try clear hb)) | ((with_reducible refine gate_callee (f := 110) rfl ?_); refine goesL_ (some 19) rfl rfl Tryd.func110 (by kernel_rfl) rfl #[.agg #[.int .u64 t226, .int .u64 t227], .int .u64 (IntKind.u64.wrap (a1))] rfl ql_ ?_; (with_reducible refine (wide_size_divide.calls t226 t227 (IntKind.u64.wrap (a1)) t228 t229 t230 _ A9.out).mono ?_); rintro e w16 ⟨rfl, hb⟩; refine ⟨_, rfl, ?_⟩; replace BK224 := am_ (blk_below (qk_ BK224.out) hb); replace BK225 := am_ (blk_below (qk_ BK225.out) hb); replace HB := am_ (below_step (qb2_ GE224.out GE225.out HB.out) hb); (try clear hb)) | ((with_reducible refine gate_dst (N := 7) rfl ?_); refine be_ (N := 7) (cs := #[.int .u64 0, .int .u64 0]) (t := 87) ?_; intro gb231 hg w17 hbox hb; have BK231 := am_ (hbox); have GE231 := am_ (bz_ hg (qb2_ GE224.out GE225.out HB.out) : w.heap.size ≤ gb231); replace HB := am_ (below_step (qb2_ GE224.out GE225.out HB.out) hb); have NB224_231 := am_ (nl_ hg (qk_ BK224.out) : gb224 ≠ gb231); have NB231_224 := am_ (ng_ hg (qk_ BK224.out) : gb231 ≠ gb224); replace BK224 := am_ (blk_below (qk_ BK224.out) hb); have NB225_231 := am_ (nl_ hg (qk_ BK225.out) : gb225 ≠ gb231); have NB231_225 := am_ (ng_ hg (qk_ BK225.out) : gb231 ≠ gb225); replace BK225 := am_ (blk_below (qk_ BK225.out) hb); clear hb hbox hg; have hnb18 := NB231_224.out; have hnc18 := NB224_231.out; have hnb19 := NB231_225.out; have hnc19 := NB225_231.out; obtain ⟨Z20_0, Z20_1, Y20_0, Y20_1⟩ := cz2_ BK231.out))
  (try simp only [Act.put, List.setIfInBounds_toArray, List.set_cons_zero, List.set_cons_succ])
  go_cut [28] (fun v28 wc => ∃ (kq : Nat) (x28_9 : Bool), v28 = .bool x28_9 ∧ Aside0 (wide_DivP.j0 kq a1 t230 x28_9 a0_0 a0_1 t228 t229 = some (r1, r2, r3, r4)) ∧ Aside0 (kq ≤ k) ∧ Aside0 (wc.heap[gb224]? = some (.cells #[.int .i64 a0_0, .int .u64 a0_1] 32 (0, 0))) ∧ Aside0 (wc.heap[gb225]? = some (.cells #[.int .i64 0, .int .u64 0] 32 (0, 0))) ∧ Aside0 (wc.heap[gb231]? = some (.cells #[.int .u64 t228, .int .u64 t229] 87 (0, 0))) ∧ Aside0 (Below w.heap.size w wc))
  case first =>
   have H := HC10.out
   clear HC10
   by_cases c21 : a0_0 < 0
   ·rw [if_pos c21] at H
    have c21b0 : decide (a0_0 < 0) = true := decide_eq_true c21
    clear c21
    (first | rw [c21b0] | (simp only [i64_w, i32_w]; rw [c21b0]) | skip)
    have H' := am_ H
    clear H
    have hnb22 := NB224_225.out
    have hnc22 := NB225_224.out
    have hnb23 := NB224_231.out
    have hnc23 := NB231_224.out
    obtain ⟨Z24_0, Z24_1, Y24_0, Y24_1⟩ := cz2_ BK224.out
    go_wp2
    go_meet
    case rel => exact ⟨_, (decide (t230 > 0)), qs_, H', ⟨qo_⟩, ⟨qff_ NB224_231.out NB224_231.out BK224.out⟩, ⟨qff_ NB225_231.out NB225_231.out BK225.out⟩, ⟨qpp_ #[.int .u64 t228, .int .u64 0] 1 #[.int .u64 0, .int .u64 0] 0 BK231.out⟩, ⟨qb3_ GE224.out GE225.out GE231.out HB.out⟩⟩
   ·rw [if_neg c21] at H
    have c21b0 : decide (a0_0 < 0) = false := decide_eq_false c21
    clear c21
    (first | rw [c21b0] | (simp only [i64_w, i32_w]; rw [c21b0]) | skip)
    have H' := am_ H
    clear H
    have hnb25 := NB224_225.out
    have hnc25 := NB225_224.out
    have hnb26 := NB224_231.out
    have hnc26 := NB231_224.out
    obtain ⟨Z27_0, Z27_1, Y27_0, Y27_1⟩ := cz2_ BK224.out
    go_wp2
    go_meet
    case rel => exact ⟨_, (false), qs_, H', ⟨qo_⟩, ⟨qff_ NB224_231.out NB224_231.out BK224.out⟩, ⟨qff_ NB225_231.out NB225_231.out BK225.out⟩, ⟨qpp_ #[.int .u64 t228, .int .u64 0] 1 #[.int .u64 0, .int .u64 0] 0 BK231.out⟩, ⟨qb3_ GE224.out GE225.out GE231.out HB.out⟩⟩
  case rest =>
   clear HC10
   try clear c1
   try clear c2
   try clear p2
   try clear c3
   try clear c3b0
   try clear c5
   try clear c6
   try clear c9
   try clear c11
   try clear c13
   try clear c18
   try clear c19
   try clear c21
   try clear c21b0
   try clear c22
   try clear c23
   try clear c25
   try clear c26
   (try clear Z14_0 Z14_1 Y14_0 Y14_1)
   (try clear Z20_0 Z20_1 Y20_0 Y20_1)
   (try clear Z24_0 Z24_1 Y24_0 Y24_1)
   (try clear Z27_0 Z27_1 Y27_0 Y27_1)
   (try clear Z7_0 Z7_1 Y7_0 Y7_1)
   obtain ⟨kq, x28_9, rfl, HA, HJ9, BK224, BK225, BK231, HB⟩ := hcut
   cases kq with
   | zero => exact absurd HA.out (by simp [wide_DivP.j0])
   | succ kj9 =>
    have H := HA.out
    clear HA
    simp only [wide_DivP.j0] at H
    have HC28 := am_ H
    clear H
    go_upto_if 28 with (fail)
    go_cut [8] (fun v8 wc => ∃ (kq : Nat) (x8_27 x232000_27 x232001_27 : Int), v8 = .int .u64 x8_27 ∧ Aside0 (wide_DivP.j1 kq x8_27 a0_0 a0_1 x232000_27 x232001_27 = some (r1, r2, r3, r4)) ∧ Aside0 (kq ≤ kj9) ∧ Aside0 (wc.heap[gb224]? = some (.cells #[.int .i64 a0_0, .int .u64 a0_1] 32 (0, 0))) ∧ Aside0 (wc.heap[gb225]? = some (.cells #[.int .i64 0, .int .u64 0] 32 (0, 0))) ∧ Aside0 (wc.heap[gb231]? = some (.cells #[.int .u64 x232000_27, .int .u64 x232001_27] 87 (0, 0))) ∧ Aside0 (Below w.heap.size w wc))
    case first =>
     have H := HC28.out
     clear HC28
     by_cases c29 : x28_9 = true
     ·subst c29
      rw [if_pos rfl] at H
      replace H := Option.bind_eq_some_iff.mp H
      obtain ⟨⟨t232, t233, t234⟩, A300, H⟩ := H
      (try dsimp only at H)
      have A30 := am_ A300
      clear A300
      have H' := am_ H
      clear H
      have hnb31 := NB231_224.out
      have hnc31 := NB224_231.out
      have hnb32 := NB231_225.out
      have hnc32 := NB225_231.out
      obtain ⟨Z33_0, Z33_1, Y33_0, Y33_1⟩ := cz2_ BK231.out
      go_wp2_with (first | ((with_reducible refine gate_callee (f := 57) rfl ?_); refine goesL_ (some 31) rfl rfl Tryd.func57 (by kernel_rfl) rfl #[.agg #[.int .u64 t228, .int .u64 t229], .int .u64 1, .int .u64 1] rfl ql_ ?_; (with_reducible refine (wide_size_times.calls t228 t229 1 1 t232 t233 t234 _ A30.out).mono ?_); rintro e w34 ⟨rfl, hb⟩; refine ⟨_, rfl, ?_⟩; replace BK224 := am_ (blk_below (qk_ BK224.out) hb); replace BK225 := am_ (blk_below (qk_ BK225.out) hb); replace BK231 := am_ (blk_below (qk_ BK231.out) hb); replace HB := am_ (below_step (qb3_ GE224.out GE225.out GE231.out HB.out) hb); (try clear hb); obtain ⟨Z35_0, Z35_1, Y35_0, Y35_1⟩ := cz2_ BK231.out))
      go_meet
      case rel => exact ⟨_, (IntKind.u64.wrap ((IntKind.u64.wrap (a1)) - t230)), (t232), (t233), qs_, H', ⟨by have := HJ9.out; first | omega | exact Nat.le_refl _⟩, ⟨qff_ NB224_231.out NB224_231.out BK224.out⟩, ⟨qff_ NB225_231.out NB225_231.out BK225.out⟩, ⟨qpp_ #[.int .u64 t232, .int .u64 t229] 1 #[.int .u64 t228, .int .u64 t229] 0 BK231.out⟩, ⟨qb3_ GE224.out GE225.out GE231.out HB.out⟩⟩
     ·replace c29 := Bool.eq_false_iff.mpr c29
      subst c29
      rw [if_neg (show ¬ (false = true) by decide)] at H
      have H' := am_ H
      clear H
      go_wp2
      go_meet
      case rel => exact ⟨_, (t230), (t228), (t229), qs_, H', ⟨by have := HJ9.out; first | omega | exact Nat.le_refl _⟩, ⟨qk_ BK224.out⟩, ⟨qk_ BK225.out⟩, ⟨qk_ BK231.out⟩, ⟨qb3_ GE224.out GE225.out GE231.out HB.out⟩⟩
    case rest =>
     clear HC28
     try clear c1
     try clear c2
     try clear p2
     try clear c3
     try clear c3b0
     try clear c5
     try clear c6
     try clear c9
     try clear c11
     try clear c13
     try clear c18
     try clear c19
     try clear c21
     try clear c21b0
     try clear c22
     try clear c23
     try clear c25
     try clear c26
     try clear c29
     try clear c31
     try clear c32
     (try clear Z14_0 Z14_1 Y14_0 Y14_1)
     (try clear Z20_0 Z20_1 Y20_0 Y20_1)
     (try clear Z24_0 Z24_1 Y24_0 Y24_1)
     (try clear Z27_0 Z27_1 Y27_0 Y27_1)
     (try clear Z33_0 Z33_1 Y33_0 Y33_1)
     (try clear Z35_0 Z35_1 Y35_0 Y35_1)
     (try clear Z7_0 Z7_1 Y7_0 Y7_1)
     try clear p2
     obtain ⟨kq, x8_27, x232000_27, x232001_27, rfl, HA, HJ27, BK224, BK225, BK231, HB⟩ := hcut
     cases kq with
     | zero => exact absurd HA.out (by simp [wide_DivP.j1])
     | succ kj27 =>
      have H := HA.out
      clear HA
      simp only [wide_DivP.j1] at H
      by_cases c36 : a0_0 < 0
      ·rw [if_pos c36] at H
       have c36b0 : decide (a0_0 < 0) = true := decide_eq_true c36
       clear c36
       replace H := Option.bind_eq_some_iff.mp H
       obtain ⟨⟨t235, t236, t237⟩, A370, H⟩ := H
       (try dsimp only at H)
       have A37 := am_ A370
       clear A370
       simp only [Option.some.injEq, Prod.mk.injEq] at H
       obtain ⟨rfl, rfl, rfl, rfl⟩ := H
       try go_wp2
       replace BK224 := am_ (blk_drew BK224.out)
       replace BK225 := am_ (blk_drew BK225.out)
       replace BK231 := am_ (blk_drew BK231.out)
       replace HB := am_ (below_drew1 HB.out)
       refine start_ (n := 16) (S := fun w' => w'.cell? ⟨gb231, 0, none⟩ = some (.int .u64 x232000_27) ∧ w'.cell? ⟨gb231, 1, none⟩ = some (.int .u64 x232001_27) ∧ w'.cell? ⟨gb224, 0, none⟩ = some (.int .i64 a0_0) ∧ w'.cell? ⟨gb224, 1, none⟩ = some (.int .u64 a0_1)) (ds := []) (nb_ 16 0) (by kernel_rfl) rfl rfl ⟨(blk_cell BK231.out 0).trans rfl, (blk_cell BK231.out 1).trans rfl, (blk_cell BK224.out 0).trans rfl, (blk_cell BK224.out 1).trans rfl⟩ (fun hHeld => ?_); refine with_tabW wide_DivP.tab7 wide_DivP.bits7 (fun HT_ HW_ => ?_)
       generalize wc.drew = w38 at BK224 BK225 BK231 HB hHeld ⊢
       refine pz_ 1 40 (nb_ 16 2) HT_.out ?_
       refine tk4_ 0 39 (nb_ 16 3) HT_.out HW_.out hHeld ?_
       refine tk4_ 2 41 (nb_ 16 7) HT_.out HW_.out hHeld ?_
       refine pz_ 3 42 (nb_ 16 15) HT_.out ?_
       refine pz_ 4 43 (nb_ 16 31) HT_.out ?_
       refine pz_ 6 45 (nb_ 16 95) HT_.out ?_
       refine tk4_ 5 44 (nb_ 16 127) HT_.out HW_.out hHeld ?_
       refine pz_ 7 46 (nb_ 16 255) HT_.out ?_
       refine pz_ 8 47 (nb_ 16 511) HT_.out ?_
       refine join_ (σ := Nat) 2 (nb_ 16 16383) (fun s_ => [(48, .tuple #[.agg #[.int .i64 t235, .int .u64 t236], .int .i64 t237]), (9, .pointer (some ⟨s_, 0, none⟩)), (38, .tuple #[.agg #[.int .i64 t235, .int .u64 t236], .int .i64 t237]), (49, .agg #[.int .i64 t235, .int .u64 t236]), (50, .int .i64 t237)]) (fun s_ w' => (w'.cell? ⟨gb231, 0, none⟩ = some (.int .u64 x232000_27) ∧ w'.cell? ⟨gb231, 1, none⟩ = some (.int .u64 x232001_27) ∧ w'.cell? ⟨gb224, 0, none⟩ = some (.int .i64 a0_0) ∧ w'.cell? ⟨gb224, 1, none⟩ = some (.int .u64 a0_1)) ∧ (w'.heap[gb224]? = some (.cells #[.int .i64 a0_0, .int .u64 a0_1] 32 (0, 0))) ∧ (w'.heap[gb225]? = some (.cells #[.int .i64 0, .int .u64 0] 32 (0, 0))) ∧ (w'.heap[gb231]? = some (.cells #[.int .u64 x232000_27, .int .u64 x232001_27] 87 (0, 0))) ∧ (w'.heap[s_]? = some (.cells #[.int .i64 0, .int .u64 0] 32 (0, 0))) ∧ (w.heap.size ≤ s_) ∧ (w.heap.size ≤ s_) ∧ (gb224 ≠ s_) ∧ (s_ ≠ gb224) ∧ (gb225 ≠ s_) ∧ (s_ ≠ gb225) ∧ (gb231 ≠ s_) ∧ (s_ ≠ gb231) ∧ (Below w.heap.size w w')) ?_ ?_
       rotate_left
       ·intro hCont
        refine two_ (i := 9) (j := 13) (Ni := some 48) (Nj := some 9) (nb_ 16 1023) (nb_ 16 8703) rfl rfl rfl rfl (two_of HT_.out (by kernel_rfl)) (by decide) (by decide) (fun K hK => ?_) (fun K hK => ?_)
        ·skip
         refine goes_ Tryd.func59 (by kernel_rfl) rfl #[.agg #[.int .u64 x232000_27, .int .u64 x232001_27], .bool (!(x232000_27 == 0) || (!(x232001_27 == 0)))] (by rfl) rfl rfl ql_ ?_
         with_reducible refine (wide_size_signed.calls x232000_27 x232001_27 (!(x232000_27 == 0) || (!(x232001_27 == 0))) t235 t236 t237 _ A37.out).mono ?_
         rintro e w39 ⟨rfl, hb⟩
         refine ⟨_, rfl, ?_⟩
         replace BK224 := am_ (blk_below (qk_ BK224.out) hb)
         replace BK225 := am_ (blk_below (qk_ BK225.out) hb)
         replace BK231 := am_ (blk_below (qk_ BK231.out) hb)
         replace HB := am_ (below_step (qb3_ GE224.out GE225.out GE231.out HB.out) hb)
         (try clear hb)
         refine hK.out _ _ ⟨(blk_cell BK231.out 0).trans rfl, (blk_cell BK231.out 1).trans rfl, (blk_cell BK224.out 0).trans rfl, (blk_cell BK224.out 1).trans rfl⟩ (fun hHeld => ?_)
         clear hK K
         refine no_ ?_
         refine pz_ 10 38 (nb_ 16 2047) HT_.out ?_
         refine pz_ 11 49 (nb_ 16 4095) HT_.out ?_
         refine pz_ 12 50 (nb_ 16 8191) HT_.out ?_
         refine on_ 13 9 (nb_ 16 16383) HT_.out (fun K hK => ?_)
         refine box_step ?hg (N := 9) ?hd (cs := #[.int .i64 0, .int .u64 0]) (t := 32) ?hr ?_; (case hd => rfl); (case hg => rfl); (case hr => first | (go_simp; done) | (go_simp; rfl))
         intro gb238 hg w40 hbox hb
         have BK238 := am_ (hbox)
         have GW238 := am_ (bz_ hg (qb3_ GE224.out GE225.out GE231.out HB.out) : w.heap.size ≤ gb238)
         have GE238 := am_ (bz_ hg (qb3_ GE224.out GE225.out GE231.out HB.out) : w.heap.size ≤ gb238)
         replace HB := am_ (below_step (qb3_ GE224.out GE225.out GE231.out HB.out) hb)
         have NB224_238 := am_ (nl_ hg (qk_ BK224.out) : gb224 ≠ gb238)
         have NB238_224 := am_ (ng_ hg (qk_ BK224.out) : gb238 ≠ gb224)
         replace BK224 := am_ (blk_below (qk_ BK224.out) hb)
         have NB225_238 := am_ (nl_ hg (qk_ BK225.out) : gb225 ≠ gb238)
         have NB238_225 := am_ (ng_ hg (qk_ BK225.out) : gb238 ≠ gb225)
         replace BK225 := am_ (blk_below (qk_ BK225.out) hb)
         have NB231_238 := am_ (nl_ hg (qk_ BK231.out) : gb231 ≠ gb238)
         have NB238_231 := am_ (ng_ hg (qk_ BK231.out) : gb238 ≠ gb231)
         replace BK231 := am_ (blk_below (qk_ BK231.out) hb)
         clear hb hbox hg
         refine hK.out _ _ ⟨(blk_cell BK231.out 0).trans rfl, (blk_cell BK231.out 1).trans rfl, (blk_cell BK224.out 0).trans rfl, (blk_cell BK224.out 1).trans rfl⟩ (fun hHeld => ?_)
         clear hK K
         refine no_ ?_
         exact norm_ (by simp only [putAll, Act.put, List.setIfInBounds_toArray, List.set_cons_zero, List.set_cons_succ]) (hCont (gb238) _ ⟨hHeld, (qk_ BK224.out), (qk_ BK225.out), (qk_ BK231.out), (qk_ BK238.out), GW238.out, GE238.out, NB224_238.out, NB238_224.out, NB225_238.out, NB238_225.out, NB231_238.out, NB238_231.out, (qb4_ GE224.out GE225.out GE231.out GE238.out HB.out)⟩)
        ·skip
         refine box_step ?hg (N := 9) ?hd (cs := #[.int .i64 0, .int .u64 0]) (t := 32) ?hr ?_; (case hd => rfl); (case hg => rfl); (case hr => first | (go_simp; done) | (go_simp; rfl))
         intro gb238 hg w39 hbox hb
         have BK238 := am_ (hbox)
         have GW238 := am_ (bz_ hg (qb3_ GE224.out GE225.out GE231.out HB.out) : w.heap.size ≤ gb238)
         have GE238 := am_ (bz_ hg (qb3_ GE224.out GE225.out GE231.out HB.out) : w.heap.size ≤ gb238)
         replace HB := am_ (below_step (qb3_ GE224.out GE225.out GE231.out HB.out) hb)
         have NB224_238 := am_ (nl_ hg (qk_ BK224.out) : gb224 ≠ gb238)
         have NB238_224 := am_ (ng_ hg (qk_ BK224.out) : gb238 ≠ gb224)
         replace BK224 := am_ (blk_below (qk_ BK224.out) hb)
         have NB225_238 := am_ (nl_ hg (qk_ BK225.out) : gb225 ≠ gb238)
         have NB238_225 := am_ (ng_ hg (qk_ BK225.out) : gb238 ≠ gb225)
         replace BK225 := am_ (blk_below (qk_ BK225.out) hb)
         have NB231_238 := am_ (nl_ hg (qk_ BK231.out) : gb231 ≠ gb238)
         have NB238_231 := am_ (ng_ hg (qk_ BK231.out) : gb238 ≠ gb231)
         replace BK231 := am_ (blk_below (qk_ BK231.out) hb)
         clear hb hbox hg
         refine hK.out _ _ ⟨(blk_cell BK231.out 0).trans rfl, (blk_cell BK231.out 1).trans rfl, (blk_cell BK224.out 0).trans rfl, (blk_cell BK224.out 1).trans rfl⟩ (fun hHeld => ?_)
         clear hK K
         refine no_ ?_
         refine on_ 9 48 (nb_ 16 9215) HT_.out (fun K hK => ?_)
         refine goes_ Tryd.func59 (by kernel_rfl) rfl #[.agg #[.int .u64 x232000_27, .int .u64 x232001_27], .bool (!(x232000_27 == 0) || (!(x232001_27 == 0)))] (by rfl) rfl rfl ql_ ?_
         with_reducible refine (wide_size_signed.calls x232000_27 x232001_27 (!(x232000_27 == 0) || (!(x232001_27 == 0))) t235 t236 t237 _ A37.out).mono ?_
         rintro e w40 ⟨rfl, hb⟩
         refine ⟨_, rfl, ?_⟩
         replace BK224 := am_ (blk_below (qk_ BK224.out) hb)
         replace BK225 := am_ (blk_below (qk_ BK225.out) hb)
         replace BK231 := am_ (blk_below (qk_ BK231.out) hb)
         replace BK238 := am_ (blk_below (qk_ BK238.out) hb)
         replace HB := am_ (below_step (qb4_ GE224.out GE225.out GE231.out GE238.out HB.out) hb)
         (try clear hb)
         refine hK.out _ _ ⟨(blk_cell BK231.out 0).trans rfl, (blk_cell BK231.out 1).trans rfl, (blk_cell BK224.out 0).trans rfl, (blk_cell BK224.out 1).trans rfl⟩ (fun hHeld => ?_)
         clear hK K
         refine no_ ?_
         refine pz_ 10 38 (nb_ 16 10239) HT_.out ?_
         refine pz_ 11 49 (nb_ 16 12287) HT_.out ?_
         refine pz_ 12 50 (nb_ 16 16383) HT_.out ?_
         exact norm_ (by simp only [putAll, Act.put, List.setIfInBounds_toArray, List.set_cons_zero, List.set_cons_succ]) (hCont (gb238) _ ⟨hHeld, (qk_ BK224.out), (qk_ BK225.out), (qk_ BK231.out), (qk_ BK238.out), GW238.out, GE238.out, NB224_238.out, NB238_224.out, NB225_238.out, NB238_225.out, NB231_238.out, NB238_231.out, (qb4_ GE224.out GE225.out GE231.out GE238.out HB.out)⟩)
       rintro gb238 w41 ⟨hS_, h0_, h1_, h2_, h3_, h4_, h5_, h6_, h7_, h8_, h9_, h10_, h11_, h12_⟩
       replace BK224 := am_ h0_
       replace BK225 := am_ h1_
       replace BK231 := am_ h2_
       have BK238 := am_ h3_
       have GE238 := am_ h5_
       have NB224_238 := am_ h6_
       have NB238_224 := am_ h7_
       have NB225_238 := am_ h8_
       have NB238_225 := am_ h9_
       have NB231_238 := am_ h10_
       have NB238_231 := am_ h11_
       replace HB := am_ h12_
       clear h0_ h1_ h2_ h3_ h4_ h5_ h6_ h7_ h8_ h9_ h10_ h11_ h12_
       have hHeld : w41.cell? ⟨gb231, 0, none⟩ = some (.int .u64 x232000_27) ∧ w41.cell? ⟨gb231, 1, none⟩ = some (.int .u64 x232001_27) ∧ w41.cell? ⟨gb224, 0, none⟩ = some (.int .i64 a0_0) ∧ w41.cell? ⟨gb224, 1, none⟩ = some (.int .u64 a0_1) := hS_
       refine norm_ (a' := ?_) ?_ ?_
       rotate_left
       ·simp only [putAll, Act.put, List.setIfInBounds_toArray, List.set_cons_zero, List.set_cons_succ]
        rfl
       refine one_ (i := 14) (N := none) (nb_ 16 32767) rfl rfl (one_of HT_.out (by kernel_rfl)) (by decide) (fun K hK => ?_)
       have hs42 : w41.cell? ⟨gb238, 0, none⟩ = some (.int .i64 0) := (blk_cell BK238.out 0).trans rfl
       have hfs42 := blk_frozen BK238.out 0
       have hns42_0 := NB224_238.out
       have hns42_1 := NB225_238.out
       have hns42_2 := NB231_238.out
       have hms42_0 := NB238_224.out
       have hms42_1 := NB238_225.out
       have hms42_2 := NB238_231.out
       have hs43 : w41.cell? ⟨gb238, 1, none⟩ = some (.int .u64 0) := (blk_cell BK238.out 1).trans rfl
       have hfs43 := blk_frozen BK238.out 1
       have hns43_0 := NB224_238.out
       have hns43_1 := NB225_238.out
       have hns43_2 := NB231_238.out
       have hms43_0 := NB238_224.out
       have hms43_1 := NB238_225.out
       have hms43_2 := NB238_231.out
       refine skip_ (w1 := ?_) (by rfl) rfl ?_ ?_
       rotate_left
       ·go_simp
        rfl
       refine hK.out _ _ ⟨((cell_far (p := ⟨gb238, _, none⟩) NB231_238.out _).trans (((cell_far (p := ⟨gb238, _, none⟩) NB231_238.out _).trans (hHeld.1)))), ((cell_far (p := ⟨gb238, _, none⟩) NB231_238.out _).trans (((cell_far (p := ⟨gb238, _, none⟩) NB231_238.out _).trans (hHeld.2.1)))), ((cell_far (p := ⟨gb238, _, none⟩) NB224_238.out _).trans (((cell_far (p := ⟨gb238, _, none⟩) NB224_238.out _).trans (hHeld.2.2.1)))), ((cell_far (p := ⟨gb238, _, none⟩) NB224_238.out _).trans (((cell_far (p := ⟨gb238, _, none⟩) NB224_238.out _).trans (hHeld.2.2.2))))⟩ (fun hHeld => ?_)
       clear hK K
       refine pz_ 15 10 (nb_ 16 65535) HT_.out ?_
       refine done_ (done_of HT_.out (by kernel_rfl)) ?_
       have hnb44 := NB238_224.out
       have hnc44 := NB224_238.out
       have hnb45 := NB238_225.out
       have hnc45 := NB225_238.out
       have hnb46 := NB238_231.out
       have hnc46 := NB231_238.out
       obtain ⟨Z47_0, Z47_1, Y47_0, Y47_1⟩ := cz2_ BK238.out
       have hnb48 := NB225_224.out
       have hnc48 := NB224_225.out
       have hnb49 := NB225_231.out
       have hnc49 := NB231_225.out
       obtain ⟨Z50_0, Z50_1, Y50_0, Y50_1⟩ := cz2_ BK225.out
       try go_wp2
       refine bodyPost_ret (results_ctt rfl _ _ gb225 32 #[.int .i64 t235, .int .u64 t236] (0, 0) _ rfl (qppff_ #[.int .i64 t235, .int .u64 0] 1 #[.int .i64 0, .int .u64 0] 0 NB225_238.out NB225_238.out BK225.out) Tryd.underlying32 rfl (by kernel_rfl)) rfl ?_
       exact ⟨qe_, qb4_ GE224.out GE225.out GE231.out GE238.out HB.out⟩
      ·rw [if_neg c36] at H
       have c36b0 : decide (a0_0 < 0) = false := decide_eq_false c36
       clear c36
       replace H := Option.bind_eq_some_iff.mp H
       obtain ⟨⟨t239, t240, t241⟩, A510, H⟩ := H
       (try dsimp only at H)
       have A51 := am_ A510
       clear A510
       simp only [Option.some.injEq, Prod.mk.injEq] at H
       obtain ⟨rfl, rfl, rfl, rfl⟩ := H
       try go_wp2
       replace BK224 := am_ (blk_drew BK224.out)
       replace BK225 := am_ (blk_drew BK225.out)
       replace BK231 := am_ (blk_drew BK231.out)
       replace HB := am_ (below_drew1 HB.out)
       refine start_ (n := 16) (S := fun w' => w'.cell? ⟨gb231, 0, none⟩ = some (.int .u64 x232000_27) ∧ w'.cell? ⟨gb231, 1, none⟩ = some (.int .u64 x232001_27) ∧ w'.cell? ⟨gb224, 0, none⟩ = some (.int .i64 a0_0) ∧ w'.cell? ⟨gb224, 1, none⟩ = some (.int .u64 a0_1)) (ds := []) (nb_ 16 0) (by kernel_rfl) rfl rfl ⟨(blk_cell BK231.out 0).trans rfl, (blk_cell BK231.out 1).trans rfl, (blk_cell BK224.out 0).trans rfl, (blk_cell BK224.out 1).trans rfl⟩ (fun hHeld => ?_); refine with_tabW wide_DivP.tab7 wide_DivP.bits7 (fun HT_ HW_ => ?_)
       generalize wc.drew = w52 at BK224 BK225 BK231 HB hHeld ⊢
       refine pz_ 1 40 (nb_ 16 2) HT_.out ?_
       refine tk4_ 0 39 (nb_ 16 3) HT_.out HW_.out hHeld ?_
       refine tk4_ 2 41 (nb_ 16 7) HT_.out HW_.out hHeld ?_
       refine pz_ 3 42 (nb_ 16 15) HT_.out ?_
       refine pz_ 4 43 (nb_ 16 31) HT_.out ?_
       refine pu_ 5 44 (nb_ 16 63) HT_.out ?_
       refine pu_ 6 45 (nb_ 16 127) HT_.out ?_
       refine pu_ 7 46 (nb_ 16 255) HT_.out ?_
       refine pz_ 8 47 (nb_ 16 511) HT_.out ?_
       refine join_ (σ := Nat) 2 (nb_ 16 16383) (fun s_ => [(48, .tuple #[.agg #[.int .i64 t239, .int .u64 t240], .int .i64 t241]), (9, .pointer (some ⟨s_, 0, none⟩)), (38, .tuple #[.agg #[.int .i64 t239, .int .u64 t240], .int .i64 t241]), (49, .agg #[.int .i64 t239, .int .u64 t240]), (50, .int .i64 t241)]) (fun s_ w' => (w'.cell? ⟨gb231, 0, none⟩ = some (.int .u64 x232000_27) ∧ w'.cell? ⟨gb231, 1, none⟩ = some (.int .u64 x232001_27) ∧ w'.cell? ⟨gb224, 0, none⟩ = some (.int .i64 a0_0) ∧ w'.cell? ⟨gb224, 1, none⟩ = some (.int .u64 a0_1)) ∧ (w'.heap[gb224]? = some (.cells #[.int .i64 a0_0, .int .u64 a0_1] 32 (0, 0))) ∧ (w'.heap[gb225]? = some (.cells #[.int .i64 0, .int .u64 0] 32 (0, 0))) ∧ (w'.heap[gb231]? = some (.cells #[.int .u64 x232000_27, .int .u64 x232001_27] 87 (0, 0))) ∧ (w'.heap[s_]? = some (.cells #[.int .i64 0, .int .u64 0] 32 (0, 0))) ∧ (w.heap.size ≤ s_) ∧ (w.heap.size ≤ s_) ∧ (gb224 ≠ s_) ∧ (s_ ≠ gb224) ∧ (gb225 ≠ s_) ∧ (s_ ≠ gb225) ∧ (gb231 ≠ s_) ∧ (s_ ≠ gb231) ∧ (Below w.heap.size w w')) ?_ ?_
       rotate_left
       ·intro hCont
        refine two_ (i := 9) (j := 13) (Ni := some 48) (Nj := some 9) (nb_ 16 1023) (nb_ 16 8703) rfl rfl rfl rfl (two_of HT_.out (by kernel_rfl)) (by decide) (by decide) (fun K hK => ?_) (fun K hK => ?_)
        ·skip
         refine goes_ Tryd.func59 (by kernel_rfl) rfl #[.agg #[.int .u64 x232000_27, .int .u64 x232001_27], .bool false] (by rfl) rfl rfl ql_ ?_
         with_reducible refine (wide_size_signed.calls x232000_27 x232001_27 false t239 t240 t241 _ A51.out).mono ?_
         rintro e w53 ⟨rfl, hb⟩
         refine ⟨_, rfl, ?_⟩
         replace BK224 := am_ (blk_below (qk_ BK224.out) hb)
         replace BK225 := am_ (blk_below (qk_ BK225.out) hb)
         replace BK231 := am_ (blk_below (qk_ BK231.out) hb)
         replace HB := am_ (below_step (qb3_ GE224.out GE225.out GE231.out HB.out) hb)
         (try clear hb)
         refine hK.out _ _ ⟨(blk_cell BK231.out 0).trans rfl, (blk_cell BK231.out 1).trans rfl, (blk_cell BK224.out 0).trans rfl, (blk_cell BK224.out 1).trans rfl⟩ (fun hHeld => ?_)
         clear hK K
         refine no_ ?_
         refine pz_ 10 38 (nb_ 16 2047) HT_.out ?_
         refine pz_ 11 49 (nb_ 16 4095) HT_.out ?_
         refine pz_ 12 50 (nb_ 16 8191) HT_.out ?_
         refine on_ 13 9 (nb_ 16 16383) HT_.out (fun K hK => ?_)
         refine box_step ?hg (N := 9) ?hd (cs := #[.int .i64 0, .int .u64 0]) (t := 32) ?hr ?_; (case hd => rfl); (case hg => rfl); (case hr => first | (go_simp; done) | (go_simp; rfl))
         intro gb242 hg w54 hbox hb
         have BK242 := am_ (hbox)
         have GW242 := am_ (bz_ hg (qb3_ GE224.out GE225.out GE231.out HB.out) : w.heap.size ≤ gb242)
         have GE242 := am_ (bz_ hg (qb3_ GE224.out GE225.out GE231.out HB.out) : w.heap.size ≤ gb242)
         replace HB := am_ (below_step (qb3_ GE224.out GE225.out GE231.out HB.out) hb)
         have NB224_242 := am_ (nl_ hg (qk_ BK224.out) : gb224 ≠ gb242)
         have NB242_224 := am_ (ng_ hg (qk_ BK224.out) : gb242 ≠ gb224)
         replace BK224 := am_ (blk_below (qk_ BK224.out) hb)
         have NB225_242 := am_ (nl_ hg (qk_ BK225.out) : gb225 ≠ gb242)
         have NB242_225 := am_ (ng_ hg (qk_ BK225.out) : gb242 ≠ gb225)
         replace BK225 := am_ (blk_below (qk_ BK225.out) hb)
         have NB231_242 := am_ (nl_ hg (qk_ BK231.out) : gb231 ≠ gb242)
         have NB242_231 := am_ (ng_ hg (qk_ BK231.out) : gb242 ≠ gb231)
         replace BK231 := am_ (blk_below (qk_ BK231.out) hb)
         clear hb hbox hg
         refine hK.out _ _ ⟨(blk_cell BK231.out 0).trans rfl, (blk_cell BK231.out 1).trans rfl, (blk_cell BK224.out 0).trans rfl, (blk_cell BK224.out 1).trans rfl⟩ (fun hHeld => ?_)
         clear hK K
         refine no_ ?_
         exact norm_ (by simp only [putAll, Act.put, List.setIfInBounds_toArray, List.set_cons_zero, List.set_cons_succ]) (hCont (gb242) _ ⟨hHeld, (qk_ BK224.out), (qk_ BK225.out), (qk_ BK231.out), (qk_ BK242.out), GW242.out, GE242.out, NB224_242.out, NB242_224.out, NB225_242.out, NB242_225.out, NB231_242.out, NB242_231.out, (qb4_ GE224.out GE225.out GE231.out GE242.out HB.out)⟩)
        ·skip
         refine box_step ?hg (N := 9) ?hd (cs := #[.int .i64 0, .int .u64 0]) (t := 32) ?hr ?_; (case hd => rfl); (case hg => rfl); (case hr => first | (go_simp; done) | (go_simp; rfl))
         intro gb242 hg w53 hbox hb
         have BK242 := am_ (hbox)
         have GW242 := am_ (bz_ hg (qb3_ GE224.out GE225.out GE231.out HB.out) : w.heap.size ≤ gb242)
         have GE242 := am_ (bz_ hg (qb3_ GE224.out GE225.out GE231.out HB.out) : w.heap.size ≤ gb242)
         replace HB := am_ (below_step (qb3_ GE224.out GE225.out GE231.out HB.out) hb)
         have NB224_242 := am_ (nl_ hg (qk_ BK224.out) : gb224 ≠ gb242)
         have NB242_224 := am_ (ng_ hg (qk_ BK224.out) : gb242 ≠ gb224)
         replace BK224 := am_ (blk_below (qk_ BK224.out) hb)
         have NB225_242 := am_ (nl_ hg (qk_ BK225.out) : gb225 ≠ gb242)
         have NB242_225 := am_ (ng_ hg (qk_ BK225.out) : gb242 ≠ gb225)
         replace BK225 := am_ (blk_below (qk_ BK225.out) hb)
         have NB231_242 := am_ (nl_ hg (qk_ BK231.out) : gb231 ≠ gb242)
         have NB242_231 := am_ (ng_ hg (qk_ BK231.out) : gb242 ≠ gb231)
         replace BK231 := am_ (blk_below (qk_ BK231.out) hb)
         clear hb hbox hg
         refine hK.out _ _ ⟨(blk_cell BK231.out 0).trans rfl, (blk_cell BK231.out 1).trans rfl, (blk_cell BK224.out 0).trans rfl, (blk_cell BK224.out 1).trans rfl⟩ (fun hHeld => ?_)
         clear hK K
         refine no_ ?_
         refine on_ 9 48 (nb_ 16 9215) HT_.out (fun K hK => ?_)
         refine goes_ Tryd.func59 (by kernel_rfl) rfl #[.agg #[.int .u64 x232000_27, .int .u64 x232001_27], .bool false] (by rfl) rfl rfl ql_ ?_
         with_reducible refine (wide_size_signed.calls x232000_27 x232001_27 false t239 t240 t241 _ A51.out).mono ?_
         rintro e w54 ⟨rfl, hb⟩
         refine ⟨_, rfl, ?_⟩
         replace BK224 := am_ (blk_below (qk_ BK224.out) hb)
         replace BK225 := am_ (blk_below (qk_ BK225.out) hb)
         replace BK231 := am_ (blk_below (qk_ BK231.out) hb)
         replace BK242 := am_ (blk_below (qk_ BK242.out) hb)
         replace HB := am_ (below_step (qb4_ GE224.out GE225.out GE231.out GE242.out HB.out) hb)
         (try clear hb)
         refine hK.out _ _ ⟨(blk_cell BK231.out 0).trans rfl, (blk_cell BK231.out 1).trans rfl, (blk_cell BK224.out 0).trans rfl, (blk_cell BK224.out 1).trans rfl⟩ (fun hHeld => ?_)
         clear hK K
         refine no_ ?_
         refine pz_ 10 38 (nb_ 16 10239) HT_.out ?_
         refine pz_ 11 49 (nb_ 16 12287) HT_.out ?_
         refine pz_ 12 50 (nb_ 16 16383) HT_.out ?_
         exact norm_ (by simp only [putAll, Act.put, List.setIfInBounds_toArray, List.set_cons_zero, List.set_cons_succ]) (hCont (gb242) _ ⟨hHeld, (qk_ BK224.out), (qk_ BK225.out), (qk_ BK231.out), (qk_ BK242.out), GW242.out, GE242.out, NB224_242.out, NB242_224.out, NB225_242.out, NB242_225.out, NB231_242.out, NB242_231.out, (qb4_ GE224.out GE225.out GE231.out GE242.out HB.out)⟩)
       rintro gb242 w55 ⟨hS_, h0_, h1_, h2_, h3_, h4_, h5_, h6_, h7_, h8_, h9_, h10_, h11_, h12_⟩
       have n1_ := am_ h1_
       have n3_ := am_ h3_
       have n5_ := am_ h5_
       have n6_ := am_ h6_
       have n7_ := am_ h7_
       have n8_ := am_ h8_
       have n9_ := am_ h9_
       have n10_ := am_ h10_
       have n11_ := am_ h11_
       have n12_ := am_ h12_
       (try clear BK224)
       clear BK225
       (try clear BK231)
       clear HB
       clear h0_ h1_ h2_ h3_ h4_ h5_ h6_ h7_ h8_ h9_ h10_ h11_ h12_
       have BK225 := n1_
       have BK242 := n3_
       have GE242 := n5_
       have NB224_242 := n6_
       have NB242_224 := n7_
       have NB225_242 := n8_
       have NB242_225 := n9_
       have NB231_242 := n10_
       have NB242_231 := n11_
       have HB := n12_
       clear n1_ n3_ n5_ n6_ n7_ n8_ n9_ n10_ n11_ n12_
       have hHeld : w55.cell? ⟨gb231, 0, none⟩ = some (.int .u64 x232000_27) ∧ w55.cell? ⟨gb231, 1, none⟩ = some (.int .u64 x232001_27) ∧ w55.cell? ⟨gb224, 0, none⟩ = some (.int .i64 a0_0) ∧ w55.cell? ⟨gb224, 1, none⟩ = some (.int .u64 a0_1) := hS_
       refine norm_ (a' := ?_) ?_ ?_
       rotate_left
       ·simp only [putAll, Act.put, List.setIfInBounds_toArray, List.set_cons_zero, List.set_cons_succ]
        rfl
       refine one_ (i := 14) (N := none) (nb_ 16 32767) rfl rfl (one_of HT_.out (by kernel_rfl)) (by decide) (fun K hK => ?_)
       have hs56 : w55.cell? ⟨gb242, 0, none⟩ = some (.int .i64 0) := (blk_cell BK242.out 0).trans rfl
       have hfs56 := blk_frozen BK242.out 0
       have hns56_0 := NB224_242.out
       have hns56_1 := NB225_242.out
       have hns56_2 := NB231_242.out
       have hms56_0 := NB242_224.out
       have hms56_1 := NB242_225.out
       have hms56_2 := NB242_231.out
       have hs57 : w55.cell? ⟨gb242, 1, none⟩ = some (.int .u64 0) := (blk_cell BK242.out 1).trans rfl
       have hfs57 := blk_frozen BK242.out 1
       have hns57_0 := NB224_242.out
       have hns57_1 := NB225_242.out
       have hns57_2 := NB231_242.out
       have hms57_0 := NB242_224.out
       have hms57_1 := NB242_225.out
       have hms57_2 := NB242_231.out
       refine skip_ (w1 := ?_) (by rfl) rfl ?_ ?_
       rotate_left
       ·go_simp
        rfl
       refine hK.out _ _ ⟨((cell_far (p := ⟨gb242, _, none⟩) NB231_242.out _).trans (((cell_far (p := ⟨gb242, _, none⟩) NB231_242.out _).trans (hHeld.1)))), ((cell_far (p := ⟨gb242, _, none⟩) NB231_242.out _).trans (((cell_far (p := ⟨gb242, _, none⟩) NB231_242.out _).trans (hHeld.2.1)))), ((cell_far (p := ⟨gb242, _, none⟩) NB224_242.out _).trans (((cell_far (p := ⟨gb242, _, none⟩) NB224_242.out _).trans (hHeld.2.2.1)))), ((cell_far (p := ⟨gb242, _, none⟩) NB224_242.out _).trans (((cell_far (p := ⟨gb242, _, none⟩) NB224_242.out _).trans (hHeld.2.2.2))))⟩ (fun hHeld => ?_)
       clear hK K
       refine pz_ 15 10 (nb_ 16 65535) HT_.out ?_
       refine done_ (done_of HT_.out (by kernel_rfl)) ?_
       have hnb58 := NB242_224.out
       have hnc58 := NB224_242.out
       have hnb59 := NB242_225.out
       have hnc59 := NB225_242.out
       have hnb60 := NB242_231.out
       have hnc60 := NB231_242.out
       obtain ⟨Z61_0, Z61_1, Y61_0, Y61_1⟩ := cz2_ BK242.out
       have hnb62 := NB225_224.out
       have hnc62 := NB224_225.out
       have hnb63 := NB225_231.out
       have hnc63 := NB231_225.out
       obtain ⟨Z64_0, Z64_1, Y64_0, Y64_1⟩ := cz2_ BK225.out
       try go_wp2
       refine bodyPost_ret (results_ctt rfl _ _ gb225 32 #[.int .i64 t239, .int .u64 t240] (0, 0) _ rfl (qppff_ #[.int .i64 t239, .int .u64 0] 1 #[.int .i64 0, .int .u64 0] 0 NB225_242.out NB225_242.out BK225.out) Tryd.underlying32 rfl (by kernel_rfl)) rfl ?_
       exact ⟨qe_, qb4_ GE224.out GE225.out GE231.out GE242.out HB.out⟩
end Go.Proofs.YtogcdcjbleafdaaDoor.PS
end
section
namespace Go.Proofs.YtogcdcjbleafdaaDoor.PS
open Go.RowKit Go.Proofs.YtogcdcjbleafdaaDoorW.PrintWords Go.Proofs.YtogcdcjbleafdaaDoorW.PrintLast Go.Proofs.YtogcdcjbleafdaaDoorW.PrintMore
attribute [local go_sem] max2_int min2_int max_two min_two
set_option linter.unusedVariables false
set_option linter.unusedSimpArgs false
attribute [local go_sem high] eqA32 eqA87
def wide_Div.f (a0_0 a0_1 a1 : Int) : Option (Int × Int × Int × Int) :=
 if isW a0_0 a0_1 ∧ inI a1 then
  some (if a1 < 1 then (0, 0, 0, 1) else (wv a0_0 a0_1 / a1 / 18446744073709551616, wv a0_0 a0_1 / a1 % 18446744073709551616, wv a0_0 a0_1 % a1, 0)) else none
theorem wide_Div.eq {a b n : Int} {r : Int × Int × Int × Int} (h : wide_Div.f a b n = some r) : ∃ k, wide_DivP.f k a b n = some r := by
 unfold wide_Div.f at h
 split at h
 ·rename_i q
  obtain ⟨⟨⟨a0, a1⟩, b0, b1⟩, n0, n1⟩ := q
  injection h with h
  subst h
  refine ⟨2, ?_⟩
  unfold wide_DivP.f
  by_cases hn : n < 1
  ·rw [if_pos hn, if_pos hn]
  ·rw [if_neg hn, if_neg hn]
   unfold wide_absolute.f
   rw [if_pos ⟨⟨a0, a1⟩, b0, b1⟩]
   simp only [Option.bind_some]
   have hun : IntKind.u64.wrap n = n := u64_id _ (by omega) (by omega)
   have hv : wv a b = a * 18446744073709551616 + b := rfl
   have mrange : 0 ≤ (if a < 0 then -(wv a b) else wv a b) ∧ (if a < 0 then -(wv a b) else wv a b) ≤ 170141183460469231731687303715884105728 := by split <;> omega
   have hvm : wv a b = if a < 0 then -(if a < 0 then -(wv a b) else wv a b) else (if a < 0 then -(wv a b) else wv a b) := by split <;> omega
   generalize hm : (if a < 0 then -(wv a b) else wv a b) = m at *
   obtain ⟨m0, m1⟩ := mrange
   have hwm : wv (m / 18446744073709551616) (m % 18446744073709551616) = m := by unfold wv; omega
   unfold wide_size_divide.f
   rw [hun, if_pos ⟨⟨by unfold inU; omega, by unfold inU; omega⟩, by omega, by omega⟩, hwm]
   simp only [Option.bind_some]
   have q0 : 0 ≤ m / n := Int.ediv_nonneg m0 (by omega)
   have q1 : m / n ≤ m := Int.ediv_le_self n m0
   have r0 := Int.emod_nonneg m (show n ≠ 0 by omega)
   have r1 := Int.emod_lt_of_pos m (show 0 < n by omega)
   have hwq : wv (m / n / 18446744073709551616) (m / n % 18446744073709551616) = m / n := by unfold wv; omega
   by_cases ha : a < 0
   ·rw [if_pos ha]
    simp only [wide_DivP.j0, wide_DivP.j1]
    rw [if_pos ha] at hvm
    obtain ⟨d1, d2⟩ := neg_div (m := m) (n := n) (by omega)
    have mpos : 0 < m := by
     rw [if_pos ha] at hm
     omega
    rw [hvm, d1, d2]
    by_cases hr : 0 < m % n
    ·rw [if_pos (by simpa using hr), if_pos hr, if_pos hr]
     have hq2 : m / n ≤ 170141183460469231731687303715884105727 := by
      by_cases h1n : n = 1
      ·subst h1n; rw [Int.emod_one] at hr; omega
      ·have h3 := Int.emod_add_mul_ediv m n
       have h4 : 2 * (m / n) ≤ n * (m / n) := Int.mul_le_mul_of_nonneg_right (by omega) q0
       omega
     unfold wide_size_times.f
     rw [if_pos ⟨⟨by unfold inU; omega, by unfold inU; omega⟩, by decide, by decide⟩, hwq, Int.mul_one]
     simp only [Option.bind_some]
     rw [if_pos ha, hun, u64_id (n - m % n) (by omega) (by omega)]
     have hwq2 : wv ((m / n + 1) / 18446744073709551616 % 18446744073709551616) ((m / n + 1) % 18446744073709551616) = m / n + 1 := by unfold wv; omega
     unfold wide_size_signed.f
     rw [if_pos ⟨by unfold inU; omega, by unfold inU; omega⟩, hwq2]
     have hne : (!((m / n + 1) / 18446744073709551616 % 18446744073709551616 == 0) || !((m / n + 1) % 18446744073709551616 == 0)) = true := by
      rw [Bool.or_eq_true]
      simp only [Bool.not_eq_true', beq_eq_false_iff_ne]
      omega
     rw [hne, if_neg (by simp; omega)]
     simp only [Option.bind_some, if_true]
     rw [i64_id (n - m % n) (by omega) (by omega)]
    ·rw [if_neg (by simpa using hr), if_neg hr, if_neg hr, if_pos ha]
     unfold wide_size_signed.f
     rw [if_pos ⟨by unfold inU; omega, by unfold inU; omega⟩, hwq]
     have hr0 : m % n = 0 := by omega
     by_cases hz : m / n = 0
     ·have h3 := Int.emod_add_mul_ediv m n
      rw [hz, Int.mul_zero] at h3
      omega
     ·have hne : (!(m / n / 18446744073709551616 == 0) || !(m / n % 18446744073709551616 == 0)) = true := by
       rw [Bool.or_eq_true]
       simp only [Bool.not_eq_true', beq_eq_false_iff_ne]
       omega
      rw [hne, if_neg (by simp; omega)]
      simp only [Option.bind_some, if_true]
      rw [hr0, i64_id 0 (by omega) (by omega)]
   ·rw [if_neg ha]
    simp only [wide_DivP.j0, wide_DivP.j1]
    rw [if_neg ha] at hvm hm
    rw [if_neg (by decide), if_neg ha, hvm]
    unfold wide_size_signed.f
    rw [if_pos ⟨by unfold inU; omega, by unfold inU; omega⟩, hwq, if_neg (by simp; omega)]
    simp only [Option.bind_some, Bool.false_eq_true, if_false]
    rw [i64_id (m % n) (by omega) (by omega)]
 ·cases h
theorem wide_Div.calls (a0_0 a0_1 a1 r1 r2 r3 r4 : Int) (w : World) (h : wide_Div.f a0_0 a0_1 a1 = some (r1, r2, r3, r4)) :
  Calls Tryd.prog 97 #[.agg #[.int .i64 a0_0, .int .u64 a0_1], .int .i64 a1] w fun e w' => e = .returned (.tuple #[.agg #[.int .i64 r1, .int .u64 r2], .int .i64 r3, .int .i64 r4]) ∧ Below w.heap.size w w' := by
 obtain ⟨k, h⟩ := wide_Div.eq h
 exact wide_DivP.calls k a0_0 a0_1 a1 r1 r2 r3 r4 w h
def wide_OfP.f (a0 : Int) : Option (Int × Int) := some (a0 / 9223372036854775808, IntKind.u64.wrap (a0))
set_option maxHeartbeats 8000000 in
set_option maxRecDepth 100000 in
theorem wide_OfP.calls (a0 r1 r2 : Int) (w : World) (h : wide_OfP.f a0 = some (r1, r2)) :
  Calls Tryd.prog 98 #[.int .i64 a0] w fun e w' => e = .returned (.agg #[.int .i64 r1, .int .u64 r2]) ∧ Below w.heap.size w w' := by
 have hu32 := Tryd.underlying32
 have HB := am_ (Below.refl w.heap.size w)
 have H := h
 clear h
 unfold wide_OfP.f at H
 simp only [Option.some.injEq, Prod.mk.injEq] at H
 obtain ⟨rfl, rfl⟩ := H
 go_enter Tryd.func98, Tryd.ntmps98
 go_wp2_with (first | ((with_reducible refine gate_dst (N := 2) rfl ?_); refine be_ (N := 2) (cs := #[.int .i64 0, .int .u64 0]) (t := 32) ?_; intro gb243 hg w2 hbox hb; have BK243 := am_ (hbox); have GE243 := am_ (bz_ hg (qb_ HB.out) : w.heap.size ≤ gb243); replace HB := am_ (below_step (qb_ HB.out) hb); clear hb hbox hg; obtain ⟨Z3_0, Z3_1, Y3_0, Y3_1⟩ := cz2_ BK243.out))
 refine bodyPost_ret (results_cell_row rfl _ _ gb243 32 #[.int .i64 (a0 / 9223372036854775808), .int .u64 (IntKind.u64.wrap (a0))] (0, 0) _ rfl (qpp_ #[.int .i64 (a0 / 9223372036854775808), .int .u64 0] 1 #[.int .i64 0, .int .u64 0] 0 BK243.out) Tryd.underlying32 rfl (by kernel_rfl)) rfl ?_
 exact ⟨qe_, qb1_ GE243.out HB.out⟩
def wide_Of.f (a0 : Int) : Option (Int × Int) := if inI a0 then some (a0 / 18446744073709551616, a0 % 18446744073709551616) else none
theorem wide_Of.eq {a : Int} {r : Int × Int} (h : wide_Of.f a = some r) : wide_OfP.f a = some r := by
 unfold wide_Of.f at h
 split at h
 ·rename_i c
  obtain ⟨c0, c1⟩ := c
  injection h with h
  subst h
  unfold wide_OfP.f
  simp only [IntKind.wrap_u64]
  congr 2
  omega
 ·cases h
theorem wide_Of.calls (a0 r1 r2 : Int) (w : World) (h : wide_Of.f a0 = some (r1, r2)) :
  Calls Tryd.prog 98 #[.int .i64 a0] w fun e w' => e = .returned (.agg #[.int .i64 r1, .int .u64 r2]) ∧ Below w.heap.size w w' := by
 have h := wide_Of.eq h
 exact wide_OfP.calls a0 r1 r2 w h
def rounding_more.f (a0_0 a0_1 a1 a2 a3 : Int) : Option Int :=
 if (1 ≤ a3 ∧ a3 ≤ 6) ∧ inI a0_0 ∧ inU a0_1 ∧ 0 < a1 ∧ a1 < a2 ∧ a2 ≤ 9223372036854775807 then
  some (if upB (decide (a0_0 < 0)) (decide (a0_1 % 2 = 1)) a1 a2 a3 = true then 1 else 0) else none
theorem and1 (x : Int) (h0 : 0 ≤ x) (h1 : x ≤ 18446744073709551615) : bits .and .u64 x 1 = x % 2 := by
 obtain ⟨n, rfl⟩ := Int.eq_ofNat_of_zero_le h0
 have h := u64_and_nat n 1 (by omega) (by omega)
 rw [show ((1 : Nat) : Int) = 1 from rfl] at h
 rw [h, Nat.and_one_is_mod]
 omega
set_option maxHeartbeats 4000000 in
set_option maxRecDepth 100000 in
theorem rounding_more.calls (a0_0 a0_1 a1 a2 a3 r : Int) (w : World) (hG : GW w) (h : rounding_more.f a0_0 a0_1 a1 a2 a3 = some r) :
  Calls Tryd.prog 99 #[.agg #[.int .i64 a0_0, .int .u64 a0_1], .int .i64 a1, .int .i64 a2, .int .i64 a3] w fun e w' => e = .returned (.int .i64 r) ∧ Below w.heap.size w w' := by
 unfold rounding_more.f at h
 split at h
 ·rename_i c
  obtain ⟨⟨m1, m6⟩, ⟨i0, i1⟩, ⟨u0, u1⟩, p1, p2, p3⟩ := c
  injection h with h
  have hG' := hG.below (Below.alloc (Below.refl w.heap.size w) (Nat.le_refl _) (.cells #[.int .i64 a0_0, .int .u64 a0_1] 32))
  have s2 := hG'.st 2 (by decide)
  have s3 := hG'.st 3 (by decide)
  have s4 := hG'.st 4 (by decide)
  have s5 := hG'.st 5 (by decide)
  have s6 := hG'.st 6 (by decide)
  have s7 := hG'.st 7 (by decide)
  have s8 := hG'.st 8 (by decide)
  have s9 := hG'.st 9 (by decide)
  simp only [stepsL, List.getD_cons_succ, List.getD_cons_zero] at s2 s3 s4 s5 s6 s7 s8 s9
  clear hG hG'
  have fin : ∀ {x : Int}, x = r → (Ending.returned (.int .i64 x) = Ending.returned (.int .i64 r)) := by rintro x rfl; rfl
  by_cases hn : a0_0 < 0
  all_goals rcases (by omega : a3 = 1 ∨ a3 = 2 ∨ a3 = 3 ∨ a3 = 4 ∨ a3 = 5 ∨ a3 = 6) with rfl | rfl | rfl | rfl | rfl | rfl
  all_goals
   simp [upB, hn] at h
   have HH := am_ h
   clear h
   go_enter Tryd.func99, Tryd.ntmps99
   go_wp2
   all_goals
    go_ret
    refine ⟨fin ?_, (Below.refl _ _).alloc (Nat.le_refl _) _⟩
    have h := HH.out
    clear HH s2 s3 s4 s5 s6 s7 s8 s9 fin
    go_light
    first
     | exact h
     | (rw [and1 _ u0 u1]; unfold wrap64; omega)
     | (rw [and1 _ u0 u1]; unfold wrap64; split at h <;> omega)
     | (split at h <;> omega)
 ·cases h
def wide_IntP.f (a0_0 a0_1 : Int) : Option (Int × Bool) := (wide_Of.f (wrap64 (a0_1))).bind fun bt245 => (if (!(bt245.1 == a0_0) || (!(bt245.2 == a0_1))) = true then (some (0, false)) else (some (wrap64 (a0_1), true)))
set_option maxHeartbeats 8000000 in
set_option maxRecDepth 100000 in
theorem wide_IntP.calls (a0_0 a0_1 r1 : Int) (r2 : Bool) (w : World) (h : wide_IntP.f a0_0 a0_1 = some (r1, r2)) :
  Calls Tryd.prog 100 #[.agg #[.int .i64 a0_0, .int .u64 a0_1]] w fun e w' => e = .returned (.tuple #[.int .i64 r1, .bool r2]) ∧ Below w.heap.size w w' := by
 have hu32 := Tryd.underlying32
 have HB := am_ (Below.refl w.heap.size w)
 have H := h
 clear h
 unfold wide_IntP.f at H
 replace H := Option.bind_eq_some_iff.mp H
 obtain ⟨⟨t245, t246⟩, A20, H⟩ := H
 (try dsimp only at H)
 have A2 := am_ A20
 clear A20
 by_cases c3 : (!(t245 == a0_0) || (!(t246 == a0_1))) = true
 ·rw [if_pos c3] at H
  have c3b0 : (!(t245 == a0_0) || (!(t246 == a0_1))) = true := c3
  clear c3
  simp only [Option.some.injEq, Prod.mk.injEq] at H
  obtain ⟨rfl, rfl⟩ := H
  go_enter Tryd.func100, Tryd.ntmps100
  try go_wp2_with (first | ((with_reducible refine gate_dst (N := 1) rfl ?_); refine be_ (N := 1) (cs := #[.int .i64 a0_0, .int .u64 a0_1]) (t := 32) ?_; intro gb244 hg w4 hbox hb; have BK244 := am_ (hbox); have GE244 := am_ (bz_ hg (qb_ HB.out) : w.heap.size ≤ gb244); replace HB := am_ (below_step (qb_ HB.out) hb); clear hb hbox hg; obtain ⟨Z5_0, Z5_1, Y5_0, Y5_1⟩ := cz2_ BK244.out))
  replace BK244 := am_ (blk_drew BK244.out)
  replace HB := am_ (below_drew1 HB.out)
  refine start_ (n := 4) (S := cS2_ gb244 (.int .i64 a0_0) (.int .u64 a0_1)) (ds := []) (nb_ 4 0) (by kernel_rfl) rfl rfl (cc2_ BK244.out) (fun hHeld => ?_)
  generalize w4.drew = w6 at BK244 HB hHeld ⊢
  refine pure_ (i := 0) (N := some 8) (v := ?_) (a' := ?_) (nb_ 4 1) rfl rfl (by kernel_rfl) (fun _ _ _ h => h) (Or.inl ⟨by rfl, ?_⟩) ?_ ?_
  rotate_left
  ·intro w'
   go_simp
   with_reducible rfl
  rotate_left
  ·simp only [Act.put, List.setIfInBounds_toArray, List.set_cons_zero, List.set_cons_succ, i64_w, i32_w]
   rfl
  refine take_ (i := 2) (N := some 10) (v := ?_) (a' := ?_) (nb_ 4 5) rfl rfl (by kernel_rfl) (fun _ _ _ h => h) (Or.inl ⟨by rfl, ?_⟩) hHeld ?_ ?_
  rotate_left
  ·rintro w' ⟨s0, s1⟩
   go_simp
   with_reducible rfl
  rotate_left
  ·simp only [Act.put, List.setIfInBounds_toArray, List.set_cons_zero, List.set_cons_succ, i64_w, i32_w]
   rfl
  refine one_ (i := 1) (N := some 9) (nb_ 4 7) rfl rfl (by kernel_rfl) (by decide) (fun K hK => ?_)
  refine goes_ Tryd.func98 (by kernel_rfl) rfl #[.int .i64 (wrap64 (a0_1))] (by rfl) rfl rfl ql_ ?_
  with_reducible refine (wide_Of.calls (wrap64 (a0_1)) t245 t246 _ A2.out).mono ?_
  rintro e w7 ⟨rfl, hb⟩
  refine ⟨_, rfl, ?_⟩
  replace BK244 := am_ (blk_below (qk_ BK244.out) hb)
  replace HB := am_ (below_step (qb1_ GE244.out HB.out) hb)
  (try clear hb)
  refine hK.out _ _ (cc2_ BK244.out) (fun hHeld => ?_)
  clear hK K
  refine no_ ?_
  refine pure_ (i := 3) (N := some 11) (v := ?_) (a' := ?_) (nb_ 4 15) rfl rfl (by kernel_rfl) (fun _ _ _ h => h) (Or.inl ⟨by rfl, ?_⟩) ?_ ?_
  rotate_left
  ·intro w'
   go_simp
   with_reducible rfl
  rotate_left
  ·simp only [Act.put, List.setIfInBounds_toArray, List.set_cons_zero, List.set_cons_succ, i64_w, i32_w]
   rfl
  refine done_ (by kernel_rfl) ?_
  try go_wp2
  go_ret2
  exact ⟨qe_, qb1_ GE244.out HB.out⟩
 ·rw [if_neg c3] at H
  have c3b0 : (!(t245 == a0_0) || (!(t246 == a0_1))) = false := by simpa using c3
  clear c3
  simp only [Option.some.injEq, Prod.mk.injEq] at H
  obtain ⟨rfl, rfl⟩ := H
  go_enter Tryd.func100, Tryd.ntmps100
  try go_wp2_with (first | ((with_reducible refine gate_dst (N := 1) rfl ?_); refine be_ (N := 1) (cs := #[.int .i64 a0_0, .int .u64 a0_1]) (t := 32) ?_; intro gb244 hg w8 hbox hb; have BK244 := am_ (hbox); have GE244 := am_ (bz_ hg (qb_ HB.out) : w.heap.size ≤ gb244); replace HB := am_ (below_step (qb_ HB.out) hb); clear hb hbox hg; obtain ⟨Z9_0, Z9_1, Y9_0, Y9_1⟩ := cz2_ BK244.out))
  replace BK244 := am_ (blk_drew BK244.out)
  replace HB := am_ (below_drew1 HB.out)
  refine start_ (n := 4) (S := cS2_ gb244 (.int .i64 a0_0) (.int .u64 a0_1)) (ds := []) (nb_ 4 0) (by kernel_rfl) rfl rfl (cc2_ BK244.out) (fun hHeld => ?_)
  generalize w8.drew = w10 at BK244 HB hHeld ⊢
  refine pure_ (i := 0) (N := some 8) (v := ?_) (a' := ?_) (nb_ 4 1) rfl rfl (by kernel_rfl) (fun _ _ _ h => h) (Or.inl ⟨by rfl, ?_⟩) ?_ ?_
  rotate_left
  ·intro w'
   go_simp
   with_reducible rfl
  rotate_left
  ·simp only [Act.put, List.setIfInBounds_toArray, List.set_cons_zero, List.set_cons_succ, i64_w, i32_w]
   rfl
  refine take_ (i := 2) (N := some 10) (v := ?_) (a' := ?_) (nb_ 4 5) rfl rfl (by kernel_rfl) (fun _ _ _ h => h) (Or.inl ⟨by rfl, ?_⟩) hHeld ?_ ?_
  rotate_left
  ·rintro w' ⟨s0, s1⟩
   go_simp
   with_reducible rfl
  rotate_left
  ·simp only [Act.put, List.setIfInBounds_toArray, List.set_cons_zero, List.set_cons_succ, i64_w, i32_w]
   rfl
  refine one_ (i := 1) (N := some 9) (nb_ 4 7) rfl rfl (by kernel_rfl) (by decide) (fun K hK => ?_)
  refine goes_ Tryd.func98 (by kernel_rfl) rfl #[.int .i64 (wrap64 (a0_1))] (by rfl) rfl rfl ql_ ?_
  with_reducible refine (wide_Of.calls (wrap64 (a0_1)) t245 t246 _ A2.out).mono ?_
  rintro e w11 ⟨rfl, hb⟩
  refine ⟨_, rfl, ?_⟩
  replace BK244 := am_ (blk_below (qk_ BK244.out) hb)
  replace HB := am_ (below_step (qb1_ GE244.out HB.out) hb)
  (try clear hb)
  refine hK.out _ _ (cc2_ BK244.out) (fun hHeld => ?_)
  clear hK K
  refine no_ ?_
  refine pure_ (i := 3) (N := some 11) (v := ?_) (a' := ?_) (nb_ 4 15) rfl rfl (by kernel_rfl) (fun _ _ _ h => h) (Or.inl ⟨by rfl, ?_⟩) ?_ ?_
  rotate_left
  ·intro w'
   go_simp
   with_reducible rfl
  rotate_left
  ·simp only [Act.put, List.setIfInBounds_toArray, List.set_cons_zero, List.set_cons_succ, i64_w, i32_w]
   rfl
  refine done_ (by kernel_rfl) ?_
  try go_wp2
  go_ret2
  exact ⟨qe_, qb1_ GE244.out HB.out⟩
def wide_Int.f (a0_0 a0_1 : Int) : Option (Int × Bool) :=
 if isW a0_0 a0_1 then some (if inI (wv a0_0 a0_1) then (wv a0_0 a0_1, true) else (0, false)) else none
theorem wide_Int.eq {a b : Int} {r : Int × Bool} (h : wide_Int.f a b = some r) : wide_IntP.f a b = some r := by
 unfold wide_Int.f at h
 split at h
 ·rename_i c
  obtain ⟨⟨c0, c1⟩, c2, c3⟩ := c
  injection h with h
  subst h
  unfold wide_IntP.f wide_Of.f
  rw [if_pos (by unfold inI wrap64; omega)]
  simp only [Option.bind_some]
  by_cases e : inI (wv a b)
  ·rw [if_pos e]
   unfold inI wv at e
   have e1 : wrap64 b / 18446744073709551616 = a := by unfold wrap64; omega
   have e2 : wrap64 b % 18446744073709551616 = b := by unfold wrap64; omega
   rw [e1, e2, if_neg (by simp)]
   congr 2
   unfold wrap64 wv
   omega
  ·rw [if_neg e]
   unfold inI wv at e
   have e1 : wrap64 b / 18446744073709551616 ≠ a := by unfold wrap64; omega
   rw [if_pos (by simp [e1])]
 ·cases h
theorem wide_Int.calls (a0_0 a0_1 r1 : Int) (r2 : Bool) (w : World) (h : wide_Int.f a0_0 a0_1 = some (r1, r2)) :
  Calls Tryd.prog 100 #[.agg #[.int .i64 a0_0, .int .u64 a0_1]] w fun e w' => e = .returned (.tuple #[.int .i64 r1, .bool r2]) ∧ Below w.heap.size w w' := by
 have h := wide_Int.eq h
 exact wide_IntP.calls a0_0 a0_1 r1 r2 w h
end Go.Proofs.YtogcdcjbleafdaaDoor.PS
end
section
namespace Go.Proofs.YtogcdcjbleafdaaDoor.PS
open Go.RowKit Go.Proofs.YtogcdcjbleafdaaDoorW.PrintWords Go.Proofs.YtogcdcjbleafdaaDoorW.PrintLast Go.Proofs.YtogcdcjbleafdaaDoorW.PrintMore
attribute [local go_sem] max2_int min2_int max_two min_two
set_option linter.unusedVariables false
set_option linter.unusedSimpArgs false
mutual
def rounding_DivideP.j0 : Nat → Int → Int → Bool → Int → Int → Option (Int × Int)
 | 0, _, _, _, _, _ => none
 | k + 1, x1, x2, x19, x248000, x248001 => if x19 = true then (some (0, 1)) else ((wide_Div.f x248000 x248001 x1).bind fun bt249 => (if bt249.2.2.1 > 0 then ((rounding_more.f bt249.1 bt249.2.1 bt249.2.2.1 x1 x2).bind fun t254 => ((wide_Of.f t254).bind fun bt255 => ((wide_Add.f bt249.1 bt249.2.1 bt255.1 bt255.2).bind fun bt257 => (rounding_DivideP.j1 k bt257.1 bt257.2.1)))) else (rounding_DivideP.j1 k bt249.1 bt249.2.1)))
def rounding_DivideP.j1 : Nat → Int → Int → Option (Int × Int)
 | 0, _, _ => none
 | k + 1, x254000, x254001 => (wide_Int.f x254000 x254001).bind fun bt260 => (if bt260.2 = true then (some (bt260.1, 0)) else (some (0, 6)))
end
def rounding_DivideP.f (k : Nat) (a0_0 a0_1 a1 a2 : Int) : Option (Int × Int) := if a1 < 1 then (rounding_DivideP.j0 k a1 a2 true a0_0 a0_1) else ((rounding_Valid.f a2).bind fun t248 => (rounding_DivideP.j0 k a1 a2 (!t248) a0_0 a0_1))
def rounding_DivideP.T5 : Bool × List (List Nat × List Nat) := (true, [([], []), ([], []), ([], []), ([], []), ([], []), ([1, 2, 3, 4], [1, 2, 3, 4]), ([5, 5], [5]), ([0, 6, 6], [0, 6]), ([7], [7]), ([8], [8]), ([8], [8]), ([9, 7, 0, 1, 2, 3, 4, 5, 6, 7, 8, 9], [9])])
def rounding_DivideP.B5 : List Nat := [0, 0, 0, 0, 0, 30, 62, 127, 255, 511, 511, 1023]
theorem rounding_DivideP.tab5 : rtab .any (opsOf Tryd.f71 5) = rounding_DivideP.T5 := by kernel_rfl
theorem rounding_DivideP.bits5 : waitsOk rounding_DivideP.T5.2 rounding_DivideP.B5 = true := by kernel_rfl
set_option maxHeartbeats 8000000 in
set_option maxRecDepth 100000 in
theorem rounding_DivideP.calls (k : Nat) (a0_0 a0_1 a1 a2 r1 r2 : Int) (w : World) (hG : GW w) (h : rounding_DivideP.f k a0_0 a0_1 a1 a2 = some (r1, r2)) :
  Calls Tryd.prog 71 #[.agg #[.int .i64 a0_0, .int .u64 a0_1], .int .i64 a1, .int .i64 a2] w fun e w' => e = .returned (.tuple #[.int .i64 r1, .int .i64 r2]) ∧ Below w.heap.size w w' := by
 have hu32 := Tryd.underlying32
 have HB := am_ (Below.refl w.heap.size w)
 have H := h
 clear h
 unfold rounding_DivideP.f at H
 have HC4 := am_ H
 clear H
 go_enter Tryd.func71, Tryd.ntmps71
 go_upto_region 1 with (first | ((with_reducible refine gate_dst (N := 3) rfl ?_); refine be_ (N := 3) (cs := #[.int .i64 a0_0, .int .u64 a0_1]) (t := 32) ?_; intro gb247 hg w5 hbox hb; have BK247 := am_ (hbox); have GE247 := am_ (bz_ hg (qb_ HB.out) : w.heap.size ≤ gb247); replace HB := am_ (below_step (qb_ HB.out) hb); clear hb hbox hg))
 (try simp only [Act.put, List.setIfInBounds_toArray, List.set_cons_zero, List.set_cons_succ])
 go_cut [19] (fun v19 wc => ∃ (kq : Nat) (x19_3 : Bool), v19 = .bool x19_3 ∧ Aside0 (rounding_DivideP.j0 kq a1 a2 x19_3 a0_0 a0_1 = some (r1, r2)) ∧ Aside0 (kq ≤ k) ∧ Aside0 (wc.heap[gb247]? = some (.cells #[.int .i64 a0_0, .int .u64 a0_1] 32 (0, 0))) ∧ Aside0 (Below w.heap.size w wc))
 case first =>
  have H := HC4.out
  clear HC4
  by_cases c6 : a1 < 1
  ·rw [if_pos c6] at H
   have c6b0 : decide (a1 < 1) = true := decide_eq_true c6
   clear c6
   (first | rw [c6b0] | (simp only [i64_w, i32_w]; rw [c6b0]) | skip)
   have H' := am_ H
   clear H
   go_wp2
   go_meet
   case rel => exact ⟨_, (true), qs_, H', ⟨qo_⟩, ⟨qk_ BK247.out⟩, ⟨qb1_ GE247.out HB.out⟩⟩
  ·rw [if_neg c6] at H
   have c6b0 : decide (a1 < 1) = false := decide_eq_false c6
   clear c6
   (first | rw [c6b0] | (simp only [i64_w, i32_w]; rw [c6b0]) | skip)
   replace H := Option.bind_eq_some_iff.mp H
   obtain ⟨t248, A70, H⟩ := H
   (try dsimp only at H)
   have A7 := am_ A70
   clear A70
   have H' := am_ H
   clear H
   go_wp2_with (first | (go_at_call 96; (with_reducible refine (rounding_Valid.calls a2 t248 _ A7.out).mono ?_); rintro e w' ⟨rfl, ⟨nd, rfl⟩⟩))
   go_meet
   case rel => exact ⟨_, (!t248), qs_, H', ⟨qo_⟩, ⟨qk_ BK247.out⟩, ⟨qb1_ GE247.out HB.out⟩⟩
 case rest =>
  clear HC4
  try clear p2
  try clear c6
  try clear c6b0
  try clear c7
  obtain ⟨kq, x19_3, rfl, HA, HJ3, BK247, HB⟩ := hcut
  cases kq with
  | zero => exact absurd HA.out (by simp [rounding_DivideP.j0])
  | succ kj3 =>
   have H := HA.out
   clear HA
   simp only [rounding_DivideP.j0] at H
   by_cases c8 : x19_3 = true
   ·subst c8
    rw [if_pos rfl] at H
    simp only [Option.some.injEq, Prod.mk.injEq] at H
    obtain ⟨rfl, rfl⟩ := H
    go_wp2
    go_ret2
    exact ⟨qe_, qb1_ GE247.out HB.out⟩
   ·replace c8 := Bool.eq_false_iff.mpr c8
    subst c8
    rw [if_neg (show ¬ (false = true) by decide)] at H
    replace H := Option.bind_eq_some_iff.mp H
    obtain ⟨⟨t249, t250, t251, t252⟩, A90, H⟩ := H
    (try dsimp only at H)
    have A9 := am_ A90
    clear A90
    have HC10 := am_ H
    clear H
    obtain ⟨Z11_0, Z11_1, Y11_0, Y11_1⟩ := cz2_ BK247.out
    go_upto_if 28 with (first | ((with_reducible refine gate_callee (f := 97) rfl ?_); refine goesL_ (some 23) rfl rfl Tryd.func97 (by kernel_rfl) rfl #[.agg #[.int .i64 a0_0, .int .u64 a0_1], .int .i64 a1] rfl ql_ ?_; (with_reducible refine (wide_Div.calls a0_0 a0_1 a1 t249 t250 t251 t252 _ A9.out).mono ?_); rintro e w12 ⟨rfl, hb⟩; refine ⟨_, rfl, ?_⟩; replace BK247 := am_ (blk_below (qk_ BK247.out) hb); replace HB := am_ (below_step (qb1_ GE247.out HB.out) hb); (try clear hb)) | ((with_reducible refine gate_dst (N := 8) rfl ?_); refine be_ (N := 8) (cs := #[.int .i64 0, .int .u64 0]) (t := 32) ?_; intro gb253 hg w13 hbox hb; have BK253 := am_ (hbox); have GE253 := am_ (bz_ hg (qb1_ GE247.out HB.out) : w.heap.size ≤ gb253); replace HB := am_ (below_step (qb1_ GE247.out HB.out) hb); have NB247_253 := am_ (nl_ hg (qk_ BK247.out) : gb247 ≠ gb253); have NB253_247 := am_ (ng_ hg (qk_ BK247.out) : gb253 ≠ gb247); replace BK247 := am_ (blk_below (qk_ BK247.out) hb); clear hb hbox hg; have hnb14 := NB253_247.out; have hnc14 := NB247_253.out; obtain ⟨Z15_0, Z15_1, Y15_0, Y15_1⟩ := cz2_ BK253.out))
    (try simp only [Act.put, List.setIfInBounds_toArray, List.set_cons_zero, List.set_cons_succ])
    go_cut [] (fun wc => ∃ (kq : Nat) (x254000_9 x254001_9 : Int), Aside0 (rounding_DivideP.j1 kq x254000_9 x254001_9 = some (r1, r2)) ∧ Aside0 (kq ≤ kj3) ∧ Aside0 (wc.heap[gb247]? = some (.cells #[.int .i64 a0_0, .int .u64 a0_1] 32 (0, 0))) ∧ Aside0 (wc.heap[gb253]? = some (.cells #[.int .i64 x254000_9, .int .u64 x254001_9] 32 (0, 0))) ∧ Aside0 (Below w.heap.size w wc))
    case first =>
     have H := HC10.out
     clear HC10
     by_cases c16 : t251 > 0
     ·rw [if_pos c16] at H
      have c16b0 : decide (0 < t251) = true := decide_eq_true c16
      clear c16
      (first | rw [c16b0] | (simp only [i64_w, i32_w]; rw [c16b0]) | skip)
      replace H := Option.bind_eq_some_iff.mp H
      obtain ⟨t254, A170, H⟩ := H
      (try dsimp only at H)
      have A17 := am_ A170
      clear A170
      replace H := Option.bind_eq_some_iff.mp H
      obtain ⟨⟨t255, t256⟩, A180, H⟩ := H
      (try dsimp only at H)
      have A18 := am_ A180
      clear A180
      replace H := Option.bind_eq_some_iff.mp H
      obtain ⟨⟨t257, t258, t259⟩, A190, H⟩ := H
      (try dsimp only at H)
      have A19 := am_ A190
      clear A190
      have H' := am_ H
      clear H
      try go_wp2
      have n0_ : Aside0 (((w13.setCell ⟨gb253, 0, none⟩ (.int .i64 t249)).setCell ⟨gb253, 1, none⟩ (.int .u64 t250)).heap[gb247]? = some (.cells #[.int .i64 a0_0, .int .u64 a0_1] 32 (0, 0))) := ⟨qff_ NB247_253.out NB247_253.out BK247.out⟩
      have n1_ : Aside0 (((w13.setCell ⟨gb253, 0, none⟩ (.int .i64 t249)).setCell ⟨gb253, 1, none⟩ (.int .u64 t250)).heap[gb253]? = some (.cells #[.int .i64 t249, .int .u64 t250] 32 (0, 0))) := ⟨qpp_ #[.int .i64 t249, .int .u64 0] 1 #[.int .i64 0, .int .u64 0] 0 BK253.out⟩
      have n2_ : Aside0 (Below w.heap.size w ((w13.setCell ⟨gb253, 0, none⟩ (.int .i64 t249)).setCell ⟨gb253, 1, none⟩ (.int .u64 t250))) := ⟨qb2_ GE247.out GE253.out HB.out⟩
      (try clear BK247)
      (try clear BK253)
      (try clear HB)
      generalize ((w13.setCell ⟨gb253, 0, none⟩ (.int .i64 t249)).setCell ⟨gb253, 1, none⟩ (.int .u64 t250)) = w20 at n0_ n1_ n2_ ⊢
      have BK247 := n0_
      have BK253 := n1_
      have HB := n2_
      clear n0_ n1_ n2_
      replace BK247 := am_ (blk_drew BK247.out)
      replace BK253 := am_ (blk_drew BK253.out)
      replace HB := am_ (below_drew1 HB.out)
      refine start_ (n := 12) (S := cS2_ gb253 (.int .i64 t249) (.int .u64 t250)) (ds := [11]) (nb_ 12 0) (by kernel_rfl) rfl rfl (cc2_ BK253.out) (fun hHeld => ?_); refine with_tabW rounding_DivideP.tab5 rounding_DivideP.bits5 (fun HT_ HW_ => ?_)
      generalize w20.drew = w21 at BK247 BK253 HB hHeld ⊢
      refine pz_ 2 32 (nb_ 12 4) HT_.out ?_
      refine pz_ 3 33 (nb_ 12 12) HT_.out ?_
      refine pz_ 4 34 (nb_ 12 28) HT_.out ?_
      refine tk2_ 0 30 (nb_ 12 29) HT_.out HW_.out hHeld ?_
      refine tk2_ 1 31 (nb_ 12 31) HT_.out HW_.out hHeld ?_
      refine on_ 5 35 (nb_ 12 63) HT_.out (fun K hK => ?_)
      refine goes_ Tryd.func99 (by kernel_rfl) rfl #[.agg #[.int .i64 t249, .int .u64 t250], .int .i64 t251, .int .i64 a1, .int .i64 a2] (by rfl) rfl rfl ql_ ?_
      with_reducible refine (rounding_more.calls (hG := by first | exact hG | (with_reducible exact GW.below hG (qb2_ GE247.out GE253.out HB.out)) | (with_reducible repeat (first | exact hG | apply GW.drewN | apply GW.drew))) t249 t250 t251 a1 a2 t254 _ A17.out).mono ?_
      rintro e w22 ⟨rfl, hb⟩
      refine ⟨_, rfl, ?_⟩
      replace BK247 := am_ (blk_below (qk_ BK247.out) hb)
      replace BK253 := am_ (blk_below (qk_ BK253.out) hb)
      replace HB := am_ (below_step (qb2_ GE247.out GE253.out HB.out) hb)
      (try clear hb)
      refine hK.out _ _ (cc2_ BK253.out) (fun hHeld => ?_)
      clear hK K
      refine no_ ?_
      refine on_ 6 36 (nb_ 12 127) HT_.out (fun K hK => ?_)
      refine goes_ Tryd.func98 (by kernel_rfl) rfl #[.int .i64 t254] (by rfl) rfl rfl ql_ ?_
      with_reducible refine (wide_Of.calls t254 t255 t256 _ A18.out).mono ?_
      rintro e w23 ⟨rfl, hb⟩
      refine ⟨_, rfl, ?_⟩
      replace BK247 := am_ (blk_below (qk_ BK247.out) hb)
      replace BK253 := am_ (blk_below (qk_ BK253.out) hb)
      replace HB := am_ (below_step (qb2_ GE247.out GE253.out HB.out) hb)
      (try clear hb)
      refine hK.out _ _ (cc2_ BK253.out) (fun hHeld => ?_)
      clear hK K
      refine no_ ?_
      refine on_ 7 37 (nb_ 12 255) HT_.out (fun K hK => ?_)
      refine goes_ Tryd.func30 (by kernel_rfl) rfl #[.agg #[.int .i64 t249, .int .u64 t250], .agg #[.int .i64 t255, .int .u64 t256]] (by rfl) rfl rfl ql_ ?_
      with_reducible refine (wide_Add.calls t249 t250 t255 t256 t257 t258 t259 _ A19.out).mono ?_
      rintro e w24 ⟨rfl, hb⟩
      refine ⟨_, rfl, ?_⟩
      replace BK247 := am_ (blk_below (qk_ BK247.out) hb)
      replace BK253 := am_ (blk_below (qk_ BK253.out) hb)
      replace HB := am_ (below_step (qb2_ GE247.out GE253.out HB.out) hb)
      (try clear hb)
      refine hK.out _ _ (cc2_ BK253.out) (fun hHeld => ?_)
      clear hK K
      refine no_ ?_
      refine pz_ 8 29 (nb_ 12 511) HT_.out ?_
      refine pz_ 9 38 (nb_ 12 1023) HT_.out ?_
      refine pz_ 10 39 (nb_ 12 2047) HT_.out ?_
      refine last_ (i := 11) (N := none) (nb_ 12 4095) rfl rfl (one_of HT_.out (by kernel_rfl)) (by decide) (fun K hK => ?_)
      have hs25 : w24.cell? ⟨gb253, 0, none⟩ = some (.int .i64 t249) := (blk_cell BK253.out 0).trans rfl
      have hfs25 := blk_frozen BK253.out 0
      have hns25_0 := NB247_253.out
      have hms25_0 := NB253_247.out
      have hs26 : w24.cell? ⟨gb253, 1, none⟩ = some (.int .u64 t250) := (blk_cell BK253.out 1).trans rfl
      have hfs26 := blk_frozen BK253.out 1
      have hns26_0 := NB247_253.out
      have hms26_0 := NB253_247.out
      refine skip_ (w1 := ?_) (by rfl) rfl ?_ ?_
      rotate_left
      ·go_simp
       rfl
      refine hK.out _ _ ?_
      clear hK K
      refine done_ (done_of HT_.out (by kernel_rfl)) ?_
      try go_wp2
      go_meet
      case rel => exact ⟨_, (t257), (t258), H', ⟨by have := HJ3.out; first | omega | exact Nat.le_refl _⟩, ⟨qff_ NB247_253.out NB247_253.out BK247.out⟩, ⟨qpp_ #[.int .i64 t257, .int .u64 t250] 1 #[.int .i64 t249, .int .u64 t250] 0 BK253.out⟩, ⟨qb2_ GE247.out GE253.out HB.out⟩⟩
     ·rw [if_neg c16] at H
      have c16b0 : decide (0 < t251) = false := decide_eq_false c16
      clear c16
      (first | rw [c16b0] | (simp only [i64_w, i32_w]; rw [c16b0]) | skip)
      have H' := am_ H
      clear H
      go_wp2
      go_meet
      case rel => exact ⟨_, (t249), (t250), H', ⟨by have := HJ3.out; first | omega | exact Nat.le_refl _⟩, ⟨qff_ NB247_253.out NB247_253.out BK247.out⟩, ⟨qpp_ #[.int .i64 t249, .int .u64 0] 1 #[.int .i64 0, .int .u64 0] 0 BK253.out⟩, ⟨qb2_ GE247.out GE253.out HB.out⟩⟩
    case rest =>
     clear HC10
     try clear c1
     try clear p2
     try clear c3
     try clear c6
     try clear c6b0
     try clear c7
     try clear c8
     try clear c9
     try clear c14
     try clear c16
     try clear c16b0
     (try clear Z11_0 Z11_1 Y11_0 Y11_1)
     (try clear Z15_0 Z15_1 Y15_0 Y15_1)
     try clear p2
     obtain ⟨kq, x254000_9, x254001_9, HA, HJ9, BK247, BK253, HB⟩ := hcut
     cases kq with
     | zero => exact absurd HA.out (by simp [rounding_DivideP.j1])
     | succ kj9 =>
      have H := HA.out
      clear HA
      simp only [rounding_DivideP.j1] at H
      replace H := Option.bind_eq_some_iff.mp H
      obtain ⟨⟨t260, t261⟩, A270, H⟩ := H
      (try dsimp only at H)
      have A27 := am_ A270
      clear A270
      by_cases c28 : t261 = true
      ·subst c28
       rw [if_pos rfl] at H
       simp only [Option.some.injEq, Prod.mk.injEq] at H
       obtain ⟨rfl, rfl⟩ := H
       have hnb29 := NB253_247.out
       have hnc29 := NB247_253.out
       obtain ⟨Z30_0, Z30_1, Y30_0, Y30_1⟩ := cz2_ BK253.out
       go_wp2_with (first | ((with_reducible refine gate_callee (f := 100) rfl ?_); refine goesL_ (some 42) rfl rfl Tryd.func100 (by kernel_rfl) rfl #[.agg #[.int .i64 x254000_9, .int .u64 x254001_9]] rfl ql_ ?_; (with_reducible refine (wide_Int.calls x254000_9 x254001_9 t260 true _ A27.out).mono ?_); rintro e w31 ⟨rfl, hb⟩; refine ⟨_, rfl, ?_⟩; have n1_ := am_ (blk_below (qk_ BK253.out) hb); have n2_ := am_ (below_step (qb2_ GE247.out GE253.out HB.out) hb); (try clear BK247); clear BK253; clear HB; have BK253 := n1_; have HB := n2_; clear n1_ n2_; (try clear hb)))
       go_ret2
       exact ⟨qe_, qb2_ GE247.out GE253.out HB.out⟩
      ·replace c28 := Bool.eq_false_iff.mpr c28
       subst c28
       rw [if_neg (show ¬ (false = true) by decide)] at H
       simp only [Option.some.injEq, Prod.mk.injEq] at H
       obtain ⟨rfl, rfl⟩ := H
       have hnb32 := NB253_247.out
       have hnc32 := NB247_253.out
       obtain ⟨Z33_0, Z33_1, Y33_0, Y33_1⟩ := cz2_ BK253.out
       go_wp2_with (first | ((with_reducible refine gate_callee (f := 100) rfl ?_); refine goesL_ (some 42) rfl rfl Tryd.func100 (by kernel_rfl) rfl #[.agg #[.int .i64 x254000_9, .int .u64 x254001_9]] rfl ql_ ?_; (with_reducible refine (wide_Int.calls x254000_9 x254001_9 t260 false _ A27.out).mono ?_); rintro e w34 ⟨rfl, hb⟩; refine ⟨_, rfl, ?_⟩; have n2_ := am_ (below_step (qb2_ GE247.out GE253.out HB.out) hb); (try clear BK253); clear HB; have HB := n2_; clear n2_; (try clear hb)))
       go_ret2
       exact ⟨qe_, qb2_ GE247.out GE253.out HB.out⟩
def rounding_Divide.f (a0_0 a0_1 a1 a2 : Int) : Option (Int × Int) := if isW a0_0 a0_1 ∧ inI a1 then some (divR (wv a0_0 a0_1) a1 a2) else none
theorem rounding_Divide.eq {a b n m : Int} {r : Int × Int} (h : rounding_Divide.f a b n m = some r) : ∃ k, rounding_DivideP.f k a b n m = some r := by
 unfold rounding_Divide.f at h
 split at h
 ·rename_i q
  obtain ⟨⟨⟨a0, a1⟩, b0, b1⟩, n0, n1⟩ := q
  injection h with h
  subst h
  refine ⟨2, ?_⟩
  unfold rounding_DivideP.f divR
  by_cases hn : n < 1
  ·rw [if_pos hn, if_pos (.inl hn)]
   simp only [rounding_DivideP.j0]
   rw [if_pos trivial]
  ·rw [if_neg hn]
   by_cases hm : m < 1 ∨ 6 < m
   ·rw [if_pos (.inr hm)]
    have hval : rounding_Valid.f m = some false := by
     unfold rounding_Valid.f
     split
     ·congr 1; apply decide_eq_false; omega
     ·rfl
    rw [hval]
    simp only [Option.bind_some, rounding_DivideP.j0]
    rfl
   ·rw [if_neg (by omega)]
    have hval : rounding_Valid.f m = some true := by
     unfold rounding_Valid.f
     rw [if_pos (by omega)]
     congr 1; apply decide_eq_true; omega
    rw [hval]
    simp only [Option.bind_some, rounding_DivideP.j0]
    rw [if_neg (by decide)]
    unfold wide_Div.f
    rw [if_pos ⟨⟨⟨a0, a1⟩, b0, b1⟩, n0, n1⟩, if_neg hn]
    simp only [Option.bind_some]
    have hv : wv a b = a * 18446744073709551616 + b := rfl
    have vr : -170141183460469231731687303715884105728 ≤ wv a b ∧ wv a b ≤ 170141183460469231731687303715884105727 := by omega
    generalize wv a b = v at *
    have r0 := Int.emod_nonneg v (show n ≠ 0 by omega)
    have r1 := Int.emod_lt_of_pos v (show 0 < n by omega)
    have h3 := Int.emod_add_mul_ediv v n
    have qr : -170141183460469231731687303715884105728 ≤ v / n ∧ v / n ≤ 170141183460469231731687303715884105727 := by
     by_cases hv0 : 0 ≤ v
     ·have := Int.ediv_nonneg hv0 (show 0 ≤ n by omega)
      have := Int.ediv_le_self n hv0
      omega
     ·have h4 : v / n < 0 := Int.ediv_neg_of_neg_of_pos (by omega) (by omega)
      have h5 := Int.mul_le_mul_of_nonpos_right (show 1 ≤ n by omega) (show v / n + 1 ≤ 0 by omega)
      rw [Int.mul_add, Int.mul_one, Int.one_mul] at h5
      omega
    have hwq : wv (v / n / 18446744073709551616) (v / n % 18446744073709551616) = v / n := by unfold wv; omega
    unfold rq
    by_cases hr : v % n > 0
    ·rw [if_pos hr]
     have qs : v / n ≤ 170141183460469231731687303715884105726 := by
      by_cases h1n : n = 1
      ·subst h1n; rw [Int.emod_one] at hr; omega
      ·by_cases hq0 : 0 ≤ v / n
       ·have h4 : 2 * (v / n) ≤ n * (v / n) := Int.mul_le_mul_of_nonneg_right (by omega) hq0
        omega
       ·omega
     unfold rounding_more.f
     rw [if_pos ⟨by omega, by unfold inI; omega, by unfold inU; omega, hr, r1, by omega⟩]
     simp only [Option.bind_some]
     have hodd : decide (v / n % 18446744073709551616 % 2 = 1) = decide (v / n % 2 = 1) := by apply decide_eq_decide.mpr; omega
     have hneg : decide (v / n / 18446744073709551616 < 0) = decide (v / n < 0) := by apply decide_eq_decide.mpr; omega
     rw [hodd, hneg]
     have hup : (if 0 < v % n ∧ upB (decide (v / n < 0)) (decide (v / n % 2 = 1)) (v % n) n m = true then (1 : Int) else 0) = (if upB (decide (v / n < 0)) (decide (v / n % 2 = 1)) (v % n) n m = true then 1 else 0) := by
      by_cases hu : upB (decide (v / n < 0)) (decide (v / n % 2 = 1)) (v % n) n m = true
      ·rw [if_pos ⟨hr, hu⟩, if_pos hu]
      ·rw [if_neg (fun hc => hu hc.2), if_neg hu]
     rw [hup]
     generalize hg : (if upB (decide (v / n < 0)) (decide (v / n % 2 = 1)) (v % n) n m = true then (1 : Int) else 0) = t
     have ht : 0 ≤ t ∧ t ≤ 1 := by rw [← hg]; split <;> omega
     unfold wide_Of.f wide_Add.f
     rw [if_pos (by unfold inI; omega)]
     simp only [Option.bind_some]
     have hwt : wv (t / 18446744073709551616) (t % 18446744073709551616) = t := by unfold wv; omega
     rw [if_pos ⟨⟨by unfold inI; omega, by unfold inU; omega⟩, by unfold inI; omega, by unfold inU; omega⟩, hwq, hwt, if_pos (by unfold in128; omega)]
     simp only [Option.bind_some, rounding_DivideP.j1]
     have hws : wv ((v / n + t) / 18446744073709551616) ((v / n + t) % 18446744073709551616) = v / n + t := by unfold wv; omega
     unfold wide_Int.f
     rw [if_pos ⟨by unfold inI; omega, by unfold inU; omega⟩, hws]
     split <;> rfl
    ·have hz : (if 0 < v % n ∧ upB (decide (v / n < 0)) (decide (v / n % 2 = 1)) (v % n) n m = true then (1 : Int) else 0) = 0 := if_neg (fun hc => hr hc.1)
     rw [if_neg hr, hz, Int.add_zero]
     simp only [rounding_DivideP.j1]
     unfold wide_Int.f
     rw [if_pos ⟨by unfold inI; omega, by unfold inU; omega⟩, hwq]
     split <;> rfl
 ·cases h
theorem rounding_Divide.calls (a0_0 a0_1 a1 a2 r1 r2 : Int) (w : World) (hG : GW w) (h : rounding_Divide.f a0_0 a0_1 a1 a2 = some (r1, r2)) :
  Calls Tryd.prog 71 #[.agg #[.int .i64 a0_0, .int .u64 a0_1], .int .i64 a1, .int .i64 a2] w fun e w' => e = .returned (.tuple #[.int .i64 r1, .int .i64 r2]) ∧ Below w.heap.size w w' := by
 obtain ⟨k, h⟩ := rounding_Divide.eq h
 exact rounding_DivideP.calls k a0_0 a0_1 a1 a2 r1 r2 w hG h
def rounding_valid.f (a0 : Int) : Option (Bool) := if a0 ≥ (-1000000000000) then (some (decide (a0 ≤ 1000000000000))) else (some false)
set_option maxHeartbeats 8000000 in
set_option maxRecDepth 100000 in
theorem rounding_valid.calls (a0 : Int) (r : Bool) (w : World) (h : rounding_valid.f a0 = some r) :
  Calls Tryd.prog 72 #[.int .i64 a0] w fun e w' => e = .returned (.bool r) ∧ Drawn0 w w' := by
 have H := h
 clear h
 unfold rounding_valid.f at H
 by_cases c2 : a0 ≥ (-1000000000000)
 ·rw [if_pos c2] at H
  have c2b0 : decide ((-1000000000000) ≤ a0) = true := decide_eq_true c2
  clear c2
  obtain rfl := Option.some.inj H
  go_enter Tryd.func72, Tryd.ntmps72
  go_wp2
  go_ret
  exact ⟨by first | rfl | (simp; done) | (simp [*]; done), by repeat (first | exact Drawn0.refl _ | apply Drawn0.step)⟩
 ·rw [if_neg c2] at H
  have c2b0 : decide ((-1000000000000) ≤ a0) = false := decide_eq_false c2
  clear c2
  obtain rfl := Option.some.inj H
  go_enter Tryd.func72, Tryd.ntmps72
  go_wp2
  go_ret
  exact ⟨by first | rfl | (simp; done) | (simp [*]; done), by repeat (first | exact Drawn0.refl _ | apply Drawn0.step)⟩
def wide_SubP.j0 : Nat → Int → Int → Bool → Option (Int × Int × Int)
 | 0, _, _, _ => none
 | k + 1, x6, x8, x39 => if x39 = true then (some (0, 0, 6)) else (some (x8, x6, 0))
def wide_SubP.f (k : Nat) (a0_0 a0_1 a1_0 a1_1 : Int) : Option (Int × Int × Int) := if ((decide (a0_0 < 0)) != (decide (a1_0 < 0))) = true then (wide_SubP.j0 k (subLo a0_1 a1_1) (wrap64 ((wrap64 (a0_0 - a1_0)) - (wrap64 (subHi a0_1 a1_1)))) ((decide ((wrap64 ((wrap64 (a0_0 - a1_0)) - (wrap64 (subHi a0_1 a1_1)))) < 0)) != (decide (a0_0 < 0)))) else (wide_SubP.j0 k (subLo a0_1 a1_1) (wrap64 ((wrap64 (a0_0 - a1_0)) - (wrap64 (subHi a0_1 a1_1)))) false)
set_option maxHeartbeats 8000000 in
set_option maxRecDepth 100000 in
theorem wide_SubP.calls (k : Nat) (a0_0 a0_1 a1_0 a1_1 r1 r2 r3 : Int) (w : World) (h : wide_SubP.f k a0_0 a0_1 a1_0 a1_1 = some (r1, r2, r3)) :
  Calls Tryd.prog 73 #[.agg #[.int .i64 a0_0, .int .u64 a0_1], .agg #[.int .i64 a1_0, .int .u64 a1_1]] w fun e w' => e = .returned (.tuple #[.agg #[.int .i64 r1, .int .u64 r2], .int .i64 r3]) ∧ Below w.heap.size w w' := by
 have hu32 := Tryd.underlying32
 have hsub64 := sub64_run
 have HB := am_ (Below.refl w.heap.size w)
 have H := h
 clear h
 unfold wide_SubP.f at H
 have HC3 := am_ H
 clear H
 go_enter Tryd.func73, Tryd.ntmps73
 go_upto_region 3 with (first | ((with_reducible refine gate_dst (N := 2) rfl ?_); refine be_ (N := 2) (cs := #[.int .i64 a0_0, .int .u64 a0_1]) (t := 32) ?_; intro gb262 hg w4 hbox hb; have BK262 := am_ (hbox); have GE262 := am_ (bz_ hg (qb_ HB.out) : w.heap.size ≤ gb262); replace HB := am_ (below_step (qb_ HB.out) hb); clear hb hbox hg) | ((with_reducible refine gate_dst (N := 3) rfl ?_); refine be_ (N := 3) (cs := #[.int .i64 a1_0, .int .u64 a1_1]) (t := 32) ?_; intro gb263 hg w5 hbox hb; have BK263 := am_ (hbox); have GE263 := am_ (bz_ hg (qb1_ GE262.out HB.out) : w.heap.size ≤ gb263); replace HB := am_ (below_step (qb1_ GE262.out HB.out) hb); have NB262_263 := am_ (nl_ hg (qk_ BK262.out) : gb262 ≠ gb263); have NB263_262 := am_ (ng_ hg (qk_ BK262.out) : gb263 ≠ gb262); replace BK262 := am_ (blk_below (qk_ BK262.out) hb); clear hb hbox hg) | ((with_reducible refine gate_dst (N := 4) rfl ?_); refine be_ (N := 4) (cs := #[.int .i64 0, .int .u64 0]) (t := 32) ?_; intro gb264 hg w6 hbox hb; have BK264 := am_ (hbox); have GE264 := am_ (bz_ hg (qb2_ GE262.out GE263.out HB.out) : w.heap.size ≤ gb264); replace HB := am_ (below_step (qb2_ GE262.out GE263.out HB.out) hb); have NB262_264 := am_ (nl_ hg (qk_ BK262.out) : gb262 ≠ gb264); have NB264_262 := am_ (ng_ hg (qk_ BK262.out) : gb264 ≠ gb262); replace BK262 := am_ (blk_below (qk_ BK262.out) hb); have NB263_264 := am_ (nl_ hg (qk_ BK263.out) : gb263 ≠ gb264); have NB264_263 := am_ (ng_ hg (qk_ BK263.out) : gb264 ≠ gb263); replace BK263 := am_ (blk_below (qk_ BK263.out) hb); clear hb hbox hg; have hnb7 := NB262_263.out; have hnc7 := NB263_262.out; have hnb8 := NB262_264.out; have hnc8 := NB264_262.out; obtain ⟨Z9_0, Z9_1, Y9_0, Y9_1⟩ := cz2_ BK262.out; have hnb10 := NB263_264.out; have hnc10 := NB264_263.out; obtain ⟨Z11_0, Z11_1, Y11_0, Y11_1⟩ := cz2_ BK263.out))
 (try simp only [Act.put, List.setIfInBounds_toArray, List.set_cons_zero, List.set_cons_succ])
 go_cut [39] (fun v39 wc => ∃ (kq : Nat) (x39_2 : Bool), v39 = .bool x39_2 ∧ Aside0 (wide_SubP.j0 kq (subLo a0_1 a1_1) (wrap64 ((wrap64 (a0_0 - a1_0)) - (wrap64 (subHi a0_1 a1_1)))) x39_2 = some (r1, r2, r3)) ∧ Aside0 (kq ≤ k) ∧ Aside0 (wc.heap[gb262]? = some (.cells #[.int .i64 a0_0, .int .u64 a0_1] 32 (0, 0))) ∧ Aside0 (wc.heap[gb263]? = some (.cells #[.int .i64 a1_0, .int .u64 a1_1] 32 (0, 0))) ∧ Aside0 (wc.heap[gb264]? = some (.cells #[.int .i64 0, .int .u64 0] 32 (0, 0))) ∧ Aside0 (Below w.heap.size w wc))
 case first =>
  have H := HC3.out
  clear HC3
  by_cases c12 : ((decide (a0_0 < 0)) != (decide (a1_0 < 0))) = true
  ·rw [if_pos c12] at H
   have c12b0 : ((decide (a0_0 < 0)) != (decide (a1_0 < 0))) = true := c12
   (try (have c12b1 : decide ((decide (a0_0 < 0)) = (decide (a1_0 < 0))) = false := by simpa using c12))
   (try (have c12b2 : ((decide (a0_0 < 0)) == (decide (a1_0 < 0))) = false := by simpa using c12))
   (try (have c12b3 : ¬ ((decide (a0_0 < 0)) = (decide (a1_0 < 0))) := by simpa using c12))
   clear c12
   (first | rw [c12b0] | (simp only [i64_w, i32_w]; rw [c12b0]) | skip)
   have H' := am_ H
   clear H
   have hnb13 := NB262_263.out
   have hnc13 := NB263_262.out
   have hnb14 := NB262_264.out
   have hnc14 := NB264_262.out
   obtain ⟨Z15_0, Z15_1, Y15_0, Y15_1⟩ := cz2_ BK262.out
   have hnb16 := NB263_264.out
   have hnc16 := NB264_263.out
   obtain ⟨Z17_0, Z17_1, Y17_0, Y17_1⟩ := cz2_ BK263.out
   go_wp2
   go_meet
   case rel => exact ⟨_, (((decide ((wrap64 ((wrap64 (a0_0 - a1_0)) - (wrap64 (subHi a0_1 a1_1)))) < 0)) != (decide (a0_0 < 0)))), qs_, H', ⟨qo_⟩, ⟨qk_ BK262.out⟩, ⟨qk_ BK263.out⟩, ⟨qk_ BK264.out⟩, ⟨qb3_ GE262.out GE263.out GE264.out HB.out⟩⟩
  ·rw [if_neg c12] at H
   have c12b0 : ((decide (a0_0 < 0)) != (decide (a1_0 < 0))) = false := by simpa using c12
   (try (have c12b1 : decide ((decide (a0_0 < 0)) = (decide (a1_0 < 0))) = true := by simpa using c12))
   (try (have c12b2 : ((decide (a0_0 < 0)) == (decide (a1_0 < 0))) = true := by simpa using c12))
   clear c12
   (first | rw [c12b0] | (simp only [i64_w, i32_w]; rw [c12b0]) | skip)
   have H' := am_ H
   clear H
   have hnb18 := NB262_263.out
   have hnc18 := NB263_262.out
   have hnb19 := NB262_264.out
   have hnc19 := NB264_262.out
   obtain ⟨Z20_0, Z20_1, Y20_0, Y20_1⟩ := cz2_ BK262.out
   have hnb21 := NB263_264.out
   have hnc21 := NB264_263.out
   obtain ⟨Z22_0, Z22_1, Y22_0, Y22_1⟩ := cz2_ BK263.out
   go_wp2
   go_meet
   case rel => exact ⟨_, (false), qs_, H', ⟨qo_⟩, ⟨qk_ BK262.out⟩, ⟨qk_ BK263.out⟩, ⟨qk_ BK264.out⟩, ⟨qb3_ GE262.out GE263.out GE264.out HB.out⟩⟩
 case rest =>
  clear HC3
  try clear c1
  try clear c2
  try clear p2
  try clear p6
  try clear c7
  try clear c8
  try clear c10
  try clear c12
  try clear c12b0
  try clear c12b1
  try clear c12b2
  try clear c13
  try clear c14
  try clear c16
  try clear c18
  try clear c19
  try clear c21
  (try clear Z11_0 Z11_1 Y11_0 Y11_1)
  (try clear Z15_0 Z15_1 Y15_0 Y15_1)
  (try clear Z17_0 Z17_1 Y17_0 Y17_1)
  (try clear Z20_0 Z20_1 Y20_0 Y20_1)
  (try clear Z22_0 Z22_1 Y22_0 Y22_1)
  (try clear Z9_0 Z9_1 Y9_0 Y9_1)
  obtain ⟨kq, x39_2, rfl, HA, HJ2, BK262, BK263, BK264, HB⟩ := hcut
  cases kq with
  | zero => exact absurd HA.out (by simp [wide_SubP.j0])
  | succ kj2 =>
   have H := HA.out
   clear HA
   simp only [wide_SubP.j0] at H
   by_cases c23 : x39_2 = true
   ·subst c23
    rw [if_pos rfl] at H
    simp only [Option.some.injEq, Prod.mk.injEq] at H
    obtain ⟨rfl, rfl, rfl⟩ := H
    have hnb24 := NB264_262.out
    have hnc24 := NB262_264.out
    have hnb25 := NB264_263.out
    have hnc25 := NB263_264.out
    obtain ⟨Z26_0, Z26_1, Y26_0, Y26_1⟩ := cz2_ BK264.out
    go_wp2
    refine bodyPost_ret (results_ct rfl _ _ gb264 32 #[.int .i64 0, .int .u64 0] (0, 0) _ rfl (qpp_ #[.int .i64 0, .int .u64 0] 1 #[.int .i64 0, .int .u64 0] 0 BK264.out) Tryd.underlying32 rfl (by kernel_rfl)) rfl ?_
    exact ⟨qe_, qb3_ GE262.out GE263.out GE264.out HB.out⟩
   ·replace c23 := Bool.eq_false_iff.mpr c23
    subst c23
    rw [if_neg (show ¬ (false = true) by decide)] at H
    simp only [Option.some.injEq, Prod.mk.injEq] at H
    obtain ⟨rfl, rfl, rfl⟩ := H
    have hnb27 := NB264_262.out
    have hnc27 := NB262_264.out
    have hnb28 := NB264_263.out
    have hnc28 := NB263_264.out
    obtain ⟨Z29_0, Z29_1, Y29_0, Y29_1⟩ := cz2_ BK264.out
    go_wp2
    refine bodyPost_ret (results_ct rfl _ _ gb264 32 #[.int .i64 (wrap64 ((wrap64 (a0_0 - a1_0)) - (wrap64 (subHi a0_1 a1_1)))), .int .u64 (subLo a0_1 a1_1)] (0, 0) _ rfl (qpp_ #[.int .i64 (wrap64 ((wrap64 (a0_0 - a1_0)) - (wrap64 (subHi a0_1 a1_1)))), .int .u64 0] 1 #[.int .i64 0, .int .u64 0] 0 BK264.out) Tryd.underlying32 rfl (by kernel_rfl)) rfl ?_
    exact ⟨qe_, qb3_ GE262.out GE263.out GE264.out HB.out⟩
def wide_Sub.f (a0_0 a0_1 a1_0 a1_1 : Int) : Option (Int × Int × Int) :=
 if isW a0_0 a0_1 ∧ isW a1_0 a1_1 then
  some (if in128 (wv a0_0 a0_1 - wv a1_0 a1_1) then ((wv a0_0 a0_1 - wv a1_0 a1_1) / 18446744073709551616, (wv a0_0 a0_1 - wv a1_0 a1_1) % 18446744073709551616, 0) else (0, 0, 6)) else none
theorem wide_Sub.eq {a b c d : Int} {r : Int × Int × Int} (h : wide_Sub.f a b c d = some r) : ∃ k, wide_SubP.f k a b c d = some r := by
 unfold wide_Sub.f at h
 split at h
 ·rename_i q
  obtain ⟨⟨⟨a0, a1⟩, b0, b1⟩, ⟨c0, c1⟩, d0, d1⟩ := q
  injection h with h
  subst h
  refine ⟨1, ?_⟩
  unfold wide_SubP.f
  simp only [wide_SubP.j0]
  have hl : subLo b d = (b - d) % 18446744073709551616 := by unfold subLo; omega
  have hh : subHi b d = -((b - d) / 18446744073709551616) := by unfold subHi; split <;> omega
  rw [hl, hh]
  have hw : wrap64 (wrap64 (a - c) - wrap64 (-((b - d) / 18446744073709551616))) = (a - c + (b - d) / 18446744073709551616 + 9223372036854775808) % 18446744073709551616 - 9223372036854775808 := by unfold wrap64; omega
  rw [hw]
  clear hl hh hw
  by_cases hin : in128 (wv a b - wv c d)
  ·rw [if_pos hin]
   unfold in128 wv at hin
   have e1 : (a - c + (b - d) / 18446744073709551616 + 9223372036854775808) % 18446744073709551616 - 9223372036854775808 = (wv a b - wv c d) / 18446744073709551616 := by unfold wv; omega
   have e2 : (b - d) % 18446744073709551616 = (wv a b - wv c d) % 18446744073709551616 := by unfold wv; omega
   have e3 : (wv a b - wv c d) / 18446744073709551616 = a - c + (b - d) / 18446744073709551616 := by unfold wv; omega
   rw [e1, e2]
   by_cases s1 : a < 0 <;> by_cases s2 : c < 0
   ·simp [s1, s2]
   ·have s3 : (wv a b - wv c d) / 18446744073709551616 < 0 := by omega
    simp [s1, s2, s3]
   ·have s3 : ¬ (wv a b - wv c d) / 18446744073709551616 < 0 := by omega
    simp [s1, s2, s3]
   ·simp [s1, s2]
  ·rw [if_neg hin]
   unfold in128 wv at hin
   by_cases s1 : a < 0 <;> by_cases s2 : c < 0
   ·omega
   ·have s3 : ¬ (a - c + (b - d) / 18446744073709551616 + 9223372036854775808) % 18446744073709551616 - 9223372036854775808 < 0 := by omega
    simp [s1, s2, s3]
   ·have s3 : (a - c + (b - d) / 18446744073709551616 + 9223372036854775808) % 18446744073709551616 - 9223372036854775808 < 0 := by omega
    simp [s1, s2, s3]
   ·omega
 ·cases h
theorem wide_Sub.calls (a0_0 a0_1 a1_0 a1_1 r1 r2 r3 : Int) (w : World) (h : wide_Sub.f a0_0 a0_1 a1_0 a1_1 = some (r1, r2, r3)) :
  Calls Tryd.prog 73 #[.agg #[.int .i64 a0_0, .int .u64 a0_1], .agg #[.int .i64 a1_0, .int .u64 a1_1]] w fun e w' => e = .returned (.tuple #[.agg #[.int .i64 r1, .int .u64 r2], .int .i64 r3]) ∧ Below w.heap.size w w' := by
 obtain ⟨k, h⟩ := wide_Sub.eq h
 exact wide_SubP.calls k a0_0 a0_1 a1_0 a1_1 r1 r2 r3 w h
end Go.Proofs.YtogcdcjbleafdaaDoor.PS
end
