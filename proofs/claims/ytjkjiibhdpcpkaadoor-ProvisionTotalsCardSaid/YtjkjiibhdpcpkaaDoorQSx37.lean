import Derived.Test.YtjkjiibhdpcpkaaDoorQRm2
import Derived.Test.YtjkjiibhdpcpkaaDoorQSx29
import Derived.Test.YtjkjiibhdpcpkaaDoorQSx33
import Derived.Test.YtjkjiibhdpcpkaaDoorQSx35
import Derived.Test.YtjkjiibhdpcpkaaDoorQSx36
namespace Go.Proofs.YtjkjiibhdpcpkaaDoor.PS
open Go.RowKit Go.Proofs.YtjkjiibhdpcpkaaDoorW.PrintWords Go.Proofs.YtjkjiibhdpcpkaaDoorW.PrintLast
set_option linter.unusedVariables false
set_option linter.unusedSimpArgs false
mutual
def corebankref02_DivideP.j0 : Nat → Int → Int → Bool → Int → Int → Option (Int × Int)
 | 0, _, _, _, _, _ => none
 | k + 1, x1, x2, x21, x359000, x359001 => if x21 = true then (some (0, 1)) else ((corebankref01_Div.f x359000 x359001 x1).bind fun bt360 => (if bt360.2.2.1 > 0 then ((corebankref02_up.f (decide (x359000 < 0)) ((Int.tmod bt360.2.1 2) == 1) bt360.2.2.1 x1 x2).bind fun t365 => (corebankref02_DivideP.j1 k t365 bt360.1 bt360.2.1)) else (corebankref02_DivideP.j1 k false bt360.1 bt360.2.1)))
def corebankref02_DivideP.j1 : Nat → Bool → Int → Int → Option (Int × Int)
 | 0, _, _, _ => none
 | k + 1, x43, x365000, x365001 => if x43 = true then ((corebankref01_Of.f 1).bind fun bt366 => ((corebankref01_Add.f x365000 x365001 bt366.1 bt366.2).bind fun bt368 => (corebankref02_DivideP.j2 k bt368.1 bt368.2.1))) else (corebankref02_DivideP.j2 k x365000 x365001)
def corebankref02_DivideP.j2 : Nat → Int → Int → Option (Int × Int)
 | 0, _, _ => none
 | k + 1, x365000, x365001 => (corebankref01_Int.f x365000 x365001).bind fun bt372 => (if bt372.2 = true then (some (bt372.1, 0)) else (some (0, 6)))
end
def corebankref02_DivideP.f (k : Nat) (a0_0 a0_1 a1 a2 : Int) : Option (Int × Int) := if a1 < 1 then (corebankref02_DivideP.j0 k a1 a2 true a0_0 a0_1) else ((corebankref02_Valid.f a2).bind fun t359 => (corebankref02_DivideP.j0 k a1 a2 (!t359) a0_0 a0_1))
theorem corebankref02_DivideP.mono_l : ∀ k, (∀ y0 y1 y2 y3 y4, LeO (corebankref02_DivideP.j0 k y0 y1 y2 y3 y4) (corebankref02_DivideP.j0 (k + 1) y0 y1 y2 y3 y4)) ∧ (∀ y0 y1 y2, LeO (corebankref02_DivideP.j1 k y0 y1 y2) (corebankref02_DivideP.j1 (k + 1) y0 y1 y2)) ∧ (∀ y0 y1, LeO (corebankref02_DivideP.j2 k y0 y1) (corebankref02_DivideP.j2 (k + 1) y0 y1))
 | 0 => ⟨fun _ _ _ _ _ r h => by simp [corebankref02_DivideP.j0] at h, fun _ _ _ r h => by simp [corebankref02_DivideP.j1] at h, fun _ _ r h => by simp [corebankref02_DivideP.j2] at h⟩
 | k + 1 => by
  obtain ⟨ih0, ih1, ih2⟩ := corebankref02_DivideP.mono_l k
  refine ⟨?_, ?_, ?_⟩
  ·intro y0 y1 y2 y3 y4
   unfold corebankref02_DivideP.j0
   repeat' first
   | (with_reducible exact ih0 _ _ _ _ _)
   | (with_reducible exact ih1 _ _ _)
   | (with_reducible exact ih2 _ _)
   | (with_reducible exact LeO.refl _)
   | (with_reducible exact LeO.none _)
   | (with_reducible refine LeO.ite ?_ ?_)
   | (with_reducible refine LeO.bind ?_ (fun _ => ?_))
   | exact ih0 _ _ _ _ _
   | exact ih1 _ _ _
   | exact ih2 _ _
   | exact LeO.none _
   | refine LeO.ite ?_ ?_
   | refine LeO.bind ?_ (fun _ => ?_)
  ·intro y0 y1 y2
   unfold corebankref02_DivideP.j1
   repeat' first
   | (with_reducible exact ih0 _ _ _ _ _)
   | (with_reducible exact ih1 _ _ _)
   | (with_reducible exact ih2 _ _)
   | (with_reducible exact LeO.refl _)
   | (with_reducible exact LeO.none _)
   | (with_reducible refine LeO.ite ?_ ?_)
   | (with_reducible refine LeO.bind ?_ (fun _ => ?_))
   | exact ih0 _ _ _ _ _
   | exact ih1 _ _ _
   | exact ih2 _ _
   | exact LeO.none _
   | refine LeO.ite ?_ ?_
   | refine LeO.bind ?_ (fun _ => ?_)
  ·intro y0 y1
   unfold corebankref02_DivideP.j2
   repeat' first
   | (with_reducible exact ih0 _ _ _ _ _)
   | (with_reducible exact ih1 _ _ _)
   | (with_reducible exact ih2 _ _)
   | (with_reducible exact LeO.refl _)
   | (with_reducible exact LeO.none _)
   | (with_reducible refine LeO.ite ?_ ?_)
   | (with_reducible refine LeO.bind ?_ (fun _ => ?_))
   | exact ih0 _ _ _ _ _
   | exact ih1 _ _ _
   | exact ih2 _ _
   | exact LeO.none _
   | refine LeO.ite ?_ ?_
   | refine LeO.bind ?_ (fun _ => ?_)
theorem corebankref02_DivideP.mono : ∀ a0 a1 a2 a3 k, LeO (corebankref02_DivideP.f k a0 a1 a2 a3) (corebankref02_DivideP.f (k + 1) a0 a1 a2 a3) := by
 intro a0 a1 a2 a3 k
 obtain ⟨ih0, ih1, ih2⟩ := corebankref02_DivideP.mono_l k
 unfold corebankref02_DivideP.f
 repeat' first
   | (with_reducible exact ih0 _ _ _ _ _)
   | (with_reducible exact ih1 _ _ _)
   | (with_reducible exact ih2 _ _)
   | (with_reducible exact LeO.refl _)
   | (with_reducible exact LeO.none _)
   | (with_reducible refine LeO.ite ?_ ?_)
   | (with_reducible refine LeO.bind ?_ (fun _ => ?_))
   | exact ih0 _ _ _ _ _
   | exact ih1 _ _ _
   | exact ih2 _ _
   | exact LeO.none _
   | refine LeO.ite ?_ ?_
   | refine LeO.bind ?_ (fun _ => ?_)
def corebankref02_DivideP.T5 : Bool × List (List Nat × List Nat) := (true, [([], []), ([], []), ([0, 1, 1], [0, 1]), ([2], [2]), ([3], [3]), ([3], [3]), ([], []), ([6, 4, 2, 0, 1, 2, 3, 4, 6], [4, 6]), ([5, 7, 0, 1, 2, 3, 4, 5, 6, 7], [5])])
def corebankref02_DivideP.B5 : List Nat := [0, 0, 3, 7, 15, 15, 0, 95, 255]
theorem corebankref02_DivideP.tab5 : rtab .any (opsOf Tryd.f46 5) = corebankref02_DivideP.T5 := by kernel_rfl
theorem corebankref02_DivideP.bits5 : waitsOk corebankref02_DivideP.T5.2 corebankref02_DivideP.B5 = true := by kernel_rfl
set_option maxHeartbeats 8000000 in
set_option maxRecDepth 100000 in
theorem corebankref02_DivideP.calls (k : Nat) (a0_0 a0_1 a1 a2 r1 r2 : Int) (w : World) (h : corebankref02_DivideP.f k a0_0 a0_1 a1 a2 = some (r1, r2)) :
  Calls Tryd.prog 46 #[.agg #[.int .i64 a0_0, .int .u64 a0_1], .int .i64 a1, .int .i64 a2] w fun e w' => e = .returned (.tuple #[.int .i64 r1, .int .i64 r2]) ∧ Below w.heap.size w w' := by
 have hu63 := Tryd.underlying63
 have HB := Aside0.mk (Below.refl w.heap.size w)
 have H : (if a1 < 1 then (corebankref02_DivideP.j0 k a1 a2 true a0_0 a0_1) else ((corebankref02_Valid.f a2).bind fun t359 => (corebankref02_DivideP.j0 k a1 a2 (!t359) a0_0 a0_1))) = some (r1, r2) := h
 clear h
 have HC4 := Aside0.mk H
 clear H
 go_enter Tryd.func46, Tryd.ntmps46
 go_upto_region 1 with (first | ((with_reducible refine gate_dst (N := 3) rfl ?_); refine be_ (N := 3) (cs := #[.int .i64 a0_0, .int .u64 a0_1]) (t := 63) ?_; intro gb358 hg w5 hbox hb; have n0_ := Aside0.mk (below_step (qb_ HB.out) hb); have n1_ := Aside0.mk (hbox); have n2_ := Aside0.mk (bz_ hg (qb_ HB.out) : w.heap.size ≤ gb358); have n3_ := n2_; clear HB; have HB := n0_; have BK358 := n1_; have GW358 := n2_; have GE358 := n3_; clear n0_ n1_ n2_ n3_; clear hb hbox hg))
 (try simp only [Act.put, List.setIfInBounds_toArray, List.set_cons_zero, List.set_cons_succ])
 go_cut [21] (fun v21 wc => ∃ (kq : Nat) (x21_3 : Bool), v21 = .bool x21_3 ∧ Aside0 (corebankref02_DivideP.j0 kq a1 a2 x21_3 a0_0 a0_1 = some (r1, r2)) ∧ Aside0 (kq ≤ k) ∧ Aside0 (wc.heap[gb358]? = some (.cells #[.int .i64 a0_0, .int .u64 a0_1] 63 (0, 0))) ∧ Aside0 (Below w.heap.size w wc))
 case first =>
  have H := HC4.out
  clear HC4
  by_cases c6 : a1 < 1
  ·rw [if_pos c6] at H
   have c6b0 : decide (a1 < 1) = true := decide_eq_true c6
   clear c6
   (first | rw [c6b0] | (simp only [i64_w, i32_w]; rw [c6b0]) | skip)
   have H' := Aside0.mk H
   clear H
   go_wp2
   go_meet
   case rel => exact ⟨_, (true), qs_, H', ⟨qo_⟩, ⟨qk_ BK358.out⟩, ⟨qb1_ GE358.out HB.out⟩⟩
  ·rw [if_neg c6] at H
   have c6b0 : decide (a1 < 1) = false := decide_eq_false c6
   clear c6
   (first | rw [c6b0] | (simp only [i64_w, i32_w]; rw [c6b0]) | skip)
   replace H := Option.bind_eq_some_iff.mp H
   obtain ⟨t359, A70, H⟩ := H
   replace H : (corebankref02_DivideP.j0 k a1 a2 (!t359) a0_0 a0_1) = some (r1, r2) := H
   have A7 := Aside0.mk A70
   clear A70
   have H' := Aside0.mk H
   clear H
   go_wp2_with (first | (go_at_call 58; (with_reducible refine (corebankref02_Valid.calls a2 t359 _ A7.out).mono ?_); rintro e w' ⟨rfl, ⟨nd, rfl⟩⟩))
   go_meet
   case rel => exact ⟨_, (!t359), qs_, H', ⟨qo_⟩, ⟨qk_ BK358.out⟩, ⟨qb1_ GE358.out HB.out⟩⟩
 case rest =>
  clear HC4
  try clear p2
  try clear c4
  try clear c6
  try clear c6b0
  obtain ⟨kq, x21_3, rfl, HA, HJ3, BK358, HB⟩ := hcut
  cases kq with
  | zero => exact absurd HA.out (by simp [corebankref02_DivideP.j0])
  | succ kj3 =>
   have H := HA.out
   clear HA
   simp only [corebankref02_DivideP.j0] at H
   by_cases c8 : x21_3 = true
   ·subst c8
    have H1 : (some (0, 1)) = some (r1, r2) := by rw [if_pos rfl] at H; exact H
    clear H
    have H := H1
    clear H1
    simp only [Option.some.injEq, Prod.mk.injEq] at H
    obtain ⟨rfl, rfl⟩ := H
    go_wp2
    go_ret2
    exact ⟨qe_, qb1_ GE358.out HB.out⟩
   ·replace c8 := Bool.eq_false_iff.mpr c8
    subst c8
    have H1 : ((corebankref01_Div.f a0_0 a0_1 a1).bind fun bt360 => (if bt360.2.2.1 > 0 then ((corebankref02_up.f (decide (a0_0 < 0)) ((Int.tmod bt360.2.1 2) == 1) bt360.2.2.1 a1 a2).bind fun t365 => (corebankref02_DivideP.j1 kj3 t365 bt360.1 bt360.2.1)) else (corebankref02_DivideP.j1 kj3 false bt360.1 bt360.2.1))) = some (r1, r2) := by rw [if_neg (show ¬ (false = true) by decide)] at H; exact H
    clear H
    have H := H1
    clear H1
    replace H := Option.bind_eq_some_iff.mp H
    obtain ⟨⟨t360, t361, t362, t363⟩, A90, H⟩ := H
    replace H : (if t362 > 0 then ((corebankref02_up.f (decide (a0_0 < 0)) ((Int.tmod t361 2) == 1) t362 a1 a2).bind fun t365 => (corebankref02_DivideP.j1 kj3 t365 t360 t361)) else (corebankref02_DivideP.j1 kj3 false t360 t361)) = some (r1, r2) := H
    have A9 := Aside0.mk A90
    clear A90
    have HC10 := Aside0.mk H
    clear H
    obtain ⟨hcz11_0, hcz11_1, hfz11_0, hfz11_1⟩ := cz2_ BK358.out
    go_upto_region 4 with (first | ((with_reducible refine gate_callee (f := 59) rfl ?_); refine goesL_ (some 25) rfl rfl Tryd.func59 (by kernel_rfl) rfl #[.agg #[.int .i64 a0_0, .int .u64 a0_1], .int .i64 a1] rfl ql_ ?_; (with_reducible refine (corebankref01_Div.calls a0_0 a0_1 a1 t360 t361 t362 t363 _ A9.out).mono ?_); rintro e w12 ⟨rfl, hb⟩; refine ⟨_, rfl, ?_⟩; have n0_ := Aside0.mk (blk_below (qk_ BK358.out) hb); have n1_ := Aside0.mk (below_step (qb1_ GE358.out HB.out) hb); clear BK358; clear HB; have BK358 := n0_; have HB := n1_; clear n0_ n1_; (try clear hb); (try clear hb2); (try clear hk); (try clear hi)) | ((with_reducible refine gate_dst (N := 8) rfl ?_); refine be_ (N := 8) (cs := #[.int .i64 0, .int .u64 0]) (t := 63) ?_; intro gb364 hg w13 hbox hb; have n0_ := Aside0.mk (blk_below (qk_ BK358.out) hb); have n1_ := Aside0.mk (below_step (qb1_ GE358.out HB.out) hb); have n2_ := Aside0.mk (hbox); have n3_ := Aside0.mk (bz_ hg (qb1_ GE358.out HB.out) : w.heap.size ≤ gb364); have n4_ := n3_; have n5_ := Aside0.mk (nl_ hg (qk_ BK358.out) : gb358 ≠ gb364); have n6_ := Aside0.mk (ng_ hg (qk_ BK358.out) : gb364 ≠ gb358); clear BK358; clear HB; have BK358 := n0_; have HB := n1_; have BK364 := n2_; have GW364 := n3_; have GE364 := n4_; have NB358_364 := n5_; have NB364_358 := n6_; clear n0_ n1_ n2_ n3_ n4_ n5_ n6_; clear hb hbox hg; have hnb14 := NB364_358.out; have hnc14 := NB358_364.out; obtain ⟨hcz15_0, hcz15_1, hfz15_0, hfz15_1⟩ := cz2_ BK364.out))
    (try simp only [Act.put, List.setIfInBounds_toArray, List.set_cons_zero, List.set_cons_succ])
    go_cut [43] (fun v43 wc => ∃ (kq : Nat) (x43_9 : Bool), v43 = .bool x43_9 ∧ Aside0 (corebankref02_DivideP.j1 kq x43_9 t360 t361 = some (r1, r2)) ∧ Aside0 (kq ≤ kj3) ∧ Aside0 (wc.heap[gb358]? = some (.cells #[.int .i64 a0_0, .int .u64 a0_1] 63 (0, 0))) ∧ Aside0 (wc.heap[gb364]? = some (.cells #[.int .i64 t360, .int .u64 t361] 63 (0, 0))) ∧ Aside0 (Below w.heap.size w wc))
    case first =>
     have H := HC10.out
     clear HC10
     by_cases c16 : t362 > 0
     ·rw [if_pos c16] at H
      have c16b0 : decide (0 < t362) = true := decide_eq_true c16
      clear c16
      (first | rw [c16b0] | (simp only [i64_w, i32_w]; rw [c16b0]) | skip)
      replace H := Option.bind_eq_some_iff.mp H
      obtain ⟨t365, A170, H⟩ := H
      replace H : (corebankref02_DivideP.j1 kj3 t365 t360 t361) = some (r1, r2) := H
      have A17 := Aside0.mk A170
      clear A170
      have H' := Aside0.mk H
      clear H
      have hnb18 := NB358_364.out
      have hnc18 := NB364_358.out
      obtain ⟨hcz19_0, hcz19_1, hfz19_0, hfz19_1⟩ := cz2_ BK358.out
      obtain ⟨hcz20_0, hcz20_1, hfz20_0, hfz20_1⟩ := cz2_ BK364.out
      go_wp2_with (first | (go_at_call 60; (with_reducible refine (corebankref02_up.calls (decide (a0_0 < 0)) ((Int.tmod t361 2) == 1) t362 a1 a2 t365 _ A17.out).mono ?_); rintro e w' ⟨rfl, ⟨nd, rfl⟩⟩))
      go_meet
      case rel => exact ⟨_, (t365), qs_, H', ⟨by have := HJ3.out; first | omega | exact Nat.le_refl _⟩, ⟨qff_ NB358_364.out NB358_364.out BK358.out⟩, ⟨qpp_ #[.int .i64 t360, .int .u64 0] 1 #[.int .i64 0, .int .u64 0] 0 BK364.out⟩, ⟨qb2_ GE358.out GE364.out HB.out⟩⟩
     ·rw [if_neg c16] at H
      have c16b0 : decide (0 < t362) = false := decide_eq_false c16
      clear c16
      (first | rw [c16b0] | (simp only [i64_w, i32_w]; rw [c16b0]) | skip)
      have H' := Aside0.mk H
      clear H
      go_wp2
      go_meet
      case rel => exact ⟨_, (false), qs_, H', ⟨by have := HJ3.out; first | omega | exact Nat.le_refl _⟩, ⟨qff_ NB358_364.out NB358_364.out BK358.out⟩, ⟨qpp_ #[.int .i64 t360, .int .u64 0] 1 #[.int .i64 0, .int .u64 0] 0 BK364.out⟩, ⟨qb2_ GE358.out GE364.out HB.out⟩⟩
    case rest =>
     clear HC10
     try clear c1
     try clear p2
     try clear c4
     try clear c5
     try clear c6
     try clear c6b0
     try clear c8
     try clear c14
     try clear c16
     try clear c16b0
     try clear c18
     try clear hcz11_0
     try clear hcz11_1
     try clear hcz15_0
     try clear hcz15_1
     try clear hcz19_0
     try clear hcz19_1
     try clear hcz20_0
     try clear hcz20_1
     try clear hfz11_0
     try clear hfz11_1
     try clear hfz15_0
     try clear hfz15_1
     try clear hfz19_0
     try clear hfz19_1
     try clear hfz20_0
     try clear hfz20_1
     try clear p2
     obtain ⟨kq, x43_9, rfl, HA, HJ9, BK358, BK364, HB⟩ := hcut
     cases kq with
     | zero => exact absurd HA.out (by simp [corebankref02_DivideP.j1])
     | succ kj9 =>
      have H := HA.out
      clear HA
      simp only [corebankref02_DivideP.j1] at H
      have HC21 := Aside0.mk H
      clear H
      go_upto_if 43 with (fail)
      go_cut [] (fun wc => ∃ (kq : Nat) (x365000_20 x365001_20 : Int), Aside0 (corebankref02_DivideP.j2 kq x365000_20 x365001_20 = some (r1, r2)) ∧ Aside0 (kq ≤ kj9) ∧ Aside0 (wc.heap[gb358]? = some (.cells #[.int .i64 a0_0, .int .u64 a0_1] 63 (0, 0))) ∧ Aside0 (wc.heap[gb364]? = some (.cells #[.int .i64 x365000_20, .int .u64 x365001_20] 63 (0, 0))) ∧ Aside0 (Below w.heap.size w wc))
      case first =>
       have H := HC21.out
       clear HC21
       by_cases c22 : x43_9 = true
       ·subst c22
        have H1 : ((corebankref01_Of.f 1).bind fun bt366 => ((corebankref01_Add.f t360 t361 bt366.1 bt366.2).bind fun bt368 => (corebankref02_DivideP.j2 kj9 bt368.1 bt368.2.1))) = some (r1, r2) := by rw [if_pos rfl] at H; exact H
        clear H
        have H := H1
        clear H1
        replace H := Option.bind_eq_some_iff.mp H
        obtain ⟨⟨t366, t367⟩, A230, H⟩ := H
        replace H : ((corebankref01_Add.f t360 t361 t366 t367).bind fun bt368 => (corebankref02_DivideP.j2 kj9 bt368.1 bt368.2.1)) = some (r1, r2) := H
        have A23 := Aside0.mk A230
        clear A230
        replace H := Option.bind_eq_some_iff.mp H
        obtain ⟨⟨t368, t369, t370⟩, A240, H⟩ := H
        replace H : (corebankref02_DivideP.j2 kj9 t368 t369) = some (r1, r2) := H
        have A24 := Aside0.mk A240
        clear A240
        have H' := Aside0.mk H
        clear H
        try go_wp2
        have n0_ := Aside0.mk (blk_drew BK358.out)
        have n1_ := Aside0.mk (blk_drew BK364.out)
        have n2_ := Aside0.mk (below_drew1 HB.out)
        clear BK358
        clear BK364
        clear HB
        have BK358 := n0_
        have BK364 := n1_
        have HB := n2_
        clear n0_ n1_ n2_
        refine start_ (n := 9) (S := fun w' => w'.cell? ⟨gb364, 0, none⟩ = some (.int .i64 t360) ∧ w'.cell? ⟨gb364, 1, none⟩ = some (.int .u64 t361)) (ds := []) (nb_ 9 0) (by kernel_rfl) rfl rfl (cc2_ BK364.out) (fun hHeld => ?_); refine with_tabW corebankref02_DivideP.tab5 corebankref02_DivideP.bits5 (fun HT_ HW_ => ?_)
        generalize wc.drew = w25 at BK358 BK364 HB hHeld ⊢
        refine tk2_ 0 45 (nb_ 9 1) HT_.out HW_.out hHeld ?_
        refine join_ (σ := Nat) 2 (nb_ 9 127) (fun s_ => [(46, .agg #[.int .i64 t366, .int .u64 t367]), (47, .tuple #[.agg #[.int .i64 t368, .int .u64 t369], .int .i64 t370]), (11, .pointer (some ⟨s_, 0, none⟩)), (44, .tuple #[.agg #[.int .i64 t368, .int .u64 t369], .int .i64 t370]), (48, .agg #[.int .i64 t368, .int .u64 t369]), (49, .int .i64 t370)]) (fun s_ w' => (w'.cell? ⟨gb364, 0, none⟩ = some (.int .i64 t360) ∧ w'.cell? ⟨gb364, 1, none⟩ = some (.int .u64 t361)) ∧ (w'.heap[gb358]? = some (.cells #[.int .i64 a0_0, .int .u64 a0_1] 63 (0, 0))) ∧ (w'.heap[gb364]? = some (.cells #[.int .i64 t360, .int .u64 t361] 63 (0, 0))) ∧ (w'.heap[s_]? = some (.cells #[.int .i64 0, .int .u64 0] 63 (0, 0))) ∧ (w.heap.size ≤ s_) ∧ (w.heap.size ≤ s_) ∧ (gb358 ≠ s_) ∧ (s_ ≠ gb358) ∧ (gb364 ≠ s_) ∧ (s_ ≠ gb364) ∧ (Below w.heap.size w w')) ?_ ?_
        rotate_left
        ·intro hCont
         refine two_ (i := 1) (j := 6) (Ni := some 46) (Nj := some 11) (nb_ 9 3) (nb_ 9 65) rfl rfl rfl rfl (two_of HT_.out (by kernel_rfl)) (by decide) (by decide) (fun K hK => ?_) (fun K hK => ?_)
         ·skip
          refine goes_ Tryd.func62 (by kernel_rfl) rfl #[.int .i64 1] (by rfl) rfl rfl ql_ ?_
          with_reducible refine (corebankref01_Of.calls 1 t366 t367 _ A23.out).mono ?_
          rintro e w26 ⟨rfl, hb⟩
          refine ⟨_, rfl, ?_⟩
          have n0_ := Aside0.mk (blk_below (qk_ BK358.out) hb)
          have n1_ := Aside0.mk (blk_below (qk_ BK364.out) hb)
          have n2_ := Aside0.mk (below_step (qb2_ GE358.out GE364.out HB.out) hb)
          clear BK358
          clear BK364
          clear HB
          have BK358 := n0_
          have BK364 := n1_
          have HB := n2_
          clear n0_ n1_ n2_
          (try clear hb)
          (try clear hb2)
          (try clear hk)
          (try clear hi)
          refine hK.out _ _ (cc2_ BK364.out) (fun hHeld => ?_)
          clear hK K
          refine no_ ?_
          refine two_ (i := 2) (j := 6) (Ni := some 47) (Nj := some 11) (nb_ 9 7) (nb_ 9 67) rfl rfl rfl rfl (two_of HT_.out (by kernel_rfl)) (by decide) (by decide) (fun K hK => ?_) (fun K hK => ?_)
          ·skip
           refine goes_ Tryd.func61 (by kernel_rfl) rfl #[.agg #[.int .i64 t360, .int .u64 t361], .agg #[.int .i64 t366, .int .u64 t367]] (by rfl) rfl rfl ql_ ?_
           with_reducible refine (corebankref01_Add.calls t360 t361 t366 t367 t368 t369 t370 _ A24.out).mono ?_
           rintro e w27 ⟨rfl, hb⟩
           refine ⟨_, rfl, ?_⟩
           have n0_ := Aside0.mk (blk_below (qk_ BK358.out) hb)
           have n1_ := Aside0.mk (blk_below (qk_ BK364.out) hb)
           have n2_ := Aside0.mk (below_step (qb2_ GE358.out GE364.out HB.out) hb)
           clear BK358
           clear BK364
           clear HB
           have BK358 := n0_
           have BK364 := n1_
           have HB := n2_
           clear n0_ n1_ n2_
           (try clear hb)
           (try clear hb2)
           (try clear hk)
           (try clear hi)
           refine hK.out _ _ (cc2_ BK364.out) (fun hHeld => ?_)
           clear hK K
           refine no_ ?_
           refine pz_ 3 44 (nb_ 9 15) HT_.out ?_
           refine pz_ 4 48 (nb_ 9 31) HT_.out ?_
           refine pz_ 5 49 (nb_ 9 63) HT_.out ?_
           refine on_ 6 11 (nb_ 9 127) HT_.out (fun K hK => ?_)
           refine box_step ?hg (N := 11) ?hd (cs := #[.int .i64 0, .int .u64 0]) (t := 63) ?hr ?_; (case hd => rfl); (case hg => rfl); (case hr => first | (go_simp; done) | (go_simp; rfl))
           intro gb371 hg w28 hbox hb
           have n0_ := Aside0.mk (blk_below (qk_ BK358.out) hb)
           have n1_ := Aside0.mk (blk_below (qk_ BK364.out) hb)
           have n2_ := Aside0.mk (below_step (qb2_ GE358.out GE364.out HB.out) hb)
           have n3_ := Aside0.mk (hbox)
           have n4_ := Aside0.mk (bz_ hg (qb2_ GE358.out GE364.out HB.out) : w.heap.size ≤ gb371)
           have n5_ := Aside0.mk (bz_ hg (qb2_ GE358.out GE364.out HB.out) : w.heap.size ≤ gb371)
           have n6_ := Aside0.mk (nl_ hg (qk_ BK358.out) : gb358 ≠ gb371)
           have n7_ := Aside0.mk (ng_ hg (qk_ BK358.out) : gb371 ≠ gb358)
           have n8_ := Aside0.mk (nl_ hg (qk_ BK364.out) : gb364 ≠ gb371)
           have n9_ := Aside0.mk (ng_ hg (qk_ BK364.out) : gb371 ≠ gb364)
           clear BK358
           clear BK364
           clear HB
           have BK358 := n0_
           have BK364 := n1_
           have HB := n2_
           have BK371 := n3_
           have GW371 := n4_
           have GE371 := n5_
           have NB358_371 := n6_
           have NB371_358 := n7_
           have NB364_371 := n8_
           have NB371_364 := n9_
           clear n0_ n1_ n2_ n3_ n4_ n5_ n6_ n7_ n8_ n9_
           clear hb hbox hg
           refine hK.out _ _ (cc2_ BK364.out) (fun hHeld => ?_)
           clear hK K
           refine no_ ?_
           exact norm_ (by simp only [putAll, Act.put, List.setIfInBounds_toArray, List.set_cons_zero, List.set_cons_succ]) (hCont (gb371) _ ⟨hHeld, (qk_ BK358.out), (qk_ BK364.out), (qk_ BK371.out), GW371.out, GE371.out, NB358_371.out, NB371_358.out, NB364_371.out, NB371_364.out, (qb3_ GE358.out GE364.out GE371.out HB.out)⟩)
          ·skip
           refine box_step ?hg (N := 11) ?hd (cs := #[.int .i64 0, .int .u64 0]) (t := 63) ?hr ?_; (case hd => rfl); (case hg => rfl); (case hr => first | (go_simp; done) | (go_simp; rfl))
           intro gb371 hg w27 hbox hb
           have n0_ := Aside0.mk (blk_below (qk_ BK358.out) hb)
           have n1_ := Aside0.mk (blk_below (qk_ BK364.out) hb)
           have n2_ := Aside0.mk (below_step (qb2_ GE358.out GE364.out HB.out) hb)
           have n3_ := Aside0.mk (hbox)
           have n4_ := Aside0.mk (bz_ hg (qb2_ GE358.out GE364.out HB.out) : w.heap.size ≤ gb371)
           have n5_ := Aside0.mk (bz_ hg (qb2_ GE358.out GE364.out HB.out) : w.heap.size ≤ gb371)
           have n6_ := Aside0.mk (nl_ hg (qk_ BK358.out) : gb358 ≠ gb371)
           have n7_ := Aside0.mk (ng_ hg (qk_ BK358.out) : gb371 ≠ gb358)
           have n8_ := Aside0.mk (nl_ hg (qk_ BK364.out) : gb364 ≠ gb371)
           have n9_ := Aside0.mk (ng_ hg (qk_ BK364.out) : gb371 ≠ gb364)
           clear BK358
           clear BK364
           clear HB
           have BK358 := n0_
           have BK364 := n1_
           have HB := n2_
           have BK371 := n3_
           have GW371 := n4_
           have GE371 := n5_
           have NB358_371 := n6_
           have NB371_358 := n7_
           have NB364_371 := n8_
           have NB371_364 := n9_
           clear n0_ n1_ n2_ n3_ n4_ n5_ n6_ n7_ n8_ n9_
           clear hb hbox hg
           refine hK.out _ _ (cc2_ BK364.out) (fun hHeld => ?_)
           clear hK K
           refine no_ ?_
           refine on_ 2 47 (nb_ 9 71) HT_.out (fun K hK => ?_)
           refine goes_ Tryd.func61 (by kernel_rfl) rfl #[.agg #[.int .i64 t360, .int .u64 t361], .agg #[.int .i64 t366, .int .u64 t367]] (by rfl) rfl rfl ql_ ?_
           with_reducible refine (corebankref01_Add.calls t360 t361 t366 t367 t368 t369 t370 _ A24.out).mono ?_
           rintro e w28 ⟨rfl, hb⟩
           refine ⟨_, rfl, ?_⟩
           have n0_ := Aside0.mk (blk_below (qk_ BK358.out) hb)
           have n1_ := Aside0.mk (blk_below (qk_ BK364.out) hb)
           have n2_ := Aside0.mk (blk_below (qk_ BK371.out) hb)
           have n3_ := Aside0.mk (below_step (qb3_ GE358.out GE364.out GE371.out HB.out) hb)
           clear BK358
           clear BK364
           clear BK371
           clear HB
           have BK358 := n0_
           have BK364 := n1_
           have BK371 := n2_
           have HB := n3_
           clear n0_ n1_ n2_ n3_
           (try clear hb)
           (try clear hb2)
           (try clear hk)
           (try clear hi)
           refine hK.out _ _ (cc2_ BK364.out) (fun hHeld => ?_)
           clear hK K
           refine no_ ?_
           refine pz_ 3 44 (nb_ 9 79) HT_.out ?_
           refine pz_ 4 48 (nb_ 9 95) HT_.out ?_
           refine pz_ 5 49 (nb_ 9 127) HT_.out ?_
           exact norm_ (by simp only [putAll, Act.put, List.setIfInBounds_toArray, List.set_cons_zero, List.set_cons_succ]) (hCont (gb371) _ ⟨hHeld, (qk_ BK358.out), (qk_ BK364.out), (qk_ BK371.out), GW371.out, GE371.out, NB358_371.out, NB371_358.out, NB364_371.out, NB371_364.out, (qb3_ GE358.out GE364.out GE371.out HB.out)⟩)
         ·skip
          refine box_step ?hg (N := 11) ?hd (cs := #[.int .i64 0, .int .u64 0]) (t := 63) ?hr ?_; (case hd => rfl); (case hg => rfl); (case hr => first | (go_simp; done) | (go_simp; rfl))
          intro gb371 hg w26 hbox hb
          have n0_ := Aside0.mk (blk_below (qk_ BK358.out) hb)
          have n1_ := Aside0.mk (blk_below (qk_ BK364.out) hb)
          have n2_ := Aside0.mk (below_step (qb2_ GE358.out GE364.out HB.out) hb)
          have n3_ := Aside0.mk (hbox)
          have n4_ := Aside0.mk (bz_ hg (qb2_ GE358.out GE364.out HB.out) : w.heap.size ≤ gb371)
          have n5_ := Aside0.mk (bz_ hg (qb2_ GE358.out GE364.out HB.out) : w.heap.size ≤ gb371)
          have n6_ := Aside0.mk (nl_ hg (qk_ BK358.out) : gb358 ≠ gb371)
          have n7_ := Aside0.mk (ng_ hg (qk_ BK358.out) : gb371 ≠ gb358)
          have n8_ := Aside0.mk (nl_ hg (qk_ BK364.out) : gb364 ≠ gb371)
          have n9_ := Aside0.mk (ng_ hg (qk_ BK364.out) : gb371 ≠ gb364)
          clear BK358
          clear BK364
          clear HB
          have BK358 := n0_
          have BK364 := n1_
          have HB := n2_
          have BK371 := n3_
          have GW371 := n4_
          have GE371 := n5_
          have NB358_371 := n6_
          have NB371_358 := n7_
          have NB364_371 := n8_
          have NB371_364 := n9_
          clear n0_ n1_ n2_ n3_ n4_ n5_ n6_ n7_ n8_ n9_
          clear hb hbox hg
          refine hK.out _ _ (cc2_ BK364.out) (fun hHeld => ?_)
          clear hK K
          refine no_ ?_
          refine on_ 1 46 (nb_ 9 67) HT_.out (fun K hK => ?_)
          refine goes_ Tryd.func62 (by kernel_rfl) rfl #[.int .i64 1] (by rfl) rfl rfl ql_ ?_
          with_reducible refine (corebankref01_Of.calls 1 t366 t367 _ A23.out).mono ?_
          rintro e w27 ⟨rfl, hb⟩
          refine ⟨_, rfl, ?_⟩
          have n0_ := Aside0.mk (blk_below (qk_ BK358.out) hb)
          have n1_ := Aside0.mk (blk_below (qk_ BK364.out) hb)
          have n2_ := Aside0.mk (blk_below (qk_ BK371.out) hb)
          have n3_ := Aside0.mk (below_step (qb3_ GE358.out GE364.out GE371.out HB.out) hb)
          clear BK358
          clear BK364
          clear BK371
          clear HB
          have BK358 := n0_
          have BK364 := n1_
          have BK371 := n2_
          have HB := n3_
          clear n0_ n1_ n2_ n3_
          (try clear hb)
          (try clear hb2)
          (try clear hk)
          (try clear hi)
          refine hK.out _ _ (cc2_ BK364.out) (fun hHeld => ?_)
          clear hK K
          refine no_ ?_
          refine on_ 2 47 (nb_ 9 71) HT_.out (fun K hK => ?_)
          refine goes_ Tryd.func61 (by kernel_rfl) rfl #[.agg #[.int .i64 t360, .int .u64 t361], .agg #[.int .i64 t366, .int .u64 t367]] (by rfl) rfl rfl ql_ ?_
          with_reducible refine (corebankref01_Add.calls t360 t361 t366 t367 t368 t369 t370 _ A24.out).mono ?_
          rintro e w28 ⟨rfl, hb⟩
          refine ⟨_, rfl, ?_⟩
          have n0_ := Aside0.mk (blk_below (qk_ BK358.out) hb)
          have n1_ := Aside0.mk (blk_below (qk_ BK364.out) hb)
          have n2_ := Aside0.mk (blk_below (qk_ BK371.out) hb)
          have n3_ := Aside0.mk (below_step (qb3_ GE358.out GE364.out GE371.out HB.out) hb)
          clear BK358
          clear BK364
          clear BK371
          clear HB
          have BK358 := n0_
          have BK364 := n1_
          have BK371 := n2_
          have HB := n3_
          clear n0_ n1_ n2_ n3_
          (try clear hb)
          (try clear hb2)
          (try clear hk)
          (try clear hi)
          refine hK.out _ _ (cc2_ BK364.out) (fun hHeld => ?_)
          clear hK K
          refine no_ ?_
          refine pz_ 3 44 (nb_ 9 79) HT_.out ?_
          refine pz_ 4 48 (nb_ 9 95) HT_.out ?_
          refine pz_ 5 49 (nb_ 9 127) HT_.out ?_
          exact norm_ (by simp only [putAll, Act.put, List.setIfInBounds_toArray, List.set_cons_zero, List.set_cons_succ]) (hCont (gb371) _ ⟨hHeld, (qk_ BK358.out), (qk_ BK364.out), (qk_ BK371.out), GW371.out, GE371.out, NB358_371.out, NB371_358.out, NB364_371.out, NB371_364.out, (qb3_ GE358.out GE364.out GE371.out HB.out)⟩)
        rintro gb371 w29 ⟨hS_, h0_, h1_, h2_, h3_, h4_, h5_, h6_, h7_, h8_, h9_⟩
        have n0_ : Aside0 (w29.heap[gb358]? = some (.cells #[.int .i64 a0_0, .int .u64 a0_1] 63 (0, 0))) := ⟨h0_⟩
        have n1_ : Aside0 (w29.heap[gb364]? = some (.cells #[.int .i64 t360, .int .u64 t361] 63 (0, 0))) := ⟨h1_⟩
        have n2_ : Aside0 (w29.heap[gb371]? = some (.cells #[.int .i64 0, .int .u64 0] 63 (0, 0))) := ⟨h2_⟩
        have n3_ : Aside0 (w.heap.size ≤ gb371) := ⟨h3_⟩
        have n4_ : Aside0 (w.heap.size ≤ gb371) := ⟨h4_⟩
        have n5_ : Aside0 (gb358 ≠ gb371) := ⟨h5_⟩
        have n6_ : Aside0 (gb371 ≠ gb358) := ⟨h6_⟩
        have n7_ : Aside0 (gb364 ≠ gb371) := ⟨h7_⟩
        have n8_ : Aside0 (gb371 ≠ gb364) := ⟨h8_⟩
        have n9_ : Aside0 (Below w.heap.size w w29) := ⟨h9_⟩
        clear BK358
        clear BK364
        clear HB
        clear h0_ h1_ h2_ h3_ h4_ h5_ h6_ h7_ h8_ h9_
        have BK358 := n0_
        have BK364 := n1_
        have BK371 := n2_
        have GW371 := n3_
        have GE371 := n4_
        have NB358_371 := n5_
        have NB371_358 := n6_
        have NB364_371 := n7_
        have NB371_364 := n8_
        have HB := n9_
        clear n0_ n1_ n2_ n3_ n4_ n5_ n6_ n7_ n8_ n9_
        have hHeld : w29.cell? ⟨gb364, 0, none⟩ = some (.int .i64 t360) ∧ w29.cell? ⟨gb364, 1, none⟩ = some (.int .u64 t361) := hS_
        refine norm_ (a' := ?_) ?_ ?_
        rotate_left
        ·simp only [putAll, Act.put, List.setIfInBounds_toArray, List.set_cons_zero, List.set_cons_succ]
         rfl
        refine one_ (i := 7) (N := none) (nb_ 9 255) rfl rfl (one_of HT_.out (by kernel_rfl)) (by decide) (fun K hK => ?_)
        have hs30 : w29.cell? ⟨gb371, 0, none⟩ = some (.int .i64 0) := (blk_cell BK371.out 0).trans rfl
        have hfs30 := blk_frozen BK371.out 0
        have hns30_0 := NB358_371.out
        have hns30_1 := NB364_371.out
        have hms30_0 := NB371_358.out
        have hms30_1 := NB371_364.out
        have hs31 : w29.cell? ⟨gb371, 1, none⟩ = some (.int .u64 0) := (blk_cell BK371.out 1).trans rfl
        have hfs31 := blk_frozen BK371.out 1
        have hns31_0 := NB358_371.out
        have hns31_1 := NB364_371.out
        have hms31_0 := NB371_358.out
        have hms31_1 := NB371_364.out
        refine skip_ (w1 := ?_) (by rfl) rfl ?_ ?_
        rotate_left
        ·go_simp
         rfl
        refine hK.out _ _ ⟨((cell_far (p := ⟨gb371, _, none⟩) NB364_371.out _).trans (((cell_far (p := ⟨gb371, _, none⟩) NB364_371.out _).trans (hHeld.1)))), ((cell_far (p := ⟨gb371, _, none⟩) NB364_371.out _).trans (((cell_far (p := ⟨gb371, _, none⟩) NB364_371.out _).trans (hHeld.2))))⟩ (fun hHeld => ?_)
        clear hK K
        refine pz_ 8 12 (nb_ 9 511) HT_.out ?_
        refine done_ (done_of HT_.out (by kernel_rfl)) ?_
        have hnb32 := NB371_358.out
        have hnc32 := NB358_371.out
        have hnb33 := NB371_364.out
        have hnc33 := NB364_371.out
        obtain ⟨hcz34_0, hcz34_1, hfz34_0, hfz34_1⟩ := cz2_ BK371.out
        have hnb35 := NB364_358.out
        have hnc35 := NB358_364.out
        obtain ⟨hcz36_0, hcz36_1, hfz36_0, hfz36_1⟩ := cz2_ BK364.out
        try go_wp2
        go_meet
        case rel => exact ⟨_, (t368), (t369), H', ⟨by have := HJ3.out; have := HJ9.out; first | omega | exact Nat.le_refl _⟩, ⟨qffff_ NB358_364.out NB358_364.out NB358_371.out NB358_371.out BK358.out⟩, ⟨qppff_ #[.int .i64 t368, .int .u64 t361] 1 #[.int .i64 t360, .int .u64 t361] 0 NB364_371.out NB364_371.out BK364.out⟩, ⟨qb3_ GE358.out GE364.out GE371.out HB.out⟩⟩
       ·replace c22 := Bool.eq_false_iff.mpr c22
        subst c22
        have H1 : (corebankref02_DivideP.j2 kj9 t360 t361) = some (r1, r2) := by rw [if_neg (show ¬ (false = true) by decide)] at H; exact H
        clear H
        have H := H1
        clear H1
        have H' := Aside0.mk H
        clear H
        go_wp2
        go_meet
        case rel => exact ⟨_, (t360), (t361), H', ⟨by have := HJ3.out; have := HJ9.out; first | omega | exact Nat.le_refl _⟩, ⟨qk_ BK358.out⟩, ⟨qk_ BK364.out⟩, ⟨qb2_ GE358.out GE364.out HB.out⟩⟩
      case rest =>
       clear HC21
       try clear c1
       try clear c2
       try clear p2
       try clear c3
       try clear c4
       try clear c5
       try clear c6
       try clear c6b0
       try clear c8
       try clear c14
       try clear c16
       try clear c16b0
       try clear c18
       try clear c22
       try clear c32
       try clear c33
       try clear c35
       try clear hcz11_0
       try clear hcz11_1
       try clear hcz15_0
       try clear hcz15_1
       try clear hcz19_0
       try clear hcz19_1
       try clear hcz20_0
       try clear hcz20_1
       try clear hcz34_0
       try clear hcz34_1
       try clear hcz36_0
       try clear hcz36_1
       try clear hfz11_0
       try clear hfz11_1
       try clear hfz15_0
       try clear hfz15_1
       try clear hfz19_0
       try clear hfz19_1
       try clear hfz20_0
       try clear hfz20_1
       try clear hfz34_0
       try clear hfz34_1
       try clear hfz36_0
       try clear hfz36_1
       try clear p2
       obtain ⟨kq, x365000_20, x365001_20, HA, HJ20, BK358, BK364, HB⟩ := hcut
       cases kq with
       | zero => exact absurd HA.out (by simp [corebankref02_DivideP.j2])
       | succ kj20 =>
        have H := HA.out
        clear HA
        simp only [corebankref02_DivideP.j2] at H
        replace H := Option.bind_eq_some_iff.mp H
        obtain ⟨⟨t372, t373⟩, A370, H⟩ := H
        replace H : (if t373 = true then (some (t372, 0)) else (some (0, 6))) = some (r1, r2) := H
        have A37 := Aside0.mk A370
        clear A370
        by_cases c38 : t373 = true
        ·subst c38
         have H1 : (some (t372, 0)) = some (r1, r2) := by rw [if_pos rfl] at H; exact H
         clear H
         have H := H1
         clear H1
         simp only [Option.some.injEq, Prod.mk.injEq] at H
         obtain ⟨rfl, rfl⟩ := H
         have hnb39 := NB364_358.out
         have hnc39 := NB358_364.out
         obtain ⟨hcz40_0, hcz40_1, hfz40_0, hfz40_1⟩ := cz2_ BK364.out
         go_wp2_with (first | ((with_reducible refine gate_callee (f := 63) rfl ?_); refine goesL_ (some 53) rfl rfl Tryd.func63 (by kernel_rfl) rfl #[.agg #[.int .i64 x365000_20, .int .u64 x365001_20]] rfl ql_ ?_; (with_reducible refine (corebankref01_Int.calls x365000_20 x365001_20 t372 true _ A37.out).mono ?_); rintro e w41 ⟨rfl, hb⟩; refine ⟨_, rfl, ?_⟩; have n0_ := Aside0.mk (blk_below (qk_ BK358.out) hb); have n1_ := Aside0.mk (blk_below (qk_ BK364.out) hb); have n2_ := Aside0.mk (below_step (qb2_ GE358.out GE364.out HB.out) hb); clear BK358; clear BK364; clear HB; have BK358 := n0_; have BK364 := n1_; have HB := n2_; clear n0_ n1_ n2_; (try clear hb); (try clear hb2); (try clear hk); (try clear hi)))
         go_ret2
         exact ⟨qe_, qb2_ GE358.out GE364.out HB.out⟩
        ·replace c38 := Bool.eq_false_iff.mpr c38
         subst c38
         have H1 : (some (0, 6)) = some (r1, r2) := by rw [if_neg (show ¬ (false = true) by decide)] at H; exact H
         clear H
         have H := H1
         clear H1
         simp only [Option.some.injEq, Prod.mk.injEq] at H
         obtain ⟨rfl, rfl⟩ := H
         have hnb42 := NB364_358.out
         have hnc42 := NB358_364.out
         obtain ⟨hcz43_0, hcz43_1, hfz43_0, hfz43_1⟩ := cz2_ BK364.out
         go_wp2_with (first | ((with_reducible refine gate_callee (f := 63) rfl ?_); refine goesL_ (some 53) rfl rfl Tryd.func63 (by kernel_rfl) rfl #[.agg #[.int .i64 x365000_20, .int .u64 x365001_20]] rfl ql_ ?_; (with_reducible refine (corebankref01_Int.calls x365000_20 x365001_20 t372 false _ A37.out).mono ?_); rintro e w44 ⟨rfl, hb⟩; refine ⟨_, rfl, ?_⟩; have n0_ := Aside0.mk (blk_below (qk_ BK358.out) hb); have n1_ := Aside0.mk (blk_below (qk_ BK364.out) hb); have n2_ := Aside0.mk (below_step (qb2_ GE358.out GE364.out HB.out) hb); clear BK358; clear BK364; clear HB; have BK358 := n0_; have BK364 := n1_; have HB := n2_; clear n0_ n1_ n2_; (try clear hb); (try clear hb2); (try clear hk); (try clear hi)))
         go_ret2
         exact ⟨qe_, qb2_ GE358.out GE364.out HB.out⟩
end Go.Proofs.YtjkjiibhdpcpkaaDoor.PS
