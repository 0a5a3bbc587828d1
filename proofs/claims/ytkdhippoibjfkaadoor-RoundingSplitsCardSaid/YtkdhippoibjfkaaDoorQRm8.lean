import Derived.Test.YtkdhippoibjfkaaDoorQRm2
import Derived.Test.YtkdhippoibjfkaaDoorQRm3
import Derived.Test.YtkdhippoibjfkaaDoorQRm5
import Derived.Test.YtkdhippoibjfkaaDoorQRm6
import Derived.Test.YtkdhippoibjfkaaDoorQRm7
section
namespace Go.Proofs.YtkdhippoibjfkaaDoor.PR
open Go.RowKit Go.Proofs.YtkdhippoibjfkaaDoorW.PrintWords Go.Proofs.YtkdhippoibjfkaaDoorW.PrintLast
set_option linter.unusedVariables false
set_option linter.unusedSimpArgs false
mutual
def corebankref02_DivideP.j0 : Nat → Int → Int → Bool → Int → Int → Option (Int × Int)
 | 0, _, _, _, _, _ => none
 | k + 1, x1, x2, x21, x240000, x240001 => if x21 = true then (some (0, 1)) else ((corebankref01_Div.f x240000 x240001 x1).bind fun bt241 => (if bt241.2.2.1 > 0 then ((corebankref02_up.f (decide (x240000 < 0)) ((Int.tmod bt241.2.1 2) == 1) bt241.2.2.1 x1 x2).bind fun t246 => (corebankref02_DivideP.j1 k t246 bt241.1 bt241.2.1)) else (corebankref02_DivideP.j1 k false bt241.1 bt241.2.1)))
def corebankref02_DivideP.j1 : Nat → Bool → Int → Int → Option (Int × Int)
 | 0, _, _, _ => none
 | k + 1, x43, x246000, x246001 => if x43 = true then ((corebankref01_Of.f 1).bind fun bt247 => ((corebankref01_Add.f x246000 x246001 bt247.1 bt247.2).bind fun bt249 => (corebankref02_DivideP.j2 k bt249.1 bt249.2.1))) else (corebankref02_DivideP.j2 k x246000 x246001)
def corebankref02_DivideP.j2 : Nat → Int → Int → Option (Int × Int)
 | 0, _, _ => none
 | k + 1, x246000, x246001 => (corebankref01_Int.f x246000 x246001).bind fun bt253 => (if bt253.2 = true then (some (bt253.1, 0)) else (some (0, 6)))
end
def corebankref02_DivideP.f (k : Nat) (a0_0 : Int) (a0_1 : Int) (a1 : Int) (a2 : Int) : Option (Int × Int) := if a1 < 1 then (corebankref02_DivideP.j0 k a1 a2 true a0_0 a0_1) else ((corebankref02_Valid.f a2).bind fun t240 => (corebankref02_DivideP.j0 k a1 a2 (!t240) a0_0 a0_1))
theorem corebankref02_DivideP.mono_l : ∀ k, (∀ y0 y1 y2 y3 y4, LeO (corebankref02_DivideP.j0 k y0 y1 y2 y3 y4) (corebankref02_DivideP.j0 (k + 1) y0 y1 y2 y3 y4)) ∧ (∀ y0 y1 y2, LeO (corebankref02_DivideP.j1 k y0 y1 y2) (corebankref02_DivideP.j1 (k + 1) y0 y1 y2)) ∧ (∀ y0 y1, LeO (corebankref02_DivideP.j2 k y0 y1) (corebankref02_DivideP.j2 (k + 1) y0 y1))
 | 0 => ⟨fun _ _ _ _ _ r h => by simp [corebankref02_DivideP.j0] at h, fun _ _ _ r h => by simp [corebankref02_DivideP.j1] at h, fun _ _ r h => by simp [corebankref02_DivideP.j2] at h⟩
 | k + 1 => by
  obtain ⟨ih0, ih1, ih2⟩ := corebankref02_DivideP.mono_l k
  refine ⟨?_, ?_, ?_⟩
  ·intro y0 y1 y2 y3 y4
   unfold corebankref02_DivideP.j0
   repeat' first
   | (with_reducible exact ih0 _ _ _ _ _)
   | (with_reducible exact ih1 _ _ _)
   | (with_reducible exact ih2 _ _)
   | (with_reducible exact LeO.refl _)
   | (with_reducible exact LeO.none _)
   | (with_reducible refine LeO.ite ?_ ?_)
   | (with_reducible refine LeO.bind ?_ (fun _ => ?_))
   | exact ih0 _ _ _ _ _
   | exact ih1 _ _ _
   | exact ih2 _ _
   | exact LeO.none _
   | refine LeO.ite ?_ ?_
   | refine LeO.bind ?_ (fun _ => ?_)
  ·intro y0 y1 y2
   unfold corebankref02_DivideP.j1
   repeat' first
   | (with_reducible exact ih0 _ _ _ _ _)
   | (with_reducible exact ih1 _ _ _)
   | (with_reducible exact ih2 _ _)
   | (with_reducible exact LeO.refl _)
   | (with_reducible exact LeO.none _)
   | (with_reducible refine LeO.ite ?_ ?_)
   | (with_reducible refine LeO.bind ?_ (fun _ => ?_))
   | exact ih0 _ _ _ _ _
   | exact ih1 _ _ _
   | exact ih2 _ _
   | exact LeO.none _
   | refine LeO.ite ?_ ?_
   | refine LeO.bind ?_ (fun _ => ?_)
  ·intro y0 y1
   unfold corebankref02_DivideP.j2
   repeat' first
   | (with_reducible exact ih0 _ _ _ _ _)
   | (with_reducible exact ih1 _ _ _)
   | (with_reducible exact ih2 _ _)
   | (with_reducible exact LeO.refl _)
   | (with_reducible exact LeO.none _)
   | (with_reducible refine LeO.ite ?_ ?_)
   | (with_reducible refine LeO.bind ?_ (fun _ => ?_))
   | exact ih0 _ _ _ _ _
   | exact ih1 _ _ _
   | exact ih2 _ _
   | exact LeO.none _
   | refine LeO.ite ?_ ?_
   | refine LeO.bind ?_ (fun _ => ?_)
theorem corebankref02_DivideP.mono : ∀ a0 a1 a2 a3 k, LeO (corebankref02_DivideP.f k a0 a1 a2 a3) (corebankref02_DivideP.f (k + 1) a0 a1 a2 a3) := by
 intro a0 a1 a2 a3 k
 obtain ⟨ih0, ih1, ih2⟩ := corebankref02_DivideP.mono_l k
 unfold corebankref02_DivideP.f
 repeat' first
   | (with_reducible exact ih0 _ _ _ _ _)
   | (with_reducible exact ih1 _ _ _)
   | (with_reducible exact ih2 _ _)
   | (with_reducible exact LeO.refl _)
   | (with_reducible exact LeO.none _)
   | (with_reducible refine LeO.ite ?_ ?_)
   | (with_reducible refine LeO.bind ?_ (fun _ => ?_))
   | exact ih0 _ _ _ _ _
   | exact ih1 _ _ _
   | exact ih2 _ _
   | exact LeO.none _
   | refine LeO.ite ?_ ?_
   | refine LeO.bind ?_ (fun _ => ?_)
def corebankref02_DivideP.T5 : Bool × List (List Nat × List Nat) := (true, [([], []), ([], []), ([0, 1, 1], [0, 1]), ([2], [2]), ([3], [3]), ([3], [3]), ([], []), ([6, 4, 2, 0, 1, 2, 3, 4, 6], [4, 6]), ([5, 7, 0, 1, 2, 3, 4, 5, 6, 7], [5])])
def corebankref02_DivideP.B5 : List Nat := [0, 0, 3, 7, 15, 15, 0, 95, 255]
theorem corebankref02_DivideP.tab5 : rtab .any (opsOf Tryd.f12 5) = corebankref02_DivideP.T5 := by kernel_rfl
theorem corebankref02_DivideP.bits5 : waitsOk corebankref02_DivideP.T5.2 corebankref02_DivideP.B5 = true := by kernel_rfl
set_option maxHeartbeats 8000000 in
set_option maxRecDepth 100000 in
theorem corebankref02_DivideP.calls (k : Nat) (a0_0 : Int) (a0_1 : Int) (a1 : Int) (a2 : Int) (r1 : Int) (r2 : Int) (w : World) (h : corebankref02_DivideP.f k a0_0 a0_1 a1 a2 = some (r1, r2)) :
  Calls Tryd.prog 12 #[.agg #[.int .i64 a0_0, .int .u64 a0_1], .int .i64 a1, .int .i64 a2] w fun e w' => e = .returned (.tuple #[.int .i64 r1, .int .i64 r2]) ∧ Below w.heap.size w w' := by
 have hu24 := Tryd.underlying24
 have HB := Aside0.mk (Below.refl w.heap.size w)
 have H : (if a1 < 1 then (corebankref02_DivideP.j0 k a1 a2 true a0_0 a0_1) else ((corebankref02_Valid.f a2).bind fun t240 => (corebankref02_DivideP.j0 k a1 a2 (!t240) a0_0 a0_1))) = some (r1, r2) := h
 clear h
 have HC4 := Aside0.mk H
 clear H
 go_enter Tryd.func12, Tryd.ntmps12
 go_upto_region 1 with (first | ((with_reducible refine gate_dst (N := 3) rfl ?_); refine be_ (N := 3) (cs := #[.int .i64 a0_0, .int .u64 a0_1]) (t := 24) ?_; intro gb239 hg w5 hbox hb; have n0_ := Aside0.mk (below_step (qb_ HB.out) hb); have n1_ := Aside0.mk (hbox); have n2_ := Aside0.mk (bz_ hg (qb_ HB.out) : w.heap.size ≤ gb239); have n3_ := n2_; clear HB; have HB := n0_; have BK239 := n1_; have GW239 := n2_; have GE239 := n3_; clear n0_ n1_ n2_ n3_; clear hb hbox hg))
 (try simp only [Act.put, List.setIfInBounds_toArray, List.set_cons_zero, List.set_cons_succ])
 go_cut [21] (fun v21 wc => ∃ (kq : Nat) (x21_3 : Bool), v21 = .bool x21_3 ∧ Aside0 (corebankref02_DivideP.j0 kq a1 a2 x21_3 a0_0 a0_1 = some (r1, r2)) ∧ Aside0 (kq ≤ k) ∧ Aside0 (wc.heap[gb239]? = some (.cells #[.int .i64 a0_0, .int .u64 a0_1] 24 (0, 0))) ∧ Aside0 (Below w.heap.size w wc))
 case first =>
  have H := HC4.out
  clear HC4
  by_cases c6 : a1 < 1
  ·rw [if_pos c6] at H
   have c6b0 : decide (a1 < 1) = true := decide_eq_true c6
   clear c6
   (first | rw [c6b0] | (simp only [i64_w, i32_w]; rw [c6b0]) | skip)
   have H' := Aside0.mk H
   clear H
   go_wp2
   go_meet
   case rel => exact ⟨_, (true), qs_, H', ⟨qo_⟩, ⟨qk_ BK239.out⟩, ⟨qb1_ GE239.out HB.out⟩⟩
  ·rw [if_neg c6] at H
   have c6b0 : decide (a1 < 1) = false := decide_eq_false c6
   clear c6
   (first | rw [c6b0] | (simp only [i64_w, i32_w]; rw [c6b0]) | skip)
   replace H := Option.bind_eq_some_iff.mp H
   obtain ⟨t240, A70, H⟩ := H
   replace H : (corebankref02_DivideP.j0 k a1 a2 (!t240) a0_0 a0_1) = some (r1, r2) := H
   have A7 := Aside0.mk A70
   clear A70
   have H' := Aside0.mk H
   clear H
   go_wp2_with (first | (go_at_call 14; (with_reducible refine (corebankref02_Valid.calls a2 t240 _ A7.out).mono ?_); rintro e w' ⟨rfl, ⟨nd, rfl⟩⟩))
   go_meet
   case rel => exact ⟨_, (!t240), qs_, H', ⟨qo_⟩, ⟨qk_ BK239.out⟩, ⟨qb1_ GE239.out HB.out⟩⟩
 case rest =>
  clear HC4
  try clear c1
  try clear p2
  try clear c6
  try clear c6b0
  obtain ⟨kq, x21_3, rfl, HA, HJ3, BK239, HB⟩ := hcut
  cases kq with
  | zero => exact absurd HA.out (by simp [corebankref02_DivideP.j0])
  | succ kj3 =>
   have H := HA.out
   clear HA
   simp only [corebankref02_DivideP.j0] at H
   by_cases c8 : x21_3 = true
   ·subst c8
    have H1 : (some (0, 1)) = some (r1, r2) := by rw [if_pos rfl] at H; exact H
    clear H
    have H := H1
    clear H1
    simp only [Option.some.injEq, Prod.mk.injEq] at H
    obtain ⟨rfl, rfl⟩ := H
    go_wp2
    go_ret2
    exact ⟨qe_, qb1_ GE239.out HB.out⟩
   ·replace c8 := Bool.eq_false_iff.mpr c8
    subst c8
    have H1 : ((corebankref01_Div.f a0_0 a0_1 a1).bind fun bt241 => (if bt241.2.2.1 > 0 then ((corebankref02_up.f (decide (a0_0 < 0)) ((Int.tmod bt241.2.1 2) == 1) bt241.2.2.1 a1 a2).bind fun t246 => (corebankref02_DivideP.j1 kj3 t246 bt241.1 bt241.2.1)) else (corebankref02_DivideP.j1 kj3 false bt241.1 bt241.2.1))) = some (r1, r2) := by rw [if_neg (show ¬ (false = true) by decide)] at H; exact H
    clear H
    have H := H1
    clear H1
    replace H := Option.bind_eq_some_iff.mp H
    obtain ⟨⟨t241, t242, t243, t244⟩, A90, H⟩ := H
    replace H : (if t243 > 0 then ((corebankref02_up.f (decide (a0_0 < 0)) ((Int.tmod t242 2) == 1) t243 a1 a2).bind fun t246 => (corebankref02_DivideP.j1 kj3 t246 t241 t242)) else (corebankref02_DivideP.j1 kj3 false t241 t242)) = some (r1, r2) := H
    have A9 := Aside0.mk A90
    clear A90
    have HC10 := Aside0.mk H
    clear H
    have hcz11_0 : wc.cell? ⟨gb239, 0, none⟩ = some (.int .i64 a0_0) := (blk_cell BK239.out 0).trans rfl
    have hcz11_1 : wc.cell? ⟨gb239, 1, none⟩ = some (.int .u64 a0_1) := (blk_cell BK239.out 1).trans rfl
    have hfz11_0 := blk_frozen BK239.out 0
    have hfz11_1 := blk_frozen BK239.out 1
    go_upto_region 4 with (first | ((with_reducible refine gate_callee (f := 31) rfl ?_); refine goesL_ (some 25) rfl rfl Tryd.func31 (by kernel_rfl) rfl #[.agg #[.int .i64 a0_0, .int .u64 a0_1], .int .i64 a1] rfl ql_ ?_; (with_reducible refine (corebankref01_Div.calls a0_0 a0_1 a1 t241 t242 t243 t244 _ A9.out).mono ?_); rintro e w12 ⟨rfl, hb⟩; refine ⟨_, rfl, ?_⟩; have n0_ := Aside0.mk (blk_below (qk_ BK239.out) hb); have n1_ := Aside0.mk (below_step (qb1_ GE239.out HB.out) hb); clear BK239; clear HB; have BK239 := n0_; have HB := n1_; clear n0_ n1_; (try clear hb); (try clear hb2); (try clear hk); (try clear hi)) | ((with_reducible refine gate_dst (N := 8) rfl ?_); refine be_ (N := 8) (cs := #[.int .i64 0, .int .u64 0]) (t := 24) ?_; intro gb245 hg w13 hbox hb; have n0_ := Aside0.mk (blk_below (qk_ BK239.out) hb); have n1_ := Aside0.mk (below_step (qb1_ GE239.out HB.out) hb); have n2_ := Aside0.mk (hbox); have n3_ := Aside0.mk (bz_ hg (qb1_ GE239.out HB.out) : w.heap.size ≤ gb245); have n4_ := n3_; have n5_ := Aside0.mk (nl_ hg (qk_ BK239.out) : gb239 ≠ gb245); have n6_ := Aside0.mk (ng_ hg (qk_ BK239.out) : gb245 ≠ gb239); clear BK239; clear HB; have BK239 := n0_; have HB := n1_; have BK245 := n2_; have GW245 := n3_; have GE245 := n4_; have NB239_245 := n5_; have NB245_239 := n6_; clear n0_ n1_ n2_ n3_ n4_ n5_ n6_; clear hb hbox hg; have hnb14 := NB245_239.out; have hnc14 := NB239_245.out; have hcz15_0 : w13.cell? ⟨gb245, 0, none⟩ = some (.int .i64 0) := (blk_cell BK245.out 0).trans rfl; have hcz15_1 : w13.cell? ⟨gb245, 1, none⟩ = some (.int .u64 0) := (blk_cell BK245.out 1).trans rfl; have hfz15_0 := blk_frozen BK245.out 0; have hfz15_1 := blk_frozen BK245.out 1))
    (try simp only [Act.put, List.setIfInBounds_toArray, List.set_cons_zero, List.set_cons_succ])
    go_cut [43] (fun v43 wc => ∃ (kq : Nat) (x43_9 : Bool), v43 = .bool x43_9 ∧ Aside0 (corebankref02_DivideP.j1 kq x43_9 t241 t242 = some (r1, r2)) ∧ Aside0 (kq ≤ kj3) ∧ Aside0 (wc.heap[gb239]? = some (.cells #[.int .i64 a0_0, .int .u64 a0_1] 24 (0, 0))) ∧ Aside0 (wc.heap[gb245]? = some (.cells #[.int .i64 t241, .int .u64 t242] 24 (0, 0))) ∧ Aside0 (Below w.heap.size w wc))
    case first =>
     have H := HC10.out
     clear HC10
     by_cases c16 : t243 > 0
     ·rw [if_pos c16] at H
      have c16b0 : decide (0 < t243) = true := decide_eq_true c16
      clear c16
      (first | rw [c16b0] | (simp only [i64_w, i32_w]; rw [c16b0]) | skip)
      replace H := Option.bind_eq_some_iff.mp H
      obtain ⟨t246, A170, H⟩ := H
      replace H : (corebankref02_DivideP.j1 kj3 t246 t241 t242) = some (r1, r2) := H
      have A17 := Aside0.mk A170
      clear A170
      have H' := Aside0.mk H
      clear H
      have hnb18 := NB239_245.out
      have hnc18 := NB245_239.out
      have hcz19_0 : w13.cell? ⟨gb239, 0, none⟩ = some (.int .i64 a0_0) := (blk_cell BK239.out 0).trans rfl
      have hcz19_1 : w13.cell? ⟨gb239, 1, none⟩ = some (.int .u64 a0_1) := (blk_cell BK239.out 1).trans rfl
      have hfz19_0 := blk_frozen BK239.out 0
      have hfz19_1 := blk_frozen BK239.out 1
      have hcz20_0 : w13.cell? ⟨gb245, 0, none⟩ = some (.int .i64 0) := (blk_cell BK245.out 0).trans rfl
      have hcz20_1 : w13.cell? ⟨gb245, 1, none⟩ = some (.int .u64 0) := (blk_cell BK245.out 1).trans rfl
      have hfz20_0 := blk_frozen BK245.out 0
      have hfz20_1 := blk_frozen BK245.out 1
      go_wp2_with (first | (go_at_call 39; (with_reducible refine (corebankref02_up.calls (decide (a0_0 < 0)) ((Int.tmod t242 2) == 1) t243 a1 a2 t246 _ A17.out).mono ?_); rintro e w' ⟨rfl, ⟨nd, rfl⟩⟩))
      go_meet
      case rel => exact ⟨_, (t246), qs_, H', ⟨by have := HJ3.out; first | omega | exact Nat.le_refl _⟩, ⟨qff_ NB239_245.out NB239_245.out BK239.out⟩, ⟨qpp_ #[.int .i64 t241, .int .u64 0] 1 #[.int .i64 0, .int .u64 0] 0 BK245.out⟩, ⟨qb2_ GE239.out GE245.out HB.out⟩⟩
     ·rw [if_neg c16] at H
      have c16b0 : decide (0 < t243) = false := decide_eq_false c16
      clear c16
      (first | rw [c16b0] | (simp only [i64_w, i32_w]; rw [c16b0]) | skip)
      have H' := Aside0.mk H
      clear H
      go_wp2
      go_meet
      case rel => exact ⟨_, (false), qs_, H', ⟨by have := HJ3.out; first | omega | exact Nat.le_refl _⟩, ⟨qff_ NB239_245.out NB239_245.out BK239.out⟩, ⟨qpp_ #[.int .i64 t241, .int .u64 0] 1 #[.int .i64 0, .int .u64 0] 0 BK245.out⟩, ⟨qb2_ GE239.out GE245.out HB.out⟩⟩
    case rest =>
     clear HC10
     try clear c1
     try clear p2
     try clear c3
     try clear c6
     try clear c6b0
     try clear c8
     try clear c12
     try clear c14
     try clear c16
     try clear c16b0
     try clear c18
     try clear hcz11_0
     try clear hcz11_1
     try clear hcz15_0
     try clear hcz15_1
     try clear hcz19_0
     try clear hcz19_1
     try clear hcz20_0
     try clear hcz20_1
     try clear hfz11_0
     try clear hfz11_1
     try clear hfz15_0
     try clear hfz15_1
     try clear hfz19_0
     try clear hfz19_1
     try clear hfz20_0
     try clear hfz20_1
     try clear p2
     obtain ⟨kq, x43_9, rfl, HA, HJ9, BK239, BK245, HB⟩ := hcut
     cases kq with
     | zero => exact absurd HA.out (by simp [corebankref02_DivideP.j1])
     | succ kj9 =>
      have H := HA.out
      clear HA
      simp only [corebankref02_DivideP.j1] at H
      have HC21 := Aside0.mk H
      clear H
      go_upto_if 43 with (fail)
      go_cut [] (fun wc => ∃ (kq : Nat) (x246000_20 : Int) (x246001_20 : Int), Aside0 (corebankref02_DivideP.j2 kq x246000_20 x246001_20 = some (r1, r2)) ∧ Aside0 (kq ≤ kj9) ∧ Aside0 (wc.heap[gb239]? = some (.cells #[.int .i64 a0_0, .int .u64 a0_1] 24 (0, 0))) ∧ Aside0 (wc.heap[gb245]? = some (.cells #[.int .i64 x246000_20, .int .u64 x246001_20] 24 (0, 0))) ∧ Aside0 (Below w.heap.size w wc))
      case first =>
       have H := HC21.out
       clear HC21
       by_cases c22 : x43_9 = true
       ·subst c22
        have H1 : ((corebankref01_Of.f 1).bind fun bt247 => ((corebankref01_Add.f t241 t242 bt247.1 bt247.2).bind fun bt249 => (corebankref02_DivideP.j2 kj9 bt249.1 bt249.2.1))) = some (r1, r2) := by rw [if_pos rfl] at H; exact H
        clear H
        have H := H1
        clear H1
        replace H := Option.bind_eq_some_iff.mp H
        obtain ⟨⟨t247, t248⟩, A230, H⟩ := H
        replace H : ((corebankref01_Add.f t241 t242 t247 t248).bind fun bt249 => (corebankref02_DivideP.j2 kj9 bt249.1 bt249.2.1)) = some (r1, r2) := H
        have A23 := Aside0.mk A230
        clear A230
        replace H := Option.bind_eq_some_iff.mp H
        obtain ⟨⟨t249, t250, t251⟩, A240, H⟩ := H
        replace H : (corebankref02_DivideP.j2 kj9 t249 t250) = some (r1, r2) := H
        have A24 := Aside0.mk A240
        clear A240
        have H' := Aside0.mk H
        clear H
        try go_wp2
        have n0_ := Aside0.mk (blk_drew BK239.out)
        have n1_ := Aside0.mk (blk_drew BK245.out)
        have n2_ := Aside0.mk (below_drew1 HB.out)
        clear BK239
        clear BK245
        clear HB
        have BK239 := n0_
        have BK245 := n1_
        have HB := n2_
        clear n0_ n1_ n2_
        refine start_ (n := 9) (S := fun w' => w'.cell? ⟨gb245, 0, none⟩ = some (.int .i64 t241) ∧ w'.cell? ⟨gb245, 1, none⟩ = some (.int .u64 t242)) (ds := []) (nb_ 9 0) (by kernel_rfl) rfl rfl ⟨(blk_cell BK245.out 0).trans rfl, (blk_cell BK245.out 1).trans rfl⟩ (fun hHeld => ?_); refine with_tabW corebankref02_DivideP.tab5 corebankref02_DivideP.bits5 (fun HT_ HW_ => ?_)
        generalize wc.drew = w25 at BK239 BK245 HB hHeld ⊢
        refine tk2_ 0 45 (nb_ 9 1) HT_.out HW_.out hHeld ?_
        refine join_ (σ := Nat) 2 (nb_ 9 127) (fun s_ => [(46, .agg #[.int .i64 t247, .int .u64 t248]), (47, .tuple #[.agg #[.int .i64 t249, .int .u64 t250], .int .i64 t251]), (11, .pointer (some ⟨s_, 0, none⟩)), (44, .tuple #[.agg #[.int .i64 t249, .int .u64 t250], .int .i64 t251]), (48, .agg #[.int .i64 t249, .int .u64 t250]), (49, .int .i64 t251)]) (fun s_ w' => (w'.cell? ⟨gb245, 0, none⟩ = some (.int .i64 t241) ∧ w'.cell? ⟨gb245, 1, none⟩ = some (.int .u64 t242)) ∧ (w'.heap[gb239]? = some (.cells #[.int .i64 a0_0, .int .u64 a0_1] 24 (0, 0))) ∧ (w'.heap[gb245]? = some (.cells #[.int .i64 t241, .int .u64 t242] 24 (0, 0))) ∧ (w'.heap[s_]? = some (.cells #[.int .i64 0, .int .u64 0] 24 (0, 0))) ∧ (w.heap.size ≤ s_) ∧ (w.heap.size ≤ s_) ∧ (gb239 ≠ s_) ∧ (s_ ≠ gb239) ∧ (gb245 ≠ s_) ∧ (s_ ≠ gb245) ∧ (Below w.heap.size w w')) ?_ ?_
        rotate_left
        ·intro hCont
         refine two_ (i := 1) (j := 6) (Ni := some 46) (Nj := some 11) (nb_ 9 3) (nb_ 9 65) rfl rfl rfl rfl (two_of HT_.out (by kernel_rfl)) (by decide) (by decide) (fun K hK => ?_) (fun K hK => ?_)
         ·skip
          refine goes_ Tryd.func21 (by kernel_rfl) rfl #[.int .i64 1] (by rfl) rfl rfl ql_ ?_
          with_reducible refine (corebankref01_Of.calls 1 t247 t248 _ A23.out).mono ?_
          rintro e w26 ⟨rfl, hb⟩
          refine ⟨_, rfl, ?_⟩
          have n0_ := Aside0.mk (blk_below (qk_ BK239.out) hb)
          have n1_ := Aside0.mk (blk_below (qk_ BK245.out) hb)
          have n2_ := Aside0.mk (below_step (qb2_ GE239.out GE245.out HB.out) hb)
          clear BK239
          clear BK245
          clear HB
          have BK239 := n0_
          have BK245 := n1_
          have HB := n2_
          clear n0_ n1_ n2_
          (try clear hb)
          (try clear hb2)
          (try clear hk)
          (try clear hi)
          refine hK.out _ _ ⟨(blk_cell BK245.out 0).trans rfl, (blk_cell BK245.out 1).trans rfl⟩ (fun hHeld => ?_)
          clear hK K
          refine no_ ?_
          refine two_ (i := 2) (j := 6) (Ni := some 47) (Nj := some 11) (nb_ 9 7) (nb_ 9 67) rfl rfl rfl rfl (two_of HT_.out (by kernel_rfl)) (by decide) (by decide) (fun K hK => ?_) (fun K hK => ?_)
          ·skip
           refine goes_ Tryd.func18 (by kernel_rfl) rfl #[.agg #[.int .i64 t241, .int .u64 t242], .agg #[.int .i64 t247, .int .u64 t248]] (by rfl) rfl rfl ql_ ?_
           with_reducible refine (corebankref01_Add.calls t241 t242 t247 t248 t249 t250 t251 _ A24.out).mono ?_
           rintro e w27 ⟨rfl, hb⟩
           refine ⟨_, rfl, ?_⟩
           have n0_ := Aside0.mk (blk_below (qk_ BK239.out) hb)
           have n1_ := Aside0.mk (blk_below (qk_ BK245.out) hb)
           have n2_ := Aside0.mk (below_step (qb2_ GE239.out GE245.out HB.out) hb)
           clear BK239
           clear BK245
           clear HB
           have BK239 := n0_
           have BK245 := n1_
           have HB := n2_
           clear n0_ n1_ n2_
           (try clear hb)
           (try clear hb2)
           (try clear hk)
           (try clear hi)
           refine hK.out _ _ ⟨(blk_cell BK245.out 0).trans rfl, (blk_cell BK245.out 1).trans rfl⟩ (fun hHeld => ?_)
           clear hK K
           refine no_ ?_
           refine pz_ 3 44 (nb_ 9 15) HT_.out ?_
           refine pz_ 4 48 (nb_ 9 31) HT_.out ?_
           refine pz_ 5 49 (nb_ 9 63) HT_.out ?_
           refine on_ 6 11 (nb_ 9 127) HT_.out (fun K hK => ?_)
           refine box_step ?hg (N := 11) ?hd (cs := #[.int .i64 0, .int .u64 0]) (t := 24) ?hr ?_; (case hd => rfl); (case hg => rfl); (case hr => first | (go_simp; done) | (go_simp; rfl))
           intro gb252 hg w28 hbox hb
           have n0_ := Aside0.mk (blk_below (qk_ BK239.out) hb)
           have n1_ := Aside0.mk (blk_below (qk_ BK245.out) hb)
           have n2_ := Aside0.mk (below_step (qb2_ GE239.out GE245.out HB.out) hb)
           have n3_ := Aside0.mk (hbox)
           have n4_ := Aside0.mk (bz_ hg (qb2_ GE239.out GE245.out HB.out) : w.heap.size ≤ gb252)
           have n5_ := Aside0.mk (bz_ hg (qb2_ GE239.out GE245.out HB.out) : w.heap.size ≤ gb252)
           have n6_ := Aside0.mk (nl_ hg (qk_ BK239.out) : gb239 ≠ gb252)
           have n7_ := Aside0.mk (ng_ hg (qk_ BK239.out) : gb252 ≠ gb239)
           have n8_ := Aside0.mk (nl_ hg (qk_ BK245.out) : gb245 ≠ gb252)
           have n9_ := Aside0.mk (ng_ hg (qk_ BK245.out) : gb252 ≠ gb245)
           clear BK239
           clear BK245
           clear HB
           have BK239 := n0_
           have BK245 := n1_
           have HB := n2_
           have BK252 := n3_
           have GW252 := n4_
           have GE252 := n5_
           have NB239_252 := n6_
           have NB252_239 := n7_
           have NB245_252 := n8_
           have NB252_245 := n9_
           clear n0_ n1_ n2_ n3_ n4_ n5_ n6_ n7_ n8_ n9_
           clear hb hbox hg
           refine hK.out _ _ ⟨(blk_cell BK245.out 0).trans rfl, (blk_cell BK245.out 1).trans rfl⟩ (fun hHeld => ?_)
           clear hK K
           refine no_ ?_
           exact norm_ (by simp only [putAll, Act.put, List.setIfInBounds_toArray, List.set_cons_zero, List.set_cons_succ]) (hCont (gb252) _ ⟨hHeld, (qk_ BK239.out), (qk_ BK245.out), (qk_ BK252.out), GW252.out, GE252.out, NB239_252.out, NB252_239.out, NB245_252.out, NB252_245.out, (qb3_ GE239.out GE245.out GE252.out HB.out)⟩)
          ·skip
           refine box_step ?hg (N := 11) ?hd (cs := #[.int .i64 0, .int .u64 0]) (t := 24) ?hr ?_; (case hd => rfl); (case hg => rfl); (case hr => first | (go_simp; done) | (go_simp; rfl))
           intro gb252 hg w27 hbox hb
           have n0_ := Aside0.mk (blk_below (qk_ BK239.out) hb)
           have n1_ := Aside0.mk (blk_below (qk_ BK245.out) hb)
           have n2_ := Aside0.mk (below_step (qb2_ GE239.out GE245.out HB.out) hb)
           have n3_ := Aside0.mk (hbox)
           have n4_ := Aside0.mk (bz_ hg (qb2_ GE239.out GE245.out HB.out) : w.heap.size ≤ gb252)
           have n5_ := Aside0.mk (bz_ hg (qb2_ GE239.out GE245.out HB.out) : w.heap.size ≤ gb252)
           have n6_ := Aside0.mk (nl_ hg (qk_ BK239.out) : gb239 ≠ gb252)
           have n7_ := Aside0.mk (ng_ hg (qk_ BK239.out) : gb252 ≠ gb239)
           have n8_ := Aside0.mk (nl_ hg (qk_ BK245.out) : gb245 ≠ gb252)
           have n9_ := Aside0.mk (ng_ hg (qk_ BK245.out) : gb252 ≠ gb245)
           clear BK239
           clear BK245
           clear HB
           have BK239 := n0_
           have BK245 := n1_
           have HB := n2_
           have BK252 := n3_
           have GW252 := n4_
           have GE252 := n5_
           have NB239_252 := n6_
           have NB252_239 := n7_
           have NB245_252 := n8_
           have NB252_245 := n9_
           clear n0_ n1_ n2_ n3_ n4_ n5_ n6_ n7_ n8_ n9_
           clear hb hbox hg
           refine hK.out _ _ ⟨(blk_cell BK245.out 0).trans rfl, (blk_cell BK245.out 1).trans rfl⟩ (fun hHeld => ?_)
           clear hK K
           refine no_ ?_
           refine on_ 2 47 (nb_ 9 71) HT_.out (fun K hK => ?_)
           refine goes_ Tryd.func18 (by kernel_rfl) rfl #[.agg #[.int .i64 t241, .int .u64 t242], .agg #[.int .i64 t247, .int .u64 t248]] (by rfl) rfl rfl ql_ ?_
           with_reducible refine (corebankref01_Add.calls t241 t242 t247 t248 t249 t250 t251 _ A24.out).mono ?_
           rintro e w28 ⟨rfl, hb⟩
           refine ⟨_, rfl, ?_⟩
           have n0_ := Aside0.mk (blk_below (qk_ BK239.out) hb)
           have n1_ := Aside0.mk (blk_below (qk_ BK245.out) hb)
           have n2_ := Aside0.mk (blk_below (qk_ BK252.out) hb)
           have n3_ := Aside0.mk (below_step (qb3_ GE239.out GE245.out GE252.out HB.out) hb)
           clear BK239
           clear BK245
           clear BK252
           clear HB
           have BK239 := n0_
           have BK245 := n1_
           have BK252 := n2_
           have HB := n3_
           clear n0_ n1_ n2_ n3_
           (try clear hb)
           (try clear hb2)
           (try clear hk)
           (try clear hi)
           refine hK.out _ _ ⟨(blk_cell BK245.out 0).trans rfl, (blk_cell BK245.out 1).trans rfl⟩ (fun hHeld => ?_)
           clear hK K
           refine no_ ?_
           refine pz_ 3 44 (nb_ 9 79) HT_.out ?_
           refine pz_ 4 48 (nb_ 9 95) HT_.out ?_
           refine pz_ 5 49 (nb_ 9 127) HT_.out ?_
           exact norm_ (by simp only [putAll, Act.put, List.setIfInBounds_toArray, List.set_cons_zero, List.set_cons_succ]) (hCont (gb252) _ ⟨hHeld, (qk_ BK239.out), (qk_ BK245.out), (qk_ BK252.out), GW252.out, GE252.out, NB239_252.out, NB252_239.out, NB245_252.out, NB252_245.out, (qb3_ GE239.out GE245.out GE252.out HB.out)⟩)
         ·skip
          refine box_step ?hg (N := 11) ?hd (cs := #[.int .i64 0, .int .u64 0]) (t := 24) ?hr ?_; (case hd => rfl); (case hg => rfl); (case hr => first | (go_simp; done) | (go_simp; rfl))
          intro gb252 hg w26 hbox hb
          have n0_ := Aside0.mk (blk_below (qk_ BK239.out) hb)
          have n1_ := Aside0.mk (blk_below (qk_ BK245.out) hb)
          have n2_ := Aside0.mk (below_step (qb2_ GE239.out GE245.out HB.out) hb)
          have n3_ := Aside0.mk (hbox)
          have n4_ := Aside0.mk (bz_ hg (qb2_ GE239.out GE245.out HB.out) : w.heap.size ≤ gb252)
          have n5_ := Aside0.mk (bz_ hg (qb2_ GE239.out GE245.out HB.out) : w.heap.size ≤ gb252)
          have n6_ := Aside0.mk (nl_ hg (qk_ BK239.out) : gb239 ≠ gb252)
          have n7_ := Aside0.mk (ng_ hg (qk_ BK239.out) : gb252 ≠ gb239)
          have n8_ := Aside0.mk (nl_ hg (qk_ BK245.out) : gb245 ≠ gb252)
          have n9_ := Aside0.mk (ng_ hg (qk_ BK245.out) : gb252 ≠ gb245)
          clear BK239
          clear BK245
          clear HB
          have BK239 := n0_
          have BK245 := n1_
          have HB := n2_
          have BK252 := n3_
          have GW252 := n4_
          have GE252 := n5_
          have NB239_252 := n6_
          have NB252_239 := n7_
          have NB245_252 := n8_
          have NB252_245 := n9_
          clear n0_ n1_ n2_ n3_ n4_ n5_ n6_ n7_ n8_ n9_
          clear hb hbox hg
          refine hK.out _ _ ⟨(blk_cell BK245.out 0).trans rfl, (blk_cell BK245.out 1).trans rfl⟩ (fun hHeld => ?_)
          clear hK K
          refine no_ ?_
          refine on_ 1 46 (nb_ 9 67) HT_.out (fun K hK => ?_)
          refine goes_ Tryd.func21 (by kernel_rfl) rfl #[.int .i64 1] (by rfl) rfl rfl ql_ ?_
          with_reducible refine (corebankref01_Of.calls 1 t247 t248 _ A23.out).mono ?_
          rintro e w27 ⟨rfl, hb⟩
          refine ⟨_, rfl, ?_⟩
          have n0_ := Aside0.mk (blk_below (qk_ BK239.out) hb)
          have n1_ := Aside0.mk (blk_below (qk_ BK245.out) hb)
          have n2_ := Aside0.mk (blk_below (qk_ BK252.out) hb)
          have n3_ := Aside0.mk (below_step (qb3_ GE239.out GE245.out GE252.out HB.out) hb)
          clear BK239
          clear BK245
          clear BK252
          clear HB
          have BK239 := n0_
          have BK245 := n1_
          have BK252 := n2_
          have HB := n3_
          clear n0_ n1_ n2_ n3_
          (try clear hb)
          (try clear hb2)
          (try clear hk)
          (try clear hi)
          refine hK.out _ _ ⟨(blk_cell BK245.out 0).trans rfl, (blk_cell BK245.out 1).trans rfl⟩ (fun hHeld => ?_)
          clear hK K
          refine no_ ?_
          refine on_ 2 47 (nb_ 9 71) HT_.out (fun K hK => ?_)
          refine goes_ Tryd.func18 (by kernel_rfl) rfl #[.agg #[.int .i64 t241, .int .u64 t242], .agg #[.int .i64 t247, .int .u64 t248]] (by rfl) rfl rfl ql_ ?_
          with_reducible refine (corebankref01_Add.calls t241 t242 t247 t248 t249 t250 t251 _ A24.out).mono ?_
          rintro e w28 ⟨rfl, hb⟩
          refine ⟨_, rfl, ?_⟩
          have n0_ := Aside0.mk (blk_below (qk_ BK239.out) hb)
          have n1_ := Aside0.mk (blk_below (qk_ BK245.out) hb)
          have n2_ := Aside0.mk (blk_below (qk_ BK252.out) hb)
          have n3_ := Aside0.mk (below_step (qb3_ GE239.out GE245.out GE252.out HB.out) hb)
          clear BK239
          clear BK245
          clear BK252
          clear HB
          have BK239 := n0_
          have BK245 := n1_
          have BK252 := n2_
          have HB := n3_
          clear n0_ n1_ n2_ n3_
          (try clear hb)
          (try clear hb2)
          (try clear hk)
          (try clear hi)
          refine hK.out _ _ ⟨(blk_cell BK245.out 0).trans rfl, (blk_cell BK245.out 1).trans rfl⟩ (fun hHeld => ?_)
          clear hK K
          refine no_ ?_
          refine pz_ 3 44 (nb_ 9 79) HT_.out ?_
          refine pz_ 4 48 (nb_ 9 95) HT_.out ?_
          refine pz_ 5 49 (nb_ 9 127) HT_.out ?_
          exact norm_ (by simp only [putAll, Act.put, List.setIfInBounds_toArray, List.set_cons_zero, List.set_cons_succ]) (hCont (gb252) _ ⟨hHeld, (qk_ BK239.out), (qk_ BK245.out), (qk_ BK252.out), GW252.out, GE252.out, NB239_252.out, NB252_239.out, NB245_252.out, NB252_245.out, (qb3_ GE239.out GE245.out GE252.out HB.out)⟩)
        rintro gb252 w29 ⟨hS_, h0_, h1_, h2_, h3_, h4_, h5_, h6_, h7_, h8_, h9_⟩
        have n0_ : Aside0 (w29.heap[gb239]? = some (.cells #[.int .i64 a0_0, .int .u64 a0_1] 24 (0, 0))) := ⟨h0_⟩
        have n1_ : Aside0 (w29.heap[gb245]? = some (.cells #[.int .i64 t241, .int .u64 t242] 24 (0, 0))) := ⟨h1_⟩
        have n2_ : Aside0 (w29.heap[gb252]? = some (.cells #[.int .i64 0, .int .u64 0] 24 (0, 0))) := ⟨h2_⟩
        have n3_ : Aside0 (w.heap.size ≤ gb252) := ⟨h3_⟩
        have n4_ : Aside0 (w.heap.size ≤ gb252) := ⟨h4_⟩
        have n5_ : Aside0 (gb239 ≠ gb252) := ⟨h5_⟩
        have n6_ : Aside0 (gb252 ≠ gb239) := ⟨h6_⟩
        have n7_ : Aside0 (gb245 ≠ gb252) := ⟨h7_⟩
        have n8_ : Aside0 (gb252 ≠ gb245) := ⟨h8_⟩
        have n9_ : Aside0 (Below w.heap.size w w29) := ⟨h9_⟩
        clear BK239
        clear BK245
        clear HB
        clear h0_ h1_ h2_ h3_ h4_ h5_ h6_ h7_ h8_ h9_
        have BK239 := n0_
        have BK245 := n1_
        have BK252 := n2_
        have GW252 := n3_
        have GE252 := n4_
        have NB239_252 := n5_
        have NB252_239 := n6_
        have NB245_252 := n7_
        have NB252_245 := n8_
        have HB := n9_
        clear n0_ n1_ n2_ n3_ n4_ n5_ n6_ n7_ n8_ n9_
        have hHeld : w29.cell? ⟨gb245, 0, none⟩ = some (.int .i64 t241) ∧ w29.cell? ⟨gb245, 1, none⟩ = some (.int .u64 t242) := hS_
        refine norm_ (a' := ?_) ?_ ?_
        rotate_left
        ·simp only [putAll, Act.put, List.setIfInBounds_toArray, List.set_cons_zero, List.set_cons_succ]
         rfl
        refine one_ (i := 7) (N := none) (nb_ 9 255) rfl rfl (one_of HT_.out (by kernel_rfl)) (by decide) (fun K hK => ?_)
        have hs30 : w29.cell? ⟨gb252, 0, none⟩ = some (.int .i64 0) := (blk_cell BK252.out 0).trans rfl
        have hfs30 := blk_frozen BK252.out 0
        have hns30_0 := NB239_252.out
        have hns30_1 := NB245_252.out
        have hms30_0 := NB252_239.out
        have hms30_1 := NB252_245.out
        have hs31 : w29.cell? ⟨gb252, 1, none⟩ = some (.int .u64 0) := (blk_cell BK252.out 1).trans rfl
        have hfs31 := blk_frozen BK252.out 1
        have hns31_0 := NB239_252.out
        have hns31_1 := NB245_252.out
        have hms31_0 := NB252_239.out
        have hms31_1 := NB252_245.out
        refine skip_ (w1 := ?_) (by rfl) rfl ?_ ?_
        rotate_left
        ·go_simp
         rfl
        refine hK.out _ _ ⟨((cell_far (p := ⟨gb252, _, none⟩) NB245_252.out _).trans (((cell_far (p := ⟨gb252, _, none⟩) NB245_252.out _).trans (hHeld.1)))), ((cell_far (p := ⟨gb252, _, none⟩) NB245_252.out _).trans (((cell_far (p := ⟨gb252, _, none⟩) NB245_252.out _).trans (hHeld.2))))⟩ (fun hHeld => ?_)
        clear hK K
        refine pz_ 8 12 (nb_ 9 511) HT_.out ?_
        refine done_ (done_of HT_.out (by kernel_rfl)) ?_
        have hnb32 := NB252_239.out
        have hnc32 := NB239_252.out
        have hnb33 := NB252_245.out
        have hnc33 := NB245_252.out
        have hcz34_0 : w29.cell? ⟨gb252, 0, none⟩ = some (.int .i64 0) := (blk_cell BK252.out 0).trans rfl
        have hcz34_1 : w29.cell? ⟨gb252, 1, none⟩ = some (.int .u64 0) := (blk_cell BK252.out 1).trans rfl
        have hfz34_0 := blk_frozen BK252.out 0
        have hfz34_1 := blk_frozen BK252.out 1
        have hnb35 := NB245_239.out
        have hnc35 := NB239_245.out
        have hcz36_0 : w29.cell? ⟨gb245, 0, none⟩ = some (.int .i64 t241) := (blk_cell BK245.out 0).trans rfl
        have hcz36_1 : w29.cell? ⟨gb245, 1, none⟩ = some (.int .u64 t242) := (blk_cell BK245.out 1).trans rfl
        have hfz36_0 := blk_frozen BK245.out 0
        have hfz36_1 := blk_frozen BK245.out 1
        try go_wp2
        go_meet
        case rel => exact ⟨_, (t249), (t250), H', ⟨by have := HJ3.out; have := HJ9.out; first | omega | exact Nat.le_refl _⟩, ⟨qffff_ NB239_245.out NB239_245.out NB239_252.out NB239_252.out BK239.out⟩, ⟨qppff_ #[.int .i64 t249, .int .u64 t242] 1 #[.int .i64 t241, .int .u64 t242] 0 NB245_252.out NB245_252.out BK245.out⟩, ⟨qb3_ GE239.out GE245.out GE252.out HB.out⟩⟩
       ·replace c22 := Bool.eq_false_iff.mpr c22
        subst c22
        have H1 : (corebankref02_DivideP.j2 kj9 t241 t242) = some (r1, r2) := by rw [if_neg (show ¬ (false = true) by decide)] at H; exact H
        clear H
        have H := H1
        clear H1
        have H' := Aside0.mk H
        clear H
        go_wp2
        go_meet
        case rel => exact ⟨_, (t241), (t242), H', ⟨by have := HJ3.out; have := HJ9.out; first | omega | exact Nat.le_refl _⟩, ⟨qk_ BK239.out⟩, ⟨qk_ BK245.out⟩, ⟨qb2_ GE239.out GE245.out HB.out⟩⟩
      case rest =>
       clear HC21
       try clear c1
       try clear c2
       try clear p2
       try clear c3
       try clear c6
       try clear c6b0
       try clear c8
       try clear c12
       try clear c14
       try clear c16
       try clear c16b0
       try clear c18
       try clear c21
       try clear c22
       try clear c31
       try clear c32
       try clear c33
       try clear c35
       try clear hcz11_0
       try clear hcz11_1
       try clear hcz15_0
       try clear hcz15_1
       try clear hcz19_0
       try clear hcz19_1
       try clear hcz20_0
       try clear hcz20_1
       try clear hcz34_0
       try clear hcz34_1
       try clear hcz36_0
       try clear hcz36_1
       try clear hfz11_0
       try clear hfz11_1
       try clear hfz15_0
       try clear hfz15_1
       try clear hfz19_0
       try clear hfz19_1
       try clear hfz20_0
       try clear hfz20_1
       try clear hfz34_0
       try clear hfz34_1
       try clear hfz36_0
       try clear hfz36_1
       try clear p2
       obtain ⟨kq, x246000_20, x246001_20, HA, HJ20, BK239, BK245, HB⟩ := hcut
       cases kq with
       | zero => exact absurd HA.out (by simp [corebankref02_DivideP.j2])
       | succ kj20 =>
        have H := HA.out
        clear HA
        simp only [corebankref02_DivideP.j2] at H
        replace H := Option.bind_eq_some_iff.mp H
        obtain ⟨⟨t253, t254⟩, A370, H⟩ := H
        replace H : (if t254 = true then (some (t253, 0)) else (some (0, 6))) = some (r1, r2) := H
        have A37 := Aside0.mk A370
        clear A370
        by_cases c38 : t254 = true
        ·subst c38
         have H1 : (some (t253, 0)) = some (r1, r2) := by rw [if_pos rfl] at H; exact H
         clear H
         have H := H1
         clear H1
         simp only [Option.some.injEq, Prod.mk.injEq] at H
         obtain ⟨rfl, rfl⟩ := H
         have hnb39 := NB245_239.out
         have hnc39 := NB239_245.out
         have hcz40_0 : wc.cell? ⟨gb245, 0, none⟩ = some (.int .i64 x246000_20) := (blk_cell BK245.out 0).trans rfl
         have hcz40_1 : wc.cell? ⟨gb245, 1, none⟩ = some (.int .u64 x246001_20) := (blk_cell BK245.out 1).trans rfl
         have hfz40_0 := blk_frozen BK245.out 0
         have hfz40_1 := blk_frozen BK245.out 1
         go_wp2_with (first | ((with_reducible refine gate_callee (f := 32) rfl ?_); refine goesL_ (some 53) rfl rfl Tryd.func32 (by kernel_rfl) rfl #[.agg #[.int .i64 x246000_20, .int .u64 x246001_20]] rfl ql_ ?_; (with_reducible refine (corebankref01_Int.calls x246000_20 x246001_20 t253 true _ A37.out).mono ?_); rintro e w41 ⟨rfl, hb⟩; refine ⟨_, rfl, ?_⟩; have n0_ := Aside0.mk (blk_below (qk_ BK239.out) hb); have n1_ := Aside0.mk (blk_below (qk_ BK245.out) hb); have n2_ := Aside0.mk (below_step (qb2_ GE239.out GE245.out HB.out) hb); clear BK239; clear BK245; clear HB; have BK239 := n0_; have BK245 := n1_; have HB := n2_; clear n0_ n1_ n2_; (try clear hb); (try clear hb2); (try clear hk); (try clear hi)))
         go_ret2
         exact ⟨qe_, qb2_ GE239.out GE245.out HB.out⟩
        ·replace c38 := Bool.eq_false_iff.mpr c38
         subst c38
         have H1 : (some (0, 6)) = some (r1, r2) := by rw [if_neg (show ¬ (false = true) by decide)] at H; exact H
         clear H
         have H := H1
         clear H1
         simp only [Option.some.injEq, Prod.mk.injEq] at H
         obtain ⟨rfl, rfl⟩ := H
         have hnb42 := NB245_239.out
         have hnc42 := NB239_245.out
         have hcz43_0 : wc.cell? ⟨gb245, 0, none⟩ = some (.int .i64 x246000_20) := (blk_cell BK245.out 0).trans rfl
         have hcz43_1 : wc.cell? ⟨gb245, 1, none⟩ = some (.int .u64 x246001_20) := (blk_cell BK245.out 1).trans rfl
         have hfz43_0 := blk_frozen BK245.out 0
         have hfz43_1 := blk_frozen BK245.out 1
         go_wp2_with (first | ((with_reducible refine gate_callee (f := 32) rfl ?_); refine goesL_ (some 53) rfl rfl Tryd.func32 (by kernel_rfl) rfl #[.agg #[.int .i64 x246000_20, .int .u64 x246001_20]] rfl ql_ ?_; (with_reducible refine (corebankref01_Int.calls x246000_20 x246001_20 t253 false _ A37.out).mono ?_); rintro e w44 ⟨rfl, hb⟩; refine ⟨_, rfl, ?_⟩; have n0_ := Aside0.mk (blk_below (qk_ BK239.out) hb); have n1_ := Aside0.mk (blk_below (qk_ BK245.out) hb); have n2_ := Aside0.mk (below_step (qb2_ GE239.out GE245.out HB.out) hb); clear BK239; clear BK245; clear HB; have BK239 := n0_; have BK245 := n1_; have HB := n2_; clear n0_ n1_ n2_; (try clear hb); (try clear hb2); (try clear hk); (try clear hi)))
         go_ret2
         exact ⟨qe_, qb2_ GE239.out GE245.out HB.out⟩
end Go.Proofs.YtkdhippoibjfkaaDoor.PR
end
section
namespace Go.Proofs.YtkdhippoibjfkaaDoor.PR
open Go.RowKit Go.Proofs.YtkdhippoibjfkaaDoorW.PrintWords Go.Proofs.YtkdhippoibjfkaaDoorW.PrintLast
set_option linter.unusedVariables false
set_option linter.unusedSimpArgs false
def corebankref02_Divide.f (a0_0 a0_1 a1 a2 : Int) : Option (Int × Int) := if isW a0_0 a0_1 ∧ inI a1 then some (divR (wv a0_0 a0_1) a1 a2) else none
theorem corebankref02_Divide.eq {a b n m : Int} {r : Int × Int} (h : corebankref02_Divide.f a b n m = some r) : ∃ k, corebankref02_DivideP.f k a b n m = some r := by
 unfold corebankref02_Divide.f at h
 split at h
 ·rename_i q
  obtain ⟨⟨⟨a0, a1⟩, b0, b1⟩, n0, n1⟩ := id q
  injection h with h
  subst h
  refine ⟨3, ?_⟩
  unfold corebankref02_DivideP.f divR
  by_cases hn : n < 1
  ·rw [if_pos hn, if_pos (.inl hn)]
   simp only [corebankref02_DivideP.j0]
   rw [if_pos trivial]
  ·rw [if_neg hn]
   by_cases hm : m < 1 ∨ 6 < m
   ·rw [if_pos (.inr hm)]
    have hval : corebankref02_Valid.f m = some false := by
     unfold corebankref02_Valid.f
     split
     ·congr 1; apply decide_eq_false; omega
     ·rfl
    rw [hval]
    simp only [Option.bind_some, corebankref02_DivideP.j0]
    rfl
   ·rw [if_neg (by omega)]
    have hval : corebankref02_Valid.f m = some true := by
     unfold corebankref02_Valid.f
     rw [if_pos (by omega)]
     congr 1; apply decide_eq_true; omega
    rw [hval]
    simp only [Option.bind_some, corebankref02_DivideP.j0]
    rw [if_neg (by decide)]
    unfold corebankref01_Div.f
    rw [if_pos q, if_neg hn]
    simp only [Option.bind_some]
    have hv : wv a b = a * 18446744073709551616 + b := rfl
    have hsv : decide (a < 0) = decide (wv a b / n < 0) := by
     apply decide_eq_decide.mpr
     constructor
     ·intro ha; exact Int.ediv_neg_of_neg_of_pos (by omega) (by omega)
     ·intro hq
      have : ¬ 0 ≤ wv a b := fun h0 => by have := Int.ediv_nonneg h0 (show 0 ≤ n by omega); omega
      omega
    obtain ⟨qr, qs⟩ := quo_range (v := wv a b) (n := n) (by omega) (by omega)
    have r1 := Int.emod_lt_of_pos (wv a b) (show 0 < n by omega)
    rw [hsv]
    generalize wv a b = v at *
    have hwq : wv (v / n / 18446744073709551616) (v / n % 18446744073709551616) = v / n := by unfold wv; omega
    have hWq : isW (v / n / 18446744073709551616) (v / n % 18446744073709551616) := ⟨by unfold inI; omega, by unfold inU; omega⟩
    have hodd : (Int.tmod (v / n % 18446744073709551616) 2 == 1) = decide (v / n % 2 = 1) := by
     rw [Int.tmod_eq_emod_of_nonneg (by omega), Bool.eq_iff_iff, beq_iff_eq, decide_eq_true_eq]; omega
    rw [hodd]
    unfold rq
    by_cases hr : v % n > 0
    ·rw [if_pos hr]
     have qs' := qs hr
     unfold corebankref02_up.f
     rw [if_pos ⟨by omega, hr, r1, by omega⟩]
     simp only [Option.bind_some, corebankref02_DivideP.j1]
     by_cases hu : upB (decide (v / n < 0)) (decide (v / n % 2 = 1)) (v % n) n m = true
     ·have hup : (if 0 < v % n ∧ upB (decide (v / n < 0)) (decide (v / n % 2 = 1)) (v % n) n m = true then (1 : Int) else 0) = 1 := if_pos ⟨hr, hu⟩
      rw [if_pos hu, hup]
      have hO : corebankref01_Of.f 1 = some (0, 1) := by decide +kernel
      rw [hO]
      simp only [Option.bind_some]
      have hw1 : wv 0 1 = 1 := by decide
      unfold corebankref01_Add.f
      rw [if_pos ⟨hWq, by decide⟩, hwq, hw1, if_pos (by unfold in128; omega)]
      simp only [Option.bind_some, corebankref02_DivideP.j2]
      have hws : wv ((v / n + 1) / 18446744073709551616) ((v / n + 1) % 18446744073709551616) = v / n + 1 := by unfold wv; omega
      have hWs : isW ((v / n + 1) / 18446744073709551616) ((v / n + 1) % 18446744073709551616) := ⟨by unfold inI; omega, by unfold inU; omega⟩
      unfold corebankref01_Int.f
      rw [if_pos hWs, hws]
      simp only [Option.bind_some]
      split <;> rfl
     ·have hup : (if 0 < v % n ∧ upB (decide (v / n < 0)) (decide (v / n % 2 = 1)) (v % n) n m = true then (1 : Int) else 0) = 0 := if_neg (fun hc => hu hc.2)
      rw [if_neg hu, hup, Int.add_zero]
      simp only [corebankref02_DivideP.j2]
      unfold corebankref01_Int.f
      rw [if_pos hWq, hwq]
      simp only [Option.bind_some]
      split <;> rfl
    ·have hup : (if 0 < v % n ∧ upB (decide (v / n < 0)) (decide (v / n % 2 = 1)) (v % n) n m = true then (1 : Int) else 0) = 0 := if_neg (fun hc => hr hc.1)
     rw [if_neg hr, hup, Int.add_zero]
     simp only [corebankref02_DivideP.j1, corebankref02_DivideP.j2]
     rw [if_neg (by decide)]
     unfold corebankref01_Int.f
     rw [if_pos hWq, hwq]
     simp only [Option.bind_some]
     split <;> rfl
 ·cases h
theorem corebankref02_Divide.calls (a0_0 : Int) (a0_1 : Int) (a1 : Int) (a2 : Int) (r1 : Int) (r2 : Int) (w : World) (h : corebankref02_Divide.f a0_0 a0_1 a1 a2 = some (r1, r2)) :
  Calls Tryd.prog 12 #[.agg #[.int .i64 a0_0, .int .u64 a0_1], .int .i64 a1, .int .i64 a2] w fun e w' => e = .returned (.tuple #[.int .i64 r1, .int .i64 r2]) ∧ Below w.heap.size w w' := by
 obtain ⟨k, h⟩ := corebankref02_Divide.eq h
 exact corebankref02_DivideP.calls k a0_0 a0_1 a1 a2 r1 r2 w h
def rounding_valid.f (a0 : Int) : Option (Bool) := if a0 ≥ (-1000000000000) then (some (decide (a0 ≤ 1000000000000))) else (some false)
set_option maxHeartbeats 8000000 in
set_option maxRecDepth 100000 in
theorem rounding_valid.calls (a0 : Int) (r : Bool) (w : World) (h : rounding_valid.f a0 = some r) :
  Calls Tryd.prog 40 #[.int .i64 a0] w fun e w' => e = .returned (.bool r) ∧ Drawn0 w w' := by
 have H : (if a0 ≥ (-1000000000000) then (some (decide (a0 ≤ 1000000000000))) else (some false)) = some r := h
 clear h
 by_cases c2 : a0 ≥ (-1000000000000)
 ·rw [if_pos c2] at H
  have c2b0 : decide ((-1000000000000) ≤ a0) = true := decide_eq_true c2
  clear c2
  obtain rfl := Option.some.inj H
  go_enter Tryd.func40, Tryd.ntmps40
  go_wp2
  go_ret
  exact ⟨by first | rfl | (simp; done) | (simp [*]; done), by repeat (first | exact Drawn0.refl _ | apply Drawn0.step)⟩
 ·rw [if_neg c2] at H
  have c2b0 : decide ((-1000000000000) ≤ a0) = false := decide_eq_false c2
  clear c2
  obtain rfl := Option.some.inj H
  go_enter Tryd.func40, Tryd.ntmps40
  go_wp2
  go_ret
  exact ⟨by first | rfl | (simp; done) | (simp [*]; done), by repeat (first | exact Drawn0.refl _ | apply Drawn0.step)⟩
def wide_SubP.j0 : Nat → Int → Int → Bool → Option (Int × Int × Int)
 | 0, _, _, _ => none
 | k + 1, x6, x8, x39 => if x39 = true then (some (0, 0, 6)) else (some (x8, x6, 0))
def wide_SubP.f (k : Nat) (a0_0 : Int) (a0_1 : Int) (a1_0 : Int) (a1_1 : Int) : Option (Int × Int × Int) := if ((decide (a0_0 < 0)) != (decide (a1_0 < 0))) = true then (wide_SubP.j0 k (subLo a0_1 a1_1) (wrap64 ((wrap64 (a0_0 - a1_0)) - (wrap64 (subHi a0_1 a1_1)))) ((decide ((wrap64 ((wrap64 (a0_0 - a1_0)) - (wrap64 (subHi a0_1 a1_1)))) < 0)) != (decide (a0_0 < 0)))) else (wide_SubP.j0 k (subLo a0_1 a1_1) (wrap64 ((wrap64 (a0_0 - a1_0)) - (wrap64 (subHi a0_1 a1_1)))) false)
theorem wide_SubP.mono_l : ∀ k, (∀ y0 y1 y2, LeO (wide_SubP.j0 k y0 y1 y2) (wide_SubP.j0 (k + 1) y0 y1 y2))
 | 0 => fun _ _ _ r h => by simp [wide_SubP.j0] at h
 | k + 1 => by
  have ih0 := wide_SubP.mono_l k
  ·intro y0 y1 y2
   unfold wide_SubP.j0
   repeat' first
   | (with_reducible exact ih0 _ _ _)
   | (with_reducible exact LeO.refl _)
   | (with_reducible exact LeO.none _)
   | (with_reducible refine LeO.ite ?_ ?_)
   | (with_reducible refine LeO.bind ?_ (fun _ => ?_))
   | exact ih0 _ _ _
   | exact LeO.none _
   | refine LeO.ite ?_ ?_
   | refine LeO.bind ?_ (fun _ => ?_)
theorem wide_SubP.mono : ∀ a0 a1 a2 a3 k, LeO (wide_SubP.f k a0 a1 a2 a3) (wide_SubP.f (k + 1) a0 a1 a2 a3) := by
 intro a0 a1 a2 a3 k
 have ih0 := wide_SubP.mono_l k
 unfold wide_SubP.f
 repeat' first
   | (with_reducible exact ih0 _ _ _)
   | (with_reducible exact LeO.refl _)
   | (with_reducible exact LeO.none _)
   | (with_reducible refine LeO.ite ?_ ?_)
   | (with_reducible refine LeO.bind ?_ (fun _ => ?_))
   | exact ih0 _ _ _
   | exact LeO.none _
   | refine LeO.ite ?_ ?_
   | refine LeO.bind ?_ (fun _ => ?_)
set_option maxHeartbeats 8000000 in
set_option maxRecDepth 100000 in
theorem wide_SubP.calls (k : Nat) (a0_0 : Int) (a0_1 : Int) (a1_0 : Int) (a1_1 : Int) (r1 : Int) (r2 : Int) (r3 : Int) (w : World) (h : wide_SubP.f k a0_0 a0_1 a1_0 a1_1 = some (r1, r2, r3)) :
  Calls Tryd.prog 41 #[.agg #[.int .i64 a0_0, .int .u64 a0_1], .agg #[.int .i64 a1_0, .int .u64 a1_1]] w fun e w' => e = .returned (.tuple #[.agg #[.int .i64 r1, .int .u64 r2], .int .i64 r3]) ∧ Below w.heap.size w w' := by
 have hu24 := Tryd.underlying24
 have hsub64 := sub64_run
 have HB := Aside0.mk (Below.refl w.heap.size w)
 have H : (if ((decide (a0_0 < 0)) != (decide (a1_0 < 0))) = true then (wide_SubP.j0 k (subLo a0_1 a1_1) (wrap64 ((wrap64 (a0_0 - a1_0)) - (wrap64 (subHi a0_1 a1_1)))) ((decide ((wrap64 ((wrap64 (a0_0 - a1_0)) - (wrap64 (subHi a0_1 a1_1)))) < 0)) != (decide (a0_0 < 0)))) else (wide_SubP.j0 k (subLo a0_1 a1_1) (wrap64 ((wrap64 (a0_0 - a1_0)) - (wrap64 (subHi a0_1 a1_1)))) false)) = some (r1, r2, r3) := h
 clear h
 have HC3 := Aside0.mk H
 clear H
 go_enter Tryd.func41, Tryd.ntmps41
 go_upto_region 3 with (first | ((with_reducible refine gate_dst (N := 2) rfl ?_); refine be_ (N := 2) (cs := #[.int .i64 a0_0, .int .u64 a0_1]) (t := 24) ?_; intro gb255 hg w4 hbox hb; have n0_ := Aside0.mk (below_step (qb_ HB.out) hb); have n1_ := Aside0.mk (hbox); have n2_ := Aside0.mk (bz_ hg (qb_ HB.out) : w.heap.size ≤ gb255); have n3_ := n2_; clear HB; have HB := n0_; have BK255 := n1_; have GW255 := n2_; have GE255 := n3_; clear n0_ n1_ n2_ n3_; clear hb hbox hg) | ((with_reducible refine gate_dst (N := 3) rfl ?_); refine be_ (N := 3) (cs := #[.int .i64 a1_0, .int .u64 a1_1]) (t := 24) ?_; intro gb256 hg w5 hbox hb; have n0_ := Aside0.mk (blk_below (qk_ BK255.out) hb); have n1_ := Aside0.mk (below_step (qb1_ GE255.out HB.out) hb); have n2_ := Aside0.mk (hbox); have n3_ := Aside0.mk (bz_ hg (qb1_ GE255.out HB.out) : w.heap.size ≤ gb256); have n4_ := n3_; have n5_ := Aside0.mk (nl_ hg (qk_ BK255.out) : gb255 ≠ gb256); have n6_ := Aside0.mk (ng_ hg (qk_ BK255.out) : gb256 ≠ gb255); clear BK255; clear HB; have BK255 := n0_; have HB := n1_; have BK256 := n2_; have GW256 := n3_; have GE256 := n4_; have NB255_256 := n5_; have NB256_255 := n6_; clear n0_ n1_ n2_ n3_ n4_ n5_ n6_; clear hb hbox hg) | ((with_reducible refine gate_dst (N := 4) rfl ?_); refine be_ (N := 4) (cs := #[.int .i64 0, .int .u64 0]) (t := 24) ?_; intro gb257 hg w6 hbox hb; have n0_ := Aside0.mk (blk_below (qk_ BK255.out) hb); have n1_ := Aside0.mk (blk_below (qk_ BK256.out) hb); have n2_ := Aside0.mk (below_step (qb2_ GE255.out GE256.out HB.out) hb); have n3_ := Aside0.mk (hbox); have n4_ := Aside0.mk (bz_ hg (qb2_ GE255.out GE256.out HB.out) : w.heap.size ≤ gb257); have n5_ := n4_; have n6_ := Aside0.mk (nl_ hg (qk_ BK255.out) : gb255 ≠ gb257); have n7_ := Aside0.mk (ng_ hg (qk_ BK255.out) : gb257 ≠ gb255); have n8_ := Aside0.mk (nl_ hg (qk_ BK256.out) : gb256 ≠ gb257); have n9_ := Aside0.mk (ng_ hg (qk_ BK256.out) : gb257 ≠ gb256); clear BK255; clear BK256; clear HB; have BK255 := n0_; have BK256 := n1_; have HB := n2_; have BK257 := n3_; have GW257 := n4_; have GE257 := n5_; have NB255_257 := n6_; have NB257_255 := n7_; have NB256_257 := n8_; have NB257_256 := n9_; clear n0_ n1_ n2_ n3_ n4_ n5_ n6_ n7_ n8_ n9_; clear hb hbox hg; have hnb7 := NB255_256.out; have hnc7 := NB256_255.out; have hnb8 := NB255_257.out; have hnc8 := NB257_255.out; have hcz9_0 : w6.cell? ⟨gb255, 0, none⟩ = some (.int .i64 a0_0) := (blk_cell BK255.out 0).trans rfl; have hcz9_1 : w6.cell? ⟨gb255, 1, none⟩ = some (.int .u64 a0_1) := (blk_cell BK255.out 1).trans rfl; have hfz9_0 := blk_frozen BK255.out 0; have hfz9_1 := blk_frozen BK255.out 1; have hnb10 := NB256_257.out; have hnc10 := NB257_256.out; have hcz11_0 : w6.cell? ⟨gb256, 0, none⟩ = some (.int .i64 a1_0) := (blk_cell BK256.out 0).trans rfl; have hcz11_1 : w6.cell? ⟨gb256, 1, none⟩ = some (.int .u64 a1_1) := (blk_cell BK256.out 1).trans rfl; have hfz11_0 := blk_frozen BK256.out 0; have hfz11_1 := blk_frozen BK256.out 1))
 (try simp only [Act.put, List.setIfInBounds_toArray, List.set_cons_zero, List.set_cons_succ])
 go_cut [39] (fun v39 wc => ∃ (kq : Nat) (x39_2 : Bool), v39 = .bool x39_2 ∧ Aside0 (wide_SubP.j0 kq (subLo a0_1 a1_1) (wrap64 ((wrap64 (a0_0 - a1_0)) - (wrap64 (subHi a0_1 a1_1)))) x39_2 = some (r1, r2, r3)) ∧ Aside0 (kq ≤ k) ∧ Aside0 (wc.heap[gb255]? = some (.cells #[.int .i64 a0_0, .int .u64 a0_1] 24 (0, 0))) ∧ Aside0 (wc.heap[gb256]? = some (.cells #[.int .i64 a1_0, .int .u64 a1_1] 24 (0, 0))) ∧ Aside0 (wc.heap[gb257]? = some (.cells #[.int .i64 0, .int .u64 0] 24 (0, 0))) ∧ Aside0 (Below w.heap.size w wc))
 case first =>
  have H := HC3.out
  clear HC3
  by_cases c12 : ((decide (a0_0 < 0)) != (decide (a1_0 < 0))) = true
  ·rw [if_pos c12] at H
   have c12b0 : ((decide (a0_0 < 0)) != (decide (a1_0 < 0))) = true := c12
   (try (have c12b1 : decide ((decide (a0_0 < 0)) = (decide (a1_0 < 0))) = false := by simpa using c12))
   (try (have c12b2 : ((decide (a0_0 < 0)) == (decide (a1_0 < 0))) = false := by simpa using c12))
   (try (have c12b3 : ¬ ((decide (a0_0 < 0)) = (decide (a1_0 < 0))) := by simpa using c12))
   clear c12
   (first | rw [c12b0] | (simp only [i64_w, i32_w]; rw [c12b0]) | skip)
   have H' := Aside0.mk H
   clear H
   have hnb13 := NB255_256.out
   have hnc13 := NB256_255.out
   have hnb14 := NB255_257.out
   have hnc14 := NB257_255.out
   have hcz15_0 : w6.cell? ⟨gb255, 0, none⟩ = some (.int .i64 a0_0) := (blk_cell BK255.out 0).trans rfl
   have hcz15_1 : w6.cell? ⟨gb255, 1, none⟩ = some (.int .u64 a0_1) := (blk_cell BK255.out 1).trans rfl
   have hfz15_0 := blk_frozen BK255.out 0
   have hfz15_1 := blk_frozen BK255.out 1
   have hnb16 := NB256_257.out
   have hnc16 := NB257_256.out
   have hcz17_0 : w6.cell? ⟨gb256, 0, none⟩ = some (.int .i64 a1_0) := (blk_cell BK256.out 0).trans rfl
   have hcz17_1 : w6.cell? ⟨gb256, 1, none⟩ = some (.int .u64 a1_1) := (blk_cell BK256.out 1).trans rfl
   have hfz17_0 := blk_frozen BK256.out 0
   have hfz17_1 := blk_frozen BK256.out 1
   go_wp2
   go_meet
   case rel => exact ⟨_, (((decide ((wrap64 ((wrap64 (a0_0 - a1_0)) - (wrap64 (subHi a0_1 a1_1)))) < 0)) != (decide (a0_0 < 0)))), qs_, H', ⟨qo_⟩, ⟨qk_ BK255.out⟩, ⟨qk_ BK256.out⟩, ⟨qk_ BK257.out⟩, ⟨qb3_ GE255.out GE256.out GE257.out HB.out⟩⟩
  ·rw [if_neg c12] at H
   have c12b0 : ((decide (a0_0 < 0)) != (decide (a1_0 < 0))) = false := by simpa using c12
   (try (have c12b1 : decide ((decide (a0_0 < 0)) = (decide (a1_0 < 0))) = true := by simpa using c12))
   (try (have c12b2 : ((decide (a0_0 < 0)) == (decide (a1_0 < 0))) = true := by simpa using c12))
   clear c12
   (first | rw [c12b0] | (simp only [i64_w, i32_w]; rw [c12b0]) | skip)
   have H' := Aside0.mk H
   clear H
   have hnb18 := NB255_256.out
   have hnc18 := NB256_255.out
   have hnb19 := NB255_257.out
   have hnc19 := NB257_255.out
   have hcz20_0 : w6.cell? ⟨gb255, 0, none⟩ = some (.int .i64 a0_0) := (blk_cell BK255.out 0).trans rfl
   have hcz20_1 : w6.cell? ⟨gb255, 1, none⟩ = some (.int .u64 a0_1) := (blk_cell BK255.out 1).trans rfl
   have hfz20_0 := blk_frozen BK255.out 0
   have hfz20_1 := blk_frozen BK255.out 1
   have hnb21 := NB256_257.out
   have hnc21 := NB257_256.out
   have hcz22_0 : w6.cell? ⟨gb256, 0, none⟩ = some (.int .i64 a1_0) := (blk_cell BK256.out 0).trans rfl
   have hcz22_1 : w6.cell? ⟨gb256, 1, none⟩ = some (.int .u64 a1_1) := (blk_cell BK256.out 1).trans rfl
   have hfz22_0 := blk_frozen BK256.out 0
   have hfz22_1 := blk_frozen BK256.out 1
   go_wp2
   go_meet
   case rel => exact ⟨_, (false), qs_, H', ⟨qo_⟩, ⟨qk_ BK255.out⟩, ⟨qk_ BK256.out⟩, ⟨qk_ BK257.out⟩, ⟨qb3_ GE255.out GE256.out GE257.out HB.out⟩⟩
 case rest =>
  clear HC3
  try clear c1
  try clear c2
  try clear p2
  try clear c4
  try clear p6
  try clear c7
  try clear c8
  try clear c10
  try clear c12
  try clear c12b0
  try clear c12b1
  try clear c12b2
  try clear c13
  try clear c14
  try clear c16
  try clear c18
  try clear c19
  try clear c21
  try clear hcz11_0
  try clear hcz11_1
  try clear hcz15_0
  try clear hcz15_1
  try clear hcz17_0
  try clear hcz17_1
  try clear hcz20_0
  try clear hcz20_1
  try clear hcz22_0
  try clear hcz22_1
  try clear hcz9_0
  try clear hcz9_1
  try clear hfz11_0
  try clear hfz11_1
  try clear hfz15_0
  try clear hfz15_1
  try clear hfz17_0
  try clear hfz17_1
  try clear hfz20_0
  try clear hfz20_1
  try clear hfz22_0
  try clear hfz22_1
  try clear hfz9_0
  try clear hfz9_1
  obtain ⟨kq, x39_2, rfl, HA, HJ2, BK255, BK256, BK257, HB⟩ := hcut
  cases kq with
  | zero => exact absurd HA.out (by simp [wide_SubP.j0])
  | succ kj2 =>
   have H := HA.out
   clear HA
   simp only [wide_SubP.j0] at H
   by_cases c23 : x39_2 = true
   ·subst c23
    have H1 : (some (0, 0, 6)) = some (r1, r2, r3) := by rw [if_pos rfl] at H; exact H
    clear H
    have H := H1
    clear H1
    simp only [Option.some.injEq, Prod.mk.injEq] at H
    obtain ⟨rfl, rfl, rfl⟩ := H
    have hnb24 := NB257_255.out
    have hnc24 := NB255_257.out
    have hnb25 := NB257_256.out
    have hnc25 := NB256_257.out
    have hcz26_0 : wc.cell? ⟨gb257, 0, none⟩ = some (.int .i64 0) := (blk_cell BK257.out 0).trans rfl
    have hcz26_1 : wc.cell? ⟨gb257, 1, none⟩ = some (.int .u64 0) := (blk_cell BK257.out 1).trans rfl
    have hfz26_0 := blk_frozen BK257.out 0
    have hfz26_1 := blk_frozen BK257.out 1
    go_wp2
    refine bodyPost_ret (results_ct rfl _ _ gb257 24 #[.int .i64 0, .int .u64 0] (0, 0) _ rfl (qpp_ #[.int .i64 0, .int .u64 0] 1 #[.int .i64 0, .int .u64 0] 0 BK257.out) Tryd.underlying24 rfl (by kernel_rfl)) rfl ?_
    exact ⟨qe_, qb3_ GE255.out GE256.out GE257.out HB.out⟩
   ·replace c23 := Bool.eq_false_iff.mpr c23
    subst c23
    have H1 : (some ((wrap64 ((wrap64 (a0_0 - a1_0)) - (wrap64 (subHi a0_1 a1_1)))), (subLo a0_1 a1_1), 0)) = some (r1, r2, r3) := by rw [if_neg (show ¬ (false = true) by decide)] at H; exact H
    clear H
    have H := H1
    clear H1
    simp only [Option.some.injEq, Prod.mk.injEq] at H
    obtain ⟨rfl, rfl, rfl⟩ := H
    have hnb27 := NB257_255.out
    have hnc27 := NB255_257.out
    have hnb28 := NB257_256.out
    have hnc28 := NB256_257.out
    have hcz29_0 : wc.cell? ⟨gb257, 0, none⟩ = some (.int .i64 0) := (blk_cell BK257.out 0).trans rfl
    have hcz29_1 : wc.cell? ⟨gb257, 1, none⟩ = some (.int .u64 0) := (blk_cell BK257.out 1).trans rfl
    have hfz29_0 := blk_frozen BK257.out 0
    have hfz29_1 := blk_frozen BK257.out 1
    go_wp2
    refine bodyPost_ret (results_ct rfl _ _ gb257 24 #[.int .i64 (wrap64 ((wrap64 (a0_0 - a1_0)) - (wrap64 (subHi a0_1 a1_1)))), .int .u64 (subLo a0_1 a1_1)] (0, 0) _ rfl (qpp_ #[.int .i64 (wrap64 ((wrap64 (a0_0 - a1_0)) - (wrap64 (subHi a0_1 a1_1)))), .int .u64 0] 1 #[.int .i64 0, .int .u64 0] 0 BK257.out) Tryd.underlying24 rfl (by kernel_rfl)) rfl ?_
    exact ⟨qe_, qb3_ GE255.out GE256.out GE257.out HB.out⟩
def wide_Sub.f (a0_0 a0_1 a1_0 a1_1 : Int) : Option (Int × Int × Int) :=
 if isW a0_0 a0_1 ∧ isW a1_0 a1_1 then
  some (if in128 (wv a0_0 a0_1 - wv a1_0 a1_1) then ((wv a0_0 a0_1 - wv a1_0 a1_1) / 18446744073709551616, (wv a0_0 a0_1 - wv a1_0 a1_1) % 18446744073709551616, 0) else (0, 0, 6)) else none
theorem wide_Sub.eq {a b c d : Int} {r : Int × Int × Int} (h : wide_Sub.f a b c d = some r) : ∃ k, wide_SubP.f k a b c d = some r := by
 unfold wide_Sub.f at h
 split at h
 ·rename_i q
  obtain ⟨⟨⟨a0, a1⟩, b0, b1⟩, ⟨c0, c1⟩, d0, d1⟩ := q
  injection h with h
  subst h
  refine ⟨1, ?_⟩
  unfold wide_SubP.f
  simp only [wide_SubP.j0]
  have hl : subLo b d = (b - d) % 18446744073709551616 := by unfold subLo; omega
  have hh : subHi b d = -((b - d) / 18446744073709551616) := by unfold subHi; split <;> omega
  rw [hl, hh]
  have hw : wrap64 (wrap64 (a - c) - wrap64 (-((b - d) / 18446744073709551616))) = (a - c + (b - d) / 18446744073709551616 + 9223372036854775808) % 18446744073709551616 - 9223372036854775808 := by unfold wrap64; omega
  rw [hw]
  clear hl hh hw
  by_cases hin : in128 (wv a b - wv c d)
  ·rw [if_pos hin]
   unfold in128 wv at hin
   have e1 : (a - c + (b - d) / 18446744073709551616 + 9223372036854775808) % 18446744073709551616 - 9223372036854775808 = (wv a b - wv c d) / 18446744073709551616 := by unfold wv; omega
   have e2 : (b - d) % 18446744073709551616 = (wv a b - wv c d) % 18446744073709551616 := by unfold wv; omega
   have e3 : (wv a b - wv c d) / 18446744073709551616 = a - c + (b - d) / 18446744073709551616 := by unfold wv; omega
   rw [e1, e2]
   by_cases s1 : a < 0 <;> by_cases s2 : c < 0
   ·simp [s1, s2]
   ·have s3 : (wv a b - wv c d) / 18446744073709551616 < 0 := by omega
    simp [s1, s2, s3]
   ·have s3 : ¬ (wv a b - wv c d) / 18446744073709551616 < 0 := by omega
    simp [s1, s2, s3]
   ·simp [s1, s2]
  ·rw [if_neg hin]
   unfold in128 wv at hin
   by_cases s1 : a < 0 <;> by_cases s2 : c < 0
   ·omega
   ·have s3 : ¬ (a - c + (b - d) / 18446744073709551616 + 9223372036854775808) % 18446744073709551616 - 9223372036854775808 < 0 := by omega
    simp [s1, s2, s3]
   ·have s3 : (a - c + (b - d) / 18446744073709551616 + 9223372036854775808) % 18446744073709551616 - 9223372036854775808 < 0 := by omega
    simp [s1, s2, s3]
   ·omega
 ·cases h
theorem wide_Sub.calls (a0_0 : Int) (a0_1 : Int) (a1_0 : Int) (a1_1 : Int) (r1 : Int) (r2 : Int) (r3 : Int) (w : World) (h : wide_Sub.f a0_0 a0_1 a1_0 a1_1 = some (r1, r2, r3)) :
  Calls Tryd.prog 41 #[.agg #[.int .i64 a0_0, .int .u64 a0_1], .agg #[.int .i64 a1_0, .int .u64 a1_1]] w fun e w' => e = .returned (.tuple #[.agg #[.int .i64 r1, .int .u64 r2], .int .i64 r3]) ∧ Below w.heap.size w w' := by
 obtain ⟨k, h⟩ := wide_Sub.eq h
 exact wide_SubP.calls k a0_0 a0_1 a1_0 a1_1 r1 r2 r3 w h
def wide_absP.f (a0 : Int) : Option (Int) := if a0 < 0 then (some (IntKind.u64.wrap (-(IntKind.u64.wrap (a0))))) else (some (IntKind.u64.wrap (a0)))
set_option maxHeartbeats 8000000 in
set_option maxRecDepth 100000 in
theorem wide_absP.calls (a0 : Int) (r : Int) (w : World) (h : wide_absP.f a0 = some r) :
  Calls Tryd.prog 57 #[.int .i64 a0] w fun e w' => e = .returned (.int .u64 r) ∧ Drawn0 w w' := by
 have H : (if a0 < 0 then (some (IntKind.u64.wrap (-(IntKind.u64.wrap (a0))))) else (some (IntKind.u64.wrap (a0)))) = some r := h
 clear h
 by_cases c2 : a0 < 0
 ·rw [if_pos c2] at H
  have c2b0 : decide (a0 < 0) = true := decide_eq_true c2
  clear c2
  obtain rfl := Option.some.inj H
  go_enter Tryd.func57, Tryd.ntmps57
  go_wp2
  go_ret
  exact ⟨by first | rfl | (simp; done) | (simp [*]; done), by repeat (first | exact Drawn0.refl _ | apply Drawn0.step)⟩
 ·rw [if_neg c2] at H
  have c2b0 : decide (a0 < 0) = false := decide_eq_false c2
  clear c2
  obtain rfl := Option.some.inj H
  go_enter Tryd.func57, Tryd.ntmps57
  go_wp2
  go_ret
  exact ⟨by first | rfl | (simp; done) | (simp [*]; done), by repeat (first | exact Drawn0.refl _ | apply Drawn0.step)⟩
end Go.Proofs.YtkdhippoibjfkaaDoor.PR
end
section
namespace Go.Proofs.YtkdhippoibjfkaaDoor.PR
open Go.RowKit Go.Proofs.YtkdhippoibjfkaaDoorW.PrintWords Go.Proofs.YtkdhippoibjfkaaDoorW.PrintLast
set_option linter.unusedVariables false
set_option linter.unusedSimpArgs false
def wide_abs.f (a0 : Int) : Option Int := if inI a0 then some (if a0 < 0 then -a0 else a0) else none
theorem wide_abs.eq {a : Int} {r : Int} (h : wide_abs.f a = some r) : wide_absP.f a = some r := by
 unfold wide_abs.f at h
 split at h
 ·rename_i c
  obtain ⟨c0, c1⟩ := c
  injection h with h
  subst h
  unfold wide_absP.f
  simp only [IntKind.wrap_u64]
  split <;> (congr 1; omega)
 ·cases h
theorem wide_abs.calls (a0 : Int) (r : Int) (w : World) (h : wide_abs.f a0 = some r) :
  Calls Tryd.prog 57 #[.int .i64 a0] w fun e w' => e = .returned (.int .u64 r) ∧ Drawn0 w w' := by
 have h := wide_abs.eq h
 exact wide_absP.calls a0 r w h
def wide_MulP.f (a0 : Int) (a1 : Int) : Option (Int × Int) := (wide_abs.f a0).bind fun t259 => ((wide_abs.f a1).bind fun t260 => ((bits_Mul64.f t259 t260).bind fun bt261 => (if ((decide (a0 < 0)) != (decide (a1 < 0))) = true then ((wide_negate.f (wrap64 (bt261.1)) bt261.2).bind fun bt264 => (some (bt264.1, bt264.2))) else (some (wrap64 (bt261.1), bt261.2)))))
set_option maxHeartbeats 8000000 in
set_option maxRecDepth 100000 in
theorem wide_MulP.calls (a0 : Int) (a1 : Int) (r1 : Int) (r2 : Int) (w : World) (h : wide_MulP.f a0 a1 = some (r1, r2)) :
  Calls Tryd.prog 42 #[.int .i64 a0, .int .i64 a1] w fun e w' => e = .returned (.agg #[.int .i64 r1, .int .u64 r2]) ∧ Below w.heap.size w w' := by
 have hu24 := Tryd.underlying24
 have HB := Aside0.mk (Below.refl w.heap.size w)
 have H : ((wide_abs.f a0).bind fun t259 => ((wide_abs.f a1).bind fun t260 => ((bits_Mul64.f t259 t260).bind fun bt261 => (if ((decide (a0 < 0)) != (decide (a1 < 0))) = true then ((wide_negate.f (wrap64 (bt261.1)) bt261.2).bind fun bt264 => (some (bt264.1, bt264.2))) else (some (wrap64 (bt261.1), bt261.2)))))) = some (r1, r2) := h
 clear h
 replace H := Option.bind_eq_some_iff.mp H
 obtain ⟨t259, A30, H⟩ := H
 replace H : ((wide_abs.f a1).bind fun t260 => ((bits_Mul64.f t259 t260).bind fun bt261 => (if ((decide (a0 < 0)) != (decide (a1 < 0))) = true then ((wide_negate.f (wrap64 (bt261.1)) bt261.2).bind fun bt264 => (some (bt264.1, bt264.2))) else (some (wrap64 (bt261.1), bt261.2))))) = some (r1, r2) := H
 have A3 := Aside0.mk A30
 clear A30
 replace H := Option.bind_eq_some_iff.mp H
 obtain ⟨t260, A40, H⟩ := H
 replace H : ((bits_Mul64.f t259 t260).bind fun bt261 => (if ((decide (a0 < 0)) != (decide (a1 < 0))) = true then ((wide_negate.f (wrap64 (bt261.1)) bt261.2).bind fun bt264 => (some (bt264.1, bt264.2))) else (some (wrap64 (bt261.1), bt261.2)))) = some (r1, r2) := H
 have A4 := Aside0.mk A40
 clear A40
 replace H := Option.bind_eq_some_iff.mp H
 obtain ⟨⟨t261, t262⟩, A50, H⟩ := H
 replace H : (if ((decide (a0 < 0)) != (decide (a1 < 0))) = true then ((wide_negate.f (wrap64 (t261)) t262).bind fun bt264 => (some (bt264.1, bt264.2))) else (some (wrap64 (t261), t262))) = some (r1, r2) := H
 have A5 := Aside0.mk A50
 clear A50
 by_cases c6 : ((decide (a0 < 0)) != (decide (a1 < 0))) = true
 ·rw [if_pos c6] at H
  have c6b0 : ((decide (a0 < 0)) != (decide (a1 < 0))) = true := c6
  (try (have c6b1 : decide ((decide (a0 < 0)) = (decide (a1 < 0))) = false := by simpa using c6))
  (try (have c6b2 : ((decide (a0 < 0)) == (decide (a1 < 0))) = false := by simpa using c6))
  (try (have c6b3 : ¬ ((decide (a0 < 0)) = (decide (a1 < 0))) := by simpa using c6))
  clear c6
  replace H := Option.bind_eq_some_iff.mp H
  obtain ⟨⟨t264, t265⟩, A70, H⟩ := H
  replace H : (some (t264, t265)) = some (r1, r2) := H
  have A7 := Aside0.mk A70
  clear A70
  simp only [Option.some.injEq, Prod.mk.injEq] at H
  obtain ⟨rfl, rfl⟩ := H
  go_enter Tryd.func42, Tryd.ntmps42
  go_wp2_with (first | ((with_reducible refine gate_dst (N := 4) rfl ?_); refine be_ (N := 4) (cs := #[.int .i64 0, .int .u64 0]) (t := 24) ?_; intro gb258 hg w8 hbox hb; have n0_ := Aside0.mk (below_step (qb_ HB.out) hb); have n1_ := Aside0.mk (hbox); have n2_ := Aside0.mk (bz_ hg (qb_ HB.out) : w.heap.size ≤ gb258); have n3_ := n2_; clear HB; have HB := n0_; have BK258 := n1_; have GW258 := n2_; have GE258 := n3_; clear n0_ n1_ n2_ n3_; clear hb hbox hg) | ((with_reducible refine gate_callee (f := 57) rfl ?_); refine goesL_ (some 10) rfl rfl Tryd.func57 (by kernel_rfl) rfl #[.int .i64 a0] rfl ql_ ?_; (with_reducible refine (wide_abs.calls a0 t259 _ A3.out).mono ?_); rintro e w' ⟨rfl, ⟨nd, rfl⟩⟩; refine ⟨_, rfl, ?_⟩; (try (rw [drewN_self w8]; generalize hq_ : World.drewN w8 _ = w8; have n0_ : Aside0 (w8.heap[gb258]? = some (.cells #[.int .i64 0, .int .u64 0] 24 (0, 0))) := ⟨by rw [← hq_]; exact (qk_ BK258.out)⟩; have n1_ : Aside0 (Below w.heap.size w w8) := ⟨by rw [← hq_]; exact (qb1_ GE258.out HB.out)⟩; clear BK258 HB hq_; have BK258 := n0_; have HB := n1_; clear n0_ n1_))) | ((with_reducible refine gate_callee (f := 57) rfl ?_); refine goesL_ (some 12) rfl rfl Tryd.func57 (by kernel_rfl) rfl #[.int .i64 a1] rfl ql_ ?_; (with_reducible refine (wide_abs.calls a1 t260 _ A4.out).mono ?_); rintro e w' ⟨rfl, ⟨nd, rfl⟩⟩; refine ⟨_, rfl, ?_⟩; (try (rw [drewN_self w8]; generalize hq_ : World.drewN w8 _ = w8; have n0_ : Aside0 (w8.heap[gb258]? = some (.cells #[.int .i64 0, .int .u64 0] 24 (0, 0))) := ⟨by rw [← hq_]; exact (qk_ BK258.out)⟩; have n1_ : Aside0 (Below w.heap.size w w8) := ⟨by rw [← hq_]; exact (qb1_ GE258.out HB.out)⟩; clear BK258 HB hq_; have BK258 := n0_; have HB := n1_; clear n0_ n1_))) | ((with_reducible refine gate_callee (f := 56) rfl ?_); refine goesL_ (some 13) rfl rfl Tryd.func56 (by kernel_rfl) rfl #[.int .u64 t259, .int .u64 t260] rfl ql_ ?_; (with_reducible refine (bits_Mul64.calls t259 t260 t261 t262 _ A5.out).mono ?_); rintro e w9 ⟨rfl, hb⟩; refine ⟨_, rfl, ?_⟩; have n0_ := Aside0.mk (blk_below (qk_ BK258.out) hb); have n1_ := Aside0.mk (below_step (qb1_ GE258.out HB.out) hb); clear BK258; clear HB; have BK258 := n0_; have HB := n1_; clear n0_ n1_; (try clear hb); (try clear hb2); (try clear hk); (try clear hi)) | ((with_reducible refine gate_dst (N := 7) rfl ?_); refine be_ (N := 7) (cs := #[.int .i64 0, .int .u64 0]) (t := 24) ?_; intro gb263 hg w10 hbox hb; have n0_ := Aside0.mk (blk_below (qk_ BK258.out) hb); have n1_ := Aside0.mk (below_step (qb1_ GE258.out HB.out) hb); have n2_ := Aside0.mk (hbox); have n3_ := Aside0.mk (bz_ hg (qb1_ GE258.out HB.out) : w.heap.size ≤ gb263); have n4_ := n3_; have n5_ := Aside0.mk (nl_ hg (qk_ BK258.out) : gb258 ≠ gb263); have n6_ := Aside0.mk (ng_ hg (qk_ BK258.out) : gb263 ≠ gb258); clear BK258; clear HB; have BK258 := n0_; have HB := n1_; have BK263 := n2_; have GW263 := n3_; have GE263 := n4_; have NB258_263 := n5_; have NB263_258 := n6_; clear n0_ n1_ n2_ n3_ n4_ n5_ n6_; clear hb hbox hg; have hnb11 := NB263_258.out; have hnc11 := NB258_263.out; have hcz12_0 : w10.cell? ⟨gb263, 0, none⟩ = some (.int .i64 0) := (blk_cell BK263.out 0).trans rfl; have hcz12_1 : w10.cell? ⟨gb263, 1, none⟩ = some (.int .u64 0) := (blk_cell BK263.out 1).trans rfl; have hfz12_0 := blk_frozen BK263.out 0; have hfz12_1 := blk_frozen BK263.out 1) | ((with_reducible refine gate_callee (f := 58) rfl ?_); refine goesL_ (some 26) rfl rfl Tryd.func58 (by kernel_rfl) rfl #[.agg #[.int .i64 (wrap64 (t261)), .int .u64 t262]] rfl ql_ ?_; (with_reducible refine (wide_negate.calls (wrap64 (t261)) t262 t264 t265 _ A7.out).mono ?_); rintro e w13 ⟨rfl, hb⟩; refine ⟨_, rfl, ?_⟩; have n0_ := Aside0.mk (blk_below (g := gb258) (o := .cells #[.int .i64 0, .int .u64 0] 24 (0, 0)) (qff_ NB258_263.out NB258_263.out BK258.out) hb); have n1_ := Aside0.mk (blk_below (g := gb263) (o := .cells #[.int .i64 (wrap64 (t261)), .int .u64 t262] 24 (0, 0)) (qpp_ #[.int .i64 (wrap64 (t261)), .int .u64 0] 1 #[.int .i64 0, .int .u64 0] 0 BK263.out) hb); have n2_ := Aside0.mk (below_step (qb2_ GE258.out GE263.out HB.out) hb); clear BK258; clear BK263; clear HB; have BK258 := n0_; have BK263 := n1_; have HB := n2_; clear n0_ n1_ n2_; (try clear hb); (try clear hb2); (try clear hk); (try clear hi); have hcz14_0 : w13.cell? ⟨gb263, 0, none⟩ = some (.int .i64 (wrap64 (t261))) := (blk_cell BK263.out 0).trans rfl; have hcz14_1 : w13.cell? ⟨gb263, 1, none⟩ = some (.int .u64 t262) := (blk_cell BK263.out 1).trans rfl; have hfz14_0 := blk_frozen BK263.out 0; have hfz14_1 := blk_frozen BK263.out 1; have hcz15_0 : w13.cell? ⟨gb258, 0, none⟩ = some (.int .i64 0) := (blk_cell BK258.out 0).trans rfl; have hcz15_1 : w13.cell? ⟨gb258, 1, none⟩ = some (.int .u64 0) := (blk_cell BK258.out 1).trans rfl; have hfz15_0 := blk_frozen BK258.out 0; have hfz15_1 := blk_frozen BK258.out 1))
  refine bodyPost_ret (results_cell_row rfl _ _ gb258 24 #[.int .i64 t264, .int .u64 t265] (0, 0) _ rfl (qppff_ #[.int .i64 t264, .int .u64 0] 1 #[.int .i64 0, .int .u64 0] 0 NB258_263.out NB258_263.out BK258.out) Tryd.underlying24 rfl (by kernel_rfl)) rfl ?_
  exact ⟨qe_, qb2_ GE258.out GE263.out HB.out⟩
 ·rw [if_neg c6] at H
  have c6b0 : ((decide (a0 < 0)) != (decide (a1 < 0))) = false := by simpa using c6
  (try (have c6b1 : decide ((decide (a0 < 0)) = (decide (a1 < 0))) = true := by simpa using c6))
  (try (have c6b2 : ((decide (a0 < 0)) == (decide (a1 < 0))) = true := by simpa using c6))
  clear c6
  simp only [Option.some.injEq, Prod.mk.injEq] at H
  obtain ⟨rfl, rfl⟩ := H
  go_enter Tryd.func42, Tryd.ntmps42
  go_wp2_with (first | ((with_reducible refine gate_dst (N := 4) rfl ?_); refine be_ (N := 4) (cs := #[.int .i64 0, .int .u64 0]) (t := 24) ?_; intro gb258 hg w16 hbox hb; have n0_ := Aside0.mk (below_step (qb_ HB.out) hb); have n1_ := Aside0.mk (hbox); have n2_ := Aside0.mk (bz_ hg (qb_ HB.out) : w.heap.size ≤ gb258); have n3_ := n2_; clear HB; have HB := n0_; have BK258 := n1_; have GW258 := n2_; have GE258 := n3_; clear n0_ n1_ n2_ n3_; clear hb hbox hg) | ((with_reducible refine gate_callee (f := 57) rfl ?_); refine goesL_ (some 10) rfl rfl Tryd.func57 (by kernel_rfl) rfl #[.int .i64 a0] rfl ql_ ?_; (with_reducible refine (wide_abs.calls a0 t259 _ A3.out).mono ?_); rintro e w' ⟨rfl, ⟨nd, rfl⟩⟩; refine ⟨_, rfl, ?_⟩; (try (rw [drewN_self w16]; generalize hq_ : World.drewN w16 _ = w16; have n0_ : Aside0 (w16.heap[gb258]? = some (.cells #[.int .i64 0, .int .u64 0] 24 (0, 0))) := ⟨by rw [← hq_]; exact (qk_ BK258.out)⟩; have n1_ : Aside0 (Below w.heap.size w w16) := ⟨by rw [← hq_]; exact (qb1_ GE258.out HB.out)⟩; clear BK258 HB hq_; have BK258 := n0_; have HB := n1_; clear n0_ n1_))) | ((with_reducible refine gate_callee (f := 57) rfl ?_); refine goesL_ (some 12) rfl rfl Tryd.func57 (by kernel_rfl) rfl #[.int .i64 a1] rfl ql_ ?_; (with_reducible refine (wide_abs.calls a1 t260 _ A4.out).mono ?_); rintro e w' ⟨rfl, ⟨nd, rfl⟩⟩; refine ⟨_, rfl, ?_⟩; (try (rw [drewN_self w16]; generalize hq_ : World.drewN w16 _ = w16; have n0_ : Aside0 (w16.heap[gb258]? = some (.cells #[.int .i64 0, .int .u64 0] 24 (0, 0))) := ⟨by rw [← hq_]; exact (qk_ BK258.out)⟩; have n1_ : Aside0 (Below w.heap.size w w16) := ⟨by rw [← hq_]; exact (qb1_ GE258.out HB.out)⟩; clear BK258 HB hq_; have BK258 := n0_; have HB := n1_; clear n0_ n1_))) | ((with_reducible refine gate_callee (f := 56) rfl ?_); refine goesL_ (some 13) rfl rfl Tryd.func56 (by kernel_rfl) rfl #[.int .u64 t259, .int .u64 t260] rfl ql_ ?_; (with_reducible refine (bits_Mul64.calls t259 t260 t261 t262 _ A5.out).mono ?_); rintro e w17 ⟨rfl, hb⟩; refine ⟨_, rfl, ?_⟩; have n0_ := Aside0.mk (blk_below (qk_ BK258.out) hb); have n1_ := Aside0.mk (below_step (qb1_ GE258.out HB.out) hb); clear BK258; clear HB; have BK258 := n0_; have HB := n1_; clear n0_ n1_; (try clear hb); (try clear hb2); (try clear hk); (try clear hi)) | ((with_reducible refine gate_dst (N := 7) rfl ?_); refine be_ (N := 7) (cs := #[.int .i64 0, .int .u64 0]) (t := 24) ?_; intro gb263 hg w18 hbox hb; have n0_ := Aside0.mk (blk_below (qk_ BK258.out) hb); have n1_ := Aside0.mk (below_step (qb1_ GE258.out HB.out) hb); have n2_ := Aside0.mk (hbox); have n3_ := Aside0.mk (bz_ hg (qb1_ GE258.out HB.out) : w.heap.size ≤ gb263); have n4_ := n3_; have n5_ := Aside0.mk (nl_ hg (qk_ BK258.out) : gb258 ≠ gb263); have n6_ := Aside0.mk (ng_ hg (qk_ BK258.out) : gb263 ≠ gb258); clear BK258; clear HB; have BK258 := n0_; have HB := n1_; have BK263 := n2_; have GW263 := n3_; have GE263 := n4_; have NB258_263 := n5_; have NB263_258 := n6_; clear n0_ n1_ n2_ n3_ n4_ n5_ n6_; clear hb hbox hg; have hnb19 := NB263_258.out; have hnc19 := NB258_263.out; have hcz20_0 : w18.cell? ⟨gb263, 0, none⟩ = some (.int .i64 0) := (blk_cell BK263.out 0).trans rfl; have hcz20_1 : w18.cell? ⟨gb263, 1, none⟩ = some (.int .u64 0) := (blk_cell BK263.out 1).trans rfl; have hfz20_0 := blk_frozen BK263.out 0; have hfz20_1 := blk_frozen BK263.out 1; have hcz21_0 : w18.cell? ⟨gb258, 0, none⟩ = some (.int .i64 0) := (blk_cell BK258.out 0).trans rfl; have hcz21_1 : w18.cell? ⟨gb258, 1, none⟩ = some (.int .u64 0) := (blk_cell BK258.out 1).trans rfl; have hfz21_0 := blk_frozen BK258.out 0; have hfz21_1 := blk_frozen BK258.out 1))
  refine bodyPost_ret (results_cell_row rfl _ _ gb258 24 #[.int .i64 (wrap64 (t261)), .int .u64 t262] (0, 0) _ rfl (qppff_ #[.int .i64 (wrap64 (t261)), .int .u64 0] 1 #[.int .i64 0, .int .u64 0] 0 NB258_263.out NB258_263.out BK258.out) Tryd.underlying24 rfl (by kernel_rfl)) rfl ?_
  exact ⟨qe_, qb2_ GE258.out GE263.out HB.out⟩
def wide_Mul.f (a0 a1 : Int) : Option (Int × Int) := if inI a0 ∧ inI a1 then some (a0 * a1 / 18446744073709551616, a0 * a1 % 18446744073709551616) else none
theorem wide_Mul.eq {a b : Int} {r : Int × Int} (h : wide_Mul.f a b = some r) : wide_MulP.f a b = some r := by
 unfold wide_Mul.f at h
 split at h
 ·rename_i q
  obtain ⟨⟨a0, a1⟩, b0, b1⟩ := q
  injection h with h
  subst h
  unfold wide_MulP.f wide_abs.f bits_Mul64.f wide_negate.f
  obtain ⟨m1, m2, m3⟩ := mul_abs a b a0 a1 b0 b1
  have hA : inI a := ⟨a0, a1⟩
  have hB : inI b := ⟨b0, b1⟩
  have hU : inU (if a < 0 then -a else a) ∧ inU (if b < 0 then -b else b) := ⟨by unfold inU; split <;> omega, by unfold inU; split <;> omega⟩
  rw [if_pos hA, if_pos hB]
  simp only [Option.bind_some]
  rw [if_pos hU]
  simp only [Option.bind_some]
  generalize (if a < 0 then -a else a) * (if b < 0 then -b else b) = m at *
  have hw : wrap64 (m / 18446744073709551616) = m / 18446744073709551616 := by unfold wrap64; omega
  have hwv : wv (m / 18446744073709551616) (m % 18446744073709551616) = m := by unfold wv; omega
  have hN : isW (m / 18446744073709551616) (m % 18446744073709551616) := ⟨by unfold inI; omega, by unfold inU; omega⟩
  rw [hw, if_pos hN, hwv, if_neg (show ¬ m = -170141183460469231731687303715884105728 by omega)]
  simp only [Option.bind_some]
  split
  ·rename_i hc
   rw [if_pos (by simpa using hc)] at m1
   rw [m1, Int.neg_neg]
  ·rename_i hc
   rw [if_neg (by simpa using hc)] at m1
   rw [m1]
 ·cases h
theorem wide_Mul.calls (a0 : Int) (a1 : Int) (r1 : Int) (r2 : Int) (w : World) (h : wide_Mul.f a0 a1 = some (r1, r2)) :
  Calls Tryd.prog 42 #[.int .i64 a0, .int .i64 a1] w fun e w' => e = .returned (.agg #[.int .i64 r1, .int .u64 r2]) ∧ Below w.heap.size w w' := by
 have h := wide_Mul.eq h
 exact wide_MulP.calls a0 a1 r1 r2 w h
end Go.Proofs.YtkdhippoibjfkaaDoor.PR
end
