import Derived.Test.YtjkjiibhdpcpkaaDoorQRm2
import Derived.Test.YtjkjiibhdpcpkaaDoorQRm8
import Derived.Test.YtjkjiibhdpcpkaaDoorQRm9
import Derived.Test.YtjkjiibhdpcpkaaDoorQRm10
section
namespace Go.Proofs.YtjkjiibhdpcpkaaDoor.PS
open Go.RowKit Go.Proofs.YtjkjiibhdpcpkaaDoorW.PrintWords Go.Proofs.YtjkjiibhdpcpkaaDoorW.PrintLast
set_option linter.unusedVariables false
set_option linter.unusedSimpArgs false
mutual
def corebankref02_DivideP.j0 : Nat → Int → Int → Bool → Int → Int → Option (Int × Int)
 | 0, _, _, _, _, _ => none
 | k + 1, x1, x2, x21, x359000, x359001 => if x21 = true then (some (0, 1)) else ((corebankref01_Div.f x359000 x359001 x1).bind fun bt360 => (if bt360.2.2.1 > 0 then ((corebankref02_up.f (decide (x359000 < 0)) ((Int.tmod bt360.2.1 2) == 1) bt360.2.2.1 x1 x2).bind fun t365 => (corebankref02_DivideP.j1 k t365 bt360.1 bt360.2.1)) else (corebankref02_DivideP.j1 k false bt360.1 bt360.2.1)))
def corebankref02_DivideP.j1 : Nat → Bool → Int → Int → Option (Int × Int)
 | 0, _, _, _ => none
 | k + 1, x43, x365000, x365001 => if x43 = true then ((corebankref01_Of.f 1).bind fun bt366 => ((corebankref01_Add.f x365000 x365001 bt366.1 bt366.2).bind fun bt368 => (corebankref02_DivideP.j2 k bt368.1 bt368.2.1))) else (corebankref02_DivideP.j2 k x365000 x365001)
def corebankref02_DivideP.j2 : Nat → Int → Int → Option (Int × Int)
 | 0, _, _ => none
 | k + 1, x365000, x365001 => (corebankref01_Int.f x365000 x365001).bind fun bt372 => (if bt372.2 = true then (some (bt372.1, 0)) else (some (0, 6)))
end
def corebankref02_DivideP.f (k : Nat) (a0_0 a0_1 a1 a2 : Int) : Option (Int × Int) := if a1 < 1 then (corebankref02_DivideP.j0 k a1 a2 true a0_0 a0_1) else ((corebankref02_Valid.f a2).bind fun t359 => (corebankref02_DivideP.j0 k a1 a2 (!t359) a0_0 a0_1))
def corebankref02_DivideP.T5 : Bool × List (List Nat × List Nat) := (true, [([], []), ([], []), ([0, 1, 1], [0, 1]), ([2], [2]), ([3], [3]), ([3], [3]), ([], []), ([6, 4, 2, 0, 1, 2, 3, 4, 6], [4, 6]), ([5, 7, 0, 1, 2, 3, 4, 5, 6, 7], [5])])
def corebankref02_DivideP.B5 : List Nat := [0, 0, 3, 7, 15, 15, 0, 95, 255]
theorem corebankref02_DivideP.tab5 : rtab .any (opsOf Tryd.f46 5) = corebankref02_DivideP.T5 := by kernel_rfl
theorem corebankref02_DivideP.bits5 : waitsOk corebankref02_DivideP.T5.2 corebankref02_DivideP.B5 = true := by kernel_rfl
set_option maxHeartbeats 8000000 in
set_option maxRecDepth 100000 in
theorem corebankref02_DivideP.calls (k : Nat) (a0_0 a0_1 a1 a2 r1 r2 : Int) (w : World) (h : corebankref02_DivideP.f k a0_0 a0_1 a1 a2 = some (r1, r2)) :
  Calls Tryd.prog 46 #[.agg #[.int .i64 a0_0, .int .u64 a0_1], .int .i64 a1, .int .i64 a2] w fun e w' => e = .returned (.tuple #[.int .i64 r1, .int .i64 r2]) ∧ Below w.heap.size w w' := by
 have hu63 := Tryd.underlying63
 have HB := Aside0.mk (Below.refl w.heap.size w)
 have H : (if a1 < 1 then (corebankref02_DivideP.j0 k a1 a2 true a0_0 a0_1) else ((corebankref02_Valid.f a2).bind fun t359 => (corebankref02_DivideP.j0 k a1 a2 (!t359) a0_0 a0_1))) = some (r1, r2) := h
 clear h
 have HC4 := Aside0.mk H
 clear H
 go_enter Tryd.func46, Tryd.ntmps46
 go_upto_region 1 with (first | ((with_reducible refine gate_dst (N := 3) rfl ?_); refine be_ (N := 3) (cs := #[.int .i64 a0_0, .int .u64 a0_1]) (t := 63) ?_; intro gb358 hg w5 hbox hb; have n0_ := Aside0.mk (below_step (qb_ HB.out) hb); have n1_ := Aside0.mk (hbox); have n2_ := Aside0.mk (bz_ hg (qb_ HB.out) : w.heap.size ≤ gb358); have n3_ := n2_; clear HB; have HB := n0_; have BK358 := n1_; have GW358 := n2_; have GE358 := n3_; clear n0_ n1_ n2_ n3_; clear hb hbox hg))
 (try simp only [Act.put, List.setIfInBounds_toArray, List.set_cons_zero, List.set_cons_succ])
 go_cut [21] (fun v21 wc => ∃ (kq : Nat) (x21_3 : Bool), v21 = .bool x21_3 ∧ Aside0 (corebankref02_DivideP.j0 kq a1 a2 x21_3 a0_0 a0_1 = some (r1, r2)) ∧ Aside0 (kq ≤ k) ∧ Aside0 (wc.heap[gb358]? = some (.cells #[.int .i64 a0_0, .int .u64 a0_1] 63 (0, 0))) ∧ Aside0 (Below w.heap.size w wc))
 case first =>
  have H := HC4.out
  clear HC4
  by_cases c6 : a1 < 1
  ·rw [if_pos c6] at H
   have c6b0 : decide (a1 < 1) = true := decide_eq_true c6
   clear c6
   (first | rw [c6b0] | (simp only [i64_w, i32_w]; rw [c6b0]) | skip)
   have H' := Aside0.mk H
   clear H
   go_wp2
   go_meet
   case rel => exact ⟨_, (true), qs_, H', ⟨qo_⟩, ⟨qk_ BK358.out⟩, ⟨qb1_ GE358.out HB.out⟩⟩
  ·rw [if_neg c6] at H
   have c6b0 : decide (a1 < 1) = false := decide_eq_false c6
   clear c6
   (first | rw [c6b0] | (simp only [i64_w, i32_w]; rw [c6b0]) | skip)
   replace H := Option.bind_eq_some_iff.mp H
   obtain ⟨t359, A70, H⟩ := H
   replace H : (corebankref02_DivideP.j0 k a1 a2 (!t359) a0_0 a0_1) = some (r1, r2) := H
   have A7 := Aside0.mk A70
   clear A70
   have H' := Aside0.mk H
   clear H
   go_wp2_with (first | (go_at_call 58; (with_reducible refine (corebankref02_Valid.calls a2 t359 _ A7.out).mono ?_); rintro e w' ⟨rfl, ⟨nd, rfl⟩⟩))
   go_meet
   case rel => exact ⟨_, (!t359), qs_, H', ⟨qo_⟩, ⟨qk_ BK358.out⟩, ⟨qb1_ GE358.out HB.out⟩⟩
 case rest =>
  clear HC4
  try clear p2
  try clear c4
  try clear c6
  try clear c6b0
  obtain ⟨kq, x21_3, rfl, HA, HJ3, BK358, HB⟩ := hcut
  cases kq with
  | zero => exact absurd HA.out (by simp [corebankref02_DivideP.j0])
  | succ kj3 =>
   have H := HA.out
   clear HA
   simp only [corebankref02_DivideP.j0] at H
   by_cases c8 : x21_3 = true
   ·subst c8
    have H1 : (some (0, 1)) = some (r1, r2) := by rw [if_pos rfl] at H; exact H
    clear H
    have H := H1
    clear H1
    simp only [Option.some.injEq, Prod.mk.injEq] at H
    obtain ⟨rfl, rfl⟩ := H
    go_wp2
    go_ret2
    exact ⟨qe_, qb1_ GE358.out HB.out⟩
   ·replace c8 := Bool.eq_false_iff.mpr c8
    subst c8
    have H1 : ((corebankref01_Div.f a0_0 a0_1 a1).bind fun bt360 => (if bt360.2.2.1 > 0 then ((corebankref02_up.f (decide (a0_0 < 0)) ((Int.tmod bt360.2.1 2) == 1) bt360.2.2.1 a1 a2).bind fun t365 => (corebankref02_DivideP.j1 kj3 t365 bt360.1 bt360.2.1)) else (corebankref02_DivideP.j1 kj3 false bt360.1 bt360.2.1))) = some (r1, r2) := by rw [if_neg (show ¬ (false = true) by decide)] at H; exact H
    clear H
    have H := H1
    clear H1
    replace H := Option.bind_eq_some_iff.mp H
    obtain ⟨⟨t360, t361, t362, t363⟩, A90, H⟩ := H
    replace H : (if t362 > 0 then ((corebankref02_up.f (decide (a0_0 < 0)) ((Int.tmod t361 2) == 1) t362 a1 a2).bind fun t365 => (corebankref02_DivideP.j1 kj3 t365 t360 t361)) else (corebankref02_DivideP.j1 kj3 false t360 t361)) = some (r1, r2) := H
    have A9 := Aside0.mk A90
    clear A90
    have HC10 := Aside0.mk H
    clear H
    obtain ⟨Z11_0, Z11_1, Y11_0, Y11_1⟩ := cz2_ BK358.out
    go_upto_region 4 with (first | ((with_reducible refine gate_callee (f := 59) rfl ?_); refine goesL_ (some 25) rfl rfl Tryd.func59 (by kernel_rfl) rfl #[.agg #[.int .i64 a0_0, .int .u64 a0_1], .int .i64 a1] rfl ql_ ?_; (with_reducible refine (corebankref01_Div.calls a0_0 a0_1 a1 t360 t361 t362 t363 _ A9.out).mono ?_); rintro e w12 ⟨rfl, hb⟩; refine ⟨_, rfl, ?_⟩; have n0_ := Aside0.mk (blk_below (qk_ BK358.out) hb); have n1_ := Aside0.mk (below_step (qb1_ GE358.out HB.out) hb); clear BK358; clear HB; have BK358 := n0_; have HB := n1_; clear n0_ n1_; (try clear hb); (try clear hb2); (try clear hk); (try clear hi)) | ((with_reducible refine gate_dst (N := 8) rfl ?_); refine be_ (N := 8) (cs := #[.int .i64 0, .int .u64 0]) (t := 63) ?_; intro gb364 hg w13 hbox hb; have n0_ := Aside0.mk (blk_below (qk_ BK358.out) hb); have n1_ := Aside0.mk (below_step (qb1_ GE358.out HB.out) hb); have n2_ := Aside0.mk (hbox); have n3_ := Aside0.mk (bz_ hg (qb1_ GE358.out HB.out) : w.heap.size ≤ gb364); have n4_ := n3_; have n5_ := Aside0.mk (nl_ hg (qk_ BK358.out) : gb358 ≠ gb364); have n6_ := Aside0.mk (ng_ hg (qk_ BK358.out) : gb364 ≠ gb358); clear BK358; clear HB; have BK358 := n0_; have HB := n1_; have BK364 := n2_; have GW364 := n3_; have GE364 := n4_; have NB358_364 := n5_; have NB364_358 := n6_; clear n0_ n1_ n2_ n3_ n4_ n5_ n6_; clear hb hbox hg; have hnb14 := NB364_358.out; have hnc14 := NB358_364.out; obtain ⟨Z15_0, Z15_1, Y15_0, Y15_1⟩ := cz2_ BK364.out))
    (try simp only [Act.put, List.setIfInBounds_toArray, List.set_cons_zero, List.set_cons_succ])
    go_cut [43] (fun v43 wc => ∃ (kq : Nat) (x43_9 : Bool), v43 = .bool x43_9 ∧ Aside0 (corebankref02_DivideP.j1 kq x43_9 t360 t361 = some (r1, r2)) ∧ Aside0 (kq ≤ kj3) ∧ Aside0 (wc.heap[gb358]? = some (.cells #[.int .i64 a0_0, .int .u64 a0_1] 63 (0, 0))) ∧ Aside0 (wc.heap[gb364]? = some (.cells #[.int .i64 t360, .int .u64 t361] 63 (0, 0))) ∧ Aside0 (Below w.heap.size w wc))
    case first =>
     have H := HC10.out
     clear HC10
     by_cases c16 : t362 > 0
     ·rw [if_pos c16] at H
      have c16b0 : decide (0 < t362) = true := decide_eq_true c16
      clear c16
      (first | rw [c16b0] | (simp only [i64_w, i32_w]; rw [c16b0]) | skip)
      replace H := Option.bind_eq_some_iff.mp H
      obtain ⟨t365, A170, H⟩ := H
      replace H : (corebankref02_DivideP.j1 kj3 t365 t360 t361) = some (r1, r2) := H
      have A17 := Aside0.mk A170
      clear A170
      have H' := Aside0.mk H
      clear H
      have hnb18 := NB358_364.out
      have hnc18 := NB364_358.out
      obtain ⟨Z19_0, Z19_1, Y19_0, Y19_1⟩ := cz2_ BK358.out
      obtain ⟨Z20_0, Z20_1, Y20_0, Y20_1⟩ := cz2_ BK364.out
      go_wp2_with (first | (go_at_call 60; (with_reducible refine (corebankref02_up.calls (decide (a0_0 < 0)) ((Int.tmod t361 2) == 1) t362 a1 a2 t365 _ A17.out).mono ?_); rintro e w' ⟨rfl, ⟨nd, rfl⟩⟩))
      go_meet
      case rel => exact ⟨_, (t365), qs_, H', ⟨by have := HJ3.out; first | omega | exact Nat.le_refl _⟩, ⟨qff_ NB358_364.out NB358_364.out BK358.out⟩, ⟨qpp_ #[.int .i64 t360, .int .u64 0] 1 #[.int .i64 0, .int .u64 0] 0 BK364.out⟩, ⟨qb2_ GE358.out GE364.out HB.out⟩⟩
     ·rw [if_neg c16] at H
      have c16b0 : decide (0 < t362) = false := decide_eq_false c16
      clear c16
      (first | rw [c16b0] | (simp only [i64_w, i32_w]; rw [c16b0]) | skip)
      have H' := Aside0.mk H
      clear H
      go_wp2
      go_meet
      case rel => exact ⟨_, (false), qs_, H', ⟨by have := HJ3.out; first | omega | exact Nat.le_refl _⟩, ⟨qff_ NB358_364.out NB358_364.out BK358.out⟩, ⟨qpp_ #[.int .i64 t360, .int .u64 0] 1 #[.int .i64 0, .int .u64 0] 0 BK364.out⟩, ⟨qb2_ GE358.out GE364.out HB.out⟩⟩
    case rest =>
     clear HC10
     try clear c1
     try clear p2
     try clear c4
     try clear c5
     try clear c6
     try clear c6b0
     try clear c8
     try clear c14
     try clear c16
     try clear c16b0
     try clear c18
     (try clear Z11_0 Z11_1 Y11_0 Y11_1)
     (try clear Z15_0 Z15_1 Y15_0 Y15_1)
     (try clear Z19_0 Z19_1 Y19_0 Y19_1)
     (try clear Z20_0 Z20_1 Y20_0 Y20_1)
     try clear p2
     obtain ⟨kq, x43_9, rfl, HA, HJ9, BK358, BK364, HB⟩ := hcut
     cases kq with
     | zero => exact absurd HA.out (by simp [corebankref02_DivideP.j1])
     | succ kj9 =>
      have H := HA.out
      clear HA
      simp only [corebankref02_DivideP.j1] at H
      have HC21 := Aside0.mk H
      clear H
      go_upto_if 43 with (fail)
      go_cut [] (fun wc => ∃ (kq : Nat) (x365000_20 x365001_20 : Int), Aside0 (corebankref02_DivideP.j2 kq x365000_20 x365001_20 = some (r1, r2)) ∧ Aside0 (kq ≤ kj9) ∧ Aside0 (wc.heap[gb358]? = some (.cells #[.int .i64 a0_0, .int .u64 a0_1] 63 (0, 0))) ∧ Aside0 (wc.heap[gb364]? = some (.cells #[.int .i64 x365000_20, .int .u64 x365001_20] 63 (0, 0))) ∧ Aside0 (Below w.heap.size w wc))
      case first =>
       have H := HC21.out
       clear HC21
       by_cases c22 : x43_9 = true
       ·subst c22
        have H1 : ((corebankref01_Of.f 1).bind fun bt366 => ((corebankref01_Add.f t360 t361 bt366.1 bt366.2).bind fun bt368 => (corebankref02_DivideP.j2 kj9 bt368.1 bt368.2.1))) = some (r1, r2) := by rw [if_pos rfl] at H; exact H
        clear H
        have H := H1
        clear H1
        replace H := Option.bind_eq_some_iff.mp H
        obtain ⟨⟨t366, t367⟩, A230, H⟩ := H
        replace H : ((corebankref01_Add.f t360 t361 t366 t367).bind fun bt368 => (corebankref02_DivideP.j2 kj9 bt368.1 bt368.2.1)) = some (r1, r2) := H
        have A23 := Aside0.mk A230
        clear A230
        replace H := Option.bind_eq_some_iff.mp H
        obtain ⟨⟨t368, t369, t370⟩, A240, H⟩ := H
        replace H : (corebankref02_DivideP.j2 kj9 t368 t369) = some (r1, r2) := H
        have A24 := Aside0.mk A240
        clear A240
        have H' := Aside0.mk H
        clear H
        try go_wp2
        have n0_ := Aside0.mk (blk_drew BK358.out)
        have n1_ := Aside0.mk (blk_drew BK364.out)
        have n2_ := Aside0.mk (below_drew1 HB.out)
        clear BK358
        clear BK364
        clear HB
        have BK358 := n0_
        have BK364 := n1_
        have HB := n2_
        clear n0_ n1_ n2_
        refine start_ (n := 9) (S := cS2_ gb364 (.int .i64 t360) (.int .u64 t361)) (ds := []) (nb_ 9 0) (by kernel_rfl) rfl rfl (cc2_ BK364.out) (fun hHeld => ?_); refine with_tabW corebankref02_DivideP.tab5 corebankref02_DivideP.bits5 (fun HT_ HW_ => ?_)
        generalize wc.drew = w25 at BK358 BK364 HB hHeld ⊢
        refine tk2_ 0 45 (nb_ 9 1) HT_.out HW_.out hHeld ?_
        refine join_ (σ := Nat) 2 (nb_ 9 127) (fun s_ => [(46, .agg #[.int .i64 t366, .int .u64 t367]), (47, .tuple #[.agg #[.int .i64 t368, .int .u64 t369], .int .i64 t370]), (11, .pointer (some ⟨s_, 0, none⟩)), (44, .tuple #[.agg #[.int .i64 t368, .int .u64 t369], .int .i64 t370]), (48, .agg #[.int .i64 t368, .int .u64 t369]), (49, .int .i64 t370)]) (fun s_ w' => (cS2_ gb364 (.int .i64 t360) (.int .u64 t361) w') ∧ (w'.heap[gb358]? = some (.cells #[.int .i64 a0_0, .int .u64 a0_1] 63 (0, 0))) ∧ (w'.heap[gb364]? = some (.cells #[.int .i64 t360, .int .u64 t361] 63 (0, 0))) ∧ (w'.heap[s_]? = some (.cells #[.int .i64 0, .int .u64 0] 63 (0, 0))) ∧ (w.heap.size ≤ s_) ∧ (w.heap.size ≤ s_) ∧ (gb358 ≠ s_) ∧ (s_ ≠ gb358) ∧ (gb364 ≠ s_) ∧ (s_ ≠ gb364) ∧ (Below w.heap.size w w')) ?_ ?_
        rotate_left
        ·intro hCont
         refine two_ (i := 1) (j := 6) (Ni := some 46) (Nj := some 11) (nb_ 9 3) (nb_ 9 65) rfl rfl rfl rfl (two_of HT_.out (by kernel_rfl)) (by decide) (by decide) (fun K hK => ?_) (fun K hK => ?_)
         ·skip
          refine goes_ Tryd.func62 (by kernel_rfl) rfl #[.int .i64 1] (by rfl) rfl rfl ql_ ?_
          with_reducible refine (corebankref01_Of.calls 1 t366 t367 _ A23.out).mono ?_
          rintro e w26 ⟨rfl, hb⟩
          refine ⟨_, rfl, ?_⟩
          have n0_ := Aside0.mk (blk_below (qk_ BK358.out) hb)
          have n1_ := Aside0.mk (blk_below (qk_ BK364.out) hb)
          have n2_ := Aside0.mk (below_step (qb2_ GE358.out GE364.out HB.out) hb)
          clear BK358
          clear BK364
          clear HB
          have BK358 := n0_
          have BK364 := n1_
          have HB := n2_
          clear n0_ n1_ n2_
          (try clear hb)
          (try clear hb2)
          (try clear hk)
          (try clear hi)
          refine hK.out _ _ (cc2_ BK364.out) (fun hHeld => ?_)
          clear hK K
          refine no_ ?_
          refine two_ (i := 2) (j := 6) (Ni := some 47) (Nj := some 11) (nb_ 9 7) (nb_ 9 67) rfl rfl rfl rfl (two_of HT_.out (by kernel_rfl)) (by decide) (by decide) (fun K hK => ?_) (fun K hK => ?_)
          ·skip
           refine goes_ Tryd.func61 (by kernel_rfl) rfl #[.agg #[.int .i64 t360, .int .u64 t361], .agg #[.int .i64 t366, .int .u64 t367]] (by rfl) rfl rfl ql_ ?_
           with_reducible refine (corebankref01_Add.calls t360 t361 t366 t367 t368 t369 t370 _ A24.out).mono ?_
           rintro e w27 ⟨rfl, hb⟩
           refine ⟨_, rfl, ?_⟩
           have n0_ := Aside0.mk (blk_below (qk_ BK358.out) hb)
           have n1_ := Aside0.mk (blk_below (qk_ BK364.out) hb)
           have n2_ := Aside0.mk (below_step (qb2_ GE358.out GE364.out HB.out) hb)
           clear BK358
           clear BK364
           clear HB
           have BK358 := n0_
           have BK364 := n1_
           have HB := n2_
           clear n0_ n1_ n2_
           (try clear hb)
           (try clear hb2)
           (try clear hk)
           (try clear hi)
           refine hK.out _ _ (cc2_ BK364.out) (fun hHeld => ?_)
           clear hK K
           refine no_ ?_
           refine pz_ 3 44 (nb_ 9 15) HT_.out ?_
           refine pz_ 4 48 (nb_ 9 31) HT_.out ?_
           refine pz_ 5 49 (nb_ 9 63) HT_.out ?_
           refine on_ 6 11 (nb_ 9 127) HT_.out (fun K hK => ?_)
           refine box_step ?hg (N := 11) ?hd (cs := #[.int .i64 0, .int .u64 0]) (t := 63) ?hr ?_; (case hd => rfl); (case hg => rfl); (case hr => first | (go_simp; done) | (go_simp; rfl))
           intro gb371 hg w28 hbox hb
           have n0_ := Aside0.mk (blk_below (qk_ BK358.out) hb)
           have n1_ := Aside0.mk (blk_below (qk_ BK364.out) hb)
           have n2_ := Aside0.mk (below_step (qb2_ GE358.out GE364.out HB.out) hb)
           have n3_ := Aside0.mk (hbox)
           have n4_ := Aside0.mk (bz_ hg (qb2_ GE358.out GE364.out HB.out) : w.heap.size ≤ gb371)
           have n5_ := Aside0.mk (bz_ hg (qb2_ GE358.out GE364.out HB.out) : w.heap.size ≤ gb371)
           have n6_ := Aside0.mk (nl_ hg (qk_ BK358.out) : gb358 ≠ gb371)
           have n7_ := Aside0.mk (ng_ hg (qk_ BK358.out) : gb371 ≠ gb358)
           have n8_ := Aside0.mk (nl_ hg (qk_ BK364.out) : gb364 ≠ gb371)
           have n9_ := Aside0.mk (ng_ hg (qk_ BK364.out) : gb371 ≠ gb364)
           clear BK358
           clear BK364
           clear HB
           have BK358 := n0_
           have BK364 := n1_
           have HB := n2_
           have BK371 := n3_
           have GW371 := n4_
           have GE371 := n5_
           have NB358_371 := n6_
           have NB371_358 := n7_
           have NB364_371 := n8_
           have NB371_364 := n9_
           clear n0_ n1_ n2_ n3_ n4_ n5_ n6_ n7_ n8_ n9_
           clear hb hbox hg
           refine hK.out _ _ (cc2_ BK364.out) (fun hHeld => ?_)
           clear hK K
           refine no_ ?_
           exact norm_ (by simp only [putAll, Act.put, List.setIfInBounds_toArray, List.set_cons_zero, List.set_cons_succ]) (hCont (gb371) _ ⟨hHeld, (qk_ BK358.out), (qk_ BK364.out), (qk_ BK371.out), GW371.out, GE371.out, NB358_371.out, NB371_358.out, NB364_371.out, NB371_364.out, (qb3_ GE358.out GE364.out GE371.out HB.out)⟩)
          ·skip
           refine box_step ?hg (N := 11) ?hd (cs := #[.int .i64 0, .int .u64 0]) (t := 63) ?hr ?_; (case hd => rfl); (case hg => rfl); (case hr => first | (go_simp; done) | (go_simp; rfl))
           intro gb371 hg w27 hbox hb
           have n0_ := Aside0.mk (blk_below (qk_ BK358.out) hb)
           have n1_ := Aside0.mk (blk_below (qk_ BK364.out) hb)
           have n2_ := Aside0.mk (below_step (qb2_ GE358.out GE364.out HB.out) hb)
           have n3_ := Aside0.mk (hbox)
           have n4_ := Aside0.mk (bz_ hg (qb2_ GE358.out GE364.out HB.out) : w.heap.size ≤ gb371)
           have n5_ := Aside0.mk (bz_ hg (qb2_ GE358.out GE364.out HB.out) : w.heap.size ≤ gb371)
           have n6_ := Aside0.mk (nl_ hg (qk_ BK358.out) : gb358 ≠ gb371)
           have n7_ := Aside0.mk (ng_ hg (qk_ BK358.out) : gb371 ≠ gb358)
           have n8_ := Aside0.mk (nl_ hg (qk_ BK364.out) : gb364 ≠ gb371)
           have n9_ := Aside0.mk (ng_ hg (qk_ BK364.out) : gb371 ≠ gb364)
           clear BK358
           clear BK364
           clear HB
           have BK358 := n0_
           have BK364 := n1_
           have HB := n2_
           have BK371 := n3_
           have GW371 := n4_
           have GE371 := n5_
           have NB358_371 := n6_
           have NB371_358 := n7_
           have NB364_371 := n8_
           have NB371_364 := n9_
           clear n0_ n1_ n2_ n3_ n4_ n5_ n6_ n7_ n8_ n9_
           clear hb hbox hg
           refine hK.out _ _ (cc2_ BK364.out) (fun hHeld => ?_)
           clear hK K
           refine no_ ?_
           refine on_ 2 47 (nb_ 9 71) HT_.out (fun K hK => ?_)
           refine goes_ Tryd.func61 (by kernel_rfl) rfl #[.agg #[.int .i64 t360, .int .u64 t361], .agg #[.int .i64 t366, .int .u64 t367]] (by rfl) rfl rfl ql_ ?_
           with_reducible refine (corebankref01_Add.calls t360 t361 t366 t367 t368 t369 t370 _ A24.out).mono ?_
           rintro e w28 ⟨rfl, hb⟩
           refine ⟨_, rfl, ?_⟩
           have n0_ := Aside0.mk (blk_below (qk_ BK358.out) hb)
           have n1_ := Aside0.mk (blk_below (qk_ BK364.out) hb)
           have n2_ := Aside0.mk (blk_below (qk_ BK371.out) hb)
           have n3_ := Aside0.mk (below_step (qb3_ GE358.out GE364.out GE371.out HB.out) hb)
           clear BK358
           clear BK364
           clear BK371
           clear HB
           have BK358 := n0_
           have BK364 := n1_
           have BK371 := n2_
           have HB := n3_
           clear n0_ n1_ n2_ n3_
           (try clear hb)
           (try clear hb2)
           (try clear hk)
           (try clear hi)
           refine hK.out _ _ (cc2_ BK364.out) (fun hHeld => ?_)
           clear hK K
           refine no_ ?_
           refine pz_ 3 44 (nb_ 9 79) HT_.out ?_
           refine pz_ 4 48 (nb_ 9 95) HT_.out ?_
           refine pz_ 5 49 (nb_ 9 127) HT_.out ?_
           exact norm_ (by simp only [putAll, Act.put, List.setIfInBounds_toArray, List.set_cons_zero, List.set_cons_succ]) (hCont (gb371) _ ⟨hHeld, (qk_ BK358.out), (qk_ BK364.out), (qk_ BK371.out), GW371.out, GE371.out, NB358_371.out, NB371_358.out, NB364_371.out, NB371_364.out, (qb3_ GE358.out GE364.out GE371.out HB.out)⟩)
         ·skip
          refine box_step ?hg (N := 11) ?hd (cs := #[.int .i64 0, .int .u64 0]) (t := 63) ?hr ?_; (case hd => rfl); (case hg => rfl); (case hr => first | (go_simp; done) | (go_simp; rfl))
          intro gb371 hg w26 hbox hb
          have n0_ := Aside0.mk (blk_below (qk_ BK358.out) hb)
          have n1_ := Aside0.mk (blk_below (qk_ BK364.out) hb)
          have n2_ := Aside0.mk (below_step (qb2_ GE358.out GE364.out HB.out) hb)
          have n3_ := Aside0.mk (hbox)
          have n4_ := Aside0.mk (bz_ hg (qb2_ GE358.out GE364.out HB.out) : w.heap.size ≤ gb371)
          have n5_ := Aside0.mk (bz_ hg (qb2_ GE358.out GE364.out HB.out) : w.heap.size ≤ gb371)
          have n6_ := Aside0.mk (nl_ hg (qk_ BK358.out) : gb358 ≠ gb371)
          have n7_ := Aside0.mk (ng_ hg (qk_ BK358.out) : gb371 ≠ gb358)
          have n8_ := Aside0.mk (nl_ hg (qk_ BK364.out) : gb364 ≠ gb371)
          have n9_ := Aside0.mk (ng_ hg (qk_ BK364.out) : gb371 ≠ gb364)
          clear BK358
          clear BK364
          clear HB
          have BK358 := n0_
          have BK364 := n1_
          have HB := n2_
          have BK371 := n3_
          have GW371 := n4_
          have GE371 := n5_
          have NB358_371 := n6_
          have NB371_358 := n7_
          have NB364_371 := n8_
          have NB371_364 := n9_
          clear n0_ n1_ n2_ n3_ n4_ n5_ n6_ n7_ n8_ n9_
          clear hb hbox hg
          refine hK.out _ _ (cc2_ BK364.out) (fun hHeld => ?_)
          clear hK K
          refine no_ ?_
          refine on_ 1 46 (nb_ 9 67) HT_.out (fun K hK => ?_)
          refine goes_ Tryd.func62 (by kernel_rfl) rfl #[.int .i64 1] (by rfl) rfl rfl ql_ ?_
          with_reducible refine (corebankref01_Of.calls 1 t366 t367 _ A23.out).mono ?_
          rintro e w27 ⟨rfl, hb⟩
          refine ⟨_, rfl, ?_⟩
          have n0_ := Aside0.mk (blk_below (qk_ BK358.out) hb)
          have n1_ := Aside0.mk (blk_below (qk_ BK364.out) hb)
          have n2_ := Aside0.mk (blk_below (qk_ BK371.out) hb)
          have n3_ := Aside0.mk (below_step (qb3_ GE358.out GE364.out GE371.out HB.out) hb)
          clear BK358
          clear BK364
          clear BK371
          clear HB
          have BK358 := n0_
          have BK364 := n1_
          have BK371 := n2_
          have HB := n3_
          clear n0_ n1_ n2_ n3_
          (try clear hb)
          (try clear hb2)
          (try clear hk)
          (try clear hi)
          refine hK.out _ _ (cc2_ BK364.out) (fun hHeld => ?_)
          clear hK K
          refine no_ ?_
          refine on_ 2 47 (nb_ 9 71) HT_.out (fun K hK => ?_)
          refine goes_ Tryd.func61 (by kernel_rfl) rfl #[.agg #[.int .i64 t360, .int .u64 t361], .agg #[.int .i64 t366, .int .u64 t367]] (by rfl) rfl rfl ql_ ?_
          with_reducible refine (corebankref01_Add.calls t360 t361 t366 t367 t368 t369 t370 _ A24.out).mono ?_
          rintro e w28 ⟨rfl, hb⟩
          refine ⟨_, rfl, ?_⟩
          have n0_ := Aside0.mk (blk_below (qk_ BK358.out) hb)
          have n1_ := Aside0.mk (blk_below (qk_ BK364.out) hb)
          have n2_ := Aside0.mk (blk_below (qk_ BK371.out) hb)
          have n3_ := Aside0.mk (below_step (qb3_ GE358.out GE364.out GE371.out HB.out) hb)
          clear BK358
          clear BK364
          clear BK371
          clear HB
          have BK358 := n0_
          have BK364 := n1_
          have BK371 := n2_
          have HB := n3_
          clear n0_ n1_ n2_ n3_
          (try clear hb)
          (try clear hb2)
          (try clear hk)
          (try clear hi)
          refine hK.out _ _ (cc2_ BK364.out) (fun hHeld => ?_)
          clear hK K
          refine no_ ?_
          refine pz_ 3 44 (nb_ 9 79) HT_.out ?_
          refine pz_ 4 48 (nb_ 9 95) HT_.out ?_
          refine pz_ 5 49 (nb_ 9 127) HT_.out ?_
          exact norm_ (by simp only [putAll, Act.put, List.setIfInBounds_toArray, List.set_cons_zero, List.set_cons_succ]) (hCont (gb371) _ ⟨hHeld, (qk_ BK358.out), (qk_ BK364.out), (qk_ BK371.out), GW371.out, GE371.out, NB358_371.out, NB371_358.out, NB364_371.out, NB371_364.out, (qb3_ GE358.out GE364.out GE371.out HB.out)⟩)
        rintro gb371 w29 ⟨hS_, h0_, h1_, h2_, h3_, h4_, h5_, h6_, h7_, h8_, h9_⟩
        have n0_ : Aside0 (w29.heap[gb358]? = some (.cells #[.int .i64 a0_0, .int .u64 a0_1] 63 (0, 0))) := ⟨h0_⟩
        have n1_ : Aside0 (w29.heap[gb364]? = some (.cells #[.int .i64 t360, .int .u64 t361] 63 (0, 0))) := ⟨h1_⟩
        have n2_ : Aside0 (w29.heap[gb371]? = some (.cells #[.int .i64 0, .int .u64 0] 63 (0, 0))) := ⟨h2_⟩
        have n3_ : Aside0 (w.heap.size ≤ gb371) := ⟨h3_⟩
        have n4_ : Aside0 (w.heap.size ≤ gb371) := ⟨h4_⟩
        have n5_ : Aside0 (gb358 ≠ gb371) := ⟨h5_⟩
        have n6_ : Aside0 (gb371 ≠ gb358) := ⟨h6_⟩
        have n7_ : Aside0 (gb364 ≠ gb371) := ⟨h7_⟩
        have n8_ : Aside0 (gb371 ≠ gb364) := ⟨h8_⟩
        have n9_ : Aside0 (Below w.heap.size w w29) := ⟨h9_⟩
        clear BK358
        clear BK364
        clear HB
        clear h0_ h1_ h2_ h3_ h4_ h5_ h6_ h7_ h8_ h9_
        have BK358 := n0_
        have BK364 := n1_
        have BK371 := n2_
        have GW371 := n3_
        have GE371 := n4_
        have NB358_371 := n5_
        have NB371_358 := n6_
        have NB364_371 := n7_
        have NB371_364 := n8_
        have HB := n9_
        clear n0_ n1_ n2_ n3_ n4_ n5_ n6_ n7_ n8_ n9_
        have hHeld : cS2_ gb364 (.int .i64 t360) (.int .u64 t361) w29 := hS_
        refine norm_ (a' := ?_) ?_ ?_
        rotate_left
        ·simp only [putAll, Act.put, List.setIfInBounds_toArray, List.set_cons_zero, List.set_cons_succ]
         rfl
        refine one_ (i := 7) (N := none) (nb_ 9 255) rfl rfl (one_of HT_.out (by kernel_rfl)) (by decide) (fun K hK => ?_)
        have hs30 : w29.cell? ⟨gb371, 0, none⟩ = some (.int .i64 0) := (blk_cell BK371.out 0).trans rfl
        have hfs30 := blk_frozen BK371.out 0
        have hns30_0 := NB358_371.out
        have hns30_1 := NB364_371.out
        have hms30_0 := NB371_358.out
        have hms30_1 := NB371_364.out
        have hs31 : w29.cell? ⟨gb371, 1, none⟩ = some (.int .u64 0) := (blk_cell BK371.out 1).trans rfl
        have hfs31 := blk_frozen BK371.out 1
        have hns31_0 := NB358_371.out
        have hns31_1 := NB364_371.out
        have hms31_0 := NB371_358.out
        have hms31_1 := NB371_364.out
        refine skip_ (w1 := ?_) (by rfl) rfl ?_ ?_
        rotate_left
        ·go_simp
         rfl
        refine hK.out _ _ ⟨((cell_far (p := ⟨gb371, _, none⟩) NB364_371.out _).trans (((cell_far (p := ⟨gb371, _, none⟩) NB364_371.out _).trans (hHeld.1)))), ((cell_far (p := ⟨gb371, _, none⟩) NB364_371.out _).trans (((cell_far (p := ⟨gb371, _, none⟩) NB364_371.out _).trans (hHeld.2))))⟩ (fun hHeld => ?_)
        clear hK K
        refine pz_ 8 12 (nb_ 9 511) HT_.out ?_
        refine done_ (done_of HT_.out (by kernel_rfl)) ?_
        have hnb32 := NB371_358.out
        have hnc32 := NB358_371.out
        have hnb33 := NB371_364.out
        have hnc33 := NB364_371.out
        obtain ⟨Z34_0, Z34_1, Y34_0, Y34_1⟩ := cz2_ BK371.out
        have hnb35 := NB364_358.out
        have hnc35 := NB358_364.out
        obtain ⟨Z36_0, Z36_1, Y36_0, Y36_1⟩ := cz2_ BK364.out
        try go_wp2
        go_meet
        case rel => exact ⟨_, (t368), (t369), H', ⟨by have := HJ3.out; have := HJ9.out; first | omega | exact Nat.le_refl _⟩, ⟨qffff_ NB358_364.out NB358_364.out NB358_371.out NB358_371.out BK358.out⟩, ⟨qppff_ #[.int .i64 t368, .int .u64 t361] 1 #[.int .i64 t360, .int .u64 t361] 0 NB364_371.out NB364_371.out BK364.out⟩, ⟨qb3_ GE358.out GE364.out GE371.out HB.out⟩⟩
       ·replace c22 := Bool.eq_false_iff.mpr c22
        subst c22
        have H1 : (corebankref02_DivideP.j2 kj9 t360 t361) = some (r1, r2) := by rw [if_neg (show ¬ (false = true) by decide)] at H; exact H
        clear H
        have H := H1
        clear H1
        have H' := Aside0.mk H
        clear H
        go_wp2
        go_meet
        case rel => exact ⟨_, (t360), (t361), H', ⟨by have := HJ3.out; have := HJ9.out; first | omega | exact Nat.le_refl _⟩, ⟨qk_ BK358.out⟩, ⟨qk_ BK364.out⟩, ⟨qb2_ GE358.out GE364.out HB.out⟩⟩
      case rest =>
       clear HC21
       try clear c1
       try clear c2
       try clear p2
       try clear c3
       try clear c4
       try clear c5
       try clear c6
       try clear c6b0
       try clear c8
       try clear c14
       try clear c16
       try clear c16b0
       try clear c18
       try clear c22
       try clear c32
       try clear c33
       try clear c35
       (try clear Z11_0 Z11_1 Y11_0 Y11_1)
       (try clear Z15_0 Z15_1 Y15_0 Y15_1)
       (try clear Z19_0 Z19_1 Y19_0 Y19_1)
       (try clear Z20_0 Z20_1 Y20_0 Y20_1)
       (try clear Z34_0 Z34_1 Y34_0 Y34_1)
       (try clear Z36_0 Z36_1 Y36_0 Y36_1)
       try clear p2
       obtain ⟨kq, x365000_20, x365001_20, HA, HJ20, BK358, BK364, HB⟩ := hcut
       cases kq with
       | zero => exact absurd HA.out (by simp [corebankref02_DivideP.j2])
       | succ kj20 =>
        have H := HA.out
        clear HA
        simp only [corebankref02_DivideP.j2] at H
        replace H := Option.bind_eq_some_iff.mp H
        obtain ⟨⟨t372, t373⟩, A370, H⟩ := H
        replace H : (if t373 = true then (some (t372, 0)) else (some (0, 6))) = some (r1, r2) := H
        have A37 := Aside0.mk A370
        clear A370
        by_cases c38 : t373 = true
        ·subst c38
         have H1 : (some (t372, 0)) = some (r1, r2) := by rw [if_pos rfl] at H; exact H
         clear H
         have H := H1
         clear H1
         simp only [Option.some.injEq, Prod.mk.injEq] at H
         obtain ⟨rfl, rfl⟩ := H
         have hnb39 := NB364_358.out
         have hnc39 := NB358_364.out
         obtain ⟨Z40_0, Z40_1, Y40_0, Y40_1⟩ := cz2_ BK364.out
         go_wp2_with (first | ((with_reducible refine gate_callee (f := 63) rfl ?_); refine goesL_ (some 53) rfl rfl Tryd.func63 (by kernel_rfl) rfl #[.agg #[.int .i64 x365000_20, .int .u64 x365001_20]] rfl ql_ ?_; (with_reducible refine (corebankref01_Int.calls x365000_20 x365001_20 t372 true _ A37.out).mono ?_); rintro e w41 ⟨rfl, hb⟩; refine ⟨_, rfl, ?_⟩; have n0_ := Aside0.mk (blk_below (qk_ BK358.out) hb); have n1_ := Aside0.mk (blk_below (qk_ BK364.out) hb); have n2_ := Aside0.mk (below_step (qb2_ GE358.out GE364.out HB.out) hb); clear BK358; clear BK364; clear HB; have BK358 := n0_; have BK364 := n1_; have HB := n2_; clear n0_ n1_ n2_; (try clear hb); (try clear hb2); (try clear hk); (try clear hi)))
         go_ret2
         exact ⟨qe_, qb2_ GE358.out GE364.out HB.out⟩
        ·replace c38 := Bool.eq_false_iff.mpr c38
         subst c38
         have H1 : (some (0, 6)) = some (r1, r2) := by rw [if_neg (show ¬ (false = true) by decide)] at H; exact H
         clear H
         have H := H1
         clear H1
         simp only [Option.some.injEq, Prod.mk.injEq] at H
         obtain ⟨rfl, rfl⟩ := H
         have hnb42 := NB364_358.out
         have hnc42 := NB358_364.out
         obtain ⟨Z43_0, Z43_1, Y43_0, Y43_1⟩ := cz2_ BK364.out
         go_wp2_with (first | ((with_reducible refine gate_callee (f := 63) rfl ?_); refine goesL_ (some 53) rfl rfl Tryd.func63 (by kernel_rfl) rfl #[.agg #[.int .i64 x365000_20, .int .u64 x365001_20]] rfl ql_ ?_; (with_reducible refine (corebankref01_Int.calls x365000_20 x365001_20 t372 false _ A37.out).mono ?_); rintro e w44 ⟨rfl, hb⟩; refine ⟨_, rfl, ?_⟩; have n0_ := Aside0.mk (blk_below (qk_ BK358.out) hb); have n1_ := Aside0.mk (blk_below (qk_ BK364.out) hb); have n2_ := Aside0.mk (below_step (qb2_ GE358.out GE364.out HB.out) hb); clear BK358; clear BK364; clear HB; have BK358 := n0_; have BK364 := n1_; have HB := n2_; clear n0_ n1_ n2_; (try clear hb); (try clear hb2); (try clear hk); (try clear hi)))
         go_ret2
         exact ⟨qe_, qb2_ GE358.out GE364.out HB.out⟩
def corebankref02_Divide.f (a0_0 a0_1 a1 a2 : Int) : Option (Int × Int) := if isW a0_0 a0_1 ∧ inI a1 then some (divR (wv a0_0 a0_1) a1 a2) else none
theorem corebankref02_Divide.eq {a b n m : Int} {r : Int × Int} (h : corebankref02_Divide.f a b n m = some r) : ∃ k, corebankref02_DivideP.f k a b n m = some r := by
 unfold corebankref02_Divide.f at h
 split at h
 ·rename_i q
  obtain ⟨⟨⟨a0, a1⟩, b0, b1⟩, n0, n1⟩ := id q
  injection h with h
  subst h
  refine ⟨3, ?_⟩
  unfold corebankref02_DivideP.f divR
  by_cases hn : n < 1
  ·rw [if_pos hn, if_pos (.inl hn)]
   simp only [corebankref02_DivideP.j0]
   rw [if_pos trivial]
  ·rw [if_neg hn]
   by_cases hm : m < 1 ∨ 6 < m
   ·rw [if_pos (.inr hm)]
    have hval : corebankref02_Valid.f m = some false := by
     unfold corebankref02_Valid.f
     split
     ·congr 1; apply decide_eq_false; omega
     ·rfl
    rw [hval]
    simp only [Option.bind_some, corebankref02_DivideP.j0]
    rfl
   ·rw [if_neg (by omega)]
    have hval : corebankref02_Valid.f m = some true := by
     unfold corebankref02_Valid.f
     rw [if_pos (by omega)]
     congr 1; apply decide_eq_true; omega
    rw [hval]
    simp only [Option.bind_some, corebankref02_DivideP.j0]
    rw [if_neg (by decide)]
    unfold corebankref01_Div.f
    rw [if_pos q, if_neg hn]
    simp only [Option.bind_some]
    have hv : wv a b = a * 18446744073709551616 + b := rfl
    have hsv : decide (a < 0) = decide (wv a b / n < 0) := by
     apply decide_eq_decide.mpr
     constructor
     ·intro ha; exact Int.ediv_neg_of_neg_of_pos (by omega) (by omega)
     ·intro hq
      have : ¬ 0 ≤ wv a b := fun h0 => by have := Int.ediv_nonneg h0 (show 0 ≤ n by omega); omega
      omega
    obtain ⟨qr, qs⟩ := quo_range (v := wv a b) (n := n) (by omega) (by omega)
    have r1 := Int.emod_lt_of_pos (wv a b) (show 0 < n by omega)
    rw [hsv]
    generalize wv a b = v at *
    have hwq : wv (v / n / 18446744073709551616) (v / n % 18446744073709551616) = v / n := by unfold wv; omega
    have hWq : isW (v / n / 18446744073709551616) (v / n % 18446744073709551616) := ⟨by unfold inI; omega, by unfold inU; omega⟩
    have hodd : (Int.tmod (v / n % 18446744073709551616) 2 == 1) = decide (v / n % 2 = 1) := by
     rw [Int.tmod_eq_emod_of_nonneg (by omega), Bool.eq_iff_iff, beq_iff_eq, decide_eq_true_eq]; omega
    rw [hodd]
    unfold rq
    by_cases hr : v % n > 0
    ·rw [if_pos hr]
     have qs' := qs hr
     unfold corebankref02_up.f
     rw [if_pos ⟨by omega, hr, r1, by omega⟩]
     simp only [Option.bind_some, corebankref02_DivideP.j1]
     by_cases hu : upB (decide (v / n < 0)) (decide (v / n % 2 = 1)) (v % n) n m = true
     ·have hup : (if 0 < v % n ∧ upB (decide (v / n < 0)) (decide (v / n % 2 = 1)) (v % n) n m = true then (1 : Int) else 0) = 1 := if_pos ⟨hr, hu⟩
      rw [if_pos hu, hup]
      have hO : corebankref01_Of.f 1 = some (0, 1) := by decide +kernel
      rw [hO]
      simp only [Option.bind_some]
      have hw1 : wv 0 1 = 1 := by decide
      unfold corebankref01_Add.f
      rw [if_pos ⟨hWq, by decide⟩, hwq, hw1, if_pos (by unfold in128; omega)]
      simp only [Option.bind_some, corebankref02_DivideP.j2]
      have hws : wv ((v / n + 1) / 18446744073709551616) ((v / n + 1) % 18446744073709551616) = v / n + 1 := by unfold wv; omega
      have hWs : isW ((v / n + 1) / 18446744073709551616) ((v / n + 1) % 18446744073709551616) := ⟨by unfold inI; omega, by unfold inU; omega⟩
      unfold corebankref01_Int.f
      rw [if_pos hWs, hws]
      simp only [Option.bind_some]
      split <;> rfl
     ·have hup : (if 0 < v % n ∧ upB (decide (v / n < 0)) (decide (v / n % 2 = 1)) (v % n) n m = true then (1 : Int) else 0) = 0 := if_neg (fun hc => hu hc.2)
      rw [if_neg hu, hup, Int.add_zero]
      simp only [corebankref02_DivideP.j2]
      unfold corebankref01_Int.f
      rw [if_pos hWq, hwq]
      simp only [Option.bind_some]
      split <;> rfl
    ·have hup : (if 0 < v % n ∧ upB (decide (v / n < 0)) (decide (v / n % 2 = 1)) (v % n) n m = true then (1 : Int) else 0) = 0 := if_neg (fun hc => hr hc.1)
     rw [if_neg hr, hup, Int.add_zero]
     simp only [corebankref02_DivideP.j1, corebankref02_DivideP.j2]
     rw [if_neg (by decide)]
     unfold corebankref01_Int.f
     rw [if_pos hWq, hwq]
     simp only [Option.bind_some]
     split <;> rfl
 ·cases h
theorem corebankref02_Divide.calls (a0_0 a0_1 a1 a2 r1 r2 : Int) (w : World) (h : corebankref02_Divide.f a0_0 a0_1 a1 a2 = some (r1, r2)) :
  Calls Tryd.prog 46 #[.agg #[.int .i64 a0_0, .int .u64 a0_1], .int .i64 a1, .int .i64 a2] w fun e w' => e = .returned (.tuple #[.int .i64 r1, .int .i64 r2]) ∧ Below w.heap.size w w' := by
 obtain ⟨k, h⟩ := corebankref02_Divide.eq h
 exact corebankref02_DivideP.calls k a0_0 a0_1 a1 a2 r1 r2 w h
mutual
def corebankref01_timesP.l0 : Nat → Int → Bool → Int → Int → Int → Int → Int → Option (Int × Int × Bool)
 | 0, _, _, _, _, _, _, _ => none
 | k + 1, x1, x7, x8, x375000, x375001, x377000, x377001 => if x8 < 64 then ((corebankref01_plus.f x377000 x377001 x377000 x377001).bind fun bt377 => (if x7 = true then (corebankref01_timesP.j1 k x1 bt377.2.2 x8 x375000 x375001 bt377.1 bt377.2.1) else (corebankref01_timesP.j1 k x1 false x8 x375000 x375001 bt377.1 bt377.2.1))) else (some (x377000, x377001, x7))
def corebankref01_timesP.j1 : Nat → Int → Bool → Int → Int → Int → Int → Int → Option (Int × Int × Bool)
 | 0, _, _, _, _, _, _, _ => none
 | k + 1, x1, x7, x8, x375000, x375001, x377000, x377001 => if (Go.bits .and .u64 x1 9223372036854775808) = 0 then (corebankref01_timesP.l0 k (IntKind.u64.wrap (x1 * 2)) x7 (wrap64 (x8 + 1)) x375000 x375001 x377000 x377001) else ((corebankref01_plus.f x377000 x377001 x375000 x375001).bind fun bt381 => (if x7 = true then (corebankref01_timesP.l0 k (IntKind.u64.wrap (x1 * 2)) bt381.2.2 (wrap64 (x8 + 1)) x375000 x375001 bt381.1 bt381.2.1) else (corebankref01_timesP.l0 k (IntKind.u64.wrap (x1 * 2)) false (wrap64 (x8 + 1)) x375000 x375001 bt381.1 bt381.2.1)))
end
def corebankref01_timesP.f (k : Nat) (a0_0 a0_1 a1 : Int) : Option (Int × Int × Bool) := corebankref01_timesP.l0 k a1 true 0 a0_0 a0_1 0 0
set_option maxHeartbeats 8000000 in
set_option maxRecDepth 100000 in
theorem corebankref01_timesP.calls (k : Nat) (a0_0 a0_1 a1 r1 r2 : Int) (r3 : Bool) (w : World) (h : corebankref01_timesP.f k a0_0 a0_1 a1 = some (r1, r2, r3)) :
  Calls Tryd.prog 75 #[.agg #[.int .u64 a0_0, .int .u64 a0_1], .int .u64 a1] w fun e w' => e = .returned (.tuple #[.agg #[.int .u64 r1, .int .u64 r2], .bool r3]) ∧ Below w.heap.size w w' := by
 have hu96 := Tryd.underlying96
 have HB := Aside0.mk (Below.refl w.heap.size w)
 have H : (corebankref01_timesP.l0 k a1 true 0 a0_0 a0_1 0 0) = some (r1, r2, r3) := h
 clear h
 have H' := Aside0.mk H
 clear H
 go_enter Tryd.func75, Tryd.ntmps75
 go_wp2_with (first | ((with_reducible refine gate_dst (N := 2) rfl ?_); refine be_ (N := 2) (cs := #[.int .u64 a0_0, .int .u64 a0_1]) (t := 96) ?_; intro gb374 hg w3 hbox hb; have n0_ := Aside0.mk (below_step (qb_ HB.out) hb); have n1_ := Aside0.mk (hbox); have n2_ := Aside0.mk (bz_ hg (qb_ HB.out) : w.heap.size ≤ gb374); have n3_ := n2_; clear HB; have HB := n0_; have BK374 := n1_; have GW374 := n2_; have GE374 := n3_; clear n0_ n1_ n2_ n3_; clear hb hbox hg) | ((with_reducible refine gate_dst (N := 4) rfl ?_); refine be_ (N := 4) (cs := #[.int .u64 0, .int .u64 0]) (t := 96) ?_; intro gb375 hg w4 hbox hb; have n0_ := Aside0.mk (blk_below (qk_ BK374.out) hb); have n1_ := Aside0.mk (below_step (qb1_ GE374.out HB.out) hb); have n2_ := Aside0.mk (hbox); have n3_ := Aside0.mk (bz_ hg (qb1_ GE374.out HB.out) : w.heap.size ≤ gb375); have n4_ := n3_; have n5_ := Aside0.mk (nl_ hg (qk_ BK374.out) : gb374 ≠ gb375); have n6_ := Aside0.mk (ng_ hg (qk_ BK374.out) : gb375 ≠ gb374); clear BK374; clear HB; have BK374 := n0_; have HB := n1_; have BK375 := n2_; have GW375 := n3_; have GE375 := n4_; have NB374_375 := n5_; have NB375_374 := n6_; clear n0_ n1_ n2_ n3_ n4_ n5_ n6_; clear hb hbox hg) | ((with_reducible refine gate_dst (N := 6) rfl ?_); refine be_ (N := 6) (cs := #[.int .u64 0, .int .u64 0]) (t := 96) ?_; intro gb376 hg w5 hbox hb; have n0_ := Aside0.mk (blk_below (qk_ BK374.out) hb); have n1_ := Aside0.mk (blk_below (qk_ BK375.out) hb); have n2_ := Aside0.mk (below_step (qb2_ GE374.out GE375.out HB.out) hb); have n3_ := Aside0.mk (hbox); have n4_ := Aside0.mk (bz_ hg (qb2_ GE374.out GE375.out HB.out) : w.heap.size ≤ gb376); have n5_ := n4_; have n6_ := Aside0.mk (nl_ hg (qk_ BK374.out) : gb374 ≠ gb376); have n7_ := Aside0.mk (ng_ hg (qk_ BK374.out) : gb376 ≠ gb374); have n8_ := Aside0.mk (nl_ hg (qk_ BK375.out) : gb375 ≠ gb376); have n9_ := Aside0.mk (ng_ hg (qk_ BK375.out) : gb376 ≠ gb375); clear BK374; clear BK375; clear HB; have BK374 := n0_; have BK375 := n1_; have HB := n2_; have BK376 := n3_; have GW376 := n4_; have GE376 := n5_; have NB374_376 := n6_; have NB376_374 := n7_; have NB375_376 := n8_; have NB376_375 := n9_; clear n0_ n1_ n2_ n3_ n4_ n5_ n6_ n7_ n8_ n9_; clear hb hbox hg; have hnb6 := NB376_374.out; have hnc6 := NB374_376.out; have hnb7 := NB376_375.out; have hnc7 := NB375_376.out; obtain ⟨Z8_0, Z8_1, Y8_0, Y8_1⟩ := cz2_ BK376.out))
 go_loopg [1, 7, 8] k (fun kq v1 v7 v8 w' => ∃ (x1_1 : Int) (x7_1 : Bool) (x8_1 x377000_1 x377001_1 : Int), v1 = .int .u64 x1_1 ∧ v7 = .bool x7_1 ∧ v8 = .int .i64 x8_1 ∧ Aside0 (corebankref01_timesP.l0 kq x1_1 x7_1 x8_1 a0_0 a0_1 x377000_1 x377001_1 = some (r1, r2, r3)) ∧ Aside0 (kq ≤ k) ∧ Aside0 (w'.heap[gb374]? = some (.cells #[.int .u64 a0_0, .int .u64 a0_1] 96 (0, 0))) ∧ Aside0 (w'.heap[gb375]? = some (.cells #[.int .u64 0, .int .u64 0] 96 (0, 0))) ∧ Aside0 (w'.heap[gb376]? = some (.cells #[.int .u64 x377000_1, .int .u64 x377001_1] 96 (0, 0))) ∧ Aside0 (Below w.heap.size w w'))
 case atStart => exact ⟨(a1), (true), (0), (0), (0), qs_, qs_, qs_, H', ⟨Nat.le_refl _⟩, ⟨qff_ NB374_376.out NB374_376.out BK374.out⟩, ⟨qff_ NB375_376.out NB375_376.out BK375.out⟩, ⟨qpp_ #[.int .u64 0, .int .u64 0] 1 #[.int .u64 0, .int .u64 0] 0 BK376.out⟩, ⟨qb3_ GE374.out GE375.out GE376.out HB.out⟩⟩
 case round =>
  clear H'
  try clear p2
  try clear c6
  try clear c7
  (try clear Z8_0 Z8_1 Y8_0 Y8_1)
  obtain ⟨x1_1, x7_1, x8_1, x377000_1, x377001_1, rfl, rfl, rfl, HA, HK1, BK374, BK375, BK376, HB⟩ := hrel
  cases gk with
  | zero => exact absurd HA.out (by simp [corebankref01_timesP.l0])
  | succ k1 =>
   have H := HA.out
   clear HA
   simp only [corebankref01_timesP.l0] at H
   by_cases c9 : x8_1 < 64
   ·rw [if_pos c9] at H
    have c9b0 : decide (x8_1 < 64) = true := decide_eq_true c9
    clear c9
    replace H := Option.bind_eq_some_iff.mp H
    obtain ⟨⟨t377, t378, t379⟩, A100, H⟩ := H
    replace H : (if x7_1 = true then (corebankref01_timesP.j1 k1 x1_1 t379 x8_1 a0_0 a0_1 t377 t378) else (corebankref01_timesP.j1 k1 x1_1 false x8_1 a0_0 a0_1 t377 t378)) = some (r1, r2, r3) := H
    have A10 := Aside0.mk A100
    clear A100
    have HC11 := Aside0.mk H
    clear H
    have hnb12 := NB376_374.out
    have hnc12 := NB374_376.out
    have hnb13 := NB376_375.out
    have hnc13 := NB375_376.out
    obtain ⟨Z14_0, Z14_1, Y14_0, Y14_1⟩ := cz2_ BK376.out
    go_upto_region 8 with (first | ((with_reducible refine gate_callee (f := 72) rfl ?_); refine goesL_ (some 19) rfl rfl Tryd.func72 (by kernel_rfl) rfl #[.agg #[.int .u64 x377000_1, .int .u64 x377001_1], .agg #[.int .u64 x377000_1, .int .u64 x377001_1]] rfl ql_ ?_; (with_reducible refine (corebankref01_plus.calls x377000_1 x377001_1 x377000_1 x377001_1 t377 t378 t379 _ A10.out).mono ?_); rintro e w15 ⟨rfl, hb⟩; refine ⟨_, rfl, ?_⟩; have n0_ := Aside0.mk (blk_below (qk_ BK374.out) hb); have n1_ := Aside0.mk (blk_below (qk_ BK375.out) hb); have n2_ := Aside0.mk (blk_below (qk_ BK376.out) hb); have n3_ := Aside0.mk (below_step (qb3_ GE374.out GE375.out GE376.out HB.out) hb); clear BK374; clear BK375; clear BK376; clear HB; have BK374 := n0_; have BK375 := n1_; have BK376 := n2_; have HB := n3_; clear n0_ n1_ n2_ n3_; (try clear hb); (try clear hb2); (try clear hk); (try clear hi)) | ((with_reducible refine gate_dst (N := 9) rfl ?_); refine be_ (N := 9) (cs := #[.int .u64 0, .int .u64 0]) (t := 96) ?_; intro gb380 hg w16 hbox hb; have n0_ := Aside0.mk (blk_below (qk_ BK374.out) hb); have n1_ := Aside0.mk (blk_below (qk_ BK375.out) hb); have n2_ := Aside0.mk (blk_below (qk_ BK376.out) hb); have n3_ := Aside0.mk (below_step (qb3_ GE374.out GE375.out GE376.out HB.out) hb); have n4_ := Aside0.mk (hbox); have n5_ := Aside0.mk (bz_ hg (qb3_ GE374.out GE375.out GE376.out HB.out) : w.heap.size ≤ gb380); have n6_ := n5_; have n7_ := Aside0.mk (nl_ hg (qk_ BK374.out) : gb374 ≠ gb380); have n8_ := Aside0.mk (ng_ hg (qk_ BK374.out) : gb380 ≠ gb374); have n9_ := Aside0.mk (nl_ hg (qk_ BK375.out) : gb375 ≠ gb380); have n10_ := Aside0.mk (ng_ hg (qk_ BK375.out) : gb380 ≠ gb375); have n11_ := Aside0.mk (nl_ hg (qk_ BK376.out) : gb376 ≠ gb380); have n12_ := Aside0.mk (ng_ hg (qk_ BK376.out) : gb380 ≠ gb376); clear BK374; clear BK375; clear BK376; clear HB; have BK374 := n0_; have BK375 := n1_; have BK376 := n2_; have HB := n3_; have BK380 := n4_; have GW380 := n5_; have GE380 := n6_; have NB374_380 := n7_; have NB380_374 := n8_; have NB375_380 := n9_; have NB380_375 := n10_; have NB376_380 := n11_; have NB380_376 := n12_; clear n0_ n1_ n2_ n3_ n4_ n5_ n6_ n7_ n8_ n9_ n10_ n11_ n12_; clear hb hbox hg; have hnb17 := NB380_374.out; have hnc17 := NB374_380.out; have hnb18 := NB380_375.out; have hnc18 := NB375_380.out; have hnb19 := NB380_376.out; have hnc19 := NB376_380.out; obtain ⟨Z20_0, Z20_1, Y20_0, Y20_1⟩ := cz2_ BK380.out; obtain ⟨Z21_0, Z21_1, Y21_0, Y21_1⟩ := cz2_ BK376.out))
    (try simp only [Act.put, List.setIfInBounds_toArray, List.set_cons_zero, List.set_cons_succ])
    go_cut [7] (fun v7 wc => ∃ (kq : Nat) (x7_10 : Bool), v7 = .bool x7_10 ∧ Aside0 (corebankref01_timesP.j1 kq x1_1 x7_10 x8_1 a0_0 a0_1 t377 t378 = some (r1, r2, r3)) ∧ Aside0 (kq ≤ k1) ∧ Aside0 (wc.heap[gb374]? = some (.cells #[.int .u64 a0_0, .int .u64 a0_1] 96 (0, 0))) ∧ Aside0 (wc.heap[gb375]? = some (.cells #[.int .u64 0, .int .u64 0] 96 (0, 0))) ∧ Aside0 (wc.heap[gb376]? = some (.cells #[.int .u64 t377, .int .u64 t378] 96 (0, 0))) ∧ Aside0 (wc.heap[gb380]? = some (.cells #[.int .u64 t377, .int .u64 t378] 96 (0, 0))) ∧ Aside0 (Below w.heap.size w wc))
    case first =>
     have H := HC11.out
     clear HC11
     by_cases c22 : x7_1 = true
     ·subst c22
      have H1 : (corebankref01_timesP.j1 k1 x1_1 t379 x8_1 a0_0 a0_1 t377 t378) = some (r1, r2, r3) := by rw [if_pos rfl] at H; exact H
      clear H
      have H := H1
      clear H1
      have H' := Aside0.mk H
      clear H
      go_wp2
      go_meet
      case rel => exact ⟨_, (t379), qs_, H', ⟨by have := HK1.out; first | omega | exact Nat.le_refl _⟩, ⟨qffff_ NB374_376.out NB374_376.out NB374_380.out NB374_380.out BK374.out⟩, ⟨qffff_ NB375_376.out NB375_376.out NB375_380.out NB375_380.out BK375.out⟩, ⟨qppff_ #[.int .u64 t377, .int .u64 x377001_1] 1 #[.int .u64 x377000_1, .int .u64 x377001_1] 0 NB376_380.out NB376_380.out BK376.out⟩, ⟨qffpp_ NB380_376.out NB380_376.out #[.int .u64 t377, .int .u64 0] 1 #[.int .u64 0, .int .u64 0] 0 BK380.out⟩, ⟨qb4_ GE374.out GE375.out GE376.out GE380.out HB.out⟩⟩
     ·replace c22 := Bool.eq_false_iff.mpr c22
      subst c22
      have H1 : (corebankref01_timesP.j1 k1 x1_1 false x8_1 a0_0 a0_1 t377 t378) = some (r1, r2, r3) := by rw [if_neg (show ¬ (false = true) by decide)] at H; exact H
      clear H
      have H := H1
      clear H1
      have H' := Aside0.mk H
      clear H
      go_wp2
      go_meet
      case rel => exact ⟨_, (false), qs_, H', ⟨by have := HK1.out; first | omega | exact Nat.le_refl _⟩, ⟨qffff_ NB374_376.out NB374_376.out NB374_380.out NB374_380.out BK374.out⟩, ⟨qffff_ NB375_376.out NB375_376.out NB375_380.out NB375_380.out BK375.out⟩, ⟨qppff_ #[.int .u64 t377, .int .u64 x377001_1] 1 #[.int .u64 x377000_1, .int .u64 x377001_1] 0 NB376_380.out NB376_380.out BK376.out⟩, ⟨qffpp_ NB380_376.out NB380_376.out #[.int .u64 t377, .int .u64 0] 1 #[.int .u64 0, .int .u64 0] 0 BK380.out⟩, ⟨qb4_ GE374.out GE375.out GE376.out GE380.out HB.out⟩⟩
    case rest =>
     clear HC11
     try clear c1
     try clear c2
     try clear p2
     try clear c6
     try clear c7
     try clear c9
     try clear c9b0
     try clear c12
     try clear c13
     try clear c17
     try clear c18
     try clear c19
     try clear c22
     (try clear Z14_0 Z14_1 Y14_0 Y14_1)
     (try clear Z20_0 Z20_1 Y20_0 Y20_1)
     (try clear Z21_0 Z21_1 Y21_0 Y21_1)
     (try clear Z8_0 Z8_1 Y8_0 Y8_1)
     try clear p2
     obtain ⟨kq, x7_10, rfl, HA, HJ10, BK374, BK375, BK376, BK380, HB⟩ := hcut
     cases kq with
     | zero => exact absurd HA.out (by simp [corebankref01_timesP.j1])
     | succ kj10 =>
      have H := HA.out
      clear HA
      simp only [corebankref01_timesP.j1] at H
      by_cases c23 : (Go.bits .and .u64 x1_1 9223372036854775808) = 0
      ·rw [if_pos c23] at H
       have c23b0 : ((Go.bits .and .u64 x1_1 9223372036854775808) == 0) = true := beq_iff_eq.mpr c23
       have c23b1 : ((Go.bits .and .u64 x1_1 9223372036854775808) != 0) = false := bne_eq_false_iff_eq.mpr c23
       clear c23
       have H' := Aside0.mk H
       clear H
       go_wp2
       go_roundg kj10
       case measure => have := HK1.out; have := HJ10.out; omega
       case rel => exact ⟨(IntKind.u64.wrap (x1_1 * 2)), (x7_10), (wrap64 (x8_1 + 1)), (t377), (t378), qs_, qs_, qs_, H', ⟨by have := HK1.out; have := HJ10.out; omega⟩, ⟨qk_ BK374.out⟩, ⟨qk_ BK375.out⟩, ⟨qk_ BK376.out⟩, ⟨qb4_ GE374.out GE375.out GE376.out GE380.out HB.out⟩⟩
      ·rw [if_neg c23] at H
       have c23b0 : ((Go.bits .and .u64 x1_1 9223372036854775808) == 0) = false := beq_eq_false_iff_ne.mpr c23
       have c23b1 : ((Go.bits .and .u64 x1_1 9223372036854775808) != 0) = true := bne_iff_ne.mpr c23
       replace H := Option.bind_eq_some_iff.mp H
       obtain ⟨⟨t381, t382, t383⟩, A240, H⟩ := H
       replace H : (if x7_10 = true then (corebankref01_timesP.l0 kj10 (IntKind.u64.wrap (x1_1 * 2)) t383 (wrap64 (x8_1 + 1)) a0_0 a0_1 t381 t382) else (corebankref01_timesP.l0 kj10 (IntKind.u64.wrap (x1_1 * 2)) false (wrap64 (x8_1 + 1)) a0_0 a0_1 t381 t382)) = some (r1, r2, r3) := H
       have A24 := Aside0.mk A240
       clear A240
       by_cases c25 : x7_10 = true
       ·subst c25
        have H1 : (corebankref01_timesP.l0 kj10 (IntKind.u64.wrap (x1_1 * 2)) t383 (wrap64 (x8_1 + 1)) a0_0 a0_1 t381 t382) = some (r1, r2, r3) := by rw [if_pos rfl] at H; exact H
        clear H
        have H := H1
        clear H1
        have H' := Aside0.mk H
        clear H
        have hnb26 := NB376_374.out
        have hnc26 := NB374_376.out
        have hnb27 := NB376_375.out
        have hnc27 := NB375_376.out
        have hnb28 := NB376_380.out
        have hnc28 := NB380_376.out
        obtain ⟨Z29_0, Z29_1, Y29_0, Y29_1⟩ := cz2_ BK376.out
        have hnb30 := NB374_375.out
        have hnc30 := NB375_374.out
        have hnb31 := NB374_380.out
        have hnc31 := NB380_374.out
        obtain ⟨Z32_0, Z32_1, Y32_0, Y32_1⟩ := cz2_ BK374.out
        go_wp2_with (first | ((with_reducible refine gate_callee (f := 72) rfl ?_); refine goesL_ (some 33) rfl rfl Tryd.func72 (by kernel_rfl) rfl #[.agg #[.int .u64 t377, .int .u64 t378], .agg #[.int .u64 a0_0, .int .u64 a0_1]] rfl ql_ ?_; (with_reducible refine (corebankref01_plus.calls t377 t378 a0_0 a0_1 t381 t382 t383 _ A24.out).mono ?_); rintro e w33 ⟨rfl, hb⟩; refine ⟨_, rfl, ?_⟩; have n0_ := Aside0.mk (blk_below (qk_ BK374.out) hb); have n1_ := Aside0.mk (blk_below (qk_ BK375.out) hb); have n2_ := Aside0.mk (blk_below (qk_ BK376.out) hb); have n3_ := Aside0.mk (blk_below (qk_ BK380.out) hb); have n4_ := Aside0.mk (below_step (qb4_ GE374.out GE375.out GE376.out GE380.out HB.out) hb); clear BK374; clear BK375; clear BK376; clear BK380; clear HB; have BK374 := n0_; have BK375 := n1_; have BK376 := n2_; have BK380 := n3_; have HB := n4_; clear n0_ n1_ n2_ n3_ n4_; (try clear hb); (try clear hb2); (try clear hk); (try clear hi); have hnb34 := NB380_375.out; have hnc34 := NB375_380.out; obtain ⟨Z35_0, Z35_1, Y35_0, Y35_1⟩ := cz2_ BK380.out; obtain ⟨Z36_0, Z36_1, Y36_0, Y36_1⟩ := cz2_ BK376.out))
        go_roundg kj10
        case measure => have := HK1.out; have := HJ10.out; omega
        case rel => exact ⟨(IntKind.u64.wrap (x1_1 * 2)), (t383), (wrap64 (x8_1 + 1)), (t381), (t382), qs_, qs_, qs_, H', ⟨by have := HK1.out; have := HJ10.out; omega⟩, ⟨qffff_ NB374_376.out NB374_376.out NB374_380.out NB374_380.out BK374.out⟩, ⟨qffff_ NB375_376.out NB375_376.out NB375_380.out NB375_380.out BK375.out⟩, ⟨qppff_ #[.int .u64 t381, .int .u64 t378] 1 #[.int .u64 t377, .int .u64 t378] 0 NB376_380.out NB376_380.out BK376.out⟩, ⟨qb4_ GE374.out GE375.out GE376.out GE380.out HB.out⟩⟩
       ·replace c25 := Bool.eq_false_iff.mpr c25
        subst c25
        have H1 : (corebankref01_timesP.l0 kj10 (IntKind.u64.wrap (x1_1 * 2)) false (wrap64 (x8_1 + 1)) a0_0 a0_1 t381 t382) = some (r1, r2, r3) := by rw [if_neg (show ¬ (false = true) by decide)] at H; exact H
        clear H
        have H := H1
        clear H1
        have H' := Aside0.mk H
        clear H
        have hnb37 := NB376_374.out
        have hnc37 := NB374_376.out
        have hnb38 := NB376_375.out
        have hnc38 := NB375_376.out
        have hnb39 := NB376_380.out
        have hnc39 := NB380_376.out
        obtain ⟨Z40_0, Z40_1, Y40_0, Y40_1⟩ := cz2_ BK376.out
        have hnb41 := NB374_375.out
        have hnc41 := NB375_374.out
        have hnb42 := NB374_380.out
        have hnc42 := NB380_374.out
        obtain ⟨Z43_0, Z43_1, Y43_0, Y43_1⟩ := cz2_ BK374.out
        go_wp2_with (first | ((with_reducible refine gate_callee (f := 72) rfl ?_); refine goesL_ (some 33) rfl rfl Tryd.func72 (by kernel_rfl) rfl #[.agg #[.int .u64 t377, .int .u64 t378], .agg #[.int .u64 a0_0, .int .u64 a0_1]] rfl ql_ ?_; (with_reducible refine (corebankref01_plus.calls t377 t378 a0_0 a0_1 t381 t382 t383 _ A24.out).mono ?_); rintro e w44 ⟨rfl, hb⟩; refine ⟨_, rfl, ?_⟩; have n0_ := Aside0.mk (blk_below (qk_ BK374.out) hb); have n1_ := Aside0.mk (blk_below (qk_ BK375.out) hb); have n2_ := Aside0.mk (blk_below (qk_ BK376.out) hb); have n3_ := Aside0.mk (blk_below (qk_ BK380.out) hb); have n4_ := Aside0.mk (below_step (qb4_ GE374.out GE375.out GE376.out GE380.out HB.out) hb); clear BK374; clear BK375; clear BK376; clear BK380; clear HB; have BK374 := n0_; have BK375 := n1_; have BK376 := n2_; have BK380 := n3_; have HB := n4_; clear n0_ n1_ n2_ n3_ n4_; (try clear hb); (try clear hb2); (try clear hk); (try clear hi); have hnb45 := NB380_375.out; have hnc45 := NB375_380.out; obtain ⟨Z46_0, Z46_1, Y46_0, Y46_1⟩ := cz2_ BK380.out; obtain ⟨Z47_0, Z47_1, Y47_0, Y47_1⟩ := cz2_ BK376.out))
        go_roundg kj10
        case measure => have := HK1.out; have := HJ10.out; omega
        case rel => exact ⟨(IntKind.u64.wrap (x1_1 * 2)), (false), (wrap64 (x8_1 + 1)), (t381), (t382), qs_, qs_, qs_, H', ⟨by have := HK1.out; have := HJ10.out; omega⟩, ⟨qffff_ NB374_376.out NB374_376.out NB374_380.out NB374_380.out BK374.out⟩, ⟨qffff_ NB375_376.out NB375_376.out NB375_380.out NB375_380.out BK375.out⟩, ⟨qppff_ #[.int .u64 t381, .int .u64 t378] 1 #[.int .u64 t377, .int .u64 t378] 0 NB376_380.out NB376_380.out BK376.out⟩, ⟨qb4_ GE374.out GE375.out GE376.out GE380.out HB.out⟩⟩
   ·rw [if_neg c9] at H
    have c9b0 : decide (x8_1 < 64) = false := decide_eq_false c9
    clear c9
    simp only [Option.some.injEq, Prod.mk.injEq] at H
    obtain ⟨rfl, rfl, rfl⟩ := H
    have hnb48 := NB376_374.out
    have hnc48 := NB374_376.out
    have hnb49 := NB376_375.out
    have hnc49 := NB375_376.out
    obtain ⟨Z50_0, Z50_1, Y50_0, Y50_1⟩ := cz2_ BK376.out
    have hnb51 := NB375_374.out
    have hnc51 := NB374_375.out
    obtain ⟨Z52_0, Z52_1, Y52_0, Y52_1⟩ := cz2_ BK375.out
    go_wp2
    refine bodyPost_ret (results_ct rfl _ _ gb375 96 #[.int .u64 x377000_1, .int .u64 x377001_1] (0, 0) _ rfl (qpp_ #[.int .u64 x377000_1, .int .u64 0] 1 #[.int .u64 0, .int .u64 0] 0 BK375.out) Tryd.underlying96 rfl (by kernel_rfl)) rfl ?_
    exact ⟨qe_, qb3_ GE374.out GE375.out GE376.out HB.out⟩
def corebankref01_times.f (a0_0 a0_1 a1 : Int) : Option (Int × Int × Bool) :=
 if (inU a0_0 ∧ inU a0_1) ∧ inU a1 then
  some (wv a0_0 a0_1 * a1 / 18446744073709551616 % 18446744073709551616, wv a0_0 a0_1 * a1 % 18446744073709551616, decide (wv a0_0 a0_1 * a1 < 340282366920938463463374607431768211456)) else none
theorem plus_add (h0 l0 h1 l1 A B : Int) (i0 : inU h0) (i1 : inU l0) (j0 : inU h1) (j1 : inU l1) (hA : wv h0 l0 = A) (hB : wv h1 l1 = B) :
  corebankref01_plus.f h0 l0 h1 l1 = some ((A + B) / 18446744073709551616 % 18446744073709551616, (A + B) % 18446744073709551616, decide (A + B < 340282366920938463463374607431768211456)) := by
 unfold corebankref01_plus.f
 rw [if_pos ⟨⟨i0, i1⟩, j0, j1⟩, hA, hB]
theorem inU_mod (x : Int) : inU (x % 18446744073709551616) := by unfold inU; omega
theorem wv_mod (V : Int) : wv (V / 18446744073709551616 % 18446744073709551616) (V % 18446744073709551616) = V % 340282366920938463463374607431768211456 := by unfold wv; omega
theorem times_loop (mh ml m : Int) (i0 : inU mh) (i1 : inU ml) (hm : wv mh ml = m) (n : Nat) :
  ∀ (x T i : Int), 0 ≤ x → x < 18446744073709551616 → 0 ≤ T → 0 ≤ i → 64 - i = n →
   corebankref01_timesP.l0 (2 * n + 1) x (decide (m * T < 340282366920938463463374607431768211456)) i mh ml (m * T / 18446744073709551616 % 18446744073709551616) (m * T % 18446744073709551616) =
    some (m * (T * 2 ^ n + x * 2 ^ n / 18446744073709551616) / 18446744073709551616 % 18446744073709551616, m * (T * 2 ^ n + x * 2 ^ n / 18446744073709551616) % 18446744073709551616, decide (m * (T * 2 ^ n + x * 2 ^ n / 18446744073709551616) < 340282366920938463463374607431768211456)) := by
 have m0 : 0 ≤ m := by rw [← hm]; unfold wv; unfold inU at i0 i1; omega
 have m1 : m < 340282366920938463463374607431768211456 := by rw [← hm]; unfold wv; unfold inU at i0 i1; omega
 induction n with
 | zero =>
  intro x T i x0 x1 T0 j0 j1
  simp only [Nat.mul_zero, Nat.zero_add, corebankref01_timesP.l0]
  rw [if_neg (by omega)]
  have : T * 2 ^ 0 + x * 2 ^ 0 / 18446744073709551616 = T := by rw [Int.pow_zero, Int.mul_one, Int.mul_one, Int.ediv_eq_zero_of_lt x0 x1]; omega
  rw [this]
 | succ n ih =>
  intro x T i x0 x1 T0 j0 j1
  have q0 : 0 ≤ m * T := Int.mul_nonneg m0 T0
  rw [show 2 * (n + 1) + 1 = (2 * n + 1 + 1) + 1 by omega, corebankref01_timesP.l0, if_pos (by omega),
   plus_add _ _ _ _ _ _ (inU_mod _) (inU_mod _) (inU_mod _) (inU_mod _) (wv_mod (m * T)) (wv_mod (m * T))]
  simp only [Option.bind_some]
  have d1 : (m * T % 340282366920938463463374607431768211456 + m * T % 340282366920938463463374607431768211456) / 18446744073709551616 % 18446744073709551616 = m * (2 * T) / 18446744073709551616 % 18446744073709551616 := by
   rw [Int.mul_left_comm]; omega
  have d2 : (m * T % 340282366920938463463374607431768211456 + m * T % 340282366920938463463374607431768211456) % 18446744073709551616 = m * (2 * T) % 18446744073709551616 := by
   rw [Int.mul_left_comm]; omega
  have d3 : (if decide (m * T < 340282366920938463463374607431768211456) = true then decide (m * T % 340282366920938463463374607431768211456 + m * T % 340282366920938463463374607431768211456 < 340282366920938463463374607431768211456) else false) = decide (m * (2 * T) < 340282366920938463463374607431768211456) := by
   rw [Int.mul_left_comm]
   split
   ·rename_i hc
    have := of_decide_eq_true hc
    apply decide_eq_decide.mpr; omega
   ·rename_i hc
    have : ¬ m * T < 340282366920938463463374607431768211456 := fun h => hc (decide_eq_true h)
    symm; apply decide_eq_false; omega
  -- both ways through the flag come to one state
  have both : ∀ (F : Bool → Option (Int × Int × Bool)), (if decide (m * T < 340282366920938463463374607431768211456) = true then F (decide (m * T % 340282366920938463463374607431768211456 + m * T % 340282366920938463463374607431768211456 < 340282366920938463463374607431768211456)) else F false) = F (decide (m * (2 * T) < 340282366920938463463374607431768211456)) := by
   intro F
   rw [← d3]; split <;> rfl
  rw [d1, d2]
  rw [both (fun b => corebankref01_timesP.j1 (2 * n + 1 + 1) x b i mh ml (m * (2 * T) / 18446744073709551616 % 18446744073709551616) (m * (2 * T) % 18446744073709551616))]
  simp only [corebankref01_timesP.j1]
  have p0 : 0 < (2 : Int) ^ n := Int.pow_pos (by decide)
  have hi : wrap64 (i + 1) = i + 1 := i64_id _ (by omega) (by omega)
  have hf : T * 2 ^ (n + 1) = 2 * T * 2 ^ n := by rw [Int.pow_succ]; grind
  have hx : x * 2 ^ (n + 1) = 2 * x * 2 ^ n := by rw [Int.pow_succ]; grind
  rw [hf, hx]
  by_cases ht : x < 9223372036854775808
  ·rw [if_pos ((andTop x x0 x1).2 ht), hi, u64_id (x * 2) (by omega) (by omega), ih (x * 2) (2 * T) (i + 1) (by omega) (by omega) (by omega) (by omega) (by omega), Int.mul_comm x 2]
  ·rw [if_neg (fun hc => ht ((andTop x x0 x1).1 hc)), plus_add _ _ _ _ _ _ (inU_mod _) (inU_mod _) i0 i1 (wv_mod (m * (2 * T))) hm]
   simp only [Option.bind_some]
   have hx2 : IntKind.u64.wrap (x * 2) = 2 * x - 18446744073709551616 := by rw [IntKind.wrap_u64]; omega
   have e1 : m * (2 * T + 1) = m * (2 * T) + m := by rw [Int.mul_add, Int.mul_one]
   have q1 : 0 ≤ m * (2 * T) := Int.mul_nonneg m0 (by omega)
   have f1 : (m * (2 * T) % 340282366920938463463374607431768211456 + m) / 18446744073709551616 % 18446744073709551616 = m * (2 * T + 1) / 18446744073709551616 % 18446744073709551616 := by rw [e1]; omega
   have f2 : (m * (2 * T) % 340282366920938463463374607431768211456 + m) % 18446744073709551616 = m * (2 * T + 1) % 18446744073709551616 := by rw [e1]; omega
   have f3 : (if decide (m * (2 * T) < 340282366920938463463374607431768211456) = true then decide (m * (2 * T) % 340282366920938463463374607431768211456 + m < 340282366920938463463374607431768211456) else false) = decide (m * (2 * T + 1) < 340282366920938463463374607431768211456) := by
    rw [e1]
    split
    ·rename_i hc
     have := of_decide_eq_true hc
     apply decide_eq_decide.mpr; omega
    ·rename_i hc
     have : ¬ m * (2 * T) < 340282366920938463463374607431768211456 := fun h => hc (decide_eq_true h)
     symm; apply decide_eq_false; omega
   have both2 : ∀ (F : Bool → Option (Int × Int × Bool)), (if decide (m * (2 * T) < 340282366920938463463374607431768211456) = true then F (decide (m * (2 * T) % 340282366920938463463374607431768211456 + m < 340282366920938463463374607431768211456)) else F false) = F (decide (m * (2 * T + 1) < 340282366920938463463374607431768211456)) := by
    intro F
    rw [← f3]; split <;> rfl
   rw [f1, f2, hi, hx2, both2 (fun b => corebankref01_timesP.l0 (2 * n + 1) (2 * x - 18446744073709551616) b (i + 1) mh ml (m * (2 * T + 1) / 18446744073709551616 % 18446744073709551616) (m * (2 * T + 1) % 18446744073709551616)),
    ih (2 * x - 18446744073709551616) (2 * T + 1) (i + 1) (by omega) (by omega) (by omega) (by omega) (by omega)]
   have g : (2 * T + 1) * 2 ^ n + (2 * x - 18446744073709551616) * 2 ^ n / 18446744073709551616 = 2 * T * 2 ^ n + 2 * x * 2 ^ n / 18446744073709551616 := by
    rw [Int.add_mul, Int.one_mul, Int.sub_mul]
    generalize (2 : Int) ^ n = p at *
    generalize 2 * x * p = y
    omega
   rw [g]
theorem corebankref01_times.eq {a b c : Int} {r : Int × Int × Bool} (h : corebankref01_times.f a b c = some r) : ∃ k, corebankref01_timesP.f k a b c = some r := by
 unfold corebankref01_times.f at h
 split at h
 ·rename_i q
  obtain ⟨⟨a0, b0⟩, c0, c1⟩ := q
  injection h with h
  subst h
  refine ⟨2 * 64 + 1, ?_⟩
  unfold corebankref01_timesP.f
  have := times_loop a b (wv a b) a0 b0 rfl 64 c 0 0 c0 (by omega) (by omega) (by omega) (by omega)
  rw [show c * 2 ^ 64 / 18446744073709551616 = c from Int.mul_ediv_cancel c (by decide), Int.zero_mul, Int.zero_add] at this
  simpa using this
 ·cases h
theorem corebankref01_times.calls (a0_0 a0_1 a1 r1 r2 : Int) (r3 : Bool) (w : World) (h : corebankref01_times.f a0_0 a0_1 a1 = some (r1, r2, r3)) :
  Calls Tryd.prog 75 #[.agg #[.int .u64 a0_0, .int .u64 a0_1], .int .u64 a1] w fun e w' => e = .returned (.tuple #[.agg #[.int .u64 r1, .int .u64 r2], .bool r3]) ∧ Below w.heap.size w w' := by
 obtain ⟨k, h⟩ := corebankref01_times.eq h
 exact corebankref01_timesP.calls k a0_0 a0_1 a1 r1 r2 r3 w h
def corebankref01_sizeP.f (a0 : Int) : Option (Int) := if a0 < 0 then (some (IntKind.u64.wrap ((Go.bits .xor .u64 IntKind.u64.max (IntKind.u64.wrap (a0))) + 1))) else (some (IntKind.u64.wrap (a0)))
set_option maxHeartbeats 8000000 in
set_option maxRecDepth 100000 in
theorem corebankref01_sizeP.calls (a0 r : Int) (w : World) (h : corebankref01_sizeP.f a0 = some r) :
  Calls Tryd.prog 76 #[.int .i64 a0] w fun e w' => e = .returned (.int .u64 r) ∧ Drawn0 w w' := by
 have hsgn : IntKind.u64.signed = false := rfl
 have H : (if a0 < 0 then (some (IntKind.u64.wrap ((Go.bits .xor .u64 IntKind.u64.max (IntKind.u64.wrap (a0))) + 1))) else (some (IntKind.u64.wrap (a0)))) = some r := h
 clear h
 by_cases c2 : a0 < 0
 ·rw [if_pos c2] at H
  have c2b0 : decide (a0 < 0) = true := decide_eq_true c2
  clear c2
  obtain rfl := Option.some.inj H
  go_enter Tryd.func76, Tryd.ntmps76
  go_wp2
  go_ret
  exact ⟨by first | rfl | (simp; done) | (simp [*]; done), by repeat (first | exact Drawn0.refl _ | apply Drawn0.step)⟩
 ·rw [if_neg c2] at H
  have c2b0 : decide (a0 < 0) = false := decide_eq_false c2
  clear c2
  obtain rfl := Option.some.inj H
  go_enter Tryd.func76, Tryd.ntmps76
  go_wp2
  go_ret
  exact ⟨by first | rfl | (simp; done) | (simp [*]; done), by repeat (first | exact Drawn0.refl _ | apply Drawn0.step)⟩
def corebankref01_size.f (a0 : Int) : Option Int := if inI a0 then some (if a0 < 0 then -a0 else a0) else none
theorem corebankref01_size.eq {a : Int} {r : Int} (h : corebankref01_size.f a = some r) : corebankref01_sizeP.f a = some r := by
 unfold corebankref01_size.f at h
 split at h
 ·rename_i c
  obtain ⟨c0, c1⟩ := c
  injection h with h
  subst h
  unfold corebankref01_sizeP.f
  have hw : IntKind.u64.wrap a = if a < 0 then a + 18446744073709551616 else a := by rw [IntKind.wrap_u64]; split <;> omega
  rw [hw]
  by_cases hn : a < 0
  ·rw [if_pos hn, if_pos hn, if_pos hn, xorMax _ (by omega) (by omega), IntKind.wrap_u64]
   congr 1; omega
  ·rw [if_neg hn, if_neg hn, if_neg hn]
 ·cases h
theorem corebankref01_size.calls (a0 r : Int) (w : World) (h : corebankref01_size.f a0 = some r) :
  Calls Tryd.prog 76 #[.int .i64 a0] w fun e w' => e = .returned (.int .u64 r) ∧ Drawn0 w w' := by
 have h := corebankref01_size.eq h
 exact corebankref01_sizeP.calls a0 r w h
def corebankref01_ScaleP.j0 : Nat → Bool → Int → Int → Option (Int × Int × Int)
 | 0, _, _, _ => none
 | k + 1, x38, x399000, x399001 => if x38 = true then (some (0, 0, 6)) else (some (x399000, x399001, 0))
def corebankref01_ScaleP.f (k : Nat) (a0_0 a0_1 a1 : Int) : Option (Int × Int × Int) := (corebankref01_Split.f a0_0 a0_1).bind fun bt386 => ((corebankref01_size.f a1).bind fun t390 => ((corebankref01_times.f bt386.2.1 bt386.2.2 t390).bind fun bt391 => ((corebankref01_Join.f (bt386.1 != (decide (a1 < 0))) bt391.1 bt391.2.1).bind fun bt395 => (if bt391.2.2 = true then (corebankref01_ScaleP.j0 k (!bt395.2.2) bt395.1 bt395.2.1) else (corebankref01_ScaleP.j0 k true bt395.1 bt395.2.1)))))
def corebankref01_ScaleP.T2 : Bool × List (List Nat × List Nat) := (true, [([], []), ([], []), ([1], [1]), ([0, 2, 2], [0, 2]), ([3], [3]), ([4], [4]), ([4], [4]), ([], []), ([7, 5, 3, 0, 1, 2, 3, 4, 5, 7], [5, 7]), ([6, 8, 0, 1, 2, 3, 4, 5, 6, 7, 8], [6])])
def corebankref01_ScaleP.B2 : List Nat := [0, 0, 2, 7, 15, 31, 31, 0, 191, 511]
theorem corebankref01_ScaleP.tab2 : rtab .any (opsOf Tryd.f64 2) = corebankref01_ScaleP.T2 := by kernel_rfl
theorem corebankref01_ScaleP.bits2 : waitsOk corebankref01_ScaleP.T2.2 corebankref01_ScaleP.B2 = true := by kernel_rfl
set_option maxHeartbeats 8000000 in
set_option maxRecDepth 100000 in
theorem corebankref01_ScaleP.calls (k : Nat) (a0_0 a0_1 a1 r1 r2 r3 : Int) (w : World) (h : corebankref01_ScaleP.f k a0_0 a0_1 a1 = some (r1, r2, r3)) :
  Calls Tryd.prog 64 #[.agg #[.int .i64 a0_0, .int .u64 a0_1], .int .i64 a1] w fun e w' => e = .returned (.tuple #[.agg #[.int .i64 r1, .int .u64 r2], .int .i64 r3]) ∧ Below w.heap.size w w' := by
 have hu63 := Tryd.underlying63
 have hu96 := Tryd.underlying96
 have HB := Aside0.mk (Below.refl w.heap.size w)
 have H : ((corebankref01_Split.f a0_0 a0_1).bind fun bt386 => ((corebankref01_size.f a1).bind fun t390 => ((corebankref01_times.f bt386.2.1 bt386.2.2 t390).bind fun bt391 => ((corebankref01_Join.f (bt386.1 != (decide (a1 < 0))) bt391.1 bt391.2.1).bind fun bt395 => (if bt391.2.2 = true then (corebankref01_ScaleP.j0 k (!bt395.2.2) bt395.1 bt395.2.1) else (corebankref01_ScaleP.j0 k true bt395.1 bt395.2.1)))))) = some (r1, r2, r3) := h
 clear h
 replace H := Option.bind_eq_some_iff.mp H
 obtain ⟨⟨t386, t387, t388⟩, A30, H⟩ := H
 replace H : ((corebankref01_size.f a1).bind fun t390 => ((corebankref01_times.f t387 t388 t390).bind fun bt391 => ((corebankref01_Join.f (t386 != (decide (a1 < 0))) bt391.1 bt391.2.1).bind fun bt395 => (if bt391.2.2 = true then (corebankref01_ScaleP.j0 k (!bt395.2.2) bt395.1 bt395.2.1) else (corebankref01_ScaleP.j0 k true bt395.1 bt395.2.1))))) = some (r1, r2, r3) := H
 have A3 := Aside0.mk A30
 clear A30
 replace H := Option.bind_eq_some_iff.mp H
 obtain ⟨t390, A40, H⟩ := H
 replace H : ((corebankref01_times.f t387 t388 t390).bind fun bt391 => ((corebankref01_Join.f (t386 != (decide (a1 < 0))) bt391.1 bt391.2.1).bind fun bt395 => (if bt391.2.2 = true then (corebankref01_ScaleP.j0 k (!bt395.2.2) bt395.1 bt395.2.1) else (corebankref01_ScaleP.j0 k true bt395.1 bt395.2.1)))) = some (r1, r2, r3) := H
 have A4 := Aside0.mk A40
 clear A40
 replace H := Option.bind_eq_some_iff.mp H
 obtain ⟨⟨t391, t392, t393⟩, A50, H⟩ := H
 replace H : ((corebankref01_Join.f (t386 != (decide (a1 < 0))) t391 t392).bind fun bt395 => (if t393 = true then (corebankref01_ScaleP.j0 k (!bt395.2.2) bt395.1 bt395.2.1) else (corebankref01_ScaleP.j0 k true bt395.1 bt395.2.1))) = some (r1, r2, r3) := H
 have A5 := Aside0.mk A50
 clear A50
 replace H := Option.bind_eq_some_iff.mp H
 obtain ⟨⟨t395, t396, t397⟩, A60, H⟩ := H
 replace H : (if t393 = true then (corebankref01_ScaleP.j0 k (!t397) t395 t396) else (corebankref01_ScaleP.j0 k true t395 t396)) = some (r1, r2, r3) := H
 have A6 := Aside0.mk A60
 clear A60
 have HC7 := Aside0.mk H
 clear H
 go_enter Tryd.func64, Tryd.ntmps64
 try go_wp2_with (first | ((with_reducible refine gate_dst (N := 2) rfl ?_); refine be_ (N := 2) (cs := #[.int .i64 a0_0, .int .u64 a0_1]) (t := 63) ?_; intro gb384 hg w8 hbox hb; have n0_ := Aside0.mk (below_step (qb_ HB.out) hb); have n1_ := Aside0.mk (hbox); have n2_ := Aside0.mk (bz_ hg (qb_ HB.out) : w.heap.size ≤ gb384); have n3_ := n2_; clear HB; have HB := n0_; have BK384 := n1_; have GW384 := n2_; have GE384 := n3_; clear n0_ n1_ n2_ n3_; clear hb hbox hg) | ((with_reducible refine gate_dst (N := 4) rfl ?_); refine be_ (N := 4) (cs := #[.int .i64 0, .int .u64 0]) (t := 63) ?_; intro gb385 hg w9 hbox hb; have n0_ := Aside0.mk (blk_below (qk_ BK384.out) hb); have n1_ := Aside0.mk (below_step (qb1_ GE384.out HB.out) hb); have n2_ := Aside0.mk (hbox); have n3_ := Aside0.mk (bz_ hg (qb1_ GE384.out HB.out) : w.heap.size ≤ gb385); have n4_ := n3_; have n5_ := Aside0.mk (nl_ hg (qk_ BK384.out) : gb384 ≠ gb385); have n6_ := Aside0.mk (ng_ hg (qk_ BK384.out) : gb385 ≠ gb384); clear BK384; clear HB; have BK384 := n0_; have HB := n1_; have BK385 := n2_; have GW385 := n3_; have GE385 := n4_; have NB384_385 := n5_; have NB385_384 := n6_; clear n0_ n1_ n2_ n3_ n4_ n5_ n6_; clear hb hbox hg; have hnb10 := NB384_385.out; have hnc10 := NB385_384.out; obtain ⟨Z11_0, Z11_1, Y11_0, Y11_1⟩ := cz2_ BK384.out) | ((with_reducible refine gate_callee (f := 70) rfl ?_); refine goesL_ (some 14) rfl rfl Tryd.func70 (by kernel_rfl) rfl #[.agg #[.int .i64 a0_0, .int .u64 a0_1]] rfl ql_ ?_; (with_reducible refine (corebankref01_Split.calls a0_0 a0_1 t386 t387 t388 _ A3.out).mono ?_); rintro e w12 ⟨rfl, hb⟩; refine ⟨_, rfl, ?_⟩; have n0_ := Aside0.mk (blk_below (qk_ BK384.out) hb); have n1_ := Aside0.mk (blk_below (qk_ BK385.out) hb); have n2_ := Aside0.mk (below_step (qb2_ GE384.out GE385.out HB.out) hb); clear BK384; clear BK385; clear HB; have BK384 := n0_; have BK385 := n1_; have HB := n2_; clear n0_ n1_ n2_; (try clear hb); (try clear hb2); (try clear hk); (try clear hi)) | ((with_reducible refine gate_dst (N := 7) rfl ?_); refine be_ (N := 7) (cs := #[.int .u64 0, .int .u64 0]) (t := 96) ?_; intro gb389 hg w13 hbox hb; have n0_ := Aside0.mk (blk_below (qk_ BK384.out) hb); have n1_ := Aside0.mk (blk_below (qk_ BK385.out) hb); have n2_ := Aside0.mk (below_step (qb2_ GE384.out GE385.out HB.out) hb); have n3_ := Aside0.mk (hbox); have n4_ := Aside0.mk (bz_ hg (qb2_ GE384.out GE385.out HB.out) : w.heap.size ≤ gb389); have n5_ := n4_; have n6_ := Aside0.mk (nl_ hg (qk_ BK384.out) : gb384 ≠ gb389); have n7_ := Aside0.mk (ng_ hg (qk_ BK384.out) : gb389 ≠ gb384); have n8_ := Aside0.mk (nl_ hg (qk_ BK385.out) : gb385 ≠ gb389); have n9_ := Aside0.mk (ng_ hg (qk_ BK385.out) : gb389 ≠ gb385); clear BK384; clear BK385; clear HB; have BK384 := n0_; have BK385 := n1_; have HB := n2_; have BK389 := n3_; have GW389 := n4_; have GE389 := n5_; have NB384_389 := n6_; have NB389_384 := n7_; have NB385_389 := n8_; have NB389_385 := n9_; clear n0_ n1_ n2_ n3_ n4_ n5_ n6_ n7_ n8_ n9_; clear hb hbox hg; have hnb14 := NB389_384.out; have hnc14 := NB384_389.out; have hnb15 := NB389_385.out; have hnc15 := NB385_389.out; obtain ⟨Z16_0, Z16_1, Y16_0, Y16_1⟩ := cz2_ BK389.out))
 have n0_ : Aside0 (((w13.setCell ⟨gb389, 0, none⟩ (.int .u64 t387)).setCell ⟨gb389, 1, none⟩ (.int .u64 t388)).heap[gb384]? = some (.cells #[.int .i64 a0_0, .int .u64 a0_1] 63 (0, 0))) := ⟨qff_ NB384_389.out NB384_389.out BK384.out⟩
 have n1_ : Aside0 (((w13.setCell ⟨gb389, 0, none⟩ (.int .u64 t387)).setCell ⟨gb389, 1, none⟩ (.int .u64 t388)).heap[gb385]? = some (.cells #[.int .i64 0, .int .u64 0] 63 (0, 0))) := ⟨qff_ NB385_389.out NB385_389.out BK385.out⟩
 have n2_ : Aside0 (((w13.setCell ⟨gb389, 0, none⟩ (.int .u64 t387)).setCell ⟨gb389, 1, none⟩ (.int .u64 t388)).heap[gb389]? = some (.cells #[.int .u64 t387, .int .u64 t388] 96 (0, 0))) := ⟨qpp_ #[.int .u64 t387, .int .u64 0] 1 #[.int .u64 0, .int .u64 0] 0 BK389.out⟩
 have n3_ : Aside0 (Below w.heap.size w ((w13.setCell ⟨gb389, 0, none⟩ (.int .u64 t387)).setCell ⟨gb389, 1, none⟩ (.int .u64 t388))) := ⟨qb3_ GE384.out GE385.out GE389.out HB.out⟩
 (try clear BK384)
 (try clear BK385)
 (try clear BK389)
 (try clear HB)
 generalize ((w13.setCell ⟨gb389, 0, none⟩ (.int .u64 t387)).setCell ⟨gb389, 1, none⟩ (.int .u64 t388)) = w17 at n0_ n1_ n2_ n3_ ⊢
 have BK384 := n0_
 have BK385 := n1_
 have BK389 := n2_
 have HB := n3_
 clear n0_ n1_ n2_ n3_
 have n0_ := Aside0.mk (blk_drew BK384.out)
 have n1_ := Aside0.mk (blk_drew BK385.out)
 have n2_ := Aside0.mk (blk_drew BK389.out)
 have n3_ := Aside0.mk (below_drew1 HB.out)
 clear BK384
 clear BK385
 clear BK389
 clear HB
 have BK384 := n0_
 have BK385 := n1_
 have BK389 := n2_
 have HB := n3_
 clear n0_ n1_ n2_ n3_
 refine start_ (n := 10) (S := cS2_ gb389 (.int .u64 t387) (.int .u64 t388)) (ds := []) (nb_ 10 0) (by kernel_rfl) rfl rfl (cc2_ BK389.out) (fun hHeld => ?_); refine with_tabW corebankref01_ScaleP.tab2 corebankref01_ScaleP.bits2 (fun HT_ HW_ => ?_)
 generalize w17.drew = w18 at BK384 BK385 BK389 HB hHeld ⊢
 refine pz_ 1 19 (nb_ 10 2) HT_.out ?_
 refine tk2_ 0 18 (nb_ 10 3) HT_.out HW_.out hHeld ?_
 refine join_ (σ := Nat) 2 (nb_ 10 255) (fun s_ => [(20, .int .u64 t390), (21, .tuple #[.agg #[.int .u64 t391, .int .u64 t392], .bool t393]), (8, .pointer (some ⟨s_, 0, none⟩)), (17, .tuple #[.agg #[.int .u64 t391, .int .u64 t392], .bool t393]), (22, .agg #[.int .u64 t391, .int .u64 t392]), (23, .bool t393)]) (fun s_ w' => (cS2_ gb389 (.int .u64 t387) (.int .u64 t388) w') ∧ (w'.heap[gb384]? = some (.cells #[.int .i64 a0_0, .int .u64 a0_1] 63 (0, 0))) ∧ (w'.heap[gb385]? = some (.cells #[.int .i64 0, .int .u64 0] 63 (0, 0))) ∧ (w'.heap[gb389]? = some (.cells #[.int .u64 t387, .int .u64 t388] 96 (0, 0))) ∧ (w'.heap[s_]? = some (.cells #[.int .u64 0, .int .u64 0] 96 (0, 0))) ∧ (w.heap.size ≤ s_) ∧ (w.heap.size ≤ s_) ∧ (gb384 ≠ s_) ∧ (s_ ≠ gb384) ∧ (gb385 ≠ s_) ∧ (s_ ≠ gb385) ∧ (gb389 ≠ s_) ∧ (s_ ≠ gb389) ∧ (Below w.heap.size w w')) ?_ ?_
 rotate_left
 ·intro hCont
  refine two_ (i := 2) (j := 7) (Ni := some 20) (Nj := some 8) (nb_ 10 7) (nb_ 10 131) rfl rfl rfl rfl (two_of HT_.out (by kernel_rfl)) (by decide) (by decide) (fun K hK => ?_) (fun K hK => ?_)
  ·skip
   refine goes_ Tryd.func76 (by kernel_rfl) rfl #[.int .i64 a1] (by rfl) rfl rfl ql_ ?_
   with_reducible refine (corebankref01_size.calls a1 t390 _ A4.out).mono ?_
   rintro e w' ⟨rfl, ⟨nd, rfl⟩⟩
   refine ⟨_, rfl, ?_⟩
   refine hK.out _ _ (cc2_ BK389.out) (fun hHeld => ?_)
   clear hK K
   refine no_ ?_
   refine two_ (i := 3) (j := 7) (Ni := some 21) (Nj := some 8) (nb_ 10 15) (nb_ 10 135) rfl rfl rfl rfl (two_of HT_.out (by kernel_rfl)) (by decide) (by decide) (fun K hK => ?_) (fun K hK => ?_)
   ·skip
    refine goes_ Tryd.func75 (by kernel_rfl) rfl #[.agg #[.int .u64 t387, .int .u64 t388], .int .u64 t390] (by rfl) rfl rfl ql_ ?_
    with_reducible refine (corebankref01_times.calls t387 t388 t390 t391 t392 t393 _ A5.out).mono ?_
    rintro e w19 ⟨rfl, hb⟩
    refine ⟨_, rfl, ?_⟩
    have n0_ := Aside0.mk (blk_below (qk_ BK384.out) hb)
    have n1_ := Aside0.mk (blk_below (qk_ BK385.out) hb)
    have n2_ := Aside0.mk (blk_below (qk_ BK389.out) hb)
    have n3_ := Aside0.mk (below_step (qb3_ GE384.out GE385.out GE389.out HB.out) hb)
    clear BK384
    clear BK385
    clear BK389
    clear HB
    have BK384 := n0_
    have BK385 := n1_
    have BK389 := n2_
    have HB := n3_
    clear n0_ n1_ n2_ n3_
    (try clear hb)
    (try clear hb2)
    (try clear hk)
    (try clear hi)
    refine hK.out _ _ (cc2_ BK389.out) (fun hHeld => ?_)
    clear hK K
    refine no_ ?_
    refine pz_ 4 17 (nb_ 10 31) HT_.out ?_
    refine pz_ 5 22 (nb_ 10 63) HT_.out ?_
    refine pz_ 6 23 (nb_ 10 127) HT_.out ?_
    refine on_ 7 8 (nb_ 10 255) HT_.out (fun K hK => ?_)
    refine box_step ?hg (N := 8) ?hd (cs := #[.int .u64 0, .int .u64 0]) (t := 96) ?hr ?_; (case hd => rfl); (case hg => rfl); (case hr => first | (go_simp; done) | (go_simp; rfl))
    intro gb394 hg w20 hbox hb
    have n0_ := Aside0.mk (blk_below (qk_ BK384.out) hb)
    have n1_ := Aside0.mk (blk_below (qk_ BK385.out) hb)
    have n2_ := Aside0.mk (blk_below (qk_ BK389.out) hb)
    have n3_ := Aside0.mk (below_step (qb3_ GE384.out GE385.out GE389.out HB.out) hb)
    have n4_ := Aside0.mk (hbox)
    have n5_ := Aside0.mk (bz_ hg (qb3_ GE384.out GE385.out GE389.out HB.out) : w.heap.size ≤ gb394)
    have n6_ := Aside0.mk (bz_ hg (qb3_ GE384.out GE385.out GE389.out HB.out) : w.heap.size ≤ gb394)
    have n7_ := Aside0.mk (nl_ hg (qk_ BK384.out) : gb384 ≠ gb394)
    have n8_ := Aside0.mk (ng_ hg (qk_ BK384.out) : gb394 ≠ gb384)
    have n9_ := Aside0.mk (nl_ hg (qk_ BK385.out) : gb385 ≠ gb394)
    have n10_ := Aside0.mk (ng_ hg (qk_ BK385.out) : gb394 ≠ gb385)
    have n11_ := Aside0.mk (nl_ hg (qk_ BK389.out) : gb389 ≠ gb394)
    have n12_ := Aside0.mk (ng_ hg (qk_ BK389.out) : gb394 ≠ gb389)
    clear BK384
    clear BK385
    clear BK389
    clear HB
    have BK384 := n0_
    have BK385 := n1_
    have BK389 := n2_
    have HB := n3_
    have BK394 := n4_
    have GW394 := n5_
    have GE394 := n6_
    have NB384_394 := n7_
    have NB394_384 := n8_
    have NB385_394 := n9_
    have NB394_385 := n10_
    have NB389_394 := n11_
    have NB394_389 := n12_
    clear n0_ n1_ n2_ n3_ n4_ n5_ n6_ n7_ n8_ n9_ n10_ n11_ n12_
    clear hb hbox hg
    refine hK.out _ _ (cc2_ BK389.out) (fun hHeld => ?_)
    clear hK K
    refine no_ ?_
    exact norm_ (by simp only [putAll, Act.put, List.setIfInBounds_toArray, List.set_cons_zero, List.set_cons_succ]) (hCont (gb394) _ ⟨hHeld, (qk_ BK384.out), (qk_ BK385.out), (qk_ BK389.out), (qk_ BK394.out), GW394.out, GE394.out, NB384_394.out, NB394_384.out, NB385_394.out, NB394_385.out, NB389_394.out, NB394_389.out, (qb4_ GE384.out GE385.out GE389.out GE394.out HB.out)⟩)
   ·skip
    refine box_step ?hg (N := 8) ?hd (cs := #[.int .u64 0, .int .u64 0]) (t := 96) ?hr ?_; (case hd => rfl); (case hg => rfl); (case hr => first | (go_simp; done) | (go_simp; rfl))
    intro gb394 hg w19 hbox hb
    have n0_ := Aside0.mk (blk_below (qk_ BK384.out) hb)
    have n1_ := Aside0.mk (blk_below (qk_ BK385.out) hb)
    have n2_ := Aside0.mk (blk_below (qk_ BK389.out) hb)
    have n3_ := Aside0.mk (below_step (qb3_ GE384.out GE385.out GE389.out HB.out) hb)
    have n4_ := Aside0.mk (hbox)
    have n5_ := Aside0.mk (bz_ hg (qb3_ GE384.out GE385.out GE389.out HB.out) : w.heap.size ≤ gb394)
    have n6_ := Aside0.mk (bz_ hg (qb3_ GE384.out GE385.out GE389.out HB.out) : w.heap.size ≤ gb394)
    have n7_ := Aside0.mk (nl_ hg (qk_ BK384.out) : gb384 ≠ gb394)
    have n8_ := Aside0.mk (ng_ hg (qk_ BK384.out) : gb394 ≠ gb384)
    have n9_ := Aside0.mk (nl_ hg (qk_ BK385.out) : gb385 ≠ gb394)
    have n10_ := Aside0.mk (ng_ hg (qk_ BK385.out) : gb394 ≠ gb385)
    have n11_ := Aside0.mk (nl_ hg (qk_ BK389.out) : gb389 ≠ gb394)
    have n12_ := Aside0.mk (ng_ hg (qk_ BK389.out) : gb394 ≠ gb389)
    clear BK384
    clear BK385
    clear BK389
    clear HB
    have BK384 := n0_
    have BK385 := n1_
    have BK389 := n2_
    have HB := n3_
    have BK394 := n4_
    have GW394 := n5_
    have GE394 := n6_
    have NB384_394 := n7_
    have NB394_384 := n8_
    have NB385_394 := n9_
    have NB394_385 := n10_
    have NB389_394 := n11_
    have NB394_389 := n12_
    clear n0_ n1_ n2_ n3_ n4_ n5_ n6_ n7_ n8_ n9_ n10_ n11_ n12_
    clear hb hbox hg
    refine hK.out _ _ (cc2_ BK389.out) (fun hHeld => ?_)
    clear hK K
    refine no_ ?_
    refine on_ 3 21 (nb_ 10 143) HT_.out (fun K hK => ?_)
    refine goes_ Tryd.func75 (by kernel_rfl) rfl #[.agg #[.int .u64 t387, .int .u64 t388], .int .u64 t390] (by rfl) rfl rfl ql_ ?_
    with_reducible refine (corebankref01_times.calls t387 t388 t390 t391 t392 t393 _ A5.out).mono ?_
    rintro e w20 ⟨rfl, hb⟩
    refine ⟨_, rfl, ?_⟩
    have n0_ := Aside0.mk (blk_below (qk_ BK384.out) hb)
    have n1_ := Aside0.mk (blk_below (qk_ BK385.out) hb)
    have n2_ := Aside0.mk (blk_below (qk_ BK389.out) hb)
    have n3_ := Aside0.mk (blk_below (qk_ BK394.out) hb)
    have n4_ := Aside0.mk (below_step (qb4_ GE384.out GE385.out GE389.out GE394.out HB.out) hb)
    clear BK384
    clear BK385
    clear BK389
    clear BK394
    clear HB
    have BK384 := n0_
    have BK385 := n1_
    have BK389 := n2_
    have BK394 := n3_
    have HB := n4_
    clear n0_ n1_ n2_ n3_ n4_
    (try clear hb)
    (try clear hb2)
    (try clear hk)
    (try clear hi)
    refine hK.out _ _ (cc2_ BK389.out) (fun hHeld => ?_)
    clear hK K
    refine no_ ?_
    refine pz_ 4 17 (nb_ 10 159) HT_.out ?_
    refine pz_ 5 22 (nb_ 10 191) HT_.out ?_
    refine pz_ 6 23 (nb_ 10 255) HT_.out ?_
    exact norm_ (by simp only [putAll, Act.put, List.setIfInBounds_toArray, List.set_cons_zero, List.set_cons_succ]) (hCont (gb394) _ ⟨hHeld, (qk_ BK384.out), (qk_ BK385.out), (qk_ BK389.out), (qk_ BK394.out), GW394.out, GE394.out, NB384_394.out, NB394_384.out, NB385_394.out, NB394_385.out, NB389_394.out, NB394_389.out, (qb4_ GE384.out GE385.out GE389.out GE394.out HB.out)⟩)
  ·skip
   refine box_step ?hg (N := 8) ?hd (cs := #[.int .u64 0, .int .u64 0]) (t := 96) ?hr ?_; (case hd => rfl); (case hg => rfl); (case hr => first | (go_simp; done) | (go_simp; rfl))
   intro gb394 hg w19 hbox hb
   have n0_ := Aside0.mk (blk_below (qk_ BK384.out) hb)
   have n1_ := Aside0.mk (blk_below (qk_ BK385.out) hb)
   have n2_ := Aside0.mk (blk_below (qk_ BK389.out) hb)
   have n3_ := Aside0.mk (below_step (qb3_ GE384.out GE385.out GE389.out HB.out) hb)
   have n4_ := Aside0.mk (hbox)
   have n5_ := Aside0.mk (bz_ hg (qb3_ GE384.out GE385.out GE389.out HB.out) : w.heap.size ≤ gb394)
   have n6_ := Aside0.mk (bz_ hg (qb3_ GE384.out GE385.out GE389.out HB.out) : w.heap.size ≤ gb394)
   have n7_ := Aside0.mk (nl_ hg (qk_ BK384.out) : gb384 ≠ gb394)
   have n8_ := Aside0.mk (ng_ hg (qk_ BK384.out) : gb394 ≠ gb384)
   have n9_ := Aside0.mk (nl_ hg (qk_ BK385.out) : gb385 ≠ gb394)
   have n10_ := Aside0.mk (ng_ hg (qk_ BK385.out) : gb394 ≠ gb385)
   have n11_ := Aside0.mk (nl_ hg (qk_ BK389.out) : gb389 ≠ gb394)
   have n12_ := Aside0.mk (ng_ hg (qk_ BK389.out) : gb394 ≠ gb389)
   clear BK384
   clear BK385
   clear BK389
   clear HB
   have BK384 := n0_
   have BK385 := n1_
   have BK389 := n2_
   have HB := n3_
   have BK394 := n4_
   have GW394 := n5_
   have GE394 := n6_
   have NB384_394 := n7_
   have NB394_384 := n8_
   have NB385_394 := n9_
   have NB394_385 := n10_
   have NB389_394 := n11_
   have NB394_389 := n12_
   clear n0_ n1_ n2_ n3_ n4_ n5_ n6_ n7_ n8_ n9_ n10_ n11_ n12_
   clear hb hbox hg
   refine hK.out _ _ (cc2_ BK389.out) (fun hHeld => ?_)
   clear hK K
   refine no_ ?_
   refine on_ 2 20 (nb_ 10 135) HT_.out (fun K hK => ?_)
   refine goes_ Tryd.func76 (by kernel_rfl) rfl #[.int .i64 a1] (by rfl) rfl rfl ql_ ?_
   with_reducible refine (corebankref01_size.calls a1 t390 _ A4.out).mono ?_
   rintro e w' ⟨rfl, ⟨nd, rfl⟩⟩
   refine ⟨_, rfl, ?_⟩
   refine hK.out _ _ (cc2_ BK389.out) (fun hHeld => ?_)
   clear hK K
   refine no_ ?_
   refine on_ 3 21 (nb_ 10 143) HT_.out (fun K hK => ?_)
   refine goes_ Tryd.func75 (by kernel_rfl) rfl #[.agg #[.int .u64 t387, .int .u64 t388], .int .u64 t390] (by rfl) rfl rfl ql_ ?_
   with_reducible refine (corebankref01_times.calls t387 t388 t390 t391 t392 t393 _ A5.out).mono ?_
   rintro e w20 ⟨rfl, hb⟩
   refine ⟨_, rfl, ?_⟩
   have n0_ := Aside0.mk (blk_below (qk_ BK384.out) hb)
   have n1_ := Aside0.mk (blk_below (qk_ BK385.out) hb)
   have n2_ := Aside0.mk (blk_below (qk_ BK389.out) hb)
   have n3_ := Aside0.mk (blk_below (qk_ BK394.out) hb)
   have n4_ := Aside0.mk (below_step (qb4_ GE384.out GE385.out GE389.out GE394.out HB.out) hb)
   clear BK384
   clear BK385
   clear BK389
   clear BK394
   clear HB
   have BK384 := n0_
   have BK385 := n1_
   have BK389 := n2_
   have BK394 := n3_
   have HB := n4_
   clear n0_ n1_ n2_ n3_ n4_
   (try clear hb)
   (try clear hb2)
   (try clear hk)
   (try clear hi)
   refine hK.out _ _ (cc2_ BK389.out) (fun hHeld => ?_)
   clear hK K
   refine no_ ?_
   refine pz_ 4 17 (nb_ 10 159) HT_.out ?_
   refine pz_ 5 22 (nb_ 10 191) HT_.out ?_
   refine pz_ 6 23 (nb_ 10 255) HT_.out ?_
   exact norm_ (by simp only [putAll, Act.put, List.setIfInBounds_toArray, List.set_cons_zero, List.set_cons_succ]) (hCont (gb394) _ ⟨hHeld, (qk_ BK384.out), (qk_ BK385.out), (qk_ BK389.out), (qk_ BK394.out), GW394.out, GE394.out, NB384_394.out, NB394_384.out, NB385_394.out, NB394_385.out, NB389_394.out, NB394_389.out, (qb4_ GE384.out GE385.out GE389.out GE394.out HB.out)⟩)
 rintro gb394 w21 ⟨hS_, h0_, h1_, h2_, h3_, h4_, h5_, h6_, h7_, h8_, h9_, h10_, h11_, h12_⟩
 have n0_ : Aside0 (w21.heap[gb384]? = some (.cells #[.int .i64 a0_0, .int .u64 a0_1] 63 (0, 0))) := ⟨h0_⟩
 have n1_ : Aside0 (w21.heap[gb385]? = some (.cells #[.int .i64 0, .int .u64 0] 63 (0, 0))) := ⟨h1_⟩
 have n2_ : Aside0 (w21.heap[gb389]? = some (.cells #[.int .u64 t387, .int .u64 t388] 96 (0, 0))) := ⟨h2_⟩
 have n3_ : Aside0 (w21.heap[gb394]? = some (.cells #[.int .u64 0, .int .u64 0] 96 (0, 0))) := ⟨h3_⟩
 have n4_ : Aside0 (w.heap.size ≤ gb394) := ⟨h4_⟩
 have n5_ : Aside0 (w.heap.size ≤ gb394) := ⟨h5_⟩
 have n6_ : Aside0 (gb384 ≠ gb394) := ⟨h6_⟩
 have n7_ : Aside0 (gb394 ≠ gb384) := ⟨h7_⟩
 have n8_ : Aside0 (gb385 ≠ gb394) := ⟨h8_⟩
 have n9_ : Aside0 (gb394 ≠ gb385) := ⟨h9_⟩
 have n10_ : Aside0 (gb389 ≠ gb394) := ⟨h10_⟩
 have n11_ : Aside0 (gb394 ≠ gb389) := ⟨h11_⟩
 have n12_ : Aside0 (Below w.heap.size w w21) := ⟨h12_⟩
 clear BK384
 clear BK385
 clear BK389
 clear HB
 clear h0_ h1_ h2_ h3_ h4_ h5_ h6_ h7_ h8_ h9_ h10_ h11_ h12_
 have BK384 := n0_
 have BK385 := n1_
 have BK389 := n2_
 have BK394 := n3_
 have GW394 := n4_
 have GE394 := n5_
 have NB384_394 := n6_
 have NB394_384 := n7_
 have NB385_394 := n8_
 have NB394_385 := n9_
 have NB389_394 := n10_
 have NB394_389 := n11_
 have HB := n12_
 clear n0_ n1_ n2_ n3_ n4_ n5_ n6_ n7_ n8_ n9_ n10_ n11_ n12_
 have hHeld : cS2_ gb389 (.int .u64 t387) (.int .u64 t388) w21 := hS_
 refine norm_ (a' := ?_) ?_ ?_
 rotate_left
 ·simp only [putAll, Act.put, List.setIfInBounds_toArray, List.set_cons_zero, List.set_cons_succ]
  rfl
 refine one_ (i := 8) (N := none) (nb_ 10 511) rfl rfl (one_of HT_.out (by kernel_rfl)) (by decide) (fun K hK => ?_)
 have hs22 : w21.cell? ⟨gb394, 0, none⟩ = some (.int .u64 0) := (blk_cell BK394.out 0).trans rfl
 have hfs22 := blk_frozen BK394.out 0
 have hns22_0 := NB384_394.out
 have hns22_1 := NB385_394.out
 have hns22_2 := NB389_394.out
 have hms22_0 := NB394_384.out
 have hms22_1 := NB394_385.out
 have hms22_2 := NB394_389.out
 have hs23 : w21.cell? ⟨gb394, 1, none⟩ = some (.int .u64 0) := (blk_cell BK394.out 1).trans rfl
 have hfs23 := blk_frozen BK394.out 1
 have hns23_0 := NB384_394.out
 have hns23_1 := NB385_394.out
 have hns23_2 := NB389_394.out
 have hms23_0 := NB394_384.out
 have hms23_1 := NB394_385.out
 have hms23_2 := NB394_389.out
 refine skip_ (w1 := ?_) (by rfl) rfl ?_ ?_
 rotate_left
 ·go_simp
  rfl
 refine hK.out _ _ ⟨((cell_far (p := ⟨gb394, _, none⟩) NB389_394.out _).trans (((cell_far (p := ⟨gb394, _, none⟩) NB389_394.out _).trans (hHeld.1)))), ((cell_far (p := ⟨gb394, _, none⟩) NB389_394.out _).trans (((cell_far (p := ⟨gb394, _, none⟩) NB389_394.out _).trans (hHeld.2))))⟩ (fun hHeld => ?_)
 clear hK K
 refine pz_ 9 9 (nb_ 10 1023) HT_.out ?_
 refine done_ (done_of HT_.out (by kernel_rfl)) ?_
 have hnb24 := NB394_384.out
 have hnc24 := NB384_394.out
 have hnb25 := NB394_385.out
 have hnc25 := NB385_394.out
 have hnb26 := NB394_389.out
 have hnc26 := NB389_394.out
 obtain ⟨Z27_0, Z27_1, Y27_0, Y27_1⟩ := cz2_ BK394.out
 go_upto_region 4 with (first | ((with_reducible refine gate_callee (f := 73) rfl ?_); refine goesL_ (some 30) rfl rfl Tryd.func73 (by kernel_rfl) rfl #[.bool (t386 != (decide (a1 < 0))), .agg #[.int .u64 t391, .int .u64 t392]] rfl ql_ ?_; (with_reducible refine (corebankref01_Join.calls (t386 != (decide (a1 < 0))) t391 t392 t395 t396 t397 _ A6.out).mono ?_); rintro e w28 ⟨rfl, hb⟩; refine ⟨_, rfl, ?_⟩; have n0_ := Aside0.mk (blk_below (g := gb384) (o := .cells #[.int .i64 a0_0, .int .u64 a0_1] 63 (0, 0)) (qff_ NB384_394.out NB384_394.out BK384.out) hb); have n1_ := Aside0.mk (blk_below (g := gb385) (o := .cells #[.int .i64 0, .int .u64 0] 63 (0, 0)) (qff_ NB385_394.out NB385_394.out BK385.out) hb); have n2_ := Aside0.mk (blk_below (g := gb389) (o := .cells #[.int .u64 t387, .int .u64 t388] 96 (0, 0)) (qff_ NB389_394.out NB389_394.out BK389.out) hb); have n3_ := Aside0.mk (blk_below (g := gb394) (o := .cells #[.int .u64 t391, .int .u64 t392] 96 (0, 0)) (qpp_ #[.int .u64 t391, .int .u64 0] 1 #[.int .u64 0, .int .u64 0] 0 BK394.out) hb); have n4_ := Aside0.mk (below_step (qb4_ GE384.out GE385.out GE389.out GE394.out HB.out) hb); clear BK384; clear BK385; clear BK389; clear BK394; clear HB; have BK384 := n0_; have BK385 := n1_; have BK389 := n2_; have BK394 := n3_; have HB := n4_; clear n0_ n1_ n2_ n3_ n4_; (try clear hb); (try clear hb2); (try clear hk); (try clear hi)) | ((with_reducible refine gate_dst (N := 10) rfl ?_); refine be_ (N := 10) (cs := #[.int .i64 0, .int .u64 0]) (t := 63) ?_; intro gb398 hg w29 hbox hb; have n0_ := Aside0.mk (blk_below (qk_ BK384.out) hb); have n1_ := Aside0.mk (blk_below (qk_ BK385.out) hb); have n2_ := Aside0.mk (blk_below (qk_ BK389.out) hb); have n3_ := Aside0.mk (blk_below (qk_ BK394.out) hb); have n4_ := Aside0.mk (below_step (qb4_ GE384.out GE385.out GE389.out GE394.out HB.out) hb); have n5_ := Aside0.mk (hbox); have n6_ := Aside0.mk (bz_ hg (qb4_ GE384.out GE385.out GE389.out GE394.out HB.out) : w.heap.size ≤ gb398); have n7_ := n6_; have n8_ := Aside0.mk (nl_ hg (qk_ BK384.out) : gb384 ≠ gb398); have n9_ := Aside0.mk (ng_ hg (qk_ BK384.out) : gb398 ≠ gb384); have n10_ := Aside0.mk (nl_ hg (qk_ BK385.out) : gb385 ≠ gb398); have n11_ := Aside0.mk (ng_ hg (qk_ BK385.out) : gb398 ≠ gb385); have n12_ := Aside0.mk (nl_ hg (qk_ BK389.out) : gb389 ≠ gb398); have n13_ := Aside0.mk (ng_ hg (qk_ BK389.out) : gb398 ≠ gb389); have n14_ := Aside0.mk (nl_ hg (qk_ BK394.out) : gb394 ≠ gb398); have n15_ := Aside0.mk (ng_ hg (qk_ BK394.out) : gb398 ≠ gb394); clear BK384; clear BK385; clear BK389; clear BK394; clear HB; have BK384 := n0_; have BK385 := n1_; have BK389 := n2_; have BK394 := n3_; have HB := n4_; have BK398 := n5_; have GW398 := n6_; have GE398 := n7_; have NB384_398 := n8_; have NB398_384 := n9_; have NB385_398 := n10_; have NB398_385 := n11_; have NB389_398 := n12_; have NB398_389 := n13_; have NB394_398 := n14_; have NB398_394 := n15_; clear n0_ n1_ n2_ n3_ n4_ n5_ n6_ n7_ n8_ n9_ n10_ n11_ n12_ n13_ n14_ n15_; clear hb hbox hg; have hnb30 := NB398_384.out; have hnc30 := NB384_398.out; have hnb31 := NB398_385.out; have hnc31 := NB385_398.out; have hnb32 := NB398_389.out; have hnc32 := NB389_398.out; have hnb33 := NB398_394.out; have hnc33 := NB394_398.out; obtain ⟨Z34_0, Z34_1, Y34_0, Y34_1⟩ := cz2_ BK398.out))
 (try simp only [Act.put, List.setIfInBounds_toArray, List.set_cons_zero, List.set_cons_succ])
 go_cut [38] (fun v38 wc => ∃ (kq : Nat) (x38_6 : Bool), v38 = .bool x38_6 ∧ Aside0 (corebankref01_ScaleP.j0 kq x38_6 t395 t396 = some (r1, r2, r3)) ∧ Aside0 (kq ≤ k) ∧ Aside0 (wc.heap[gb384]? = some (.cells #[.int .i64 a0_0, .int .u64 a0_1] 63 (0, 0))) ∧ Aside0 (wc.heap[gb385]? = some (.cells #[.int .i64 0, .int .u64 0] 63 (0, 0))) ∧ Aside0 (wc.heap[gb389]? = some (.cells #[.int .u64 t387, .int .u64 t388] 96 (0, 0))) ∧ Aside0 (wc.heap[gb394]? = some (.cells #[.int .u64 t391, .int .u64 t392] 96 (0, 0))) ∧ Aside0 (wc.heap[gb398]? = some (.cells #[.int .i64 t395, .int .u64 t396] 63 (0, 0))) ∧ Aside0 (Below w.heap.size w wc))
 case first =>
  have H := HC7.out
  clear HC7
  by_cases c35 : t393 = true
  ·subst c35
   have H1 : (corebankref01_ScaleP.j0 k (!t397) t395 t396) = some (r1, r2, r3) := by rw [if_pos rfl] at H; exact H
   clear H
   have H := H1
   clear H1
   have H' := Aside0.mk H
   clear H
   go_wp2
   go_meet
   case rel => exact ⟨_, (!t397), qs_, H', ⟨qo_⟩, ⟨qff_ NB384_398.out NB384_398.out BK384.out⟩, ⟨qff_ NB385_398.out NB385_398.out BK385.out⟩, ⟨qff_ NB389_398.out NB389_398.out BK389.out⟩, ⟨qff_ NB394_398.out NB394_398.out BK394.out⟩, ⟨qpp_ #[.int .i64 t395, .int .u64 0] 1 #[.int .i64 0, .int .u64 0] 0 BK398.out⟩, ⟨qb5_ GE384.out GE385.out GE389.out GE394.out GE398.out HB.out⟩⟩
  ·replace c35 := Bool.eq_false_iff.mpr c35
   subst c35
   have H1 : (corebankref01_ScaleP.j0 k true t395 t396) = some (r1, r2, r3) := by rw [if_neg (show ¬ (false = true) by decide)] at H; exact H
   clear H
   have H := H1
   clear H1
   have H' := Aside0.mk H
   clear H
   go_wp2
   go_meet
   case rel => exact ⟨_, (true), qs_, H', ⟨qo_⟩, ⟨qff_ NB384_398.out NB384_398.out BK384.out⟩, ⟨qff_ NB385_398.out NB385_398.out BK385.out⟩, ⟨qff_ NB389_398.out NB389_398.out BK389.out⟩, ⟨qff_ NB394_398.out NB394_398.out BK394.out⟩, ⟨qpp_ #[.int .i64 t395, .int .u64 0] 1 #[.int .i64 0, .int .u64 0] 0 BK398.out⟩, ⟨qb5_ GE384.out GE385.out GE389.out GE394.out GE398.out HB.out⟩⟩
 case rest =>
  clear HC7
  try clear c1
  try clear c2
  try clear p2
  try clear c3
  try clear c6
  try clear c7
  try clear c10
  try clear c14
  try clear c15
  try clear c24
  try clear c25
  try clear c26
  try clear c30
  try clear c31
  try clear c32
  try clear c33
  try clear c35
  (try clear Z11_0 Z11_1 Y11_0 Y11_1)
  (try clear Z16_0 Z16_1 Y16_0 Y16_1)
  (try clear Z27_0 Z27_1 Y27_0 Y27_1)
  (try clear Z34_0 Z34_1 Y34_0 Y34_1)
  obtain ⟨kq, x38_6, rfl, HA, HJ6, BK384, BK385, BK389, BK394, BK398, HB⟩ := hcut
  cases kq with
  | zero => exact absurd HA.out (by simp [corebankref01_ScaleP.j0])
  | succ kj6 =>
   have H := HA.out
   clear HA
   simp only [corebankref01_ScaleP.j0] at H
   by_cases c36 : x38_6 = true
   ·subst c36
    have H1 : (some (0, 0, 6)) = some (r1, r2, r3) := by rw [if_pos rfl] at H; exact H
    clear H
    have H := H1
    clear H1
    simp only [Option.some.injEq, Prod.mk.injEq] at H
    obtain ⟨rfl, rfl, rfl⟩ := H
    have hnb37 := NB385_384.out
    have hnc37 := NB384_385.out
    have hnb38 := NB385_389.out
    have hnc38 := NB389_385.out
    have hnb39 := NB385_394.out
    have hnc39 := NB394_385.out
    have hnb40 := NB385_398.out
    have hnc40 := NB398_385.out
    obtain ⟨Z41_0, Z41_1, Y41_0, Y41_1⟩ := cz2_ BK385.out
    go_wp2
    refine bodyPost_ret (results_ct rfl _ _ gb385 63 #[.int .i64 0, .int .u64 0] (0, 0) _ rfl (qpp_ #[.int .i64 0, .int .u64 0] 1 #[.int .i64 0, .int .u64 0] 0 BK385.out) Tryd.underlying63 rfl (by kernel_rfl)) rfl ?_
    exact ⟨qe_, qb5_ GE384.out GE385.out GE389.out GE394.out GE398.out HB.out⟩
   ·replace c36 := Bool.eq_false_iff.mpr c36
    subst c36
    have H1 : (some (t395, t396, 0)) = some (r1, r2, r3) := by rw [if_neg (show ¬ (false = true) by decide)] at H; exact H
    clear H
    have H := H1
    clear H1
    simp only [Option.some.injEq, Prod.mk.injEq] at H
    obtain ⟨rfl, rfl, rfl⟩ := H
    have hnb42 := NB398_384.out
    have hnc42 := NB384_398.out
    have hnb43 := NB398_385.out
    have hnc43 := NB385_398.out
    have hnb44 := NB398_389.out
    have hnc44 := NB389_398.out
    have hnb45 := NB398_394.out
    have hnc45 := NB394_398.out
    obtain ⟨Z46_0, Z46_1, Y46_0, Y46_1⟩ := cz2_ BK398.out
    have hnb47 := NB385_384.out
    have hnc47 := NB384_385.out
    have hnb48 := NB385_389.out
    have hnc48 := NB389_385.out
    have hnb49 := NB385_394.out
    have hnc49 := NB394_385.out
    obtain ⟨Z50_0, Z50_1, Y50_0, Y50_1⟩ := cz2_ BK385.out
    go_wp2
    refine bodyPost_ret (results_ct rfl _ _ gb385 63 #[.int .i64 t395, .int .u64 t396] (0, 0) _ rfl (qpp_ #[.int .i64 t395, .int .u64 0] 1 #[.int .i64 0, .int .u64 0] 0 BK385.out) Tryd.underlying63 rfl (by kernel_rfl)) rfl ?_
    exact ⟨qe_, qb5_ GE384.out GE385.out GE389.out GE394.out GE398.out HB.out⟩
end Go.Proofs.YtjkjiibhdpcpkaaDoor.PS
end
