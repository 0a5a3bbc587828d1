import Derived.Deep.Slices
import Derived.Lib.SmallJoins
import Derived.Test.YtogcdcjbleafdaaDoorQRm2
import Derived.Test.YtogcdcjbleafdaaDoorQRm5
import Derived.Test.YtogcdcjbleafdaaDoorQRm11
import Derived.Test.YtogcdcjbleafdaaDoorQRm12
import Derived.Test.YtogcdcjbleafdaaDoorQRm14
section
namespace Go.Proofs.YtogcdcjbleafdaaDoor.PS
open Go.RowKit Go.Proofs.YtogcdcjbleafdaaDoorW.PrintWords Go.Proofs.YtogcdcjbleafdaaDoorW.PrintLast Go.Proofs.YtogcdcjbleafdaaDoorW.PrintMore
attribute [local go_sem] max2_int min2_int max_two min_two
set_option linter.unusedVariables false
set_option linter.unusedSimpArgs false
mutual
def r37_Days.l0 : Nat → Int → Int → Int → Int → Int → Int → Int → Int → Int → Int → Int → Int → Int → Int → Int → Int → Int → Int → Int → Int → Int → Int → Int → Int → Int → ByteArray → ByteArray → List (S67) → List (S70) → Option (Int)
 | 0, _, _, _, _, _, _, _, _, _, _, _, _, _, _, _, _, _, _, _, _, _, _, _, _, _, _, _, _, _ => none
 | k + 1, x1, x5, x6, x7, x620000, x620001, x620002, x620003, x620004, x620005, x620006, x620007, x620008, x620009, x620010, x620011, x620012, x620013, x620014, x620015, x620016, x620017, x620018, x620019, x620020, x620021, x620022, x620023, x620024 => if x7 < (x620023.length : Int) then (if 0 ≤ x7 then (if ((rd_T67 x620023 x7).f1) ≤ x1 then (if x620003 < (wrap64 (x5 + ((rd_T67 x620023 x7).f2))) then (r37_Days.j1 k x1 (wrap64 (x5 + ((rd_T67 x620023 x7).f2))) (wrap64 (x6 + ((rd_T67 x620023 x7).f3))) x7 true x620000 x620001 x620002 x620003 x620004 x620005 x620006 x620007 x620008 x620009 x620010 x620011 x620012 x620013 x620014 x620015 x620016 x620017 x620018 x620019 x620020 x620021 x620022 x620023 x620024 ((rd_T67 x620023 x7).f0) ((rd_T67 x620023 x7).f1) ((rd_T67 x620023 x7).f2) ((rd_T67 x620023 x7).f3)) else (r37_Days.j1 k x1 (wrap64 (x5 + ((rd_T67 x620023 x7).f2))) (wrap64 (x6 + ((rd_T67 x620023 x7).f3))) x7 (decide (x620004 < (wrap64 (x6 + ((rd_T67 x620023 x7).f3))))) x620000 x620001 x620002 x620003 x620004 x620005 x620006 x620007 x620008 x620009 x620010 x620011 x620012 x620013 x620014 x620015 x620016 x620017 x620018 x620019 x620020 x620021 x620022 x620023 x620024 ((rd_T67 x620023 x7).f0) ((rd_T67 x620023 x7).f1) ((rd_T67 x620023 x7).f2) ((rd_T67 x620023 x7).f3))) else (r37_Days.j1 k x1 (wrap64 (x5 + ((rd_T67 x620023 x7).f2))) (wrap64 (x6 + ((rd_T67 x620023 x7).f3))) x7 false x620000 x620001 x620002 x620003 x620004 x620005 x620006 x620007 x620008 x620009 x620010 x620011 x620012 x620013 x620014 x620015 x620016 x620017 x620018 x620019 x620020 x620021 x620022 x620023 x620024 ((rd_T67 x620023 x7).f0) ((rd_T67 x620023 x7).f1) ((rd_T67 x620023 x7).f2) ((rd_T67 x620023 x7).f3))) else (none)) else (some 0)
def r37_Days.j1 : Nat → Int → Int → Int → Int → Bool → Int → Int → Int → Int → Int → Int → Int → Int → Int → Int → Int → Int → Int → Int → Int → Int → Int → Int → Int → Int → Int → ByteArray → ByteArray → List (S67) → List (S70) → Int → Int → Int → Int → Option (Int)
 | 0, _, _, _, _, _, _, _, _, _, _, _, _, _, _, _, _, _, _, _, _, _, _, _, _, _, _, _, _, _, _, _, _, _, _ => none
 | k + 1, x1, x5, x6, x7, x44, x620000, x620001, x620002, x620003, x620004, x620005, x620006, x620007, x620008, x620009, x620010, x620011, x620012, x620013, x620014, x620015, x620016, x620017, x620018, x620019, x620020, x620021, x620022, x620023, x620024, x622000, x622001, x622002, x622003 => if x44 = true then (some (wrap64 (x1 - x622001))) else (r37_Days.l0 k x1 x5 x6 (wrap64 (x7 + 1)) x620000 x620001 x620002 x620003 x620004 x620005 x620006 x620007 x620008 x620009 x620010 x620011 x620012 x620013 x620014 x620015 x620016 x620017 x620018 x620019 x620020 x620021 x620022 x620023 x620024)
end
def r37_Days.f (k : Nat) (a0_0 a0_1 a0_2 a0_3 a0_4 a0_5 a0_6 a0_7 a0_8 a0_9 a0_10 a0_11 a0_12 a0_13 a0_14 a0_15 a0_16 a0_17 a0_18 a0_19 a0_20 : Int) (a0_21 a0_22 : ByteArray) (l0_23 : List (S67)) (l0_24 : List (S70)) (a1 : Int) : Option (Int) := r37_Days.l0 k a1 0 0 0 a0_0 a0_1 a0_2 a0_3 a0_4 a0_5 a0_6 a0_7 a0_8 a0_9 a0_10 a0_11 a0_12 a0_13 a0_14 a0_15 a0_16 a0_17 a0_18 a0_19 a0_20 a0_21 a0_22 l0_23 l0_24
set_option maxHeartbeats 8000000 in
set_option maxRecDepth 100000 in
theorem r37_Days.calls (k : Nat) (a0_0 a0_1 a0_2 a0_3 a0_4 a0_5 a0_6 a0_7 a0_8 a0_9 a0_10 a0_11 a0_12 a0_13 a0_14 a0_15 a0_16 a0_17 a0_18 a0_19 a0_20 : Int) (a0_21 a0_22 : ByteArray) (A0_23 : Option Addr) (c0_23 : Nat) (l0_23 : List (S67)) (A0_24 : Option Addr) (c0_24 : Nat) (l0_24 : List (S70)) (a1 r : Int) (w : World) (hr0_23 : Kd.C k67 w A0_23 l0_23.length l0_23) (hc0_23 : l0_23.length ≤ c0_23) (hr0_24 : Kd.C k70 w A0_24 l0_24.length l0_24) (hc0_24 : l0_24.length ≤ c0_24) (h : r37_Days.f k a0_0 a0_1 a0_2 a0_3 a0_4 a0_5 a0_6 a0_7 a0_8 a0_9 a0_10 a0_11 a0_12 a0_13 a0_14 a0_15 a0_16 a0_17 a0_18 a0_19 a0_20 a0_21 a0_22 l0_23 l0_24 a1 = some r) :
  Calls Tryd.prog 19 #[.agg #[.int .i64 a0_0, .int .i64 a0_1, .int .i64 a0_2, .int .i64 a0_3, .int .i64 a0_4, .int .i64 a0_5, .int .i64 a0_6, .int .i64 a0_7, .int .i64 a0_8, .int .i64 a0_9, .int .i64 a0_10, .int .i64 a0_11, .int .i64 a0_12, .int .i64 a0_13, .int .i64 a0_14, .int .i64 a0_15, .int .i64 a0_16, .int .i64 a0_17, .int .i64 a0_18, .int .i64 a0_19, .int .i64 a0_20, .string a0_21, .string a0_22, .slice A0_23 l0_23.length c0_23, .slice A0_24 l0_24.length c0_24], .int .i64 a1] w fun e w' => e = .returned (.int .i64 r) ∧ Below w.heap.size w w' := by
 have hu27 := Tryd.underlying27
 have hu67 := Tryd.underlying67
 have HR0_23 := am_ hr0_23
 have HC0_23 := am_ hc0_23
 clear hr0_23 hc0_23
 have HR0_24 := am_ hr0_24
 have HC0_24 := am_ hc0_24
 clear hr0_24 hc0_24
 have HB := am_ (Below.refl w.heap.size w)
 have H := h
 clear h
 unfold r37_Days.f at H
 have H' := am_ H
 clear H
 go_enter Tryd.func19, Tryd.ntmps19
 go_wp2_with (first | ((with_reducible refine gate_load_ (t := 27) rfl ?_); refine ld_ (t := 27) Tryd.underlying27 rfl rfl rfl (by (repeat (first | (with_reducible first | refine blk_drewN ?_ _ | refine blk_drew ?_ | refine blk_alloc ?_ _) | refine blk_far ?_ NB619_621.out _ | refine blk_set ?_ _ _)); (with_reducible first | exact BK619.out)) rfl (by kernel_rfl) ?_) | ((with_reducible refine gate_load_ (t := 27) rfl ?_); refine ldgA_ (t := 27) Tryd.underlying27 rfl (by rfl) rfl (by (repeat (first | (with_reducible first | refine blk_drewN ?_ _ | refine blk_drew ?_ | refine blk_alloc ?_ _) | refine blk_far ?_ NB619_621.out _ | refine blk_set ?_ _ _)); (with_reducible first | exact BK619.out)) rfl (by kernel_rfl) ?_) | ((with_reducible refine gate_dst (N := 2) rfl ?_); refine be_ (N := 2) (cs := #[.int .i64 a0_0, .int .i64 a0_1, .int .i64 a0_2, .int .i64 a0_3, .int .i64 a0_4, .int .i64 a0_5, .int .i64 a0_6, .int .i64 a0_7, .int .i64 a0_8, .int .i64 a0_9, .int .i64 a0_10, .int .i64 a0_11, .int .i64 a0_12, .int .i64 a0_13, .int .i64 a0_14, .int .i64 a0_15, .int .i64 a0_16, .int .i64 a0_17, .int .i64 a0_18, .int .i64 a0_19, .int .i64 a0_20, .string a0_21, .string a0_22, .slice A0_23 l0_23.length c0_23, .slice A0_24 l0_24.length c0_24]) (t := 27) ?_; intro gb619 hg w3 hbox hb; have BK619 := am_ (hbox); have GE619 := am_ (bz_ hg (qb_ HB.out) : w.heap.size ≤ gb619); replace HB := am_ (below_step (qb_ HB.out) hb); clear hb hbox hg))
 go_loopg [5, 6, 7] k (fun kq v5 v6 v7 w' => ∃ (x5_1 x6_1 x7_1 : Int), v5 = .int .i64 x5_1 ∧ v6 = .int .i64 x6_1 ∧ v7 = .int .i64 x7_1 ∧ Aside0 (r37_Days.l0 kq a1 x5_1 x6_1 x7_1 a0_0 a0_1 a0_2 a0_3 a0_4 a0_5 a0_6 a0_7 a0_8 a0_9 a0_10 a0_11 a0_12 a0_13 a0_14 a0_15 a0_16 a0_17 a0_18 a0_19 a0_20 a0_21 a0_22 l0_23 l0_24 = some r) ∧ Aside0 (kq ≤ k) ∧ Aside0 (w'.heap[gb619]? = some (.cells #[.int .i64 a0_0, .int .i64 a0_1, .int .i64 a0_2, .int .i64 a0_3, .int .i64 a0_4, .int .i64 a0_5, .int .i64 a0_6, .int .i64 a0_7, .int .i64 a0_8, .int .i64 a0_9, .int .i64 a0_10, .int .i64 a0_11, .int .i64 a0_12, .int .i64 a0_13, .int .i64 a0_14, .int .i64 a0_15, .int .i64 a0_16, .int .i64 a0_17, .int .i64 a0_18, .int .i64 a0_19, .int .i64 a0_20, .string a0_21, .string a0_22, (.slice A0_23 l0_23.length c0_23), (.slice A0_24 l0_24.length c0_24)] 27 (0, 0))) ∧ Aside0 (Below w.heap.size w w'))
 case atStart => exact ⟨(0), (0), (0), qs_, qs_, qs_, H', ⟨Nat.le_refl _⟩, ⟨qk_ BK619.out⟩, ⟨qb1_ GE619.out HB.out⟩⟩
 case round =>
  clear H'
  try clear c1
  try clear p2
  obtain ⟨x5_1, x6_1, x7_1, rfl, rfl, rfl, HA, HK1, BK619, HB⟩ := hrel
  cases gk with
  | zero => exact absurd HA.out (by simp [r37_Days.l0])
  | succ k1 =>
   have H := HA.out
   clear HA
   simp only [r37_Days.l0] at H
   by_cases c4 : x7_1 < (l0_23.length : Int)
   ·rw [if_pos c4] at H
    have c4b0 : decide (x7_1 < (l0_23.length : Int)) = true := decide_eq_true c4
    clear c4
    by_cases c5 : 0 ≤ x7_1
    ·rw [if_pos c5] at H
     have c5b0 : decide (0 ≤ x7_1) = true := decide_eq_true c5
     clear c5
     have HC6 := am_ H
     clear H
     obtain ⟨Z7_0, Z7_1, Z7_2, Z7_3, Z7_4, Z7_5, Z7_6, Z7_7, Z7_8, Z7_9, Z7_10, Z7_11, Z7_12, Z7_13, Z7_14, Z7_15, Z7_16, Z7_17, Z7_18, Z7_19, Z7_20, Z7_21, Z7_22, Z7_23, Z7_24, Y7_0, Y7_1, Y7_2, Y7_3, Y7_4, Y7_5, Y7_6, Y7_7, Y7_8, Y7_9, Y7_10, Y7_11, Y7_12, Y7_13, Y7_14, Y7_15, Y7_16, Y7_17, Y7_18, Y7_19, Y7_20, Y7_21, Y7_22, Y7_23, Y7_24⟩ := cz25_ BK619.out
     have p620 : 0 ≤ (x7_1 : Int) := of_decide_eq_true (by first | (with_reducible assumption) | assumption)
     have q620 : x7_1 < (l0_23.length : Int) := of_decide_eq_true (by first | (with_reducible assumption) | assumption)
     obtain ⟨ad620, e620, hx620_0, hx620_1, hx620_2, hx620_3⟩ := at_T67 HR0_23.out x7_1 p620 q620
     cases e620
     replace hx620_0 := bx_ HB.out hx620_0
     replace hx620_1 := bx_ HB.out hx620_1
     replace hx620_2 := bx_ HB.out hx620_2
     replace hx620_3 := bx_ HB.out hx620_3
     replace p620 := eq_true p620
     replace q620 := eq_true q620
     go_upto_region 8 with (first | ((with_reducible refine gate_load_ (t := 27) rfl ?_); refine ld_ (t := 27) Tryd.underlying27 rfl rfl rfl (by (repeat (first | (with_reducible first | refine blk_drewN ?_ _ | refine blk_drew ?_ | refine blk_alloc ?_ _) | refine blk_far ?_ NB619_621.out _ | refine blk_set ?_ _ _)); (with_reducible first | exact BK619.out)) rfl (by kernel_rfl) ?_) | ((with_reducible refine gate_load_ (t := 27) rfl ?_); refine ldgA_ (t := 27) Tryd.underlying27 rfl (by rfl) rfl (by (repeat (first | (with_reducible first | refine blk_drewN ?_ _ | refine blk_drew ?_ | refine blk_alloc ?_ _) | refine blk_far ?_ NB619_621.out _ | refine blk_set ?_ _ _)); (with_reducible first | exact BK619.out)) rfl (by kernel_rfl) ?_) | ((with_reducible refine gate_dst (N := 8) rfl ?_); refine be_ (N := 8) (cs := #[.int .i64 0, .int .i64 0, .int .i64 0, .int .i64 0]) (t := 67) ?_; intro gb621 hg w8 hbox hb; have BK621 := am_ (hbox); have GE621 := am_ (bz_ hg (qb1_ GE619.out HB.out) : w.heap.size ≤ gb621); replace HB := am_ (below_step (qb1_ GE619.out HB.out) hb); have NB619_621 := am_ (nl_ hg (qk_ BK619.out) : gb619 ≠ gb621); have NB621_619 := am_ (ng_ hg (qk_ BK619.out) : gb621 ≠ gb619); replace BK619 := am_ (blk_below (qk_ BK619.out) hb); clear hb hbox hg; have hnb9 := NB621_619.out; have hnc9 := NB619_621.out; obtain ⟨Z10_0, Z10_1, Z10_2, Z10_3, Y10_0, Y10_1, Y10_2, Y10_3⟩ := cz4_ BK621.out))
     (try simp only [Act.put, List.setIfInBounds_toArray, List.set_cons_zero, List.set_cons_succ])
     go_cut [44] (fun v44 wc => ∃ (kq : Nat) (x44_5 : Bool), v44 = .bool x44_5 ∧ Aside0 (r37_Days.j1 kq a1 (wrap64 (x5_1 + ((rd_T67 l0_23 x7_1).f2))) (wrap64 (x6_1 + ((rd_T67 l0_23 x7_1).f3))) x7_1 x44_5 a0_0 a0_1 a0_2 a0_3 a0_4 a0_5 a0_6 a0_7 a0_8 a0_9 a0_10 a0_11 a0_12 a0_13 a0_14 a0_15 a0_16 a0_17 a0_18 a0_19 a0_20 a0_21 a0_22 l0_23 l0_24 ((rd_T67 l0_23 x7_1).f0) ((rd_T67 l0_23 x7_1).f1) ((rd_T67 l0_23 x7_1).f2) ((rd_T67 l0_23 x7_1).f3) = some r) ∧ Aside0 (kq ≤ k1) ∧ Aside0 (wc.heap[gb619]? = some (.cells #[.int .i64 a0_0, .int .i64 a0_1, .int .i64 a0_2, .int .i64 a0_3, .int .i64 a0_4, .int .i64 a0_5, .int .i64 a0_6, .int .i64 a0_7, .int .i64 a0_8, .int .i64 a0_9, .int .i64 a0_10, .int .i64 a0_11, .int .i64 a0_12, .int .i64 a0_13, .int .i64 a0_14, .int .i64 a0_15, .int .i64 a0_16, .int .i64 a0_17, .int .i64 a0_18, .int .i64 a0_19, .int .i64 a0_20, .string a0_21, .string a0_22, (.slice (some ad620) l0_23.length c0_23), (.slice A0_24 l0_24.length c0_24)] 27 (0, 0))) ∧ Aside0 (wc.heap[gb621]? = some (.cells #[.int .i64 ((rd_T67 l0_23 x7_1).f0), .int .i64 ((rd_T67 l0_23 x7_1).f1), .int .i64 ((rd_T67 l0_23 x7_1).f2), .int .i64 ((rd_T67 l0_23 x7_1).f3)] 67 (0, 0))) ∧ Aside0 (Below w.heap.size w wc))
     case first =>
      have H := HC6.out
      clear HC6
      by_cases c11 : ((rd_T67 l0_23 x7_1).f1) ≤ a1
      ·rw [if_pos c11] at H
       have c11b0 : decide (((rd_T67 l0_23 x7_1).f1) ≤ a1) = true := decide_eq_true c11
       clear c11
       (first | rw [c11b0] | (simp only [i64_w, i32_w]; rw [c11b0]) | skip)
       by_cases c12 : a0_3 < (wrap64 (x5_1 + ((rd_T67 l0_23 x7_1).f2)))
       ·rw [if_pos c12] at H
        have c12b0 : decide (a0_3 < (wrap64 (x5_1 + ((rd_T67 l0_23 x7_1).f2)))) = true := decide_eq_true c12
        clear c12
        have H' := am_ H
        clear H
        have hnb13 := NB621_619.out
        have hnc13 := NB619_621.out
        obtain ⟨Z14_0, Z14_1, Z14_2, Z14_3, Y14_0, Y14_1, Y14_2, Y14_3⟩ := cz4_ BK621.out
        obtain ⟨Z15_0, Z15_1, Z15_2, Z15_3, Z15_4, Z15_5, Z15_6, Z15_7, Z15_8, Z15_9, Z15_10, Z15_11, Z15_12, Z15_13, Z15_14, Z15_15, Z15_16, Z15_17, Z15_18, Z15_19, Z15_20, Z15_21, Z15_22, Z15_23, Z15_24, Y15_0, Y15_1, Y15_2, Y15_3, Y15_4, Y15_5, Y15_6, Y15_7, Y15_8, Y15_9, Y15_10, Y15_11, Y15_12, Y15_13, Y15_14, Y15_15, Y15_16, Y15_17, Y15_18, Y15_19, Y15_20, Y15_21, Y15_22, Y15_23, Y15_24⟩ := cz25_ BK619.out
        go_wp2
        go_meet
        case rel => exact ⟨_, (true), qs_, H', ⟨by have := HK1.out; first | omega | exact Nat.le_refl _⟩, ⟨qffff_ NB619_621.out NB619_621.out NB619_621.out NB619_621.out BK619.out⟩, ⟨by (with_reducible repeat (first | refine blk_drewN ?_ _ | refine blk_drew ?_ | refine blk_alloc ?_ _)); refine blk_put (cs := #[.int .i64 ((rd_T67 l0_23 x7_1).f0), .int .i64 ((rd_T67 l0_23 x7_1).f1), .int .i64 ((rd_T67 l0_23 x7_1).f2), .int .i64 0]) ?_ 3 _ rfl; (with_reducible repeat (first | refine blk_drewN ?_ _ | refine blk_drew ?_ | refine blk_alloc ?_ _)); refine blk_put (cs := #[.int .i64 ((rd_T67 l0_23 x7_1).f0), .int .i64 ((rd_T67 l0_23 x7_1).f1), .int .i64 0, .int .i64 0]) ?_ 2 _ rfl; (with_reducible repeat (first | refine blk_drewN ?_ _ | refine blk_drew ?_ | refine blk_alloc ?_ _)); refine blk_put (cs := #[.int .i64 ((rd_T67 l0_23 x7_1).f0), .int .i64 0, .int .i64 0, .int .i64 0]) ?_ 1 _ rfl; (with_reducible repeat (first | refine blk_drewN ?_ _ | refine blk_drew ?_ | refine blk_alloc ?_ _)); refine blk_put (cs := #[.int .i64 0, .int .i64 0, .int .i64 0, .int .i64 0]) ?_ 0 _ rfl; (with_reducible repeat (first | refine blk_drewN ?_ _ | refine blk_drew ?_ | refine blk_alloc ?_ _)); exact BK621.out⟩, ⟨qb2_ GE619.out GE621.out HB.out⟩⟩
       ·rw [if_neg c12] at H
        have c12b0 : decide (a0_3 < (wrap64 (x5_1 + ((rd_T67 l0_23 x7_1).f2)))) = false := decide_eq_false c12
        clear c12
        have H' := am_ H
        clear H
        have hnb16 := NB621_619.out
        have hnc16 := NB619_621.out
        obtain ⟨Z17_0, Z17_1, Z17_2, Z17_3, Y17_0, Y17_1, Y17_2, Y17_3⟩ := cz4_ BK621.out
        obtain ⟨Z18_0, Z18_1, Z18_2, Z18_3, Z18_4, Z18_5, Z18_6, Z18_7, Z18_8, Z18_9, Z18_10, Z18_11, Z18_12, Z18_13, Z18_14, Z18_15, Z18_16, Z18_17, Z18_18, Z18_19, Z18_20, Z18_21, Z18_22, Z18_23, Z18_24, Y18_0, Y18_1, Y18_2, Y18_3, Y18_4, Y18_5, Y18_6, Y18_7, Y18_8, Y18_9, Y18_10, Y18_11, Y18_12, Y18_13, Y18_14, Y18_15, Y18_16, Y18_17, Y18_18, Y18_19, Y18_20, Y18_21, Y18_22, Y18_23, Y18_24⟩ := cz25_ BK619.out
        go_wp2
        go_meet
        case rel => exact ⟨_, (decide (a0_4 < (wrap64 (x6_1 + ((rd_T67 l0_23 x7_1).f3))))), qs_, H', ⟨by have := HK1.out; first | omega | exact Nat.le_refl _⟩, ⟨qffff_ NB619_621.out NB619_621.out NB619_621.out NB619_621.out BK619.out⟩, ⟨by (with_reducible repeat (first | refine blk_drewN ?_ _ | refine blk_drew ?_ | refine blk_alloc ?_ _)); refine blk_put (cs := #[.int .i64 ((rd_T67 l0_23 x7_1).f0), .int .i64 ((rd_T67 l0_23 x7_1).f1), .int .i64 ((rd_T67 l0_23 x7_1).f2), .int .i64 0]) ?_ 3 _ rfl; (with_reducible repeat (first | refine blk_drewN ?_ _ | refine blk_drew ?_ | refine blk_alloc ?_ _)); refine blk_put (cs := #[.int .i64 ((rd_T67 l0_23 x7_1).f0), .int .i64 ((rd_T67 l0_23 x7_1).f1), .int .i64 0, .int .i64 0]) ?_ 2 _ rfl; (with_reducible repeat (first | refine blk_drewN ?_ _ | refine blk_drew ?_ | refine blk_alloc ?_ _)); refine blk_put (cs := #[.int .i64 ((rd_T67 l0_23 x7_1).f0), .int .i64 0, .int .i64 0, .int .i64 0]) ?_ 1 _ rfl; (with_reducible repeat (first | refine blk_drewN ?_ _ | refine blk_drew ?_ | refine blk_alloc ?_ _)); refine blk_put (cs := #[.int .i64 0, .int .i64 0, .int .i64 0, .int .i64 0]) ?_ 0 _ rfl; (with_reducible repeat (first | refine blk_drewN ?_ _ | refine blk_drew ?_ | refine blk_alloc ?_ _)); exact BK621.out⟩, ⟨qb2_ GE619.out GE621.out HB.out⟩⟩
      ·rw [if_neg c11] at H
       have c11b0 : decide (((rd_T67 l0_23 x7_1).f1) ≤ a1) = false := decide_eq_false c11
       clear c11
       (first | rw [c11b0] | (simp only [i64_w, i32_w]; rw [c11b0]) | skip)
       have H' := am_ H
       clear H
       have hnb19 := NB621_619.out
       have hnc19 := NB619_621.out
       obtain ⟨Z20_0, Z20_1, Z20_2, Z20_3, Y20_0, Y20_1, Y20_2, Y20_3⟩ := cz4_ BK621.out
       go_wp2
       go_meet
       case rel => exact ⟨_, (false), qs_, H', ⟨by have := HK1.out; first | omega | exact Nat.le_refl _⟩, ⟨qffff_ NB619_621.out NB619_621.out NB619_621.out NB619_621.out BK619.out⟩, ⟨by (with_reducible repeat (first | refine blk_drewN ?_ _ | refine blk_drew ?_ | refine blk_alloc ?_ _)); refine blk_put (cs := #[.int .i64 ((rd_T67 l0_23 x7_1).f0), .int .i64 ((rd_T67 l0_23 x7_1).f1), .int .i64 ((rd_T67 l0_23 x7_1).f2), .int .i64 0]) ?_ 3 _ rfl; (with_reducible repeat (first | refine blk_drewN ?_ _ | refine blk_drew ?_ | refine blk_alloc ?_ _)); refine blk_put (cs := #[.int .i64 ((rd_T67 l0_23 x7_1).f0), .int .i64 ((rd_T67 l0_23 x7_1).f1), .int .i64 0, .int .i64 0]) ?_ 2 _ rfl; (with_reducible repeat (first | refine blk_drewN ?_ _ | refine blk_drew ?_ | refine blk_alloc ?_ _)); refine blk_put (cs := #[.int .i64 ((rd_T67 l0_23 x7_1).f0), .int .i64 0, .int .i64 0, .int .i64 0]) ?_ 1 _ rfl; (with_reducible repeat (first | refine blk_drewN ?_ _ | refine blk_drew ?_ | refine blk_alloc ?_ _)); refine blk_put (cs := #[.int .i64 0, .int .i64 0, .int .i64 0, .int .i64 0]) ?_ 0 _ rfl; (with_reducible repeat (first | refine blk_drewN ?_ _ | refine blk_drew ?_ | refine blk_alloc ?_ _)); exact BK621.out⟩, ⟨qb2_ GE619.out GE621.out HB.out⟩⟩
     case rest =>
      clear HC6
      try clear c1
      try clear p2
      try clear c4
      try clear c4b0
      try clear c5
      try clear c5b0
      try clear p6
      try clear q6
      try clear hx6
      try clear c9
      try clear c11
      try clear c11b0
      try clear c12
      try clear c12b0
      try clear c13
      try clear c16
      try clear c19
      (try clear Z10_0 Z10_1 Z10_2 Z10_3 Y10_0 Y10_1 Y10_2 Y10_3)
      (try clear Z14_0 Z14_1 Z14_2 Z14_3 Y14_0 Y14_1 Y14_2 Y14_3)
      (try clear Z15_0 Z15_1 Z15_10 Z15_11 Z15_12 Z15_13 Z15_14 Z15_15 Z15_16 Z15_17 Z15_18 Z15_19 Z15_2 Z15_20 Z15_21 Z15_22 Z15_23 Z15_24 Z15_3 Z15_4 Z15_5 Z15_6 Z15_7 Z15_8 Z15_9 Y15_0 Y15_1 Y15_10 Y15_11 Y15_12 Y15_13 Y15_14 Y15_15 Y15_16 Y15_17 Y15_18 Y15_19 Y15_2 Y15_20 Y15_21 Y15_22 Y15_23 Y15_24 Y15_3 Y15_4 Y15_5 Y15_6 Y15_7 Y15_8 Y15_9)
      (try clear Z17_0 Z17_1 Z17_2 Z17_3 Y17_0 Y17_1 Y17_2 Y17_3)
      (try clear Z18_0 Z18_1 Z18_10 Z18_11 Z18_12 Z18_13 Z18_14 Z18_15 Z18_16 Z18_17 Z18_18 Z18_19 Z18_2 Z18_20 Z18_21 Z18_22 Z18_23 Z18_24 Z18_3 Z18_4 Z18_5 Z18_6 Z18_7 Z18_8 Z18_9 Y18_0 Y18_1 Y18_10 Y18_11 Y18_12 Y18_13 Y18_14 Y18_15 Y18_16 Y18_17 Y18_18 Y18_19 Y18_2 Y18_20 Y18_21 Y18_22 Y18_23 Y18_24 Y18_3 Y18_4 Y18_5 Y18_6 Y18_7 Y18_8 Y18_9)
      (try clear Z20_0 Z20_1 Z20_2 Z20_3 Y20_0 Y20_1 Y20_2 Y20_3)
      (try clear Z7_0 Z7_1 Z7_10 Z7_11 Z7_12 Z7_13 Z7_14 Z7_15 Z7_16 Z7_17 Z7_18 Z7_19 Z7_2 Z7_20 Z7_21 Z7_22 Z7_23 Z7_24 Z7_3 Z7_4 Z7_5 Z7_6 Z7_7 Z7_8 Z7_9 Y7_0 Y7_1 Y7_10 Y7_11 Y7_12 Y7_13 Y7_14 Y7_15 Y7_16 Y7_17 Y7_18 Y7_19 Y7_2 Y7_20 Y7_21 Y7_22 Y7_23 Y7_24 Y7_3 Y7_4 Y7_5 Y7_6 Y7_7 Y7_8 Y7_9)
      try clear hx620_0
      try clear hx620_1
      try clear hx620_2
      try clear hx620_3
      try clear p2
      try clear p620
      try clear q620
      obtain ⟨kq, x44_5, rfl, HA, HJ5, BK619, BK621, HB⟩ := hcut
      cases kq with
      | zero => exact absurd HA.out (by simp [r37_Days.j1])
      | succ kj5 =>
       have H := HA.out
       clear HA
       simp only [r37_Days.j1] at H
       by_cases c21 : x44_5 = true
       ·subst c21
        rw [if_pos rfl] at H
        obtain rfl := Option.some.inj H
        have hnb22 := NB621_619.out
        have hnc22 := NB619_621.out
        obtain ⟨Z23_0, Z23_1, Z23_2, Z23_3, Y23_0, Y23_1, Y23_2, Y23_3⟩ := cz4_ BK621.out
        go_wp2
        go_ret
        exact ⟨qe_, qb2_ GE619.out GE621.out HB.out⟩
       ·replace c21 := Bool.eq_false_iff.mpr c21
        subst c21
        rw [if_neg (show ¬ (false = true) by decide)] at H
        have H' := am_ H
        clear H
        go_wp2
        go_roundg kj5
        case measure => have := HK1.out; have := HJ5.out; omega
        case rel => exact ⟨((wrap64 (x5_1 + ((rd_T67 l0_23 x7_1).f2)))), ((wrap64 (x6_1 + ((rd_T67 l0_23 x7_1).f3)))), (wrap64 (x7_1 + 1)), qs_, qs_, qs_, H', ⟨by have := HK1.out; have := HJ5.out; omega⟩, ⟨qk_ BK619.out⟩, ⟨qb2_ GE619.out GE621.out HB.out⟩⟩
    ·rw [if_neg c5] at H
     exact absurd H (by simp)
   ·rw [if_neg c4] at H
    have c4b0 : decide (x7_1 < (l0_23.length : Int)) = false := decide_eq_false c4
    clear c4
    obtain rfl := Option.some.inj H
    obtain ⟨Z24_0, Z24_1, Z24_2, Z24_3, Z24_4, Z24_5, Z24_6, Z24_7, Z24_8, Z24_9, Z24_10, Z24_11, Z24_12, Z24_13, Z24_14, Z24_15, Z24_16, Z24_17, Z24_18, Z24_19, Z24_20, Z24_21, Z24_22, Z24_23, Z24_24, Y24_0, Y24_1, Y24_2, Y24_3, Y24_4, Y24_5, Y24_6, Y24_7, Y24_8, Y24_9, Y24_10, Y24_11, Y24_12, Y24_13, Y24_14, Y24_15, Y24_16, Y24_17, Y24_18, Y24_19, Y24_20, Y24_21, Y24_22, Y24_23, Y24_24⟩ := cz25_ BK619.out
    go_wp2
    go_ret
    exact ⟨qe_, qb1_ GE619.out HB.out⟩
def r34_Principal.l0 : Nat → Int → Int → Int → Int → Int → Int → Int → Int → Int → Int → Int → Int → Int → Int → Int → Int → Int → Int → Int → Int → Int → Int → Int → Int → ByteArray → ByteArray → List (S67) → List (S70) → Option (Int)
 | 0, _, _, _, _, _, _, _, _, _, _, _, _, _, _, _, _, _, _, _, _, _, _, _, _, _, _, _, _ => none
 | k + 1, x1, x5, x6, x623000, x623001, x623002, x623003, x623004, x623005, x623006, x623007, x623008, x623009, x623010, x623011, x623012, x623013, x623014, x623015, x623016, x623017, x623018, x623019, x623020, x623021, x623022, x623023, x623024 => if x6 < (x623023.length : Int) then (if 0 ≤ x6 then (if ((rd_T67 x623023 x6).f1) ≤ x1 then (r34_Principal.l0 k x1 (wrap64 (x5 + ((rd_T67 x623023 x6).f2))) (wrap64 (x6 + 1)) x623000 x623001 x623002 x623003 x623004 x623005 x623006 x623007 x623008 x623009 x623010 x623011 x623012 x623013 x623014 x623015 x623016 x623017 x623018 x623019 x623020 x623021 x623022 x623023 x623024) else (r34_Principal.l0 k x1 x5 (wrap64 (x6 + 1)) x623000 x623001 x623002 x623003 x623004 x623005 x623006 x623007 x623008 x623009 x623010 x623011 x623012 x623013 x623014 x623015 x623016 x623017 x623018 x623019 x623020 x623021 x623022 x623023 x623024)) else (none)) else (some x5)
def r34_Principal.f (k : Nat) (a0_0 a0_1 a0_2 a0_3 a0_4 a0_5 a0_6 a0_7 a0_8 a0_9 a0_10 a0_11 a0_12 a0_13 a0_14 a0_15 a0_16 a0_17 a0_18 a0_19 a0_20 : Int) (a0_21 a0_22 : ByteArray) (l0_23 : List (S67)) (l0_24 : List (S70)) (a1 : Int) : Option (Int) := r34_Principal.l0 k a1 0 0 a0_0 a0_1 a0_2 a0_3 a0_4 a0_5 a0_6 a0_7 a0_8 a0_9 a0_10 a0_11 a0_12 a0_13 a0_14 a0_15 a0_16 a0_17 a0_18 a0_19 a0_20 a0_21 a0_22 l0_23 l0_24
set_option maxHeartbeats 8000000 in
set_option maxRecDepth 100000 in
theorem r34_Principal.calls (k : Nat) (a0_0 a0_1 a0_2 a0_3 a0_4 a0_5 a0_6 a0_7 a0_8 a0_9 a0_10 a0_11 a0_12 a0_13 a0_14 a0_15 a0_16 a0_17 a0_18 a0_19 a0_20 : Int) (a0_21 a0_22 : ByteArray) (A0_23 : Option Addr) (c0_23 : Nat) (l0_23 : List (S67)) (A0_24 : Option Addr) (c0_24 : Nat) (l0_24 : List (S70)) (a1 r : Int) (w : World) (hr0_23 : Kd.C k67 w A0_23 l0_23.length l0_23) (hc0_23 : l0_23.length ≤ c0_23) (hr0_24 : Kd.C k70 w A0_24 l0_24.length l0_24) (hc0_24 : l0_24.length ≤ c0_24) (h : r34_Principal.f k a0_0 a0_1 a0_2 a0_3 a0_4 a0_5 a0_6 a0_7 a0_8 a0_9 a0_10 a0_11 a0_12 a0_13 a0_14 a0_15 a0_16 a0_17 a0_18 a0_19 a0_20 a0_21 a0_22 l0_23 l0_24 a1 = some r) :
  Calls Tryd.prog 50 #[.agg #[.int .i64 a0_0, .int .i64 a0_1, .int .i64 a0_2, .int .i64 a0_3, .int .i64 a0_4, .int .i64 a0_5, .int .i64 a0_6, .int .i64 a0_7, .int .i64 a0_8, .int .i64 a0_9, .int .i64 a0_10, .int .i64 a0_11, .int .i64 a0_12, .int .i64 a0_13, .int .i64 a0_14, .int .i64 a0_15, .int .i64 a0_16, .int .i64 a0_17, .int .i64 a0_18, .int .i64 a0_19, .int .i64 a0_20, .string a0_21, .string a0_22, .slice A0_23 l0_23.length c0_23, .slice A0_24 l0_24.length c0_24], .int .i64 a1] w fun e w' => e = .returned (.int .i64 r) ∧ Below w.heap.size w w' := by
 have hu27 := Tryd.underlying27
 have HR0_23 := am_ hr0_23
 have HC0_23 := am_ hc0_23
 clear hr0_23 hc0_23
 have HR0_24 := am_ hr0_24
 have HC0_24 := am_ hc0_24
 clear hr0_24 hc0_24
 have HB := am_ (Below.refl w.heap.size w)
 have H := h
 clear h
 unfold r34_Principal.f at H
 have H' := am_ H
 clear H
 go_enter Tryd.func50, Tryd.ntmps50
 go_wp2_with (first | ((with_reducible refine gate_load_ (t := 27) rfl ?_); refine ld_ (t := 27) Tryd.underlying27 rfl rfl rfl (qd_ BK622.out) rfl (by kernel_rfl) ?_) | ((with_reducible refine gate_load_ (t := 27) rfl ?_); refine ldgA_ (t := 27) Tryd.underlying27 rfl (by rfl) rfl (qd_ BK622.out) rfl (by kernel_rfl) ?_) | ((with_reducible refine gate_dst (N := 2) rfl ?_); refine be_ (N := 2) (cs := #[.int .i64 a0_0, .int .i64 a0_1, .int .i64 a0_2, .int .i64 a0_3, .int .i64 a0_4, .int .i64 a0_5, .int .i64 a0_6, .int .i64 a0_7, .int .i64 a0_8, .int .i64 a0_9, .int .i64 a0_10, .int .i64 a0_11, .int .i64 a0_12, .int .i64 a0_13, .int .i64 a0_14, .int .i64 a0_15, .int .i64 a0_16, .int .i64 a0_17, .int .i64 a0_18, .int .i64 a0_19, .int .i64 a0_20, .string a0_21, .string a0_22, .slice A0_23 l0_23.length c0_23, .slice A0_24 l0_24.length c0_24]) (t := 27) ?_; intro gb622 hg w3 hbox hb; have BK622 := am_ (hbox); have GE622 := am_ (bz_ hg (qb_ HB.out) : w.heap.size ≤ gb622); replace HB := am_ (below_step (qb_ HB.out) hb); clear hb hbox hg))
 go_loopg [5, 6] k (fun kq v5 v6 w' => ∃ (x5_1 x6_1 : Int), v5 = .int .i64 x5_1 ∧ v6 = .int .i64 x6_1 ∧ Aside0 (r34_Principal.l0 kq a1 x5_1 x6_1 a0_0 a0_1 a0_2 a0_3 a0_4 a0_5 a0_6 a0_7 a0_8 a0_9 a0_10 a0_11 a0_12 a0_13 a0_14 a0_15 a0_16 a0_17 a0_18 a0_19 a0_20 a0_21 a0_22 l0_23 l0_24 = some r) ∧ Aside0 (kq ≤ k) ∧ Aside0 (w'.heap[gb622]? = some (.cells #[.int .i64 a0_0, .int .i64 a0_1, .int .i64 a0_2, .int .i64 a0_3, .int .i64 a0_4, .int .i64 a0_5, .int .i64 a0_6, .int .i64 a0_7, .int .i64 a0_8, .int .i64 a0_9, .int .i64 a0_10, .int .i64 a0_11, .int .i64 a0_12, .int .i64 a0_13, .int .i64 a0_14, .int .i64 a0_15, .int .i64 a0_16, .int .i64 a0_17, .int .i64 a0_18, .int .i64 a0_19, .int .i64 a0_20, .string a0_21, .string a0_22, (.slice A0_23 l0_23.length c0_23), (.slice A0_24 l0_24.length c0_24)] 27 (0, 0))) ∧ Aside0 (Below w.heap.size w w'))
 case atStart => exact ⟨(0), (0), qs_, qs_, H', ⟨Nat.le_refl _⟩, ⟨qk_ BK622.out⟩, ⟨qb1_ GE622.out HB.out⟩⟩
 case round =>
  clear H'
  try clear p2
  obtain ⟨x5_1, x6_1, rfl, rfl, HA, HK1, BK622, HB⟩ := hrel
  cases gk with
  | zero => exact absurd HA.out (by simp [r34_Principal.l0])
  | succ k1 =>
   have H := HA.out
   clear HA
   simp only [r34_Principal.l0] at H
   by_cases c4 : x6_1 < (l0_23.length : Int)
   ·rw [if_pos c4] at H
    have c4b0 : decide (x6_1 < (l0_23.length : Int)) = true := decide_eq_true c4
    clear c4
    by_cases c5 : 0 ≤ x6_1
    ·rw [if_pos c5] at H
     have c5b0 : decide (0 ≤ x6_1) = true := decide_eq_true c5
     clear c5
     by_cases c6 : ((rd_T67 l0_23 x6_1).f1) ≤ a1
     ·rw [if_pos c6] at H
      have c6b0 : decide (((rd_T67 l0_23 x6_1).f1) ≤ a1) = true := decide_eq_true c6
      clear c6
      have H' := am_ H
      clear H
      obtain ⟨Z7_0, Z7_1, Z7_2, Z7_3, Z7_4, Z7_5, Z7_6, Z7_7, Z7_8, Z7_9, Z7_10, Z7_11, Z7_12, Z7_13, Z7_14, Z7_15, Z7_16, Z7_17, Z7_18, Z7_19, Z7_20, Z7_21, Z7_22, Z7_23, Z7_24, Y7_0, Y7_1, Y7_2, Y7_3, Y7_4, Y7_5, Y7_6, Y7_7, Y7_8, Y7_9, Y7_10, Y7_11, Y7_12, Y7_13, Y7_14, Y7_15, Y7_16, Y7_17, Y7_18, Y7_19, Y7_20, Y7_21, Y7_22, Y7_23, Y7_24⟩ := cz25_ BK622.out
      have p623 : 0 ≤ (x6_1 : Int) := of_decide_eq_true (by first | (with_reducible assumption) | assumption)
      have q623 : x6_1 < (l0_23.length : Int) := of_decide_eq_true (by first | (with_reducible assumption) | assumption)
      obtain ⟨ad623, e623, hx623_0, hx623_1, hx623_2, hx623_3⟩ := at_T67 HR0_23.out x6_1 p623 q623
      cases e623
      replace hx623_0 := bx_ HB.out hx623_0
      replace hx623_1 := bx_ HB.out hx623_1
      replace hx623_2 := bx_ HB.out hx623_2
      replace hx623_3 := bx_ HB.out hx623_3
      replace p623 := eq_true p623
      replace q623 := eq_true q623
      have p624 : 0 ≤ (x6_1 : Int) := of_decide_eq_true (by first | (with_reducible assumption) | assumption)
      have q624 : x6_1 < (l0_23.length : Int) := of_decide_eq_true (by first | (with_reducible assumption) | assumption)
      obtain ⟨ad624, e624, hx624_0, hx624_1, hx624_2, hx624_3⟩ := at_T67 HR0_23.out x6_1 p624 q624
      obtain rfl : ad623 = ad624 := (by injection e624)
      replace hx624_0 := bx_ HB.out hx624_0
      replace hx624_1 := bx_ HB.out hx624_1
      replace hx624_2 := bx_ HB.out hx624_2
      replace hx624_3 := bx_ HB.out hx624_3
      replace p624 := eq_true p624
      replace q624 := eq_true q624
      go_wp2
      go_roundg k1
      case measure => have := HK1.out; omega
      case rel => exact ⟨(wrap64 (x5_1 + ((rd_T67 l0_23 x6_1).f2))), (wrap64 (x6_1 + 1)), qs_, qs_, H', ⟨by have := HK1.out; omega⟩, ⟨qk_ BK622.out⟩, ⟨qb1_ GE622.out HB.out⟩⟩
     ·rw [if_neg c6] at H
      have c6b0 : decide (((rd_T67 l0_23 x6_1).f1) ≤ a1) = false := decide_eq_false c6
      clear c6
      have H' := am_ H
      clear H
      obtain ⟨Z8_0, Z8_1, Z8_2, Z8_3, Z8_4, Z8_5, Z8_6, Z8_7, Z8_8, Z8_9, Z8_10, Z8_11, Z8_12, Z8_13, Z8_14, Z8_15, Z8_16, Z8_17, Z8_18, Z8_19, Z8_20, Z8_21, Z8_22, Z8_23, Z8_24, Y8_0, Y8_1, Y8_2, Y8_3, Y8_4, Y8_5, Y8_6, Y8_7, Y8_8, Y8_9, Y8_10, Y8_11, Y8_12, Y8_13, Y8_14, Y8_15, Y8_16, Y8_17, Y8_18, Y8_19, Y8_20, Y8_21, Y8_22, Y8_23, Y8_24⟩ := cz25_ BK622.out
      have p623 : 0 ≤ (x6_1 : Int) := of_decide_eq_true (by first | (with_reducible assumption) | assumption)
      have q623 : x6_1 < (l0_23.length : Int) := of_decide_eq_true (by first | (with_reducible assumption) | assumption)
      obtain ⟨ad623, e623, hx623_0, hx623_1, hx623_2, hx623_3⟩ := at_T67 HR0_23.out x6_1 p623 q623
      cases e623
      replace hx623_0 := bx_ HB.out hx623_0
      replace hx623_1 := bx_ HB.out hx623_1
      replace hx623_2 := bx_ HB.out hx623_2
      replace hx623_3 := bx_ HB.out hx623_3
      replace p623 := eq_true p623
      replace q623 := eq_true q623
      go_wp2
      go_roundg k1
      case measure => have := HK1.out; omega
      case rel => exact ⟨(x5_1), (wrap64 (x6_1 + 1)), qs_, qs_, H', ⟨by have := HK1.out; omega⟩, ⟨qk_ BK622.out⟩, ⟨qb1_ GE622.out HB.out⟩⟩
    ·rw [if_neg c5] at H
     exact absurd H (by simp)
   ·rw [if_neg c4] at H
    have c4b0 : decide (x6_1 < (l0_23.length : Int)) = false := decide_eq_false c4
    clear c4
    obtain rfl := Option.some.inj H
    obtain ⟨Z9_0, Z9_1, Z9_2, Z9_3, Z9_4, Z9_5, Z9_6, Z9_7, Z9_8, Z9_9, Z9_10, Z9_11, Z9_12, Z9_13, Z9_14, Z9_15, Z9_16, Z9_17, Z9_18, Z9_19, Z9_20, Z9_21, Z9_22, Z9_23, Z9_24, Y9_0, Y9_1, Y9_2, Y9_3, Y9_4, Y9_5, Y9_6, Y9_7, Y9_8, Y9_9, Y9_10, Y9_11, Y9_12, Y9_13, Y9_14, Y9_15, Y9_16, Y9_17, Y9_18, Y9_19, Y9_20, Y9_21, Y9_22, Y9_23, Y9_24⟩ := cz25_ BK622.out
    go_wp2
    go_ret
    exact ⟨qe_, qb1_ GE622.out HB.out⟩
def r37_Overdue.f (k : Nat) (a0_0 a0_1 a0_2 a0_3 a0_4 a0_5 a0_6 a0_7 a0_8 a0_9 a0_10 a0_11 a0_12 a0_13 a0_14 a0_15 a0_16 a0_17 a0_18 a0_19 a0_20 : Int) (a0_21 a0_22 : ByteArray) (l0_23 : List (S67)) (l0_24 : List (S70)) (a1 : Int) : Option (Int) := (r34_Principal.f k a0_0 a0_1 a0_2 a0_3 a0_4 a0_5 a0_6 a0_7 a0_8 a0_9 a0_10 a0_11 a0_12 a0_13 a0_14 a0_15 a0_16 a0_17 a0_18 a0_19 a0_20 a0_21 a0_22 l0_23 l0_24 a1).bind fun t626 => (some (mx 0 (wrap64 (t626 - a0_3))))
def r37_Overdue.T1 : Bool × List (List Nat × List Nat) := (true, [([], []), ([], []), ([0, 1], [0, 1]), ([], []), ([3], [3]), ([2, 4], [2, 4]), ([5], [5]), ([6, 2, 0, 1, 2, 3, 4, 5, 6], [6])])
def r37_Overdue.B1 : List Nat := [0, 0, 3, 0, 8, 31, 63, 127]
theorem r37_Overdue.tab1 : rtab .any (opsOf Tryd.f20 1) = r37_Overdue.T1 := by kernel_rfl
theorem r37_Overdue.bits1 : waitsOk r37_Overdue.T1.2 r37_Overdue.B1 = true := by kernel_rfl
set_option maxHeartbeats 8000000 in
set_option maxRecDepth 100000 in
theorem r37_Overdue.calls (k : Nat) (a0_0 a0_1 a0_2 a0_3 a0_4 a0_5 a0_6 a0_7 a0_8 a0_9 a0_10 a0_11 a0_12 a0_13 a0_14 a0_15 a0_16 a0_17 a0_18 a0_19 a0_20 : Int) (a0_21 a0_22 : ByteArray) (A0_23 : Option Addr) (c0_23 : Nat) (l0_23 : List (S67)) (A0_24 : Option Addr) (c0_24 : Nat) (l0_24 : List (S70)) (a1 r : Int) (w : World) (hr0_23 : Kd.C k67 w A0_23 l0_23.length l0_23) (hc0_23 : l0_23.length ≤ c0_23) (hr0_24 : Kd.C k70 w A0_24 l0_24.length l0_24) (hc0_24 : l0_24.length ≤ c0_24) (h : r37_Overdue.f k a0_0 a0_1 a0_2 a0_3 a0_4 a0_5 a0_6 a0_7 a0_8 a0_9 a0_10 a0_11 a0_12 a0_13 a0_14 a0_15 a0_16 a0_17 a0_18 a0_19 a0_20 a0_21 a0_22 l0_23 l0_24 a1 = some r) :
  Calls Tryd.prog 20 #[.agg #[.int .i64 a0_0, .int .i64 a0_1, .int .i64 a0_2, .int .i64 a0_3, .int .i64 a0_4, .int .i64 a0_5, .int .i64 a0_6, .int .i64 a0_7, .int .i64 a0_8, .int .i64 a0_9, .int .i64 a0_10, .int .i64 a0_11, .int .i64 a0_12, .int .i64 a0_13, .int .i64 a0_14, .int .i64 a0_15, .int .i64 a0_16, .int .i64 a0_17, .int .i64 a0_18, .int .i64 a0_19, .int .i64 a0_20, .string a0_21, .string a0_22, .slice A0_23 l0_23.length c0_23, .slice A0_24 l0_24.length c0_24], .int .i64 a1] w fun e w' => e = .returned (.int .i64 r) ∧ Below w.heap.size w w' := by
 have hu27 := Tryd.underlying27
 have HR0_23 := am_ hr0_23
 have HC0_23 := am_ hc0_23
 clear hr0_23 hc0_23
 have HR0_24 := am_ hr0_24
 have HC0_24 := am_ hc0_24
 clear hr0_24 hc0_24
 have HB := am_ (Below.refl w.heap.size w)
 have H := h
 clear h
 unfold r37_Overdue.f at H
 replace H := Option.bind_eq_some_iff.mp H
 obtain ⟨t626, A30, H⟩ := H
 (try dsimp only at H)
 have A3 := am_ A30
 clear A30
 obtain ⟨ji4, hji4⟩ : ∃ j_ : Int, (mx 0 (wrap64 (t626 - a0_3))) = j_ := ⟨_, rfl⟩
 replace H : (some ji4) = some r := by first | (rw [hji4] at H; exact H) | (simp only [hji4] at H ⊢; exact H)
 (try rw [hji4] at A3)
 (try (have hji4l : 0 ≤ ji4 := by (rw [← hji4]; unfold mx; (repeat' split) <;> omega)))
 (try (have hji4m : 0 ≤ ji4 := by omega))
 have hji4_ : (if 0 < (wrap64 (t626 - a0_3)) then (wrap64 (t626 - a0_3)) else 0) = ji4 := hji4
 obtain rfl := Option.some.inj H
 go_enter Tryd.func20, Tryd.ntmps20
 try go_wp2_with (first | ((with_reducible refine gate_load_ (t := 27) rfl ?_); refine ld_ (t := 27) Tryd.underlying27 rfl rfl rfl (qd_ BK625.out) rfl (by kernel_rfl) ?_) | ((with_reducible refine gate_load_ (t := 27) rfl ?_); refine ldgA_ (t := 27) Tryd.underlying27 rfl (by rfl) rfl (qd_ BK625.out) rfl (by kernel_rfl) ?_) | ((with_reducible refine gate_dst (N := 2) rfl ?_); refine be_ (N := 2) (cs := #[.int .i64 a0_0, .int .i64 a0_1, .int .i64 a0_2, .int .i64 a0_3, .int .i64 a0_4, .int .i64 a0_5, .int .i64 a0_6, .int .i64 a0_7, .int .i64 a0_8, .int .i64 a0_9, .int .i64 a0_10, .int .i64 a0_11, .int .i64 a0_12, .int .i64 a0_13, .int .i64 a0_14, .int .i64 a0_15, .int .i64 a0_16, .int .i64 a0_17, .int .i64 a0_18, .int .i64 a0_19, .int .i64 a0_20, .string a0_21, .string a0_22, .slice A0_23 l0_23.length c0_23, .slice A0_24 l0_24.length c0_24]) (t := 27) ?_; intro gb625 hg w5 hbox hb; have BK625 := am_ (hbox); have GE625 := am_ (bz_ hg (qb_ HB.out) : w.heap.size ≤ gb625); replace HB := am_ (below_step (qb_ HB.out) hb); clear hb hbox hg))
 replace BK625 := am_ (blk_drew BK625.out)
 replace HB := am_ (below_drew1 HB.out)
 refine start_ (n := 8) (S := cS25_ gb625 (.int .i64 a0_0) (.int .i64 a0_1) (.int .i64 a0_2) (.int .i64 a0_3) (.int .i64 a0_4) (.int .i64 a0_5) (.int .i64 a0_6) (.int .i64 a0_7) (.int .i64 a0_8) (.int .i64 a0_9) (.int .i64 a0_10) (.int .i64 a0_11) (.int .i64 a0_12) (.int .i64 a0_13) (.int .i64 a0_14) (.int .i64 a0_15) (.int .i64 a0_16) (.int .i64 a0_17) (.int .i64 a0_18) (.int .i64 a0_19) (.int .i64 a0_20) (.string a0_21) (.string a0_22) (.slice A0_23 l0_23.length c0_23) (.slice A0_24 l0_24.length c0_24)) (ds := []) (nb_ 8 0) (by kernel_rfl) rfl rfl (cc25_ BK625.out) (fun hHeld => ?_); refine with_tabW r37_Overdue.tab1 r37_Overdue.bits1 (fun HT_ HW_ => ?_)
 generalize w5.drew = w6 at BK625 HB hHeld ⊢
 refine pz_ 1 6 (nb_ 8 2) HT_.out ?_
 refine pz_ 3 8 (nb_ 8 10) HT_.out ?_
 refine take_ (i := 0) (N := some 5) (v := ?_) (a' := ?_) (nb_ 8 11) rfl rfl (take_ofW HT_.out HW_.out (by kernel_rfl)) (fun _ _ _ h => h) (Or.inl ⟨by rfl, ?_⟩) hHeld ?_ ?_
 rotate_left
 ·rintro w' hs_
  first
  | (refine Eq.trans (ldx_ (by rfl) (by rfl) (ldS_ hs_)) ?_; with_reducible rfl)
  | (obtain ⟨s0, s1, s2, s3, s4, s5, s6, s7, s8, s9, s10, s11, s12, s13, s14, s15, s16, s17, s18, s19, s20, s21, s22, s23, s24⟩ := hs_; go_simp; with_reducible rfl)
 rotate_left
 ·simp only [Act.put, List.setIfInBounds_toArray, List.set_cons_zero, List.set_cons_succ, i64_w, i32_w]
  rfl
 refine take_ (i := 4) (N := some 9) (v := ?_) (a' := ?_) (nb_ 8 27) rfl rfl (take_ofW HT_.out HW_.out (by kernel_rfl)) (fun _ _ _ h => h) (Or.inl ⟨by rfl, ?_⟩) hHeld ?_ ?_
 rotate_left
 ·rintro w' hs_
  first
  | (refine Eq.trans (ldx_ (by rfl) (by rfl) (ldS_ hs_)) ?_; with_reducible rfl)
  | (obtain ⟨s0, s1, s2, s3, s4, s5, s6, s7, s8, s9, s10, s11, s12, s13, s14, s15, s16, s17, s18, s19, s20, s21, s22, s23, s24⟩ := hs_; go_simp; with_reducible rfl)
 rotate_left
 ·simp only [Act.put, List.setIfInBounds_toArray, List.set_cons_zero, List.set_cons_succ, i64_w, i32_w]
  rfl
 refine on_ 2 7 (nb_ 8 31) HT_.out (fun K hK => ?_)
 refine goes_ Tryd.func50 (by kernel_rfl) rfl #[.agg #[.int .i64 a0_0, .int .i64 a0_1, .int .i64 a0_2, .int .i64 a0_3, .int .i64 a0_4, .int .i64 a0_5, .int .i64 a0_6, .int .i64 a0_7, .int .i64 a0_8, .int .i64 a0_9, .int .i64 a0_10, .int .i64 a0_11, .int .i64 a0_12, .int .i64 a0_13, .int .i64 a0_14, .int .i64 a0_15, .int .i64 a0_16, .int .i64 a0_17, .int .i64 a0_18, .int .i64 a0_19, .int .i64 a0_20, .string a0_21, .string a0_22, .slice A0_23 l0_23.length c0_23, .slice A0_24 l0_24.length c0_24], .int .i64 a1] (by rfl) rfl rfl ql_ ?_
 with_reducible refine (r34_Principal.calls k a0_0 a0_1 a0_2 a0_3 a0_4 a0_5 a0_6 a0_7 a0_8 a0_9 a0_10 a0_11 a0_12 a0_13 a0_14 a0_15 a0_16 a0_17 a0_18 a0_19 a0_20 a0_21 a0_22 _ _ l0_23 _ _ l0_24 a1 t626 _ ?side1 ?side2 ?side3 ?side4 A3.out).mono ?_
 (case side1 => repeat (first | exact (Kd.C_below HR0_23.out HB.out) | (with_reducible refine Kd.C_alloc ?_ _) | (with_reducible refine Kd.C_drewN ?_ _) | (with_reducible refine Kd.C_drew ?_)))
 (case side2 => exact HC0_23.out)
 (case side3 => repeat (first | exact (Kd.C_below HR0_24.out HB.out) | (with_reducible refine Kd.C_alloc ?_ _) | (with_reducible refine Kd.C_drewN ?_ _) | (with_reducible refine Kd.C_drew ?_)))
 (case side4 => exact HC0_24.out)
 rintro e w7 ⟨rfl, hb⟩
 refine ⟨_, rfl, ?_⟩
 replace BK625 := am_ (blk_below (qk_ BK625.out) hb)
 replace HB := am_ (below_step (qb1_ GE625.out HB.out) hb)
 (try clear hb)
 refine hK.out _ _ (cc25_ BK625.out) (fun hHeld => ?_)
 clear hK K
 refine no_ ?_
 refine pz_ 5 10 (nb_ 8 63) HT_.out ?_
 refine pz_ 6 11 (nb_ 8 127) HT_.out ?_
 refine pz_ 7 4 (nb_ 8 255) HT_.out ?_
 refine done_ (done_of HT_.out (by kernel_rfl)) ?_
 try go_wp2
 go_ret
 exact ⟨by first | rfl | (simp [errW_none, errW_some] <;> rfl) | (simp only [← hji4]; first | rfl | (simp [errW_none, errW_some] <;> rfl)) | (simp [*, errW_none, errW_some] <;> rfl), qb1_ GE625.out HB.out⟩
def r37_Bucket.f (a0 : Int) : Option (Int) := if a0 ≤ 0 then (some 0) else (if a0 ≤ 30 then (some 1) else (if a0 ≤ 60 then (some 2) else (if a0 ≤ 90 then (some 3) else (some 4))))
set_option maxHeartbeats 8000000 in
set_option maxRecDepth 100000 in
theorem r37_Bucket.calls (a0 r : Int) (w : World) (h : r37_Bucket.f a0 = some r) :
  Calls Tryd.prog 22 #[.int .i64 a0] w fun e w' => e = .returned (.int .i64 r) ∧ Drawn0 w w' := by
 have H := h
 clear h
 unfold r37_Bucket.f at H
 by_cases c2 : a0 ≤ 0
 ·rw [if_pos c2] at H
  have c2b0 : decide (a0 ≤ 0) = true := decide_eq_true c2
  clear c2
  obtain rfl := Option.some.inj H
  go_enter Tryd.func22, Tryd.ntmps22
  go_wp2
  go_ret
  exact ⟨by first | rfl | (simp; done) | (simp [*]; done), by repeat (first | exact Drawn0.refl _ | apply Drawn0.step)⟩
 ·rw [if_neg c2] at H
  have c2b0 : decide (a0 ≤ 0) = false := decide_eq_false c2
  clear c2
  by_cases c3 : a0 ≤ 30
  ·rw [if_pos c3] at H
   have c3b0 : decide (a0 ≤ 30) = true := decide_eq_true c3
   clear c3
   obtain rfl := Option.some.inj H
   go_enter Tryd.func22, Tryd.ntmps22
   go_wp2
   go_ret
   exact ⟨by first | rfl | (simp; done) | (simp [*]; done), by repeat (first | exact Drawn0.refl _ | apply Drawn0.step)⟩
  ·rw [if_neg c3] at H
   have c3b0 : decide (a0 ≤ 30) = false := decide_eq_false c3
   clear c3
   by_cases c4 : a0 ≤ 60
   ·rw [if_pos c4] at H
    have c4b0 : decide (a0 ≤ 60) = true := decide_eq_true c4
    clear c4
    obtain rfl := Option.some.inj H
    go_enter Tryd.func22, Tryd.ntmps22
    go_wp2
    go_ret
    exact ⟨by first | rfl | (simp; done) | (simp [*]; done), by repeat (first | exact Drawn0.refl _ | apply Drawn0.step)⟩
   ·rw [if_neg c4] at H
    have c4b0 : decide (a0 ≤ 60) = false := decide_eq_false c4
    clear c4
    by_cases c5 : a0 ≤ 90
    ·rw [if_pos c5] at H
     have c5b0 : decide (a0 ≤ 90) = true := decide_eq_true c5
     clear c5
     obtain rfl := Option.some.inj H
     go_enter Tryd.func22, Tryd.ntmps22
     go_wp2
     go_ret
     exact ⟨by first | rfl | (simp; done) | (simp [*]; done), by repeat (first | exact Drawn0.refl _ | apply Drawn0.step)⟩
    ·rw [if_neg c5] at H
     have c5b0 : decide (a0 ≤ 90) = false := decide_eq_false c5
     clear c5
     obtain rfl := Option.some.inj H
     go_enter Tryd.func22, Tryd.ntmps22
     go_wp2
     go_ret
     exact ⟨by first | rfl | (simp; done) | (simp [*]; done), by repeat (first | exact Drawn0.refl _ | apply Drawn0.step)⟩
def corebanklaw37_ArrearsCounts.f (k : Nat) (a0_0 a0_1 a0_2 a0_3 a0_4 a0_5 a0_6 a0_7 a0_8 a0_9 a0_10 a0_11 a0_12 a0_13 a0_14 a0_15 a0_16 a0_17 a0_18 a0_19 a0_20 : Int) (a0_21 a0_22 : ByteArray) (l0_23 : List (S67)) (l0_24 : List (S70)) (a1 a2 : Int) : Option (Bool) := (r34_Great.f a0_0 a0_1 a0_2 a0_3 a0_4 a0_5 a0_6 a0_7 a0_8 a0_9 a0_10 a0_11 a0_12 a0_13 a0_14 a0_15 a0_16 a0_17 a0_18 a0_19 a0_20 a0_21 a0_22 l0_23 l0_24).bind fun t628 => (if t628 = true then (some true) else ((arrears_Days.f k a0_0 a0_1 a0_2 a0_3 a0_4 a0_5 a0_6 a0_7 a0_8 a0_9 a0_10 a0_11 a0_12 a0_13 a0_14 a0_15 a0_16 a0_17 a0_18 a0_19 a0_20 a0_21 a0_22 l0_23 l0_24 a1).bind fun t629 => ((r37_Days.f k a0_0 a0_1 a0_2 a0_3 a0_4 a0_5 a0_6 a0_7 a0_8 a0_9 a0_10 a0_11 a0_12 a0_13 a0_14 a0_15 a0_16 a0_17 a0_18 a0_19 a0_20 a0_21 a0_22 l0_23 l0_24 a1).bind fun t630 => (if t629 = t630 then ((arrears_Overdue.f k a0_0 a0_1 a0_2 a0_3 a0_4 a0_5 a0_6 a0_7 a0_8 a0_9 a0_10 a0_11 a0_12 a0_13 a0_14 a0_15 a0_16 a0_17 a0_18 a0_19 a0_20 a0_21 a0_22 l0_23 l0_24 a1).bind fun t631 => ((r37_Overdue.f k a0_0 a0_1 a0_2 a0_3 a0_4 a0_5 a0_6 a0_7 a0_8 a0_9 a0_10 a0_11 a0_12 a0_13 a0_14 a0_15 a0_16 a0_17 a0_18 a0_19 a0_20 a0_21 a0_22 l0_23 l0_24 a1).bind fun t632 => (if t631 = t632 then ((arrears_Bucket.f a2).bind fun t633 => ((r37_Bucket.f a2).bind fun t634 => (if t633 = t634 then ((corebanklaw37_Live.f k).bind fun t635 => (some t635)) else (some false)))) else (some false)))) else (some false)))))
def corebanklaw37_ArrearsCounts.T3 : Bool × List (List Nat × List Nat) := (true, [([], []), ([], []), ([0, 1], [0, 1]), ([], []), ([], []), ([3, 4, 2], [3, 4]), ([2, 5], [2, 5]), ([6, 5], [6]), ([7], [7]), ([7], [7]), ([8, 9, 7, 7], [7, 8, 9]), ([7], [7]), ([7], [7]), ([11, 12, 10, 7], [7, 11, 12]), ([10, 13, 7], [7, 10, 13]), ([7, 14], [7, 14]), ([15, 13], [15]), ([16], [16]), ([17, 16, 16], [16, 17]), ([16], [16]), ([19, 18, 16], [16, 19]), ([18, 20, 16], [16, 18, 20]), ([16, 21], [16, 21]), ([22, 20], [22]), ([23, 23], [23]), ([23, 24], [23, 24]), ([25, 24, 0, 1, 2, 3, 4, 5, 6, 7, 8, 9, 10, 11, 12, 13, 14, 15, 16, 17, 18, 19, 20, 21, 22, 23, 24, 25], [25])])
def corebanklaw37_ArrearsCounts.B3 : List Nat := [0, 0, 3, 0, 0, 31, 63, 127, 255, 255, 1023, 255, 255, 8191, 16383, 32767, 65535, 131071, 262143, 131071, 1048575, 2097151, 4194303, 8388607, 16777215, 33554431, 67108863]
theorem corebanklaw37_ArrearsCounts.tab3 : rtab .any (opsOf Tryd.f5 3) = corebanklaw37_ArrearsCounts.T3 := by kernel_rfl
theorem corebanklaw37_ArrearsCounts.bits3 : waitsOk corebanklaw37_ArrearsCounts.T3.2 corebanklaw37_ArrearsCounts.B3 = true := by kernel_rfl
set_option maxHeartbeats 8000000 in
set_option maxRecDepth 100000 in
theorem corebanklaw37_ArrearsCounts.calls1 (k : Nat) (a0_0 a0_1 a0_2 a0_3 a0_4 a0_5 a0_6 a0_7 a0_8 a0_9 a0_10 a0_11 a0_12 a0_13 a0_14 a0_15 a0_16 a0_17 a0_18 a0_19 a0_20 : Int) (a0_21 a0_22 : ByteArray) (A0_23 : Option Addr) (c0_23 : Nat) (l0_23 : List (S67)) (A0_24 : Option Addr) (c0_24 : Nat) (l0_24 : List (S70)) (a1 a2 : Int) (w : World) (hG : GW w) (hr0_23 : Kd.C k67 w A0_23 l0_23.length l0_23) (hc0_23 : l0_23.length ≤ c0_23) (hr0_24 : Kd.C k70 w A0_24 l0_24.length l0_24) (hc0_24 : l0_24.length ≤ c0_24) (h : corebanklaw37_ArrearsCounts.f k a0_0 a0_1 a0_2 a0_3 a0_4 a0_5 a0_6 a0_7 a0_8 a0_9 a0_10 a0_11 a0_12 a0_13 a0_14 a0_15 a0_16 a0_17 a0_18 a0_19 a0_20 a0_21 a0_22 l0_23 l0_24 a1 a2 = some true) :
  Calls Tryd.prog 5 #[.agg #[.int .i64 a0_0, .int .i64 a0_1, .int .i64 a0_2, .int .i64 a0_3, .int .i64 a0_4, .int .i64 a0_5, .int .i64 a0_6, .int .i64 a0_7, .int .i64 a0_8, .int .i64 a0_9, .int .i64 a0_10, .int .i64 a0_11, .int .i64 a0_12, .int .i64 a0_13, .int .i64 a0_14, .int .i64 a0_15, .int .i64 a0_16, .int .i64 a0_17, .int .i64 a0_18, .int .i64 a0_19, .int .i64 a0_20, .string a0_21, .string a0_22, .slice A0_23 l0_23.length c0_23, .slice A0_24 l0_24.length c0_24], .int .i64 a1, .int .i64 a2] w fun e w' => e = .returned (.bool true) ∧ Below w.heap.size w w' := by
 have hu27 := Tryd.underlying27
 have HR0_23 := am_ hr0_23
 have HC0_23 := am_ hc0_23
 clear hr0_23 hc0_23
 have HR0_24 := am_ hr0_24
 have HC0_24 := am_ hc0_24
 clear hr0_24 hc0_24
 have HB := am_ (Below.refl w.heap.size w)
 have H := h
 clear h
 unfold corebanklaw37_ArrearsCounts.f at H
 replace H := Option.bind_eq_some_iff.mp H
 obtain ⟨t628, A40, H⟩ := H
 (try dsimp only at H)
 have A4 := am_ A40
 clear A40
 by_cases c5 : t628 = true
 ·subst c5
  have H1 : (some true) = some true := rfl
  clear H
  have H := H1
  clear H1
  clear H
  go_enter Tryd.func5, Tryd.ntmps5
  go_wp2_with (first | ((with_reducible refine gate_load_ (t := 27) rfl ?_); refine ld_ (t := 27) Tryd.underlying27 rfl rfl rfl (by first | (with_reducible first | exact BK627.out) | ((repeat (first | (with_reducible first | refine blk_drewN ?_ _ | refine blk_drew ?_ | refine blk_alloc ?_ _) | refine blk_set ?_ _ _)); (with_reducible first | exact BK627.out))) rfl (by kernel_rfl) ?_) | ((with_reducible refine gate_load_ (t := 27) rfl ?_); refine ldgA_ (t := 27) Tryd.underlying27 rfl (by rfl) rfl (by first | (with_reducible first | exact BK627.out) | ((repeat (first | (with_reducible first | refine blk_drewN ?_ _ | refine blk_drew ?_ | refine blk_alloc ?_ _) | refine blk_set ?_ _ _)); (with_reducible first | exact BK627.out))) rfl (by kernel_rfl) ?_) | ((with_reducible refine gate_dst (N := 3) rfl ?_); refine be_ (N := 3) (cs := #[.int .i64 a0_0, .int .i64 a0_1, .int .i64 a0_2, .int .i64 a0_3, .int .i64 a0_4, .int .i64 a0_5, .int .i64 a0_6, .int .i64 a0_7, .int .i64 a0_8, .int .i64 a0_9, .int .i64 a0_10, .int .i64 a0_11, .int .i64 a0_12, .int .i64 a0_13, .int .i64 a0_14, .int .i64 a0_15, .int .i64 a0_16, .int .i64 a0_17, .int .i64 a0_18, .int .i64 a0_19, .int .i64 a0_20, .string a0_21, .string a0_22, .slice A0_23 l0_23.length c0_23, .slice A0_24 l0_24.length c0_24]) (t := 27) ?_; intro gb627 hg w6 hbox hb; have BK627 := am_ (hbox); have GE627 := am_ (bz_ hg (qb_ HB.out) : w.heap.size ≤ gb627); replace HB := am_ (below_step (qb_ HB.out) hb); clear hb hbox hg; obtain ⟨Z7_0, Z7_1, Z7_2, Z7_3, Z7_4, Z7_5, Z7_6, Z7_7, Z7_8, Z7_9, Z7_10, Z7_11, Z7_12, Z7_13, Z7_14, Z7_15, Z7_16, Z7_17, Z7_18, Z7_19, Z7_20, Z7_21, Z7_22, Z7_23, Z7_24, Y7_0, Y7_1, Y7_2, Y7_3, Y7_4, Y7_5, Y7_6, Y7_7, Y7_8, Y7_9, Y7_10, Y7_11, Y7_12, Y7_13, Y7_14, Y7_15, Y7_16, Y7_17, Y7_18, Y7_19, Y7_20, Y7_21, Y7_22, Y7_23, Y7_24⟩ := cz25_ BK627.out) | ((with_reducible refine gate_callee (f := 8) rfl ?_); refine goesL_ (some 8) rfl rfl Tryd.func8 (by kernel_rfl) rfl #[.agg #[.int .i64 a0_0, .int .i64 a0_1, .int .i64 a0_2, .int .i64 a0_3, .int .i64 a0_4, .int .i64 a0_5, .int .i64 a0_6, .int .i64 a0_7, .int .i64 a0_8, .int .i64 a0_9, .int .i64 a0_10, .int .i64 a0_11, .int .i64 a0_12, .int .i64 a0_13, .int .i64 a0_14, .int .i64 a0_15, .int .i64 a0_16, .int .i64 a0_17, .int .i64 a0_18, .int .i64 a0_19, .int .i64 a0_20, .string a0_21, .string a0_22, .slice A0_23 l0_23.length c0_23, .slice A0_24 l0_24.length c0_24]] rfl ql_ ?_; (with_reducible refine (r34_Great.calls a0_0 a0_1 a0_2 a0_3 a0_4 a0_5 a0_6 a0_7 a0_8 a0_9 a0_10 a0_11 a0_12 a0_13 a0_14 a0_15 a0_16 a0_17 a0_18 a0_19 a0_20 a0_21 a0_22 _ _ l0_23 _ _ l0_24 true _ ?side1 ?side2 ?side3 ?side4 A4.out).mono ?_); (case side1 => repeat (first | exact (Kd.C_below HR0_23.out HB.out) | (with_reducible refine Kd.C_alloc ?_ _) | (with_reducible refine Kd.C_drewN ?_ _) | (with_reducible refine Kd.C_drew ?_))); (case side2 => exact HC0_23.out); (case side3 => repeat (first | exact (Kd.C_below HR0_24.out HB.out) | (with_reducible refine Kd.C_alloc ?_ _) | (with_reducible refine Kd.C_drewN ?_ _) | (with_reducible refine Kd.C_drew ?_))); (case side4 => exact HC0_24.out); rintro e w8 ⟨rfl, hb⟩; refine ⟨_, rfl, ?_⟩; replace BK627 := am_ (blk_below (qk_ BK627.out) hb); replace HB := am_ (below_step (qb1_ GE627.out HB.out) hb); (try clear hb)))
  go_ret
  exact ⟨qe_, qb1_ GE627.out HB.out⟩
 ·replace c5 := Bool.eq_false_iff.mpr c5
  subst c5
  rw [if_neg (show ¬ (false = true) by decide)] at H
  replace H := Option.bind_eq_some_iff.mp H
  obtain ⟨t629, A90, H⟩ := H
  (try dsimp only at H)
  have A9 := am_ A90
  clear A90
  replace H := Option.bind_eq_some_iff.mp H
  obtain ⟨t630, A100, H⟩ := H
  (try dsimp only at H)
  have A10 := am_ A100
  clear A100
  by_cases c11 : t629 = t630
  ·rw [if_pos c11] at H
   have c11b0 : (t629 == t630) = true := beq_iff_eq.mpr c11
   have c11b1 : (t629 != t630) = false := bne_eq_false_iff_eq.mpr c11
   clear c11
   replace H := Option.bind_eq_some_iff.mp H
   obtain ⟨t631, A120, H⟩ := H
   (try dsimp only at H)
   have A12 := am_ A120
   clear A120
   replace H := Option.bind_eq_some_iff.mp H
   obtain ⟨t632, A130, H⟩ := H
   (try dsimp only at H)
   have A13 := am_ A130
   clear A130
   by_cases c14 : t631 = t632
   ·rw [if_pos c14] at H
    have c14b0 : (t631 == t632) = true := beq_iff_eq.mpr c14
    have c14b1 : (t631 != t632) = false := bne_eq_false_iff_eq.mpr c14
    clear c14
    replace H := Option.bind_eq_some_iff.mp H
    obtain ⟨t633, A150, H⟩ := H
    (try dsimp only at H)
    have A15 := am_ A150
    clear A150
    replace H := Option.bind_eq_some_iff.mp H
    obtain ⟨t634, A160, H⟩ := H
    (try dsimp only at H)
    have A16 := am_ A160
    clear A160
    by_cases c17 : t633 = t634
    ·rw [if_pos c17] at H
     have c17b0 : (t633 == t634) = true := beq_iff_eq.mpr c17
     have c17b1 : (t633 != t634) = false := bne_eq_false_iff_eq.mpr c17
     clear c17
     replace H := Option.bind_eq_some_iff.mp H
     obtain ⟨t635, A180, H⟩ := H
     (try dsimp only at H)
     have A18 := am_ A180
     clear A180
     have HL_ := Option.some.inj H
     go_enter Tryd.func5, Tryd.ntmps5
     try go_wp2_with (first | ((with_reducible refine gate_load_ (t := 27) rfl ?_); refine ld_ (t := 27) Tryd.underlying27 rfl rfl rfl (by first | (with_reducible first | exact BK627.out) | ((repeat (first | (with_reducible first | refine blk_drewN ?_ _ | refine blk_drew ?_ | refine blk_alloc ?_ _) | refine blk_set ?_ _ _)); (with_reducible first | exact BK627.out))) rfl (by kernel_rfl) ?_) | ((with_reducible refine gate_load_ (t := 27) rfl ?_); refine ldgA_ (t := 27) Tryd.underlying27 rfl (by rfl) rfl (by first | (with_reducible first | exact BK627.out) | ((repeat (first | (with_reducible first | refine blk_drewN ?_ _ | refine blk_drew ?_ | refine blk_alloc ?_ _) | refine blk_set ?_ _ _)); (with_reducible first | exact BK627.out))) rfl (by kernel_rfl) ?_) | ((with_reducible refine gate_dst (N := 3) rfl ?_); refine be_ (N := 3) (cs := #[.int .i64 a0_0, .int .i64 a0_1, .int .i64 a0_2, .int .i64 a0_3, .int .i64 a0_4, .int .i64 a0_5, .int .i64 a0_6, .int .i64 a0_7, .int .i64 a0_8, .int .i64 a0_9, .int .i64 a0_10, .int .i64 a0_11, .int .i64 a0_12, .int .i64 a0_13, .int .i64 a0_14, .int .i64 a0_15, .int .i64 a0_16, .int .i64 a0_17, .int .i64 a0_18, .int .i64 a0_19, .int .i64 a0_20, .string a0_21, .string a0_22, .slice A0_23 l0_23.length c0_23, .slice A0_24 l0_24.length c0_24]) (t := 27) ?_; intro gb627 hg w19 hbox hb; have BK627 := am_ (hbox); have GE627 := am_ (bz_ hg (qb_ HB.out) : w.heap.size ≤ gb627); replace HB := am_ (below_step (qb_ HB.out) hb); clear hb hbox hg; obtain ⟨Z20_0, Z20_1, Z20_2, Z20_3, Z20_4, Z20_5, Z20_6, Z20_7, Z20_8, Z20_9, Z20_10, Z20_11, Z20_12, Z20_13, Z20_14, Z20_15, Z20_16, Z20_17, Z20_18, Z20_19, Z20_20, Z20_21, Z20_22, Z20_23, Z20_24, Y20_0, Y20_1, Y20_2, Y20_3, Y20_4, Y20_5, Y20_6, Y20_7, Y20_8, Y20_9, Y20_10, Y20_11, Y20_12, Y20_13, Y20_14, Y20_15, Y20_16, Y20_17, Y20_18, Y20_19, Y20_20, Y20_21, Y20_22, Y20_23, Y20_24⟩ := cz25_ BK627.out) | ((with_reducible refine gate_callee (f := 8) rfl ?_); refine goesL_ (some 8) rfl rfl Tryd.func8 (by kernel_rfl) rfl #[.agg #[.int .i64 a0_0, .int .i64 a0_1, .int .i64 a0_2, .int .i64 a0_3, .int .i64 a0_4, .int .i64 a0_5, .int .i64 a0_6, .int .i64 a0_7, .int .i64 a0_8, .int .i64 a0_9, .int .i64 a0_10, .int .i64 a0_11, .int .i64 a0_12, .int .i64 a0_13, .int .i64 a0_14, .int .i64 a0_15, .int .i64 a0_16, .int .i64 a0_17, .int .i64 a0_18, .int .i64 a0_19, .int .i64 a0_20, .string a0_21, .string a0_22, .slice A0_23 l0_23.length c0_23, .slice A0_24 l0_24.length c0_24]] rfl ql_ ?_; (with_reducible refine (r34_Great.calls a0_0 a0_1 a0_2 a0_3 a0_4 a0_5 a0_6 a0_7 a0_8 a0_9 a0_10 a0_11 a0_12 a0_13 a0_14 a0_15 a0_16 a0_17 a0_18 a0_19 a0_20 a0_21 a0_22 _ _ l0_23 _ _ l0_24 false _ ?side1 ?side2 ?side3 ?side4 A4.out).mono ?_); (case side1 => repeat (first | exact (Kd.C_below HR0_23.out HB.out) | (with_reducible refine Kd.C_alloc ?_ _) | (with_reducible refine Kd.C_drewN ?_ _) | (with_reducible refine Kd.C_drew ?_))); (case side2 => exact HC0_23.out); (case side3 => repeat (first | exact (Kd.C_below HR0_24.out HB.out) | (with_reducible refine Kd.C_alloc ?_ _) | (with_reducible refine Kd.C_drewN ?_ _) | (with_reducible refine Kd.C_drew ?_))); (case side4 => exact HC0_24.out); rintro e w21 ⟨rfl, hb⟩; refine ⟨_, rfl, ?_⟩; replace BK627 := am_ (blk_below (qk_ BK627.out) hb); replace HB := am_ (below_step (qb1_ GE627.out HB.out) hb); (try clear hb)))
     replace BK627 := am_ (blk_drew BK627.out)
     replace HB := am_ (below_drew1 HB.out)
     refine start_ (n := 27) (S := cS25_ gb627 (.int .i64 a0_0) (.int .i64 a0_1) (.int .i64 a0_2) (.int .i64 a0_3) (.int .i64 a0_4) (.int .i64 a0_5) (.int .i64 a0_6) (.int .i64 a0_7) (.int .i64 a0_8) (.int .i64 a0_9) (.int .i64 a0_10) (.int .i64 a0_11) (.int .i64 a0_12) (.int .i64 a0_13) (.int .i64 a0_14) (.int .i64 a0_15) (.int .i64 a0_16) (.int .i64 a0_17) (.int .i64 a0_18) (.int .i64 a0_19) (.int .i64 a0_20) (.string a0_21) (.string a0_22) (.slice A0_23 l0_23.length c0_23) (.slice A0_24 l0_24.length c0_24)) (ds := []) (nb_ 27 0) (by kernel_rfl) rfl rfl (cc25_ BK627.out) (fun hHeld => ?_); refine with_tabW corebanklaw37_ArrearsCounts.tab3 corebanklaw37_ArrearsCounts.bits3 (fun HT_ HW_ => ?_)
     generalize w21.drew = w22 at BK627 HB hHeld ⊢
     refine pz_ 1 10 (nb_ 27 2) HT_.out ?_
     refine pz_ 4 13 (nb_ 27 18) HT_.out ?_
     refine take_ (i := 0) (N := some 9) (v := ?_) (a' := ?_) (nb_ 27 19) rfl rfl (take_ofW HT_.out HW_.out (by kernel_rfl)) (fun _ _ _ h => h) (Or.inl ⟨by rfl, ?_⟩) hHeld ?_ ?_
     rotate_left
     ·rintro w' hs_
      first
      | (refine Eq.trans (ldx_ (by rfl) (by rfl) (ldS_ hs_)) ?_; with_reducible rfl)
      | (obtain ⟨s0, s1, s2, s3, s4, s5, s6, s7, s8, s9, s10, s11, s12, s13, s14, s15, s16, s17, s18, s19, s20, s21, s22, s23, s24⟩ := hs_; go_simp; with_reducible rfl)
     rotate_left
     ·simp only [Act.put, List.setIfInBounds_toArray, List.set_cons_zero, List.set_cons_succ, i64_w, i32_w]
      rfl
     refine take_ (i := 3) (N := some 12) (v := ?_) (a' := ?_) (nb_ 27 27) rfl rfl (take_ofW HT_.out HW_.out (by kernel_rfl)) (fun _ _ _ h => h) (Or.inl ⟨by rfl, ?_⟩) hHeld ?_ ?_
     rotate_left
     ·rintro w' hs_
      first
      | (refine Eq.trans (ldx_ (by rfl) (by rfl) (ldS_ hs_)) ?_; with_reducible rfl)
      | (obtain ⟨s0, s1, s2, s3, s4, s5, s6, s7, s8, s9, s10, s11, s12, s13, s14, s15, s16, s17, s18, s19, s20, s21, s22, s23, s24⟩ := hs_; go_simp; with_reducible rfl)
     rotate_left
     ·simp only [Act.put, List.setIfInBounds_toArray, List.set_cons_zero, List.set_cons_succ, i64_w, i32_w]
      rfl
     refine on_ 2 11 (nb_ 27 31) HT_.out (fun K hK => ?_)
     refine goes_ Tryd.func15 (by kernel_rfl) rfl #[.agg #[.int .i64 a0_0, .int .i64 a0_1, .int .i64 a0_2, .int .i64 a0_3, .int .i64 a0_4, .int .i64 a0_5, .int .i64 a0_6, .int .i64 a0_7, .int .i64 a0_8, .int .i64 a0_9, .int .i64 a0_10, .int .i64 a0_11, .int .i64 a0_12, .int .i64 a0_13, .int .i64 a0_14, .int .i64 a0_15, .int .i64 a0_16, .int .i64 a0_17, .int .i64 a0_18, .int .i64 a0_19, .int .i64 a0_20, .string a0_21, .string a0_22, .slice A0_23 l0_23.length c0_23, .slice A0_24 l0_24.length c0_24], .int .i64 a1] (by rfl) rfl rfl ql_ ?_
     with_reducible refine (arrears_Days.calls k a0_0 a0_1 a0_2 a0_3 a0_4 a0_5 a0_6 a0_7 a0_8 a0_9 a0_10 a0_11 a0_12 a0_13 a0_14 a0_15 a0_16 a0_17 a0_18 a0_19 a0_20 a0_21 a0_22 _ _ l0_23 _ _ l0_24 a1 t629 _ ?side1 ?side2 ?side3 ?side4 A9.out).mono ?_
     (case side1 => repeat (first | exact (Kd.C_below HR0_23.out HB.out) | (with_reducible refine Kd.C_alloc ?_ _) | (with_reducible refine Kd.C_drewN ?_ _) | (with_reducible refine Kd.C_drew ?_)))
     (case side2 => exact HC0_23.out)
     (case side3 => repeat (first | exact (Kd.C_below HR0_24.out HB.out) | (with_reducible refine Kd.C_alloc ?_ _) | (with_reducible refine Kd.C_drewN ?_ _) | (with_reducible refine Kd.C_drew ?_)))
     (case side4 => exact HC0_24.out)
     rintro e w23 ⟨rfl, hb⟩
     refine ⟨_, rfl, ?_⟩
     replace BK627 := am_ (blk_below (qk_ BK627.out) hb)
     replace HB := am_ (below_step (qb1_ GE627.out HB.out) hb)
     (try clear hb)
     refine hK.out _ _ (cc25_ BK627.out) (fun hHeld => ?_)
     clear hK K
     refine no_ ?_
     refine on_ 5 14 (nb_ 27 63) HT_.out (fun K hK => ?_)
     refine goes_ Tryd.func19 (by kernel_rfl) rfl #[.agg #[.int .i64 a0_0, .int .i64 a0_1, .int .i64 a0_2, .int .i64 a0_3, .int .i64 a0_4, .int .i64 a0_5, .int .i64 a0_6, .int .i64 a0_7, .int .i64 a0_8, .int .i64 a0_9, .int .i64 a0_10, .int .i64 a0_11, .int .i64 a0_12, .int .i64 a0_13, .int .i64 a0_14, .int .i64 a0_15, .int .i64 a0_16, .int .i64 a0_17, .int .i64 a0_18, .int .i64 a0_19, .int .i64 a0_20, .string a0_21, .string a0_22, .slice A0_23 l0_23.length c0_23, .slice A0_24 l0_24.length c0_24], .int .i64 a1] (by rfl) rfl rfl ql_ ?_
     with_reducible refine (r37_Days.calls k a0_0 a0_1 a0_2 a0_3 a0_4 a0_5 a0_6 a0_7 a0_8 a0_9 a0_10 a0_11 a0_12 a0_13 a0_14 a0_15 a0_16 a0_17 a0_18 a0_19 a0_20 a0_21 a0_22 _ _ l0_23 _ _ l0_24 a1 t630 _ ?side1 ?side2 ?side3 ?side4 A10.out).mono ?_
     (case side1 => repeat (first | exact (Kd.C_below HR0_23.out HB.out) | (with_reducible refine Kd.C_alloc ?_ _) | (with_reducible refine Kd.C_drewN ?_ _) | (with_reducible refine Kd.C_drew ?_)))
     (case side2 => exact HC0_23.out)
     (case side3 => repeat (first | exact (Kd.C_below HR0_24.out HB.out) | (with_reducible refine Kd.C_alloc ?_ _) | (with_reducible refine Kd.C_drewN ?_ _) | (with_reducible refine Kd.C_drew ?_)))
     (case side4 => exact HC0_24.out)
     rintro e w24 ⟨rfl, hb⟩
     refine ⟨_, rfl, ?_⟩
     replace BK627 := am_ (blk_below (qk_ BK627.out) hb)
     replace HB := am_ (below_step (qb1_ GE627.out HB.out) hb)
     (try clear hb)
     refine hK.out _ _ (cc25_ BK627.out) (fun hHeld => ?_)
     clear hK K
     refine no_ ?_
     refine pz_ 6 15 (nb_ 27 127) HT_.out ?_
     refine pz_ 7 16 (nb_ 27 255) HT_.out ?_
     refine pz_ 9 18 (nb_ 27 767) HT_.out ?_
     refine pz_ 12 21 (nb_ 27 4863) HT_.out ?_
     refine take_ (i := 8) (N := some 17) (v := ?_) (a' := ?_) (nb_ 27 5119) rfl rfl (take_ofW HT_.out HW_.out (by kernel_rfl)) (fun _ _ _ h => h) (Or.inl ⟨by rfl, ?_⟩) hHeld ?_ ?_
     rotate_left
     ·rintro w' hs_
      first
      | (refine Eq.trans (ldx_ (by rfl) (by rfl) (ldS_ hs_)) ?_; with_reducible rfl)
      | (obtain ⟨s0, s1, s2, s3, s4, s5, s6, s7, s8, s9, s10, s11, s12, s13, s14, s15, s16, s17, s18, s19, s20, s21, s22, s23, s24⟩ := hs_; go_simp; with_reducible rfl)
     rotate_left
     ·simp only [Act.put, List.setIfInBounds_toArray, List.set_cons_zero, List.set_cons_succ, i64_w, i32_w]
      rfl
     refine take_ (i := 11) (N := some 20) (v := ?_) (a' := ?_) (nb_ 27 7167) rfl rfl (take_ofW HT_.out HW_.out (by kernel_rfl)) (fun _ _ _ h => h) (Or.inl ⟨by rfl, ?_⟩) hHeld ?_ ?_
     rotate_left
     ·rintro w' hs_
      first
      | (refine Eq.trans (ldx_ (by rfl) (by rfl) (ldS_ hs_)) ?_; with_reducible rfl)
      | (obtain ⟨s0, s1, s2, s3, s4, s5, s6, s7, s8, s9, s10, s11, s12, s13, s14, s15, s16, s17, s18, s19, s20, s21, s22, s23, s24⟩ := hs_; go_simp; with_reducible rfl)
     rotate_left
     ·simp only [Act.put, List.setIfInBounds_toArray, List.set_cons_zero, List.set_cons_succ, i64_w, i32_w]
      rfl
     refine on_ 10 19 (nb_ 27 8191) HT_.out (fun K hK => ?_)
     refine goes_ Tryd.func17 (by kernel_rfl) rfl #[.agg #[.int .i64 a0_0, .int .i64 a0_1, .int .i64 a0_2, .int .i64 a0_3, .int .i64 a0_4, .int .i64 a0_5, .int .i64 a0_6, .int .i64 a0_7, .int .i64 a0_8, .int .i64 a0_9, .int .i64 a0_10, .int .i64 a0_11, .int .i64 a0_12, .int .i64 a0_13, .int .i64 a0_14, .int .i64 a0_15, .int .i64 a0_16, .int .i64 a0_17, .int .i64 a0_18, .int .i64 a0_19, .int .i64 a0_20, .string a0_21, .string a0_22, .slice A0_23 l0_23.length c0_23, .slice A0_24 l0_24.length c0_24], .int .i64 a1] (by rfl) rfl rfl ql_ ?_
     with_reducible refine (arrears_Overdue.calls k a0_0 a0_1 a0_2 a0_3 a0_4 a0_5 a0_6 a0_7 a0_8 a0_9 a0_10 a0_11 a0_12 a0_13 a0_14 a0_15 a0_16 a0_17 a0_18 a0_19 a0_20 a0_21 a0_22 _ _ l0_23 _ _ l0_24 a1 t631 _ ?side1 ?side2 ?side3 ?side4 A12.out).mono ?_
     (case side1 => repeat (first | exact (Kd.C_below HR0_23.out HB.out) | (with_reducible refine Kd.C_alloc ?_ _) | (with_reducible refine Kd.C_drewN ?_ _) | (with_reducible refine Kd.C_drew ?_)))
     (case side2 => exact HC0_23.out)
     (case side3 => repeat (first | exact (Kd.C_below HR0_24.out HB.out) | (with_reducible refine Kd.C_alloc ?_ _) | (with_reducible refine Kd.C_drewN ?_ _) | (with_reducible refine Kd.C_drew ?_)))
     (case side4 => exact HC0_24.out)
     rintro e w25 ⟨rfl, hb⟩
     refine ⟨_, rfl, ?_⟩
     replace BK627 := am_ (blk_below (qk_ BK627.out) hb)
     replace HB := am_ (below_step (qb1_ GE627.out HB.out) hb)
     (try clear hb)
     refine hK.out _ _ (cc25_ BK627.out) (fun hHeld => ?_)
     clear hK K
     refine no_ ?_
     refine on_ 13 22 (nb_ 27 16383) HT_.out (fun K hK => ?_)
     refine goes_ Tryd.func20 (by kernel_rfl) rfl #[.agg #[.int .i64 a0_0, .int .i64 a0_1, .int .i64 a0_2, .int .i64 a0_3, .int .i64 a0_4, .int .i64 a0_5, .int .i64 a0_6, .int .i64 a0_7, .int .i64 a0_8, .int .i64 a0_9, .int .i64 a0_10, .int .i64 a0_11, .int .i64 a0_12, .int .i64 a0_13, .int .i64 a0_14, .int .i64 a0_15, .int .i64 a0_16, .int .i64 a0_17, .int .i64 a0_18, .int .i64 a0_19, .int .i64 a0_20, .string a0_21, .string a0_22, .slice A0_23 l0_23.length c0_23, .slice A0_24 l0_24.length c0_24], .int .i64 a1] (by rfl) rfl rfl ql_ ?_
     with_reducible refine (r37_Overdue.calls k a0_0 a0_1 a0_2 a0_3 a0_4 a0_5 a0_6 a0_7 a0_8 a0_9 a0_10 a0_11 a0_12 a0_13 a0_14 a0_15 a0_16 a0_17 a0_18 a0_19 a0_20 a0_21 a0_22 _ _ l0_23 _ _ l0_24 a1 t632 _ ?side1 ?side2 ?side3 ?side4 A13.out).mono ?_
     (case side1 => repeat (first | exact (Kd.C_below HR0_23.out HB.out) | (with_reducible refine Kd.C_alloc ?_ _) | (with_reducible refine Kd.C_drewN ?_ _) | (with_reducible refine Kd.C_drew ?_)))
     (case side2 => exact HC0_23.out)
     (case side3 => repeat (first | exact (Kd.C_below HR0_24.out HB.out) | (with_reducible refine Kd.C_alloc ?_ _) | (with_reducible refine Kd.C_drewN ?_ _) | (with_reducible refine Kd.C_drew ?_)))
     (case side4 => exact HC0_24.out)
     rintro e w26 ⟨rfl, hb⟩
     refine ⟨_, rfl, ?_⟩
     replace BK627 := am_ (blk_below (qk_ BK627.out) hb)
     replace HB := am_ (below_step (qb1_ GE627.out HB.out) hb)
     (try clear hb)
     refine hK.out _ _ (cc25_ BK627.out) (fun hHeld => ?_)
     clear hK K
     refine no_ ?_
     refine pz_ 14 23 (nb_ 27 32767) HT_.out ?_
     refine pz_ 15 24 (nb_ 27 65535) HT_.out ?_
     refine pz_ 16 25 (nb_ 27 131071) HT_.out ?_
     refine pz_ 17 26 (nb_ 27 262143) HT_.out ?_
     refine pz_ 19 28 (nb_ 27 786431) HT_.out ?_
     refine on_ 18 27 (nb_ 27 1048575) HT_.out (fun K hK => ?_)
     refine goes_ Tryd.func21 (by kernel_rfl) rfl #[.int .i64 a2] (by rfl) rfl rfl ql_ ?_
     with_reducible refine (arrears_Bucket.calls (hG := by first | exact hG | (with_reducible exact GW.below hG (qb1_ GE627.out HB.out)) | (with_reducible repeat (first | exact hG | apply GW.drewN | apply GW.drew))) a2 t633 _ A15.out).mono ?_
     rintro e w27 ⟨rfl, hb⟩
     refine ⟨_, rfl, ?_⟩
     replace BK627 := am_ (blk_below (qk_ BK627.out) hb)
     replace HB := am_ (below_step (qb1_ GE627.out HB.out) hb)
     (try clear hb)
     refine hK.out _ _ (cc25_ BK627.out) (fun hHeld => ?_)
     clear hK K
     refine no_ ?_
     refine on_ 20 29 (nb_ 27 2097151) HT_.out (fun K hK => ?_)
     refine goes_ Tryd.func22 (by kernel_rfl) rfl #[.int .i64 a2] (by rfl) rfl rfl ql_ ?_
     with_reducible refine (r37_Bucket.calls a2 t634 _ A16.out).mono ?_
     rintro e w' ⟨rfl, ⟨nd, rfl⟩⟩
     refine ⟨_, rfl, ?_⟩
     refine hK.out _ _ (cc25_ BK627.out) (fun hHeld => ?_)
     clear hK K
     refine no_ ?_
     refine pz_ 21 30 (nb_ 27 4194303) HT_.out ?_
     refine pz_ 22 31 (nb_ 27 8388607) HT_.out ?_
     refine pz_ 23 32 (nb_ 27 16777215) HT_.out ?_
     refine on_ 24 33 (nb_ 27 33554431) HT_.out (fun K hK => ?_)
     refine goes_ Tryd.func12 (by kernel_rfl) rfl #[] (by rfl) rfl rfl ql_ ?_
     with_reducible refine (corebanklaw37_Live.calls (hG := by first | exact hG | (with_reducible exact GW.below hG (qb1_ GE627.out HB.out)) | (with_reducible repeat (first | exact hG | apply GW.drewN | apply GW.drew))) k  t635 _ A18.out).mono ?_
     rintro e w28 ⟨rfl, hb⟩
     refine ⟨_, rfl, ?_⟩
     replace BK627 := am_ (blk_below (qk_ BK627.out) hb)
     replace HB := am_ (below_step (qb1_ GE627.out HB.out) hb)
     (try clear hb)
     refine hK.out _ _ (cc25_ BK627.out) (fun hHeld => ?_)
     clear hK K
     refine no_ ?_
     refine pz_ 25 34 (nb_ 27 67108863) HT_.out ?_
     refine pz_ 26 6 (nb_ 27 134217727) HT_.out ?_
     refine done_ (done_of HT_.out (by kernel_rfl)) ?_
     try go_wp2
     go_ret
     exact ⟨qe_, qb1_ GE627.out HB.out⟩
    ·rw [if_neg c17] at H
     have c17b0 : (t633 == t634) = false := beq_eq_false_iff_ne.mpr c17
     have c17b1 : (t633 != t634) = true := bne_iff_ne.mpr c17
     exact absurd H (by simp)
   ·rw [if_neg c14] at H
    have c14b0 : (t631 == t632) = false := beq_eq_false_iff_ne.mpr c14
    have c14b1 : (t631 != t632) = true := bne_iff_ne.mpr c14
    exact absurd H (by simp)
  ·rw [if_neg c11] at H
   have c11b0 : (t629 == t630) = false := beq_eq_false_iff_ne.mpr c11
   have c11b1 : (t629 != t630) = true := bne_iff_ne.mpr c11
   exact absurd H (by simp)
end Go.Proofs.YtogcdcjbleafdaaDoor.PS
end
section
namespace Go.Proofs.YtogcdcjbleafdaaDoor.PureArrearsCounts
open Go.RowKit Go.Proofs.YtogcdcjbleafdaaDoor.PS Go.Proofs.YtogcdcjbleafdaaDoorW.PrintWords Go.Proofs.YtogcdcjbleafdaaDoorW.PrintLast Go.Proofs.YtogcdcjbleafdaaDoorW.PrintMore
set_option linter.unusedVariables false
set_option linter.unusedSimpArgs false
open Go.ChangeShapes Go.WideShapes Go.ChangeAt Go.Joins
/-- What data of type t reads as, read as a value of the kind d. -/
def Rd {α : Type} (d : Kd α) (t : TypeId) (G : α → Prop) : Prop :=
  ∀ {H : Type} (enc : TypeId × Value → H) (w : World) (base : Nat) (spare : Nat → Bool) (held : Bool) (fuel : Nat) (cs : List Value) (x : DataW H × List MemPlace),
    DataW.trod enc Tryd.prog w base spare held fuel t cs = some x → ∃ y, d.K w y cs ∧ G y
theorem Rd_int {t : TypeId} {k : IntKind} (ht : Tryd.prog.underlying t = some (.int k)) : Rd (Kd.int k) t (fun n => (Lit.int k n).wf = true) := by
  intro H enc w base spare held fuel cs x h
  obtain ⟨n, rfl, _, hw⟩ := DataW.trod_int ht h
  exact ⟨n, rfl, hw⟩
theorem Rd_string {t : TypeId} (ht : Tryd.prog.underlying t = some .string) : Rd Kd.string t (fun s => s.size ≤ maxLen) := by
  intro H enc w base spare held fuel cs x h
  obtain ⟨s, rfl, _, hw⟩ := DataW.trod_string ht h
  exact ⟨s, rfl, hw⟩
/-- The fields from a place on. -/
def RdF {α : Type} (d : Kd α) (fs : List Field) (off tot : Nat) (G : α → Prop) : Prop :=
  ∀ {H : Type} (enc : TypeId × Value → H) (w : World) (base : Nat) (spare : Nat → Bool) (held : Bool) (cs : List Value), cs.length = tot →
    (∀ f ∈ fs, ∃ n y, DataW.trod enc Tryd.prog w base spare held n f.type ((cs.drop f.offset).take (Tryd.prog.cellsOf f.type)) = some y) → ∃ y, d.K w y (cs.drop off) ∧ G y
theorem RdF_one {α : Type} {d : Kd α} {G : α → Prop} {f : Field} {tot : Nat} (h : Rd d f.type G) (hc : f.offset + Tryd.prog.cellsOf f.type = tot) : RdF d [f] f.offset tot G := by
  intro H enc w base spare held cs hl hf
  obtain ⟨n, y, hy⟩ := hf f List.mem_cons_self
  rw [List.take_of_length_le (by rw [List.length_drop]; omega)] at hy
  exact h enc w base spare held n _ _ hy
theorem RdF_cons {α β : Type} {d : Kd α} {d' : Kd β} {G : α → Prop} {G' : β → Prop} {f : Field} {fs : List Field} {off tot : Nat} (h : Rd d f.type G) (h' : RdF d' fs off tot G') (hc : f.offset + Tryd.prog.cellsOf f.type = off) :
    RdF (Kd.pair d d') (f :: fs) f.offset tot (fun p => G p.1 ∧ G' p.2) := by
  intro H enc w base spare held cs hl hf
  obtain ⟨n, y, hy⟩ := hf f List.mem_cons_self
  obtain ⟨a, ha, ga⟩ := h enc w base spare held n _ _ hy
  obtain ⟨b, hb, gb⟩ := h' enc w base spare held cs hl (fun g hg => hf g (List.mem_cons_of_mem _ hg))
  refine ⟨(a, b), ⟨_, _, ?_, ha, hb⟩, ga, gb⟩
  rw [← hc, ← List.drop_drop, List.take_append_drop]
theorem Rd_struct {α β : Type} {d : Kd β} {G : β → Prop} {t : TypeId} {fs : Array Field} {f : α → β} (g : β → α) (he : Tryd.prog.underlying t = some (.struct fs)) (h : RdF d fs.toList 0 (Tryd.prog.cellsOf t) G) (hg : ∀ y, f (g y) = y) :
    Rd (Kd.iso d f) t (fun x => G (f x)) := by
  intro H enc w base spare held fuel cs x hx
  obtain ⟨xs, n, _, rfl, hl, hlen, hf⟩ := DataW.trod_struct he hx
  obtain ⟨y, hy, gy⟩ := h enc w base spare held cs hl (fun q hq => by
    obtain ⟨i, hi, rfl⟩ := List.getElem_of_mem hq
    have hi' : i < fs.size := by simpa using hi
    have e := hf i fs[i] (by simp [hi'])
    rw [List.getElem?_eq_getElem (by omega)] at e
    exact ⟨n, _, by simpa using e⟩)
  rw [List.drop_zero] at hy
  refine ⟨g y, ?_, ?_⟩
  · show d.K w (f (g y)) cs
    rw [hg]; exact hy
  · show G (f (g y))
    rw [hg]; exact gy
theorem Rd_slice {α : Type} [Inhabited α] {d : Kd α} {G : α → Prop} {t e : TypeId} (ht : Tryd.prog.underlying t = some (.slice e)) (hc : Tryd.prog.cellsOf e = d.sz) (h : Rd d e G) :
    Rd (Kd.slice e d) t (fun xs => ∀ x ∈ xs, G x) := by
  intro H enc w base spare held fuel cs x hx
  rcases Go.Deep.open_slice ht hx with ⟨rfl, _⟩ | ⟨a, len, cap, m, n, D, Pl, rfl, hb, hl, hm, hmm, _, hel⟩
  · exact ⟨[], ⟨none, 0, rfl, Nat.le_refl _, rfl, by simp, fun h => absurd h (Nat.lt_irrefl 0)⟩, by simp⟩
  · have hlm : len ≤ m := by rw [hmm]; split <;> omega
    have each : ∀ i, i < len → ∃ y : α, ∃ c, w.cells? base (a.add (i * Tryd.prog.cellsOf e)) (Tryd.prog.cellsOf e) = some c ∧ d.K w y c ∧ G y := by
      intro i hi
      obtain ⟨c, h1, h2⟩ := hel i (by omega)
      obtain ⟨y, hy, gy⟩ := h enc w base spare held n c _ h2
      exact ⟨y, c, h1, hy, gy⟩
    obtain ⟨q, hq⟩ := Go.Deep.choose_lt each
    have hlen : ((List.range len).map q).length = len := by simp
    refine ⟨(List.range len).map q, ⟨some a, cap, by rw [hlen], by rw [hlen]; exact hl, ?_⟩, ?_⟩
    · rw [hlen]
      refine ⟨hlen, by unfold maxLen at hm; omega, fun _ => ⟨a, rfl, ?_⟩⟩
      intro j p hj
      have hj' : j < len := by
        have := (List.getElem?_eq_some_iff.1 hj).1
        simpa using this
      have hp : q j = p := by
        rw [List.getElem?_map, List.getElem?_range hj'] at hj
        simpa using hj
      subst hp
      obtain ⟨c, h1, h2, _⟩ := hq j hj'
      obtain ⟨_, hcl, hcell⟩ := World.cells?_some h1
      refine ⟨c, by rw [hcl, hc], h2, ?_⟩
      intro i u hi
      have hil : i < c.length := (List.getElem?_eq_some_iff.1 hi).1
      have := hcell i (by omega)
      rw [Go.Deep.add_add] at this
      rw [hc] at this
      rw [this, hi]
    · intro x hx
      obtain ⟨j, hj, rfl⟩ := List.mem_map.1 hx
      exact (hq j (List.mem_range.1 hj)).choose_spec.2.2
structure S27 where
 f0 : Int
 f1 : Int
 f2 : Int
 f3 : Int
 f4 : Int
 f5 : Int
 f6 : Int
 f7 : Int
 f8 : Int
 f9 : Int
 f10 : Int
 f11 : S23
 f12 : (List S67)
 f13 : (List S70)
def k27 : Kd S27 := Kd.iso (Kd.pair (Kd.int .i64) (Kd.pair (Kd.int .i64) (Kd.pair (Kd.int .i64) (Kd.pair (Kd.int .i64) (Kd.pair (Kd.int .i64) (Kd.pair (Kd.int .i64) (Kd.pair (Kd.int .i64) (Kd.pair (Kd.int .i64) (Kd.pair (Kd.int .i64) (Kd.pair (Kd.int .i64) (Kd.pair (Kd.int .i64) (Kd.pair k23 (Kd.pair (Kd.slice 67 k67) (Kd.slice 70 k70)))))))))))))) (fun x : S27 => (x.f0, x.f1, x.f2, x.f3, x.f4, x.f5, x.f6, x.f7, x.f8, x.f9, x.f10, x.f11, x.f12, x.f13))
theorem k27_open {w : World} {x : S27} {cs : List Value} (h : k27.K w x cs) : ∃ A23 c23 A24 c24, cs = [.int .i64 x.f0, .int .i64 x.f1, .int .i64 x.f2, .int .i64 x.f3, .int .i64 x.f4, .int .i64 x.f5, .int .i64 x.f6, .int .i64 x.f7, .int .i64 x.f8, .int .i64 x.f9, .int .i64 x.f10, .int .i64 x.f11.f0, .int .i64 x.f11.f1, .int .i64 x.f11.f2, .int .i64 x.f11.f3, .int .i64 x.f11.f4, .int .i64 x.f11.f5, .int .i64 x.f11.f6, .int .i64 x.f11.f7, .int .i64 x.f11.f8, .int .i64 x.f11.f9, .string x.f11.f10, .string x.f11.f11, .slice A23 x.f12.length c23, .slice A24 x.f13.length c24] ∧ x.f12.length ≤ c23 ∧ k67.C w A23 x.f12.length x.f12 ∧ x.f13.length ≤ c24 ∧ k70.C w A24 x.f13.length x.f13 := by
 obtain ⟨_, _, rfl, rfl, ⟨_, _, rfl, rfl, ⟨_, _, rfl, rfl, ⟨_, _, rfl, rfl, ⟨_, _, rfl, rfl, ⟨_, _, rfl, rfl, ⟨_, _, rfl, rfl, ⟨_, _, rfl, rfl, ⟨_, _, rfl, rfl, ⟨_, _, rfl, rfl, ⟨_, _, rfl, rfl, ⟨_, _, rfl, s11, ⟨_, _, rfl, ⟨A23, c23, rfl, l23, g23⟩, ⟨A24, c24, rfl, l24, g24⟩⟩⟩⟩⟩⟩⟩⟩⟩⟩⟩⟩⟩⟩ := h
 obtain rfl := k23_open s11
 exact ⟨A23, c23, A24, c24, rfl, l23, g23, l24, g24⟩
def W23 (x : S23) : Prop := ((Lit.int .i64 x.f0).wf = true) ∧ ((Lit.int .i64 x.f1).wf = true) ∧ ((Lit.int .i64 x.f2).wf = true) ∧ ((Lit.int .i64 x.f3).wf = true) ∧ ((Lit.int .i64 x.f4).wf = true) ∧ ((Lit.int .i64 x.f5).wf = true) ∧ ((Lit.int .i64 x.f6).wf = true) ∧ ((Lit.int .i64 x.f7).wf = true) ∧ ((Lit.int .i64 x.f8).wf = true) ∧ ((Lit.int .i64 x.f9).wf = true) ∧ (x.f10.size ≤ maxLen) ∧ (x.f11.size ≤ maxLen)
instance : Inhabited S23 := ⟨⟨default, default, default, default, default, default, default, default, default, default, default, default⟩⟩
set_option maxRecDepth 100000 in
theorem rd23 : Rd k23 23 W23 := Rd_struct (fun y => ⟨y.1, y.2.1, y.2.2.1, y.2.2.2.1, y.2.2.2.2.1, y.2.2.2.2.2.1, y.2.2.2.2.2.2.1, y.2.2.2.2.2.2.2.1, y.2.2.2.2.2.2.2.2.1, y.2.2.2.2.2.2.2.2.2.1, y.2.2.2.2.2.2.2.2.2.2.1, y.2.2.2.2.2.2.2.2.2.2.2⟩) Tryd.underlying23 (RdF_cons (Rd_int Tryd.underlying3) (RdF_cons (Rd_int Tryd.underlying3) (RdF_cons (Rd_int Tryd.underlying3) (RdF_cons (Rd_int Tryd.underlying3) (RdF_cons (Rd_int Tryd.underlying3) (RdF_cons (Rd_int Tryd.underlying3) (RdF_cons (Rd_int Tryd.underlying3) (RdF_cons (Rd_int Tryd.underlying3) (RdF_cons (Rd_int Tryd.underlying3) (RdF_cons (Rd_int Tryd.underlying3) (RdF_cons (Rd_string Tryd.underlying9) (RdF_one (Rd_string Tryd.underlying9) (by kernel_rfl)) (by kernel_rfl)) (by kernel_rfl)) (by kernel_rfl)) (by kernel_rfl)) (by kernel_rfl)) (by kernel_rfl)) (by kernel_rfl)) (by kernel_rfl)) (by kernel_rfl)) (by kernel_rfl)) (by kernel_rfl)) (fun _ => rfl)
def W67 (x : S67) : Prop := ((Lit.int .i64 x.f0).wf = true) ∧ ((Lit.int .i64 x.f1).wf = true) ∧ ((Lit.int .i64 x.f2).wf = true) ∧ ((Lit.int .i64 x.f3).wf = true)
instance : Inhabited S67 := ⟨⟨default, default, default, default⟩⟩
set_option maxRecDepth 100000 in
theorem rd67 : Rd k67 67 W67 := Rd_struct (fun y => ⟨y.1, y.2.1, y.2.2.1, y.2.2.2⟩) Tryd.underlying67 (RdF_cons (Rd_int Tryd.underlying3) (RdF_cons (Rd_int Tryd.underlying3) (RdF_cons (Rd_int Tryd.underlying3) (RdF_one (Rd_int Tryd.underlying3) (by kernel_rfl)) (by kernel_rfl)) (by kernel_rfl)) (by kernel_rfl)) (fun _ => rfl)
def W70 (x : S70) : Prop := ((Lit.int .i64 x.f0).wf = true) ∧ ((Lit.int .i64 x.f1).wf = true) ∧ (W23 x.f2)
instance : Inhabited S70 := ⟨⟨default, default, default⟩⟩
set_option maxRecDepth 100000 in
theorem rd70 : Rd k70 70 W70 := Rd_struct (fun y => ⟨y.1, y.2.1, y.2.2⟩) Tryd.underlying70 (RdF_cons (Rd_int Tryd.underlying3) (RdF_cons (Rd_int Tryd.underlying3) (RdF_one rd23 (by kernel_rfl)) (by kernel_rfl)) (by kernel_rfl)) (fun _ => rfl)
def W27 (x : S27) : Prop := ((Lit.int .i64 x.f0).wf = true) ∧ ((Lit.int .i64 x.f1).wf = true) ∧ ((Lit.int .i64 x.f2).wf = true) ∧ ((Lit.int .i64 x.f3).wf = true) ∧ ((Lit.int .i64 x.f4).wf = true) ∧ ((Lit.int .i64 x.f5).wf = true) ∧ ((Lit.int .i64 x.f6).wf = true) ∧ ((Lit.int .i64 x.f7).wf = true) ∧ ((Lit.int .i64 x.f8).wf = true) ∧ ((Lit.int .i64 x.f9).wf = true) ∧ ((Lit.int .i64 x.f10).wf = true) ∧ (W23 x.f11) ∧ (∀ y ∈ x.f12, W67 y) ∧ (∀ y ∈ x.f13, W70 y)
instance : Inhabited S27 := ⟨⟨default, default, default, default, default, default, default, default, default, default, default, default, default, default⟩⟩
set_option maxRecDepth 100000 in
theorem rd27 : Rd k27 27 W27 := Rd_struct (fun y => ⟨y.1, y.2.1, y.2.2.1, y.2.2.2.1, y.2.2.2.2.1, y.2.2.2.2.2.1, y.2.2.2.2.2.2.1, y.2.2.2.2.2.2.2.1, y.2.2.2.2.2.2.2.2.1, y.2.2.2.2.2.2.2.2.2.1, y.2.2.2.2.2.2.2.2.2.2.1, y.2.2.2.2.2.2.2.2.2.2.2.1, y.2.2.2.2.2.2.2.2.2.2.2.2.1, y.2.2.2.2.2.2.2.2.2.2.2.2.2⟩) Tryd.underlying27 (RdF_cons (Rd_int Tryd.underlying3) (RdF_cons (Rd_int Tryd.underlying3) (RdF_cons (Rd_int Tryd.underlying3) (RdF_cons (Rd_int Tryd.underlying3) (RdF_cons (Rd_int Tryd.underlying3) (RdF_cons (Rd_int Tryd.underlying3) (RdF_cons (Rd_int Tryd.underlying3) (RdF_cons (Rd_int Tryd.underlying3) (RdF_cons (Rd_int Tryd.underlying3) (RdF_cons (Rd_int Tryd.underlying3) (RdF_cons (Rd_int Tryd.underlying3) (RdF_cons rd23 (RdF_cons (Rd_slice Tryd.underlying24 (by kernel_rfl) rd67) (RdF_one (Rd_slice Tryd.underlying25 (by kernel_rfl) rd70) (by kernel_rfl)) (by kernel_rfl)) (by kernel_rfl)) (by kernel_rfl)) (by kernel_rfl)) (by kernel_rfl)) (by kernel_rfl)) (by kernel_rfl)) (by kernel_rfl)) (by kernel_rfl)) (by kernel_rfl)) (by kernel_rfl)) (by kernel_rfl)) (by kernel_rfl)) (fun _ => rfl)
set_option maxRecDepth 100000 in
theorem open27 {H : Type} {enc : TypeId × Value → H} {W : World} {base : Nat} {spare : Nat → Bool} {held : Bool} {r : Reach} {b0 : Nat} {v : Value} {d : DataW H} {p : List MemPlace} (hv : Value.okWide Tryd.prog W r b0 27 v) (h : DataW.Trod enc Tryd.prog W base spare held 27 v d p) :
    ∃ (y : S27) (A23 : Option Addr) (c23 : Nat) (A24 : Option Addr) (c24 : Nat), v = .agg #[.int .i64 y.f0, .int .i64 y.f1, .int .i64 y.f2, .int .i64 y.f3, .int .i64 y.f4, .int .i64 y.f5, .int .i64 y.f6, .int .i64 y.f7, .int .i64 y.f8, .int .i64 y.f9, .int .i64 y.f10, .int .i64 y.f11.f0, .int .i64 y.f11.f1, .int .i64 y.f11.f2, .int .i64 y.f11.f3, .int .i64 y.f11.f4, .int .i64 y.f11.f5, .int .i64 y.f11.f6, .int .i64 y.f11.f7, .int .i64 y.f11.f8, .int .i64 y.f11.f9, .string y.f11.f10, .string y.f11.f11, .slice A23 y.f12.length c23, .slice A24 y.f13.length c24] ∧ y.f12.length ≤ c23 ∧ Kd.C k67 W A23 y.f12.length y.f12 ∧ y.f13.length ≤ c24 ∧ Kd.C k70 W A24 y.f13.length y.f13 ∧ W27 y := by
  obtain ⟨cs, rfl, hsz⟩ := okWide_struct Tryd.underlying27 hv
  obtain ⟨fu, hf⟩ := h
  obtain ⟨y, hk, gy⟩ := rd27 enc W base _ _ fu _ _ hf
  obtain ⟨A23, c23, A24, c24, hcs, q0, q1, q2, q3⟩ := k27_open hk
  refine ⟨y, A23, c23, A24, c24, ?_, q0, q1, q2, q3, gy⟩
  obtain ⟨l⟩ := cs
  have e : l = _ := hcs
  subst e
  rfl
theorem drop67 (l : List S67) (i : Nat) (h : i < l.length) : l.drop i = rd_T67 l (i : Int) :: l.drop (i + 1) := by
  rw [List.drop_eq_getElem_cons h]
  congr 1
  unfold rd_T67
  simp [List.getD_eq_getElem?_getD, h]
/-- The days of arrears. -/
def daysS (pp pi day : Int) : List S67 → Int → Int → Int
  | [], _, _ => 0
  | d :: t, p, i => if d.f1 ≤ day ∧ (pp < wrap64 (p + d.f2) ∨ pi < wrap64 (i + d.f3)) then wrap64 (day - d.f1) else daysS pp pi day t (wrap64 (p + d.f2)) (wrap64 (i + d.f3))
theorem daysS_yes (pp pi day p i : Int) (d : S67) (t : List S67) (h : d.f1 ≤ day ∧ (pp < wrap64 (p + d.f2) ∨ pi < wrap64 (i + d.f3))) : daysS pp pi day (d :: t) p i = wrap64 (day - d.f1) := by
  unfold daysS; rw [if_pos h]
theorem daysS_no (pp pi day p i : Int) (d : S67) (t : List S67) (h : ¬ (d.f1 ≤ day ∧ (pp < wrap64 (p + d.f2) ∨ pi < wrap64 (i + d.f3)))) : daysS pp pi day (d :: t) p i = daysS pp pi day t (wrap64 (p + d.f2)) (wrap64 (i + d.f3)) := by
  rw [daysS]; rw [if_neg h]
theorem arrears_Days_l0 (a0 a1 a2 a3 a4 a5 a6 a7 a8 a9 a10 a11 a12 a13 a14 a15 a16 a17 a18 a19 a20 : Int) (a21 a22 : ByteArray) (l23 : List S67) (l24 : List S70) (dy : Int) (hl : l23.length ≤ 1000000) : ∀ (d i k : Nat) (p q : Int), d + i = l23.length →
    arrears_Days.l0 (k + 2 * d + 1) dy p q l23 l23.length i a0 a1 a2 a3 a4 a5 a6 a7 a8 a9 a10 a11 a12 a13 a14 a15 a16 a17 a18 a19 a20 a21 a22 l23 l24 = some (daysS a3 a4 dy (l23.drop i) p q)
  | 0, i, k, p, q, hd => by
    simp only [arrears_Days.l0]
    rw [if_neg (by omega), List.drop_eq_nil_of_le (by omega)]; rfl
  | d + 1, i, k, p, q, hd => by
    rw [show k + 2 * (d + 1) + 1 = (k + 2 * d + 1) + 1 + 1 by omega]
    obtain ⟨m, hm⟩ : ∃ m, m = k + 2 * d + 1 := ⟨_, rfl⟩
    rw [← hm]
    have ih := fun p q => arrears_Days_l0 a0 a1 a2 a3 a4 a5 a6 a7 a8 a9 a10 a11 a12 a13 a14 a15 a16 a17 a18 a19 a20 a21 a22 l23 l24 dy hl d (i + 1) k p q (by omega)
    rw [← hm] at ih
    simp only [arrears_Days.l0]
    rw [if_pos (by omega), if_pos (by omega), if_pos (by omega), drop67 l23 i (by omega)]
    have e2 : wrap64 ((i : Int) + 1) = ((i + 1 : Nat) : Int) := by unfold wrap64; omega
    generalize rd_T67 l23 (i : Int) = x
    by_cases c1 : x.f1 ≤ dy
    · rw [if_pos c1]
      by_cases c2 : a3 < wrap64 (p + x.f2)
      · rw [if_pos c2, daysS_yes _ _ _ _ _ _ _ ⟨c1, Or.inl c2⟩]
        simp only [arrears_Days.j1, if_true]
      · rw [if_neg c2]
        by_cases c3 : a4 < wrap64 (q + x.f3)
        · rw [decide_eq_true c3, daysS_yes _ _ _ _ _ _ _ ⟨c1, Or.inr c3⟩]
          simp only [arrears_Days.j1, if_true]
        · rw [decide_eq_false c3, daysS_no _ _ _ _ _ _ _ (by rintro ⟨_, h | h⟩ <;> contradiction)]
          simp only [arrears_Days.j1]
          rw [if_neg (by decide), e2]
          exact ih _ _
    · rw [if_neg c1, daysS_no _ _ _ _ _ _ _ (fun h => c1 h.1)]
      simp only [arrears_Days.j1]
      rw [if_neg (by decide), e2]
      exact ih _ _
theorem arrears_Days_eq (a0 a1 a2 a3 a4 a5 a6 a7 a8 a9 a10 a11 a12 a13 a14 a15 a16 a17 a18 a19 a20 : Int) (a21 a22 : ByteArray) (l23 : List S67) (l24 : List S70) (dy : Int) (k : Nat) (hl : l23.length ≤ 300) : arrears_Days.f (k + 700) a0 a1 a2 a3 a4 a5 a6 a7 a8 a9 a10 a11 a12 a13 a14 a15 a16 a17 a18 a19 a20 a21 a22 l23 l24 dy = some (daysS a3 a4 dy l23 0 0) := by
  unfold arrears_Days.f
  have h := arrears_Days_l0 a0 a1 a2 a3 a4 a5 a6 a7 a8 a9 a10 a11 a12 a13 a14 a15 a16 a17 a18 a19 a20 a21 a22 l23 l24 dy (by omega) l23.length 0 (k + (699 - 2 * l23.length)) 0 0 (by omega)
  rw [show k + (699 - 2 * l23.length) + 2 * l23.length + 1 = k + 700 by omega] at h
  exact h
theorem r37_Days_l0 (a0 a1 a2 a3 a4 a5 a6 a7 a8 a9 a10 a11 a12 a13 a14 a15 a16 a17 a18 a19 a20 : Int) (a21 a22 : ByteArray) (l23 : List S67) (l24 : List S70) (dy : Int) (hl : l23.length ≤ 1000000) : ∀ (d i k : Nat) (p q : Int), d + i = l23.length →
    r37_Days.l0 (k + 2 * d + 1) dy p q i a0 a1 a2 a3 a4 a5 a6 a7 a8 a9 a10 a11 a12 a13 a14 a15 a16 a17 a18 a19 a20 a21 a22 l23 l24 = some (daysS a3 a4 dy (l23.drop i) p q)
  | 0, i, k, p, q, hd => by
    simp only [r37_Days.l0]
    rw [if_neg (by omega), List.drop_eq_nil_of_le (by omega)]; rfl
  | d + 1, i, k, p, q, hd => by
    rw [show k + 2 * (d + 1) + 1 = (k + 2 * d + 1) + 1 + 1 by omega]
    obtain ⟨m, hm⟩ : ∃ m, m = k + 2 * d + 1 := ⟨_, rfl⟩
    rw [← hm]
    have ih := fun p q => r37_Days_l0 a0 a1 a2 a3 a4 a5 a6 a7 a8 a9 a10 a11 a12 a13 a14 a15 a16 a17 a18 a19 a20 a21 a22 l23 l24 dy hl d (i + 1) k p q (by omega)
    rw [← hm] at ih
    simp only [r37_Days.l0]
    rw [if_pos (by omega), if_pos (by omega), drop67 l23 i (by omega)]
    have e2 : wrap64 ((i : Int) + 1) = ((i + 1 : Nat) : Int) := by unfold wrap64; omega
    generalize rd_T67 l23 (i : Int) = x
    by_cases c1 : x.f1 ≤ dy
    · rw [if_pos c1]
      by_cases c2 : a3 < wrap64 (p + x.f2)
      · rw [if_pos c2, daysS_yes _ _ _ _ _ _ _ ⟨c1, Or.inl c2⟩]
        simp only [r37_Days.j1, if_true]
      · rw [if_neg c2]
        by_cases c3 : a4 < wrap64 (q + x.f3)
        · rw [decide_eq_true c3, daysS_yes _ _ _ _ _ _ _ ⟨c1, Or.inr c3⟩]
          simp only [r37_Days.j1, if_true]
        · rw [decide_eq_false c3, daysS_no _ _ _ _ _ _ _ (by rintro ⟨_, h | h⟩ <;> contradiction)]
          simp only [r37_Days.j1]
          rw [if_neg (by decide), e2]
          exact ih _ _
    · rw [if_neg c1, daysS_no _ _ _ _ _ _ _ (fun h => c1 h.1)]
      simp only [r37_Days.j1]
      rw [if_neg (by decide), e2]
      exact ih _ _
theorem r37_Days_eq (a0 a1 a2 a3 a4 a5 a6 a7 a8 a9 a10 a11 a12 a13 a14 a15 a16 a17 a18 a19 a20 : Int) (a21 a22 : ByteArray) (l23 : List S67) (l24 : List S70) (dy : Int) (k : Nat) (hl : l23.length ≤ 300) : r37_Days.f (k + 700) a0 a1 a2 a3 a4 a5 a6 a7 a8 a9 a10 a11 a12 a13 a14 a15 a16 a17 a18 a19 a20 a21 a22 l23 l24 dy = some (daysS a3 a4 dy l23 0 0) := by
  unfold r37_Days.f
  have h := r37_Days_l0 a0 a1 a2 a3 a4 a5 a6 a7 a8 a9 a10 a11 a12 a13 a14 a15 a16 a17 a18 a19 a20 a21 a22 l23 l24 dy (by omega) l23.length 0 (k + (699 - 2 * l23.length)) 0 0 (by omega)
  rw [show k + (699 - 2 * l23.length) + 2 * l23.length + 1 = k + 700 by omega] at h
  exact h
theorem live_at (k : Nat) : corebanklaw37_Live.f (k + 400) = some true :=
  at_rounds (g := corebanklaw37_Live.f) corebanklaw37_Live.mono (by omega) corebanklaw37_Live.f_true
/-- What is due up to a day. -/
def overS (day : Int) : List S67 → Int → Int
  | [], s => s
  | d :: t, s => overS day t (if d.f1 ≤ day then wrap64 (s + d.f2) else s)
theorem over_l0 (a0 a1 a2 a3 a4 a5 a6 a7 a8 a9 a10 a11 a12 a13 a14 a15 a16 a17 a18 a19 a20 : Int) (a21 a22 : ByteArray) (l23 : List S67) (l24 : List S70) (dy : Int) (hl : l23.length ≤ 1000000) : ∀ (d i k : Nat) (s : Int), d + i = l23.length →
    arrears_Overdue.l0 (k + d + 1) dy s l23 l23.length i a0 a1 a2 a3 a4 a5 a6 a7 a8 a9 a10 a11 a12 a13 a14 a15 a16 a17 a18 a19 a20 a21 a22 l23 l24 = some (mx (wrap64 (overS dy (l23.drop i) s - a3)) 0)
  | 0, i, k, s, hd => by
    simp only [arrears_Overdue.l0]
    rw [if_neg (by omega), List.drop_eq_nil_of_le (by omega)]; rfl
  | d + 1, i, k, s, hd => by
    rw [show k + (d + 1) + 1 = (k + d + 1) + 1 by omega]
    have ih := fun s => over_l0 a0 a1 a2 a3 a4 a5 a6 a7 a8 a9 a10 a11 a12 a13 a14 a15 a16 a17 a18 a19 a20 a21 a22 l23 l24 dy hl d (i + 1) k s (by omega)
    obtain ⟨m, hm⟩ : ∃ m, m = k + d + 1 := ⟨_, rfl⟩
    rw [← hm] at ih ⊢
    have e2 : wrap64 ((i : Int) + 1) = ((i + 1 : Nat) : Int) := by unfold wrap64; omega
    simp only [arrears_Overdue.l0]
    rw [if_pos (by omega), if_pos (by omega), if_pos (by omega), drop67 l23 i (by omega), e2]
    simp only [overS]
    split
    · exact ih _
    · exact ih _
theorem rprin_l0 (a0 a1 a2 a3 a4 a5 a6 a7 a8 a9 a10 a11 a12 a13 a14 a15 a16 a17 a18 a19 a20 : Int) (a21 a22 : ByteArray) (l23 : List S67) (l24 : List S70) (dy : Int) (hl : l23.length ≤ 1000000) : ∀ (d i k : Nat) (s : Int), d + i = l23.length →
    r34_Principal.l0 (k + d + 1) dy s i a0 a1 a2 a3 a4 a5 a6 a7 a8 a9 a10 a11 a12 a13 a14 a15 a16 a17 a18 a19 a20 a21 a22 l23 l24 = some (overS dy (l23.drop i) s)
  | 0, i, k, s, hd => by
    simp only [r34_Principal.l0]
    rw [if_neg (by omega), List.drop_eq_nil_of_le (by omega)]; rfl
  | d + 1, i, k, s, hd => by
    rw [show k + (d + 1) + 1 = (k + d + 1) + 1 by omega]
    have ih := fun s => rprin_l0 a0 a1 a2 a3 a4 a5 a6 a7 a8 a9 a10 a11 a12 a13 a14 a15 a16 a17 a18 a19 a20 a21 a22 l23 l24 dy hl d (i + 1) k s (by omega)
    obtain ⟨m, hm⟩ : ∃ m, m = k + d + 1 := ⟨_, rfl⟩
    rw [← hm] at ih ⊢
    have e2 : wrap64 ((i : Int) + 1) = ((i + 1 : Nat) : Int) := by unfold wrap64; omega
    simp only [r34_Principal.l0]
    rw [if_pos (by omega), if_pos (by omega), drop67 l23 i (by omega), e2]
    simp only [overS]
    split
    · exact ih _
    · exact ih _
/-- What is overdue. -/
def overR (l : List S67) (paid day : Int) : Int := mx (wrap64 (overS day l 0 - paid)) 0
theorem pover_eq (a0 a1 a2 a3 a4 a5 a6 a7 a8 a9 a10 a11 a12 a13 a14 a15 a16 a17 a18 a19 a20 : Int) (a21 a22 : ByteArray) (l23 : List S67) (l24 : List S70) (dy : Int) (k : Nat) (hl : l23.length ≤ 300) : arrears_Overdue.f (k + 700) a0 a1 a2 a3 a4 a5 a6 a7 a8 a9 a10 a11 a12 a13 a14 a15 a16 a17 a18 a19 a20 a21 a22 l23 l24 dy = some (overR l23 a3 dy) := by
  unfold arrears_Overdue.f
  have h := over_l0 a0 a1 a2 a3 a4 a5 a6 a7 a8 a9 a10 a11 a12 a13 a14 a15 a16 a17 a18 a19 a20 a21 a22 l23 l24 dy (by omega) l23.length 0 (k + (699 - l23.length)) 0 (by omega)
  rw [show k + (699 - l23.length) + l23.length + 1 = k + 700 by omega, show ((0 : Nat) : Int) = 0 from rfl] at h
  exact h
theorem rover_eq (a0 a1 a2 a3 a4 a5 a6 a7 a8 a9 a10 a11 a12 a13 a14 a15 a16 a17 a18 a19 a20 : Int) (a21 a22 : ByteArray) (l23 : List S67) (l24 : List S70) (dy : Int) (k : Nat) (hl : l23.length ≤ 300) : r37_Overdue.f (k + 700) a0 a1 a2 a3 a4 a5 a6 a7 a8 a9 a10 a11 a12 a13 a14 a15 a16 a17 a18 a19 a20 a21 a22 l23 l24 dy = some (overR l23 a3 dy) := by
  unfold r37_Overdue.f r34_Principal.f overR
  have h := rprin_l0 a0 a1 a2 a3 a4 a5 a6 a7 a8 a9 a10 a11 a12 a13 a14 a15 a16 a17 a18 a19 a20 a21 a22 l23 l24 dy (by omega) l23.length 0 (k + (699 - l23.length)) 0 (by omega)
  rw [show k + (699 - l23.length) + l23.length + 1 = k + 700 by omega, show ((0 : Nat) : Int) = 0 from rfl] at h
  rw [h]
  simp only [Option.bind_some, List.drop_zero]
  congr 1
  unfold mx
  split <;> split <;> omega
theorem bucket_eq (d : Int) : r37_Bucket.f d = arrears_Bucket.f d := by
  unfold r37_Bucket.f arrears_Bucket.f
  repeat' split
  all_goals rfl
theorem great_eq (a0 a1 a2 a3 a4 a5 a6 a7 a8 a9 a10 a11 a12 a13 a14 a15 a16 a17 a18 a19 a20 : Int) (a21 a22 : ByteArray) (l23 : List S67) (l24 : List S70) : ∃ b, r34_Great.f a0 a1 a2 a3 a4 a5 a6 a7 a8 a9 a10 a11 a12 a13 a14 a15 a16 a17 a18 a19 a20 a21 a22 l23 l24 = some b ∧ (b = false → l23.length ≤ 300 ∧ l24.length ≤ 100) := by
  unfold r34_Great.f
  split
  · exact ⟨true, rfl, fun h => by cases h⟩
  · exact ⟨_, rfl, fun h => by have := of_decide_eq_false h; omega⟩
theorem ArrearsCounts_pure (x : S27) (a1 a2 : Int) : ∃ k, corebanklaw37_ArrearsCounts.f k x.f0 x.f1 x.f2 x.f3 x.f4 x.f5 x.f6 x.f7 x.f8 x.f9 x.f10 x.f11.f0 x.f11.f1 x.f11.f2 x.f11.f3 x.f11.f4 x.f11.f5 x.f11.f6 x.f11.f7 x.f11.f8 x.f11.f9 x.f11.f10 x.f11.f11 x.f12 x.f13 a1 a2 = some true := by
  refine ⟨0 + 700, ?_⟩
  unfold corebanklaw37_ArrearsCounts.f
  obtain ⟨b, hb, hl⟩ := great_eq x.f0 x.f1 x.f2 x.f3 x.f4 x.f5 x.f6 x.f7 x.f8 x.f9 x.f10 x.f11.f0 x.f11.f1 x.f11.f2 x.f11.f3 x.f11.f4 x.f11.f5 x.f11.f6 x.f11.f7 x.f11.f8 x.f11.f9 x.f11.f10 x.f11.f11 x.f12 x.f13
  have hL := live_at 300
  rw [show 300 + 400 = 0 + 700 from rfl] at hL
  rw [hb, hL]
  simp only [Option.bind_some]
  cases b with
  | true => rw [if_pos rfl]
  | false =>
    rw [if_neg (by decide)]
    have h := (hl rfl).1
    rw [arrears_Days_eq x.f0 x.f1 x.f2 x.f3 x.f4 x.f5 x.f6 x.f7 x.f8 x.f9 x.f10 x.f11.f0 x.f11.f1 x.f11.f2 x.f11.f3 x.f11.f4 x.f11.f5 x.f11.f6 x.f11.f7 x.f11.f8 x.f11.f9 x.f11.f10 x.f11.f11 x.f12 x.f13 a1 0 h, r37_Days_eq x.f0 x.f1 x.f2 x.f3 x.f4 x.f5 x.f6 x.f7 x.f8 x.f9 x.f10 x.f11.f0 x.f11.f1 x.f11.f2 x.f11.f3 x.f11.f4 x.f11.f5 x.f11.f6 x.f11.f7 x.f11.f8 x.f11.f9 x.f11.f10 x.f11.f11 x.f12 x.f13 a1 0 h, pover_eq x.f0 x.f1 x.f2 x.f3 x.f4 x.f5 x.f6 x.f7 x.f8 x.f9 x.f10 x.f11.f0 x.f11.f1 x.f11.f2 x.f11.f3 x.f11.f4 x.f11.f5 x.f11.f6 x.f11.f7 x.f11.f8 x.f11.f9 x.f11.f10 x.f11.f11 x.f12 x.f13 a1 0 h, rover_eq x.f0 x.f1 x.f2 x.f3 x.f4 x.f5 x.f6 x.f7 x.f8 x.f9 x.f10 x.f11.f0 x.f11.f1 x.f11.f2 x.f11.f3 x.f11.f4 x.f11.f5 x.f11.f6 x.f11.f7 x.f11.f8 x.f11.f9 x.f11.f10 x.f11.f11 x.f12 x.f13 a1 0 h, bucket_eq]
    simp only [Option.bind_some, if_true]
    unfold arrears_Bucket.f
    simp only [Option.bind_some, if_true]
end Go.Proofs.YtogcdcjbleafdaaDoor.PureArrearsCounts
end
