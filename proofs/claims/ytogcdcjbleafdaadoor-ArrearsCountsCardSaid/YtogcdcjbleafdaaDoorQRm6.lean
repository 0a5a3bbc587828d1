import Derived.Test.YtogcdcjbleafdaaDoorQRm2
import Derived.Test.YtogcdcjbleafdaaDoorQRm5
section
namespace Go.Proofs.YtogcdcjbleafdaaDoor.PS
open Go.RowKit Go.Proofs.YtogcdcjbleafdaaDoorW.PrintWords Go.Proofs.YtogcdcjbleafdaaDoorW.PrintLast Go.Proofs.YtogcdcjbleafdaaDoorW.PrintMore
attribute [local go_sem] max2_int min2_int max_two min_two
set_option linter.unusedVariables false
set_option linter.unusedSimpArgs false
def date_length.j0 : Nat → Int → Bool → Int → Int → Int → Int → Int → Int → Int → Int → Int → Int → Int → Int → Int → Option (Int)
 | 0, _, _, _, _, _, _, _, _, _, _, _, _, _, _, _ => none
 | k + 1, x1, x12, x178000, x178001, x178002, x178003, x178004, x178005, x178006, x178007, x178008, x178009, x178010, x178011, x178012 => if x12 = true then (some 29) else (if x1 = (0 : Int) then (some x178000) else (if x1 = (1 : Int) then (some x178001) else (if x1 = (2 : Int) then (some x178002) else (if x1 = (3 : Int) then (some x178003) else (if x1 = (4 : Int) then (some x178004) else (if x1 = (5 : Int) then (some x178005) else (if x1 = (6 : Int) then (some x178006) else (if x1 = (7 : Int) then (some x178007) else (if x1 = (8 : Int) then (some x178008) else (if x1 = (9 : Int) then (some x178009) else (if x1 = (10 : Int) then (some x178010) else (if x1 = (11 : Int) then (some x178011) else (if x1 = (12 : Int) then (some x178012) else (none))))))))))))))
def date_length.f (k : Nat) (a0 a1 : Int) : Option (Int) := if a1 = 2 then ((date_Leap.f a0).bind fun t178 => (date_length.j0 k a1 t178 0 31 28 31 30 31 30 31 31 30 31 30 31)) else (date_length.j0 k a1 false 0 31 28 31 30 31 30 31 31 30 31 30 31)
theorem date_length.mono_l : ∀ k, (∀ y0 y1 y2 y3 y4 y5 y6 y7 y8 y9 y10 y11 y12 y13 y14, LeO (date_length.j0 k y0 y1 y2 y3 y4 y5 y6 y7 y8 y9 y10 y11 y12 y13 y14) (date_length.j0 (k + 1) y0 y1 y2 y3 y4 y5 y6 y7 y8 y9 y10 y11 y12 y13 y14))
 | 0 => fun _ _ _ _ _ _ _ _ _ _ _ _ _ _ _ r h => by simp [date_length.j0] at h
 | k + 1 => by
  have ih0 := date_length.mono_l k
  ·intro y0 y1 y2 y3 y4 y5 y6 y7 y8 y9 y10 y11 y12 y13 y14
   unfold date_length.j0
   repeat' first
   | (with_reducible apply ih0)
   | (with_reducible exact LeO.refl _)
   | (with_reducible exact LeO.none _)
   | (with_reducible refine LeO.ite ?_ ?_)
   | (with_reducible refine LeO.bind ?_ (fun _ => ?_))
   | apply ih0
   | exact LeO.none _
   | refine LeO.ite ?_ ?_
   | refine LeO.bind ?_ (fun _ => ?_)
theorem date_length.mono : ∀ a0 a1 k, LeO (date_length.f k a0 a1) (date_length.f (k + 1) a0 a1) := by
 intro a0 a1 k
 have ih0 := date_length.mono_l k
 unfold date_length.f
 repeat' first
   | (with_reducible apply ih0)
   | (with_reducible exact LeO.refl _)
   | (with_reducible exact LeO.none _)
   | (with_reducible refine LeO.ite ?_ ?_)
   | (with_reducible refine LeO.bind ?_ (fun _ => ?_))
   | apply ih0
   | exact LeO.none _
   | refine LeO.ite ?_ ?_
   | refine LeO.bind ?_ (fun _ => ?_)
set_option maxHeartbeats 8000000 in
set_option maxRecDepth 100000 in
theorem date_length.calls (k : Nat) (a0 a1 r : Int) (w : World) (h : date_length.f k a0 a1 = some r) :
  Calls Tryd.prog 95 #[.int .i64 a0, .int .i64 a1] w fun e w' => e = .returned (.int .i64 r) ∧ Below w.heap.size w w' := by
 have hu121 := Tryd.underlying121
 have HB := am_ (Below.refl w.heap.size w)
 have H := h
 clear h
 unfold date_length.f at H
 have HC3 := am_ H
 clear H
 go_enter Tryd.func95, Tryd.ntmps95
 go_upto_region 2 with (first | ((with_reducible refine gate_dst (N := 5) rfl ?_); refine be_ (N := 5) (cs := #[.int .i64 0, .int .i64 0, .int .i64 0, .int .i64 0, .int .i64 0, .int .i64 0, .int .i64 0, .int .i64 0, .int .i64 0, .int .i64 0, .int .i64 0, .int .i64 0, .int .i64 0]) (t := 121) ?_; intro gb177 hg w4 hbox hb; have BK177 := am_ (hbox); have GE177 := am_ (bz_ hg (qb_ HB.out) : w.heap.size ≤ gb177); replace HB := am_ (below_step (qb_ HB.out) hb); clear hb hbox hg; obtain ⟨Z5_0, Z5_1, Z5_2, Z5_3, Z5_4, Z5_5, Z5_6, Z5_7, Z5_8, Z5_9, Z5_10, Z5_11, Z5_12, Y5_0, Y5_1, Y5_2, Y5_3, Y5_4, Y5_5, Y5_6, Y5_7, Y5_8, Y5_9, Y5_10, Y5_11, Y5_12⟩ := cz13_ BK177.out))
 (try simp only [Act.put, List.setIfInBounds_toArray, List.set_cons_zero, List.set_cons_succ])
 go_cut [12] (fun v12 wc => ∃ (kq : Nat) (x12_2 : Bool), v12 = .bool x12_2 ∧ Aside0 (date_length.j0 kq a1 x12_2 0 31 28 31 30 31 30 31 31 30 31 30 31 = some r) ∧ Aside0 (kq ≤ k) ∧ Aside0 (wc.heap[gb177]? = some (.cells #[.int .i64 0, .int .i64 31, .int .i64 28, .int .i64 31, .int .i64 30, .int .i64 31, .int .i64 30, .int .i64 31, .int .i64 31, .int .i64 30, .int .i64 31, .int .i64 30, .int .i64 31] 121 (0, 0))) ∧ Aside0 (Below w.heap.size w wc))
 case first =>
  have H := HC3.out
  clear HC3
  by_cases c6 : a1 = 2
  ·rw [if_pos c6] at H
   have c6b0 : (a1 == 2) = true := beq_iff_eq.mpr c6
   have c6b1 : (a1 != 2) = false := bne_eq_false_iff_eq.mpr c6
   clear c6
   (first | rw [c6b0] | (simp only [i64_w, i32_w]; rw [c6b0]) | skip)
   replace H := Option.bind_eq_some_iff.mp H
   obtain ⟨t178, A70, H⟩ := H
   (try dsimp only at H)
   have A7 := am_ A70
   clear A70
   have H' := am_ H
   clear H
   go_wp2_with (first | (go_at_call 64; (with_reducible refine (date_Leap.calls a0 t178 _ A7.out).mono ?_); rintro e w' ⟨rfl, ⟨nd, rfl⟩⟩))
   go_meet
   case rel => exact ⟨_, (t178), qs_, H', ⟨qo_⟩, ⟨by (with_reducible repeat (first | refine blk_drewN ?_ _ | refine blk_drew ?_ | refine blk_alloc ?_ _)); refine blk_put (cs := #[.int .i64 0, .int .i64 31, .int .i64 28, .int .i64 31, .int .i64 30, .int .i64 31, .int .i64 30, .int .i64 31, .int .i64 31, .int .i64 30, .int .i64 31, .int .i64 30, .int .i64 0]) ?_ 12 _ rfl; (with_reducible repeat (first | refine blk_drewN ?_ _ | refine blk_drew ?_ | refine blk_alloc ?_ _)); refine blk_put (cs := #[.int .i64 0, .int .i64 31, .int .i64 28, .int .i64 31, .int .i64 30, .int .i64 31, .int .i64 30, .int .i64 31, .int .i64 31, .int .i64 30, .int .i64 31, .int .i64 0, .int .i64 0]) ?_ 11 _ rfl; (with_reducible repeat (first | refine blk_drewN ?_ _ | refine blk_drew ?_ | refine blk_alloc ?_ _)); refine blk_put (cs := #[.int .i64 0, .int .i64 31, .int .i64 28, .int .i64 31, .int .i64 30, .int .i64 31, .int .i64 30, .int .i64 31, .int .i64 31, .int .i64 30, .int .i64 0, .int .i64 0, .int .i64 0]) ?_ 10 _ rfl; (with_reducible repeat (first | refine blk_drewN ?_ _ | refine blk_drew ?_ | refine blk_alloc ?_ _)); refine blk_put (cs := #[.int .i64 0, .int .i64 31, .int .i64 28, .int .i64 31, .int .i64 30, .int .i64 31, .int .i64 30, .int .i64 31, .int .i64 31, .int .i64 0, .int .i64 0, .int .i64 0, .int .i64 0]) ?_ 9 _ rfl; (with_reducible repeat (first | refine blk_drewN ?_ _ | refine blk_drew ?_ | refine blk_alloc ?_ _)); refine blk_put (cs := #[.int .i64 0, .int .i64 31, .int .i64 28, .int .i64 31, .int .i64 30, .int .i64 31, .int .i64 30, .int .i64 31, .int .i64 0, .int .i64 0, .int .i64 0, .int .i64 0, .int .i64 0]) ?_ 8 _ rfl; (with_reducible repeat (first | refine blk_drewN ?_ _ | refine blk_drew ?_ | refine blk_alloc ?_ _)); refine blk_put (cs := #[.int .i64 0, .int .i64 31, .int .i64 28, .int .i64 31, .int .i64 30, .int .i64 31, .int .i64 30, .int .i64 0, .int .i64 0, .int .i64 0, .int .i64 0, .int .i64 0, .int .i64 0]) ?_ 7 _ rfl; (with_reducible repeat (first | refine blk_drewN ?_ _ | refine blk_drew ?_ | refine blk_alloc ?_ _)); refine blk_put (cs := #[.int .i64 0, .int .i64 31, .int .i64 28, .int .i64 31, .int .i64 30, .int .i64 31, .int .i64 0, .int .i64 0, .int .i64 0, .int .i64 0, .int .i64 0, .int .i64 0, .int .i64 0]) ?_ 6 _ rfl; (with_reducible repeat (first | refine blk_drewN ?_ _ | refine blk_drew ?_ | refine blk_alloc ?_ _)); refine blk_put (cs := #[.int .i64 0, .int .i64 31, .int .i64 28, .int .i64 31, .int .i64 30, .int .i64 0, .int .i64 0, .int .i64 0, .int .i64 0, .int .i64 0, .int .i64 0, .int .i64 0, .int .i64 0]) ?_ 5 _ rfl; (with_reducible repeat (first | refine blk_drewN ?_ _ | refine blk_drew ?_ | refine blk_alloc ?_ _)); refine blk_put (cs := #[.int .i64 0, .int .i64 31, .int .i64 28, .int .i64 31, .int .i64 0, .int .i64 0, .int .i64 0, .int .i64 0, .int .i64 0, .int .i64 0, .int .i64 0, .int .i64 0, .int .i64 0]) ?_ 4 _ rfl; (with_reducible repeat (first | refine blk_drewN ?_ _ | refine blk_drew ?_ | refine blk_alloc ?_ _)); refine blk_put (cs := #[.int .i64 0, .int .i64 31, .int .i64 28, .int .i64 0, .int .i64 0, .int .i64 0, .int .i64 0, .int .i64 0, .int .i64 0, .int .i64 0, .int .i64 0, .int .i64 0, .int .i64 0]) ?_ 3 _ rfl; (with_reducible repeat (first | refine blk_drewN ?_ _ | refine blk_drew ?_ | refine blk_alloc ?_ _)); refine blk_put (cs := #[.int .i64 0, .int .i64 31, .int .i64 0, .int .i64 0, .int .i64 0, .int .i64 0, .int .i64 0, .int .i64 0, .int .i64 0, .int .i64 0, .int .i64 0, .int .i64 0, .int .i64 0]) ?_ 2 _ rfl; (with_reducible repeat (first | refine blk_drewN ?_ _ | refine blk_drew ?_ | refine blk_alloc ?_ _)); refine blk_put (cs := #[.int .i64 0, .int .i64 0, .int .i64 0, .int .i64 0, .int .i64 0, .int .i64 0, .int .i64 0, .int .i64 0, .int .i64 0, .int .i64 0, .int .i64 0, .int .i64 0, .int .i64 0]) ?_ 1 _ rfl; (with_reducible repeat (first | refine blk_drewN ?_ _ | refine blk_drew ?_ | refine blk_alloc ?_ _)); refine blk_put (cs := #[.int .i64 0, .int .i64 0, .int .i64 0, .int .i64 0, .int .i64 0, .int .i64 0, .int .i64 0, .int .i64 0, .int .i64 0, .int .i64 0, .int .i64 0, .int .i64 0, .int .i64 0]) ?_ 0 _ rfl; (with_reducible repeat (first | refine blk_drewN ?_ _ | refine blk_drew ?_ | refine blk_alloc ?_ _)); exact BK177.out⟩, ⟨qb1_ GE177.out HB.out⟩⟩
  ·rw [if_neg c6] at H
   have c6b0 : (a1 == 2) = false := beq_eq_false_iff_ne.mpr c6
   have c6b1 : (a1 != 2) = true := bne_iff_ne.mpr c6
   (first | rw [c6b0] | (simp only [i64_w, i32_w]; rw [c6b0]) | skip)
   have H' := am_ H
   clear H
   go_wp2
   go_meet
   case rel => exact ⟨_, (false), qs_, H', ⟨qo_⟩, ⟨by (with_reducible repeat (first | refine blk_drewN ?_ _ | refine blk_drew ?_ | refine blk_alloc ?_ _)); refine blk_put (cs := #[.int .i64 0, .int .i64 31, .int .i64 28, .int .i64 31, .int .i64 30, .int .i64 31, .int .i64 30, .int .i64 31, .int .i64 31, .int .i64 30, .int .i64 31, .int .i64 30, .int .i64 0]) ?_ 12 _ rfl; (with_reducible repeat (first | refine blk_drewN ?_ _ | refine blk_drew ?_ | refine blk_alloc ?_ _)); refine blk_put (cs := #[.int .i64 0, .int .i64 31, .int .i64 28, .int .i64 31, .int .i64 30, .int .i64 31, .int .i64 30, .int .i64 31, .int .i64 31, .int .i64 30, .int .i64 31, .int .i64 0, .int .i64 0]) ?_ 11 _ rfl; (with_reducible repeat (first | refine blk_drewN ?_ _ | refine blk_drew ?_ | refine blk_alloc ?_ _)); refine blk_put (cs := #[.int .i64 0, .int .i64 31, .int .i64 28, .int .i64 31, .int .i64 30, .int .i64 31, .int .i64 30, .int .i64 31, .int .i64 31, .int .i64 30, .int .i64 0, .int .i64 0, .int .i64 0]) ?_ 10 _ rfl; (with_reducible repeat (first | refine blk_drewN ?_ _ | refine blk_drew ?_ | refine blk_alloc ?_ _)); refine blk_put (cs := #[.int .i64 0, .int .i64 31, .int .i64 28, .int .i64 31, .int .i64 30, .int .i64 31, .int .i64 30, .int .i64 31, .int .i64 31, .int .i64 0, .int .i64 0, .int .i64 0, .int .i64 0]) ?_ 9 _ rfl; (with_reducible repeat (first | refine blk_drewN ?_ _ | refine blk_drew ?_ | refine blk_alloc ?_ _)); refine blk_put (cs := #[.int .i64 0, .int .i64 31, .int .i64 28, .int .i64 31, .int .i64 30, .int .i64 31, .int .i64 30, .int .i64 31, .int .i64 0, .int .i64 0, .int .i64 0, .int .i64 0, .int .i64 0]) ?_ 8 _ rfl; (with_reducible repeat (first | refine blk_drewN ?_ _ | refine blk_drew ?_ | refine blk_alloc ?_ _)); refine blk_put (cs := #[.int .i64 0, .int .i64 31, .int .i64 28, .int .i64 31, .int .i64 30, .int .i64 31, .int .i64 30, .int .i64 0, .int .i64 0, .int .i64 0, .int .i64 0, .int .i64 0, .int .i64 0]) ?_ 7 _ rfl; (with_reducible repeat (first | refine blk_drewN ?_ _ | refine blk_drew ?_ | refine blk_alloc ?_ _)); refine blk_put (cs := #[.int .i64 0, .int .i64 31, .int .i64 28, .int .i64 31, .int .i64 30, .int .i64 31, .int .i64 0, .int .i64 0, .int .i64 0, .int .i64 0, .int .i64 0, .int .i64 0, .int .i64 0]) ?_ 6 _ rfl; (with_reducible repeat (first | refine blk_drewN ?_ _ | refine blk_drew ?_ | refine blk_alloc ?_ _)); refine blk_put (cs := #[.int .i64 0, .int .i64 31, .int .i64 28, .int .i64 31, .int .i64 30, .int .i64 0, .int .i64 0, .int .i64 0, .int .i64 0, .int .i64 0, .int .i64 0, .int .i64 0, .int .i64 0]) ?_ 5 _ rfl; (with_reducible repeat (first | refine blk_drewN ?_ _ | refine blk_drew ?_ | refine blk_alloc ?_ _)); refine blk_put (cs := #[.int .i64 0, .int .i64 31, .int .i64 28, .int .i64 31, .int .i64 0, .int .i64 0, .int .i64 0, .int .i64 0, .int .i64 0, .int .i64 0, .int .i64 0, .int .i64 0, .int .i64 0]) ?_ 4 _ rfl; (with_reducible repeat (first | refine blk_drewN ?_ _ | refine blk_drew ?_ | refine blk_alloc ?_ _)); refine blk_put (cs := #[.int .i64 0, .int .i64 31, .int .i64 28, .int .i64 0, .int .i64 0, .int .i64 0, .int .i64 0, .int .i64 0, .int .i64 0, .int .i64 0, .int .i64 0, .int .i64 0, .int .i64 0]) ?_ 3 _ rfl; (with_reducible repeat (first | refine blk_drewN ?_ _ | refine blk_drew ?_ | refine blk_alloc ?_ _)); refine blk_put (cs := #[.int .i64 0, .int .i64 31, .int .i64 0, .int .i64 0, .int .i64 0, .int .i64 0, .int .i64 0, .int .i64 0, .int .i64 0, .int .i64 0, .int .i64 0, .int .i64 0, .int .i64 0]) ?_ 2 _ rfl; (with_reducible repeat (first | refine blk_drewN ?_ _ | refine blk_drew ?_ | refine blk_alloc ?_ _)); refine blk_put (cs := #[.int .i64 0, .int .i64 0, .int .i64 0, .int .i64 0, .int .i64 0, .int .i64 0, .int .i64 0, .int .i64 0, .int .i64 0, .int .i64 0, .int .i64 0, .int .i64 0, .int .i64 0]) ?_ 1 _ rfl; (with_reducible repeat (first | refine blk_drewN ?_ _ | refine blk_drew ?_ | refine blk_alloc ?_ _)); refine blk_put (cs := #[.int .i64 0, .int .i64 0, .int .i64 0, .int .i64 0, .int .i64 0, .int .i64 0, .int .i64 0, .int .i64 0, .int .i64 0, .int .i64 0, .int .i64 0, .int .i64 0, .int .i64 0]) ?_ 0 _ rfl; (with_reducible repeat (first | refine blk_drewN ?_ _ | refine blk_drew ?_ | refine blk_alloc ?_ _)); exact BK177.out⟩, ⟨qb1_ GE177.out HB.out⟩⟩
 case rest =>
  clear HC3
  try clear p2
  try clear c6
  try clear c6b0
  try clear c6b1
  (try clear Z5_0 Z5_1 Z5_10 Z5_11 Z5_12 Z5_2 Z5_3 Z5_4 Z5_5 Z5_6 Z5_7 Z5_8 Z5_9 Y5_0 Y5_1 Y5_10 Y5_11 Y5_12 Y5_2 Y5_3 Y5_4 Y5_5 Y5_6 Y5_7 Y5_8 Y5_9)
  obtain ⟨kq, x12_2, rfl, HA, HJ2, BK177, HB⟩ := hcut
  cases kq with
  | zero => exact absurd HA.out (by simp [date_length.j0])
  | succ kj2 =>
   have H := HA.out
   clear HA
   simp only [date_length.j0] at H
   by_cases c8 : x12_2 = true
   ·subst c8
    rw [if_pos rfl] at H
    obtain rfl := Option.some.inj H
    go_wp2
    go_ret
    exact ⟨qe_, qb1_ GE177.out HB.out⟩
   ·replace c8 := Bool.eq_false_iff.mpr c8
    subst c8
    rw [if_neg (show ¬ (false = true) by decide)] at H
    by_cases c9 : a1 = (0 : Int)
    ·rw [if_pos c9] at H
     subst c9
     obtain rfl := Option.some.inj H
     obtain ⟨Z10_0, Z10_1, Z10_2, Z10_3, Z10_4, Z10_5, Z10_6, Z10_7, Z10_8, Z10_9, Z10_10, Z10_11, Z10_12, Y10_0, Y10_1, Y10_2, Y10_3, Y10_4, Y10_5, Y10_6, Y10_7, Y10_8, Y10_9, Y10_10, Y10_11, Y10_12⟩ := cz13_ BK177.out
     go_wp2
     go_ret
     exact ⟨qe_, qb1_ GE177.out HB.out⟩
    ·rw [if_neg c9] at H
     have c9b0 : (a1 == (0 : Int)) = false := beq_eq_false_iff_ne.mpr c9
     have c9b1 : (a1 != (0 : Int)) = true := bne_iff_ne.mpr c9
     by_cases c11 : a1 = (1 : Int)
     ·rw [if_pos c11] at H
      subst c11
      obtain rfl := Option.some.inj H
      obtain ⟨Z12_0, Z12_1, Z12_2, Z12_3, Z12_4, Z12_5, Z12_6, Z12_7, Z12_8, Z12_9, Z12_10, Z12_11, Z12_12, Y12_0, Y12_1, Y12_2, Y12_3, Y12_4, Y12_5, Y12_6, Y12_7, Y12_8, Y12_9, Y12_10, Y12_11, Y12_12⟩ := cz13_ BK177.out
      go_wp2
      go_ret
      exact ⟨qe_, qb1_ GE177.out HB.out⟩
     ·rw [if_neg c11] at H
      have c11b0 : (a1 == (1 : Int)) = false := beq_eq_false_iff_ne.mpr c11
      have c11b1 : (a1 != (1 : Int)) = true := bne_iff_ne.mpr c11
      by_cases c13 : a1 = (2 : Int)
      ·rw [if_pos c13] at H
       subst c13
       obtain rfl := Option.some.inj H
       obtain ⟨Z14_0, Z14_1, Z14_2, Z14_3, Z14_4, Z14_5, Z14_6, Z14_7, Z14_8, Z14_9, Z14_10, Z14_11, Z14_12, Y14_0, Y14_1, Y14_2, Y14_3, Y14_4, Y14_5, Y14_6, Y14_7, Y14_8, Y14_9, Y14_10, Y14_11, Y14_12⟩ := cz13_ BK177.out
       go_wp2
       go_ret
       exact ⟨qe_, qb1_ GE177.out HB.out⟩
      ·rw [if_neg c13] at H
       have c13b0 : (a1 == (2 : Int)) = false := beq_eq_false_iff_ne.mpr c13
       have c13b1 : (a1 != (2 : Int)) = true := bne_iff_ne.mpr c13
       by_cases c15 : a1 = (3 : Int)
       ·rw [if_pos c15] at H
        subst c15
        obtain rfl := Option.some.inj H
        obtain ⟨Z16_0, Z16_1, Z16_2, Z16_3, Z16_4, Z16_5, Z16_6, Z16_7, Z16_8, Z16_9, Z16_10, Z16_11, Z16_12, Y16_0, Y16_1, Y16_2, Y16_3, Y16_4, Y16_5, Y16_6, Y16_7, Y16_8, Y16_9, Y16_10, Y16_11, Y16_12⟩ := cz13_ BK177.out
        go_wp2
        go_ret
        exact ⟨qe_, qb1_ GE177.out HB.out⟩
       ·rw [if_neg c15] at H
        have c15b0 : (a1 == (3 : Int)) = false := beq_eq_false_iff_ne.mpr c15
        have c15b1 : (a1 != (3 : Int)) = true := bne_iff_ne.mpr c15
        by_cases c17 : a1 = (4 : Int)
        ·rw [if_pos c17] at H
         subst c17
         obtain rfl := Option.some.inj H
         obtain ⟨Z18_0, Z18_1, Z18_2, Z18_3, Z18_4, Z18_5, Z18_6, Z18_7, Z18_8, Z18_9, Z18_10, Z18_11, Z18_12, Y18_0, Y18_1, Y18_2, Y18_3, Y18_4, Y18_5, Y18_6, Y18_7, Y18_8, Y18_9, Y18_10, Y18_11, Y18_12⟩ := cz13_ BK177.out
         go_wp2
         go_ret
         exact ⟨qe_, qb1_ GE177.out HB.out⟩
        ·rw [if_neg c17] at H
         have c17b0 : (a1 == (4 : Int)) = false := beq_eq_false_iff_ne.mpr c17
         have c17b1 : (a1 != (4 : Int)) = true := bne_iff_ne.mpr c17
         by_cases c19 : a1 = (5 : Int)
         ·rw [if_pos c19] at H
          subst c19
          obtain rfl := Option.some.inj H
          obtain ⟨Z20_0, Z20_1, Z20_2, Z20_3, Z20_4, Z20_5, Z20_6, Z20_7, Z20_8, Z20_9, Z20_10, Z20_11, Z20_12, Y20_0, Y20_1, Y20_2, Y20_3, Y20_4, Y20_5, Y20_6, Y20_7, Y20_8, Y20_9, Y20_10, Y20_11, Y20_12⟩ := cz13_ BK177.out
          go_wp2
          go_ret
          exact ⟨qe_, qb1_ GE177.out HB.out⟩
         ·rw [if_neg c19] at H
          have c19b0 : (a1 == (5 : Int)) = false := beq_eq_false_iff_ne.mpr c19
          have c19b1 : (a1 != (5 : Int)) = true := bne_iff_ne.mpr c19
          by_cases c21 : a1 = (6 : Int)
          ·rw [if_pos c21] at H
           subst c21
           obtain rfl := Option.some.inj H
           obtain ⟨Z22_0, Z22_1, Z22_2, Z22_3, Z22_4, Z22_5, Z22_6, Z22_7, Z22_8, Z22_9, Z22_10, Z22_11, Z22_12, Y22_0, Y22_1, Y22_2, Y22_3, Y22_4, Y22_5, Y22_6, Y22_7, Y22_8, Y22_9, Y22_10, Y22_11, Y22_12⟩ := cz13_ BK177.out
           go_wp2
           go_ret
           exact ⟨qe_, qb1_ GE177.out HB.out⟩
          ·rw [if_neg c21] at H
           have c21b0 : (a1 == (6 : Int)) = false := beq_eq_false_iff_ne.mpr c21
           have c21b1 : (a1 != (6 : Int)) = true := bne_iff_ne.mpr c21
           by_cases c23 : a1 = (7 : Int)
           ·rw [if_pos c23] at H
            subst c23
            obtain rfl := Option.some.inj H
            obtain ⟨Z24_0, Z24_1, Z24_2, Z24_3, Z24_4, Z24_5, Z24_6, Z24_7, Z24_8, Z24_9, Z24_10, Z24_11, Z24_12, Y24_0, Y24_1, Y24_2, Y24_3, Y24_4, Y24_5, Y24_6, Y24_7, Y24_8, Y24_9, Y24_10, Y24_11, Y24_12⟩ := cz13_ BK177.out
            go_wp2
            go_ret
            exact ⟨qe_, qb1_ GE177.out HB.out⟩
           ·rw [if_neg c23] at H
            have c23b0 : (a1 == (7 : Int)) = false := beq_eq_false_iff_ne.mpr c23
            have c23b1 : (a1 != (7 : Int)) = true := bne_iff_ne.mpr c23
            by_cases c25 : a1 = (8 : Int)
            ·rw [if_pos c25] at H
             subst c25
             obtain rfl := Option.some.inj H
             obtain ⟨Z26_0, Z26_1, Z26_2, Z26_3, Z26_4, Z26_5, Z26_6, Z26_7, Z26_8, Z26_9, Z26_10, Z26_11, Z26_12, Y26_0, Y26_1, Y26_2, Y26_3, Y26_4, Y26_5, Y26_6, Y26_7, Y26_8, Y26_9, Y26_10, Y26_11, Y26_12⟩ := cz13_ BK177.out
             go_wp2
             go_ret
             exact ⟨qe_, qb1_ GE177.out HB.out⟩
            ·rw [if_neg c25] at H
             have c25b0 : (a1 == (8 : Int)) = false := beq_eq_false_iff_ne.mpr c25
             have c25b1 : (a1 != (8 : Int)) = true := bne_iff_ne.mpr c25
             by_cases c27 : a1 = (9 : Int)
             ·rw [if_pos c27] at H
              subst c27
              obtain rfl := Option.some.inj H
              obtain ⟨Z28_0, Z28_1, Z28_2, Z28_3, Z28_4, Z28_5, Z28_6, Z28_7, Z28_8, Z28_9, Z28_10, Z28_11, Z28_12, Y28_0, Y28_1, Y28_2, Y28_3, Y28_4, Y28_5, Y28_6, Y28_7, Y28_8, Y28_9, Y28_10, Y28_11, Y28_12⟩ := cz13_ BK177.out
              go_wp2
              go_ret
              exact ⟨qe_, qb1_ GE177.out HB.out⟩
             ·rw [if_neg c27] at H
              have c27b0 : (a1 == (9 : Int)) = false := beq_eq_false_iff_ne.mpr c27
              have c27b1 : (a1 != (9 : Int)) = true := bne_iff_ne.mpr c27
              by_cases c29 : a1 = (10 : Int)
              ·rw [if_pos c29] at H
               subst c29
               obtain rfl := Option.some.inj H
               obtain ⟨Z30_0, Z30_1, Z30_2, Z30_3, Z30_4, Z30_5, Z30_6, Z30_7, Z30_8, Z30_9, Z30_10, Z30_11, Z30_12, Y30_0, Y30_1, Y30_2, Y30_3, Y30_4, Y30_5, Y30_6, Y30_7, Y30_8, Y30_9, Y30_10, Y30_11, Y30_12⟩ := cz13_ BK177.out
               go_wp2
               go_ret
               exact ⟨qe_, qb1_ GE177.out HB.out⟩
              ·rw [if_neg c29] at H
               have c29b0 : (a1 == (10 : Int)) = false := beq_eq_false_iff_ne.mpr c29
               have c29b1 : (a1 != (10 : Int)) = true := bne_iff_ne.mpr c29
               by_cases c31 : a1 = (11 : Int)
               ·rw [if_pos c31] at H
                subst c31
                obtain rfl := Option.some.inj H
                obtain ⟨Z32_0, Z32_1, Z32_2, Z32_3, Z32_4, Z32_5, Z32_6, Z32_7, Z32_8, Z32_9, Z32_10, Z32_11, Z32_12, Y32_0, Y32_1, Y32_2, Y32_3, Y32_4, Y32_5, Y32_6, Y32_7, Y32_8, Y32_9, Y32_10, Y32_11, Y32_12⟩ := cz13_ BK177.out
                go_wp2
                go_ret
                exact ⟨qe_, qb1_ GE177.out HB.out⟩
               ·rw [if_neg c31] at H
                have c31b0 : (a1 == (11 : Int)) = false := beq_eq_false_iff_ne.mpr c31
                have c31b1 : (a1 != (11 : Int)) = true := bne_iff_ne.mpr c31
                by_cases c33 : a1 = (12 : Int)
                ·rw [if_pos c33] at H
                 subst c33
                 obtain rfl := Option.some.inj H
                 obtain ⟨Z34_0, Z34_1, Z34_2, Z34_3, Z34_4, Z34_5, Z34_6, Z34_7, Z34_8, Z34_9, Z34_10, Z34_11, Z34_12, Y34_0, Y34_1, Y34_2, Y34_3, Y34_4, Y34_5, Y34_6, Y34_7, Y34_8, Y34_9, Y34_10, Y34_11, Y34_12⟩ := cz13_ BK177.out
                 go_wp2
                 go_ret
                 exact ⟨qe_, qb1_ GE177.out HB.out⟩
                ·rw [if_neg c33] at H
                 exact absurd H (by simp)
mutual
def date_Civil.l0 : Nat → Int → Int → Option (Int × Int × Int)
 | 0, _, _ => none
 | k + 1, x0, x5 => (date_begin.f (wrap64 (x5 + 1))).bind fun t180 => (if t180 ≤ x0 then (date_Civil.l0 k x0 (wrap64 (x5 + 1))) else ((date_begin.f x5).bind fun t181 => (date_Civil.l1 k (wrap64 (x0 - t181)) x5 1)))
def date_Civil.l1 : Nat → Int → Int → Int → Option (Int × Int × Int)
 | 0, _, _, _ => none
 | k + 1, x0, x5, x6 => (date_length.f k x5 x6).bind fun t182 => (if x0 ≥ t182 then ((date_length.f k x5 x6).bind fun t183 => (date_Civil.l1 k (wrap64 (x0 - t183)) x5 (wrap64 (x6 + 1)))) else (some (x5, x6, wrap64 (x0 + 1))))
end
def date_Civil.f (k : Nat) (a0 : Int) : Option (Int × Int × Int) := (date_Valid.f a0).bind fun t179 => (if t179 = true then (date_Civil.l0 k a0 (wrap64 (2000 + (wrap64 (Int.tdiv a0 366))))) else (some (0, 0, 0)))
theorem date_Civil.mono_l : ∀ k, (∀ y0 y1, LeO (date_Civil.l0 k y0 y1) (date_Civil.l0 (k + 1) y0 y1)) ∧ (∀ y0 y1 y2, LeO (date_Civil.l1 k y0 y1 y2) (date_Civil.l1 (k + 1) y0 y1 y2))
 | 0 => ⟨fun _ _ r h => by simp [date_Civil.l0] at h, fun _ _ _ r h => by simp [date_Civil.l1] at h⟩
 | k + 1 => by
  obtain ⟨ih0, ih1⟩ := date_Civil.mono_l k
  refine ⟨?_, ?_⟩
  ·intro y0 y1
   unfold date_Civil.l0
   repeat' first
   | (with_reducible exact ih0 _ _)
   | (with_reducible exact ih1 _ _ _)
   | (with_reducible exact date_length.mono _ _ _)
   | (with_reducible exact LeO.refl _)
   | (with_reducible exact LeO.none _)
   | (with_reducible refine LeO.ite ?_ ?_)
   | (with_reducible refine LeO.bind ?_ (fun _ => ?_))
   | exact ih0 _ _
   | exact ih1 _ _ _
   | exact date_length.mono _ _ _
   | exact LeO.none _
   | refine LeO.ite ?_ ?_
   | refine LeO.bind ?_ (fun _ => ?_)
  ·intro y0 y1 y2
   unfold date_Civil.l1
   repeat' first
   | (with_reducible exact ih0 _ _)
   | (with_reducible exact ih1 _ _ _)
   | (with_reducible exact date_length.mono _ _ _)
   | (with_reducible exact LeO.refl _)
   | (with_reducible exact LeO.none _)
   | (with_reducible refine LeO.ite ?_ ?_)
   | (with_reducible refine LeO.bind ?_ (fun _ => ?_))
   | exact ih0 _ _
   | exact ih1 _ _ _
   | exact date_length.mono _ _ _
   | exact LeO.none _
   | refine LeO.ite ?_ ?_
   | refine LeO.bind ?_ (fun _ => ?_)
theorem date_Civil.mono : ∀ a0 k, LeO (date_Civil.f k a0) (date_Civil.f (k + 1) a0) := by
 intro a0 k
 obtain ⟨ih0, ih1⟩ := date_Civil.mono_l k
 unfold date_Civil.f
 repeat' first
   | (with_reducible exact ih0 _ _)
   | (with_reducible exact ih1 _ _ _)
   | (with_reducible exact date_length.mono _ _ _)
   | (with_reducible exact LeO.refl _)
   | (with_reducible exact LeO.none _)
   | (with_reducible refine LeO.ite ?_ ?_)
   | (with_reducible refine LeO.bind ?_ (fun _ => ?_))
   | exact ih0 _ _
   | exact ih1 _ _ _
   | exact date_length.mono _ _ _
   | exact LeO.none _
   | refine LeO.ite ?_ ?_
   | refine LeO.bind ?_ (fun _ => ?_)
set_option maxHeartbeats 8000000 in
set_option maxRecDepth 100000 in
theorem date_Civil.calls (k : Nat) (a0 r1 r2 r3 : Int) (w : World) (h : date_Civil.f k a0 = some (r1, r2, r3)) :
  Calls Tryd.prog 63 #[.int .i64 a0] w fun e w' => e = .returned (.tuple #[.int .i64 r1, .int .i64 r2, .int .i64 r3]) ∧ Below w.heap.size w w' := by
 have HB := am_ (Below.refl w.heap.size w)
 have H := h
 clear h
 unfold date_Civil.f at H
 replace H := Option.bind_eq_some_iff.mp H
 obtain ⟨t179, A20, H⟩ := H
 (try dsimp only at H)
 have A2 := am_ A20
 clear A20
 by_cases c3 : t179 = true
 ·subst c3
  rw [if_pos rfl] at H
  have H' := am_ H
  clear H
  go_enter Tryd.func63, Tryd.ntmps63
  go_wp2_with (first | ((with_reducible refine gate_callee (f := 62) rfl ?_); refine goesL_ (some 8) rfl rfl Tryd.func62 (by kernel_rfl) rfl #[.int .i64 a0] rfl ql_ ?_; (with_reducible refine (date_Valid.calls a0 true _ A2.out).mono ?_); rintro e w' ⟨rfl, ⟨nd, rfl⟩⟩; refine ⟨_, rfl, ?_⟩))
  go_loopg [5] k (fun kq v5 w' => ∃ (x5_1 : Int), v5 = .int .i64 x5_1 ∧ Aside0 (date_Civil.l0 kq a0 x5_1 = some (r1, r2, r3)) ∧ Aside0 (kq ≤ k) ∧ Aside0 (Below w.heap.size w w'))
  case atStart => exact ⟨(wrap64 (2000 + (wrap64 (Int.tdiv a0 366)))), qs_, H', ⟨Nat.le_refl _⟩, ⟨qb_ HB.out⟩⟩
  case round =>
   clear H'
   try clear p2
   try clear c3
   obtain ⟨x5_1, rfl, HA, HK1, HB⟩ := hrel
   cases gk with
   | zero => exact absurd HA.out (by simp [date_Civil.l0])
   | succ k1 =>
    have H := HA.out
    clear HA
    simp only [date_Civil.l0] at H
    replace H := Option.bind_eq_some_iff.mp H
    obtain ⟨t180, A40, H⟩ := H
    (try dsimp only at H)
    have A4 := am_ A40
    clear A40
    by_cases c5 : t180 ≤ a0
    ·rw [if_pos c5] at H
     have c5b0 : decide (t180 ≤ a0) = true := decide_eq_true c5
     clear c5
     have H' := am_ H
     clear H
     go_wp2_with (first | ((with_reducible refine gate_callee (f := 94) rfl ?_); refine goesL_ (some 15) rfl rfl Tryd.func94 (by kernel_rfl) rfl #[.int .i64 (wrap64 (x5_1 + 1))] rfl ql_ ?_; (with_reducible refine (date_begin.calls (wrap64 (x5_1 + 1)) t180 _ A4.out).mono ?_); rintro e w' ⟨rfl, ⟨nd, rfl⟩⟩; refine ⟨_, rfl, ?_⟩))
     go_roundg k1
     case measure => have := HK1.out; omega
     case rel => exact ⟨(wrap64 (x5_1 + 1)), qs_, H', ⟨by have := HK1.out; omega⟩, ⟨qb_ HB.out⟩⟩
    ·rw [if_neg c5] at H
     have c5b0 : decide (t180 ≤ a0) = false := decide_eq_false c5
     clear c5
     replace H := Option.bind_eq_some_iff.mp H
     obtain ⟨t181, A60, H⟩ := H
     (try dsimp only at H)
     have A6 := am_ A60
     clear A60
     have H' := am_ H
     clear H
     go_wp2_with (first | ((with_reducible refine gate_callee (f := 94) rfl ?_); refine goesL_ (some 15) rfl rfl Tryd.func94 (by kernel_rfl) rfl #[.int .i64 (wrap64 (x5_1 + 1))] rfl ql_ ?_; (with_reducible refine (date_begin.calls (wrap64 (x5_1 + 1)) t180 _ A4.out).mono ?_); rintro e w' ⟨rfl, ⟨nd, rfl⟩⟩; refine ⟨_, rfl, ?_⟩) | ((with_reducible refine gate_callee (f := 94) rfl ?_); refine goesL_ (some 22) rfl rfl Tryd.func94 (by kernel_rfl) rfl #[.int .i64 x5_1] rfl ql_ ?_; (with_reducible refine (date_begin.calls x5_1 t181 _ A6.out).mono ?_); rintro e w' ⟨rfl, ⟨nd, rfl⟩⟩; refine ⟨_, rfl, ?_⟩))
     go_loopg [0, 6] k1 (fun kq v0 v6 w' => ∃ (x0_2 x6_2 : Int), v0 = .int .i64 x0_2 ∧ v6 = .int .i64 x6_2 ∧ Aside0 (date_Civil.l1 kq x0_2 x5_1 x6_2 = some (r1, r2, r3)) ∧ Aside0 (kq ≤ k1) ∧ Aside0 (Below w.heap.size w w'))
     case atStart => exact ⟨(wrap64 (a0 - t181)), (1), qs_, qs_, H', ⟨Nat.le_refl _⟩, ⟨qb_ HB.out⟩⟩
     case round =>
      clear H'
      try clear p2
      try clear c3
      try clear c5
      try clear c5b0
      try clear c6
      try clear p6
      try clear p2
      obtain ⟨x0_2, x6_2, rfl, rfl, HA, HK2, HB⟩ := hrel
      cases gk with
      | zero => exact absurd HA.out (by simp [date_Civil.l1])
      | succ k2 =>
       have H := HA.out
       clear HA
       simp only [date_Civil.l1] at H
       replace H := Option.bind_eq_some_iff.mp H
       obtain ⟨t182, A70, H⟩ := H
       (try dsimp only at H)
       have A7 := am_ A70
       clear A70
       by_cases c8 : x0_2 ≥ t182
       ·rw [if_pos c8] at H
        have c8b0 : decide (t182 ≤ x0_2) = true := decide_eq_true c8
        clear c8
        replace H := Option.bind_eq_some_iff.mp H
        obtain ⟨t183, A90, H⟩ := H
        (try dsimp only at H)
        have A9 := am_ A90
        clear A90
        have H' := am_ H
        clear H
        go_wp2_with (first | ((with_reducible refine gate_callee (f := 95) rfl ?_); refine goesL_ (some 27) rfl rfl Tryd.func95 (by kernel_rfl) rfl #[.int .i64 x5_1, .int .i64 x6_2] rfl ql_ ?_; (with_reducible refine (date_length.calls k2 x5_1 x6_2 t182 _ A7.out).mono ?_); rintro e w10 ⟨rfl, hb⟩; refine ⟨_, rfl, ?_⟩; replace HB := am_ (below_step (qb_ HB.out) hb); (try clear hb)) | ((with_reducible refine gate_callee (f := 95) rfl ?_); refine goesL_ (some 32) rfl rfl Tryd.func95 (by kernel_rfl) rfl #[.int .i64 x5_1, .int .i64 x6_2] rfl ql_ ?_; (with_reducible refine (date_length.calls k2 x5_1 x6_2 t183 _ A9.out).mono ?_); rintro e w11 ⟨rfl, hb⟩; refine ⟨_, rfl, ?_⟩; replace HB := am_ (below_step (qb_ HB.out) hb); (try clear hb)))
        go_roundg k2
        case measure => have := HK1.out; have := HK2.out; omega
        case rel => exact ⟨(wrap64 (x0_2 - t183)), (wrap64 (x6_2 + 1)), qs_, qs_, H', ⟨by have := HK1.out; have := HK2.out; omega⟩, ⟨qb_ HB.out⟩⟩
       ·rw [if_neg c8] at H
        have c8b0 : decide (t182 ≤ x0_2) = false := decide_eq_false c8
        clear c8
        simp only [Option.some.injEq, Prod.mk.injEq] at H
        obtain ⟨rfl, rfl, rfl⟩ := H
        go_wp2_with (first | ((with_reducible refine gate_callee (f := 95) rfl ?_); refine goesL_ (some 27) rfl rfl Tryd.func95 (by kernel_rfl) rfl #[.int .i64 x5_1, .int .i64 x6_2] rfl ql_ ?_; (with_reducible refine (date_length.calls k2 x5_1 x6_2 t182 _ A7.out).mono ?_); rintro e w12 ⟨rfl, hb⟩; refine ⟨_, rfl, ?_⟩; replace HB := am_ (below_step (qb_ HB.out) hb); (try clear hb)))
        go_ret3
        exact ⟨qe_, qb_ HB.out⟩
 ·replace c3 := Bool.eq_false_iff.mpr c3
  subst c3
  rw [if_neg (show ¬ (false = true) by decide)] at H
  simp only [Option.some.injEq, Prod.mk.injEq] at H
  obtain ⟨rfl, rfl, rfl⟩ := H
  go_enter Tryd.func63, Tryd.ntmps63
  go_wp2_with (first | ((with_reducible refine gate_callee (f := 62) rfl ?_); refine goesL_ (some 8) rfl rfl Tryd.func62 (by kernel_rfl) rfl #[.int .i64 a0] rfl ql_ ?_; (with_reducible refine (date_Valid.calls a0 false _ A2.out).mono ?_); rintro e w' ⟨rfl, ⟨nd, rfl⟩⟩; refine ⟨_, rfl, ?_⟩))
  go_ret3
  exact ⟨qe_, qb_ HB.out⟩
def daycount_Thirty.j0 : Nat → Int → Int → Bool → Option (Int)
 | 0, _, _, _ => none
 | k + 1, x0, x1, x18 => if x18 = true then (some 0) else ((date_Civil.f k x0).bind fun bt186 => ((date_Civil.f k x1).bind fun bt189 => (some (wrap64 ((wrap64 ((wrap64 ((wrap64 (360 * (wrap64 (bt189.1 - bt186.1)))) + (wrap64 (30 * (wrap64 (bt189.2.1 - bt186.2.1)))))) + (mn bt189.2.2 30))) - (mn bt186.2.2 30))))))
def daycount_Thirty.f (k : Nat) (a0 a1 : Int) : Option (Int) := (date_Valid.f a0).bind fun t184 => (if t184 = true then ((date_Valid.f a1).bind fun t185 => (daycount_Thirty.j0 k a0 a1 (!t185))) else (daycount_Thirty.j0 k a0 a1 true))
theorem daycount_Thirty.mono_l : ∀ k, (∀ y0 y1 y2, LeO (daycount_Thirty.j0 k y0 y1 y2) (daycount_Thirty.j0 (k + 1) y0 y1 y2))
 | 0 => fun _ _ _ r h => by simp [daycount_Thirty.j0] at h
 | k + 1 => by
  have ih0 := daycount_Thirty.mono_l k
  ·intro y0 y1 y2
   unfold daycount_Thirty.j0
   repeat' first
   | (with_reducible exact ih0 _ _ _)
   | (with_reducible exact date_Civil.mono _ _)
   | (with_reducible exact LeO.refl _)
   | (with_reducible exact LeO.none _)
   | (with_reducible refine LeO.ite ?_ ?_)
   | (with_reducible refine LeO.bind ?_ (fun _ => ?_))
   | exact ih0 _ _ _
   | exact date_Civil.mono _ _
   | exact LeO.none _
   | refine LeO.ite ?_ ?_
   | refine LeO.bind ?_ (fun _ => ?_)
theorem daycount_Thirty.mono : ∀ a0 a1 k, LeO (daycount_Thirty.f k a0 a1) (daycount_Thirty.f (k + 1) a0 a1) := by
 intro a0 a1 k
 have ih0 := daycount_Thirty.mono_l k
 unfold daycount_Thirty.f
 repeat' first
   | (with_reducible exact ih0 _ _ _)
   | (with_reducible exact date_Civil.mono _ _)
   | (with_reducible exact LeO.refl _)
   | (with_reducible exact LeO.none _)
   | (with_reducible refine LeO.ite ?_ ?_)
   | (with_reducible refine LeO.bind ?_ (fun _ => ?_))
   | exact ih0 _ _ _
   | exact date_Civil.mono _ _
   | exact LeO.none _
   | refine LeO.ite ?_ ?_
   | refine LeO.bind ?_ (fun _ => ?_)
set_option maxHeartbeats 8000000 in
set_option maxRecDepth 100000 in
theorem daycount_Thirty.calls (k : Nat) (a0 a1 r : Int) (w : World) (h : daycount_Thirty.f k a0 a1 = some r) :
  Calls Tryd.prog 65 #[.int .i64 a0, .int .i64 a1] w fun e w' => e = .returned (.int .i64 r) ∧ Below w.heap.size w w' := by
 have HB := am_ (Below.refl w.heap.size w)
 have H := h
 clear h
 unfold daycount_Thirty.f at H
 have HC3 := am_ H
 clear H
 go_enter Tryd.func65, Tryd.ntmps65
 go_upto_region 1 with (fail)
 go_cut [18] (fun v18 wc => ∃ (kq : Nat) (x18_2 : Bool), v18 = .bool x18_2 ∧ Aside0 (daycount_Thirty.j0 kq a0 a1 x18_2 = some r) ∧ Aside0 (kq ≤ k) ∧ Aside0 (Below w.heap.size w wc))
 case first =>
  have H := HC3.out
  clear HC3
  replace H := Option.bind_eq_some_iff.mp H
  obtain ⟨t184, A40, H⟩ := H
  (try dsimp only at H)
  have A4 := am_ A40
  clear A40
  by_cases c5 : t184 = true
  ·subst c5
   rw [if_pos rfl] at H
   replace H := Option.bind_eq_some_iff.mp H
   obtain ⟨t185, A60, H⟩ := H
   (try dsimp only at H)
   have A6 := am_ A60
   clear A60
   have H' := am_ H
   clear H
   go_wp2_with (first | ((with_reducible refine gate_callee (f := 62) rfl ?_); refine goesL_ (some 12) rfl rfl Tryd.func62 (by kernel_rfl) rfl #[.int .i64 a0] rfl ql_ ?_; (with_reducible refine (date_Valid.calls a0 true _ A4.out).mono ?_); rintro e w' ⟨rfl, ⟨nd, rfl⟩⟩; refine ⟨_, rfl, ?_⟩) | (go_at_call 62; (with_reducible refine (date_Valid.calls a1 t185 _ A6.out).mono ?_); rintro e w' ⟨rfl, ⟨nd, rfl⟩⟩))
   go_meet
   case rel => exact ⟨_, (!t185), qs_, H', ⟨qo_⟩, ⟨qb_ HB.out⟩⟩
  ·replace c5 := Bool.eq_false_iff.mpr c5
   subst c5
   rw [if_neg (show ¬ (false = true) by decide)] at H
   have H' := am_ H
   clear H
   go_wp2_with (first | ((with_reducible refine gate_callee (f := 62) rfl ?_); refine goesL_ (some 12) rfl rfl Tryd.func62 (by kernel_rfl) rfl #[.int .i64 a0] rfl ql_ ?_; (with_reducible refine (date_Valid.calls a0 false _ A4.out).mono ?_); rintro e w' ⟨rfl, ⟨nd, rfl⟩⟩; refine ⟨_, rfl, ?_⟩))
   go_meet
   case rel => exact ⟨_, (true), qs_, H', ⟨qo_⟩, ⟨qb_ HB.out⟩⟩
 case rest =>
  clear HC3
  try clear p2
  try clear c5
  try clear c6
  obtain ⟨kq, x18_2, rfl, HA, HJ2, HB⟩ := hcut
  cases kq with
  | zero => exact absurd HA.out (by simp [daycount_Thirty.j0])
  | succ kj2 =>
   have H := HA.out
   clear HA
   simp only [daycount_Thirty.j0] at H
   by_cases c7 : x18_2 = true
   ·subst c7
    rw [if_pos rfl] at H
    obtain rfl := Option.some.inj H
    go_wp2
    go_ret
    exact ⟨qe_, qb_ HB.out⟩
   ·replace c7 := Bool.eq_false_iff.mpr c7
    subst c7
    rw [if_neg (show ¬ (false = true) by decide)] at H
    replace H := Option.bind_eq_some_iff.mp H
    obtain ⟨⟨t186, t187, t188⟩, A80, H⟩ := H
    (try dsimp only at H)
    have A8 := am_ A80
    clear A80
    replace H := Option.bind_eq_some_iff.mp H
    obtain ⟨⟨t189, t190, t191⟩, A90, H⟩ := H
    (try dsimp only at H)
    have A9 := am_ A90
    clear A90
    obtain ⟨ji10, hji10⟩ : ∃ j_ : Int, (mn t191 30) = j_ := ⟨_, rfl⟩
    replace H : (some (wrap64 ((wrap64 ((wrap64 ((wrap64 (360 * (wrap64 (t189 - t186)))) + (wrap64 (30 * (wrap64 (t190 - t187)))))) + (ji10))) - (mn t188 30)))) = some r := by first | (rw [hji10] at H; exact H) | (simp only [hji10] at H ⊢; exact H)
    (try rw [hji10] at A8)
    (try rw [hji10] at A9)
    (try (have hji10h : ji10 ≤ 30 := by (rw [← hji10]; unfold mn; (repeat' split) <;> omega)))
    (try (have hji10g : ji10 ≤ 64 := by omega))
    have hji10_ : (if 30 < t191 then 30 else t191) = ji10 := hji10
    obtain ⟨ji11, hji11⟩ : ∃ j_ : Int, (mn t188 30) = j_ := ⟨_, rfl⟩
    replace H : (some (wrap64 ((wrap64 ((wrap64 ((wrap64 (360 * (wrap64 (t189 - t186)))) + (wrap64 (30 * (wrap64 (t190 - t187)))))) + (ji10))) - (ji11)))) = some r := by first | (rw [hji11] at H; exact H) | (simp only [hji11] at H ⊢; exact H)
    (try rw [hji11] at A8)
    (try rw [hji11] at A9)
    (try (have hji11h : ji11 ≤ 30 := by (rw [← hji11]; unfold mn; (repeat' split) <;> omega)))
    (try (have hji11g : ji11 ≤ 64 := by omega))
    have hji11_ : (if 30 < t188 then 30 else t188) = ji11 := hji11
    obtain rfl := Option.some.inj H
    go_wp2_with (first | ((with_reducible refine gate_callee (f := 63) rfl ?_); refine goesL_ (some 21) rfl rfl Tryd.func63 (by kernel_rfl) rfl #[.int .i64 a0] rfl ql_ ?_; (with_reducible refine (date_Civil.calls kj2 a0 t186 t187 t188 _ A8.out).mono ?_); rintro e w12 ⟨rfl, hb⟩; refine ⟨_, rfl, ?_⟩; replace HB := am_ (below_step (qb_ HB.out) hb); (try clear hb)) | ((with_reducible refine gate_callee (f := 63) rfl ?_); refine goesL_ (some 27) rfl rfl Tryd.func63 (by kernel_rfl) rfl #[.int .i64 a1] rfl ql_ ?_; (with_reducible refine (date_Civil.calls kj2 a1 t189 t190 t191 _ A9.out).mono ?_); rintro e w13 ⟨rfl, hb⟩; refine ⟨_, rfl, ?_⟩; replace HB := am_ (below_step (qb_ HB.out) hb); (try clear hb)))
    go_ret
    exact ⟨by first | rfl | (simp [errW_none, errW_some] <;> rfl) | (simp only [← hji10, ← hji11]; first | rfl | (simp [errW_none, errW_some] <;> rfl)) | (simp [*, errW_none, errW_some] <;> rfl), qb_ HB.out⟩
def daycount_Weight.f (k : Nat) (a0 a1 : Int) : Option (Int) := (date_Valid.f a1).bind fun t192 => (if t192 = true then ((date_Civil.f k a1).bind fun bt193 => (if a0 = 3 then ((date_Leap.f bt193.1).bind fun t196 => (if t196 = true then (some 4380) else (some 4392))) else (if a0 = 2 then (some 4392) else (if a0 = 4 then ((daycount_Thirty.f k a1 (wrap64 (a1 + 1))).bind fun t197 => (some (wrap64 (t197 * 4453)))) else (if a0 = 1 then (some (1 * 4453)) else (some 0)))))) else (some 0))
theorem daycount_Weight.mono : ∀ a0 a1 k, LeO (daycount_Weight.f k a0 a1) (daycount_Weight.f (k + 1) a0 a1) := by
 intro a0 a1 k
 unfold daycount_Weight.f
 repeat' first
   | (with_reducible exact date_Civil.mono _ _)
   | (with_reducible exact daycount_Thirty.mono _ _ _)
   | (with_reducible exact LeO.refl _)
   | (with_reducible exact LeO.none _)
   | (with_reducible refine LeO.ite ?_ ?_)
   | (with_reducible refine LeO.bind ?_ (fun _ => ?_))
   | exact date_Civil.mono _ _
   | exact daycount_Thirty.mono _ _ _
   | exact LeO.none _
   | refine LeO.ite ?_ ?_
   | refine LeO.bind ?_ (fun _ => ?_)
set_option maxHeartbeats 8000000 in
set_option maxRecDepth 100000 in
theorem daycount_Weight.calls (k : Nat) (a0 a1 r : Int) (w : World) (h : daycount_Weight.f k a0 a1 = some r) :
  Calls Tryd.prog 29 #[.int .i64 a0, .int .i64 a1] w fun e w' => e = .returned (.int .i64 r) ∧ Below w.heap.size w w' := by
 have HB := am_ (Below.refl w.heap.size w)
 have H := h
 clear h
 unfold daycount_Weight.f at H
 replace H := Option.bind_eq_some_iff.mp H
 obtain ⟨t192, A30, H⟩ := H
 (try dsimp only at H)
 have A3 := am_ A30
 clear A30
 by_cases c4 : t192 = true
 ·subst c4
  rw [if_pos rfl] at H
  replace H := Option.bind_eq_some_iff.mp H
  obtain ⟨⟨t193, t194, t195⟩, A50, H⟩ := H
  (try dsimp only at H)
  have A5 := am_ A50
  clear A50
  by_cases c6 : a0 = 3
  ·rw [if_pos c6] at H
   have c6b0 : (a0 == 3) = true := beq_iff_eq.mpr c6
   have c6b1 : (a0 != 3) = false := bne_eq_false_iff_eq.mpr c6
   clear c6
   replace H := Option.bind_eq_some_iff.mp H
   obtain ⟨t196, A70, H⟩ := H
   (try dsimp only at H)
   have A7 := am_ A70
   clear A70
   by_cases c8 : t196 = true
   ·subst c8
    rw [if_pos rfl] at H
    obtain rfl := Option.some.inj H
    go_enter Tryd.func29, Tryd.ntmps29
    go_wp2_with (first | ((with_reducible refine gate_callee (f := 62) rfl ?_); refine goesL_ (some 10) rfl rfl Tryd.func62 (by kernel_rfl) rfl #[.int .i64 a1] rfl ql_ ?_; (with_reducible refine (date_Valid.calls a1 true _ A3.out).mono ?_); rintro e w' ⟨rfl, ⟨nd, rfl⟩⟩; refine ⟨_, rfl, ?_⟩) | ((with_reducible refine gate_callee (f := 63) rfl ?_); refine goesL_ (some 14) rfl rfl Tryd.func63 (by kernel_rfl) rfl #[.int .i64 a1] rfl ql_ ?_; (with_reducible refine (date_Civil.calls k a1 t193 t194 t195 _ A5.out).mono ?_); rintro e w9 ⟨rfl, hb⟩; refine ⟨_, rfl, ?_⟩; replace HB := am_ (below_step (qb_ HB.out) hb); (try clear hb)) | ((with_reducible refine gate_callee (f := 64) rfl ?_); refine goesL_ (some 28) rfl rfl Tryd.func64 (by kernel_rfl) rfl #[.int .i64 t193] rfl ql_ ?_; (with_reducible refine (date_Leap.calls t193 true _ A7.out).mono ?_); rintro e w' ⟨rfl, ⟨nd, rfl⟩⟩; refine ⟨_, rfl, ?_⟩))
    go_ret
    exact ⟨qe_, qb_ HB.out⟩
   ·replace c8 := Bool.eq_false_iff.mpr c8
    subst c8
    rw [if_neg (show ¬ (false = true) by decide)] at H
    obtain rfl := Option.some.inj H
    go_enter Tryd.func29, Tryd.ntmps29
    go_wp2_with (first | ((with_reducible refine gate_callee (f := 62) rfl ?_); refine goesL_ (some 10) rfl rfl Tryd.func62 (by kernel_rfl) rfl #[.int .i64 a1] rfl ql_ ?_; (with_reducible refine (date_Valid.calls a1 true _ A3.out).mono ?_); rintro e w' ⟨rfl, ⟨nd, rfl⟩⟩; refine ⟨_, rfl, ?_⟩) | ((with_reducible refine gate_callee (f := 63) rfl ?_); refine goesL_ (some 14) rfl rfl Tryd.func63 (by kernel_rfl) rfl #[.int .i64 a1] rfl ql_ ?_; (with_reducible refine (date_Civil.calls k a1 t193 t194 t195 _ A5.out).mono ?_); rintro e w10 ⟨rfl, hb⟩; refine ⟨_, rfl, ?_⟩; replace HB := am_ (below_step (qb_ HB.out) hb); (try clear hb)) | ((with_reducible refine gate_callee (f := 64) rfl ?_); refine goesL_ (some 28) rfl rfl Tryd.func64 (by kernel_rfl) rfl #[.int .i64 t193] rfl ql_ ?_; (with_reducible refine (date_Leap.calls t193 false _ A7.out).mono ?_); rintro e w' ⟨rfl, ⟨nd, rfl⟩⟩; refine ⟨_, rfl, ?_⟩))
    go_ret
    exact ⟨qe_, qb_ HB.out⟩
  ·rw [if_neg c6] at H
   have c6b0 : (a0 == 3) = false := beq_eq_false_iff_ne.mpr c6
   have c6b1 : (a0 != 3) = true := bne_iff_ne.mpr c6
   by_cases c11 : a0 = 2
   ·rw [if_pos c11] at H
    have c11b0 : (a0 == 2) = true := beq_iff_eq.mpr c11
    have c11b1 : (a0 != 2) = false := bne_eq_false_iff_eq.mpr c11
    clear c11
    obtain rfl := Option.some.inj H
    go_enter Tryd.func29, Tryd.ntmps29
    go_wp2_with (first | ((with_reducible refine gate_callee (f := 62) rfl ?_); refine goesL_ (some 10) rfl rfl Tryd.func62 (by kernel_rfl) rfl #[.int .i64 a1] rfl ql_ ?_; (with_reducible refine (date_Valid.calls a1 true _ A3.out).mono ?_); rintro e w' ⟨rfl, ⟨nd, rfl⟩⟩; refine ⟨_, rfl, ?_⟩) | ((with_reducible refine gate_callee (f := 63) rfl ?_); refine goesL_ (some 14) rfl rfl Tryd.func63 (by kernel_rfl) rfl #[.int .i64 a1] rfl ql_ ?_; (with_reducible refine (date_Civil.calls k a1 t193 t194 t195 _ A5.out).mono ?_); rintro e w12 ⟨rfl, hb⟩; refine ⟨_, rfl, ?_⟩; replace HB := am_ (below_step (qb_ HB.out) hb); (try clear hb)))
    go_ret
    exact ⟨qe_, qb_ HB.out⟩
   ·rw [if_neg c11] at H
    have c11b0 : (a0 == 2) = false := beq_eq_false_iff_ne.mpr c11
    have c11b1 : (a0 != 2) = true := bne_iff_ne.mpr c11
    by_cases c13 : a0 = 4
    ·rw [if_pos c13] at H
     have c13b0 : (a0 == 4) = true := beq_iff_eq.mpr c13
     have c13b1 : (a0 != 4) = false := bne_eq_false_iff_eq.mpr c13
     clear c13
     replace H := Option.bind_eq_some_iff.mp H
     obtain ⟨t197, A140, H⟩ := H
     (try dsimp only at H)
     have A14 := am_ A140
     clear A140
     obtain rfl := Option.some.inj H
     go_enter Tryd.func29, Tryd.ntmps29
     go_wp2_with (first | ((with_reducible refine gate_callee (f := 62) rfl ?_); refine goesL_ (some 10) rfl rfl Tryd.func62 (by kernel_rfl) rfl #[.int .i64 a1] rfl ql_ ?_; (with_reducible refine (date_Valid.calls a1 true _ A3.out).mono ?_); rintro e w' ⟨rfl, ⟨nd, rfl⟩⟩; refine ⟨_, rfl, ?_⟩) | ((with_reducible refine gate_callee (f := 63) rfl ?_); refine goesL_ (some 14) rfl rfl Tryd.func63 (by kernel_rfl) rfl #[.int .i64 a1] rfl ql_ ?_; (with_reducible refine (date_Civil.calls k a1 t193 t194 t195 _ A5.out).mono ?_); rintro e w15 ⟨rfl, hb⟩; refine ⟨_, rfl, ?_⟩; replace HB := am_ (below_step (qb_ HB.out) hb); (try clear hb)) | ((with_reducible refine gate_callee (f := 65) rfl ?_); refine goesL_ (some 32) rfl rfl Tryd.func65 (by kernel_rfl) rfl #[.int .i64 a1, .int .i64 (wrap64 (a1 + 1))] rfl ql_ ?_; (with_reducible refine (daycount_Thirty.calls k a1 (wrap64 (a1 + 1)) t197 _ A14.out).mono ?_); rintro e w16 ⟨rfl, hb⟩; refine ⟨_, rfl, ?_⟩; replace HB := am_ (below_step (qb_ HB.out) hb); (try clear hb)))
     go_ret
     exact ⟨qe_, qb_ HB.out⟩
    ·rw [if_neg c13] at H
     have c13b0 : (a0 == 4) = false := beq_eq_false_iff_ne.mpr c13
     have c13b1 : (a0 != 4) = true := bne_iff_ne.mpr c13
     by_cases c17 : a0 = 1
     ·rw [if_pos c17] at H
      have c17b0 : (a0 == 1) = true := beq_iff_eq.mpr c17
      have c17b1 : (a0 != 1) = false := bne_eq_false_iff_eq.mpr c17
      clear c17
      obtain rfl := Option.some.inj H
      go_enter Tryd.func29, Tryd.ntmps29
      go_wp2_with (first | ((with_reducible refine gate_callee (f := 62) rfl ?_); refine goesL_ (some 10) rfl rfl Tryd.func62 (by kernel_rfl) rfl #[.int .i64 a1] rfl ql_ ?_; (with_reducible refine (date_Valid.calls a1 true _ A3.out).mono ?_); rintro e w' ⟨rfl, ⟨nd, rfl⟩⟩; refine ⟨_, rfl, ?_⟩) | ((with_reducible refine gate_callee (f := 63) rfl ?_); refine goesL_ (some 14) rfl rfl Tryd.func63 (by kernel_rfl) rfl #[.int .i64 a1] rfl ql_ ?_; (with_reducible refine (date_Civil.calls k a1 t193 t194 t195 _ A5.out).mono ?_); rintro e w18 ⟨rfl, hb⟩; refine ⟨_, rfl, ?_⟩; replace HB := am_ (below_step (qb_ HB.out) hb); (try clear hb)))
      go_ret
      exact ⟨qe_, qb_ HB.out⟩
     ·rw [if_neg c17] at H
      have c17b0 : (a0 == 1) = false := beq_eq_false_iff_ne.mpr c17
      have c17b1 : (a0 != 1) = true := bne_iff_ne.mpr c17
      obtain rfl := Option.some.inj H
      go_enter Tryd.func29, Tryd.ntmps29
      go_wp2_with (first | ((with_reducible refine gate_callee (f := 62) rfl ?_); refine goesL_ (some 10) rfl rfl Tryd.func62 (by kernel_rfl) rfl #[.int .i64 a1] rfl ql_ ?_; (with_reducible refine (date_Valid.calls a1 true _ A3.out).mono ?_); rintro e w' ⟨rfl, ⟨nd, rfl⟩⟩; refine ⟨_, rfl, ?_⟩) | ((with_reducible refine gate_callee (f := 63) rfl ?_); refine goesL_ (some 14) rfl rfl Tryd.func63 (by kernel_rfl) rfl #[.int .i64 a1] rfl ql_ ?_; (with_reducible refine (date_Civil.calls k a1 t193 t194 t195 _ A5.out).mono ?_); rintro e w19 ⟨rfl, hb⟩; refine ⟨_, rfl, ?_⟩; replace HB := am_ (below_step (qb_ HB.out) hb); (try clear hb)))
      go_ret
      exact ⟨qe_, qb_ HB.out⟩
 ·replace c4 := Bool.eq_false_iff.mpr c4
  subst c4
  rw [if_neg (show ¬ (false = true) by decide)] at H
  obtain rfl := Option.some.inj H
  go_enter Tryd.func29, Tryd.ntmps29
  go_wp2_with (first | ((with_reducible refine gate_callee (f := 62) rfl ?_); refine goesL_ (some 10) rfl rfl Tryd.func62 (by kernel_rfl) rfl #[.int .i64 a1] rfl ql_ ?_; (with_reducible refine (date_Valid.calls a1 false _ A3.out).mono ?_); rintro e w' ⟨rfl, ⟨nd, rfl⟩⟩; refine ⟨_, rfl, ?_⟩))
  go_ret
  exact ⟨qe_, qb_ HB.out⟩
def wide_AddP.j0 : Nat → Int → Int → Bool → Option (Int × Int × Int)
 | 0, _, _, _ => none
 | k + 1, x6, x8, x39 => if x39 = true then (some (0, 0, 6)) else (some (x8, x6, 0))
def wide_AddP.f (k : Nat) (a0_0 a0_1 a1_0 a1_1 : Int) : Option (Int × Int × Int) := if ((decide (a0_0 < 0)) == (decide (a1_0 < 0))) = true then (wide_AddP.j0 k (addLo a0_1 a1_1) (wrap64 ((wrap64 (a0_0 + a1_0)) + (wrap64 (addHi a0_1 a1_1)))) ((decide ((wrap64 ((wrap64 (a0_0 + a1_0)) + (wrap64 (addHi a0_1 a1_1)))) < 0)) != (decide (a0_0 < 0)))) else (wide_AddP.j0 k (addLo a0_1 a1_1) (wrap64 ((wrap64 (a0_0 + a1_0)) + (wrap64 (addHi a0_1 a1_1)))) false)
set_option maxHeartbeats 8000000 in
set_option maxRecDepth 100000 in
theorem wide_AddP.calls (k : Nat) (a0_0 a0_1 a1_0 a1_1 r1 r2 r3 : Int) (w : World) (h : wide_AddP.f k a0_0 a0_1 a1_0 a1_1 = some (r1, r2, r3)) :
  Calls Tryd.prog 30 #[.agg #[.int .i64 a0_0, .int .u64 a0_1], .agg #[.int .i64 a1_0, .int .u64 a1_1]] w fun e w' => e = .returned (.tuple #[.agg #[.int .i64 r1, .int .u64 r2], .int .i64 r3]) ∧ Below w.heap.size w w' := by
 have hu32 := Tryd.underlying32
 have hadd64 := add64_run
 have HB := am_ (Below.refl w.heap.size w)
 have H := h
 clear h
 unfold wide_AddP.f at H
 have HC3 := am_ H
 clear H
 go_enter Tryd.func30, Tryd.ntmps30
 go_upto_region 3 with (first | ((with_reducible refine gate_dst (N := 2) rfl ?_); refine be_ (N := 2) (cs := #[.int .i64 a0_0, .int .u64 a0_1]) (t := 32) ?_; intro gb198 hg w4 hbox hb; have BK198 := am_ (hbox); have GE198 := am_ (bz_ hg (qb_ HB.out) : w.heap.size ≤ gb198); replace HB := am_ (below_step (qb_ HB.out) hb); clear hb hbox hg) | ((with_reducible refine gate_dst (N := 3) rfl ?_); refine be_ (N := 3) (cs := #[.int .i64 a1_0, .int .u64 a1_1]) (t := 32) ?_; intro gb199 hg w5 hbox hb; have BK199 := am_ (hbox); have GE199 := am_ (bz_ hg (qb1_ GE198.out HB.out) : w.heap.size ≤ gb199); replace HB := am_ (below_step (qb1_ GE198.out HB.out) hb); have NB198_199 := am_ (nl_ hg (qk_ BK198.out) : gb198 ≠ gb199); have NB199_198 := am_ (ng_ hg (qk_ BK198.out) : gb199 ≠ gb198); replace BK198 := am_ (blk_below (qk_ BK198.out) hb); clear hb hbox hg) | ((with_reducible refine gate_dst (N := 4) rfl ?_); refine be_ (N := 4) (cs := #[.int .i64 0, .int .u64 0]) (t := 32) ?_; intro gb200 hg w6 hbox hb; have BK200 := am_ (hbox); have GE200 := am_ (bz_ hg (qb2_ GE198.out GE199.out HB.out) : w.heap.size ≤ gb200); replace HB := am_ (below_step (qb2_ GE198.out GE199.out HB.out) hb); have NB198_200 := am_ (nl_ hg (qk_ BK198.out) : gb198 ≠ gb200); have NB200_198 := am_ (ng_ hg (qk_ BK198.out) : gb200 ≠ gb198); replace BK198 := am_ (blk_below (qk_ BK198.out) hb); have NB199_200 := am_ (nl_ hg (qk_ BK199.out) : gb199 ≠ gb200); have NB200_199 := am_ (ng_ hg (qk_ BK199.out) : gb200 ≠ gb199); replace BK199 := am_ (blk_below (qk_ BK199.out) hb); clear hb hbox hg; have hnb7 := NB198_199.out; have hnc7 := NB199_198.out; have hnb8 := NB198_200.out; have hnc8 := NB200_198.out; obtain ⟨Z9_0, Z9_1, Y9_0, Y9_1⟩ := cz2_ BK198.out; have hnb10 := NB199_200.out; have hnc10 := NB200_199.out; obtain ⟨Z11_0, Z11_1, Y11_0, Y11_1⟩ := cz2_ BK199.out))
 (try simp only [Act.put, List.setIfInBounds_toArray, List.set_cons_zero, List.set_cons_succ])
 go_cut [39] (fun v39 wc => ∃ (kq : Nat) (x39_2 : Bool), v39 = .bool x39_2 ∧ Aside0 (wide_AddP.j0 kq (addLo a0_1 a1_1) (wrap64 ((wrap64 (a0_0 + a1_0)) + (wrap64 (addHi a0_1 a1_1)))) x39_2 = some (r1, r2, r3)) ∧ Aside0 (kq ≤ k) ∧ Aside0 (wc.heap[gb198]? = some (.cells #[.int .i64 a0_0, .int .u64 a0_1] 32 (0, 0))) ∧ Aside0 (wc.heap[gb199]? = some (.cells #[.int .i64 a1_0, .int .u64 a1_1] 32 (0, 0))) ∧ Aside0 (wc.heap[gb200]? = some (.cells #[.int .i64 0, .int .u64 0] 32 (0, 0))) ∧ Aside0 (Below w.heap.size w wc))
 case first =>
  have H := HC3.out
  clear HC3
  by_cases c12 : ((decide (a0_0 < 0)) == (decide (a1_0 < 0))) = true
  ·rw [if_pos c12] at H
   have c12b0 : ((decide (a0_0 < 0)) == (decide (a1_0 < 0))) = true := c12
   (try (have c12b1 : decide ((decide (a0_0 < 0)) = (decide (a1_0 < 0))) = true := by simpa using c12))
   (try (have c12b2 : ((decide (a0_0 < 0)) == (decide (a1_0 < 0))) = true := by simpa using c12))
   clear c12
   (first | rw [c12b0] | (simp only [i64_w, i32_w]; rw [c12b0]) | skip)
   have H' := am_ H
   clear H
   have hnb13 := NB198_199.out
   have hnc13 := NB199_198.out
   have hnb14 := NB198_200.out
   have hnc14 := NB200_198.out
   obtain ⟨Z15_0, Z15_1, Y15_0, Y15_1⟩ := cz2_ BK198.out
   have hnb16 := NB199_200.out
   have hnc16 := NB200_199.out
   obtain ⟨Z17_0, Z17_1, Y17_0, Y17_1⟩ := cz2_ BK199.out
   go_wp2
   go_meet
   case rel => exact ⟨_, (((decide ((wrap64 ((wrap64 (a0_0 + a1_0)) + (wrap64 (addHi a0_1 a1_1)))) < 0)) != (decide (a0_0 < 0)))), qs_, H', ⟨qo_⟩, ⟨qk_ BK198.out⟩, ⟨qk_ BK199.out⟩, ⟨qk_ BK200.out⟩, ⟨qb3_ GE198.out GE199.out GE200.out HB.out⟩⟩
  ·rw [if_neg c12] at H
   have c12b0 : ((decide (a0_0 < 0)) == (decide (a1_0 < 0))) = false := by simpa using c12
   (try (have c12b1 : decide ((decide (a0_0 < 0)) = (decide (a1_0 < 0))) = false := by simpa using c12))
   (try (have c12b2 : ((decide (a0_0 < 0)) == (decide (a1_0 < 0))) = false := by simpa using c12))
   (try (have c12b3 : ¬ ((decide (a0_0 < 0)) = (decide (a1_0 < 0))) := by simpa using c12))
   clear c12
   (first | rw [c12b0] | (simp only [i64_w, i32_w]; rw [c12b0]) | skip)
   have H' := am_ H
   clear H
   have hnb18 := NB198_199.out
   have hnc18 := NB199_198.out
   have hnb19 := NB198_200.out
   have hnc19 := NB200_198.out
   obtain ⟨Z20_0, Z20_1, Y20_0, Y20_1⟩ := cz2_ BK198.out
   have hnb21 := NB199_200.out
   have hnc21 := NB200_199.out
   obtain ⟨Z22_0, Z22_1, Y22_0, Y22_1⟩ := cz2_ BK199.out
   go_wp2
   go_meet
   case rel => exact ⟨_, (false), qs_, H', ⟨qo_⟩, ⟨qk_ BK198.out⟩, ⟨qk_ BK199.out⟩, ⟨qk_ BK200.out⟩, ⟨qb3_ GE198.out GE199.out GE200.out HB.out⟩⟩
 case rest =>
  clear HC3
  try clear c1
  try clear c2
  try clear p2
  try clear c3
  try clear p6
  try clear c7
  try clear c8
  try clear c10
  try clear c12
  try clear c12b0
  try clear c12b1
  try clear c12b2
  try clear c13
  try clear c14
  try clear c16
  try clear c18
  try clear c19
  try clear c21
  (try clear Z11_0 Z11_1 Y11_0 Y11_1)
  (try clear Z15_0 Z15_1 Y15_0 Y15_1)
  (try clear Z17_0 Z17_1 Y17_0 Y17_1)
  (try clear Z20_0 Z20_1 Y20_0 Y20_1)
  (try clear Z22_0 Z22_1 Y22_0 Y22_1)
  (try clear Z9_0 Z9_1 Y9_0 Y9_1)
  obtain ⟨kq, x39_2, rfl, HA, HJ2, BK198, BK199, BK200, HB⟩ := hcut
  cases kq with
  | zero => exact absurd HA.out (by simp [wide_AddP.j0])
  | succ kj2 =>
   have H := HA.out
   clear HA
   simp only [wide_AddP.j0] at H
   by_cases c23 : x39_2 = true
   ·subst c23
    rw [if_pos rfl] at H
    simp only [Option.some.injEq, Prod.mk.injEq] at H
    obtain ⟨rfl, rfl, rfl⟩ := H
    have hnb24 := NB200_198.out
    have hnc24 := NB198_200.out
    have hnb25 := NB200_199.out
    have hnc25 := NB199_200.out
    obtain ⟨Z26_0, Z26_1, Y26_0, Y26_1⟩ := cz2_ BK200.out
    go_wp2
    refine bodyPost_ret (results_ct rfl _ _ gb200 32 #[.int .i64 0, .int .u64 0] (0, 0) _ rfl (qpp_ #[.int .i64 0, .int .u64 0] 1 #[.int .i64 0, .int .u64 0] 0 BK200.out) Tryd.underlying32 rfl (by kernel_rfl)) rfl ?_
    exact ⟨qe_, qb3_ GE198.out GE199.out GE200.out HB.out⟩
   ·replace c23 := Bool.eq_false_iff.mpr c23
    subst c23
    rw [if_neg (show ¬ (false = true) by decide)] at H
    simp only [Option.some.injEq, Prod.mk.injEq] at H
    obtain ⟨rfl, rfl, rfl⟩ := H
    have hnb27 := NB200_198.out
    have hnc27 := NB198_200.out
    have hnb28 := NB200_199.out
    have hnc28 := NB199_200.out
    obtain ⟨Z29_0, Z29_1, Y29_0, Y29_1⟩ := cz2_ BK200.out
    go_wp2
    refine bodyPost_ret (results_ct rfl _ _ gb200 32 #[.int .i64 (wrap64 ((wrap64 (a0_0 + a1_0)) + (wrap64 (addHi a0_1 a1_1)))), .int .u64 (addLo a0_1 a1_1)] (0, 0) _ rfl (qpp_ #[.int .i64 (wrap64 ((wrap64 (a0_0 + a1_0)) + (wrap64 (addHi a0_1 a1_1)))), .int .u64 0] 1 #[.int .i64 0, .int .u64 0] 0 BK200.out) Tryd.underlying32 rfl (by kernel_rfl)) rfl ?_
    exact ⟨qe_, qb3_ GE198.out GE199.out GE200.out HB.out⟩
def wide_Add.f (a0_0 a0_1 a1_0 a1_1 : Int) : Option (Int × Int × Int) :=
 if isW a0_0 a0_1 ∧ isW a1_0 a1_1 then
  some (if in128 (wv a0_0 a0_1 + wv a1_0 a1_1) then ((wv a0_0 a0_1 + wv a1_0 a1_1) / 18446744073709551616, (wv a0_0 a0_1 + wv a1_0 a1_1) % 18446744073709551616, 0) else (0, 0, 6)) else none
theorem wide_Add.eq {a b c d : Int} {r : Int × Int × Int} (h : wide_Add.f a b c d = some r) : ∃ k, wide_AddP.f k a b c d = some r := by
 unfold wide_Add.f at h
 split at h
 ·rename_i q
  obtain ⟨⟨⟨a0, a1⟩, b0, b1⟩, ⟨c0, c1⟩, d0, d1⟩ := q
  injection h with h
  subst h
  refine ⟨1, ?_⟩
  unfold wide_AddP.f
  simp only [wide_AddP.j0]
  have hl : addLo b d = (b + d) % 18446744073709551616 := by unfold addLo; omega
  have hh : addHi b d = (b + d) / 18446744073709551616 := by unfold addHi; omega
  rw [hl, hh]
  have hw : wrap64 (wrap64 (a + c) + wrap64 ((b + d) / 18446744073709551616)) = (a + c + (b + d) / 18446744073709551616 + 9223372036854775808) % 18446744073709551616 - 9223372036854775808 := by unfold wrap64; omega
  rw [hw]
  clear hl hh hw
  by_cases hin : in128 (wv a b + wv c d)
  ·rw [if_pos hin]
   unfold in128 wv at hin
   have e1 : (a + c + (b + d) / 18446744073709551616 + 9223372036854775808) % 18446744073709551616 - 9223372036854775808 = (wv a b + wv c d) / 18446744073709551616 := by unfold wv; omega
   have e2 : (b + d) % 18446744073709551616 = (wv a b + wv c d) % 18446744073709551616 := by unfold wv; omega
   have e3 : (wv a b + wv c d) / 18446744073709551616 = a + c + (b + d) / 18446744073709551616 := by unfold wv; omega
   rw [e1, e2]
   by_cases s1 : a < 0 <;> by_cases s2 : c < 0
   ·have s3 : (wv a b + wv c d) / 18446744073709551616 < 0 := by omega
    simp [s1, s2, s3]
   ·simp [s1, s2]
   ·simp [s1, s2]
   ·have s3 : ¬ (wv a b + wv c d) / 18446744073709551616 < 0 := by omega
    simp [s1, s2, s3]
  ·rw [if_neg hin]
   unfold in128 wv at hin
   by_cases s1 : a < 0 <;> by_cases s2 : c < 0
   ·have s3 : ¬ (a + c + (b + d) / 18446744073709551616 + 9223372036854775808) % 18446744073709551616 - 9223372036854775808 < 0 := by omega
    simp [s1, s2, s3]
   ·omega
   ·omega
   ·have s3 : (a + c + (b + d) / 18446744073709551616 + 9223372036854775808) % 18446744073709551616 - 9223372036854775808 < 0 := by omega
    simp [s1, s2, s3]
 ·cases h
theorem wide_Add.calls (a0_0 a0_1 a1_0 a1_1 r1 r2 r3 : Int) (w : World) (h : wide_Add.f a0_0 a0_1 a1_0 a1_1 = some (r1, r2, r3)) :
  Calls Tryd.prog 30 #[.agg #[.int .i64 a0_0, .int .u64 a0_1], .agg #[.int .i64 a1_0, .int .u64 a1_1]] w fun e w' => e = .returned (.tuple #[.agg #[.int .i64 r1, .int .u64 r2], .int .i64 r3]) ∧ Below w.heap.size w w' := by
 obtain ⟨k, h⟩ := wide_Add.eq h
 exact wide_AddP.calls k a0_0 a0_1 a1_0 a1_1 r1 r2 r3 w h
end Go.Proofs.YtogcdcjbleafdaaDoor.PS
end
