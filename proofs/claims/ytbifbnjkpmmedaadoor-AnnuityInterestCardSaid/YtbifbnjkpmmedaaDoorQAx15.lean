import Derived.Test.YtbifbnjkpmmedaaDoorQAx0
import Derived.Test.YtbifbnjkpmmedaaDoorQAx14
namespace Go.Proofs.YtbifbnjkpmmedaaDoor.PA
open Go.RowKit Go.Proofs.YtbifbnjkpmmedaaDoorW.PrintWords Go.Proofs.YtbifbnjkpmmedaaDoorW.PrintLast Go.Proofs.YtbifbnjkpmmedaaDoorW.PrintMore
attribute [local go_sem] max2_int max_two
set_option linter.unusedVariables false
set_option linter.unusedSimpArgs false
mutual
def corebankref01_timesP.l0 : Nat → Int → Bool → Int → Int → Int → Int → Int → Option (Int × Int × Bool)
  | 0, _, _, _, _, _, _, _ => none
  | k + 1, x1, x7, x8, x201000, x201001, x203000, x203001 => if x8 < 64 then ((corebankref01_plus.f x203000 x203001 x203000 x203001).bind fun bt203 => (if x7 = true then (corebankref01_timesP.j1 k x1 bt203.2.2 x8 x201000 x201001 bt203.1 bt203.2.1) else (corebankref01_timesP.j1 k x1 false x8 x201000 x201001 bt203.1 bt203.2.1))) else (some (x203000, x203001, x7))
def corebankref01_timesP.j1 : Nat → Int → Bool → Int → Int → Int → Int → Int → Option (Int × Int × Bool)
  | 0, _, _, _, _, _, _, _ => none
  | k + 1, x1, x7, x8, x201000, x201001, x203000, x203001 => if (Go.bits .and .u64 x1 9223372036854775808) = 0 then (corebankref01_timesP.l0 k (IntKind.u64.wrap (x1 * 2)) x7 (wrap64 (x8 + 1)) x201000 x201001 x203000 x203001) else ((corebankref01_plus.f x203000 x203001 x201000 x201001).bind fun bt207 => (if x7 = true then (corebankref01_timesP.l0 k (IntKind.u64.wrap (x1 * 2)) bt207.2.2 (wrap64 (x8 + 1)) x201000 x201001 bt207.1 bt207.2.1) else (corebankref01_timesP.l0 k (IntKind.u64.wrap (x1 * 2)) false (wrap64 (x8 + 1)) x201000 x201001 bt207.1 bt207.2.1)))
end
def corebankref01_timesP.f (k : Nat) (a0_0 : Int) (a0_1 : Int) (a1 : Int) : Option (Int × Int × Bool) := corebankref01_timesP.l0 k a1 true 0 a0_0 a0_1 0 0
theorem corebankref01_timesP.mono_l : ∀ k, (∀ y0 y1 y2 y3 y4 y5 y6, LeO (corebankref01_timesP.l0 k y0 y1 y2 y3 y4 y5 y6) (corebankref01_timesP.l0 (k + 1) y0 y1 y2 y3 y4 y5 y6)) ∧ (∀ y0 y1 y2 y3 y4 y5 y6, LeO (corebankref01_timesP.j1 k y0 y1 y2 y3 y4 y5 y6) (corebankref01_timesP.j1 (k + 1) y0 y1 y2 y3 y4 y5 y6))
  | 0 => ⟨fun _ _ _ _ _ _ _ r h => by simp [corebankref01_timesP.l0] at h, fun _ _ _ _ _ _ _ r h => by simp [corebankref01_timesP.j1] at h⟩
  | k + 1 => by
    obtain ⟨ih0, ih1⟩ := corebankref01_timesP.mono_l k
    refine ⟨?_, ?_⟩
    · intro y0 y1 y2 y3 y4 y5 y6
      unfold corebankref01_timesP.l0
      repeat' first
      | (with_reducible exact ih0 _ _ _ _ _ _ _)
      | (with_reducible exact ih1 _ _ _ _ _ _ _)
      | (with_reducible exact LeO.refl _)
      | (with_reducible exact LeO.none _)
      | (with_reducible refine LeO.ite ?_ ?_)
      | (with_reducible refine LeO.bind ?_ (fun _ => ?_))
      | exact ih0 _ _ _ _ _ _ _
      | exact ih1 _ _ _ _ _ _ _
      | exact LeO.none _
      | refine LeO.ite ?_ ?_
      | refine LeO.bind ?_ (fun _ => ?_)
    · intro y0 y1 y2 y3 y4 y5 y6
      unfold corebankref01_timesP.j1
      repeat' first
      | (with_reducible exact ih0 _ _ _ _ _ _ _)
      | (with_reducible exact ih1 _ _ _ _ _ _ _)
      | (with_reducible exact LeO.refl _)
      | (with_reducible exact LeO.none _)
      | (with_reducible refine LeO.ite ?_ ?_)
      | (with_reducible refine LeO.bind ?_ (fun _ => ?_))
      | exact ih0 _ _ _ _ _ _ _
      | exact ih1 _ _ _ _ _ _ _
      | exact LeO.none _
      | refine LeO.ite ?_ ?_
      | refine LeO.bind ?_ (fun _ => ?_)
theorem corebankref01_timesP.mono : ∀ a0 a1 a2 k, LeO (corebankref01_timesP.f k a0 a1 a2) (corebankref01_timesP.f (k + 1) a0 a1 a2) := by
  intro a0 a1 a2 k
  obtain ⟨ih0, ih1⟩ := corebankref01_timesP.mono_l k
  unfold corebankref01_timesP.f
  repeat' first
      | (with_reducible exact ih0 _ _ _ _ _ _ _)
      | (with_reducible exact ih1 _ _ _ _ _ _ _)
      | (with_reducible exact LeO.refl _)
      | (with_reducible exact LeO.none _)
      | (with_reducible refine LeO.ite ?_ ?_)
      | (with_reducible refine LeO.bind ?_ (fun _ => ?_))
      | exact ih0 _ _ _ _ _ _ _
      | exact ih1 _ _ _ _ _ _ _
      | exact LeO.none _
      | refine LeO.ite ?_ ?_
      | refine LeO.bind ?_ (fun _ => ?_)
set_option maxHeartbeats 8000000 in
set_option maxRecDepth 100000 in
theorem corebankref01_timesP.calls (k : Nat) (a0_0 : Int) (a0_1 : Int) (a1 : Int) (r1 : Int) (r2 : Int) (r3 : Bool) (w : World) (h : corebankref01_timesP.f k a0_0 a0_1 a1 = some (r1, r2, r3)) :
    Calls Tryd.prog 23 #[.agg #[.int .u64 a0_0, .int .u64 a0_1], .int .u64 a1] w fun e w' => e = .returned (.tuple #[.agg #[.int .u64 r1, .int .u64 r2], .bool r3]) ∧ Below w.heap.size w w' := by
  have hu51 := Tryd.underlying51
  have HB := Aside0.mk (Below.refl w.heap.size w)
  have H : (corebankref01_timesP.l0 k a1 true 0 a0_0 a0_1 0 0) = some (r1, r2, r3) := h
  clear h
  have H' := Aside0.mk H
  clear H
  go_enter Tryd.func23, Tryd.ntmps23
  go_wp2_with (first | ((with_reducible refine gate_dst (N := 2) rfl ?_); refine box_event ?hg (N := 2) ?hd (cs := #[.int .u64 a0_0, .int .u64 a0_1]) (t := 51) ?hr ?_; (case hd => rfl); (case hg => rfl); (case hr => first | (go_simp; done) | (go_simp; rfl)); intro gb200 hg w3 hbox hb; have n0_ := Aside0.mk (below_step (qb_ HB.out) hb); have n1_ := Aside0.mk (hbox); have n2_ := Aside0.mk ((by rw [hg]; exact (below_size (qb_ HB.out)) : w.heap.size ≤ gb200)); have n3_ := Aside0.mk ((by rw [hg]; exact (below_size (qb_ HB.out)) : w.heap.size ≤ gb200)); clear HB; have HB := n0_; have BK200 := n1_; have GW200 := n2_; have GE200 := n3_; clear n0_ n1_ n2_ n3_; clear hb hbox hg) | ((with_reducible refine gate_dst (N := 4) rfl ?_); refine box_event ?hg (N := 4) ?hd (cs := #[.int .u64 0, .int .u64 0]) (t := 51) ?hr ?_; (case hd => rfl); (case hg => rfl); (case hr => first | (go_simp; done) | (go_simp; rfl)); intro gb201 hg w4 hbox hb; have n0_ := Aside0.mk (blk_below (g := gb200) (o := .cells #[.int .u64 a0_0, .int .u64 a0_1] 51 (0, 0)) (qk_ BK200.out) hb); have n1_ := Aside0.mk (below_step (by repeat (first | (with_reducible first | exact HB.out | apply below_alloc | apply pw_below_drewN | apply below_drew1 | refine below_set ?_ GE200.out) | exact HB.out)) hb); have n2_ := Aside0.mk (hbox); have n3_ := Aside0.mk ((by rw [hg]; exact (below_size (by repeat (first | (with_reducible first | exact HB.out | apply below_alloc | apply pw_below_drewN | apply below_drew1 | refine below_set ?_ GE200.out) | exact HB.out))) : w.heap.size ≤ gb201)); have n4_ := Aside0.mk ((by rw [hg]; exact (below_size (by repeat (first | (with_reducible first | exact HB.out | apply below_alloc | apply pw_below_drewN | apply below_drew1 | refine below_set ?_ GE200.out) | exact HB.out))) : w.heap.size ≤ gb201)); have n5_ := Aside0.mk ((by rw [hg]; exact Nat.ne_of_lt (blk_lt (g := gb200) (o := .cells #[.int .u64 a0_0, .int .u64 a0_1] 51 (0, 0)) (qk_ BK200.out)) : gb200 ≠ gb201)); have n6_ := Aside0.mk ((by rw [hg]; exact Nat.ne_of_gt (blk_lt (g := gb200) (o := .cells #[.int .u64 a0_0, .int .u64 a0_1] 51 (0, 0)) (qk_ BK200.out)) : gb201 ≠ gb200)); clear BK200; clear HB; have BK200 := n0_; have HB := n1_; have BK201 := n2_; have GW201 := n3_; have GE201 := n4_; have NB200_201 := n5_; have NB201_200 := n6_; clear n0_ n1_ n2_ n3_ n4_ n5_ n6_; clear hb hbox hg) | ((with_reducible refine gate_dst (N := 6) rfl ?_); refine box_event ?hg (N := 6) ?hd (cs := #[.int .u64 0, .int .u64 0]) (t := 51) ?hr ?_; (case hd => rfl); (case hg => rfl); (case hr => first | (go_simp; done) | (go_simp; rfl)); intro gb202 hg w5 hbox hb; have n0_ := Aside0.mk (blk_below (g := gb200) (o := .cells #[.int .u64 a0_0, .int .u64 a0_1] 51 (0, 0)) (qk_ BK200.out) hb); have n1_ := Aside0.mk (blk_below (g := gb201) (o := .cells #[.int .u64 0, .int .u64 0] 51 (0, 0)) (qk_ BK201.out) hb); have n2_ := Aside0.mk (below_step (by repeat (first | (with_reducible first | exact HB.out | apply below_alloc | apply pw_below_drewN | apply below_drew1 | refine below_set ?_ GE200.out | refine below_set ?_ GE201.out) | exact HB.out)) hb); have n3_ := Aside0.mk (hbox); have n4_ := Aside0.mk ((by rw [hg]; exact (below_size (by repeat (first | (with_reducible first | exact HB.out | apply below_alloc | apply pw_below_drewN | apply below_drew1 | refine below_set ?_ GE200.out | refine below_set ?_ GE201.out) | exact HB.out))) : w.heap.size ≤ gb202)); have n5_ := Aside0.mk ((by rw [hg]; exact (below_size (by repeat (first | (with_reducible first | exact HB.out | apply below_alloc | apply pw_below_drewN | apply below_drew1 | refine below_set ?_ GE200.out | refine below_set ?_ GE201.out) | exact HB.out))) : w.heap.size ≤ gb202)); have n6_ := Aside0.mk ((by rw [hg]; exact Nat.ne_of_lt (blk_lt (g := gb200) (o := .cells #[.int .u64 a0_0, .int .u64 a0_1] 51 (0, 0)) (qk_ BK200.out)) : gb200 ≠ gb202)); have n7_ := Aside0.mk ((by rw [hg]; exact Nat.ne_of_gt (blk_lt (g := gb200) (o := .cells #[.int .u64 a0_0, .int .u64 a0_1] 51 (0, 0)) (qk_ BK200.out)) : gb202 ≠ gb200)); have n8_ := Aside0.mk ((by rw [hg]; exact Nat.ne_of_lt (blk_lt (g := gb201) (o := .cells #[.int .u64 0, .int .u64 0] 51 (0, 0)) (qk_ BK201.out)) : gb201 ≠ gb202)); have n9_ := Aside0.mk ((by rw [hg]; exact Nat.ne_of_gt (blk_lt (g := gb201) (o := .cells #[.int .u64 0, .int .u64 0] 51 (0, 0)) (qk_ BK201.out)) : gb202 ≠ gb201)); clear BK200; clear BK201; clear HB; have BK200 := n0_; have BK201 := n1_; have HB := n2_; have BK202 := n3_; have GW202 := n4_; have GE202 := n5_; have NB200_202 := n6_; have NB202_200 := n7_; have NB201_202 := n8_; have NB202_201 := n9_; clear n0_ n1_ n2_ n3_ n4_ n5_ n6_ n7_ n8_ n9_; clear hb hbox hg; have hnb6 := NB202_200.out; have hnc6 := NB200_202.out; have hnb7 := NB202_201.out; have hnc7 := NB201_202.out; have hcz8_0 : w5.cell? ⟨gb202, 0, none⟩ = some (.int .u64 0) := (blk_cell BK202.out 0).trans rfl; have hcz8_1 : w5.cell? ⟨gb202, 1, none⟩ = some (.int .u64 0) := (blk_cell BK202.out 1).trans rfl; have hfz8_0 := blk_frozen BK202.out 0; have hfz8_1 := blk_frozen BK202.out 1))
  go_loopg [1, 7, 8] k (fun kq v1 v7 v8 w' => ∃ (x1_1 : Int) (x7_1 : Bool) (x8_1 : Int) (x203000_1 : Int) (x203001_1 : Int), v1 = .int .u64 x1_1 ∧ v7 = .bool x7_1 ∧ v8 = .int .i64 x8_1 ∧ Aside0 (corebankref01_timesP.l0 kq x1_1 x7_1 x8_1 a0_0 a0_1 x203000_1 x203001_1 = some (r1, r2, r3)) ∧ Aside0 (kq ≤ k) ∧ Aside0 (w'.heap[gb200]? = some (.cells #[.int .u64 a0_0, .int .u64 a0_1] 51 (0, 0))) ∧ Aside0 (w'.heap[gb201]? = some (.cells #[.int .u64 0, .int .u64 0] 51 (0, 0))) ∧ Aside0 (w'.heap[gb202]? = some (.cells #[.int .u64 x203000_1, .int .u64 x203001_1] 51 (0, 0))) ∧ Aside0 (Below w.heap.size w w'))
  case atStart => exact ⟨(a1), (true), (0), (0), (0), (by first | rfl | (simp; done) | (simp [*]; done)), (by first | rfl | (simp; done) | (simp [*]; done)), (by first | rfl | (simp; done) | (simp [*]; done)), H', ⟨Nat.le_refl _⟩, ⟨by (with_reducible repeat (first | refine blk_drewN ?_ _ | refine blk_drew ?_ | refine blk_alloc ?_ _)); refine blk_far ?_ NB200_202.out _; (with_reducible repeat (first | refine blk_drewN ?_ _ | refine blk_drew ?_ | refine blk_alloc ?_ _)); refine blk_far ?_ NB200_202.out _; (with_reducible repeat (first | refine blk_drewN ?_ _ | refine blk_drew ?_ | refine blk_alloc ?_ _)); exact BK200.out⟩, ⟨by (with_reducible repeat (first | refine blk_drewN ?_ _ | refine blk_drew ?_ | refine blk_alloc ?_ _)); refine blk_far ?_ NB201_202.out _; (with_reducible repeat (first | refine blk_drewN ?_ _ | refine blk_drew ?_ | refine blk_alloc ?_ _)); refine blk_far ?_ NB201_202.out _; (with_reducible repeat (first | refine blk_drewN ?_ _ | refine blk_drew ?_ | refine blk_alloc ?_ _)); exact BK201.out⟩, ⟨by (with_reducible repeat (first | refine blk_drewN ?_ _ | refine blk_drew ?_ | refine blk_alloc ?_ _)); refine blk_put (cs := #[.int .u64 0, .int .u64 0]) ?_ 1 _ rfl; (with_reducible repeat (first | refine blk_drewN ?_ _ | refine blk_drew ?_ | refine blk_alloc ?_ _)); refine blk_put (cs := #[.int .u64 0, .int .u64 0]) ?_ 0 _ rfl; (with_reducible repeat (first | refine blk_drewN ?_ _ | refine blk_drew ?_ | refine blk_alloc ?_ _)); exact BK202.out⟩, ⟨by repeat (first | (with_reducible first | exact HB.out | apply below_alloc | apply pw_below_drewN | apply below_drew1 | refine below_set ?_ GE200.out | refine below_set ?_ GE201.out | refine below_set ?_ GE202.out) | exact HB.out)⟩⟩
  case round =>
    clear H'
    try clear c2
    try clear p2
    try clear c6
    try clear c7
    try clear hcz8_0
    try clear hcz8_1
    try clear hfz8_0
    try clear hfz8_1
    obtain ⟨x1_1, x7_1, x8_1, x203000_1, x203001_1, rfl, rfl, rfl, HA, HK1, BK200, BK201, BK202, HB⟩ := hrel
    cases gk with
    | zero => exact absurd HA.out (by simp [corebankref01_timesP.l0])
    | succ k1 =>
      have H := HA.out
      clear HA
      simp only [corebankref01_timesP.l0] at H
      by_cases c9 : x8_1 < 64
      · rw [if_pos c9] at H
        have c9b0 : decide (x8_1 < 64) = true := decide_eq_true c9
        clear c9
        replace H := Option.bind_eq_some_iff.mp H
        obtain ⟨⟨t203, t204, t205⟩, A100, H⟩ := H
        replace H : (if x7_1 = true then (corebankref01_timesP.j1 k1 x1_1 t205 x8_1 a0_0 a0_1 t203 t204) else (corebankref01_timesP.j1 k1 x1_1 false x8_1 a0_0 a0_1 t203 t204)) = some (r1, r2, r3) := H
        have A10 := Aside0.mk A100
        clear A100
        have HC11 := Aside0.mk H
        clear H
        have hnb12 := NB202_200.out
        have hnc12 := NB200_202.out
        have hnb13 := NB202_201.out
        have hnc13 := NB201_202.out
        have hcz14_0 : wr.cell? ⟨gb202, 0, none⟩ = some (.int .u64 x203000_1) := (blk_cell BK202.out 0).trans rfl
        have hcz14_1 : wr.cell? ⟨gb202, 1, none⟩ = some (.int .u64 x203001_1) := (blk_cell BK202.out 1).trans rfl
        have hfz14_0 := blk_frozen BK202.out 0
        have hfz14_1 := blk_frozen BK202.out 1
        go_upto_region 8 with (first | ((with_reducible refine gate_callee (f := 37) rfl ?_); refine goesL_ (some 19) rfl rfl Tryd.func37 (by kernel_rfl) rfl #[.agg #[.int .u64 x203000_1, .int .u64 x203001_1], .agg #[.int .u64 x203000_1, .int .u64 x203001_1]] rfl ql_ ?_; (with_reducible refine (corebankref01_plus.calls x203000_1 x203001_1 x203000_1 x203001_1 t203 t204 t205 _ A10.out).mono ?_); rintro e w15 ⟨rfl, hb⟩; refine ⟨_, rfl, ?_⟩; have n0_ := Aside0.mk (blk_below (g := gb200) (o := .cells #[.int .u64 a0_0, .int .u64 a0_1] 51 (0, 0)) (qk_ BK200.out) hb); have n1_ := Aside0.mk (blk_below (g := gb201) (o := .cells #[.int .u64 0, .int .u64 0] 51 (0, 0)) (qk_ BK201.out) hb); have n2_ := Aside0.mk (blk_below (g := gb202) (o := .cells #[.int .u64 x203000_1, .int .u64 x203001_1] 51 (0, 0)) (qk_ BK202.out) hb); have n3_ := Aside0.mk (below_step (by repeat (first | (with_reducible first | exact HB.out | apply below_alloc | apply pw_below_drewN | apply below_drew1 | refine below_set ?_ GE200.out | refine below_set ?_ GE201.out | refine below_set ?_ GE202.out) | exact HB.out)) hb); clear BK200; clear BK201; clear BK202; clear HB; have BK200 := n0_; have BK201 := n1_; have BK202 := n2_; have HB := n3_; clear n0_ n1_ n2_ n3_; (try clear hb); (try clear hb2); (try clear hk); (try clear hi)) | ((with_reducible refine gate_dst (N := 9) rfl ?_); refine box_event ?hg (N := 9) ?hd (cs := #[.int .u64 0, .int .u64 0]) (t := 51) ?hr ?_; (case hd => rfl); (case hg => rfl); (case hr => first | (go_simp; done) | (go_simp; rfl)); intro gb206 hg w16 hbox hb; have n0_ := Aside0.mk (blk_below (g := gb200) (o := .cells #[.int .u64 a0_0, .int .u64 a0_1] 51 (0, 0)) (qk_ BK200.out) hb); have n1_ := Aside0.mk (blk_below (g := gb201) (o := .cells #[.int .u64 0, .int .u64 0] 51 (0, 0)) (qk_ BK201.out) hb); have n2_ := Aside0.mk (blk_below (g := gb202) (o := .cells #[.int .u64 x203000_1, .int .u64 x203001_1] 51 (0, 0)) (qk_ BK202.out) hb); have n3_ := Aside0.mk (below_step (by repeat (first | (with_reducible first | exact HB.out | apply below_alloc | apply pw_below_drewN | apply below_drew1 | refine below_set ?_ GE200.out | refine below_set ?_ GE201.out | refine below_set ?_ GE202.out) | exact HB.out)) hb); have n4_ := Aside0.mk (hbox); have n5_ := Aside0.mk ((by rw [hg]; exact (below_size (by repeat (first | (with_reducible first | exact HB.out | apply below_alloc | apply pw_below_drewN | apply below_drew1 | refine below_set ?_ GE200.out | refine below_set ?_ GE201.out | refine below_set ?_ GE202.out) | exact HB.out))) : w.heap.size ≤ gb206)); have n6_ := Aside0.mk ((by rw [hg]; exact (below_size (by repeat (first | (with_reducible first | exact HB.out | apply below_alloc | apply pw_below_drewN | apply below_drew1 | refine below_set ?_ GE200.out | refine below_set ?_ GE201.out | refine below_set ?_ GE202.out) | exact HB.out))) : w.heap.size ≤ gb206)); have n7_ := Aside0.mk ((by rw [hg]; exact Nat.ne_of_lt (blk_lt (g := gb200) (o := .cells #[.int .u64 a0_0, .int .u64 a0_1] 51 (0, 0)) (qk_ BK200.out)) : gb200 ≠ gb206)); have n8_ := Aside0.mk ((by rw [hg]; exact Nat.ne_of_gt (blk_lt (g := gb200) (o := .cells #[.int .u64 a0_0, .int .u64 a0_1] 51 (0, 0)) (qk_ BK200.out)) : gb206 ≠ gb200)); have n9_ := Aside0.mk ((by rw [hg]; exact Nat.ne_of_lt (blk_lt (g := gb201) (o := .cells #[.int .u64 0, .int .u64 0] 51 (0, 0)) (qk_ BK201.out)) : gb201 ≠ gb206)); have n10_ := Aside0.mk ((by rw [hg]; exact Nat.ne_of_gt (blk_lt (g := gb201) (o := .cells #[.int .u64 0, .int .u64 0] 51 (0, 0)) (qk_ BK201.out)) : gb206 ≠ gb201)); have n11_ := Aside0.mk ((by rw [hg]; exact Nat.ne_of_lt (blk_lt (g := gb202) (o := .cells #[.int .u64 x203000_1, .int .u64 x203001_1] 51 (0, 0)) (qk_ BK202.out)) : gb202 ≠ gb206)); have n12_ := Aside0.mk ((by rw [hg]; exact Nat.ne_of_gt (blk_lt (g := gb202) (o := .cells #[.int .u64 x203000_1, .int .u64 x203001_1] 51 (0, 0)) (qk_ BK202.out)) : gb206 ≠ gb202)); clear BK200; clear BK201; clear BK202; clear HB; have BK200 := n0_; have BK201 := n1_; have BK202 := n2_; have HB := n3_; have BK206 := n4_; have GW206 := n5_; have GE206 := n6_; have NB200_206 := n7_; have NB206_200 := n8_; have NB201_206 := n9_; have NB206_201 := n10_; have NB202_206 := n11_; have NB206_202 := n12_; clear n0_ n1_ n2_ n3_ n4_ n5_ n6_ n7_ n8_ n9_ n10_ n11_ n12_; clear hb hbox hg; have hnb17 := NB206_200.out; have hnc17 := NB200_206.out; have hnb18 := NB206_201.out; have hnc18 := NB201_206.out; have hnb19 := NB206_202.out; have hnc19 := NB202_206.out; have hcz20_0 : w16.cell? ⟨gb206, 0, none⟩ = some (.int .u64 0) := (blk_cell BK206.out 0).trans rfl; have hcz20_1 : w16.cell? ⟨gb206, 1, none⟩ = some (.int .u64 0) := (blk_cell BK206.out 1).trans rfl; have hfz20_0 := blk_frozen BK206.out 0; have hfz20_1 := blk_frozen BK206.out 1; have hcz21_0 : w16.cell? ⟨gb202, 0, none⟩ = some (.int .u64 x203000_1) := (blk_cell BK202.out 0).trans rfl; have hcz21_1 : w16.cell? ⟨gb202, 1, none⟩ = some (.int .u64 x203001_1) := (blk_cell BK202.out 1).trans rfl; have hfz21_0 := blk_frozen BK202.out 0; have hfz21_1 := blk_frozen BK202.out 1))
        (try simp only [Act.put, List.setIfInBounds_toArray, List.set_cons_zero, List.set_cons_succ])
        go_cut [7] (fun v7 wc => ∃ (kq : Nat) (x7_10 : Bool), v7 = .bool x7_10 ∧ Aside0 (corebankref01_timesP.j1 kq x1_1 x7_10 x8_1 a0_0 a0_1 t203 t204 = some (r1, r2, r3)) ∧ Aside0 (kq ≤ k1) ∧ Aside0 (wc.heap[gb200]? = some (.cells #[.int .u64 a0_0, .int .u64 a0_1] 51 (0, 0))) ∧ Aside0 (wc.heap[gb201]? = some (.cells #[.int .u64 0, .int .u64 0] 51 (0, 0))) ∧ Aside0 (wc.heap[gb202]? = some (.cells #[.int .u64 t203, .int .u64 t204] 51 (0, 0))) ∧ Aside0 (wc.heap[gb206]? = some (.cells #[.int .u64 t203, .int .u64 t204] 51 (0, 0))) ∧ Aside0 (Below w.heap.size w wc))
        case first =>
          have H := HC11.out
          clear HC11
          by_cases c22 : x7_1 = true
          · subst c22
            have H1 : (corebankref01_timesP.j1 k1 x1_1 t205 x8_1 a0_0 a0_1 t203 t204) = some (r1, r2, r3) := by rw [if_pos rfl] at H; exact H
            clear H
            have H := H1
            clear H1
            have H' := Aside0.mk H
            clear H
            go_wp2
            go_meet
            case rel => exact ⟨_, (t205), (by first | rfl | (simp; done) | (simp [*]; done)), H', ⟨by have := HK1.out; first | omega | exact Nat.le_refl _⟩, ⟨by (with_reducible repeat (first | refine blk_drewN ?_ _ | refine blk_drew ?_ | refine blk_alloc ?_ _)); refine blk_far ?_ NB200_202.out _; (with_reducible repeat (first | refine blk_drewN ?_ _ | refine blk_drew ?_ | refine blk_alloc ?_ _)); refine blk_far ?_ NB200_202.out _; (with_reducible repeat (first | refine blk_drewN ?_ _ | refine blk_drew ?_ | refine blk_alloc ?_ _)); refine blk_far ?_ NB200_206.out _; (with_reducible repeat (first | refine blk_drewN ?_ _ | refine blk_drew ?_ | refine blk_alloc ?_ _)); refine blk_far ?_ NB200_206.out _; (with_reducible repeat (first | refine blk_drewN ?_ _ | refine blk_drew ?_ | refine blk_alloc ?_ _)); exact BK200.out⟩, ⟨by (with_reducible repeat (first | refine blk_drewN ?_ _ | refine blk_drew ?_ | refine blk_alloc ?_ _)); refine blk_far ?_ NB201_202.out _; (with_reducible repeat (first | refine blk_drewN ?_ _ | refine blk_drew ?_ | refine blk_alloc ?_ _)); refine blk_far ?_ NB201_202.out _; (with_reducible repeat (first | refine blk_drewN ?_ _ | refine blk_drew ?_ | refine blk_alloc ?_ _)); refine blk_far ?_ NB201_206.out _; (with_reducible repeat (first | refine blk_drewN ?_ _ | refine blk_drew ?_ | refine blk_alloc ?_ _)); refine blk_far ?_ NB201_206.out _; (with_reducible repeat (first | refine blk_drewN ?_ _ | refine blk_drew ?_ | refine blk_alloc ?_ _)); exact BK201.out⟩, ⟨by (with_reducible repeat (first | refine blk_drewN ?_ _ | refine blk_drew ?_ | refine blk_alloc ?_ _)); refine blk_put (cs := #[.int .u64 t203, .int .u64 x203001_1]) ?_ 1 _ rfl; (with_reducible repeat (first | refine blk_drewN ?_ _ | refine blk_drew ?_ | refine blk_alloc ?_ _)); refine blk_put (cs := #[.int .u64 x203000_1, .int .u64 x203001_1]) ?_ 0 _ rfl; (with_reducible repeat (first | refine blk_drewN ?_ _ | refine blk_drew ?_ | refine blk_alloc ?_ _)); refine blk_far ?_ NB202_206.out _; (with_reducible repeat (first | refine blk_drewN ?_ _ | refine blk_drew ?_ | refine blk_alloc ?_ _)); refine blk_far ?_ NB202_206.out _; (with_reducible repeat (first | refine blk_drewN ?_ _ | refine blk_drew ?_ | refine blk_alloc ?_ _)); exact BK202.out⟩, ⟨by (with_reducible repeat (first | refine blk_drewN ?_ _ | refine blk_drew ?_ | refine blk_alloc ?_ _)); refine blk_far ?_ NB206_202.out _; (with_reducible repeat (first | refine blk_drewN ?_ _ | refine blk_drew ?_ | refine blk_alloc ?_ _)); refine blk_far ?_ NB206_202.out _; (with_reducible repeat (first | refine blk_drewN ?_ _ | refine blk_drew ?_ | refine blk_alloc ?_ _)); refine blk_put (cs := #[.int .u64 t203, .int .u64 0]) ?_ 1 _ rfl; (with_reducible repeat (first | refine blk_drewN ?_ _ | refine blk_drew ?_ | refine blk_alloc ?_ _)); refine blk_put (cs := #[.int .u64 0, .int .u64 0]) ?_ 0 _ rfl; (with_reducible repeat (first | refine blk_drewN ?_ _ | refine blk_drew ?_ | refine blk_alloc ?_ _)); exact BK206.out⟩, ⟨by repeat (first | (with_reducible first | exact HB.out | apply below_alloc | apply pw_below_drewN | apply below_drew1 | refine below_set ?_ GE200.out | refine below_set ?_ GE201.out | refine below_set ?_ GE202.out | refine below_set ?_ GE206.out) | exact HB.out)⟩⟩
          · replace c22 := Bool.eq_false_iff.mpr c22
            subst c22
            have H1 : (corebankref01_timesP.j1 k1 x1_1 false x8_1 a0_0 a0_1 t203 t204) = some (r1, r2, r3) := by rw [if_neg (show ¬ (false = true) by decide)] at H; exact H
            clear H
            have H := H1
            clear H1
            have H' := Aside0.mk H
            clear H
            go_wp2
            go_meet
            case rel => exact ⟨_, (false), (by first | rfl | (simp; done) | (simp [*]; done)), H', ⟨by have := HK1.out; first | omega | exact Nat.le_refl _⟩, ⟨by (with_reducible repeat (first | refine blk_drewN ?_ _ | refine blk_drew ?_ | refine blk_alloc ?_ _)); refine blk_far ?_ NB200_202.out _; (with_reducible repeat (first | refine blk_drewN ?_ _ | refine blk_drew ?_ | refine blk_alloc ?_ _)); refine blk_far ?_ NB200_202.out _; (with_reducible repeat (first | refine blk_drewN ?_ _ | refine blk_drew ?_ | refine blk_alloc ?_ _)); refine blk_far ?_ NB200_206.out _; (with_reducible repeat (first | refine blk_drewN ?_ _ | refine blk_drew ?_ | refine blk_alloc ?_ _)); refine blk_far ?_ NB200_206.out _; (with_reducible repeat (first | refine blk_drewN ?_ _ | refine blk_drew ?_ | refine blk_alloc ?_ _)); exact BK200.out⟩, ⟨by (with_reducible repeat (first | refine blk_drewN ?_ _ | refine blk_drew ?_ | refine blk_alloc ?_ _)); refine blk_far ?_ NB201_202.out _; (with_reducible repeat (first | refine blk_drewN ?_ _ | refine blk_drew ?_ | refine blk_alloc ?_ _)); refine blk_far ?_ NB201_202.out _; (with_reducible repeat (first | refine blk_drewN ?_ _ | refine blk_drew ?_ | refine blk_alloc ?_ _)); refine blk_far ?_ NB201_206.out _; (with_reducible repeat (first | refine blk_drewN ?_ _ | refine blk_drew ?_ | refine blk_alloc ?_ _)); refine blk_far ?_ NB201_206.out _; (with_reducible repeat (first | refine blk_drewN ?_ _ | refine blk_drew ?_ | refine blk_alloc ?_ _)); exact BK201.out⟩, ⟨by (with_reducible repeat (first | refine blk_drewN ?_ _ | refine blk_drew ?_ | refine blk_alloc ?_ _)); refine blk_put (cs := #[.int .u64 t203, .int .u64 x203001_1]) ?_ 1 _ rfl; (with_reducible repeat (first | refine blk_drewN ?_ _ | refine blk_drew ?_ | refine blk_alloc ?_ _)); refine blk_put (cs := #[.int .u64 x203000_1, .int .u64 x203001_1]) ?_ 0 _ rfl; (with_reducible repeat (first | refine blk_drewN ?_ _ | refine blk_drew ?_ | refine blk_alloc ?_ _)); refine blk_far ?_ NB202_206.out _; (with_reducible repeat (first | refine blk_drewN ?_ _ | refine blk_drew ?_ | refine blk_alloc ?_ _)); refine blk_far ?_ NB202_206.out _; (with_reducible repeat (first | refine blk_drewN ?_ _ | refine blk_drew ?_ | refine blk_alloc ?_ _)); exact BK202.out⟩, ⟨by (with_reducible repeat (first | refine blk_drewN ?_ _ | refine blk_drew ?_ | refine blk_alloc ?_ _)); refine blk_far ?_ NB206_202.out _; (with_reducible repeat (first | refine blk_drewN ?_ _ | refine blk_drew ?_ | refine blk_alloc ?_ _)); refine blk_far ?_ NB206_202.out _; (with_reducible repeat (first | refine blk_drewN ?_ _ | refine blk_drew ?_ | refine blk_alloc ?_ _)); refine blk_put (cs := #[.int .u64 t203, .int .u64 0]) ?_ 1 _ rfl; (with_reducible repeat (first | refine blk_drewN ?_ _ | refine blk_drew ?_ | refine blk_alloc ?_ _)); refine blk_put (cs := #[.int .u64 0, .int .u64 0]) ?_ 0 _ rfl; (with_reducible repeat (first | refine blk_drewN ?_ _ | refine blk_drew ?_ | refine blk_alloc ?_ _)); exact BK206.out⟩, ⟨by repeat (first | (with_reducible first | exact HB.out | apply below_alloc | apply pw_below_drewN | apply below_drew1 | refine below_set ?_ GE200.out | refine below_set ?_ GE201.out | refine below_set ?_ GE202.out | refine below_set ?_ GE206.out) | exact HB.out)⟩⟩
        case rest =>
          clear HC11
          try clear c1
          try clear c2
          try clear p2
          try clear c3
          try clear c6
          try clear c7
          try clear c9
          try clear c9b0
          try clear c12
          try clear c13
          try clear c17
          try clear c18
          try clear c19
          try clear c22
          try clear hcz14_0
          try clear hcz14_1
          try clear hcz20_0
          try clear hcz20_1
          try clear hcz21_0
          try clear hcz21_1
          try clear hcz8_0
          try clear hcz8_1
          try clear hfz14_0
          try clear hfz14_1
          try clear hfz20_0
          try clear hfz20_1
          try clear hfz21_0
          try clear hfz21_1
          try clear hfz8_0
          try clear hfz8_1
          try clear p2
          obtain ⟨kq, x7_10, rfl, HA, HJ10, BK200, BK201, BK202, BK206, HB⟩ := hcut
          cases kq with
          | zero => exact absurd HA.out (by simp [corebankref01_timesP.j1])
          | succ kj10 =>
            have H := HA.out
            clear HA
            simp only [corebankref01_timesP.j1] at H
            by_cases c23 : (Go.bits .and .u64 x1_1 9223372036854775808) = 0
            · rw [if_pos c23] at H
              have c23b0 : ((Go.bits .and .u64 x1_1 9223372036854775808) == 0) = true := beq_iff_eq.mpr c23
              have c23b1 : ((Go.bits .and .u64 x1_1 9223372036854775808) != 0) = false := bne_eq_false_iff_eq.mpr c23
              clear c23
              have H' := Aside0.mk H
              clear H
              go_wp2
              go_roundg kj10
              case measure => have := HK1.out; have := HJ10.out; omega
              case rel => exact ⟨(IntKind.u64.wrap (x1_1 * 2)), (x7_10), (wrap64 (x8_1 + 1)), (t203), (t204), (by first | rfl | (simp; done) | (simp [*]; done)), (by first | rfl | (simp; done) | (simp [*]; done)), (by first | rfl | (simp; done) | (simp [*]; done)), H', ⟨by have := HK1.out; have := HJ10.out; omega⟩, ⟨by (with_reducible repeat (first | refine blk_drewN ?_ _ | refine blk_drew ?_ | refine blk_alloc ?_ _)); exact BK200.out⟩, ⟨by (with_reducible repeat (first | refine blk_drewN ?_ _ | refine blk_drew ?_ | refine blk_alloc ?_ _)); exact BK201.out⟩, ⟨by (with_reducible repeat (first | refine blk_drewN ?_ _ | refine blk_drew ?_ | refine blk_alloc ?_ _)); exact BK202.out⟩, ⟨by repeat (first | (with_reducible first | exact HB.out | apply below_alloc | apply pw_below_drewN | apply below_drew1 | refine below_set ?_ GE200.out | refine below_set ?_ GE201.out | refine below_set ?_ GE202.out | refine below_set ?_ GE206.out) | exact HB.out)⟩⟩
            · rw [if_neg c23] at H
              have c23b0 : ((Go.bits .and .u64 x1_1 9223372036854775808) == 0) = false := beq_eq_false_iff_ne.mpr c23
              have c23b1 : ((Go.bits .and .u64 x1_1 9223372036854775808) != 0) = true := bne_iff_ne.mpr c23
              replace H := Option.bind_eq_some_iff.mp H
              obtain ⟨⟨t207, t208, t209⟩, A240, H⟩ := H
              replace H : (if x7_10 = true then (corebankref01_timesP.l0 kj10 (IntKind.u64.wrap (x1_1 * 2)) t209 (wrap64 (x8_1 + 1)) a0_0 a0_1 t207 t208) else (corebankref01_timesP.l0 kj10 (IntKind.u64.wrap (x1_1 * 2)) false (wrap64 (x8_1 + 1)) a0_0 a0_1 t207 t208)) = some (r1, r2, r3) := H
              have A24 := Aside0.mk A240
              clear A240
              by_cases c25 : x7_10 = true
              · subst c25
                have H1 : (corebankref01_timesP.l0 kj10 (IntKind.u64.wrap (x1_1 * 2)) t209 (wrap64 (x8_1 + 1)) a0_0 a0_1 t207 t208) = some (r1, r2, r3) := by rw [if_pos rfl] at H; exact H
                clear H
                have H := H1
                clear H1
                have H' := Aside0.mk H
                clear H
                have hnb26 := NB202_200.out
                have hnc26 := NB200_202.out
                have hnb27 := NB202_201.out
                have hnc27 := NB201_202.out
                have hnb28 := NB202_206.out
                have hnc28 := NB206_202.out
                have hcz29_0 : wc.cell? ⟨gb202, 0, none⟩ = some (.int .u64 t203) := (blk_cell BK202.out 0).trans rfl
                have hcz29_1 : wc.cell? ⟨gb202, 1, none⟩ = some (.int .u64 t204) := (blk_cell BK202.out 1).trans rfl
                have hfz29_0 := blk_frozen BK202.out 0
                have hfz29_1 := blk_frozen BK202.out 1
                have hnb30 := NB200_201.out
                have hnc30 := NB201_200.out
                have hnb31 := NB200_206.out
                have hnc31 := NB206_200.out
                have hcz32_0 : wc.cell? ⟨gb200, 0, none⟩ = some (.int .u64 a0_0) := (blk_cell BK200.out 0).trans rfl
                have hcz32_1 : wc.cell? ⟨gb200, 1, none⟩ = some (.int .u64 a0_1) := (blk_cell BK200.out 1).trans rfl
                have hfz32_0 := blk_frozen BK200.out 0
                have hfz32_1 := blk_frozen BK200.out 1
                go_wp2_with (first | ((with_reducible refine gate_callee (f := 37) rfl ?_); refine goesL_ (some 33) rfl rfl Tryd.func37 (by kernel_rfl) rfl #[.agg #[.int .u64 t203, .int .u64 t204], .agg #[.int .u64 a0_0, .int .u64 a0_1]] rfl ql_ ?_; (with_reducible refine (corebankref01_plus.calls t203 t204 a0_0 a0_1 t207 t208 t209 _ A24.out).mono ?_); rintro e w33 ⟨rfl, hb⟩; refine ⟨_, rfl, ?_⟩; have n0_ := Aside0.mk (blk_below (g := gb200) (o := .cells #[.int .u64 a0_0, .int .u64 a0_1] 51 (0, 0)) (qk_ BK200.out) hb); have n1_ := Aside0.mk (blk_below (g := gb201) (o := .cells #[.int .u64 0, .int .u64 0] 51 (0, 0)) (qk_ BK201.out) hb); have n2_ := Aside0.mk (blk_below (g := gb202) (o := .cells #[.int .u64 t203, .int .u64 t204] 51 (0, 0)) (qk_ BK202.out) hb); have n3_ := Aside0.mk (blk_below (g := gb206) (o := .cells #[.int .u64 t203, .int .u64 t204] 51 (0, 0)) (qk_ BK206.out) hb); have n4_ := Aside0.mk (below_step (by repeat (first | (with_reducible first | exact HB.out | apply below_alloc | apply pw_below_drewN | apply below_drew1 | refine below_set ?_ GE200.out | refine below_set ?_ GE201.out | refine below_set ?_ GE202.out | refine below_set ?_ GE206.out) | exact HB.out)) hb); clear BK200; clear BK201; clear BK202; clear BK206; clear HB; have BK200 := n0_; have BK201 := n1_; have BK202 := n2_; have BK206 := n3_; have HB := n4_; clear n0_ n1_ n2_ n3_ n4_; (try clear hb); (try clear hb2); (try clear hk); (try clear hi); have hnb34 := NB206_201.out; have hnc34 := NB201_206.out; have hcz35_0 : w33.cell? ⟨gb206, 0, none⟩ = some (.int .u64 t203) := (blk_cell BK206.out 0).trans rfl; have hcz35_1 : w33.cell? ⟨gb206, 1, none⟩ = some (.int .u64 t204) := (blk_cell BK206.out 1).trans rfl; have hfz35_0 := blk_frozen BK206.out 0; have hfz35_1 := blk_frozen BK206.out 1; have hcz36_0 : w33.cell? ⟨gb202, 0, none⟩ = some (.int .u64 t203) := (blk_cell BK202.out 0).trans rfl; have hcz36_1 : w33.cell? ⟨gb202, 1, none⟩ = some (.int .u64 t204) := (blk_cell BK202.out 1).trans rfl; have hfz36_0 := blk_frozen BK202.out 0; have hfz36_1 := blk_frozen BK202.out 1))
                go_roundg kj10
                case measure => have := HK1.out; have := HJ10.out; omega
                case rel => exact ⟨(IntKind.u64.wrap (x1_1 * 2)), (t209), (wrap64 (x8_1 + 1)), (t207), (t208), (by first | rfl | (simp; done) | (simp [*]; done)), (by first | rfl | (simp; done) | (simp [*]; done)), (by first | rfl | (simp; done) | (simp [*]; done)), H', ⟨by have := HK1.out; have := HJ10.out; omega⟩, ⟨by (with_reducible repeat (first | refine blk_drewN ?_ _ | refine blk_drew ?_ | refine blk_alloc ?_ _)); refine blk_far ?_ NB200_202.out _; (with_reducible repeat (first | refine blk_drewN ?_ _ | refine blk_drew ?_ | refine blk_alloc ?_ _)); refine blk_far ?_ NB200_202.out _; (with_reducible repeat (first | refine blk_drewN ?_ _ | refine blk_drew ?_ | refine blk_alloc ?_ _)); refine blk_far ?_ NB200_206.out _; (with_reducible repeat (first | refine blk_drewN ?_ _ | refine blk_drew ?_ | refine blk_alloc ?_ _)); refine blk_far ?_ NB200_206.out _; (with_reducible repeat (first | refine blk_drewN ?_ _ | refine blk_drew ?_ | refine blk_alloc ?_ _)); exact BK200.out⟩, ⟨by (with_reducible repeat (first | refine blk_drewN ?_ _ | refine blk_drew ?_ | refine blk_alloc ?_ _)); refine blk_far ?_ NB201_202.out _; (with_reducible repeat (first | refine blk_drewN ?_ _ | refine blk_drew ?_ | refine blk_alloc ?_ _)); refine blk_far ?_ NB201_202.out _; (with_reducible repeat (first | refine blk_drewN ?_ _ | refine blk_drew ?_ | refine blk_alloc ?_ _)); refine blk_far ?_ NB201_206.out _; (with_reducible repeat (first | refine blk_drewN ?_ _ | refine blk_drew ?_ | refine blk_alloc ?_ _)); refine blk_far ?_ NB201_206.out _; (with_reducible repeat (first | refine blk_drewN ?_ _ | refine blk_drew ?_ | refine blk_alloc ?_ _)); exact BK201.out⟩, ⟨by (with_reducible repeat (first | refine blk_drewN ?_ _ | refine blk_drew ?_ | refine blk_alloc ?_ _)); refine blk_put (cs := #[.int .u64 t207, .int .u64 t204]) ?_ 1 _ rfl; (with_reducible repeat (first | refine blk_drewN ?_ _ | refine blk_drew ?_ | refine blk_alloc ?_ _)); refine blk_put (cs := #[.int .u64 t203, .int .u64 t204]) ?_ 0 _ rfl; (with_reducible repeat (first | refine blk_drewN ?_ _ | refine blk_drew ?_ | refine blk_alloc ?_ _)); refine blk_far ?_ NB202_206.out _; (with_reducible repeat (first | refine blk_drewN ?_ _ | refine blk_drew ?_ | refine blk_alloc ?_ _)); refine blk_far ?_ NB202_206.out _; (with_reducible repeat (first | refine blk_drewN ?_ _ | refine blk_drew ?_ | refine blk_alloc ?_ _)); exact BK202.out⟩, ⟨by repeat (first | (with_reducible first | exact HB.out | apply below_alloc | apply pw_below_drewN | apply below_drew1 | refine below_set ?_ GE200.out | refine below_set ?_ GE201.out | refine below_set ?_ GE202.out | refine below_set ?_ GE206.out) | exact HB.out)⟩⟩
              · replace c25 := Bool.eq_false_iff.mpr c25
                subst c25
                have H1 : (corebankref01_timesP.l0 kj10 (IntKind.u64.wrap (x1_1 * 2)) false (wrap64 (x8_1 + 1)) a0_0 a0_1 t207 t208) = some (r1, r2, r3) := by rw [if_neg (show ¬ (false = true) by decide)] at H; exact H
                clear H
                have H := H1
                clear H1
                have H' := Aside0.mk H
                clear H
                have hnb37 := NB202_200.out
                have hnc37 := NB200_202.out
                have hnb38 := NB202_201.out
                have hnc38 := NB201_202.out
                have hnb39 := NB202_206.out
                have hnc39 := NB206_202.out
                have hcz40_0 : wc.cell? ⟨gb202, 0, none⟩ = some (.int .u64 t203) := (blk_cell BK202.out 0).trans rfl
                have hcz40_1 : wc.cell? ⟨gb202, 1, none⟩ = some (.int .u64 t204) := (blk_cell BK202.out 1).trans rfl
                have hfz40_0 := blk_frozen BK202.out 0
                have hfz40_1 := blk_frozen BK202.out 1
                have hnb41 := NB200_201.out
                have hnc41 := NB201_200.out
                have hnb42 := NB200_206.out
                have hnc42 := NB206_200.out
                have hcz43_0 : wc.cell? ⟨gb200, 0, none⟩ = some (.int .u64 a0_0) := (blk_cell BK200.out 0).trans rfl
                have hcz43_1 : wc.cell? ⟨gb200, 1, none⟩ = some (.int .u64 a0_1) := (blk_cell BK200.out 1).trans rfl
                have hfz43_0 := blk_frozen BK200.out 0
                have hfz43_1 := blk_frozen BK200.out 1
                go_wp2_with (first | ((with_reducible refine gate_callee (f := 37) rfl ?_); refine goesL_ (some 33) rfl rfl Tryd.func37 (by kernel_rfl) rfl #[.agg #[.int .u64 t203, .int .u64 t204], .agg #[.int .u64 a0_0, .int .u64 a0_1]] rfl ql_ ?_; (with_reducible refine (corebankref01_plus.calls t203 t204 a0_0 a0_1 t207 t208 t209 _ A24.out).mono ?_); rintro e w44 ⟨rfl, hb⟩; refine ⟨_, rfl, ?_⟩; have n0_ := Aside0.mk (blk_below (g := gb200) (o := .cells #[.int .u64 a0_0, .int .u64 a0_1] 51 (0, 0)) (qk_ BK200.out) hb); have n1_ := Aside0.mk (blk_below (g := gb201) (o := .cells #[.int .u64 0, .int .u64 0] 51 (0, 0)) (qk_ BK201.out) hb); have n2_ := Aside0.mk (blk_below (g := gb202) (o := .cells #[.int .u64 t203, .int .u64 t204] 51 (0, 0)) (qk_ BK202.out) hb); have n3_ := Aside0.mk (blk_below (g := gb206) (o := .cells #[.int .u64 t203, .int .u64 t204] 51 (0, 0)) (qk_ BK206.out) hb); have n4_ := Aside0.mk (below_step (by repeat (first | (with_reducible first | exact HB.out | apply below_alloc | apply pw_below_drewN | apply below_drew1 | refine below_set ?_ GE200.out | refine below_set ?_ GE201.out | refine below_set ?_ GE202.out | refine below_set ?_ GE206.out) | exact HB.out)) hb); clear BK200; clear BK201; clear BK202; clear BK206; clear HB; have BK200 := n0_; have BK201 := n1_; have BK202 := n2_; have BK206 := n3_; have HB := n4_; clear n0_ n1_ n2_ n3_ n4_; (try clear hb); (try clear hb2); (try clear hk); (try clear hi); have hnb45 := NB206_201.out; have hnc45 := NB201_206.out; have hcz46_0 : w44.cell? ⟨gb206, 0, none⟩ = some (.int .u64 t203) := (blk_cell BK206.out 0).trans rfl; have hcz46_1 : w44.cell? ⟨gb206, 1, none⟩ = some (.int .u64 t204) := (blk_cell BK206.out 1).trans rfl; have hfz46_0 := blk_frozen BK206.out 0; have hfz46_1 := blk_frozen BK206.out 1; have hcz47_0 : w44.cell? ⟨gb202, 0, none⟩ = some (.int .u64 t203) := (blk_cell BK202.out 0).trans rfl; have hcz47_1 : w44.cell? ⟨gb202, 1, none⟩ = some (.int .u64 t204) := (blk_cell BK202.out 1).trans rfl; have hfz47_0 := blk_frozen BK202.out 0; have hfz47_1 := blk_frozen BK202.out 1))
                go_roundg kj10
                case measure => have := HK1.out; have := HJ10.out; omega
                case rel => exact ⟨(IntKind.u64.wrap (x1_1 * 2)), (false), (wrap64 (x8_1 + 1)), (t207), (t208), (by first | rfl | (simp; done) | (simp [*]; done)), (by first | rfl | (simp; done) | (simp [*]; done)), (by first | rfl | (simp; done) | (simp [*]; done)), H', ⟨by have := HK1.out; have := HJ10.out; omega⟩, ⟨by (with_reducible repeat (first | refine blk_drewN ?_ _ | refine blk_drew ?_ | refine blk_alloc ?_ _)); refine blk_far ?_ NB200_202.out _; (with_reducible repeat (first | refine blk_drewN ?_ _ | refine blk_drew ?_ | refine blk_alloc ?_ _)); refine blk_far ?_ NB200_202.out _; (with_reducible repeat (first | refine blk_drewN ?_ _ | refine blk_drew ?_ | refine blk_alloc ?_ _)); refine blk_far ?_ NB200_206.out _; (with_reducible repeat (first | refine blk_drewN ?_ _ | refine blk_drew ?_ | refine blk_alloc ?_ _)); refine blk_far ?_ NB200_206.out _; (with_reducible repeat (first | refine blk_drewN ?_ _ | refine blk_drew ?_ | refine blk_alloc ?_ _)); exact BK200.out⟩, ⟨by (with_reducible repeat (first | refine blk_drewN ?_ _ | refine blk_drew ?_ | refine blk_alloc ?_ _)); refine blk_far ?_ NB201_202.out _; (with_reducible repeat (first | refine blk_drewN ?_ _ | refine blk_drew ?_ | refine blk_alloc ?_ _)); refine blk_far ?_ NB201_202.out _; (with_reducible repeat (first | refine blk_drewN ?_ _ | refine blk_drew ?_ | refine blk_alloc ?_ _)); refine blk_far ?_ NB201_206.out _; (with_reducible repeat (first | refine blk_drewN ?_ _ | refine blk_drew ?_ | refine blk_alloc ?_ _)); refine blk_far ?_ NB201_206.out _; (with_reducible repeat (first | refine blk_drewN ?_ _ | refine blk_drew ?_ | refine blk_alloc ?_ _)); exact BK201.out⟩, ⟨by (with_reducible repeat (first | refine blk_drewN ?_ _ | refine blk_drew ?_ | refine blk_alloc ?_ _)); refine blk_put (cs := #[.int .u64 t207, .int .u64 t204]) ?_ 1 _ rfl; (with_reducible repeat (first | refine blk_drewN ?_ _ | refine blk_drew ?_ | refine blk_alloc ?_ _)); refine blk_put (cs := #[.int .u64 t203, .int .u64 t204]) ?_ 0 _ rfl; (with_reducible repeat (first | refine blk_drewN ?_ _ | refine blk_drew ?_ | refine blk_alloc ?_ _)); refine blk_far ?_ NB202_206.out _; (with_reducible repeat (first | refine blk_drewN ?_ _ | refine blk_drew ?_ | refine blk_alloc ?_ _)); refine blk_far ?_ NB202_206.out _; (with_reducible repeat (first | refine blk_drewN ?_ _ | refine blk_drew ?_ | refine blk_alloc ?_ _)); exact BK202.out⟩, ⟨by repeat (first | (with_reducible first | exact HB.out | apply below_alloc | apply pw_below_drewN | apply below_drew1 | refine below_set ?_ GE200.out | refine below_set ?_ GE201.out | refine below_set ?_ GE202.out | refine below_set ?_ GE206.out) | exact HB.out)⟩⟩
      · rw [if_neg c9] at H
        have c9b0 : decide (x8_1 < 64) = false := decide_eq_false c9
        clear c9
        simp only [Option.some.injEq, Prod.mk.injEq] at H
        obtain ⟨rfl, rfl, rfl⟩ := H
        have hnb48 := NB202_200.out
        have hnc48 := NB200_202.out
        have hnb49 := NB202_201.out
        have hnc49 := NB201_202.out
        have hcz50_0 : wr.cell? ⟨gb202, 0, none⟩ = some (.int .u64 x203000_1) := (blk_cell BK202.out 0).trans rfl
        have hcz50_1 : wr.cell? ⟨gb202, 1, none⟩ = some (.int .u64 x203001_1) := (blk_cell BK202.out 1).trans rfl
        have hfz50_0 := blk_frozen BK202.out 0
        have hfz50_1 := blk_frozen BK202.out 1
        have hnb51 := NB201_200.out
        have hnc51 := NB200_201.out
        have hcz52_0 : wr.cell? ⟨gb201, 0, none⟩ = some (.int .u64 0) := (blk_cell BK201.out 0).trans rfl
        have hcz52_1 : wr.cell? ⟨gb201, 1, none⟩ = some (.int .u64 0) := (blk_cell BK201.out 1).trans rfl
        have hfz52_0 := blk_frozen BK201.out 0
        have hfz52_1 := blk_frozen BK201.out 1
        go_wp2
        refine bodyPost_ret (results_ct rfl _ _ gb201 51 #[.int .u64 x203000_1, .int .u64 x203001_1] (0, 0) _ rfl (by (with_reducible repeat (first | refine blk_drewN ?_ _ | refine blk_drew ?_ | refine blk_alloc ?_ _)); refine blk_put (cs := #[.int .u64 x203000_1, .int .u64 0]) ?_ 1 _ rfl; (with_reducible repeat (first | refine blk_drewN ?_ _ | refine blk_drew ?_ | refine blk_alloc ?_ _)); refine blk_put (cs := #[.int .u64 0, .int .u64 0]) ?_ 0 _ rfl; (with_reducible repeat (first | refine blk_drewN ?_ _ | refine blk_drew ?_ | refine blk_alloc ?_ _)); exact BK201.out) Tryd.underlying51 rfl (by kernel_rfl)) rfl ?_
        exact ⟨by first | rfl | (simp [errW_none, errW_some] <;> rfl) | (simp [*, errW_none, errW_some] <;> rfl), by repeat (first | (with_reducible first | exact HB.out | apply below_alloc | apply pw_below_drewN | apply below_drew1 | refine below_set ?_ GE200.out | refine below_set ?_ GE201.out | refine below_set ?_ GE202.out) | exact HB.out)⟩
def corebankref01_times.f (a0_0 a0_1 a1 : Int) : Option (Int × Int × Bool) :=
  if (inU a0_0 ∧ inU a0_1) ∧ inU a1 then
    some (wv a0_0 a0_1 * a1 / 18446744073709551616 % 18446744073709551616, wv a0_0 a0_1 * a1 % 18446744073709551616, decide (wv a0_0 a0_1 * a1 < 340282366920938463463374607431768211456)) else none
theorem plus_add (h0 l0 h1 l1 A B : Int) (i0 : inU h0) (i1 : inU l0) (j0 : inU h1) (j1 : inU l1) (hA : wv h0 l0 = A) (hB : wv h1 l1 = B) :
    corebankref01_plus.f h0 l0 h1 l1 = some ((A + B) / 18446744073709551616 % 18446744073709551616, (A + B) % 18446744073709551616, decide (A + B < 340282366920938463463374607431768211456)) := by
  unfold corebankref01_plus.f
  rw [if_pos ⟨⟨i0, i1⟩, j0, j1⟩, hA, hB]
theorem inU_mod (x : Int) : inU (x % 18446744073709551616) := by unfold inU; omega
theorem wv_mod (V : Int) : wv (V / 18446744073709551616 % 18446744073709551616) (V % 18446744073709551616) = V % 340282366920938463463374607431768211456 := by unfold wv; omega
theorem times_loop (mh ml m : Int) (i0 : inU mh) (i1 : inU ml) (hm : wv mh ml = m) (n : Nat) :
    ∀ (x T i : Int), 0 ≤ x → x < 18446744073709551616 → 0 ≤ T → 0 ≤ i → 64 - i = n →
      corebankref01_timesP.l0 (2 * n + 1) x (decide (m * T < 340282366920938463463374607431768211456)) i mh ml (m * T / 18446744073709551616 % 18446744073709551616) (m * T % 18446744073709551616) =
        some (m * (T * 2 ^ n + x * 2 ^ n / 18446744073709551616) / 18446744073709551616 % 18446744073709551616, m * (T * 2 ^ n + x * 2 ^ n / 18446744073709551616) % 18446744073709551616, decide (m * (T * 2 ^ n + x * 2 ^ n / 18446744073709551616) < 340282366920938463463374607431768211456)) := by
  have m0 : 0 ≤ m := by rw [← hm]; unfold wv; unfold inU at i0 i1; omega
  have m1 : m < 340282366920938463463374607431768211456 := by rw [← hm]; unfold wv; unfold inU at i0 i1; omega
  induction n with
  | zero =>
    intro x T i x0 x1 T0 j0 j1
    simp only [Nat.mul_zero, Nat.zero_add, corebankref01_timesP.l0]
    rw [if_neg (by omega)]
    have : T * 2 ^ 0 + x * 2 ^ 0 / 18446744073709551616 = T := by rw [Int.pow_zero, Int.mul_one, Int.mul_one, Int.ediv_eq_zero_of_lt x0 x1]; omega
    rw [this]
  | succ n ih =>
    intro x T i x0 x1 T0 j0 j1
    have q0 : 0 ≤ m * T := Int.mul_nonneg m0 T0
    rw [show 2 * (n + 1) + 1 = (2 * n + 1 + 1) + 1 by omega, corebankref01_timesP.l0, if_pos (by omega),
      plus_add _ _ _ _ _ _ (inU_mod _) (inU_mod _) (inU_mod _) (inU_mod _) (wv_mod (m * T)) (wv_mod (m * T))]
    simp only [Option.bind_some]
    have d1 : (m * T % 340282366920938463463374607431768211456 + m * T % 340282366920938463463374607431768211456) / 18446744073709551616 % 18446744073709551616 = m * (2 * T) / 18446744073709551616 % 18446744073709551616 := by
      rw [Int.mul_left_comm]; omega
    have d2 : (m * T % 340282366920938463463374607431768211456 + m * T % 340282366920938463463374607431768211456) % 18446744073709551616 = m * (2 * T) % 18446744073709551616 := by
      rw [Int.mul_left_comm]; omega
    have d3 : (if decide (m * T < 340282366920938463463374607431768211456) = true then decide (m * T % 340282366920938463463374607431768211456 + m * T % 340282366920938463463374607431768211456 < 340282366920938463463374607431768211456) else false) = decide (m * (2 * T) < 340282366920938463463374607431768211456) := by
      rw [Int.mul_left_comm]
      split
      · rename_i hc
        have := of_decide_eq_true hc
        apply decide_eq_decide.mpr; omega
      · rename_i hc
        have : ¬ m * T < 340282366920938463463374607431768211456 := fun h => hc (decide_eq_true h)
        symm; apply decide_eq_false; omega
    -- both ways through the flag come to one state
    have both : ∀ (F : Bool → Option (Int × Int × Bool)), (if decide (m * T < 340282366920938463463374607431768211456) = true then F (decide (m * T % 340282366920938463463374607431768211456 + m * T % 340282366920938463463374607431768211456 < 340282366920938463463374607431768211456)) else F false) = F (decide (m * (2 * T) < 340282366920938463463374607431768211456)) := by
      intro F
      rw [← d3]; split <;> rfl
    rw [d1, d2]
    rw [both (fun b => corebankref01_timesP.j1 (2 * n + 1 + 1) x b i mh ml (m * (2 * T) / 18446744073709551616 % 18446744073709551616) (m * (2 * T) % 18446744073709551616))]
    simp only [corebankref01_timesP.j1]
    have p0 : 0 < (2 : Int) ^ n := Int.pow_pos (by decide)
    have hi : wrap64 (i + 1) = i + 1 := i64_id _ (by omega) (by omega)
    have hf : T * 2 ^ (n + 1) = 2 * T * 2 ^ n := by rw [Int.pow_succ]; grind
    have hx : x * 2 ^ (n + 1) = 2 * x * 2 ^ n := by rw [Int.pow_succ]; grind
    rw [hf, hx]
    by_cases ht : x < 9223372036854775808
    · rw [if_pos ((andTop x x0 x1).2 ht), hi, u64_id (x * 2) (by omega) (by omega), ih (x * 2) (2 * T) (i + 1) (by omega) (by omega) (by omega) (by omega) (by omega), Int.mul_comm x 2]
    · rw [if_neg (fun hc => ht ((andTop x x0 x1).1 hc)), plus_add _ _ _ _ _ _ (inU_mod _) (inU_mod _) i0 i1 (wv_mod (m * (2 * T))) hm]
      simp only [Option.bind_some]
      have hx2 : IntKind.u64.wrap (x * 2) = 2 * x - 18446744073709551616 := by rw [IntKind.wrap_u64]; omega
      have e1 : m * (2 * T + 1) = m * (2 * T) + m := by rw [Int.mul_add, Int.mul_one]
      have q1 : 0 ≤ m * (2 * T) := Int.mul_nonneg m0 (by omega)
      have f1 : (m * (2 * T) % 340282366920938463463374607431768211456 + m) / 18446744073709551616 % 18446744073709551616 = m * (2 * T + 1) / 18446744073709551616 % 18446744073709551616 := by rw [e1]; omega
      have f2 : (m * (2 * T) % 340282366920938463463374607431768211456 + m) % 18446744073709551616 = m * (2 * T + 1) % 18446744073709551616 := by rw [e1]; omega
      have f3 : (if decide (m * (2 * T) < 340282366920938463463374607431768211456) = true then decide (m * (2 * T) % 340282366920938463463374607431768211456 + m < 340282366920938463463374607431768211456) else false) = decide (m * (2 * T + 1) < 340282366920938463463374607431768211456) := by
        rw [e1]
        split
        · rename_i hc
          have := of_decide_eq_true hc
          apply decide_eq_decide.mpr; omega
        · rename_i hc
          have : ¬ m * (2 * T) < 340282366920938463463374607431768211456 := fun h => hc (decide_eq_true h)
          symm; apply decide_eq_false; omega
      have both2 : ∀ (F : Bool → Option (Int × Int × Bool)), (if decide (m * (2 * T) < 340282366920938463463374607431768211456) = true then F (decide (m * (2 * T) % 340282366920938463463374607431768211456 + m < 340282366920938463463374607431768211456)) else F false) = F (decide (m * (2 * T + 1) < 340282366920938463463374607431768211456)) := by
        intro F
        rw [← f3]; split <;> rfl
      rw [f1, f2, hi, hx2, both2 (fun b => corebankref01_timesP.l0 (2 * n + 1) (2 * x - 18446744073709551616) b (i + 1) mh ml (m * (2 * T + 1) / 18446744073709551616 % 18446744073709551616) (m * (2 * T + 1) % 18446744073709551616)),
        ih (2 * x - 18446744073709551616) (2 * T + 1) (i + 1) (by omega) (by omega) (by omega) (by omega) (by omega)]
      have g : (2 * T + 1) * 2 ^ n + (2 * x - 18446744073709551616) * 2 ^ n / 18446744073709551616 = 2 * T * 2 ^ n + 2 * x * 2 ^ n / 18446744073709551616 := by
        rw [Int.add_mul, Int.one_mul, Int.sub_mul]
        generalize (2 : Int) ^ n = p at *
        generalize 2 * x * p = y
        omega
      rw [g]
theorem corebankref01_times.eq {a b c : Int} {r : Int × Int × Bool} (h : corebankref01_times.f a b c = some r) : ∃ k, corebankref01_timesP.f k a b c = some r := by
  unfold corebankref01_times.f at h
  split at h
  · rename_i q
    obtain ⟨⟨a0, b0⟩, c0, c1⟩ := q
    injection h with h
    subst h
    refine ⟨2 * 64 + 1, ?_⟩
    unfold corebankref01_timesP.f
    have := times_loop a b (wv a b) a0 b0 rfl 64 c 0 0 c0 (by omega) (by omega) (by omega) (by omega)
    rw [show c * 2 ^ 64 / 18446744073709551616 = c from Int.mul_ediv_cancel c (by decide), Int.zero_mul, Int.zero_add] at this
    simpa using this
  · cases h
theorem corebankref01_times.calls (a0_0 : Int) (a0_1 : Int) (a1 : Int) (r1 : Int) (r2 : Int) (r3 : Bool) (w : World) (h : corebankref01_times.f a0_0 a0_1 a1 = some (r1, r2, r3)) :
    Calls Tryd.prog 23 #[.agg #[.int .u64 a0_0, .int .u64 a0_1], .int .u64 a1] w fun e w' => e = .returned (.tuple #[.agg #[.int .u64 r1, .int .u64 r2], .bool r3]) ∧ Below w.heap.size w w' := by
  obtain ⟨k, h⟩ := corebankref01_times.eq h
  exact corebankref01_timesP.calls k a0_0 a0_1 a1 r1 r2 r3 w h
def corebankref01_sizeP.f (a0 : Int) : Option (Int) := if a0 < 0 then (some (IntKind.u64.wrap ((Go.bits .xor .u64 IntKind.u64.max (IntKind.u64.wrap (a0))) + 1))) else (some (IntKind.u64.wrap (a0)))
set_option maxHeartbeats 8000000 in
set_option maxRecDepth 100000 in
theorem corebankref01_sizeP.calls (a0 : Int) (r : Int) (w : World) (h : corebankref01_sizeP.f a0 = some r) :
    Calls Tryd.prog 24 #[.int .i64 a0] w fun e w' => e = .returned (.int .u64 r) ∧ Drawn0 w w' := by
  have hsgn : IntKind.u64.signed = false := rfl
  have H : (if a0 < 0 then (some (IntKind.u64.wrap ((Go.bits .xor .u64 IntKind.u64.max (IntKind.u64.wrap (a0))) + 1))) else (some (IntKind.u64.wrap (a0)))) = some r := h
  clear h
  by_cases c2 : a0 < 0
  · rw [if_pos c2] at H
    have c2b0 : decide (a0 < 0) = true := decide_eq_true c2
    clear c2
    obtain rfl := Option.some.inj H
    go_enter Tryd.func24, Tryd.ntmps24
    go_wp2
    go_ret
    exact ⟨by first | rfl | (simp; done) | (simp [*]; done), by repeat (first | exact Drawn0.refl _ | apply Drawn0.step)⟩
  · rw [if_neg c2] at H
    have c2b0 : decide (a0 < 0) = false := decide_eq_false c2
    clear c2
    obtain rfl := Option.some.inj H
    go_enter Tryd.func24, Tryd.ntmps24
    go_wp2
    go_ret
    exact ⟨by first | rfl | (simp; done) | (simp [*]; done), by repeat (first | exact Drawn0.refl _ | apply Drawn0.step)⟩
def corebankref01_size.f (a0 : Int) : Option Int := if inI a0 then some (if a0 < 0 then -a0 else a0) else none
theorem corebankref01_size.eq {a : Int} {r : Int} (h : corebankref01_size.f a = some r) : corebankref01_sizeP.f a = some r := by
  unfold corebankref01_size.f at h
  split at h
  · rename_i c
    obtain ⟨c0, c1⟩ := c
    injection h with h
    subst h
    unfold corebankref01_sizeP.f
    have hw : IntKind.u64.wrap a = if a < 0 then a + 18446744073709551616 else a := by rw [IntKind.wrap_u64]; split <;> omega
    rw [hw]
    by_cases hn : a < 0
    · rw [if_pos hn, if_pos hn, if_pos hn, xorMax _ (by omega) (by omega), IntKind.wrap_u64]
      congr 1; omega
    · rw [if_neg hn, if_neg hn, if_neg hn]
  · cases h
theorem corebankref01_size.calls (a0 : Int) (r : Int) (w : World) (h : corebankref01_size.f a0 = some r) :
    Calls Tryd.prog 24 #[.int .i64 a0] w fun e w' => e = .returned (.int .u64 r) ∧ Drawn0 w w' := by
  have h := corebankref01_size.eq h
  exact corebankref01_sizeP.calls a0 r w h
end Go.Proofs.YtbifbnjkpmmedaaDoor.PA
