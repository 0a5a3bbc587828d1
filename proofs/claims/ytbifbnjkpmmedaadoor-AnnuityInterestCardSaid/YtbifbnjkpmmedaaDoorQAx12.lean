import Derived.Test.YtbifbnjkpmmedaaDoorQAx0
import Derived.Test.YtbifbnjkpmmedaaDoorQAx11
namespace Go.Proofs.YtbifbnjkpmmedaaDoor.PA
open Go.RowKit Go.Proofs.YtbifbnjkpmmedaaDoorW.PrintWords Go.Proofs.YtbifbnjkpmmedaaDoorW.PrintLast Go.Proofs.YtbifbnjkpmmedaaDoorW.PrintMore
attribute [local go_sem] max2_int max_two
set_option linter.unusedVariables false
set_option linter.unusedSimpArgs false
def corebankref02_Valid.f (a0 : Int) : Option (Bool) := if a0 ≥ 1 then (some (decide (a0 ≤ 6))) else (some false)
set_option maxHeartbeats 8000000 in
set_option maxRecDepth 100000 in
theorem corebankref02_Valid.calls (a0 : Int) (r : Bool) (w : World) (h : corebankref02_Valid.f a0 = some r) :
    Calls Tryd.prog 21 #[.int .i64 a0] w fun e w' => e = .returned (.bool r) ∧ Drawn0 w w' := by
  have H : (if a0 ≥ 1 then (some (decide (a0 ≤ 6))) else (some false)) = some r := h
  clear h
  by_cases c2 : a0 ≥ 1
  · rw [if_pos c2] at H
    have c2b0 : decide (1 ≤ a0) = true := decide_eq_true c2
    clear c2
    obtain rfl := Option.some.inj H
    go_enter Tryd.func21, Tryd.ntmps21
    go_wp2
    go_ret
    exact ⟨by first | rfl | (simp; done) | (simp [*]; done), by repeat (first | exact Drawn0.refl _ | apply Drawn0.step)⟩
  · rw [if_neg c2] at H
    have c2b0 : decide (1 ≤ a0) = false := decide_eq_false c2
    clear c2
    obtain rfl := Option.some.inj H
    go_enter Tryd.func21, Tryd.ntmps21
    go_wp2
    go_ret
    exact ⟨by first | rfl | (simp; done) | (simp [*]; done), by repeat (first | exact Drawn0.refl _ | apply Drawn0.step)⟩
def corebankref32_GoodP.f (a0 : Int) (a1 : Int) (a2 : Int) (a3 : Int) : Option (Bool) := if a0 ≥ 0 then (if a0 ≤ 1000000000000 then (if a1 ≥ 0 then (if a1 ≤ 1000000 then (if a2 ≥ 1 then (if a2 ≤ 12 then ((corebankref02_Valid.f a3).bind fun t183 => (some t183)) else (some false)) else (some false)) else (some false)) else (some false)) else (some false)) else (some false)
set_option maxHeartbeats 8000000 in
set_option maxRecDepth 100000 in
theorem corebankref32_GoodP.calls (a0 : Int) (a1 : Int) (a2 : Int) (a3 : Int) (r : Bool) (w : World) (h : corebankref32_GoodP.f a0 a1 a2 a3 = some r) :
    Calls Tryd.prog 10 #[.int .i64 a0, .int .i64 a1, .int .i64 a2, .int .i64 a3] w fun e w' => e = .returned (.bool r) ∧ Drawn0 w w' := by
  have H : (if a0 ≥ 0 then (if a0 ≤ 1000000000000 then (if a1 ≥ 0 then (if a1 ≤ 1000000 then (if a2 ≥ 1 then (if a2 ≤ 12 then ((corebankref02_Valid.f a3).bind fun t183 => (some t183)) else (some false)) else (some false)) else (some false)) else (some false)) else (some false)) else (some false)) = some r := h
  clear h
  by_cases c5 : a0 ≥ 0
  · rw [if_pos c5] at H
    have c5b0 : decide (0 ≤ a0) = true := decide_eq_true c5
    clear c5
    by_cases c6 : a0 ≤ 1000000000000
    · rw [if_pos c6] at H
      have c6b0 : decide (a0 ≤ 1000000000000) = true := decide_eq_true c6
      clear c6
      by_cases c7 : a1 ≥ 0
      · rw [if_pos c7] at H
        have c7b0 : decide (0 ≤ a1) = true := decide_eq_true c7
        clear c7
        by_cases c8 : a1 ≤ 1000000
        · rw [if_pos c8] at H
          have c8b0 : decide (a1 ≤ 1000000) = true := decide_eq_true c8
          clear c8
          by_cases c9 : a2 ≥ 1
          · rw [if_pos c9] at H
            have c9b0 : decide (1 ≤ a2) = true := decide_eq_true c9
            clear c9
            by_cases c10 : a2 ≤ 12
            · rw [if_pos c10] at H
              have c10b0 : decide (a2 ≤ 12) = true := decide_eq_true c10
              clear c10
              replace H := Option.bind_eq_some_iff.mp H
              obtain ⟨t183, A110, H⟩ := H
              replace H : (some t183) = some r := H
              have A11 := Aside0.mk A110
              clear A110
              obtain rfl := Option.some.inj H
              go_enter Tryd.func10, Tryd.ntmps10
              go_wp2_with (first | (go_at_call 21; (with_reducible refine (corebankref02_Valid.calls a3 t183 _ A11.out).mono ?_); rintro e w' ⟨rfl, ⟨nd, rfl⟩⟩))
              go_ret
              exact ⟨by first | rfl | (simp; done) | (simp [*]; done), by repeat (first | exact Drawn0.refl _ | apply Drawn0.step)⟩
            · rw [if_neg c10] at H
              have c10b0 : decide (a2 ≤ 12) = false := decide_eq_false c10
              clear c10
              obtain rfl := Option.some.inj H
              go_enter Tryd.func10, Tryd.ntmps10
              go_wp2
              go_ret
              exact ⟨by first | rfl | (simp; done) | (simp [*]; done), by repeat (first | exact Drawn0.refl _ | apply Drawn0.step)⟩
          · rw [if_neg c9] at H
            have c9b0 : decide (1 ≤ a2) = false := decide_eq_false c9
            clear c9
            obtain rfl := Option.some.inj H
            go_enter Tryd.func10, Tryd.ntmps10
            go_wp2
            go_ret
            exact ⟨by first | rfl | (simp; done) | (simp [*]; done), by repeat (first | exact Drawn0.refl _ | apply Drawn0.step)⟩
        · rw [if_neg c8] at H
          have c8b0 : decide (a1 ≤ 1000000) = false := decide_eq_false c8
          clear c8
          obtain rfl := Option.some.inj H
          go_enter Tryd.func10, Tryd.ntmps10
          go_wp2
          go_ret
          exact ⟨by first | rfl | (simp; done) | (simp [*]; done), by repeat (first | exact Drawn0.refl _ | apply Drawn0.step)⟩
      · rw [if_neg c7] at H
        have c7b0 : decide (0 ≤ a1) = false := decide_eq_false c7
        clear c7
        obtain rfl := Option.some.inj H
        go_enter Tryd.func10, Tryd.ntmps10
        go_wp2
        go_ret
        exact ⟨by first | rfl | (simp; done) | (simp [*]; done), by repeat (first | exact Drawn0.refl _ | apply Drawn0.step)⟩
    · rw [if_neg c6] at H
      have c6b0 : decide (a0 ≤ 1000000000000) = false := decide_eq_false c6
      clear c6
      obtain rfl := Option.some.inj H
      go_enter Tryd.func10, Tryd.ntmps10
      go_wp2
      go_ret
      exact ⟨by first | rfl | (simp; done) | (simp [*]; done), by repeat (first | exact Drawn0.refl _ | apply Drawn0.step)⟩
  · rw [if_neg c5] at H
    have c5b0 : decide (0 ≤ a0) = false := decide_eq_false c5
    clear c5
    obtain rfl := Option.some.inj H
    go_enter Tryd.func10, Tryd.ntmps10
    go_wp2
    go_ret
    exact ⟨by first | rfl | (simp; done) | (simp [*]; done), by repeat (first | exact Drawn0.refl _ | apply Drawn0.step)⟩
def corebankref32_Good.f (a0 a1 a2 a3 : Int) : Option Bool := some (goodB a0 a1 a2 a3)
theorem corebankref32_Good.eq {p a b c : Int} {r : Bool} (h : corebankref32_Good.f p a b c = some r) : corebankref32_GoodP.f p a b c = some r := by
  unfold corebankref32_Good.f at h
  rw [← h]
  unfold corebankref32_GoodP.f corebankref02_Valid.f goodB
  by_cases h1 : p ≥ 0 <;> by_cases h2 : p ≤ 1000000000000 <;> by_cases h3 : a ≥ 0 <;> by_cases h4 : a ≤ 1000000 <;> by_cases h5 : b ≥ 1 <;> by_cases h6 : b ≤ 12 <;> by_cases h7 : c ≥ 1
  all_goals simp [h1, h2, h3, h4, h5, h6, h7]
theorem corebankref32_Good.calls (a0 : Int) (a1 : Int) (a2 : Int) (a3 : Int) (r : Bool) (w : World) (h : corebankref32_Good.f a0 a1 a2 a3 = some r) :
    Calls Tryd.prog 10 #[.int .i64 a0, .int .i64 a1, .int .i64 a2, .int .i64 a3] w fun e w' => e = .returned (.bool r) ∧ Drawn0 w w' := by
  have h := corebankref32_Good.eq h
  exact corebankref32_GoodP.calls a0 a1 a2 a3 r w h
def annuity_terms_restP.l0 : Nat → Int → Int → Int → Int → Int → Int → Int → Option (Int × Bool)
  | 0, _, _, _, _, _, _, _ => none
  | k + 1, x1, x3, x10, x11, x185000, x185001, x185002 => if x11 < x10 then ((annuity_terms_interest.f x185000 x185001 x185002 x1).bind fun t185 => (if (mx 0 (wrap64 ((wrap64 (x1 + t185)) - x3))) > 1000000000000 then (some (0, false)) else (annuity_terms_restP.l0 k (mx 0 (wrap64 ((wrap64 (x1 + t185)) - x3))) x3 x10 (wrap64 (x11 + 1)) x185000 x185001 x185002))) else (some (x1, true))
def annuity_terms_restP.f (k : Nat) (a0_0 : Int) (a0_1 : Int) (a0_2 : Int) (a1 : Int) (a2 : Int) (a3 : Int) : Option (Int × Bool) := annuity_terms_restP.l0 k a1 a3 a2 0 a0_0 a0_1 a0_2
theorem annuity_terms_restP.mono_l : ∀ k, (∀ y0 y1 y2 y3 y4 y5 y6, LeO (annuity_terms_restP.l0 k y0 y1 y2 y3 y4 y5 y6) (annuity_terms_restP.l0 (k + 1) y0 y1 y2 y3 y4 y5 y6))
  | 0 => fun _ _ _ _ _ _ _ r h => by simp [annuity_terms_restP.l0] at h
  | k + 1 => by
    have ih0 := annuity_terms_restP.mono_l k
    · intro y0 y1 y2 y3 y4 y5 y6
      unfold annuity_terms_restP.l0
      repeat' first
      | (with_reducible exact ih0 _ _ _ _ _ _ _)
      | (with_reducible exact LeO.refl _)
      | (with_reducible exact LeO.none _)
      | (with_reducible refine LeO.ite ?_ ?_)
      | (with_reducible refine LeO.bind ?_ (fun _ => ?_))
      | exact ih0 _ _ _ _ _ _ _
      | exact LeO.none _
      | refine LeO.ite ?_ ?_
      | refine LeO.bind ?_ (fun _ => ?_)
theorem annuity_terms_restP.mono : ∀ a0 a1 a2 a3 a4 a5 k, LeO (annuity_terms_restP.f k a0 a1 a2 a3 a4 a5) (annuity_terms_restP.f (k + 1) a0 a1 a2 a3 a4 a5) := by
  intro a0 a1 a2 a3 a4 a5 k
  have ih0 := annuity_terms_restP.mono_l k
  unfold annuity_terms_restP.f
  repeat' first
      | (with_reducible exact ih0 _ _ _ _ _ _ _)
      | (with_reducible exact LeO.refl _)
      | (with_reducible exact LeO.none _)
      | (with_reducible refine LeO.ite ?_ ?_)
      | (with_reducible refine LeO.bind ?_ (fun _ => ?_))
      | exact ih0 _ _ _ _ _ _ _
      | exact LeO.none _
      | refine LeO.ite ?_ ?_
      | refine LeO.bind ?_ (fun _ => ?_)
set_option maxHeartbeats 8000000 in
set_option maxRecDepth 100000 in
theorem annuity_terms_restP.calls (k : Nat) (a0_0 : Int) (a0_1 : Int) (a0_2 : Int) (a1 : Int) (a2 : Int) (a3 : Int) (r1 : Int) (r2 : Bool) (w : World) (hG : GW w) (h : annuity_terms_restP.f k a0_0 a0_1 a0_2 a1 a2 a3 = some (r1, r2)) :
    Calls Tryd.prog 31 #[.agg #[.int .i64 a0_0, .int .i64 a0_1, .int .i64 a0_2], .int .i64 a1, .int .i64 a2, .int .i64 a3] w fun e w' => e = .returned (.tuple #[.int .i64 r1, .bool r2]) ∧ Below w.heap.size w w' := by
  have hu47 := Tryd.underlying47
  have HB := Aside0.mk (Below.refl w.heap.size w)
  have H : (annuity_terms_restP.l0 k a1 a3 a2 0 a0_0 a0_1 a0_2) = some (r1, r2) := h
  clear h
  have H' := Aside0.mk H
  clear H
  go_enter Tryd.func31, Tryd.ntmps31
  go_wp2_with (first | ((with_reducible refine gate_dst (N := 4) rfl ?_); refine box_event ?hg (N := 4) ?hd (cs := #[.int .i64 a0_0, .int .i64 a0_1, .int .i64 a0_2]) (t := 47) ?hr ?_; (case hd => rfl); (case hg => rfl); (case hr => first | (go_simp; done) | (go_simp; rfl)); intro gb184 hg w5 hbox hb; have n0_ := Aside0.mk (below_step (qb_ HB.out) hb); have n1_ := Aside0.mk (hbox); have n2_ := Aside0.mk ((by rw [hg]; exact (below_size (qb_ HB.out)) : w.heap.size ≤ gb184)); have n3_ := Aside0.mk ((by rw [hg]; exact (below_size (qb_ HB.out)) : w.heap.size ≤ gb184)); clear HB; have HB := n0_; have BK184 := n1_; have GW184 := n2_; have GE184 := n3_; clear n0_ n1_ n2_ n3_; clear hb hbox hg))
  go_loopg [1, 11] k (fun kq v1 v11 w' => ∃ (x1_1 : Int) (x11_1 : Int), v1 = .int .i64 x1_1 ∧ v11 = .int .i64 x11_1 ∧ Aside0 (annuity_terms_restP.l0 kq x1_1 a3 a2 x11_1 a0_0 a0_1 a0_2 = some (r1, r2)) ∧ Aside0 (kq ≤ k) ∧ Aside0 (w'.heap[gb184]? = some (.cells #[.int .i64 a0_0, .int .i64 a0_1, .int .i64 a0_2] 47 (0, 0))) ∧ Aside0 (Below w.heap.size w w'))
  case atStart => exact ⟨(a1), (0), (by first | rfl | (simp; done) | (simp [*]; done)), (by first | rfl | (simp; done) | (simp [*]; done)), H', ⟨Nat.le_refl _⟩, ⟨by (with_reducible repeat (first | refine blk_drewN ?_ _ | refine blk_drew ?_ | refine blk_alloc ?_ _)); exact BK184.out⟩, ⟨by repeat (first | (with_reducible first | exact HB.out | apply below_alloc | apply pw_below_drewN | apply below_drew1 | refine below_set ?_ GE184.out) | exact HB.out)⟩⟩
  case round =>
    clear H'
    try clear p2
    try clear c3
    obtain ⟨x1_1, x11_1, rfl, rfl, HA, HK1, BK184, HB⟩ := hrel
    cases gk with
    | zero => exact absurd HA.out (by simp [annuity_terms_restP.l0])
    | succ k1 =>
      have H := HA.out
      clear HA
      simp only [annuity_terms_restP.l0] at H
      by_cases c6 : x11_1 < a2
      · rw [if_pos c6] at H
        have c6b0 : decide (x11_1 < a2) = true := decide_eq_true c6
        clear c6
        replace H := Option.bind_eq_some_iff.mp H
        obtain ⟨t185, A70, H⟩ := H
        replace H : (if (mx 0 (wrap64 ((wrap64 (x1_1 + t185)) - a3))) > 1000000000000 then (some (0, false)) else (annuity_terms_restP.l0 k1 (mx 0 (wrap64 ((wrap64 (x1_1 + t185)) - a3))) a3 a2 (wrap64 (x11_1 + 1)) a0_0 a0_1 a0_2)) = some (r1, r2) := H
        have A7 := Aside0.mk A70
        clear A70
        obtain ⟨ji8, hji8⟩ : ∃ j_ : Int, (mx 0 (wrap64 ((wrap64 (x1_1 + t185)) - a3))) = j_ := ⟨_, rfl⟩
        replace H : (if (ji8) > 1000000000000 then (some (0, false)) else (annuity_terms_restP.l0 k1 ji8 a3 a2 (wrap64 (x11_1 + 1)) a0_0 a0_1 a0_2)) = some (r1, r2) := by first | (rw [hji8] at H; exact H) | (simp only [hji8] at H ⊢; exact H)
        (try rw [hji8] at A7)
        have hji8_ : (if 0 < (wrap64 ((wrap64 (x1_1 + t185)) - a3)) then (wrap64 ((wrap64 (x1_1 + t185)) - a3)) else 0) = ji8 := hji8
        by_cases c9 : (ji8) > 1000000000000
        · rw [if_pos c9] at H
          have c9b0 : decide (1000000000000 < (ji8)) = true := decide_eq_true c9
          clear c9
          simp only [Option.some.injEq, Prod.mk.injEq] at H
          obtain ⟨rfl, rfl⟩ := H
          have hcz10_0 : wr.cell? ⟨gb184, 0, none⟩ = some (.int .i64 a0_0) := (blk_cell BK184.out 0).trans rfl
          have hcz10_1 : wr.cell? ⟨gb184, 1, none⟩ = some (.int .i64 a0_1) := (blk_cell BK184.out 1).trans rfl
          have hcz10_2 : wr.cell? ⟨gb184, 2, none⟩ = some (.int .i64 a0_2) := (blk_cell BK184.out 2).trans rfl
          have hfz10_0 := blk_frozen BK184.out 0
          have hfz10_1 := blk_frozen BK184.out 1
          have hfz10_2 := blk_frozen BK184.out 2
          go_wp2_with (first | ((with_reducible refine gate_callee (f := 20) rfl ?_); refine goesL_ (some 16) rfl rfl Tryd.func20 (by kernel_rfl) rfl #[.agg #[.int .i64 a0_0, .int .i64 a0_1, .int .i64 a0_2], .int .i64 x1_1] rfl ql_ ?_; (with_reducible refine (annuity_terms_interest.calls (hG := by first | exact hG | (with_reducible exact GW.below hG (by repeat (first | (with_reducible first | exact HB.out | apply below_alloc | apply pw_below_drewN | apply below_drew1 | refine below_set ?_ GE184.out) | exact HB.out))) | (with_reducible repeat (first | exact hG | apply GW.drewN | apply GW.drew))) a0_0 a0_1 a0_2 x1_1 t185 _ A7.out).mono ?_); rintro e w11 ⟨rfl, hb⟩; refine ⟨_, rfl, ?_⟩; have n0_ := Aside0.mk (blk_below (g := gb184) (o := .cells #[.int .i64 a0_0, .int .i64 a0_1, .int .i64 a0_2] 47 (0, 0)) (qk_ BK184.out) hb); have n1_ := Aside0.mk (below_step (by repeat (first | (with_reducible first | exact HB.out | apply below_alloc | apply pw_below_drewN | apply below_drew1 | refine below_set ?_ GE184.out) | exact HB.out)) hb); clear BK184; clear HB; have BK184 := n0_; have HB := n1_; clear n0_ n1_; (try clear hb); (try clear hb2); (try clear hk); (try clear hi)))
          go_ret2
          exact ⟨by first | rfl | (simp [errW_none, errW_some] <;> rfl) | (simp only [← hji8]; first | rfl | (simp [errW_none, errW_some] <;> rfl)) | (simp [*, errW_none, errW_some] <;> rfl), by repeat (first | (with_reducible first | exact HB.out | apply below_alloc | apply pw_below_drewN | apply below_drew1 | refine below_set ?_ GE184.out) | exact HB.out)⟩
        · rw [if_neg c9] at H
          have c9b0 : decide (1000000000000 < (ji8)) = false := decide_eq_false c9
          clear c9
          have H' := Aside0.mk H
          clear H
          have hcz12_0 : wr.cell? ⟨gb184, 0, none⟩ = some (.int .i64 a0_0) := (blk_cell BK184.out 0).trans rfl
          have hcz12_1 : wr.cell? ⟨gb184, 1, none⟩ = some (.int .i64 a0_1) := (blk_cell BK184.out 1).trans rfl
          have hcz12_2 : wr.cell? ⟨gb184, 2, none⟩ = some (.int .i64 a0_2) := (blk_cell BK184.out 2).trans rfl
          have hfz12_0 := blk_frozen BK184.out 0
          have hfz12_1 := blk_frozen BK184.out 1
          have hfz12_2 := blk_frozen BK184.out 2
          go_wp2_with (first | ((with_reducible refine gate_callee (f := 20) rfl ?_); refine goesL_ (some 16) rfl rfl Tryd.func20 (by kernel_rfl) rfl #[.agg #[.int .i64 a0_0, .int .i64 a0_1, .int .i64 a0_2], .int .i64 x1_1] rfl ql_ ?_; (with_reducible refine (annuity_terms_interest.calls (hG := by first | exact hG | (with_reducible exact GW.below hG (by repeat (first | (with_reducible first | exact HB.out | apply below_alloc | apply pw_below_drewN | apply below_drew1 | refine below_set ?_ GE184.out) | exact HB.out))) | (with_reducible repeat (first | exact hG | apply GW.drewN | apply GW.drew))) a0_0 a0_1 a0_2 x1_1 t185 _ A7.out).mono ?_); rintro e w13 ⟨rfl, hb⟩; refine ⟨_, rfl, ?_⟩; have n0_ := Aside0.mk (blk_below (g := gb184) (o := .cells #[.int .i64 a0_0, .int .i64 a0_1, .int .i64 a0_2] 47 (0, 0)) (qk_ BK184.out) hb); have n1_ := Aside0.mk (below_step (by repeat (first | (with_reducible first | exact HB.out | apply below_alloc | apply pw_below_drewN | apply below_drew1 | refine below_set ?_ GE184.out) | exact HB.out)) hb); clear BK184; clear HB; have BK184 := n0_; have HB := n1_; clear n0_ n1_; (try clear hb); (try clear hb2); (try clear hk); (try clear hi)))
          go_roundg k1
          case measure => have := HK1.out; omega
          case rel => exact ⟨(ji8), (wrap64 (x11_1 + 1)), (by first | rfl | (simp; done) | (simp only [← hji8] <;> (first | rfl | simp)) | (simp [*]; done)), (by first | rfl | (simp; done) | (simp [*]; done)), H', ⟨by have := HK1.out; omega⟩, ⟨by (with_reducible repeat (first | refine blk_drewN ?_ _ | refine blk_drew ?_ | refine blk_alloc ?_ _)); exact BK184.out⟩, ⟨by repeat (first | (with_reducible first | exact HB.out | apply below_alloc | apply pw_below_drewN | apply below_drew1 | refine below_set ?_ GE184.out) | exact HB.out)⟩⟩
      · rw [if_neg c6] at H
        have c6b0 : decide (x11_1 < a2) = false := decide_eq_false c6
        clear c6
        simp only [Option.some.injEq, Prod.mk.injEq] at H
        obtain ⟨rfl, rfl⟩ := H
        go_wp2
        go_ret2
        exact ⟨by first | rfl | (simp [errW_none, errW_some] <;> rfl) | (simp [*, errW_none, errW_some] <;> rfl), by repeat (first | (with_reducible first | exact HB.out | apply below_alloc | apply pw_below_drewN | apply below_drew1 | refine below_set ?_ GE184.out) | exact HB.out)⟩
def annuity_terms_rest.f (a0_0 a0_1 a0_2 a1 a2 a3 : Int) : Option (Int × Bool) :=
  if goodB a1 a0_0 a0_1 a0_2 = true ∧ 0 ≤ a2 ∧ a2 ≤ 120 ∧ 0 ≤ a3 ∧ a3 ≤ 1000000000000 then some (restS a0_0 a0_1 a0_2 a3 a2.toNat a1) else none
theorem rest_loop (ppm every mode pay count : Int) (i0 : 0 ≤ ppm) (i1 : ppm ≤ 1000000) (e0 : 1 ≤ every) (e1 : every ≤ 12) (m0 : 1 ≤ mode) (m1 : mode ≤ 6)
    (c1 : count ≤ 120) (y0 : 0 ≤ pay) (y1 : pay ≤ 1000000000000) (n : Nat) :
    ∀ (p i : Int), 0 ≤ p → p ≤ 1000000000000 → 0 ≤ i → (count - i) = n → annuity_terms_restP.l0 (n + 1) p pay count i ppm every mode = some (restS ppm every mode pay n p) := by
  induction n with
  | zero =>
    intro p i p0 p1 j0 j1
    simp only [annuity_terms_restP.l0, restS]
    rw [if_neg (by omega)]
  | succ n ih =>
    intro p i p0 p1 j0 j1
    obtain ⟨x0, x1, x2, x3, x4, x5⟩ := interest_range (mode := mode) p0 p1 i0 i1 e0 e1
    rw [annuity_terms_restP.l0, if_pos (by omega)]
    unfold annuity_terms_interest.f
    have hg : goodB p ppm every mode = true := decide_eq_true ⟨p0, p1, i0, i1, e0, e1, m0, m1⟩
    rw [if_pos hg]
    simp only [Option.bind_some, restS]
    rw [i64_id (p + _) (by omega) (by omega), i64_id (p + _ - pay) (by omega) (by omega), i64_id (i + 1) (by omega) (by omega)]
    generalize p + rq (p * (ppm * every)) 12000000 mode - pay = q
    by_cases hq : q > 1000000000000
    · rw [if_pos hq, if_pos (by unfold mx; omega)]
    · rw [if_neg hq, if_neg (by unfold mx; omega), ih _ _ (by unfold mx; omega) (by unfold mx; omega) (by omega) (by omega)]
      congr 2
      unfold mx
      split <;> omega
theorem annuity_terms_rest.eq {a b c p n y : Int} {r : Int × Bool} (h : annuity_terms_rest.f a b c p n y = some r) : ∃ k, annuity_terms_restP.f k a b c p n y = some r := by
  unfold annuity_terms_rest.f at h
  split at h
  · rename_i q
    injection h with h
    subst h
    obtain ⟨g, n0, n1, y0, y1⟩ := q
    obtain ⟨p0, p1, i0, i1, e0, e1, m0, m1⟩ := of_decide_eq_true g
    refine ⟨n.toNat + 1, ?_⟩
    unfold annuity_terms_restP.f
    exact rest_loop a b c y n i0 i1 e0 e1 m0 m1 n1 y0 y1 n.toNat p 0 p0 p1 (by omega) (by omega)
  · cases h
theorem annuity_terms_rest.calls (a0_0 : Int) (a0_1 : Int) (a0_2 : Int) (a1 : Int) (a2 : Int) (a3 : Int) (r1 : Int) (r2 : Bool) (w : World) (hG : GW w) (h : annuity_terms_rest.f a0_0 a0_1 a0_2 a1 a2 a3 = some (r1, r2)) :
    Calls Tryd.prog 31 #[.agg #[.int .i64 a0_0, .int .i64 a0_1, .int .i64 a0_2], .int .i64 a1, .int .i64 a2, .int .i64 a3] w fun e w' => e = .returned (.tuple #[.int .i64 r1, .bool r2]) ∧ Below w.heap.size w w' := by
  obtain ⟨k, h⟩ := annuity_terms_rest.eq h
  exact annuity_terms_restP.calls k a0_0 a0_1 a0_2 a1 a2 a3 r1 r2 w hG h
end Go.Proofs.YtbifbnjkpmmedaaDoor.PA
