-- By a program of this claim's session (wip/tools): the machine side of YtbifbnjkpmmedaaDoor A; Lean checks it.
import Derived.Test.YtbifbnjkpmmedaaDoorPAx0
namespace Go.Proofs.YtbifbnjkpmmedaaDoor.PA
open Go.RowKit Go.Proofs.YtbifbnjkpmmedaaDoorW.PrintWords Go.Proofs.YtbifbnjkpmmedaaDoorW.PrintLast Go.Proofs.YtbifbnjkpmmedaaDoorW.PrintMore
attribute [local go_sem] max2_int min2_int max_two min_two max_three min_three max_four min_four   -- for this text's walks alone
set_option linter.unusedVariables false
set_option linter.unusedSimpArgs false

/-! ### corebankref32_interestP: function 32 -/
mutual
def corebankref32_interestP.j0 : Nat → Int → Int → Int → Bool → Option (Int)
  | 0, _, _, _, _ => none
  | k + 1, x3, x10, x11, x33 => if x33 = true then (some (wrap64 (x10))) else (if x3 = 2 then (corebankref32_interestP.j1 k x10 true) else (if x3 = 4 then (corebankref32_interestP.j1 k x10 true) else (if x11 > 6000000 then (corebankref32_interestP.j1 k x10 true) else (if x11 = 6000000 then (if x3 = 5 then (corebankref32_interestP.j1 k x10 true) else (corebankref32_interestP.j1 k x10 ((Int.tmod x10 2) == 1))) else (corebankref32_interestP.j1 k x10 false)))))
def corebankref32_interestP.j1 : Nat → Int → Bool → Option (Int)
  | 0, _, _ => none
  | k + 1, x10, x58 => if x58 = true then (some (wrap64 ((wrap64 (x10)) + 1))) else (some (wrap64 (x10)))
end
def corebankref32_interestP.f (k : Nat) (a0 : Int) (a1 : Int) (a2 : Int) (a3 : Int) : Option (Int) := if (Int.tmod (IntKind.u64.wrap ((IntKind.u64.wrap ((IntKind.u64.wrap (a0)) * (IntKind.u64.wrap (a1)))) * (IntKind.u64.wrap (a2)))) 12000000) = 0 then (corebankref32_interestP.j0 k a3 (IntKind.u64.wrap (Int.tdiv (IntKind.u64.wrap ((IntKind.u64.wrap ((IntKind.u64.wrap (a0)) * (IntKind.u64.wrap (a1)))) * (IntKind.u64.wrap (a2)))) 12000000)) (Int.tmod (IntKind.u64.wrap ((IntKind.u64.wrap ((IntKind.u64.wrap (a0)) * (IntKind.u64.wrap (a1)))) * (IntKind.u64.wrap (a2)))) 12000000) true) else (if a3 = 1 then (corebankref32_interestP.j0 k a3 (IntKind.u64.wrap (Int.tdiv (IntKind.u64.wrap ((IntKind.u64.wrap ((IntKind.u64.wrap (a0)) * (IntKind.u64.wrap (a1)))) * (IntKind.u64.wrap (a2)))) 12000000)) (Int.tmod (IntKind.u64.wrap ((IntKind.u64.wrap ((IntKind.u64.wrap (a0)) * (IntKind.u64.wrap (a1)))) * (IntKind.u64.wrap (a2)))) 12000000) true) else (corebankref32_interestP.j0 k a3 (IntKind.u64.wrap (Int.tdiv (IntKind.u64.wrap ((IntKind.u64.wrap ((IntKind.u64.wrap (a0)) * (IntKind.u64.wrap (a1)))) * (IntKind.u64.wrap (a2)))) 12000000)) (Int.tmod (IntKind.u64.wrap ((IntKind.u64.wrap ((IntKind.u64.wrap (a0)) * (IntKind.u64.wrap (a1)))) * (IntKind.u64.wrap (a2)))) 12000000) (a3 == 3)))
theorem corebankref32_interestP.mono_l : ∀ k, (∀ y0 y1 y2 y3, LeO (corebankref32_interestP.j0 k y0 y1 y2 y3) (corebankref32_interestP.j0 (k + 1) y0 y1 y2 y3)) ∧ (∀ y0 y1, LeO (corebankref32_interestP.j1 k y0 y1) (corebankref32_interestP.j1 (k + 1) y0 y1))
  | 0 => ⟨fun _ _ _ _ r h => by simp [corebankref32_interestP.j0] at h, fun _ _ r h => by simp [corebankref32_interestP.j1] at h⟩
  | k + 1 => by
    obtain ⟨ih0, ih1⟩ := corebankref32_interestP.mono_l k
    refine ⟨?_, ?_⟩
    · intro y0 y1 y2 y3
      unfold corebankref32_interestP.j0
      repeat' first
      | (with_reducible exact ih0 _ _ _ _)
      | (with_reducible exact ih1 _ _)
      | (with_reducible exact LeO.refl _)
      | (with_reducible exact LeO.none _)
      | (with_reducible refine LeO.ite ?_ ?_)
      | (with_reducible refine LeO.bind ?_ (fun _ => ?_))
      | exact ih0 _ _ _ _
      | exact ih1 _ _
      | exact LeO.none _
      | refine LeO.ite ?_ ?_
      | refine LeO.bind ?_ (fun _ => ?_)
    · intro y0 y1
      unfold corebankref32_interestP.j1
      repeat' first
      | (with_reducible exact ih0 _ _ _ _)
      | (with_reducible exact ih1 _ _)
      | (with_reducible exact LeO.refl _)
      | (with_reducible exact LeO.none _)
      | (with_reducible refine LeO.ite ?_ ?_)
      | (with_reducible refine LeO.bind ?_ (fun _ => ?_))
      | exact ih0 _ _ _ _
      | exact ih1 _ _
      | exact LeO.none _
      | refine LeO.ite ?_ ?_
      | refine LeO.bind ?_ (fun _ => ?_)
theorem corebankref32_interestP.mono : ∀ a0 a1 a2 a3 k, LeO (corebankref32_interestP.f k a0 a1 a2 a3) (corebankref32_interestP.f (k + 1) a0 a1 a2 a3) := by
  intro a0 a1 a2 a3 k
  obtain ⟨ih0, ih1⟩ := corebankref32_interestP.mono_l k
  unfold corebankref32_interestP.f
  repeat' first
      | (with_reducible exact ih0 _ _ _ _)
      | (with_reducible exact ih1 _ _)
      | (with_reducible exact LeO.refl _)
      | (with_reducible exact LeO.none _)
      | (with_reducible refine LeO.ite ?_ ?_)
      | (with_reducible refine LeO.bind ?_ (fun _ => ?_))
      | exact ih0 _ _ _ _
      | exact ih1 _ _
      | exact LeO.none _
      | refine LeO.ite ?_ ?_
      | refine LeO.bind ?_ (fun _ => ?_)
set_option maxHeartbeats 8000000 in
set_option maxRecDepth 100000 in
theorem corebankref32_interestP.calls (k : Nat) (a0 : Int) (a1 : Int) (a2 : Int) (a3 : Int) (r : Int) (w : World) (h : corebankref32_interestP.f k a0 a1 a2 a3 = some r) :
    Calls Tryd.prog 32 #[.int .i64 a0, .int .i64 a1, .int .i64 a2, .int .i64 a3] w fun e w' => e = .returned (.int .i64 r) ∧ Drawn0 w w' := by
  have H : (if (Int.tmod (IntKind.u64.wrap ((IntKind.u64.wrap ((IntKind.u64.wrap (a0)) * (IntKind.u64.wrap (a1)))) * (IntKind.u64.wrap (a2)))) 12000000) = 0 then (corebankref32_interestP.j0 k a3 (IntKind.u64.wrap (Int.tdiv (IntKind.u64.wrap ((IntKind.u64.wrap ((IntKind.u64.wrap (a0)) * (IntKind.u64.wrap (a1)))) * (IntKind.u64.wrap (a2)))) 12000000)) (Int.tmod (IntKind.u64.wrap ((IntKind.u64.wrap ((IntKind.u64.wrap (a0)) * (IntKind.u64.wrap (a1)))) * (IntKind.u64.wrap (a2)))) 12000000) true) else (if a3 = 1 then (corebankref32_interestP.j0 k a3 (IntKind.u64.wrap (Int.tdiv (IntKind.u64.wrap ((IntKind.u64.wrap ((IntKind.u64.wrap (a0)) * (IntKind.u64.wrap (a1)))) * (IntKind.u64.wrap (a2)))) 12000000)) (Int.tmod (IntKind.u64.wrap ((IntKind.u64.wrap ((IntKind.u64.wrap (a0)) * (IntKind.u64.wrap (a1)))) * (IntKind.u64.wrap (a2)))) 12000000) true) else (corebankref32_interestP.j0 k a3 (IntKind.u64.wrap (Int.tdiv (IntKind.u64.wrap ((IntKind.u64.wrap ((IntKind.u64.wrap (a0)) * (IntKind.u64.wrap (a1)))) * (IntKind.u64.wrap (a2)))) 12000000)) (Int.tmod (IntKind.u64.wrap ((IntKind.u64.wrap ((IntKind.u64.wrap (a0)) * (IntKind.u64.wrap (a1)))) * (IntKind.u64.wrap (a2)))) 12000000) (a3 == 3)))) = some r := h
  clear h
  have HC5 := Aside0.mk H
  clear H
  go_enter Tryd.func32, Tryd.ntmps32
  go_upto_region 3 with (fail)
  go_cut [33] (fun v33 wc => ∃ (kq : Nat) (x33_4 : Bool), v33 = .bool x33_4 ∧ Aside0 (corebankref32_interestP.j0 kq a3 (IntKind.u64.wrap (Int.tdiv (IntKind.u64.wrap ((IntKind.u64.wrap ((IntKind.u64.wrap (a0)) * (IntKind.u64.wrap (a1)))) * (IntKind.u64.wrap (a2)))) 12000000)) (Int.tmod (IntKind.u64.wrap ((IntKind.u64.wrap ((IntKind.u64.wrap (a0)) * (IntKind.u64.wrap (a1)))) * (IntKind.u64.wrap (a2)))) 12000000) x33_4 = some r) ∧ Aside0 (kq ≤ k) ∧ Drawn0 w wc)
  case first =>
    have H := HC5.out
    clear HC5
    by_cases c6 : (Int.tmod (IntKind.u64.wrap ((IntKind.u64.wrap ((IntKind.u64.wrap (a0)) * (IntKind.u64.wrap (a1)))) * (IntKind.u64.wrap (a2)))) 12000000) = 0
    · rw [if_pos c6] at H
      have c6b0 : ((Int.tmod (IntKind.u64.wrap ((IntKind.u64.wrap ((IntKind.u64.wrap (a0)) * (IntKind.u64.wrap (a1)))) * (IntKind.u64.wrap (a2)))) 12000000) == 0) = true := beq_iff_eq.mpr c6
      have c6b1 : ((Int.tmod (IntKind.u64.wrap ((IntKind.u64.wrap ((IntKind.u64.wrap (a0)) * (IntKind.u64.wrap (a1)))) * (IntKind.u64.wrap (a2)))) 12000000) != 0) = false := bne_eq_false_iff_eq.mpr c6
      clear c6
      (first | rw [c6b0] | (simp only [i64_w, i32_w]; rw [c6b0]) | skip)
      have H' := Aside0.mk H
      clear H
      go_wp2
      go_meet
      case rel => exact ⟨_, (true), (by first | rfl | (simp; done) | (simp [*]; done)), H', ⟨by first | omega | exact Nat.le_refl _⟩, by repeat (first | exact Drawn0.refl _ | apply Drawn0.step)⟩
    · rw [if_neg c6] at H
      have c6b0 : ((Int.tmod (IntKind.u64.wrap ((IntKind.u64.wrap ((IntKind.u64.wrap (a0)) * (IntKind.u64.wrap (a1)))) * (IntKind.u64.wrap (a2)))) 12000000) == 0) = false := beq_eq_false_iff_ne.mpr c6
      have c6b1 : ((Int.tmod (IntKind.u64.wrap ((IntKind.u64.wrap ((IntKind.u64.wrap (a0)) * (IntKind.u64.wrap (a1)))) * (IntKind.u64.wrap (a2)))) 12000000) != 0) = true := bne_iff_ne.mpr c6
      (first | rw [c6b0] | (simp only [i64_w, i32_w]; rw [c6b0]) | skip)
      by_cases c7 : a3 = 1
      · rw [if_pos c7] at H
        have c7b0 : (a3 == 1) = true := beq_iff_eq.mpr c7
        have c7b1 : (a3 != 1) = false := bne_eq_false_iff_eq.mpr c7
        clear c7
        have H' := Aside0.mk H
        clear H
        go_wp2
        go_meet
        case rel => exact ⟨_, (true), (by first | rfl | (simp; done) | (simp [*]; done)), H', ⟨by first | omega | exact Nat.le_refl _⟩, by repeat (first | exact Drawn0.refl _ | apply Drawn0.step)⟩
      · rw [if_neg c7] at H
        have c7b0 : (a3 == 1) = false := beq_eq_false_iff_ne.mpr c7
        have c7b1 : (a3 != 1) = true := bne_iff_ne.mpr c7
        have H' := Aside0.mk H
        clear H
        go_wp2
        go_meet
        case rel => exact ⟨_, ((a3 == 3)), (by first | rfl | (simp; done) | (simp [*]; done)), H', ⟨by first | omega | exact Nat.le_refl _⟩, by repeat (first | exact Drawn0.refl _ | apply Drawn0.step)⟩
  case rest =>
    clear HC5
    try clear p2
    try clear c3
    try clear c6
    try clear c6b0
    try clear c6b1
    try clear c7
    try clear c7b0
    try clear c7b1
    obtain ⟨kq, x33_4, rfl, HA, HJ4, ⟨mc4, rfl⟩⟩ := hcut
    cases kq with
    | zero => exact absurd HA.out (by simp [corebankref32_interestP.j0])
    | succ kj4 =>
      have H := HA.out
      clear HA
      simp only [corebankref32_interestP.j0] at H
      by_cases c8 : x33_4 = true
      · subst c8
        have H1 : (some (wrap64 ((IntKind.u64.wrap (Int.tdiv (IntKind.u64.wrap ((IntKind.u64.wrap ((IntKind.u64.wrap (a0)) * (IntKind.u64.wrap (a1)))) * (IntKind.u64.wrap (a2)))) 12000000))))) = some r := by rw [if_pos rfl] at H; exact H
        clear H
        have H := H1
        clear H1
        obtain rfl := Option.some.inj H
        go_wp2
        go_ret
        exact ⟨by first | rfl | (simp; done) | (simp [*]; done), by repeat (first | exact Drawn0.refl _ | apply Drawn0.step)⟩
      · replace c8 := Bool.eq_false_iff.mpr c8
        subst c8
        have H1 : (if a3 = 2 then (corebankref32_interestP.j1 kj4 (IntKind.u64.wrap (Int.tdiv (IntKind.u64.wrap ((IntKind.u64.wrap ((IntKind.u64.wrap (a0)) * (IntKind.u64.wrap (a1)))) * (IntKind.u64.wrap (a2)))) 12000000)) true) else (if a3 = 4 then (corebankref32_interestP.j1 kj4 (IntKind.u64.wrap (Int.tdiv (IntKind.u64.wrap ((IntKind.u64.wrap ((IntKind.u64.wrap (a0)) * (IntKind.u64.wrap (a1)))) * (IntKind.u64.wrap (a2)))) 12000000)) true) else (if (Int.tmod (IntKind.u64.wrap ((IntKind.u64.wrap ((IntKind.u64.wrap (a0)) * (IntKind.u64.wrap (a1)))) * (IntKind.u64.wrap (a2)))) 12000000) > 6000000 then (corebankref32_interestP.j1 kj4 (IntKind.u64.wrap (Int.tdiv (IntKind.u64.wrap ((IntKind.u64.wrap ((IntKind.u64.wrap (a0)) * (IntKind.u64.wrap (a1)))) * (IntKind.u64.wrap (a2)))) 12000000)) true) else (if (Int.tmod (IntKind.u64.wrap ((IntKind.u64.wrap ((IntKind.u64.wrap (a0)) * (IntKind.u64.wrap (a1)))) * (IntKind.u64.wrap (a2)))) 12000000) = 6000000 then (if a3 = 5 then (corebankref32_interestP.j1 kj4 (IntKind.u64.wrap (Int.tdiv (IntKind.u64.wrap ((IntKind.u64.wrap ((IntKind.u64.wrap (a0)) * (IntKind.u64.wrap (a1)))) * (IntKind.u64.wrap (a2)))) 12000000)) true) else (corebankref32_interestP.j1 kj4 (IntKind.u64.wrap (Int.tdiv (IntKind.u64.wrap ((IntKind.u64.wrap ((IntKind.u64.wrap (a0)) * (IntKind.u64.wrap (a1)))) * (IntKind.u64.wrap (a2)))) 12000000)) ((Int.tmod (IntKind.u64.wrap (Int.tdiv (IntKind.u64.wrap ((IntKind.u64.wrap ((IntKind.u64.wrap (a0)) * (IntKind.u64.wrap (a1)))) * (IntKind.u64.wrap (a2)))) 12000000)) 2) == 1))) else (corebankref32_interestP.j1 kj4 (IntKind.u64.wrap (Int.tdiv (IntKind.u64.wrap ((IntKind.u64.wrap ((IntKind.u64.wrap (a0)) * (IntKind.u64.wrap (a1)))) * (IntKind.u64.wrap (a2)))) 12000000)) false))))) = some r := by rw [if_neg (show ¬ (false = true) by decide)] at H; exact H
        clear H
        have H := H1
        clear H1
        have HC9 := Aside0.mk H
        clear H
        go_upto_region 5 with (fail)
        go_cut [58] (fun v58 wc => ∃ (kq : Nat) (x58_8 : Bool), v58 = .bool x58_8 ∧ Aside0 (corebankref32_interestP.j1 kq (IntKind.u64.wrap (Int.tdiv (IntKind.u64.wrap ((IntKind.u64.wrap ((IntKind.u64.wrap (a0)) * (IntKind.u64.wrap (a1)))) * (IntKind.u64.wrap (a2)))) 12000000)) x58_8 = some r) ∧ Aside0 (kq ≤ kj4) ∧ Drawn0 w wc)
        case first =>
          have H := HC9.out
          clear HC9
          by_cases c10 : a3 = 2
          · rw [if_pos c10] at H
            have c10b0 : (a3 == 2) = true := beq_iff_eq.mpr c10
            have c10b1 : (a3 != 2) = false := bne_eq_false_iff_eq.mpr c10
            clear c10
            (first | rw [c10b0] | (simp only [i64_w, i32_w]; rw [c10b0]) | skip)
            have H' := Aside0.mk H
            clear H
            go_wp2
            go_meet
            case rel => exact ⟨_, (true), (by first | rfl | (simp; done) | (simp [*]; done)), H', ⟨by have := HJ4.out; first | omega | exact Nat.le_refl _⟩, by repeat (first | exact Drawn0.refl _ | apply Drawn0.step)⟩
          · rw [if_neg c10] at H
            have c10b0 : (a3 == 2) = false := beq_eq_false_iff_ne.mpr c10
            have c10b1 : (a3 != 2) = true := bne_iff_ne.mpr c10
            (first | rw [c10b0] | (simp only [i64_w, i32_w]; rw [c10b0]) | skip)
            by_cases c11 : a3 = 4
            · rw [if_pos c11] at H
              have c11b0 : (a3 == 4) = true := beq_iff_eq.mpr c11
              have c11b1 : (a3 != 4) = false := bne_eq_false_iff_eq.mpr c11
              clear c11
              have H' := Aside0.mk H
              clear H
              go_wp2
              go_meet
              case rel => exact ⟨_, (true), (by first | rfl | (simp; done) | (simp [*]; done)), H', ⟨by have := HJ4.out; first | omega | exact Nat.le_refl _⟩, by repeat (first | exact Drawn0.refl _ | apply Drawn0.step)⟩
            · rw [if_neg c11] at H
              have c11b0 : (a3 == 4) = false := beq_eq_false_iff_ne.mpr c11
              have c11b1 : (a3 != 4) = true := bne_iff_ne.mpr c11
              by_cases c12 : (Int.tmod (IntKind.u64.wrap ((IntKind.u64.wrap ((IntKind.u64.wrap (a0)) * (IntKind.u64.wrap (a1)))) * (IntKind.u64.wrap (a2)))) 12000000) > 6000000
              · rw [if_pos c12] at H
                have c12b0 : decide (6000000 < (Int.tmod (IntKind.u64.wrap ((IntKind.u64.wrap ((IntKind.u64.wrap (a0)) * (IntKind.u64.wrap (a1)))) * (IntKind.u64.wrap (a2)))) 12000000)) = true := decide_eq_true c12
                clear c12
                have H' := Aside0.mk H
                clear H
                go_wp2
                go_meet
                case rel => exact ⟨_, (true), (by first | rfl | (simp; done) | (simp [*]; done)), H', ⟨by have := HJ4.out; first | omega | exact Nat.le_refl _⟩, by repeat (first | exact Drawn0.refl _ | apply Drawn0.step)⟩
              · rw [if_neg c12] at H
                have c12b0 : decide (6000000 < (Int.tmod (IntKind.u64.wrap ((IntKind.u64.wrap ((IntKind.u64.wrap (a0)) * (IntKind.u64.wrap (a1)))) * (IntKind.u64.wrap (a2)))) 12000000)) = false := decide_eq_false c12
                clear c12
                by_cases c13 : (Int.tmod (IntKind.u64.wrap ((IntKind.u64.wrap ((IntKind.u64.wrap (a0)) * (IntKind.u64.wrap (a1)))) * (IntKind.u64.wrap (a2)))) 12000000) = 6000000
                · rw [if_pos c13] at H
                  have c13b0 : ((Int.tmod (IntKind.u64.wrap ((IntKind.u64.wrap ((IntKind.u64.wrap (a0)) * (IntKind.u64.wrap (a1)))) * (IntKind.u64.wrap (a2)))) 12000000) == 6000000) = true := beq_iff_eq.mpr c13
                  have c13b1 : ((Int.tmod (IntKind.u64.wrap ((IntKind.u64.wrap ((IntKind.u64.wrap (a0)) * (IntKind.u64.wrap (a1)))) * (IntKind.u64.wrap (a2)))) 12000000) != 6000000) = false := bne_eq_false_iff_eq.mpr c13
                  clear c13
                  by_cases c14 : a3 = 5
                  · rw [if_pos c14] at H
                    have c14b0 : (a3 == 5) = true := beq_iff_eq.mpr c14
                    have c14b1 : (a3 != 5) = false := bne_eq_false_iff_eq.mpr c14
                    clear c14
                    have H' := Aside0.mk H
                    clear H
                    go_wp2
                    go_meet
                    case rel => exact ⟨_, (true), (by first | rfl | (simp; done) | (simp [*]; done)), H', ⟨by have := HJ4.out; first | omega | exact Nat.le_refl _⟩, by repeat (first | exact Drawn0.refl _ | apply Drawn0.step)⟩
                  · rw [if_neg c14] at H
                    have c14b0 : (a3 == 5) = false := beq_eq_false_iff_ne.mpr c14
                    have c14b1 : (a3 != 5) = true := bne_iff_ne.mpr c14
                    have H' := Aside0.mk H
                    clear H
                    go_wp2
                    go_meet
                    case rel => exact ⟨_, (((Int.tmod (IntKind.u64.wrap (Int.tdiv (IntKind.u64.wrap ((IntKind.u64.wrap ((IntKind.u64.wrap (a0)) * (IntKind.u64.wrap (a1)))) * (IntKind.u64.wrap (a2)))) 12000000)) 2) == 1)), (by first | rfl | (simp; done) | (simp [*]; done)), H', ⟨by have := HJ4.out; first | omega | exact Nat.le_refl _⟩, by repeat (first | exact Drawn0.refl _ | apply Drawn0.step)⟩
                · rw [if_neg c13] at H
                  have c13b0 : ((Int.tmod (IntKind.u64.wrap ((IntKind.u64.wrap ((IntKind.u64.wrap (a0)) * (IntKind.u64.wrap (a1)))) * (IntKind.u64.wrap (a2)))) 12000000) == 6000000) = false := beq_eq_false_iff_ne.mpr c13
                  have c13b1 : ((Int.tmod (IntKind.u64.wrap ((IntKind.u64.wrap ((IntKind.u64.wrap (a0)) * (IntKind.u64.wrap (a1)))) * (IntKind.u64.wrap (a2)))) 12000000) != 6000000) = true := bne_iff_ne.mpr c13
                  have H' := Aside0.mk H
                  clear H
                  go_wp2
                  go_meet
                  case rel => exact ⟨_, (false), (by first | rfl | (simp; done) | (simp [*]; done)), H', ⟨by have := HJ4.out; first | omega | exact Nat.le_refl _⟩, by repeat (first | exact Drawn0.refl _ | apply Drawn0.step)⟩
        case rest =>
          clear HC9
          try clear c1
          try clear p2
          try clear c3
          try clear c4
          try clear c6
          try clear c6b0
          try clear c6b1
          try clear p6
          try clear c7
          try clear c7b0
          try clear c7b1
          try clear c8
          try clear c10
          try clear c10b0
          try clear c10b1
          try clear c11
          try clear c11b0
          try clear c11b1
          try clear c12
          try clear c12b0
          try clear c13
          try clear c13b0
          try clear c13b1
          try clear c14
          try clear c14b0
          try clear c14b1
          try clear p2
          obtain ⟨kq, x58_8, rfl, HA, HJ8, ⟨mc8, rfl⟩⟩ := hcut
          cases kq with
          | zero => exact absurd HA.out (by simp [corebankref32_interestP.j1])
          | succ kj8 =>
            have H := HA.out
            clear HA
            simp only [corebankref32_interestP.j1] at H
            by_cases c15 : x58_8 = true
            · subst c15
              have H1 : (some (wrap64 ((wrap64 ((IntKind.u64.wrap (Int.tdiv (IntKind.u64.wrap ((IntKind.u64.wrap ((IntKind.u64.wrap (a0)) * (IntKind.u64.wrap (a1)))) * (IntKind.u64.wrap (a2)))) 12000000)))) + 1))) = some r := by rw [if_pos rfl] at H; exact H
              clear H
              have H := H1
              clear H1
              obtain rfl := Option.some.inj H
              go_wp2
              go_ret
              exact ⟨by first | rfl | (simp; done) | (simp [*]; done), by repeat (first | exact Drawn0.refl _ | apply Drawn0.step)⟩
            · replace c15 := Bool.eq_false_iff.mpr c15
              subst c15
              have H1 : (some (wrap64 ((IntKind.u64.wrap (Int.tdiv (IntKind.u64.wrap ((IntKind.u64.wrap ((IntKind.u64.wrap (a0)) * (IntKind.u64.wrap (a1)))) * (IntKind.u64.wrap (a2)))) 12000000))))) = some r := by rw [if_neg (show ¬ (false = true) by decide)] at H; exact H
              clear H
              have H := H1
              clear H1
              obtain rfl := Option.some.inj H
              go_wp2
              go_ret
              exact ⟨by first | rfl | (simp; done) | (simp [*]; done), by repeat (first | exact Drawn0.refl _ | apply Drawn0.step)⟩

/-! ### corebankref32_interest: function 32 -/
def corebankref32_interest.f (a0 a1 a2 a3 : Int) : Option Int := if goodB a0 a1 a2 a3 = true then some (rq (a0 * (a1 * a2)) 12000000 a3) else none
theorem corebankref32_interest.eq {p a b c : Int} {r : Int} (h : corebankref32_interest.f p a b c = some r) : ∃ k, corebankref32_interestP.f k p a b c = some r := by
  unfold corebankref32_interest.f at h
  split at h
  · rename_i q
    injection h with h
    subst h
    obtain ⟨p0, p1, i0, i1, e0, e1, m0, m1⟩ := of_decide_eq_true q
    obtain ⟨x0, x1, x2, x3, x4, x5⟩ := interest_range (mode := c) p0 p1 i0 i1 e0 e1
    refine ⟨2, ?_⟩
    unfold corebankref32_interestP.f
    have y0 : 0 ≤ p * a := Int.mul_nonneg p0 i0
    have y1 : p * a ≤ 1000000000000 * 1000000 := Int.mul_le_mul p1 i1 i0 (by decide)
    have hu : IntKind.u64.wrap ((IntKind.u64.wrap ((IntKind.u64.wrap p) * (IntKind.u64.wrap a))) * (IntKind.u64.wrap b)) = p * (a * b) := by
      rw [u64_id p (by omega) (by omega), u64_id a (by omega) (by omega), u64_id b (by omega) (by omega), u64_id (p * a) y0 (by omega), Int.mul_assoc, u64_id _ x0 (by omega)]
    rw [hu]
    unfold rq
    generalize p * (a * b) = x at *
    rw [Int.tmod_eq_emod_of_nonneg x0, Int.tdiv_eq_ediv_of_nonneg x0]
    have hq0 : 0 ≤ x / 12000000 := by omega
    rw [u64_id (x / 12000000) hq0 (by omega)]
    have hneg : decide (x / 12000000 < 0) = false := decide_eq_false (by omega)
    rw [hneg]
    simp only [corebankref32_interestP.j0, corebankref32_interestP.j1]
    rw [i64_id (x / 12000000) (by omega) (by omega), i64_id (x / 12000000 + 1) (by omega) (by omega), Int.tmod_eq_emod_of_nonneg hq0]
    have hodd : (x / 12000000 % 2 == 1) = decide (x / 12000000 % 2 = 1) := by rw [Bool.eq_iff_iff, beq_iff_eq, decide_eq_true_eq]
    rw [hodd]
    generalize x / 12000000 = qq at *
    generalize hr : x % 12000000 = s at *
    have s0 : 0 ≤ s ∧ s < 12000000 := by omega
    by_cases hz : s = 0
    · rw [if_pos hz, if_pos trivial, if_neg (by omega), Int.add_zero]
    · rw [if_neg hz]
      unfold upB
      rcases (by omega : c = 1 ∨ c = 2 ∨ c = 3 ∨ c = 4 ∨ c = 5 ∨ c = 6) with rfl | rfl | rfl | rfl | rfl | rfl
      · simp
      · simp [show 0 < s by omega]
      · simp
      · simp [show 0 < s by omega]
      · by_cases h1 : s > 6000000
        · simp [h1, show 12000000 - s < s by omega, show 0 < s by omega]
        · by_cases h2 : s = 6000000
          · subst h2; simp
          · simp [h1, h2, show ¬ 12000000 - s < s by omega, show s < 12000000 - s by omega]
      · by_cases h1 : s > 6000000
        · simp [h1, show 12000000 - s < s by omega, show 0 < s by omega]
        · by_cases h2 : s = 6000000
          · subst h2
            by_cases h3 : qq % 2 = 1 <;> simp [h3]
          · simp [h1, h2, show ¬ 12000000 - s < s by omega, show s < 12000000 - s by omega]
  · cases h

theorem corebankref32_interest.calls (a0 : Int) (a1 : Int) (a2 : Int) (a3 : Int) (r : Int) (w : World) (h : corebankref32_interest.f a0 a1 a2 a3 = some r) :
    Calls Tryd.prog 32 #[.int .i64 a0, .int .i64 a1, .int .i64 a2, .int .i64 a3] w fun e w' => e = .returned (.int .i64 r) ∧ Drawn0 w w' := by
  obtain ⟨k, h⟩ := corebankref32_interest.eq h
  exact corebankref32_interestP.calls k a0 a1 a2 a3 r w h

end Go.Proofs.YtbifbnjkpmmedaaDoor.PA
