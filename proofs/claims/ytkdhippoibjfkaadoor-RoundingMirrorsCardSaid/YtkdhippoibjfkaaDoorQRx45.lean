import Derived.Test.YtkdhippoibjfkaaDoorQRm2
import Derived.Test.YtkdhippoibjfkaaDoorQRm5
import Derived.Test.YtkdhippoibjfkaaDoorQRm6
import Derived.Test.YtkdhippoibjfkaaDoorQRm11
import Derived.Test.YtkdhippoibjfkaaDoorQRx32
namespace Go.Proofs.YtkdhippoibjfkaaDoor.PR
open Go.RowKit Go.Proofs.YtkdhippoibjfkaaDoorW.PrintWords Go.Proofs.YtkdhippoibjfkaaDoorW.PrintLast
set_option linter.unusedVariables false
set_option linter.unusedSimpArgs false
mutual
def corebanklaw02_RoundingMirrors.j0 : Nat → Int → Int → Bool → Int → Int → Int → Int → Option (Bool)
 | 0, _, _, _, _, _, _, _ => none
 | k + 1, x1, x2, x30, x599000, x599001, x605000, x605001 => if x30 = true then ((corebanklaw02_live.f).bind fun t606 => (some t606)) else (if x2 = 3 then (corebanklaw02_RoundingMirrors.j1 k x1 x2 4 x599000 x599001 x605000 x605001) else (corebanklaw02_RoundingMirrors.j1 k x1 x2 x2 x599000 x599001 x605000 x605001))
def corebanklaw02_RoundingMirrors.j1 : Nat → Int → Int → Int → Int → Int → Int → Int → Option (Bool)
 | 0, _, _, _, _, _, _, _ => none
 | k + 1, x1, x2, x9, x599000, x599001, x605000, x605001 => if x2 = 4 then (corebanklaw02_RoundingMirrors.j2 k x1 x2 3 x599000 x599001 x605000 x605001) else (corebanklaw02_RoundingMirrors.j2 k x1 x2 x9 x599000 x599001 x605000 x605001)
def corebanklaw02_RoundingMirrors.j2 : Nat → Int → Int → Int → Int → Int → Int → Int → Option (Bool)
 | 0, _, _, _, _, _, _, _ => none
 | k + 1, x1, x2, x9, x599000, x599001, x605000, x605001 => (rounding_Divide.f x599000 x599001 x1 x2).bind fun bt607 => ((rounding_Divide.f x605000 x605001 x1 x9).bind fun bt609 => (if bt607.2 = 0 then (corebanklaw02_RoundingMirrors.j3 k bt607.1 bt607.2 bt609.1 bt609.2 (bt609.2 == 0)) else (corebanklaw02_RoundingMirrors.j3 k bt607.1 bt607.2 bt609.1 bt609.2 false)))
def corebanklaw02_RoundingMirrors.j3 : Nat → Int → Int → Int → Int → Bool → Option (Bool)
 | 0, _, _, _, _, _ => none
 | k + 1, x10, x11, x12, x13, x56 => if x56 = true then (if x10 = (wrap64 (-x12)) then ((corebanklaw02_live.f).bind fun t611 => (some t611)) else (some false)) else (if x11 = x13 then ((corebanklaw02_live.f).bind fun t612 => (some t612)) else (if x11 = 0 then (if x10 = (-9223372036854775808) then ((corebanklaw02_live.f).bind fun t613 => (some t613)) else (if x13 = 0 then (if x12 = (-9223372036854775808) then ((corebanklaw02_live.f).bind fun t614 => (some t614)) else (some false)) else (some false))) else (if x13 = 0 then (if x12 = (-9223372036854775808) then ((corebanklaw02_live.f).bind fun t615 => (some t615)) else (some false)) else (some false))))
end
def corebanklaw02_RoundingMirrors.f (k : Nat) (a0_0 : Int) (a0_1 : Int) (a1 : Int) (a2 : Int) : Option (Bool) := (corebankref01_Of.f 0).bind fun bt599 => ((corebankref01_Sub.f bt599.1 bt599.2 a0_0 a0_1).bind fun bt601 => (if bt601.2.2 = 0 then (if a1 < 1 then (corebanklaw02_RoundingMirrors.j0 k a1 a2 true a0_0 a0_1 bt601.1 bt601.2.1) else ((corebankref02_Valid.f a2).bind fun t605 => (corebanklaw02_RoundingMirrors.j0 k a1 a2 (!t605) a0_0 a0_1 bt601.1 bt601.2.1))) else (corebanklaw02_RoundingMirrors.j0 k a1 a2 true a0_0 a0_1 bt601.1 bt601.2.1)))
theorem corebanklaw02_RoundingMirrors.mono_l : ∀ k, (∀ y0 y1 y2 y3 y4 y5 y6, LeO (corebanklaw02_RoundingMirrors.j0 k y0 y1 y2 y3 y4 y5 y6) (corebanklaw02_RoundingMirrors.j0 (k + 1) y0 y1 y2 y3 y4 y5 y6)) ∧ (∀ y0 y1 y2 y3 y4 y5 y6, LeO (corebanklaw02_RoundingMirrors.j1 k y0 y1 y2 y3 y4 y5 y6) (corebanklaw02_RoundingMirrors.j1 (k + 1) y0 y1 y2 y3 y4 y5 y6)) ∧ (∀ y0 y1 y2 y3 y4 y5 y6, LeO (corebanklaw02_RoundingMirrors.j2 k y0 y1 y2 y3 y4 y5 y6) (corebanklaw02_RoundingMirrors.j2 (k + 1) y0 y1 y2 y3 y4 y5 y6)) ∧ (∀ y0 y1 y2 y3 y4, LeO (corebanklaw02_RoundingMirrors.j3 k y0 y1 y2 y3 y4) (corebanklaw02_RoundingMirrors.j3 (k + 1) y0 y1 y2 y3 y4))
 | 0 => ⟨fun _ _ _ _ _ _ _ r h => by simp [corebanklaw02_RoundingMirrors.j0] at h, fun _ _ _ _ _ _ _ r h => by simp [corebanklaw02_RoundingMirrors.j1] at h, fun _ _ _ _ _ _ _ r h => by simp [corebanklaw02_RoundingMirrors.j2] at h, fun _ _ _ _ _ r h => by simp [corebanklaw02_RoundingMirrors.j3] at h⟩
 | k + 1 => by
  obtain ⟨ih0, ih1, ih2, ih3⟩ := corebanklaw02_RoundingMirrors.mono_l k
  refine ⟨?_, ?_, ?_, ?_⟩
  ·intro y0 y1 y2 y3 y4 y5 y6
   unfold corebanklaw02_RoundingMirrors.j0
   repeat' first
   | (with_reducible exact ih0 _ _ _ _ _ _ _)
   | (with_reducible exact ih1 _ _ _ _ _ _ _)
   | (with_reducible exact ih2 _ _ _ _ _ _ _)
   | (with_reducible exact ih3 _ _ _ _ _)
   | (with_reducible exact LeO.refl _)
   | (with_reducible exact LeO.none _)
   | (with_reducible refine LeO.ite ?_ ?_)
   | (with_reducible refine LeO.bind ?_ (fun _ => ?_))
   | exact ih0 _ _ _ _ _ _ _
   | exact ih1 _ _ _ _ _ _ _
   | exact ih2 _ _ _ _ _ _ _
   | exact ih3 _ _ _ _ _
   | exact LeO.none _
   | refine LeO.ite ?_ ?_
   | refine LeO.bind ?_ (fun _ => ?_)
  ·intro y0 y1 y2 y3 y4 y5 y6
   unfold corebanklaw02_RoundingMirrors.j1
   repeat' first
   | (with_reducible exact ih0 _ _ _ _ _ _ _)
   | (with_reducible exact ih1 _ _ _ _ _ _ _)
   | (with_reducible exact ih2 _ _ _ _ _ _ _)
   | (with_reducible exact ih3 _ _ _ _ _)
   | (with_reducible exact LeO.refl _)
   | (with_reducible exact LeO.none _)
   | (with_reducible refine LeO.ite ?_ ?_)
   | (with_reducible refine LeO.bind ?_ (fun _ => ?_))
   | exact ih0 _ _ _ _ _ _ _
   | exact ih1 _ _ _ _ _ _ _
   | exact ih2 _ _ _ _ _ _ _
   | exact ih3 _ _ _ _ _
   | exact LeO.none _
   | refine LeO.ite ?_ ?_
   | refine LeO.bind ?_ (fun _ => ?_)
  ·intro y0 y1 y2 y3 y4 y5 y6
   unfold corebanklaw02_RoundingMirrors.j2
   repeat' first
   | (with_reducible exact ih0 _ _ _ _ _ _ _)
   | (with_reducible exact ih1 _ _ _ _ _ _ _)
   | (with_reducible exact ih2 _ _ _ _ _ _ _)
   | (with_reducible exact ih3 _ _ _ _ _)
   | (with_reducible exact LeO.refl _)
   | (with_reducible exact LeO.none _)
   | (with_reducible refine LeO.ite ?_ ?_)
   | (with_reducible refine LeO.bind ?_ (fun _ => ?_))
   | exact ih0 _ _ _ _ _ _ _
   | exact ih1 _ _ _ _ _ _ _
   | exact ih2 _ _ _ _ _ _ _
   | exact ih3 _ _ _ _ _
   | exact LeO.none _
   | refine LeO.ite ?_ ?_
   | refine LeO.bind ?_ (fun _ => ?_)
  ·intro y0 y1 y2 y3 y4
   unfold corebanklaw02_RoundingMirrors.j3
   repeat' first
   | (with_reducible exact ih0 _ _ _ _ _ _ _)
   | (with_reducible exact ih1 _ _ _ _ _ _ _)
   | (with_reducible exact ih2 _ _ _ _ _ _ _)
   | (with_reducible exact ih3 _ _ _ _ _)
   | (with_reducible exact LeO.refl _)
   | (with_reducible exact LeO.none _)
   | (with_reducible refine LeO.ite ?_ ?_)
   | (with_reducible refine LeO.bind ?_ (fun _ => ?_))
   | exact ih0 _ _ _ _ _ _ _
   | exact ih1 _ _ _ _ _ _ _
   | exact ih2 _ _ _ _ _ _ _
   | exact ih3 _ _ _ _ _
   | exact LeO.none _
   | refine LeO.ite ?_ ?_
   | refine LeO.bind ?_ (fun _ => ?_)
theorem corebanklaw02_RoundingMirrors.mono : ∀ a0 a1 a2 a3 k, LeO (corebanklaw02_RoundingMirrors.f k a0 a1 a2 a3) (corebanklaw02_RoundingMirrors.f (k + 1) a0 a1 a2 a3) := by
 intro a0 a1 a2 a3 k
 obtain ⟨ih0, ih1, ih2, ih3⟩ := corebanklaw02_RoundingMirrors.mono_l k
 unfold corebanklaw02_RoundingMirrors.f
 repeat' first
   | (with_reducible exact ih0 _ _ _ _ _ _ _)
   | (with_reducible exact ih1 _ _ _ _ _ _ _)
   | (with_reducible exact ih2 _ _ _ _ _ _ _)
   | (with_reducible exact ih3 _ _ _ _ _)
   | (with_reducible exact LeO.refl _)
   | (with_reducible exact LeO.none _)
   | (with_reducible refine LeO.ite ?_ ?_)
   | (with_reducible refine LeO.bind ?_ (fun _ => ?_))
   | exact ih0 _ _ _ _ _ _ _
   | exact ih1 _ _ _ _ _ _ _
   | exact ih2 _ _ _ _ _ _ _
   | exact ih3 _ _ _ _ _
   | exact LeO.none _
   | refine LeO.ite ?_ ?_
   | refine LeO.bind ?_ (fun _ => ?_)
def corebanklaw02_RoundingMirrors.T1 : Bool × List (List Nat × List Nat) := (true, [([], []), ([], []), ([0, 1, 0], [0, 1]), ([2], [2]), ([3], [3]), ([3], [3]), ([], []), ([6, 4, 2, 0, 1, 2, 3, 4, 6], [4, 6]), ([5, 7, 0, 1, 2, 3, 4, 5, 6, 7], [5])])
def corebanklaw02_RoundingMirrors.B1 : List Nat := [0, 0, 3, 7, 15, 15, 0, 95, 255]
theorem corebanklaw02_RoundingMirrors.tab1 : rtab .any (opsOf Tryd.f10 1) = corebanklaw02_RoundingMirrors.T1 := by kernel_rfl
theorem corebanklaw02_RoundingMirrors.bits1 : waitsOk corebanklaw02_RoundingMirrors.T1.2 corebanklaw02_RoundingMirrors.B1 = true := by kernel_rfl
set_option maxHeartbeats 8000000 in
set_option maxRecDepth 100000 in
theorem corebanklaw02_RoundingMirrors.calls (k : Nat) (a0_0 : Int) (a0_1 : Int) (a1 : Int) (a2 : Int) (r : Bool) (w : World) (hG : GW w) (h : corebanklaw02_RoundingMirrors.f k a0_0 a0_1 a1 a2 = some r) :
  Calls Tryd.prog 10 #[.agg #[.int .i64 a0_0, .int .u64 a0_1], .int .i64 a1, .int .i64 a2] w fun e w' => e = .returned (.bool r) ∧ Below w.heap.size w w' := by
 have hu24 := Tryd.underlying24
 have HB := Aside0.mk (Below.refl w.heap.size w)
 have H : ((corebankref01_Of.f 0).bind fun bt599 => ((corebankref01_Sub.f bt599.1 bt599.2 a0_0 a0_1).bind fun bt601 => (if bt601.2.2 = 0 then (if a1 < 1 then (corebanklaw02_RoundingMirrors.j0 k a1 a2 true a0_0 a0_1 bt601.1 bt601.2.1) else ((corebankref02_Valid.f a2).bind fun t605 => (corebanklaw02_RoundingMirrors.j0 k a1 a2 (!t605) a0_0 a0_1 bt601.1 bt601.2.1))) else (corebanklaw02_RoundingMirrors.j0 k a1 a2 true a0_0 a0_1 bt601.1 bt601.2.1)))) = some r := h
 clear h
 replace H := Option.bind_eq_some_iff.mp H
 obtain ⟨⟨t599, t600⟩, A40, H⟩ := H
 replace H : ((corebankref01_Sub.f t599 t600 a0_0 a0_1).bind fun bt601 => (if bt601.2.2 = 0 then (if a1 < 1 then (corebanklaw02_RoundingMirrors.j0 k a1 a2 true a0_0 a0_1 bt601.1 bt601.2.1) else ((corebankref02_Valid.f a2).bind fun t605 => (corebanklaw02_RoundingMirrors.j0 k a1 a2 (!t605) a0_0 a0_1 bt601.1 bt601.2.1))) else (corebanklaw02_RoundingMirrors.j0 k a1 a2 true a0_0 a0_1 bt601.1 bt601.2.1))) = some r := H
 have A4 := Aside0.mk A40
 clear A40
 replace H := Option.bind_eq_some_iff.mp H
 obtain ⟨⟨t601, t602, t603⟩, A50, H⟩ := H
 replace H : (if t603 = 0 then (if a1 < 1 then (corebanklaw02_RoundingMirrors.j0 k a1 a2 true a0_0 a0_1 t601 t602) else ((corebankref02_Valid.f a2).bind fun t605 => (corebanklaw02_RoundingMirrors.j0 k a1 a2 (!t605) a0_0 a0_1 t601 t602))) else (corebanklaw02_RoundingMirrors.j0 k a1 a2 true a0_0 a0_1 t601 t602)) = some r := H
 have A5 := Aside0.mk A50
 clear A50
 have HC6 := Aside0.mk H
 clear H
 go_enter Tryd.func10, Tryd.ntmps10
 try go_wp2_with (first | ((with_reducible refine gate_dst (N := 3) rfl ?_); refine be_ (N := 3) (cs := #[.int .i64 a0_0, .int .u64 a0_1]) (t := 24) ?_; intro gb598 hg w7 hbox hb; have n0_ := Aside0.mk (below_step (qb_ HB.out) hb); have n1_ := Aside0.mk (hbox); have n2_ := Aside0.mk (bz_ hg (qb_ HB.out) : w.heap.size ≤ gb598); have n3_ := n2_; clear HB; have HB := n0_; have BK598 := n1_; have GW598 := n2_; have GE598 := n3_; clear n0_ n1_ n2_ n3_; clear hb hbox hg))
 have n0_ := Aside0.mk (blk_drew BK598.out)
 have n1_ := Aside0.mk (below_drew1 HB.out)
 clear BK598
 clear HB
 have BK598 := n0_
 have HB := n1_
 clear n0_ n1_
 refine start_ (n := 9) (S := fun w' => w'.cell? ⟨gb598, 0, none⟩ = some (.int .i64 a0_0) ∧ w'.cell? ⟨gb598, 1, none⟩ = some (.int .u64 a0_1)) (ds := []) (nb_ 9 0) (by kernel_rfl) rfl rfl ⟨(blk_cell BK598.out 0).trans rfl, (blk_cell BK598.out 1).trans rfl⟩ (fun hHeld => ?_); refine with_tabW corebanklaw02_RoundingMirrors.tab1 corebanklaw02_RoundingMirrors.bits1 (fun HT_ HW_ => ?_)
 generalize w7.drew = w8 at BK598 HB hHeld ⊢
 refine tk2_ 1 16 (nb_ 9 2) HT_.out HW_.out hHeld ?_
 refine join_ (σ := Nat) 2 (nb_ 9 127) (fun s_ => [(15, .agg #[.int .i64 t599, .int .u64 t600]), (17, .tuple #[.agg #[.int .i64 t601, .int .u64 t602], .int .i64 t603]), (7, .pointer (some ⟨s_, 0, none⟩)), (14, .tuple #[.agg #[.int .i64 t601, .int .u64 t602], .int .i64 t603]), (18, .agg #[.int .i64 t601, .int .u64 t602]), (19, .int .i64 t603)]) (fun s_ w' => (w'.cell? ⟨gb598, 0, none⟩ = some (.int .i64 a0_0) ∧ w'.cell? ⟨gb598, 1, none⟩ = some (.int .u64 a0_1)) ∧ (w'.heap[gb598]? = some (.cells #[.int .i64 a0_0, .int .u64 a0_1] 24 (0, 0))) ∧ (w'.heap[s_]? = some (.cells #[.int .i64 0, .int .u64 0] 24 (0, 0))) ∧ (w.heap.size ≤ s_) ∧ (w.heap.size ≤ s_) ∧ (gb598 ≠ s_) ∧ (s_ ≠ gb598) ∧ (Below w.heap.size w w')) ?_ ?_
 rotate_left
 ·intro hCont
  refine two_ (i := 0) (j := 6) (Ni := some 15) (Nj := some 7) (nb_ 9 3) (nb_ 9 66) rfl rfl rfl rfl (two_of HT_.out (by kernel_rfl)) (by decide) (by decide) (fun K hK => ?_) (fun K hK => ?_)
  ·skip
   refine goes_ Tryd.func21 (by kernel_rfl) rfl #[.int .i64 0] (by rfl) rfl rfl ql_ ?_
   with_reducible refine (corebankref01_Of.calls 0 t599 t600 _ A4.out).mono ?_
   rintro e w9 ⟨rfl, hb⟩
   refine ⟨_, rfl, ?_⟩
   have n0_ := Aside0.mk (blk_below (qk_ BK598.out) hb)
   have n1_ := Aside0.mk (below_step (qb1_ GE598.out HB.out) hb)
   clear BK598
   clear HB
   have BK598 := n0_
   have HB := n1_
   clear n0_ n1_
   (try clear hb)
   (try clear hb2)
   (try clear hk)
   (try clear hi)
   refine hK.out _ _ ⟨(blk_cell BK598.out 0).trans rfl, (blk_cell BK598.out 1).trans rfl⟩ (fun hHeld => ?_)
   clear hK K
   refine no_ ?_
   refine two_ (i := 2) (j := 6) (Ni := some 17) (Nj := some 7) (nb_ 9 7) (nb_ 9 67) rfl rfl rfl rfl (two_of HT_.out (by kernel_rfl)) (by decide) (by decide) (fun K hK => ?_) (fun K hK => ?_)
   ·skip
    refine goes_ Tryd.func28 (by kernel_rfl) rfl #[.agg #[.int .i64 t599, .int .u64 t600], .agg #[.int .i64 a0_0, .int .u64 a0_1]] (by rfl) rfl rfl ql_ ?_
    with_reducible refine (corebankref01_Sub.calls t599 t600 a0_0 a0_1 t601 t602 t603 _ A5.out).mono ?_
    rintro e w10 ⟨rfl, hb⟩
    refine ⟨_, rfl, ?_⟩
    have n0_ := Aside0.mk (blk_below (qk_ BK598.out) hb)
    have n1_ := Aside0.mk (below_step (qb1_ GE598.out HB.out) hb)
    clear BK598
    clear HB
    have BK598 := n0_
    have HB := n1_
    clear n0_ n1_
    (try clear hb)
    (try clear hb2)
    (try clear hk)
    (try clear hi)
    refine hK.out _ _ ⟨(blk_cell BK598.out 0).trans rfl, (blk_cell BK598.out 1).trans rfl⟩ (fun hHeld => ?_)
    clear hK K
    refine no_ ?_
    refine pz_ 3 14 (nb_ 9 15) HT_.out ?_
    refine pz_ 4 18 (nb_ 9 31) HT_.out ?_
    refine pz_ 5 19 (nb_ 9 63) HT_.out ?_
    refine on_ 6 7 (nb_ 9 127) HT_.out (fun K hK => ?_)
    refine box_step ?hg (N := 7) ?hd (cs := #[.int .i64 0, .int .u64 0]) (t := 24) ?hr ?_; (case hd => rfl); (case hg => rfl); (case hr => first | (go_simp; done) | (go_simp; rfl))
    intro gb604 hg w11 hbox hb
    have n0_ := Aside0.mk (blk_below (qk_ BK598.out) hb)
    have n1_ := Aside0.mk (below_step (qb1_ GE598.out HB.out) hb)
    have n2_ := Aside0.mk (hbox)
    have n3_ := Aside0.mk (bz_ hg (qb1_ GE598.out HB.out) : w.heap.size ≤ gb604)
    have n4_ := Aside0.mk (bz_ hg (qb1_ GE598.out HB.out) : w.heap.size ≤ gb604)
    have n5_ := Aside0.mk (nl_ hg (qk_ BK598.out) : gb598 ≠ gb604)
    have n6_ := Aside0.mk (ng_ hg (qk_ BK598.out) : gb604 ≠ gb598)
    clear BK598
    clear HB
    have BK598 := n0_
    have HB := n1_
    have BK604 := n2_
    have GW604 := n3_
    have GE604 := n4_
    have NB598_604 := n5_
    have NB604_598 := n6_
    clear n0_ n1_ n2_ n3_ n4_ n5_ n6_
    clear hb hbox hg
    refine hK.out _ _ ⟨(blk_cell BK598.out 0).trans rfl, (blk_cell BK598.out 1).trans rfl⟩ (fun hHeld => ?_)
    clear hK K
    refine no_ ?_
    exact norm_ (by simp only [putAll, Act.put, List.setIfInBounds_toArray, List.set_cons_zero, List.set_cons_succ]) (hCont (gb604) _ ⟨hHeld, (qk_ BK598.out), (qk_ BK604.out), GW604.out, GE604.out, NB598_604.out, NB604_598.out, (qb2_ GE598.out GE604.out HB.out)⟩)
   ·skip
    refine box_step ?hg (N := 7) ?hd (cs := #[.int .i64 0, .int .u64 0]) (t := 24) ?hr ?_; (case hd => rfl); (case hg => rfl); (case hr => first | (go_simp; done) | (go_simp; rfl))
    intro gb604 hg w10 hbox hb
    have n0_ := Aside0.mk (blk_below (qk_ BK598.out) hb)
    have n1_ := Aside0.mk (below_step (qb1_ GE598.out HB.out) hb)
    have n2_ := Aside0.mk (hbox)
    have n3_ := Aside0.mk (bz_ hg (qb1_ GE598.out HB.out) : w.heap.size ≤ gb604)
    have n4_ := Aside0.mk (bz_ hg (qb1_ GE598.out HB.out) : w.heap.size ≤ gb604)
    have n5_ := Aside0.mk (nl_ hg (qk_ BK598.out) : gb598 ≠ gb604)
    have n6_ := Aside0.mk (ng_ hg (qk_ BK598.out) : gb604 ≠ gb598)
    clear BK598
    clear HB
    have BK598 := n0_
    have HB := n1_
    have BK604 := n2_
    have GW604 := n3_
    have GE604 := n4_
    have NB598_604 := n5_
    have NB604_598 := n6_
    clear n0_ n1_ n2_ n3_ n4_ n5_ n6_
    clear hb hbox hg
    refine hK.out _ _ ⟨(blk_cell BK598.out 0).trans rfl, (blk_cell BK598.out 1).trans rfl⟩ (fun hHeld => ?_)
    clear hK K
    refine no_ ?_
    refine on_ 2 17 (nb_ 9 71) HT_.out (fun K hK => ?_)
    refine goes_ Tryd.func28 (by kernel_rfl) rfl #[.agg #[.int .i64 t599, .int .u64 t600], .agg #[.int .i64 a0_0, .int .u64 a0_1]] (by rfl) rfl rfl ql_ ?_
    with_reducible refine (corebankref01_Sub.calls t599 t600 a0_0 a0_1 t601 t602 t603 _ A5.out).mono ?_
    rintro e w11 ⟨rfl, hb⟩
    refine ⟨_, rfl, ?_⟩
    have n0_ := Aside0.mk (blk_below (qk_ BK598.out) hb)
    have n1_ := Aside0.mk (blk_below (qk_ BK604.out) hb)
    have n2_ := Aside0.mk (below_step (qb2_ GE598.out GE604.out HB.out) hb)
    clear BK598
    clear BK604
    clear HB
    have BK598 := n0_
    have BK604 := n1_
    have HB := n2_
    clear n0_ n1_ n2_
    (try clear hb)
    (try clear hb2)
    (try clear hk)
    (try clear hi)
    refine hK.out _ _ ⟨(blk_cell BK598.out 0).trans rfl, (blk_cell BK598.out 1).trans rfl⟩ (fun hHeld => ?_)
    clear hK K
    refine no_ ?_
    refine pz_ 3 14 (nb_ 9 79) HT_.out ?_
    refine pz_ 4 18 (nb_ 9 95) HT_.out ?_
    refine pz_ 5 19 (nb_ 9 127) HT_.out ?_
    exact norm_ (by simp only [putAll, Act.put, List.setIfInBounds_toArray, List.set_cons_zero, List.set_cons_succ]) (hCont (gb604) _ ⟨hHeld, (qk_ BK598.out), (qk_ BK604.out), GW604.out, GE604.out, NB598_604.out, NB604_598.out, (qb2_ GE598.out GE604.out HB.out)⟩)
  ·skip
   refine box_step ?hg (N := 7) ?hd (cs := #[.int .i64 0, .int .u64 0]) (t := 24) ?hr ?_; (case hd => rfl); (case hg => rfl); (case hr => first | (go_simp; done) | (go_simp; rfl))
   intro gb604 hg w9 hbox hb
   have n0_ := Aside0.mk (blk_below (qk_ BK598.out) hb)
   have n1_ := Aside0.mk (below_step (qb1_ GE598.out HB.out) hb)
   have n2_ := Aside0.mk (hbox)
   have n3_ := Aside0.mk (bz_ hg (qb1_ GE598.out HB.out) : w.heap.size ≤ gb604)
   have n4_ := Aside0.mk (bz_ hg (qb1_ GE598.out HB.out) : w.heap.size ≤ gb604)
   have n5_ := Aside0.mk (nl_ hg (qk_ BK598.out) : gb598 ≠ gb604)
   have n6_ := Aside0.mk (ng_ hg (qk_ BK598.out) : gb604 ≠ gb598)
   clear BK598
   clear HB
   have BK598 := n0_
   have HB := n1_
   have BK604 := n2_
   have GW604 := n3_
   have GE604 := n4_
   have NB598_604 := n5_
   have NB604_598 := n6_
   clear n0_ n1_ n2_ n3_ n4_ n5_ n6_
   clear hb hbox hg
   refine hK.out _ _ ⟨(blk_cell BK598.out 0).trans rfl, (blk_cell BK598.out 1).trans rfl⟩ (fun hHeld => ?_)
   clear hK K
   refine no_ ?_
   refine on_ 0 15 (nb_ 9 67) HT_.out (fun K hK => ?_)
   refine goes_ Tryd.func21 (by kernel_rfl) rfl #[.int .i64 0] (by rfl) rfl rfl ql_ ?_
   with_reducible refine (corebankref01_Of.calls 0 t599 t600 _ A4.out).mono ?_
   rintro e w10 ⟨rfl, hb⟩
   refine ⟨_, rfl, ?_⟩
   have n0_ := Aside0.mk (blk_below (qk_ BK598.out) hb)
   have n1_ := Aside0.mk (blk_below (qk_ BK604.out) hb)
   have n2_ := Aside0.mk (below_step (qb2_ GE598.out GE604.out HB.out) hb)
   clear BK598
   clear BK604
   clear HB
   have BK598 := n0_
   have BK604 := n1_
   have HB := n2_
   clear n0_ n1_ n2_
   (try clear hb)
   (try clear hb2)
   (try clear hk)
   (try clear hi)
   refine hK.out _ _ ⟨(blk_cell BK598.out 0).trans rfl, (blk_cell BK598.out 1).trans rfl⟩ (fun hHeld => ?_)
   clear hK K
   refine no_ ?_
   refine on_ 2 17 (nb_ 9 71) HT_.out (fun K hK => ?_)
   refine goes_ Tryd.func28 (by kernel_rfl) rfl #[.agg #[.int .i64 t599, .int .u64 t600], .agg #[.int .i64 a0_0, .int .u64 a0_1]] (by rfl) rfl rfl ql_ ?_
   with_reducible refine (corebankref01_Sub.calls t599 t600 a0_0 a0_1 t601 t602 t603 _ A5.out).mono ?_
   rintro e w11 ⟨rfl, hb⟩
   refine ⟨_, rfl, ?_⟩
   have n0_ := Aside0.mk (blk_below (qk_ BK598.out) hb)
   have n1_ := Aside0.mk (blk_below (qk_ BK604.out) hb)
   have n2_ := Aside0.mk (below_step (qb2_ GE598.out GE604.out HB.out) hb)
   clear BK598
   clear BK604
   clear HB
   have BK598 := n0_
   have BK604 := n1_
   have HB := n2_
   clear n0_ n1_ n2_
   (try clear hb)
   (try clear hb2)
   (try clear hk)
   (try clear hi)
   refine hK.out _ _ ⟨(blk_cell BK598.out 0).trans rfl, (blk_cell BK598.out 1).trans rfl⟩ (fun hHeld => ?_)
   clear hK K
   refine no_ ?_
   refine pz_ 3 14 (nb_ 9 79) HT_.out ?_
   refine pz_ 4 18 (nb_ 9 95) HT_.out ?_
   refine pz_ 5 19 (nb_ 9 127) HT_.out ?_
   exact norm_ (by simp only [putAll, Act.put, List.setIfInBounds_toArray, List.set_cons_zero, List.set_cons_succ]) (hCont (gb604) _ ⟨hHeld, (qk_ BK598.out), (qk_ BK604.out), GW604.out, GE604.out, NB598_604.out, NB604_598.out, (qb2_ GE598.out GE604.out HB.out)⟩)
 rintro gb604 w12 ⟨hS_, h0_, h1_, h2_, h3_, h4_, h5_, h6_⟩
 have n0_ : Aside0 (w12.heap[gb598]? = some (.cells #[.int .i64 a0_0, .int .u64 a0_1] 24 (0, 0))) := ⟨h0_⟩
 have n1_ : Aside0 (w12.heap[gb604]? = some (.cells #[.int .i64 0, .int .u64 0] 24 (0, 0))) := ⟨h1_⟩
 have n2_ : Aside0 (w.heap.size ≤ gb604) := ⟨h2_⟩
 have n3_ : Aside0 (w.heap.size ≤ gb604) := ⟨h3_⟩
 have n4_ : Aside0 (gb598 ≠ gb604) := ⟨h4_⟩
 have n5_ : Aside0 (gb604 ≠ gb598) := ⟨h5_⟩
 have n6_ : Aside0 (Below w.heap.size w w12) := ⟨h6_⟩
 clear BK598
 clear HB
 clear h0_ h1_ h2_ h3_ h4_ h5_ h6_
 have BK598 := n0_
 have BK604 := n1_
 have GW604 := n2_
 have GE604 := n3_
 have NB598_604 := n4_
 have NB604_598 := n5_
 have HB := n6_
 clear n0_ n1_ n2_ n3_ n4_ n5_ n6_
 have hHeld : w12.cell? ⟨gb598, 0, none⟩ = some (.int .i64 a0_0) ∧ w12.cell? ⟨gb598, 1, none⟩ = some (.int .u64 a0_1) := hS_
 refine norm_ (a' := ?_) ?_ ?_
 rotate_left
 ·simp only [putAll, Act.put, List.setIfInBounds_toArray, List.set_cons_zero, List.set_cons_succ]
  rfl
 refine one_ (i := 7) (N := none) (nb_ 9 255) rfl rfl (one_of HT_.out (by kernel_rfl)) (by decide) (fun K hK => ?_)
 have hs13 : w12.cell? ⟨gb604, 0, none⟩ = some (.int .i64 0) := (blk_cell BK604.out 0).trans rfl
 have hfs13 := blk_frozen BK604.out 0
 have hns13_0 := NB598_604.out
 have hms13_0 := NB604_598.out
 have hs14 : w12.cell? ⟨gb604, 1, none⟩ = some (.int .u64 0) := (blk_cell BK604.out 1).trans rfl
 have hfs14 := blk_frozen BK604.out 1
 have hns14_0 := NB598_604.out
 have hms14_0 := NB604_598.out
 refine skip_ (w1 := ?_) (by rfl) rfl ?_ ?_
 rotate_left
 ·go_simp
  rfl
 refine hK.out _ _ ⟨((cell_far (p := ⟨gb604, _, none⟩) NB598_604.out _).trans (((cell_far (p := ⟨gb604, _, none⟩) NB598_604.out _).trans (hHeld.1)))), ((cell_far (p := ⟨gb604, _, none⟩) NB598_604.out _).trans (((cell_far (p := ⟨gb604, _, none⟩) NB598_604.out _).trans (hHeld.2))))⟩ (fun hHeld => ?_)
 clear hK K
 refine pz_ 8 8 (nb_ 9 511) HT_.out ?_
 refine done_ (done_of HT_.out (by kernel_rfl)) ?_
 go_upto_region 2 with (fail)
 go_cut [30] (fun v30 wc => ∃ (kq : Nat) (x30_5 : Bool), v30 = .bool x30_5 ∧ Aside0 (corebanklaw02_RoundingMirrors.j0 kq a1 a2 x30_5 a0_0 a0_1 t601 t602 = some r) ∧ Aside0 (kq ≤ k) ∧ Aside0 (wc.heap[gb598]? = some (.cells #[.int .i64 a0_0, .int .u64 a0_1] 24 (0, 0))) ∧ Aside0 (wc.heap[gb604]? = some (.cells #[.int .i64 t601, .int .u64 t602] 24 (0, 0))) ∧ Aside0 (Below w.heap.size w wc))
 case first =>
  have H := HC6.out
  clear HC6
  by_cases c15 : t603 = 0
  ·rw [if_pos c15] at H
   have c15b0 : (t603 == 0) = true := beq_iff_eq.mpr c15
   have c15b1 : (t603 != 0) = false := bne_eq_false_iff_eq.mpr c15
   clear c15
   (first | rw [c15b0] | (simp only [i64_w, i32_w]; rw [c15b0]) | skip)
   by_cases c16 : a1 < 1
   ·rw [if_pos c16] at H
    have c16b0 : decide (a1 < 1) = true := decide_eq_true c16
    clear c16
    have H' := Aside0.mk H
    clear H
    go_wp2
    go_meet
    case rel => exact ⟨_, (true), qs_, H', ⟨qo_⟩, ⟨qff_ NB598_604.out NB598_604.out BK598.out⟩, ⟨qpp_ #[.int .i64 t601, .int .u64 0] 1 #[.int .i64 0, .int .u64 0] 0 BK604.out⟩, ⟨qb2_ GE598.out GE604.out HB.out⟩⟩
   ·rw [if_neg c16] at H
    have c16b0 : decide (a1 < 1) = false := decide_eq_false c16
    clear c16
    replace H := Option.bind_eq_some_iff.mp H
    obtain ⟨t605, A170, H⟩ := H
    replace H : (corebanklaw02_RoundingMirrors.j0 k a1 a2 (!t605) a0_0 a0_1 t601 t602) = some r := H
    have A17 := Aside0.mk A170
    clear A170
    have H' := Aside0.mk H
    clear H
    go_wp2_with (first | (go_at_call 14; (with_reducible refine (corebankref02_Valid.calls a2 t605 _ A17.out).mono ?_); rintro e w' ⟨rfl, ⟨nd, rfl⟩⟩))
    go_meet
    case rel => exact ⟨_, (!t605), qs_, H', ⟨qo_⟩, ⟨qff_ NB598_604.out NB598_604.out BK598.out⟩, ⟨qpp_ #[.int .i64 t601, .int .u64 0] 1 #[.int .i64 0, .int .u64 0] 0 BK604.out⟩, ⟨qb2_ GE598.out GE604.out HB.out⟩⟩
  ·rw [if_neg c15] at H
   have c15b0 : (t603 == 0) = false := beq_eq_false_iff_ne.mpr c15
   have c15b1 : (t603 != 0) = true := bne_iff_ne.mpr c15
   (first | rw [c15b0] | (simp only [i64_w, i32_w]; rw [c15b0]) | skip)
   have H' := Aside0.mk H
   clear H
   go_wp2
   go_meet
   case rel => exact ⟨_, (true), qs_, H', ⟨qo_⟩, ⟨qff_ NB598_604.out NB598_604.out BK598.out⟩, ⟨qpp_ #[.int .i64 t601, .int .u64 0] 1 #[.int .i64 0, .int .u64 0] 0 BK604.out⟩, ⟨qb2_ GE598.out GE604.out HB.out⟩⟩
 case rest =>
  clear HC6
  try clear c1
  try clear c2
  try clear p2
  try clear c10
  try clear c15
  try clear c15b0
  try clear c15b1
  try clear c16
  try clear c16b0
  obtain ⟨kq, x30_5, rfl, HA, HJ5, BK598, BK604, HB⟩ := hcut
  cases kq with
  | zero => exact absurd HA.out (by simp [corebanklaw02_RoundingMirrors.j0])
  | succ kj5 =>
   have H := HA.out
   clear HA
   simp only [corebanklaw02_RoundingMirrors.j0] at H
   by_cases c18 : x30_5 = true
   ·subst c18
    have H1 : ((corebanklaw02_live.f).bind fun t606 => (some t606)) = some r := by rw [if_pos rfl] at H; exact H
    clear H
    have H := H1
    clear H1
    replace H := Option.bind_eq_some_iff.mp H
    obtain ⟨t606, A190, H⟩ := H
    replace H : (some t606) = some r := H
    have A19 := Aside0.mk A190
    clear A190
    obtain rfl := Option.some.inj H
    go_wp2_with (first | ((with_reducible refine gate_callee (f := 15) rfl ?_); refine goesL_ (some 31) rfl rfl Tryd.func15 (by kernel_rfl) rfl #[] rfl ql_ ?_; (with_reducible refine (corebanklaw02_live.calls (hG := by first | exact hG | (with_reducible exact GW.below hG (qb2_ GE598.out GE604.out HB.out)) | (with_reducible repeat (first | exact hG | apply GW.drewN | apply GW.drew)))  t606 _ A19.out).mono ?_); rintro e w20 ⟨rfl, hb⟩; refine ⟨_, rfl, ?_⟩; have n0_ := Aside0.mk (blk_below (qk_ BK598.out) hb); have n1_ := Aside0.mk (blk_below (qk_ BK604.out) hb); have n2_ := Aside0.mk (below_step (qb2_ GE598.out GE604.out HB.out) hb); clear BK598; clear BK604; clear HB; have BK598 := n0_; have BK604 := n1_; have HB := n2_; clear n0_ n1_ n2_; (try clear hb); (try clear hb2); (try clear hk); (try clear hi)))
    go_ret
    exact ⟨qe_, qb2_ GE598.out GE604.out HB.out⟩
   ·replace c18 := Bool.eq_false_iff.mpr c18
    subst c18
    have H1 : (if a2 = 3 then (corebanklaw02_RoundingMirrors.j1 kj5 a1 a2 4 a0_0 a0_1 t601 t602) else (corebanklaw02_RoundingMirrors.j1 kj5 a1 a2 a2 a0_0 a0_1 t601 t602)) = some r := by rw [if_neg (show ¬ (false = true) by decide)] at H; exact H
    clear H
    have H := H1
    clear H1
    have HC21 := Aside0.mk H
    clear H
    go_upto_if 34 with (fail)
    go_cut [9] (fun v9 wc => ∃ (kq : Nat) (x9_20 : Int), v9 = .int .i64 x9_20 ∧ Aside0 (corebanklaw02_RoundingMirrors.j1 kq a1 a2 x9_20 a0_0 a0_1 t601 t602 = some r) ∧ Aside0 (kq ≤ kj5) ∧ Aside0 (wc.heap[gb598]? = some (.cells #[.int .i64 a0_0, .int .u64 a0_1] 24 (0, 0))) ∧ Aside0 (wc.heap[gb604]? = some (.cells #[.int .i64 t601, .int .u64 t602] 24 (0, 0))) ∧ Aside0 (Below w.heap.size w wc))
    case first =>
     have H := HC21.out
     clear HC21
     by_cases c22 : a2 = 3
     ·rw [if_pos c22] at H
      have c22b0 : (a2 == 3) = true := beq_iff_eq.mpr c22
      have c22b1 : (a2 != 3) = false := bne_eq_false_iff_eq.mpr c22
      clear c22
      (first | rw [c22b0] | (simp only [i64_w, i32_w]; rw [c22b0]) | skip)
      have H' := Aside0.mk H
      clear H
      go_wp2
      go_meet
      case rel => exact ⟨_, (4), qs_, H', ⟨by have := HJ5.out; first | omega | exact Nat.le_refl _⟩, ⟨qk_ BK598.out⟩, ⟨qk_ BK604.out⟩, ⟨qb2_ GE598.out GE604.out HB.out⟩⟩
     ·rw [if_neg c22] at H
      have c22b0 : (a2 == 3) = false := beq_eq_false_iff_ne.mpr c22
      have c22b1 : (a2 != 3) = true := bne_iff_ne.mpr c22
      (first | rw [c22b0] | (simp only [i64_w, i32_w]; rw [c22b0]) | skip)
      have H' := Aside0.mk H
      clear H
      go_wp2
      go_meet
      case rel => exact ⟨_, (a2), qs_, H', ⟨by have := HJ5.out; first | omega | exact Nat.le_refl _⟩, ⟨qk_ BK598.out⟩, ⟨qk_ BK604.out⟩, ⟨qb2_ GE598.out GE604.out HB.out⟩⟩
    case rest =>
     clear HC21
     try clear c1
     try clear c2
     try clear p2
     try clear c10
     try clear c15
     try clear c15b0
     try clear c15b1
     try clear c16
     try clear c16b0
     try clear c18
     try clear c21
     try clear c22
     try clear c22b0
     try clear c22b1
     try clear p2
     obtain ⟨kq, x9_20, rfl, HA, HJ20, BK598, BK604, HB⟩ := hcut
     cases kq with
     | zero => exact absurd HA.out (by simp [corebanklaw02_RoundingMirrors.j1])
     | succ kj20 =>
      have H := HA.out
      clear HA
      simp only [corebanklaw02_RoundingMirrors.j1] at H
      have HC23 := Aside0.mk H
      clear H
      go_upto_if 36 with (fail)
      go_cut [9] (fun v9 wc => ∃ (kq : Nat) (x9_22 : Int), v9 = .int .i64 x9_22 ∧ Aside0 (corebanklaw02_RoundingMirrors.j2 kq a1 a2 x9_22 a0_0 a0_1 t601 t602 = some r) ∧ Aside0 (kq ≤ kj20) ∧ Aside0 (wc.heap[gb598]? = some (.cells #[.int .i64 a0_0, .int .u64 a0_1] 24 (0, 0))) ∧ Aside0 (wc.heap[gb604]? = some (.cells #[.int .i64 t601, .int .u64 t602] 24 (0, 0))) ∧ Aside0 (Below w.heap.size w wc))
      case first =>
       have H := HC23.out
       clear HC23
       by_cases c24 : a2 = 4
       ·rw [if_pos c24] at H
        have c24b0 : (a2 == 4) = true := beq_iff_eq.mpr c24
        have c24b1 : (a2 != 4) = false := bne_eq_false_iff_eq.mpr c24
        clear c24
        (first | rw [c24b0] | (simp only [i64_w, i32_w]; rw [c24b0]) | skip)
        have H' := Aside0.mk H
        clear H
        go_wp2
        go_meet
        case rel => exact ⟨_, (3), qs_, H', ⟨by have := HJ5.out; have := HJ20.out; first | omega | exact Nat.le_refl _⟩, ⟨qk_ BK598.out⟩, ⟨qk_ BK604.out⟩, ⟨qb2_ GE598.out GE604.out HB.out⟩⟩
       ·rw [if_neg c24] at H
        have c24b0 : (a2 == 4) = false := beq_eq_false_iff_ne.mpr c24
        have c24b1 : (a2 != 4) = true := bne_iff_ne.mpr c24
        (first | rw [c24b0] | (simp only [i64_w, i32_w]; rw [c24b0]) | skip)
        have H' := Aside0.mk H
        clear H
        go_wp2
        go_meet
        case rel => exact ⟨_, (x9_20), qs_, H', ⟨by have := HJ5.out; have := HJ20.out; first | omega | exact Nat.le_refl _⟩, ⟨qk_ BK598.out⟩, ⟨qk_ BK604.out⟩, ⟨qb2_ GE598.out GE604.out HB.out⟩⟩
      case rest =>
       clear HC23
       try clear c1
       try clear c2
       try clear p2
       try clear c10
       try clear c15
       try clear c15b0
       try clear c15b1
       try clear c16
       try clear c16b0
       try clear c18
       try clear c21
       try clear c22
       try clear c22b0
       try clear c22b1
       try clear c24
       try clear c24b0
       try clear c24b1
       try clear p2
       obtain ⟨kq, x9_22, rfl, HA, HJ22, BK598, BK604, HB⟩ := hcut
       cases kq with
       | zero => exact absurd HA.out (by simp [corebanklaw02_RoundingMirrors.j2])
       | succ kj22 =>
        have H := HA.out
        clear HA
        simp only [corebanklaw02_RoundingMirrors.j2] at H
        replace H := Option.bind_eq_some_iff.mp H
        obtain ⟨⟨t607, t608⟩, A250, H⟩ := H
        replace H : ((rounding_Divide.f t601 t602 a1 x9_22).bind fun bt609 => (if t608 = 0 then (corebanklaw02_RoundingMirrors.j3 kj22 t607 t608 bt609.1 bt609.2 (bt609.2 == 0)) else (corebanklaw02_RoundingMirrors.j3 kj22 t607 t608 bt609.1 bt609.2 false))) = some r := H
        have A25 := Aside0.mk A250
        clear A250
        replace H := Option.bind_eq_some_iff.mp H
        obtain ⟨⟨t609, t610⟩, A260, H⟩ := H
        replace H : (if t608 = 0 then (corebanklaw02_RoundingMirrors.j3 kj22 t607 t608 t609 t610 (t610 == 0)) else (corebanklaw02_RoundingMirrors.j3 kj22 t607 t608 t609 t610 false)) = some r := H
        have A26 := Aside0.mk A260
        clear A260
        have HC27 := Aside0.mk H
        clear H
        have hnb28 := NB598_604.out
        have hnc28 := NB604_598.out
        have hcz29_0 : wc.cell? ⟨gb598, 0, none⟩ = some (.int .i64 a0_0) := (blk_cell BK598.out 0).trans rfl
        have hcz29_1 : wc.cell? ⟨gb598, 1, none⟩ = some (.int .u64 a0_1) := (blk_cell BK598.out 1).trans rfl
        have hfz29_0 := blk_frozen BK598.out 0
        have hfz29_1 := blk_frozen BK598.out 1
        go_upto_region 11 with (first | ((with_reducible refine gate_callee (f := 11) rfl ?_); refine goesL_ (some 41) rfl rfl Tryd.func11 (by kernel_rfl) rfl #[.agg #[.int .i64 a0_0, .int .u64 a0_1], .int .i64 a1, .int .i64 a2] rfl ql_ ?_; (with_reducible refine (rounding_Divide.calls (hG := by first | exact hG | (with_reducible exact GW.below hG (qb2_ GE598.out GE604.out HB.out)) | (with_reducible repeat (first | exact hG | apply GW.drewN | apply GW.drew))) a0_0 a0_1 a1 a2 t607 t608 _ A25.out).mono ?_); rintro e w30 ⟨rfl, hb⟩; refine ⟨_, rfl, ?_⟩; have n0_ := Aside0.mk (blk_below (qk_ BK598.out) hb); have n1_ := Aside0.mk (blk_below (qk_ BK604.out) hb); have n2_ := Aside0.mk (below_step (qb2_ GE598.out GE604.out HB.out) hb); clear BK598; clear BK604; clear HB; have BK598 := n0_; have BK604 := n1_; have HB := n2_; clear n0_ n1_ n2_; (try clear hb); (try clear hb2); (try clear hk); (try clear hi); have hcz31_0 : w30.cell? ⟨gb604, 0, none⟩ = some (.int .i64 t601) := (blk_cell BK604.out 0).trans rfl; have hcz31_1 : w30.cell? ⟨gb604, 1, none⟩ = some (.int .u64 t602) := (blk_cell BK604.out 1).trans rfl; have hfz31_0 := blk_frozen BK604.out 0; have hfz31_1 := blk_frozen BK604.out 1) | ((with_reducible refine gate_callee (f := 11) rfl ?_); refine goesL_ (some 48) rfl rfl Tryd.func11 (by kernel_rfl) rfl #[.agg #[.int .i64 t601, .int .u64 t602], .int .i64 a1, .int .i64 x9_22] rfl ql_ ?_; (with_reducible refine (rounding_Divide.calls (hG := by first | exact hG | (with_reducible exact GW.below hG (qb2_ GE598.out GE604.out HB.out)) | (with_reducible repeat (first | exact hG | apply GW.drewN | apply GW.drew))) t601 t602 a1 x9_22 t609 t610 _ A26.out).mono ?_); rintro e w32 ⟨rfl, hb⟩; refine ⟨_, rfl, ?_⟩; have n0_ := Aside0.mk (blk_below (qk_ BK598.out) hb); have n1_ := Aside0.mk (blk_below (qk_ BK604.out) hb); have n2_ := Aside0.mk (below_step (qb2_ GE598.out GE604.out HB.out) hb); clear BK598; clear BK604; clear HB; have BK598 := n0_; have BK604 := n1_; have HB := n2_; clear n0_ n1_ n2_; (try clear hb); (try clear hb2); (try clear hk); (try clear hi)))
        (try simp only [Act.put, List.setIfInBounds_toArray, List.set_cons_zero, List.set_cons_succ])
        go_cut [56] (fun v56 wc => ∃ (kq : Nat) (x56_26 : Bool), v56 = .bool x56_26 ∧ Aside0 (corebanklaw02_RoundingMirrors.j3 kq t607 t608 t609 t610 x56_26 = some r) ∧ Aside0 (kq ≤ kj22) ∧ Aside0 (wc.heap[gb598]? = some (.cells #[.int .i64 a0_0, .int .u64 a0_1] 24 (0, 0))) ∧ Aside0 (wc.heap[gb604]? = some (.cells #[.int .i64 t601, .int .u64 t602] 24 (0, 0))) ∧ Aside0 (Below w.heap.size w wc))
        case first =>
         have H := HC27.out
         clear HC27
         by_cases c33 : t608 = 0
         ·rw [if_pos c33] at H
          have c33b0 : (t608 == 0) = true := beq_iff_eq.mpr c33
          have c33b1 : (t608 != 0) = false := bne_eq_false_iff_eq.mpr c33
          clear c33
          (first | rw [c33b0] | (simp only [i64_w, i32_w]; rw [c33b0]) | skip)
          have H' := Aside0.mk H
          clear H
          go_wp2
          go_meet
          case rel => exact ⟨_, ((t610 == 0)), qs_, H', ⟨by have := HJ5.out; have := HJ20.out; have := HJ22.out; first | omega | exact Nat.le_refl _⟩, ⟨qk_ BK598.out⟩, ⟨qk_ BK604.out⟩, ⟨qb2_ GE598.out GE604.out HB.out⟩⟩
         ·rw [if_neg c33] at H
          have c33b0 : (t608 == 0) = false := beq_eq_false_iff_ne.mpr c33
          have c33b1 : (t608 != 0) = true := bne_iff_ne.mpr c33
          (first | rw [c33b0] | (simp only [i64_w, i32_w]; rw [c33b0]) | skip)
          have H' := Aside0.mk H
          clear H
          go_wp2
          go_meet
          case rel => exact ⟨_, (false), qs_, H', ⟨by have := HJ5.out; have := HJ20.out; have := HJ22.out; first | omega | exact Nat.le_refl _⟩, ⟨qk_ BK598.out⟩, ⟨qk_ BK604.out⟩, ⟨qb2_ GE598.out GE604.out HB.out⟩⟩
        case rest =>
         clear HC27
         try clear c1
         try clear c2
         try clear p2
         try clear c3
         try clear c10
         try clear c11
         try clear c15
         try clear c15b0
         try clear c15b1
         try clear c16
         try clear c16b0
         try clear c18
         try clear c21
         try clear c22
         try clear c22b0
         try clear c22b1
         try clear c24
         try clear c24b0
         try clear c24b1
         try clear c28
         try clear c33
         try clear c33b0
         try clear c33b1
         try clear hcz29_0
         try clear hcz29_1
         try clear hcz31_0
         try clear hcz31_1
         try clear hfz29_0
         try clear hfz29_1
         try clear hfz31_0
         try clear hfz31_1
         try clear p2
         obtain ⟨kq, x56_26, rfl, HA, HJ26, BK598, BK604, HB⟩ := hcut
         cases kq with
         | zero => exact absurd HA.out (by simp [corebanklaw02_RoundingMirrors.j3])
         | succ kj26 =>
          have H := HA.out
          clear HA
          simp only [corebanklaw02_RoundingMirrors.j3] at H
          by_cases c34 : x56_26 = true
          ·subst c34
           have H1 : (if t607 = (wrap64 (-t609)) then ((corebanklaw02_live.f).bind fun t611 => (some t611)) else (some false)) = some r := by rw [if_pos rfl] at H; exact H
           clear H
           have H := H1
           clear H1
           by_cases c35 : t607 = (wrap64 (-t609))
           ·rw [if_pos c35] at H
            have c35b0 : (t607 == (wrap64 (-t609))) = true := beq_iff_eq.mpr c35
            have c35b1 : (t607 != (wrap64 (-t609))) = false := bne_eq_false_iff_eq.mpr c35
            clear c35
            replace H := Option.bind_eq_some_iff.mp H
            obtain ⟨t611, A360, H⟩ := H
            replace H : (some t611) = some r := H
            have A36 := Aside0.mk A360
            clear A360
            obtain rfl := Option.some.inj H
            go_wp2_with (first | (go_at_call 15; (with_reducible refine (corebanklaw02_live.calls (hG := by first | exact hG | (with_reducible exact GW.below hG (qb2_ GE598.out GE604.out HB.out)) | (with_reducible repeat (first | exact hG | apply GW.drewN | apply GW.drew)))  t611 _ A36.out).mono ?_); rintro e w37 ⟨rfl, hb⟩; have n0_ := Aside0.mk (blk_below (qk_ BK598.out) hb); have n1_ := Aside0.mk (blk_below (qk_ BK604.out) hb); have n2_ := Aside0.mk (below_step (qb2_ GE598.out GE604.out HB.out) hb); clear BK598; clear BK604; clear HB; have BK598 := n0_; have BK604 := n1_; have HB := n2_; clear n0_ n1_ n2_; (try clear hb); (try clear hb2); (try clear hk); (try clear hi)))
            go_ret
            exact ⟨qe_, qb2_ GE598.out GE604.out HB.out⟩
           ·rw [if_neg c35] at H
            have c35b0 : (t607 == (wrap64 (-t609))) = false := beq_eq_false_iff_ne.mpr c35
            have c35b1 : (t607 != (wrap64 (-t609))) = true := bne_iff_ne.mpr c35
            obtain rfl := Option.some.inj H
            go_wp2
            go_ret
            exact ⟨qe_, qb2_ GE598.out GE604.out HB.out⟩
          ·replace c34 := Bool.eq_false_iff.mpr c34
           subst c34
           have H1 : (if t608 = t610 then ((corebanklaw02_live.f).bind fun t612 => (some t612)) else (if t608 = 0 then (if t607 = (-9223372036854775808) then ((corebanklaw02_live.f).bind fun t613 => (some t613)) else (if t610 = 0 then (if t609 = (-9223372036854775808) then ((corebanklaw02_live.f).bind fun t614 => (some t614)) else (some false)) else (some false))) else (if t610 = 0 then (if t609 = (-9223372036854775808) then ((corebanklaw02_live.f).bind fun t615 => (some t615)) else (some false)) else (some false)))) = some r := by rw [if_neg (show ¬ (false = true) by decide)] at H; exact H
           clear H
           have H := H1
           clear H1
           by_cases c38 : t608 = t610
           ·rw [if_pos c38] at H
            have c38b0 : (t608 == t610) = true := beq_iff_eq.mpr c38
            have c38b1 : (t608 != t610) = false := bne_eq_false_iff_eq.mpr c38
            clear c38
            replace H := Option.bind_eq_some_iff.mp H
            obtain ⟨t612, A390, H⟩ := H
            replace H : (some t612) = some r := H
            have A39 := Aside0.mk A390
            clear A390
            obtain rfl := Option.some.inj H
            go_wp2_with (first | (go_at_call 15; (with_reducible refine (corebanklaw02_live.calls (hG := by first | exact hG | (with_reducible exact GW.below hG (qb2_ GE598.out GE604.out HB.out)) | (with_reducible repeat (first | exact hG | apply GW.drewN | apply GW.drew)))  t612 _ A39.out).mono ?_); rintro e w40 ⟨rfl, hb⟩; have n0_ := Aside0.mk (blk_below (qk_ BK598.out) hb); have n1_ := Aside0.mk (blk_below (qk_ BK604.out) hb); have n2_ := Aside0.mk (below_step (qb2_ GE598.out GE604.out HB.out) hb); clear BK598; clear BK604; clear HB; have BK598 := n0_; have BK604 := n1_; have HB := n2_; clear n0_ n1_ n2_; (try clear hb); (try clear hb2); (try clear hk); (try clear hi)))
            go_ret
            exact ⟨qe_, qb2_ GE598.out GE604.out HB.out⟩
           ·rw [if_neg c38] at H
            have c38b0 : (t608 == t610) = false := beq_eq_false_iff_ne.mpr c38
            have c38b1 : (t608 != t610) = true := bne_iff_ne.mpr c38
            by_cases c41 : t608 = 0
            ·rw [if_pos c41] at H
             have c41b0 : (t608 == 0) = true := beq_iff_eq.mpr c41
             have c41b1 : (t608 != 0) = false := bne_eq_false_iff_eq.mpr c41
             clear c41
             by_cases c42 : t607 = (-9223372036854775808)
             ·rw [if_pos c42] at H
              have c42b0 : (t607 == (-9223372036854775808)) = true := beq_iff_eq.mpr c42
              have c42b1 : (t607 != (-9223372036854775808)) = false := bne_eq_false_iff_eq.mpr c42
              clear c42
              replace H := Option.bind_eq_some_iff.mp H
              obtain ⟨t613, A430, H⟩ := H
              replace H : (some t613) = some r := H
              have A43 := Aside0.mk A430
              clear A430
              obtain rfl := Option.some.inj H
              go_wp2_with (first | (go_at_call 15; (with_reducible refine (corebanklaw02_live.calls (hG := by first | exact hG | (with_reducible exact GW.below hG (qb2_ GE598.out GE604.out HB.out)) | (with_reducible repeat (first | exact hG | apply GW.drewN | apply GW.drew)))  t613 _ A43.out).mono ?_); rintro e w44 ⟨rfl, hb⟩; have n0_ := Aside0.mk (blk_below (qk_ BK598.out) hb); have n1_ := Aside0.mk (blk_below (qk_ BK604.out) hb); have n2_ := Aside0.mk (below_step (qb2_ GE598.out GE604.out HB.out) hb); clear BK598; clear BK604; clear HB; have BK598 := n0_; have BK604 := n1_; have HB := n2_; clear n0_ n1_ n2_; (try clear hb); (try clear hb2); (try clear hk); (try clear hi)))
              go_ret
              exact ⟨qe_, qb2_ GE598.out GE604.out HB.out⟩
             ·rw [if_neg c42] at H
              have c42b0 : (t607 == (-9223372036854775808)) = false := beq_eq_false_iff_ne.mpr c42
              have c42b1 : (t607 != (-9223372036854775808)) = true := bne_iff_ne.mpr c42
              by_cases c45 : t610 = 0
              ·rw [if_pos c45] at H
               have c45b0 : (t610 == 0) = true := beq_iff_eq.mpr c45
               have c45b1 : (t610 != 0) = false := bne_eq_false_iff_eq.mpr c45
               clear c45
               by_cases c46 : t609 = (-9223372036854775808)
               ·rw [if_pos c46] at H
                have c46b0 : (t609 == (-9223372036854775808)) = true := beq_iff_eq.mpr c46
                have c46b1 : (t609 != (-9223372036854775808)) = false := bne_eq_false_iff_eq.mpr c46
                clear c46
                replace H := Option.bind_eq_some_iff.mp H
                obtain ⟨t614, A470, H⟩ := H
                replace H : (some t614) = some r := H
                have A47 := Aside0.mk A470
                clear A470
                obtain rfl := Option.some.inj H
                go_wp2_with (first | (go_at_call 15; (with_reducible refine (corebanklaw02_live.calls (hG := by first | exact hG | (with_reducible exact GW.below hG (qb2_ GE598.out GE604.out HB.out)) | (with_reducible repeat (first | exact hG | apply GW.drewN | apply GW.drew)))  t614 _ A47.out).mono ?_); rintro e w48 ⟨rfl, hb⟩; have n0_ := Aside0.mk (blk_below (qk_ BK598.out) hb); have n1_ := Aside0.mk (blk_below (qk_ BK604.out) hb); have n2_ := Aside0.mk (below_step (qb2_ GE598.out GE604.out HB.out) hb); clear BK598; clear BK604; clear HB; have BK598 := n0_; have BK604 := n1_; have HB := n2_; clear n0_ n1_ n2_; (try clear hb); (try clear hb2); (try clear hk); (try clear hi)))
                go_ret
                exact ⟨qe_, qb2_ GE598.out GE604.out HB.out⟩
               ·rw [if_neg c46] at H
                have c46b0 : (t609 == (-9223372036854775808)) = false := beq_eq_false_iff_ne.mpr c46
                have c46b1 : (t609 != (-9223372036854775808)) = true := bne_iff_ne.mpr c46
                obtain rfl := Option.some.inj H
                go_wp2
                go_ret
                exact ⟨qe_, qb2_ GE598.out GE604.out HB.out⟩
              ·rw [if_neg c45] at H
               have c45b0 : (t610 == 0) = false := beq_eq_false_iff_ne.mpr c45
               have c45b1 : (t610 != 0) = true := bne_iff_ne.mpr c45
               obtain rfl := Option.some.inj H
               go_wp2
               go_ret
               exact ⟨qe_, qb2_ GE598.out GE604.out HB.out⟩
            ·rw [if_neg c41] at H
             have c41b0 : (t608 == 0) = false := beq_eq_false_iff_ne.mpr c41
             have c41b1 : (t608 != 0) = true := bne_iff_ne.mpr c41
             by_cases c49 : t610 = 0
             ·rw [if_pos c49] at H
              have c49b0 : (t610 == 0) = true := beq_iff_eq.mpr c49
              have c49b1 : (t610 != 0) = false := bne_eq_false_iff_eq.mpr c49
              clear c49
              by_cases c50 : t609 = (-9223372036854775808)
              ·rw [if_pos c50] at H
               have c50b0 : (t609 == (-9223372036854775808)) = true := beq_iff_eq.mpr c50
               have c50b1 : (t609 != (-9223372036854775808)) = false := bne_eq_false_iff_eq.mpr c50
               clear c50
               replace H := Option.bind_eq_some_iff.mp H
               obtain ⟨t615, A510, H⟩ := H
               replace H : (some t615) = some r := H
               have A51 := Aside0.mk A510
               clear A510
               obtain rfl := Option.some.inj H
               go_wp2_with (first | (go_at_call 15; (with_reducible refine (corebanklaw02_live.calls (hG := by first | exact hG | (with_reducible exact GW.below hG (qb2_ GE598.out GE604.out HB.out)) | (with_reducible repeat (first | exact hG | apply GW.drewN | apply GW.drew)))  t615 _ A51.out).mono ?_); rintro e w52 ⟨rfl, hb⟩; have n0_ := Aside0.mk (blk_below (qk_ BK598.out) hb); have n1_ := Aside0.mk (blk_below (qk_ BK604.out) hb); have n2_ := Aside0.mk (below_step (qb2_ GE598.out GE604.out HB.out) hb); clear BK598; clear BK604; clear HB; have BK598 := n0_; have BK604 := n1_; have HB := n2_; clear n0_ n1_ n2_; (try clear hb); (try clear hb2); (try clear hk); (try clear hi)))
               go_ret
               exact ⟨qe_, qb2_ GE598.out GE604.out HB.out⟩
              ·rw [if_neg c50] at H
               have c50b0 : (t609 == (-9223372036854775808)) = false := beq_eq_false_iff_ne.mpr c50
               have c50b1 : (t609 != (-9223372036854775808)) = true := bne_iff_ne.mpr c50
               obtain rfl := Option.some.inj H
               go_wp2
               go_ret
               exact ⟨qe_, qb2_ GE598.out GE604.out HB.out⟩
             ·rw [if_neg c49] at H
              have c49b0 : (t610 == 0) = false := beq_eq_false_iff_ne.mpr c49
              have c49b1 : (t610 != 0) = true := bne_iff_ne.mpr c49
              obtain rfl := Option.some.inj H
              go_wp2
              go_ret
              exact ⟨qe_, qb2_ GE598.out GE604.out HB.out⟩
end Go.Proofs.YtkdhippoibjfkaaDoor.PR
