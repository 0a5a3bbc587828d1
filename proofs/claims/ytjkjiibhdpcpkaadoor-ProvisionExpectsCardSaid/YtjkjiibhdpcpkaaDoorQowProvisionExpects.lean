/- Expected and Move of the program equal those of the reference for any loan that is not great on any day; for every input, with the listed package-level variables as the program's text lays them. -/
import Derived.Below
import Derived.ChangeOld
import Derived.LaidMore
import Derived.Lib.SmallJoins
import Derived.OpenShut
import Derived.ProofKit
import Derived.SevenTiedAt
import Derived.ShutString
import Derived.SizedLaws
import Derived.Stop.Joined
import Derived.Test.YtjkjiibhdpcpkaaDoorCards
import Derived.Test.YtjkjiibhdpcpkaaDoorTie
import Derived.WalkKit
import Derived.Test.YtjkjiibhdpcpkaaDoorQRm13
import Derived.Test.YtjkjiibhdpcpkaaDoorQRm14
namespace Go.Proofs.YtjkjiibhdpcpkaaDoor.provisionExpects
open Go.ChangeShapes Go.WideShapes Go.ChangeAt Go.RowKit Go.Joins
open Go.ChangeMaps (open_string shut_string)
set_option linter.unusedVariables false
set_option linter.unusedSimpArgs false
theorem wf_i64 {x : Int} (h : (Lit.int .i64 x).wf = true) : -9223372036854775808 ≤ x ∧ x ≤ 9223372036854775807 := by simpa [Lit.wf, IntKind.min, IntKind.max, IntKind.bits, IntKind.signed] using h
theorem own : ownKnob Tryd.prog.godebug = none := by kernel_rfl
theorem laidOut : laidOutB Tryd.prog = true := by kernel_rfl
def laidL : List (String × DataW Unit) := [("corebank/rounding.steps", Rows.laid_corebank_rounding_steps), ("corebank/arrears.classes", Rows.laid_corebank_arrears_classes)]
theorem door_met (os : Os) (args : Array Value) : laidMetH Tryd.prog laidL ((World.doorLaid Tryd.prog 400 os).forCall (fun _ _ => 0) ⟨#[], args, []⟩).memory :=
  laidMetH_of_parts3 (fuel := 8) (laidMet_of_run' 8 (by kernel_rfl) (by kernel_rfl)) (by kernel_rfl) (by kernel_rfl)
theorem g_steps : Tryd.prog.globalNamed "corebank/rounding.steps" = some 1 := by kernel_rfl
theorem t_steps : (Tryd.prog.globals[1]?).map (·.type) = some 94 := by kernel_rfl
theorem g_classes : Tryd.prog.globalNamed "corebank/arrears.classes" = some 0 := by kernel_rfl
theorem t_classes : (Tryd.prog.globals[0]?).map (·.type) = some 52 := by kernel_rfl
set_option maxRecDepth 100000 in
theorem of_laid {W : World} (h : laidMetH Tryd.prog laidL W) : PS.GW W := by
  unfold laidL at h
  rw [MakeChecks.laidMetH_plain _ _ _ (by kernel_rfl)] at h
  obtain ⟨ps, ⟨g0, t0, cs0, f0, p0, q0, hg0, ht0, hv0, hd0, ⟨g1, t1, cs1, f1, p1, q1, hg1, ht1, hv1, hd1, _, _⟩, _⟩, _, _⟩ := h
  obtain rfl := Option.some.inj (g_steps.symm.trans hg0)
  obtain rfl := Option.some.inj (t_steps.symm.trans ht0)
  obtain rfl := Option.some.inj (g_classes.symm.trans hg1)
  obtain rfl := Option.some.inj (t_classes.symm.trans ht1)
  have S : ∀ j, j < 10 → cs0[j]? = some (.int .i64 (PS.stepsL.getD j 0)) := by
    obtain ⟨xs, m, rfl, hx, hlen, hn, hel⟩ := DataW.trod_array Tryd.underlying94 hd0
    have ce : Tryd.prog.cellsOf 93 = 2 := by kernel_rfl
    have ct : Tryd.prog.cellsOf 94 = 10 := by kernel_rfl
    have ci : Tryd.prog.cellsOf 3 = 1 := by kernel_rfl
    obtain ⟨l⟩ := cs0
    simp only [ct] at hlen
    obtain ⟨c0, c1, c2, c3, c4, c5, c6, c7, c8, c9, rfl⟩ : ∃ c0 c1 c2 c3 c4 c5 c6 c7 c8 c9, l = [c0, c1, c2, c3, c4, c5, c6, c7, c8, c9] := by
      match l, hlen with
      | [a, b, c, d, e, f, g, h, i, j], _ => exact ⟨a, b, c, d, e, f, g, h, i, j, rfl⟩
    match xs, hn, hx, hel with
    | [x0, x1, x2, x3, x4], _, hx, hel =>
      simp only [Rows.laid_corebank_rounding_steps, List.map_cons, List.map_nil, Prod.mk.injEq, DataW.agg.injEq, List.cons.injEq, and_true] at hx
      obtain ⟨⟨hx0, hx1, hx2, hx3, hx4⟩, _⟩ := hx
      have e0 := hel 0 (by decide)
      simp only [ce, List.drop, List.take, Nat.reduceMul, List.getElem?_cons_zero, List.getElem?_cons_succ] at e0
      obtain ⟨y0, z0, m0, hy0, _, u0, v0⟩ := trod_struct2 Tryd.underlying93 e0
      subst hy0
      obtain ⟨n0, k0, r0, _⟩ := DataW.trod_int Tryd.underlying3 (by simpa [ci] using u0)
      obtain ⟨n1, k1, r1, _⟩ := DataW.trod_int Tryd.underlying3 (by simpa [ci] using v0)
      subst r0 r1
      simp at hx0
      obtain ⟨rfl, rfl⟩ := hx0
      simp at k0 k1
      subst k0 k1
      have e1 := hel 1 (by decide)
      simp only [ce, List.drop, List.take, Nat.reduceMul, List.getElem?_cons_zero, List.getElem?_cons_succ] at e1
      obtain ⟨y1, z1, m1, hy1, _, u1, v1⟩ := trod_struct2 Tryd.underlying93 e1
      subst hy1
      obtain ⟨n2, k2, r2, _⟩ := DataW.trod_int Tryd.underlying3 (by simpa [ci] using u1)
      obtain ⟨n3, k3, r3, _⟩ := DataW.trod_int Tryd.underlying3 (by simpa [ci] using v1)
      subst r2 r3
      simp at hx1
      obtain ⟨rfl, rfl⟩ := hx1
      simp at k2 k3
      subst k2 k3
      have e2 := hel 2 (by decide)
      simp only [ce, List.drop, List.take, Nat.reduceMul, List.getElem?_cons_zero, List.getElem?_cons_succ] at e2
      obtain ⟨y2, z2, m2, hy2, _, u2, v2⟩ := trod_struct2 Tryd.underlying93 e2
      subst hy2
      obtain ⟨n4, k4, r4, _⟩ := DataW.trod_int Tryd.underlying3 (by simpa [ci] using u2)
      obtain ⟨n5, k5, r5, _⟩ := DataW.trod_int Tryd.underlying3 (by simpa [ci] using v2)
      subst r4 r5
      simp at hx2
      obtain ⟨rfl, rfl⟩ := hx2
      simp at k4 k5
      subst k4 k5
      have e3 := hel 3 (by decide)
      simp only [ce, List.drop, List.take, Nat.reduceMul, List.getElem?_cons_zero, List.getElem?_cons_succ] at e3
      obtain ⟨y3, z3, m3, hy3, _, u3, v3⟩ := trod_struct2 Tryd.underlying93 e3
      subst hy3
      obtain ⟨n6, k6, r6, _⟩ := DataW.trod_int Tryd.underlying3 (by simpa [ci] using u3)
      obtain ⟨n7, k7, r7, _⟩ := DataW.trod_int Tryd.underlying3 (by simpa [ci] using v3)
      subst r6 r7
      simp at hx3
      obtain ⟨rfl, rfl⟩ := hx3
      simp at k6 k7
      subst k6 k7
      have e4 := hel 4 (by decide)
      simp only [ce, List.drop, List.take, Nat.reduceMul, List.getElem?_cons_zero, List.getElem?_cons_succ] at e4
      obtain ⟨y4, z4, m4, hy4, _, u4, v4⟩ := trod_struct2 Tryd.underlying93 e4
      subst hy4
      obtain ⟨n8, k8, r8, _⟩ := DataW.trod_int Tryd.underlying3 (by simpa [ci] using u4)
      obtain ⟨n9, k9, r9, _⟩ := DataW.trod_int Tryd.underlying3 (by simpa [ci] using v4)
      subst r8 r9
      simp at hx4
      obtain ⟨rfl, rfl⟩ := hx4
      simp at k8 k9
      subst k8 k9
      intro j hj
      match j, hj with
      | 0, _ => rfl
      | 1, _ => rfl
      | 2, _ => rfl
      | 3, _ => rfl
      | 4, _ => rfl
      | 5, _ => rfl
      | 6, _ => rfl
      | 7, _ => rfl
      | 8, _ => rfl
      | 9, _ => rfl
  have S' : ∀ j, j < 10 → W.cell? ⟨1, j, none⟩ = some (.int .i64 (PS.stepsL.getD j 0)) := fun j hj => (World.var?_cell g_steps hv0 j).trans (S j hj)
  have C : ∀ j, j < 4 → cs1[j]? = some (.int .i64 (30 * (j : Int))) := by
    obtain ⟨xs, m, rfl, hx, hlen, hn, hel⟩ := DataW.trod_array Tryd.underlying52 hd1
    have ce : Tryd.prog.cellsOf 3 = 1 := by kernel_rfl
    have ct : Tryd.prog.cellsOf 52 = 4 := by kernel_rfl
    obtain ⟨l⟩ := cs1
    simp only [ct] at hlen
    obtain ⟨c0, c1, c2, c3, rfl⟩ : ∃ c0 c1 c2 c3, l = [c0, c1, c2, c3] := by
      match l, hlen with
      | [a, b, c, d], _ => exact ⟨a, b, c, d, rfl⟩
    match xs, hn, hx, hel with
    | [x0, x1, x2, x3], _, hx, hel =>
      simp only [Rows.laid_corebank_arrears_classes, List.map_cons, List.map_nil, Prod.mk.injEq, DataW.agg.injEq, List.cons.injEq, and_true] at hx
      obtain ⟨⟨hx0, hx1, hx2, hx3⟩, _⟩ := hx
      have e0 := hel 0 (by decide)
      simp only [ce, List.drop, List.take, Nat.reduceMul, List.getElem?_cons_zero, List.getElem?_cons_succ] at e0
      obtain ⟨n0, k0, r0, _⟩ := DataW.trod_int Tryd.underlying3 e0
      subst r0
      simp at hx0
      subst hx0
      simp at k0
      subst k0
      have e1 := hel 1 (by decide)
      simp only [ce, List.drop, List.take, Nat.reduceMul, List.getElem?_cons_zero, List.getElem?_cons_succ] at e1
      obtain ⟨n1, k1, r1, _⟩ := DataW.trod_int Tryd.underlying3 e1
      subst r1
      simp at hx1
      subst hx1
      simp at k1
      subst k1
      have e2 := hel 2 (by decide)
      simp only [ce, List.drop, List.take, Nat.reduceMul, List.getElem?_cons_zero, List.getElem?_cons_succ] at e2
      obtain ⟨n2, k2, r2, _⟩ := DataW.trod_int Tryd.underlying3 e2
      subst r2
      simp at hx2
      subst hx2
      simp at k2
      subst k2
      have e3 := hel 3 (by decide)
      simp only [ce, List.drop, List.take, Nat.reduceMul, List.getElem?_cons_zero, List.getElem?_cons_succ] at e3
      obtain ⟨n3, k3, r3, _⟩ := DataW.trod_int Tryd.underlying3 e3
      subst r3
      simp at hx3
      subst hx3
      simp at k3
      subst k3
      intro j hj
      match j, hj with
      | 0, _ => rfl
      | 1, _ => rfl
      | 2, _ => rfl
      | 3, _ => rfl
  have C' : ∀ j, j < 4 → W.cell? ⟨0, j, none⟩ = some (.int .i64 (30 * (j : Int))) := fun j hj => (World.var?_cell g_classes hv1 j).trans (C j hj)
  have pos : ∀ {g : Nat} {v : Value}, W.cell? ⟨g, 0, none⟩ = some v → g < W.heap.size := by
    intro g v h
    rcases Nat.lt_or_ge g W.heap.size with h' | h'
    · exact h'
    · simp [World.cell?, Array.getElem?_eq_none h'] at h
  exact { spos := pos (S' 0 (by decide)), st := S', cpos := pos (C' 0 (by decide)), cl := C' }
set_option maxRecDepth 100000 in
theorem lifted (os : Os) (started : os.Started) (H : Type) (enc : TypeId × Value → H) :
    ReturnsInHanded {} Tryd.checked os 4 .any (fun w args => (Rows.provisionExpectsSpec.pre enc Tryd.prog Tryd.f4 [] false w args ∧ laidMetH Tryd.prog laidL w) ∧ sizedMet enc Tryd.prog Tryd.f4 (OpenSpec.ofChange Rows.provisionExpectsSpec) false w args)
      (Rows.provisionExpectsSpec.post enc Tryd.prog Tryd.f4 false true false false) := by
  refine returnsInHanded_of_change_and (C := Tryd.checked) (X := fun w _ => laidMetH Tryd.prog laidL w) (fun _ _ _ hh h => h.of_heap hh) own started (by kernel_rfl) Tryd.func4
    (ChangeSpec.witness_shaped (enc := enc) (C := Tryd.checked) (os := os) (X := fun w _ => laidMetH Tryd.prog laidL w) false (World.doorLaid Tryd.prog 400 os) #[.agg #[.int .i64 0, .int .i64 0, .int .i64 0, .int .i64 0, .int .i64 0, .int .i64 0, .int .i64 0, .int .i64 0, .int .i64 0, .int .i64 0, .int .i64 0, .int .i64 0, .int .i64 0, .int .i64 0, .int .i64 0, .int .i64 0, .int .i64 0, .int .i64 0, .int .i64 0, .int .i64 0, .int .i64 0, .string ⟨#[]⟩, .string ⟨#[]⟩, .slice none 0 0, .slice none 0 0], .int .i64 0] 8 rfl (World.shaped_of_RefB (by kernel_rfl) (by kernel_rfl)) (by kernel_rfl) (by kernel_rfl) (by kernel_rfl) (door_met os _)) ?_
  intro W base args ds gs before hval0 hW _ _ hL _
  have hval : ∀ (j : Nat) t v, Tryd.f4.params[j]? = some t → args[j]? = some v → Value.okWide Tryd.prog W .any base t v := hval0
  have hW' := hW
  obtain ⟨p, q, hA0, hV, rfl, hfz, hnd⟩ := hW
  have hA : DataW.TrodAll enc Tryd.prog W 0 (fun _ => true) true Tryd.f4.params.toList args.toList ds p := hA0
  rw [Tryd.params4] at hA hval
  obtain ⟨v0, vs0, d0, ds0, p0, q0, hargs, rfl, rfl, h0, r0⟩ := trodAll_cons hA
  obtain ⟨v1, vs1, d1, ds1, p1, q1, rfl, rfl, rfl, h1, r1⟩ := trodAll_cons r0
  obtain ⟨rfl, rfl, rfl⟩ := trodAll_nil r1
  obtain rfl : args = #[v0, v1] := by cases args; simp_all
  obtain ⟨rfl, rfl⟩ := trodVars_none hV
  have hG := of_laid hL
  have k0 := h0
  have lt0 : ∀ x ∈ p0, x.block < W.heap.size := by obtain ⟨m, hm⟩ := k0; exact DataW.trod_lt m _ _ _ hm
  obtain ⟨y0, A0_23, c0_23, A0_24, c0_24, rfl, lc0_23, gc0_23, lc0_24, gc0_24, gy0⟩ := PureProvisionExpects.open27 (hval 0 27 v0 rfl rfl) h0
  have k1 := h1
  have lt1 : ∀ x ∈ p1, x.block < W.heap.size := by obtain ⟨m, hm⟩ := k1; exact DataW.trod_lt m _ _ _ hm
  obtain ⟨a1, rfl, rfl, _, w1⟩ := open_int Tryd.underlying3 (hval 1 3 v1 rfl rfl) h1
  clear hA0 hval0
  have b_a1 := wf_i64 w1
  obtain ⟨k, hk⟩ := PureProvisionExpects.ProvisionExpects_pure y0 a1 gy0
  refine (PS.corebanklaw38_ProvisionExpects.calls1 k y0.f0 y0.f1 y0.f2 y0.f3 y0.f4 y0.f5 y0.f6 y0.f7 y0.f8 y0.f9 y0.f10 y0.f11.f0 y0.f11.f1 y0.f11.f2 y0.f11.f3 y0.f11.f4 y0.f11.f5 y0.f11.f6 y0.f11.f7 y0.f11.f8 y0.f11.f9 y0.f11.f10 y0.f11.f11 A0_23 c0_23 y0.f12 A0_24 c0_24 y0.f13 a1 W hG gc0_23 lc0_23 gc0_24 lc0_24 hk).mono fun e W' ⟨he, bel⟩ => ?_
  subst he
  exact ⟨_, rfl, _, _, _, [], _, [], hW', trodAll_mk1 (shut_bool Tryd.underlying4 _), (trodAll_cons_mk (Below.trod laidOut (by kernel_rfl) (of_decide_eq_true (by kernel_rfl)) k0 bel lt0) (trodAll_cons_mk (Below.trod laidOut (by kernel_rfl) (of_decide_eq_true (by kernel_rfl)) k1 bel lt1) trodAll_mk0)), rfl, bel.frame _, fun h => by cases h⟩
theorem over : Rows.provisionExpectsRow.holds Tryd.pinned (OpenSpec.ofChange Rows.provisionExpectsSpec) :=
  OpenClaim.holds_of_wide 4 Tryd.f4 rfl rfl rfl rfl rfl rfl rfl ⟨rfl, rfl, rfl, rfl, rfl⟩ rfl rfl rfl rfl rfl (by kernel_rfl) Tryd.func4 (by kernel_rfl)
    (of_decide_eq_true (by kernel_rfl)) (by unfold Func.isWrapper; first | (rw [if_pos (by decide +kernel)]; kernel_rfl) | (rw [if_neg (by decide +kernel)]; exact ⟨rfl, rfl⟩))
    (fun os started H enc _ => lifted os started H enc)
theorem proved : Rows.ProvisionExpectsSaid := over
end Go.Proofs.YtjkjiibhdpcpkaaDoor.provisionExpects
namespace Go.Proofs.YtjkjiibhdpcpkaaDoor
open Go
theorem provisionExpects_card : Rows.ProvisionExpectsCardSaid :=
  Claim7.holds_tied_plain_at .later [] [.data, .data] true (true, "81edf7a7c85b997f01f1667817d8a8a039d7ccd29dc025931795e143bf919836") false
    provisionExpects.proved (fun _ h => by cases h) (by kernel_rfl) (fun _ h => by cases h) provisionExpects_row_tie rfl ⟨rfl, rfl⟩ (by kernel_rfl) rfl
    (fun f fn hf hfn => by
      obtain rfl : f = 4 := Option.some.inj ((show Tryd.prog.funcNamed "corebank/corebanklaw38.ProvisionExpects" = some 4 by kernel_rfl).symm.trans hf) |>.symm
      obtain rfl : fn = Tryd.f4 := (Option.some.inj (Tryd.func4.symm.trans hfn)).symm
      exact ⟨by kernel_rfl, fun j t ht => by
        rw [Tryd.params4] at ht
        have hm : t ∈ [27, 3] := by simpa using Array.mem_of_getElem? ht
        have hall : ([27, 3].all fun u => !Tryd.prog.wantsStandIn u) = true := by kernel_rfl
        exact (show Tryd.prog.wantsStandIn t = false by simpa using List.all_eq_true.1 hall t hm)⟩)
    (by kernel_rfl)
#print axioms provisionExpects_card
end Go.Proofs.YtjkjiibhdpcpkaaDoor
