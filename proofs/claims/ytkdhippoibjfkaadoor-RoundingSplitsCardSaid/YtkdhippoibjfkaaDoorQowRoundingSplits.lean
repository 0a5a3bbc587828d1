/- The parts of a distributed amount add up to it, none has the opposite sign, and each differs from its exact share by less than one unit, for at most 100 weights; for every input, with the listed package-level variable as the program's text lays it. -/
import Derived.Below
import Derived.ChangeOld
import Derived.LaidMore
import Derived.Lib.SmallJoins
import Derived.OpenShut
import Derived.ProofKit
import Derived.SevenTiedAt
import Derived.ShutString
import Derived.SizedLaws
import Derived.Stop.Joined
import Derived.Test.YtkdhippoibjfkaaDoorCards
import Derived.Test.YtkdhippoibjfkaaDoorTie
import Derived.WalkKit
import Derived.Test.YtkdhippoibjfkaaDoorQRx40
import Derived.Test.YtkdhippoibjfkaaDoorQureRoundingSplits
namespace Go.Proofs.YtkdhippoibjfkaaDoor.roundingSplits
open Go.ChangeShapes Go.WideShapes Go.ChangeAt Go.RowKit Go.Joins
open Go.ChangeMaps (open_string shut_string)
set_option linter.unusedVariables false
set_option linter.unusedSimpArgs false
theorem wf_i64 {x : Int} (h : (Lit.int .i64 x).wf = true) : -9223372036854775808 ≤ x ∧ x ≤ 9223372036854775807 := by simpa [Lit.wf, IntKind.min, IntKind.max, IntKind.bits, IntKind.signed] using h
theorem own : ownKnob Tryd.prog.godebug = none := by kernel_rfl
theorem laidOut : laidOutB Tryd.prog = true := by kernel_rfl
def laidL : List (String × DataW Unit) := [("corebank/rounding.steps", Rows.laid_corebank_rounding_steps)]
theorem door_met (os : Os) (args : Array Value) : laidMetH Tryd.prog laidL ((World.doorLaid Tryd.prog 400 os).forCall (fun _ _ => 0) ⟨#[], args, []⟩).memory :=
  laidMetH_of_parts3 (fuel := 8) (laidMet_of_run' 8 (by kernel_rfl) (by kernel_rfl)) (by kernel_rfl) (by kernel_rfl)
theorem g_steps : Tryd.prog.globalNamed "corebank/rounding.steps" = some 0 := by kernel_rfl
theorem t_steps : (Tryd.prog.globals[0]?).map (·.type) = some 78 := by kernel_rfl
theorem of_laid {W : World} (h : laidMetH Tryd.prog laidL W) : PR.GW W := by
  unfold laidL at h
  rw [MakeChecks.laidMetH_plain _ _ _ (by kernel_rfl)] at h
  obtain ⟨ps, ⟨g0, t0, cs0, f0, p0, q0, hg0, ht0, hv0, hd0, _, _⟩, _, _⟩ := h
  obtain rfl := Option.some.inj (g_steps.symm.trans hg0)
  obtain rfl := Option.some.inj (t_steps.symm.trans ht0)
  have S : ∀ j, j < 10 → cs0[j]? = some (.int .i64 (PR.stepsL.getD j 0)) := by
    obtain ⟨xs, m, rfl, hx, hlen, hn, hel⟩ := DataW.trod_array Tryd.underlying78 hd0
    have ce : Tryd.prog.cellsOf 77 = 2 := by kernel_rfl
    have ct : Tryd.prog.cellsOf 78 = 10 := by kernel_rfl
    have ci : Tryd.prog.cellsOf 3 = 1 := by kernel_rfl
    obtain ⟨l⟩ := cs0
    simp only [ct] at hlen
    obtain ⟨c0, c1, c2, c3, c4, c5, c6, c7, c8, c9, rfl⟩ : ∃ c0 c1 c2 c3 c4 c5 c6 c7 c8 c9, l = [c0, c1, c2, c3, c4, c5, c6, c7, c8, c9] := by
      match l, hlen with
      | [a, b, c, d, e, f, g, h, i, j], _ => exact ⟨a, b, c, d, e, f, g, h, i, j, rfl⟩
    match xs, hn, hx, hel with
    | [x0, x1, x2, x3, x4], _, hx, hel =>
      simp only [Rows.laid_corebank_rounding_steps, List.map_cons, List.map_nil, Prod.mk.injEq, DataW.agg.injEq, List.cons.injEq, and_true] at hx
      obtain ⟨⟨hx0, hx1, hx2, hx3, hx4⟩, _⟩ := hx
      have e0 := hel 0 (by decide)
      simp only [ce, List.drop, List.take, Nat.reduceMul, List.getElem?_cons_zero, List.getElem?_cons_succ] at e0
      obtain ⟨y0, z0, m0, hy0, _, u0, v0⟩ := trod_struct2 Tryd.underlying77 e0
      subst hy0
      obtain ⟨n0, k0, r0, _⟩ := DataW.trod_int Tryd.underlying3 (by simpa [ci] using u0)
      obtain ⟨n1, k1, r1, _⟩ := DataW.trod_int Tryd.underlying3 (by simpa [ci] using v0)
      subst r0 r1
      simp at hx0
      obtain ⟨rfl, rfl⟩ := hx0
      simp at k0 k1
      subst k0 k1
      have e1 := hel 1 (by decide)
      simp only [ce, List.drop, List.take, Nat.reduceMul, List.getElem?_cons_zero, List.getElem?_cons_succ] at e1
      obtain ⟨y1, z1, m1, hy1, _, u1, v1⟩ := trod_struct2 Tryd.underlying77 e1
      subst hy1
      obtain ⟨n2, k2, r2, _⟩ := DataW.trod_int Tryd.underlying3 (by simpa [ci] using u1)
      obtain ⟨n3, k3, r3, _⟩ := DataW.trod_int Tryd.underlying3 (by simpa [ci] using v1)
      subst r2 r3
      simp at hx1
      obtain ⟨rfl, rfl⟩ := hx1
      simp at k2 k3
      subst k2 k3
      have e2 := hel 2 (by decide)
      simp only [ce, List.drop, List.take, Nat.reduceMul, List.getElem?_cons_zero, List.getElem?_cons_succ] at e2
      obtain ⟨y2, z2, m2, hy2, _, u2, v2⟩ := trod_struct2 Tryd.underlying77 e2
      subst hy2
      obtain ⟨n4, k4, r4, _⟩ := DataW.trod_int Tryd.underlying3 (by simpa [ci] using u2)
      obtain ⟨n5, k5, r5, _⟩ := DataW.trod_int Tryd.underlying3 (by simpa [ci] using v2)
      subst r4 r5
      simp at hx2
      obtain ⟨rfl, rfl⟩ := hx2
      simp at k4 k5
      subst k4 k5
      have e3 := hel 3 (by decide)
      simp only [ce, List.drop, List.take, Nat.reduceMul, List.getElem?_cons_zero, List.getElem?_cons_succ] at e3
      obtain ⟨y3, z3, m3, hy3, _, u3, v3⟩ := trod_struct2 Tryd.underlying77 e3
      subst hy3
      obtain ⟨n6, k6, r6, _⟩ := DataW.trod_int Tryd.underlying3 (by simpa [ci] using u3)
      obtain ⟨n7, k7, r7, _⟩ := DataW.trod_int Tryd.underlying3 (by simpa [ci] using v3)
      subst r6 r7
      simp at hx3
      obtain ⟨rfl, rfl⟩ := hx3
      simp at k6 k7
      subst k6 k7
      have e4 := hel 4 (by decide)
      simp only [ce, List.drop, List.take, Nat.reduceMul, List.getElem?_cons_zero, List.getElem?_cons_succ] at e4
      obtain ⟨y4, z4, m4, hy4, _, u4, v4⟩ := trod_struct2 Tryd.underlying77 e4
      subst hy4
      obtain ⟨n8, k8, r8, _⟩ := DataW.trod_int Tryd.underlying3 (by simpa [ci] using u4)
      obtain ⟨n9, k9, r9, _⟩ := DataW.trod_int Tryd.underlying3 (by simpa [ci] using v4)
      subst r8 r9
      simp at hx4
      obtain ⟨rfl, rfl⟩ := hx4
      simp at k8 k9
      subst k8 k9
      intro j hj
      match j, hj with
      | 0, _ => rfl
      | 1, _ => rfl
      | 2, _ => rfl
      | 3, _ => rfl
      | 4, _ => rfl
      | 5, _ => rfl
      | 6, _ => rfl
      | 7, _ => rfl
      | 8, _ => rfl
      | 9, _ => rfl
  have S' : ∀ j, j < 10 → W.cell? ⟨0, j, none⟩ = some (.int .i64 (PR.stepsL.getD j 0)) := fun j hj => (World.var?_cell g_steps hv0 j).trans (S j hj)
  have pos : ∀ {g : Nat} {v : Value}, W.cell? ⟨g, 0, none⟩ = some v → g < W.heap.size := by
    intro g v h
    rcases Nat.lt_or_ge g W.heap.size with h' | h'
    · exact h'
    · simp [World.cell?, Array.getElem?_eq_none h'] at h
  exact { spos := pos (S' 0 (by decide)), st := S' }
def IsRow (k : IntKind) (w : World) (a : Option Addr) (len cap : Nat) (zs : List Int) : Prop :=
  (a = none ∧ len = 0 ∧ cap = 0 ∧ zs = []) ∨
  ∃ x, a = some x ∧ len ≤ cap ∧ cap ≤ maxLen ∧ zs.length = cap ∧ (∀ i, i < zs.length → w.cell? (x.add i) = some (.int k (zs.getD i 0))) ∧ ∀ n ∈ zs, (Lit.int k n).wf = true
set_option maxRecDepth 100000 in
theorem lifted (os : Os) (started : os.Started) (H : Type) (enc : TypeId × Value → H) :
    ReturnsInHanded {} Tryd.checked os 7 .any (fun w args => (Rows.roundingSplitsSpec.pre enc Tryd.prog Tryd.f7 [] false w args ∧ laidMetH Tryd.prog laidL w) ∧ sizedMet enc Tryd.prog Tryd.f7 (OpenSpec.ofChange Rows.roundingSplitsSpec) false w args)
      (Rows.roundingSplitsSpec.post enc Tryd.prog Tryd.f7 false true false false) := by
  refine returnsInHanded_of_change_and (C := Tryd.checked) (X := fun w _ => laidMetH Tryd.prog laidL w) (fun _ _ _ hh h => h.of_heap hh) own started (by kernel_rfl) Tryd.func7
    (ChangeSpec.witness_shaped (enc := enc) (C := Tryd.checked) (os := os) (X := fun w _ => laidMetH Tryd.prog laidL w) false (World.doorLaid Tryd.prog 400 os) #[.int .i64 0, .slice none 0 0] 8 rfl (World.shaped_of_RefB (by kernel_rfl) (by kernel_rfl)) (by kernel_rfl) (by kernel_rfl) (by kernel_rfl) (door_met os _)) ?_
  intro W base args ds gs before hval0 hW _ _ hL _
  have hval : ∀ (j : Nat) t v, Tryd.f7.params[j]? = some t → args[j]? = some v → Value.okWide Tryd.prog W .any base t v := hval0
  have hW' := hW
  obtain ⟨p, q, hA0, hV, rfl, hfz, hnd⟩ := hW
  have hA : DataW.TrodAll enc Tryd.prog W 0 (fun _ => true) true Tryd.f7.params.toList args.toList ds p := hA0
  rw [Tryd.params7] at hA hval
  obtain ⟨v0, vs0, d0, ds0, p0, q0, hargs, rfl, rfl, h0, r0⟩ := trodAll_cons hA
  obtain ⟨v1, vs1, d1, ds1, p1, q1, rfl, rfl, rfl, h1, r1⟩ := trodAll_cons r0
  obtain ⟨rfl, rfl, rfl⟩ := trodAll_nil r1
  obtain rfl : args = #[v0, v1] := by cases args; simp_all
  obtain ⟨rfl, rfl⟩ := trodVars_none hV
  have hG := of_laid hL
  have k0 := h0
  have lt0 : ∀ x ∈ p0, x.block < W.heap.size := by obtain ⟨m, hm⟩ := k0; exact DataW.trod_lt m _ _ _ hm
  obtain ⟨a0, rfl, rfl, _, w0⟩ := open_int Tryd.underlying3 (hval 0 3 v0 rfl rfl) h0
  have k1 := h1
  have lt1 : ∀ x ∈ p1, x.block < W.heap.size := by obtain ⟨m, hm⟩ := k1; exact DataW.trod_lt m _ _ _ hm
  obtain ⟨a1, len1, cap1, rfl⟩ := okWide_slice Tryd.underlying41 (hval 1 41 v1 rfl rfl)
  obtain ⟨z1, w1⟩ : ∃ zs, IsRow .i64 W a1 len1 cap1 zs := by
    obtain ⟨fuel, hf⟩ := h1
    rcases open_ints Tryd.underlying41 Tryd.underlying3 (by kernel_rfl) hf with ⟨hcs, _⟩ | ⟨x, l, c, zs, hcs, _, hl, hm, hz, _, hcell, hwz⟩
    · simp [Value.cells] at hcs
      obtain ⟨rfl, rfl, rfl⟩ := hcs
      exact ⟨[], .inl ⟨rfl, rfl, rfl, rfl⟩⟩
    · simp [Value.cells] at hcs
      obtain ⟨rfl, rfl, rfl⟩ := hcs
      exact ⟨zs, .inr ⟨_, rfl, hl, hm, by simpa using hz, hcell, hwz⟩⟩
  obtain ⟨l1, rfl, hr1, hm1, hw1, hc1⟩ := YtkdhippoibjfkaaDoorW.PrintWords.ReadsInt.ofRowC w1
  clear hA0 hval0
  have b_a0 := wf_i64 w0
  obtain ⟨k, hk⟩ := PureRoundingSplits.RoundingSplits_pure a0 l1
  refine (PR.corebanklaw02_RoundingSplits.calls k a0 _ _ l1 true W hG (YtkdhippoibjfkaaDoorW.PrintWords.Kd.C_of_reads (d := (0 : Int)) (h1 := fun _ => rfl) hr1) hc1 hk).mono fun e W' ⟨he, bel⟩ => ?_
  subst he
  exact ⟨_, rfl, _, _, _, [], _, [], hW', trodAll_mk1 (shut_bool Tryd.underlying4 _), (trodAll_cons_mk (Below.trod laidOut (by kernel_rfl) (of_decide_eq_true (by kernel_rfl)) k0 bel lt0) (trodAll_cons_mk (Below.trod laidOut (by kernel_rfl) (of_decide_eq_true (by kernel_rfl)) k1 bel lt1) trodAll_mk0)), rfl, bel.frame _, fun h => by cases h⟩
theorem over : Rows.roundingSplitsRow.holds Tryd.pinned (OpenSpec.ofChange Rows.roundingSplitsSpec) :=
  OpenClaim.holds_of_wide 7 Tryd.f7 rfl rfl rfl rfl rfl rfl rfl ⟨rfl, rfl, rfl, rfl, rfl⟩ rfl rfl rfl rfl rfl (by kernel_rfl) Tryd.func7 (by kernel_rfl)
    (of_decide_eq_true (by kernel_rfl)) (by unfold Func.isWrapper; first | (rw [if_pos (by decide +kernel)]; kernel_rfl) | (rw [if_neg (by decide +kernel)]; exact ⟨rfl, rfl⟩))
    (fun os started H enc _ => lifted os started H enc)
theorem proved : Rows.RoundingSplitsSaid := over
end Go.Proofs.YtkdhippoibjfkaaDoor.roundingSplits
namespace Go.Proofs.YtkdhippoibjfkaaDoor
open Go
theorem roundingSplits_card : Rows.RoundingSplitsCardSaid :=
  Claim7.holds_tied_plain_at .later [] [.data] true (true, "de3ad10411bdc4bb79173fb1050b2374ceef6d9e38437e026005f3807c2698b4") false
    roundingSplits.proved (fun _ h => by cases h) (by kernel_rfl) (fun _ h => by cases h) roundingSplits_row_tie rfl ⟨rfl, rfl⟩ (by kernel_rfl) rfl
    (fun f fn hf hfn => by
      obtain rfl : f = 7 := Option.some.inj ((show Tryd.prog.funcNamed "corebank/corebanklaw02.RoundingSplits" = some 7 by kernel_rfl).symm.trans hf) |>.symm
      obtain rfl : fn = Tryd.f7 := (Option.some.inj (Tryd.func7.symm.trans hfn)).symm
      exact ⟨by kernel_rfl, fun j t ht => by
        rw [Tryd.params7] at ht
        have hm : t ∈ [3, 41] := by simpa using Array.mem_of_getElem? ht
        have hall : ([3, 41].all fun u => !Tryd.prog.wantsStandIn u) = true := by kernel_rfl
        exact (show Tryd.prog.wantsStandIn t = false by simpa using List.all_eq_true.1 hall t hm)⟩)
    (by kernel_rfl)
#print axioms roundingSplits_card
end Go.Proofs.YtkdhippoibjfkaaDoor
