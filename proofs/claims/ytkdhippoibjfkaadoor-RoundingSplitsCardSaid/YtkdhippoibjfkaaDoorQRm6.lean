import Derived.Test.YtkdhippoibjfkaaDoorQRm2
import Derived.Test.YtkdhippoibjfkaaDoorQRm5
section
namespace Go.Proofs.YtkdhippoibjfkaaDoor.PR
open Go.RowKit Go.Proofs.YtkdhippoibjfkaaDoorW.PrintWords Go.Proofs.YtkdhippoibjfkaaDoorW.PrintLast
set_option linter.unusedVariables false
set_option linter.unusedSimpArgs false
def corebankref01_Join.f (a0 : Bool) (a1_0 a1_1 : Int) : Option (Int × Int × Bool) :=
 if inU a1_0 ∧ inU a1_1 then
  some (wrap64 ((if a0 = true then -(wv a1_0 a1_1) else wv a1_0 a1_1) / 18446744073709551616), (if a0 = true then -(wv a1_0 a1_1) else wv a1_0 a1_1) % 18446744073709551616, decide (in128 (if a0 = true then -(wv a1_0 a1_1) else wv a1_0 a1_1))) else none
theorem corebankref01_Join.eq {n : Bool} {a b : Int} {r : Int × Int × Bool} (h : corebankref01_Join.f n a b = some r) : corebankref01_JoinP.f n a b = some r := by
 unfold corebankref01_Join.f at h
 split at h
 ·rename_i c
  obtain ⟨⟨c0, c1⟩, c2, c3⟩ := c
  injection h with h
  subst h
  unfold corebankref01_JoinP.f
  rw [xorMax b c2 c3, xorMax a c0 c1]
  simp only [IntKind.wrap_u64]
  cases n with
  | true =>
   simp only [if_true]
   unfold wv
   split <;> split
   ·rw [decide_eq_true (by unfold in128; omega)]; congr 2
    ·unfold wrap64; omega
    ·congr 1; omega
   ·split
    ·congr 2
     ·unfold wrap64; omega
     ·congr 1
      ·omega
      ·rw [Bool.eq_iff_iff, beq_iff_eq, decide_eq_true_eq]; unfold in128; omega
    ·rw [decide_eq_false (by unfold in128; omega)]; congr 2
     ·unfold wrap64; omega
     ·congr 1; omega
   ·rw [decide_eq_true (by unfold in128; omega)]; congr 2
    ·unfold wrap64; omega
    ·congr 1; omega
   ·split
    ·congr 2
     ·unfold wrap64; omega
     ·congr 1
      ·omega
      ·rw [Bool.eq_iff_iff, beq_iff_eq, decide_eq_true_eq]; unfold in128; omega
    ·rw [decide_eq_false (by unfold in128; omega)]; congr 2
     ·unfold wrap64; omega
     ·congr 1; omega
  | false =>
   simp only [Bool.false_eq_true, if_false]
   unfold wv
   congr 2
   ·unfold wrap64; omega
   ·congr 1
    ·omega
    ·apply decide_eq_decide.mpr; unfold in128; omega
 ·cases h
theorem corebankref01_Join.calls (a0 : Bool) (a1_0 : Int) (a1_1 : Int) (r1 : Int) (r2 : Int) (r3 : Bool) (w : World) (h : corebankref01_Join.f a0 a1_0 a1_1 = some (r1, r2, r3)) :
  Calls Tryd.prog 49 #[.bool a0, .agg #[.int .u64 a1_0, .int .u64 a1_1]] w fun e w' => e = .returned (.tuple #[.agg #[.int .i64 r1, .int .u64 r2], .bool r3]) ∧ Below w.heap.size w w' := by
 have h := corebankref01_Join.eq h
 exact corebankref01_JoinP.calls a0 a1_0 a1_1 r1 r2 r3 w h
def corebankref01_LessP.f (a0_0 : Int) (a0_1 : Int) (a1_0 : Int) (a1_1 : Int) : Option (Bool) := if a0_0 < a1_0 then (some true) else (if a0_0 = a1_0 then (some (decide (a0_1 < a1_1))) else (some false))
set_option maxHeartbeats 8000000 in
set_option maxRecDepth 100000 in
theorem corebankref01_LessP.calls (a0_0 : Int) (a0_1 : Int) (a1_0 : Int) (a1_1 : Int) (r : Bool) (w : World) (h : corebankref01_LessP.f a0_0 a0_1 a1_0 a1_1 = some r) :
  Calls Tryd.prog 59 #[.agg #[.int .u64 a0_0, .int .u64 a0_1], .agg #[.int .u64 a1_0, .int .u64 a1_1]] w fun e w' => e = .returned (.bool r) ∧ Below w.heap.size w w' := by
 have hu54 := Tryd.underlying54
 have HB := Aside0.mk (Below.refl w.heap.size w)
 have H : (if a0_0 < a1_0 then (some true) else (if a0_0 = a1_0 then (some (decide (a0_1 < a1_1))) else (some false))) = some r := h
 clear h
 by_cases c3 : a0_0 < a1_0
 ·rw [if_pos c3] at H
  have c3b0 : decide (a0_0 < a1_0) = true := decide_eq_true c3
  clear c3
  obtain rfl := Option.some.inj H
  go_enter Tryd.func59, Tryd.ntmps59
  go_wp2_with (first | ((with_reducible refine gate_dst (N := 2) rfl ?_); refine be_ (N := 2) (cs := #[.int .u64 a0_0, .int .u64 a0_1]) (t := 54) ?_; intro gb169 hg w4 hbox hb; have n0_ := Aside0.mk (below_step (qb_ HB.out) hb); have n1_ := Aside0.mk (hbox); have n2_ := Aside0.mk (bz_ hg (qb_ HB.out) : w.heap.size ≤ gb169); have n3_ := n2_; clear HB; have HB := n0_; have BK169 := n1_; have GW169 := n2_; have GE169 := n3_; clear n0_ n1_ n2_ n3_; clear hb hbox hg) | ((with_reducible refine gate_dst (N := 3) rfl ?_); refine be_ (N := 3) (cs := #[.int .u64 a1_0, .int .u64 a1_1]) (t := 54) ?_; intro gb170 hg w5 hbox hb; have n0_ := Aside0.mk (blk_below (qk_ BK169.out) hb); have n1_ := Aside0.mk (below_step (qb1_ GE169.out HB.out) hb); have n2_ := Aside0.mk (hbox); have n3_ := Aside0.mk (bz_ hg (qb1_ GE169.out HB.out) : w.heap.size ≤ gb170); have n4_ := n3_; have n5_ := Aside0.mk (nl_ hg (qk_ BK169.out) : gb169 ≠ gb170); have n6_ := Aside0.mk (ng_ hg (qk_ BK169.out) : gb170 ≠ gb169); clear BK169; clear HB; have BK169 := n0_; have HB := n1_; have BK170 := n2_; have GW170 := n3_; have GE170 := n4_; have NB169_170 := n5_; have NB170_169 := n6_; clear n0_ n1_ n2_ n3_ n4_ n5_ n6_; clear hb hbox hg; have hnb6 := NB169_170.out; have hnc6 := NB170_169.out; have hcz7_0 : w5.cell? ⟨gb169, 0, none⟩ = some (.int .u64 a0_0) := (blk_cell BK169.out 0).trans rfl; have hcz7_1 : w5.cell? ⟨gb169, 1, none⟩ = some (.int .u64 a0_1) := (blk_cell BK169.out 1).trans rfl; have hfz7_0 := blk_frozen BK169.out 0; have hfz7_1 := blk_frozen BK169.out 1; have hcz8_0 : w5.cell? ⟨gb170, 0, none⟩ = some (.int .u64 a1_0) := (blk_cell BK170.out 0).trans rfl; have hcz8_1 : w5.cell? ⟨gb170, 1, none⟩ = some (.int .u64 a1_1) := (blk_cell BK170.out 1).trans rfl; have hfz8_0 := blk_frozen BK170.out 0; have hfz8_1 := blk_frozen BK170.out 1))
  go_ret
  exact ⟨qe_, qb2_ GE169.out GE170.out HB.out⟩
 ·rw [if_neg c3] at H
  have c3b0 : decide (a0_0 < a1_0) = false := decide_eq_false c3
  clear c3
  by_cases c9 : a0_0 = a1_0
  ·rw [if_pos c9] at H
   have c9b0 : (a0_0 == a1_0) = true := beq_iff_eq.mpr c9
   have c9b1 : (a0_0 != a1_0) = false := bne_eq_false_iff_eq.mpr c9
   clear c9
   obtain rfl := Option.some.inj H
   go_enter Tryd.func59, Tryd.ntmps59
   go_wp2_with (first | ((with_reducible refine gate_dst (N := 2) rfl ?_); refine be_ (N := 2) (cs := #[.int .u64 a0_0, .int .u64 a0_1]) (t := 54) ?_; intro gb169 hg w10 hbox hb; have n0_ := Aside0.mk (below_step (qb_ HB.out) hb); have n1_ := Aside0.mk (hbox); have n2_ := Aside0.mk (bz_ hg (qb_ HB.out) : w.heap.size ≤ gb169); have n3_ := n2_; clear HB; have HB := n0_; have BK169 := n1_; have GW169 := n2_; have GE169 := n3_; clear n0_ n1_ n2_ n3_; clear hb hbox hg) | ((with_reducible refine gate_dst (N := 3) rfl ?_); refine be_ (N := 3) (cs := #[.int .u64 a1_0, .int .u64 a1_1]) (t := 54) ?_; intro gb170 hg w11 hbox hb; have n0_ := Aside0.mk (blk_below (qk_ BK169.out) hb); have n1_ := Aside0.mk (below_step (qb1_ GE169.out HB.out) hb); have n2_ := Aside0.mk (hbox); have n3_ := Aside0.mk (bz_ hg (qb1_ GE169.out HB.out) : w.heap.size ≤ gb170); have n4_ := n3_; have n5_ := Aside0.mk (nl_ hg (qk_ BK169.out) : gb169 ≠ gb170); have n6_ := Aside0.mk (ng_ hg (qk_ BK169.out) : gb170 ≠ gb169); clear BK169; clear HB; have BK169 := n0_; have HB := n1_; have BK170 := n2_; have GW170 := n3_; have GE170 := n4_; have NB169_170 := n5_; have NB170_169 := n6_; clear n0_ n1_ n2_ n3_ n4_ n5_ n6_; clear hb hbox hg; have hnb12 := NB169_170.out; have hnc12 := NB170_169.out; have hcz13_0 : w11.cell? ⟨gb169, 0, none⟩ = some (.int .u64 a0_0) := (blk_cell BK169.out 0).trans rfl; have hcz13_1 : w11.cell? ⟨gb169, 1, none⟩ = some (.int .u64 a0_1) := (blk_cell BK169.out 1).trans rfl; have hfz13_0 := blk_frozen BK169.out 0; have hfz13_1 := blk_frozen BK169.out 1; have hcz14_0 : w11.cell? ⟨gb170, 0, none⟩ = some (.int .u64 a1_0) := (blk_cell BK170.out 0).trans rfl; have hcz14_1 : w11.cell? ⟨gb170, 1, none⟩ = some (.int .u64 a1_1) := (blk_cell BK170.out 1).trans rfl; have hfz14_0 := blk_frozen BK170.out 0; have hfz14_1 := blk_frozen BK170.out 1))
   go_ret
   exact ⟨qe_, qb2_ GE169.out GE170.out HB.out⟩
  ·rw [if_neg c9] at H
   have c9b0 : (a0_0 == a1_0) = false := beq_eq_false_iff_ne.mpr c9
   have c9b1 : (a0_0 != a1_0) = true := bne_iff_ne.mpr c9
   obtain rfl := Option.some.inj H
   go_enter Tryd.func59, Tryd.ntmps59
   go_wp2_with (first | ((with_reducible refine gate_dst (N := 2) rfl ?_); refine be_ (N := 2) (cs := #[.int .u64 a0_0, .int .u64 a0_1]) (t := 54) ?_; intro gb169 hg w15 hbox hb; have n0_ := Aside0.mk (below_step (qb_ HB.out) hb); have n1_ := Aside0.mk (hbox); have n2_ := Aside0.mk (bz_ hg (qb_ HB.out) : w.heap.size ≤ gb169); have n3_ := n2_; clear HB; have HB := n0_; have BK169 := n1_; have GW169 := n2_; have GE169 := n3_; clear n0_ n1_ n2_ n3_; clear hb hbox hg) | ((with_reducible refine gate_dst (N := 3) rfl ?_); refine be_ (N := 3) (cs := #[.int .u64 a1_0, .int .u64 a1_1]) (t := 54) ?_; intro gb170 hg w16 hbox hb; have n0_ := Aside0.mk (blk_below (qk_ BK169.out) hb); have n1_ := Aside0.mk (below_step (qb1_ GE169.out HB.out) hb); have n2_ := Aside0.mk (hbox); have n3_ := Aside0.mk (bz_ hg (qb1_ GE169.out HB.out) : w.heap.size ≤ gb170); have n4_ := n3_; have n5_ := Aside0.mk (nl_ hg (qk_ BK169.out) : gb169 ≠ gb170); have n6_ := Aside0.mk (ng_ hg (qk_ BK169.out) : gb170 ≠ gb169); clear BK169; clear HB; have BK169 := n0_; have HB := n1_; have BK170 := n2_; have GW170 := n3_; have GE170 := n4_; have NB169_170 := n5_; have NB170_169 := n6_; clear n0_ n1_ n2_ n3_ n4_ n5_ n6_; clear hb hbox hg; have hnb17 := NB169_170.out; have hnc17 := NB170_169.out; have hcz18_0 : w16.cell? ⟨gb169, 0, none⟩ = some (.int .u64 a0_0) := (blk_cell BK169.out 0).trans rfl; have hcz18_1 : w16.cell? ⟨gb169, 1, none⟩ = some (.int .u64 a0_1) := (blk_cell BK169.out 1).trans rfl; have hfz18_0 := blk_frozen BK169.out 0; have hfz18_1 := blk_frozen BK169.out 1; have hcz19_0 : w16.cell? ⟨gb170, 0, none⟩ = some (.int .u64 a1_0) := (blk_cell BK170.out 0).trans rfl; have hcz19_1 : w16.cell? ⟨gb170, 1, none⟩ = some (.int .u64 a1_1) := (blk_cell BK170.out 1).trans rfl; have hfz19_0 := blk_frozen BK170.out 0; have hfz19_1 := blk_frozen BK170.out 1))
   go_ret
   exact ⟨qe_, qb2_ GE169.out GE170.out HB.out⟩
def corebankref01_Less.f (a0_0 a0_1 a1_0 a1_1 : Int) : Option Bool :=
 if (inU a0_0 ∧ inU a0_1) ∧ inU a1_0 ∧ inU a1_1 then some (decide (wv a0_0 a0_1 < wv a1_0 a1_1)) else none
theorem corebankref01_Less.eq {a b c d : Int} {r : Bool} (h : corebankref01_Less.f a b c d = some r) : corebankref01_LessP.f a b c d = some r := by
 unfold corebankref01_Less.f at h
 split at h
 ·rename_i q
  obtain ⟨⟨⟨a0, a1⟩, b0, b1⟩, ⟨c0, c1⟩, d0, d1⟩ := q
  injection h with h
  subst h
  unfold corebankref01_LessP.f wv
  repeat' split
  ·congr 1; symm; apply decide_eq_true; omega
  ·congr 1; apply decide_eq_decide.mpr; omega
  ·congr 1; symm; apply decide_eq_false; omega
 ·cases h
theorem corebankref01_Less.calls (a0_0 : Int) (a0_1 : Int) (a1_0 : Int) (a1_1 : Int) (r : Bool) (w : World) (h : corebankref01_Less.f a0_0 a0_1 a1_0 a1_1 = some r) :
  Calls Tryd.prog 59 #[.agg #[.int .u64 a0_0, .int .u64 a0_1], .agg #[.int .u64 a1_0, .int .u64 a1_1]] w fun e w' => e = .returned (.bool r) ∧ Below w.heap.size w w' := by
 have h := corebankref01_Less.eq h
 exact corebankref01_LessP.calls a0_0 a0_1 a1_0 a1_1 r w h
def corebankref01_minusP.f (a0_0 : Int) (a0_1 : Int) (a1_0 : Int) (a1_1 : Int) : Option (Int × Int) := if a0_1 < a1_1 then (some (IntKind.u64.wrap ((IntKind.u64.wrap (a0_0 - a1_0)) - 1), IntKind.u64.wrap (a0_1 - a1_1))) else (some (IntKind.u64.wrap (a0_0 - a1_0), IntKind.u64.wrap (a0_1 - a1_1)))
set_option maxHeartbeats 8000000 in
set_option maxRecDepth 100000 in
theorem corebankref01_minusP.calls (a0_0 : Int) (a0_1 : Int) (a1_0 : Int) (a1_1 : Int) (r1 : Int) (r2 : Int) (w : World) (h : corebankref01_minusP.f a0_0 a0_1 a1_0 a1_1 = some (r1, r2)) :
  Calls Tryd.prog 60 #[.agg #[.int .u64 a0_0, .int .u64 a0_1], .agg #[.int .u64 a1_0, .int .u64 a1_1]] w fun e w' => e = .returned (.agg #[.int .u64 r1, .int .u64 r2]) ∧ Below w.heap.size w w' := by
 have hu54 := Tryd.underlying54
 have HB := Aside0.mk (Below.refl w.heap.size w)
 have H : (if a0_1 < a1_1 then (some (IntKind.u64.wrap ((IntKind.u64.wrap (a0_0 - a1_0)) - 1), IntKind.u64.wrap (a0_1 - a1_1))) else (some (IntKind.u64.wrap (a0_0 - a1_0), IntKind.u64.wrap (a0_1 - a1_1)))) = some (r1, r2) := h
 clear h
 by_cases c3 : a0_1 < a1_1
 ·rw [if_pos c3] at H
  have c3b0 : decide (a0_1 < a1_1) = true := decide_eq_true c3
  clear c3
  simp only [Option.some.injEq, Prod.mk.injEq] at H
  obtain ⟨rfl, rfl⟩ := H
  go_enter Tryd.func60, Tryd.ntmps60
  go_wp2_with (first | ((with_reducible refine gate_dst (N := 2) rfl ?_); refine be_ (N := 2) (cs := #[.int .u64 a0_0, .int .u64 a0_1]) (t := 54) ?_; intro gb171 hg w4 hbox hb; have n0_ := Aside0.mk (below_step (qb_ HB.out) hb); have n1_ := Aside0.mk (hbox); have n2_ := Aside0.mk (bz_ hg (qb_ HB.out) : w.heap.size ≤ gb171); have n3_ := n2_; clear HB; have HB := n0_; have BK171 := n1_; have GW171 := n2_; have GE171 := n3_; clear n0_ n1_ n2_ n3_; clear hb hbox hg) | ((with_reducible refine gate_dst (N := 3) rfl ?_); refine be_ (N := 3) (cs := #[.int .u64 a1_0, .int .u64 a1_1]) (t := 54) ?_; intro gb172 hg w5 hbox hb; have n0_ := Aside0.mk (blk_below (qk_ BK171.out) hb); have n1_ := Aside0.mk (below_step (qb1_ GE171.out HB.out) hb); have n2_ := Aside0.mk (hbox); have n3_ := Aside0.mk (bz_ hg (qb1_ GE171.out HB.out) : w.heap.size ≤ gb172); have n4_ := n3_; have n5_ := Aside0.mk (nl_ hg (qk_ BK171.out) : gb171 ≠ gb172); have n6_ := Aside0.mk (ng_ hg (qk_ BK171.out) : gb172 ≠ gb171); clear BK171; clear HB; have BK171 := n0_; have HB := n1_; have BK172 := n2_; have GW172 := n3_; have GE172 := n4_; have NB171_172 := n5_; have NB172_171 := n6_; clear n0_ n1_ n2_ n3_ n4_ n5_ n6_; clear hb hbox hg) | ((with_reducible refine gate_dst (N := 4) rfl ?_); refine be_ (N := 4) (cs := #[.int .u64 0, .int .u64 0]) (t := 54) ?_; intro gb173 hg w6 hbox hb; have n0_ := Aside0.mk (blk_below (qk_ BK171.out) hb); have n1_ := Aside0.mk (blk_below (qk_ BK172.out) hb); have n2_ := Aside0.mk (below_step (qb2_ GE171.out GE172.out HB.out) hb); have n3_ := Aside0.mk (hbox); have n4_ := Aside0.mk (bz_ hg (qb2_ GE171.out GE172.out HB.out) : w.heap.size ≤ gb173); have n5_ := n4_; have n6_ := Aside0.mk (nl_ hg (qk_ BK171.out) : gb171 ≠ gb173); have n7_ := Aside0.mk (ng_ hg (qk_ BK171.out) : gb173 ≠ gb171); have n8_ := Aside0.mk (nl_ hg (qk_ BK172.out) : gb172 ≠ gb173); have n9_ := Aside0.mk (ng_ hg (qk_ BK172.out) : gb173 ≠ gb172); clear BK171; clear BK172; clear HB; have BK171 := n0_; have BK172 := n1_; have HB := n2_; have BK173 := n3_; have GW173 := n4_; have GE173 := n5_; have NB171_173 := n6_; have NB173_171 := n7_; have NB172_173 := n8_; have NB173_172 := n9_; clear n0_ n1_ n2_ n3_ n4_ n5_ n6_ n7_ n8_ n9_; clear hb hbox hg; have hnb7 := NB171_172.out; have hnc7 := NB172_171.out; have hnb8 := NB171_173.out; have hnc8 := NB173_171.out; have hcz9_0 : w6.cell? ⟨gb171, 0, none⟩ = some (.int .u64 a0_0) := (blk_cell BK171.out 0).trans rfl; have hcz9_1 : w6.cell? ⟨gb171, 1, none⟩ = some (.int .u64 a0_1) := (blk_cell BK171.out 1).trans rfl; have hfz9_0 := blk_frozen BK171.out 0; have hfz9_1 := blk_frozen BK171.out 1; have hnb10 := NB172_173.out; have hnc10 := NB173_172.out; have hcz11_0 : w6.cell? ⟨gb172, 0, none⟩ = some (.int .u64 a1_0) := (blk_cell BK172.out 0).trans rfl; have hcz11_1 : w6.cell? ⟨gb172, 1, none⟩ = some (.int .u64 a1_1) := (blk_cell BK172.out 1).trans rfl; have hfz11_0 := blk_frozen BK172.out 0; have hfz11_1 := blk_frozen BK172.out 1; have hcz12_0 : w6.cell? ⟨gb173, 0, none⟩ = some (.int .u64 0) := (blk_cell BK173.out 0).trans rfl; have hcz12_1 : w6.cell? ⟨gb173, 1, none⟩ = some (.int .u64 0) := (blk_cell BK173.out 1).trans rfl; have hfz12_0 := blk_frozen BK173.out 0; have hfz12_1 := blk_frozen BK173.out 1))
  refine bodyPost_ret (results_cell_row rfl _ _ gb173 54 #[.int .u64 (IntKind.u64.wrap ((IntKind.u64.wrap (a0_0 - a1_0)) - 1)), .int .u64 (IntKind.u64.wrap (a0_1 - a1_1))] (0, 0) _ rfl (qpp_ #[.int .u64 (IntKind.u64.wrap ((IntKind.u64.wrap (a0_0 - a1_0)) - 1)), .int .u64 0] 1 #[.int .u64 0, .int .u64 0] 0 BK173.out) Tryd.underlying54 rfl (by kernel_rfl)) rfl ?_
  exact ⟨qe_, qb3_ GE171.out GE172.out GE173.out HB.out⟩
 ·rw [if_neg c3] at H
  have c3b0 : decide (a0_1 < a1_1) = false := decide_eq_false c3
  clear c3
  simp only [Option.some.injEq, Prod.mk.injEq] at H
  obtain ⟨rfl, rfl⟩ := H
  go_enter Tryd.func60, Tryd.ntmps60
  go_wp2_with (first | ((with_reducible refine gate_dst (N := 2) rfl ?_); refine be_ (N := 2) (cs := #[.int .u64 a0_0, .int .u64 a0_1]) (t := 54) ?_; intro gb171 hg w13 hbox hb; have n0_ := Aside0.mk (below_step (qb_ HB.out) hb); have n1_ := Aside0.mk (hbox); have n2_ := Aside0.mk (bz_ hg (qb_ HB.out) : w.heap.size ≤ gb171); have n3_ := n2_; clear HB; have HB := n0_; have BK171 := n1_; have GW171 := n2_; have GE171 := n3_; clear n0_ n1_ n2_ n3_; clear hb hbox hg) | ((with_reducible refine gate_dst (N := 3) rfl ?_); refine be_ (N := 3) (cs := #[.int .u64 a1_0, .int .u64 a1_1]) (t := 54) ?_; intro gb172 hg w14 hbox hb; have n0_ := Aside0.mk (blk_below (qk_ BK171.out) hb); have n1_ := Aside0.mk (below_step (qb1_ GE171.out HB.out) hb); have n2_ := Aside0.mk (hbox); have n3_ := Aside0.mk (bz_ hg (qb1_ GE171.out HB.out) : w.heap.size ≤ gb172); have n4_ := n3_; have n5_ := Aside0.mk (nl_ hg (qk_ BK171.out) : gb171 ≠ gb172); have n6_ := Aside0.mk (ng_ hg (qk_ BK171.out) : gb172 ≠ gb171); clear BK171; clear HB; have BK171 := n0_; have HB := n1_; have BK172 := n2_; have GW172 := n3_; have GE172 := n4_; have NB171_172 := n5_; have NB172_171 := n6_; clear n0_ n1_ n2_ n3_ n4_ n5_ n6_; clear hb hbox hg) | ((with_reducible refine gate_dst (N := 4) rfl ?_); refine be_ (N := 4) (cs := #[.int .u64 0, .int .u64 0]) (t := 54) ?_; intro gb173 hg w15 hbox hb; have n0_ := Aside0.mk (blk_below (qk_ BK171.out) hb); have n1_ := Aside0.mk (blk_below (qk_ BK172.out) hb); have n2_ := Aside0.mk (below_step (qb2_ GE171.out GE172.out HB.out) hb); have n3_ := Aside0.mk (hbox); have n4_ := Aside0.mk (bz_ hg (qb2_ GE171.out GE172.out HB.out) : w.heap.size ≤ gb173); have n5_ := n4_; have n6_ := Aside0.mk (nl_ hg (qk_ BK171.out) : gb171 ≠ gb173); have n7_ := Aside0.mk (ng_ hg (qk_ BK171.out) : gb173 ≠ gb171); have n8_ := Aside0.mk (nl_ hg (qk_ BK172.out) : gb172 ≠ gb173); have n9_ := Aside0.mk (ng_ hg (qk_ BK172.out) : gb173 ≠ gb172); clear BK171; clear BK172; clear HB; have BK171 := n0_; have BK172 := n1_; have HB := n2_; have BK173 := n3_; have GW173 := n4_; have GE173 := n5_; have NB171_173 := n6_; have NB173_171 := n7_; have NB172_173 := n8_; have NB173_172 := n9_; clear n0_ n1_ n2_ n3_ n4_ n5_ n6_ n7_ n8_ n9_; clear hb hbox hg; have hnb16 := NB171_172.out; have hnc16 := NB172_171.out; have hnb17 := NB171_173.out; have hnc17 := NB173_171.out; have hcz18_0 : w15.cell? ⟨gb171, 0, none⟩ = some (.int .u64 a0_0) := (blk_cell BK171.out 0).trans rfl; have hcz18_1 : w15.cell? ⟨gb171, 1, none⟩ = some (.int .u64 a0_1) := (blk_cell BK171.out 1).trans rfl; have hfz18_0 := blk_frozen BK171.out 0; have hfz18_1 := blk_frozen BK171.out 1; have hnb19 := NB172_173.out; have hnc19 := NB173_172.out; have hcz20_0 : w15.cell? ⟨gb172, 0, none⟩ = some (.int .u64 a1_0) := (blk_cell BK172.out 0).trans rfl; have hcz20_1 : w15.cell? ⟨gb172, 1, none⟩ = some (.int .u64 a1_1) := (blk_cell BK172.out 1).trans rfl; have hfz20_0 := blk_frozen BK172.out 0; have hfz20_1 := blk_frozen BK172.out 1; have hcz21_0 : w15.cell? ⟨gb173, 0, none⟩ = some (.int .u64 0) := (blk_cell BK173.out 0).trans rfl; have hcz21_1 : w15.cell? ⟨gb173, 1, none⟩ = some (.int .u64 0) := (blk_cell BK173.out 1).trans rfl; have hfz21_0 := blk_frozen BK173.out 0; have hfz21_1 := blk_frozen BK173.out 1))
  refine bodyPost_ret (results_cell_row rfl _ _ gb173 54 #[.int .u64 (IntKind.u64.wrap (a0_0 - a1_0)), .int .u64 (IntKind.u64.wrap (a0_1 - a1_1))] (0, 0) _ rfl (qpp_ #[.int .u64 (IntKind.u64.wrap (a0_0 - a1_0)), .int .u64 0] 1 #[.int .u64 0, .int .u64 0] 0 BK173.out) Tryd.underlying54 rfl (by kernel_rfl)) rfl ?_
  exact ⟨qe_, qb3_ GE171.out GE172.out GE173.out HB.out⟩
def corebankref01_minus.f (a0_0 a0_1 a1_0 a1_1 : Int) : Option (Int × Int) :=
 if ((inU a0_0 ∧ inU a0_1) ∧ inU a1_0 ∧ inU a1_1) ∧ wv a1_0 a1_1 ≤ wv a0_0 a0_1 then some ((wv a0_0 a0_1 - wv a1_0 a1_1) / 18446744073709551616, (wv a0_0 a0_1 - wv a1_0 a1_1) % 18446744073709551616) else none
theorem corebankref01_minus.eq {a b c d : Int} {r : Int × Int} (h : corebankref01_minus.f a b c d = some r) : corebankref01_minusP.f a b c d = some r := by
 unfold corebankref01_minus.f at h
 split at h
 ·rename_i q
  obtain ⟨⟨⟨⟨a0, a1⟩, b0, b1⟩, ⟨c0, c1⟩, d0, d1⟩, hle⟩ := q
  injection h with h
  subst h
  unfold corebankref01_minusP.f
  unfold wv at *
  simp only [IntKind.wrap_u64]
  split <;> (congr 2 <;> omega)
 ·cases h
theorem corebankref01_minus.calls (a0_0 : Int) (a0_1 : Int) (a1_0 : Int) (a1_1 : Int) (r1 : Int) (r2 : Int) (w : World) (h : corebankref01_minus.f a0_0 a0_1 a1_0 a1_1 = some (r1, r2)) :
  Calls Tryd.prog 60 #[.agg #[.int .u64 a0_0, .int .u64 a0_1], .agg #[.int .u64 a1_0, .int .u64 a1_1]] w fun e w' => e = .returned (.agg #[.int .u64 r1, .int .u64 r2]) ∧ Below w.heap.size w w' := by
 have h := corebankref01_minus.eq h
 exact corebankref01_minusP.calls a0_0 a0_1 a1_0 a1_1 r1 r2 w h
end Go.Proofs.YtkdhippoibjfkaaDoor.PR
end
section
namespace Go.Proofs.YtkdhippoibjfkaaDoor.PR
open Go.RowKit Go.Proofs.YtkdhippoibjfkaaDoorW.PrintWords Go.Proofs.YtkdhippoibjfkaaDoorW.PrintLast
set_option linter.unusedVariables false
set_option linter.unusedSimpArgs false
mutual
def corebankref01_sumP.j0 : Nat → Bool → Bool → Int → Int → Option (Int × Int × Int)
 | 0, _, _, _, _ => none
 | k + 1, x10, x12, x178000, x178001 => (corebankref01_Join.f x10 x178000 x178001).bind fun bt186 => (if x12 = true then (corebankref01_sumP.j1 k (!bt186.2.2) bt186.1 bt186.2.1) else (corebankref01_sumP.j1 k true bt186.1 bt186.2.1))
def corebankref01_sumP.j1 : Nat → Bool → Int → Int → Option (Int × Int × Int)
 | 0, _, _, _ => none
 | k + 1, x49, x190000, x190001 => if x49 = true then (some (0, 0, 6)) else (some (x190000, x190001, 0))
end
def corebankref01_sumP.f (k : Nat) (a0 : Bool) (a1_0 : Int) (a1_1 : Int) (a2 : Bool) (a3_0 : Int) (a3_1 : Int) : Option (Int × Int × Int) := if (a0 == a2) = true then ((corebankref01_plus.f a1_0 a1_1 a3_0 a3_1).bind fun bt178 => (corebankref01_sumP.j0 k a0 bt178.2.2 bt178.1 bt178.2.1)) else ((corebankref01_Less.f a1_0 a1_1 a3_0 a3_1).bind fun t181 => (if t181 = true then ((corebankref01_minus.f a3_0 a3_1 a1_0 a1_1).bind fun bt182 => (corebankref01_sumP.j0 k a2 true bt182.1 bt182.2)) else ((corebankref01_minus.f a1_0 a1_1 a3_0 a3_1).bind fun bt184 => (corebankref01_sumP.j0 k a0 true bt184.1 bt184.2))))
theorem corebankref01_sumP.mono_l : ∀ k, (∀ y0 y1 y2 y3, LeO (corebankref01_sumP.j0 k y0 y1 y2 y3) (corebankref01_sumP.j0 (k + 1) y0 y1 y2 y3)) ∧ (∀ y0 y1 y2, LeO (corebankref01_sumP.j1 k y0 y1 y2) (corebankref01_sumP.j1 (k + 1) y0 y1 y2))
 | 0 => ⟨fun _ _ _ _ r h => by simp [corebankref01_sumP.j0] at h, fun _ _ _ r h => by simp [corebankref01_sumP.j1] at h⟩
 | k + 1 => by
  obtain ⟨ih0, ih1⟩ := corebankref01_sumP.mono_l k
  refine ⟨?_, ?_⟩
  ·intro y0 y1 y2 y3
   unfold corebankref01_sumP.j0
   repeat' first
   | (with_reducible exact ih0 _ _ _ _)
   | (with_reducible exact ih1 _ _ _)
   | (with_reducible exact LeO.refl _)
   | (with_reducible exact LeO.none _)
   | (with_reducible refine LeO.ite ?_ ?_)
   | (with_reducible refine LeO.bind ?_ (fun _ => ?_))
   | exact ih0 _ _ _ _
   | exact ih1 _ _ _
   | exact LeO.none _
   | refine LeO.ite ?_ ?_
   | refine LeO.bind ?_ (fun _ => ?_)
  ·intro y0 y1 y2
   unfold corebankref01_sumP.j1
   repeat' first
   | (with_reducible exact ih0 _ _ _ _)
   | (with_reducible exact ih1 _ _ _)
   | (with_reducible exact LeO.refl _)
   | (with_reducible exact LeO.none _)
   | (with_reducible refine LeO.ite ?_ ?_)
   | (with_reducible refine LeO.bind ?_ (fun _ => ?_))
   | exact ih0 _ _ _ _
   | exact ih1 _ _ _
   | exact LeO.none _
   | refine LeO.ite ?_ ?_
   | refine LeO.bind ?_ (fun _ => ?_)
theorem corebankref01_sumP.mono : ∀ a0 a1 a2 a3 a4 a5 k, LeO (corebankref01_sumP.f k a0 a1 a2 a3 a4 a5) (corebankref01_sumP.f (k + 1) a0 a1 a2 a3 a4 a5) := by
 intro a0 a1 a2 a3 a4 a5 k
 obtain ⟨ih0, ih1⟩ := corebankref01_sumP.mono_l k
 unfold corebankref01_sumP.f
 repeat' first
   | (with_reducible exact ih0 _ _ _ _)
   | (with_reducible exact ih1 _ _ _)
   | (with_reducible exact LeO.refl _)
   | (with_reducible exact LeO.none _)
   | (with_reducible refine LeO.ite ?_ ?_)
   | (with_reducible refine LeO.bind ?_ (fun _ => ?_))
   | exact ih0 _ _ _ _
   | exact ih1 _ _ _
   | exact LeO.none _
   | refine LeO.ite ?_ ?_
   | refine LeO.bind ?_ (fun _ => ?_)
set_option maxHeartbeats 8000000 in
set_option maxRecDepth 100000 in
theorem corebankref01_sumP.calls (k : Nat) (a0 : Bool) (a1_0 : Int) (a1_1 : Int) (a2 : Bool) (a3_0 : Int) (a3_1 : Int) (r1 : Int) (r2 : Int) (r3 : Int) (w : World) (h : corebankref01_sumP.f k a0 a1_0 a1_1 a2 a3_0 a3_1 = some (r1, r2, r3)) :
  Calls Tryd.prog 44 #[.bool a0, .agg #[.int .u64 a1_0, .int .u64 a1_1], .bool a2, .agg #[.int .u64 a3_0, .int .u64 a3_1]] w fun e w' => e = .returned (.tuple #[.agg #[.int .i64 r1, .int .u64 r2], .int .i64 r3]) ∧ Below w.heap.size w w' := by
 have hu54 := Tryd.underlying54
 have hu24 := Tryd.underlying24
 have HB := Aside0.mk (Below.refl w.heap.size w)
 have H : (if (a0 == a2) = true then ((corebankref01_plus.f a1_0 a1_1 a3_0 a3_1).bind fun bt178 => (corebankref01_sumP.j0 k a0 bt178.2.2 bt178.1 bt178.2.1)) else ((corebankref01_Less.f a1_0 a1_1 a3_0 a3_1).bind fun t181 => (if t181 = true then ((corebankref01_minus.f a3_0 a3_1 a1_0 a1_1).bind fun bt182 => (corebankref01_sumP.j0 k a2 true bt182.1 bt182.2)) else ((corebankref01_minus.f a1_0 a1_1 a3_0 a3_1).bind fun bt184 => (corebankref01_sumP.j0 k a0 true bt184.1 bt184.2))))) = some (r1, r2, r3) := h
 clear h
 have HC5 := Aside0.mk H
 clear H
 go_enter Tryd.func44, Tryd.ntmps44
 try go_wp2_with (first | ((with_reducible refine gate_dst (N := 5) rfl ?_); refine be_ (N := 5) (cs := #[.int .u64 a1_0, .int .u64 a1_1]) (t := 54) ?_; intro gb174 hg w6 hbox hb; have n0_ := Aside0.mk (below_step (qb_ HB.out) hb); have n1_ := Aside0.mk (hbox); have n2_ := Aside0.mk (bz_ hg (qb_ HB.out) : w.heap.size ≤ gb174); have n3_ := n2_; clear HB; have HB := n0_; have BK174 := n1_; have GW174 := n2_; have GE174 := n3_; clear n0_ n1_ n2_ n3_; clear hb hbox hg) | ((with_reducible refine gate_dst (N := 7) rfl ?_); refine be_ (N := 7) (cs := #[.int .u64 a3_0, .int .u64 a3_1]) (t := 54) ?_; intro gb175 hg w7 hbox hb; have n0_ := Aside0.mk (blk_below (qk_ BK174.out) hb); have n1_ := Aside0.mk (below_step (qb1_ GE174.out HB.out) hb); have n2_ := Aside0.mk (hbox); have n3_ := Aside0.mk (bz_ hg (qb1_ GE174.out HB.out) : w.heap.size ≤ gb175); have n4_ := n3_; have n5_ := Aside0.mk (nl_ hg (qk_ BK174.out) : gb174 ≠ gb175); have n6_ := Aside0.mk (ng_ hg (qk_ BK174.out) : gb175 ≠ gb174); clear BK174; clear HB; have BK174 := n0_; have HB := n1_; have BK175 := n2_; have GW175 := n3_; have GE175 := n4_; have NB174_175 := n5_; have NB175_174 := n6_; clear n0_ n1_ n2_ n3_ n4_ n5_ n6_; clear hb hbox hg) | ((with_reducible refine gate_dst (N := 8) rfl ?_); refine be_ (N := 8) (cs := #[.int .i64 0, .int .u64 0]) (t := 24) ?_; intro gb176 hg w8 hbox hb; have n0_ := Aside0.mk (blk_below (qk_ BK174.out) hb); have n1_ := Aside0.mk (blk_below (qk_ BK175.out) hb); have n2_ := Aside0.mk (below_step (qb2_ GE174.out GE175.out HB.out) hb); have n3_ := Aside0.mk (hbox); have n4_ := Aside0.mk (bz_ hg (qb2_ GE174.out GE175.out HB.out) : w.heap.size ≤ gb176); have n5_ := n4_; have n6_ := Aside0.mk (nl_ hg (qk_ BK174.out) : gb174 ≠ gb176); have n7_ := Aside0.mk (ng_ hg (qk_ BK174.out) : gb176 ≠ gb174); have n8_ := Aside0.mk (nl_ hg (qk_ BK175.out) : gb175 ≠ gb176); have n9_ := Aside0.mk (ng_ hg (qk_ BK175.out) : gb176 ≠ gb175); clear BK174; clear BK175; clear HB; have BK174 := n0_; have BK175 := n1_; have HB := n2_; have BK176 := n3_; have GW176 := n4_; have GE176 := n5_; have NB174_176 := n6_; have NB176_174 := n7_; have NB175_176 := n8_; have NB176_175 := n9_; clear n0_ n1_ n2_ n3_ n4_ n5_ n6_ n7_ n8_ n9_; clear hb hbox hg))
 have n0_ := Aside0.mk (blk_drew BK174.out)
 have n1_ := Aside0.mk (blk_drew BK175.out)
 have n2_ := Aside0.mk (blk_drew BK176.out)
 have n3_ := Aside0.mk (below_drew1 HB.out)
 clear BK174
 clear BK175
 clear BK176
 clear HB
 have BK174 := n0_
 have BK175 := n1_
 have BK176 := n2_
 have HB := n3_
 clear n0_ n1_ n2_ n3_
 refine start_ (n := 6) (S := fun w' => w'.cell? ⟨gb174, 0, none⟩ = some (.int .u64 a1_0) ∧ w'.cell? ⟨gb174, 1, none⟩ = some (.int .u64 a1_1)) (ds := []) (nb_ 6 0) (by kernel_rfl) rfl rfl ⟨(blk_cell BK174.out 0).trans rfl, (blk_cell BK174.out 1).trans rfl⟩ (fun hHeld => ?_)
 generalize w8.drew = w9 at BK174 BK175 BK176 HB hHeld ⊢
 refine pure_ (i := 0) (N := some 15) (v := ?_) (a' := ?_) (nb_ 6 1) rfl rfl (by kernel_rfl) (fun _ _ _ h => h) (Or.inl ⟨by rfl, ?_⟩) ?_ ?_
 rotate_left
 ·intro w'
  go_simp
  with_reducible rfl
 rotate_left
 ·simp only [Act.put, List.setIfInBounds_toArray, List.set_cons_zero, List.set_cons_succ, i64_w, i32_w]
  rfl
 refine take_ (i := 1) (N := some 16) (v := ?_) (a' := ?_) (nb_ 6 3) rfl rfl (by kernel_rfl) (fun _ _ _ h => h) (Or.inl ⟨by rfl, ?_⟩) hHeld ?_ ?_
 rotate_left
 ·rintro w' ⟨s0, s1⟩
  go_simp
  with_reducible rfl
 rotate_left
 ·simp only [Act.put, List.setIfInBounds_toArray, List.set_cons_zero, List.set_cons_succ, i64_w, i32_w]
  rfl
 refine one_ (i := 2) (N := some 11) (nb_ 6 7) rfl rfl (by kernel_rfl) (by decide) (fun K hK => ?_)
 refine box_step ?hg (N := 11) ?hd (cs := #[.int .u64 0, .int .u64 0]) (t := 54) ?hr ?_; (case hd => rfl); (case hg => rfl); (case hr => first | (go_simp; done) | (go_simp; rfl))
 intro gb177 hg w10 hbox hb
 have n0_ := Aside0.mk (blk_below (qk_ BK174.out) hb)
 have n1_ := Aside0.mk (blk_below (qk_ BK175.out) hb)
 have n2_ := Aside0.mk (blk_below (qk_ BK176.out) hb)
 have n3_ := Aside0.mk (below_step (qb3_ GE174.out GE175.out GE176.out HB.out) hb)
 have n4_ := Aside0.mk (hbox)
 have n5_ := Aside0.mk (bz_ hg (qb3_ GE174.out GE175.out GE176.out HB.out) : w.heap.size ≤ gb177)
 have n6_ := Aside0.mk (bz_ hg (qb3_ GE174.out GE175.out GE176.out HB.out) : w.heap.size ≤ gb177)
 have n7_ := Aside0.mk (nl_ hg (qk_ BK174.out) : gb174 ≠ gb177)
 have n8_ := Aside0.mk (ng_ hg (qk_ BK174.out) : gb177 ≠ gb174)
 have n9_ := Aside0.mk (nl_ hg (qk_ BK175.out) : gb175 ≠ gb177)
 have n10_ := Aside0.mk (ng_ hg (qk_ BK175.out) : gb177 ≠ gb175)
 have n11_ := Aside0.mk (nl_ hg (qk_ BK176.out) : gb176 ≠ gb177)
 have n12_ := Aside0.mk (ng_ hg (qk_ BK176.out) : gb177 ≠ gb176)
 clear BK174
 clear BK175
 clear BK176
 clear HB
 have BK174 := n0_
 have BK175 := n1_
 have BK176 := n2_
 have HB := n3_
 have BK177 := n4_
 have GW177 := n5_
 have GE177 := n6_
 have NB174_177 := n7_
 have NB177_174 := n8_
 have NB175_177 := n9_
 have NB177_175 := n10_
 have NB176_177 := n11_
 have NB177_176 := n12_
 clear n0_ n1_ n2_ n3_ n4_ n5_ n6_ n7_ n8_ n9_ n10_ n11_ n12_
 clear hb hbox hg
 refine hK.out _ _ ⟨(blk_cell BK174.out 0).trans rfl, (blk_cell BK174.out 1).trans rfl⟩ (fun hHeld => ?_)
 clear hK K
 refine no_ ?_
 refine pure_ (i := 3) (N := some 10) (v := ?_) (a' := ?_) (nb_ 6 15) rfl rfl (by kernel_rfl) (fun _ _ _ h => h) (Or.inl ⟨by rfl, ?_⟩) ?_ ?_
 rotate_left
 ·intro w'
  go_simp
  with_reducible rfl
 rotate_left
 ·simp only [Act.put, List.setIfInBounds_toArray, List.set_cons_zero, List.set_cons_succ, i64_w, i32_w]
  rfl
 refine one_ (i := 4) (N := none) (nb_ 6 31) rfl rfl (by kernel_rfl) (by decide) (fun K hK => ?_)
 have hs11 : w10.cell? ⟨gb177, 0, none⟩ = some (.int .u64 0) := (blk_cell BK177.out 0).trans rfl
 have hfs11 := blk_frozen BK177.out 0
 have hns11_0 := NB174_177.out
 have hns11_1 := NB175_177.out
 have hns11_2 := NB176_177.out
 have hms11_0 := NB177_174.out
 have hms11_1 := NB177_175.out
 have hms11_2 := NB177_176.out
 have hs12 : w10.cell? ⟨gb177, 1, none⟩ = some (.int .u64 0) := (blk_cell BK177.out 1).trans rfl
 have hfs12 := blk_frozen BK177.out 1
 have hns12_0 := NB174_177.out
 have hns12_1 := NB175_177.out
 have hns12_2 := NB176_177.out
 have hms12_0 := NB177_174.out
 have hms12_1 := NB177_175.out
 have hms12_2 := NB177_176.out
 refine skip_ (w1 := ?_) (by rfl) rfl ?_ ?_
 rotate_left
 ·go_simp
  rfl
 refine hK.out _ _ ⟨((cell_far (p := ⟨gb177, _, none⟩) NB174_177.out _).trans (((cell_far (p := ⟨gb177, _, none⟩) NB174_177.out _).trans (hHeld.1)))), ((cell_far (p := ⟨gb177, _, none⟩) NB174_177.out _).trans (((cell_far (p := ⟨gb177, _, none⟩) NB174_177.out _).trans (hHeld.2))))⟩ (fun hHeld => ?_)
 clear hK K
 refine pure_ (i := 5) (N := some 12) (v := ?_) (a' := ?_) (nb_ 6 63) rfl rfl (by kernel_rfl) (fun _ _ _ h => h) (Or.inl ⟨by rfl, ?_⟩) ?_ ?_
 rotate_left
 ·intro w'
  go_simp
  with_reducible rfl
 rotate_left
 ·simp only [Act.put, List.setIfInBounds_toArray, List.set_cons_zero, List.set_cons_succ, i64_w, i32_w]
  rfl
 refine done_ (by kernel_rfl) ?_
 go_upto_block 0 with (fail)
 go_cut [10, 12] (fun v10 v12 wc => ∃ (kq : Nat) (x10_4 : Bool) (x12_4 : Bool) (x178000_4 : Int) (x178001_4 : Int), v10 = .bool x10_4 ∧ v12 = .bool x12_4 ∧ Aside0 (corebankref01_sumP.j0 kq x10_4 x12_4 x178000_4 x178001_4 = some (r1, r2, r3)) ∧ Aside0 (kq ≤ k) ∧ Aside0 (wc.heap[gb174]? = some (.cells #[.int .u64 a1_0, .int .u64 a1_1] 54 (0, 0))) ∧ Aside0 (wc.heap[gb175]? = some (.cells #[.int .u64 a3_0, .int .u64 a3_1] 54 (0, 0))) ∧ Aside0 (wc.heap[gb176]? = some (.cells #[.int .i64 0, .int .u64 0] 24 (0, 0))) ∧ Aside0 (wc.heap[gb177]? = some (.cells #[.int .u64 x178000_4, .int .u64 x178001_4] 54 (0, 0))) ∧ Aside0 (Below w.heap.size w wc))
 case first =>
  have H := HC5.out
  clear HC5
  by_cases c13 : (a0 == a2) = true
  ·rw [if_pos c13] at H
   have c13b0 : (a0 == a2) = true := c13
   (try (have c13b1 : decide (a0 = a2) = true := by simpa using c13))
   (try (have c13b2 : (a0 == a2) = true := by simpa using c13))
   clear c13
   (first | rw [c13b0] | (simp only [i64_w, i32_w]; rw [c13b0]) | skip)
   replace H := Option.bind_eq_some_iff.mp H
   obtain ⟨⟨t178, t179, t180⟩, A140, H⟩ := H
   replace H : (corebankref01_sumP.j0 k a0 t180 t178 t179) = some (r1, r2, r3) := H
   have A14 := Aside0.mk A140
   clear A140
   have H' := Aside0.mk H
   clear H
   have hnb15 := NB174_175.out
   have hnc15 := NB175_174.out
   have hnb16 := NB174_176.out
   have hnc16 := NB176_174.out
   have hnb17 := NB174_177.out
   have hnc17 := NB177_174.out
   have hcz18_0 : w10.cell? ⟨gb174, 0, none⟩ = some (.int .u64 a1_0) := (blk_cell BK174.out 0).trans rfl
   have hcz18_1 : w10.cell? ⟨gb174, 1, none⟩ = some (.int .u64 a1_1) := (blk_cell BK174.out 1).trans rfl
   have hfz18_0 := blk_frozen BK174.out 0
   have hfz18_1 := blk_frozen BK174.out 1
   have hnb19 := NB175_176.out
   have hnc19 := NB176_175.out
   have hnb20 := NB175_177.out
   have hnc20 := NB177_175.out
   have hcz21_0 : w10.cell? ⟨gb175, 0, none⟩ = some (.int .u64 a3_0) := (blk_cell BK175.out 0).trans rfl
   have hcz21_1 : w10.cell? ⟨gb175, 1, none⟩ = some (.int .u64 a3_1) := (blk_cell BK175.out 1).trans rfl
   have hfz21_0 := blk_frozen BK175.out 0
   have hfz21_1 := blk_frozen BK175.out 1
   go_wp2_with (first | ((with_reducible refine gate_callee (f := 48) rfl ?_); refine goesL_ (some 27) rfl rfl Tryd.func48 (by kernel_rfl) rfl #[.agg #[.int .u64 a1_0, .int .u64 a1_1], .agg #[.int .u64 a3_0, .int .u64 a3_1]] rfl ql_ ?_; (with_reducible refine (corebankref01_plus.calls a1_0 a1_1 a3_0 a3_1 t178 t179 t180 _ A14.out).mono ?_); rintro e w22 ⟨rfl, hb⟩; refine ⟨_, rfl, ?_⟩; have n0_ := Aside0.mk (blk_below (g := gb174) (o := .cells #[.int .u64 a1_0, .int .u64 a1_1] 54 (0, 0)) (qff_ NB174_177.out NB174_177.out BK174.out) hb); have n1_ := Aside0.mk (blk_below (g := gb175) (o := .cells #[.int .u64 a3_0, .int .u64 a3_1] 54 (0, 0)) (qff_ NB175_177.out NB175_177.out BK175.out) hb); have n2_ := Aside0.mk (blk_below (g := gb176) (o := .cells #[.int .i64 0, .int .u64 0] 24 (0, 0)) (qff_ NB176_177.out NB176_177.out BK176.out) hb); have n3_ := Aside0.mk (blk_below (g := gb177) (o := .cells #[.int .u64 a1_0, .int .u64 a1_1] 54 (0, 0)) (qpp_ #[.int .u64 a1_0, .int .u64 0] 1 #[.int .u64 0, .int .u64 0] 0 BK177.out) hb); have n4_ := Aside0.mk (below_step (qb4_ GE174.out GE175.out GE176.out GE177.out HB.out) hb); clear BK174; clear BK175; clear BK176; clear BK177; clear HB; have BK174 := n0_; have BK175 := n1_; have BK176 := n2_; have BK177 := n3_; have HB := n4_; clear n0_ n1_ n2_ n3_ n4_; (try clear hb); (try clear hb2); (try clear hk); (try clear hi); have hnb23 := NB177_176.out; have hnc23 := NB176_177.out; have hcz24_0 : w22.cell? ⟨gb177, 0, none⟩ = some (.int .u64 a1_0) := (blk_cell BK177.out 0).trans rfl; have hcz24_1 : w22.cell? ⟨gb177, 1, none⟩ = some (.int .u64 a1_1) := (blk_cell BK177.out 1).trans rfl; have hfz24_0 := blk_frozen BK177.out 0; have hfz24_1 := blk_frozen BK177.out 1))
   go_meet
   case rel => exact ⟨_, (a0), (t180), (t178), (t179), qs_, qs_, H', ⟨qo_⟩, ⟨qff_ NB174_177.out NB174_177.out BK174.out⟩, ⟨qff_ NB175_177.out NB175_177.out BK175.out⟩, ⟨qff_ NB176_177.out NB176_177.out BK176.out⟩, ⟨qpp_ #[.int .u64 t178, .int .u64 a1_1] 1 #[.int .u64 a1_0, .int .u64 a1_1] 0 BK177.out⟩, ⟨qb4_ GE174.out GE175.out GE176.out GE177.out HB.out⟩⟩
  ·rw [if_neg c13] at H
   have c13b0 : (a0 == a2) = false := by simpa using c13
   (try (have c13b1 : decide (a0 = a2) = false := by simpa using c13))
   (try (have c13b2 : (a0 == a2) = false := by simpa using c13))
   (try (have c13b3 : ¬ (a0 = a2) := by simpa using c13))
   clear c13
   (first | rw [c13b0] | (simp only [i64_w, i32_w]; rw [c13b0]) | skip)
   replace H := Option.bind_eq_some_iff.mp H
   obtain ⟨t181, A250, H⟩ := H
   replace H : (if t181 = true then ((corebankref01_minus.f a3_0 a3_1 a1_0 a1_1).bind fun bt182 => (corebankref01_sumP.j0 k a2 true bt182.1 bt182.2)) else ((corebankref01_minus.f a1_0 a1_1 a3_0 a3_1).bind fun bt184 => (corebankref01_sumP.j0 k a0 true bt184.1 bt184.2))) = some (r1, r2, r3) := H
   have A25 := Aside0.mk A250
   clear A250
   by_cases c26 : t181 = true
   ·subst c26
    have H1 : ((corebankref01_minus.f a3_0 a3_1 a1_0 a1_1).bind fun bt182 => (corebankref01_sumP.j0 k a2 true bt182.1 bt182.2)) = some (r1, r2, r3) := by rw [if_pos rfl] at H; exact H
    clear H
    have H := H1
    clear H1
    replace H := Option.bind_eq_some_iff.mp H
    obtain ⟨⟨t182, t183⟩, A270, H⟩ := H
    replace H : (corebankref01_sumP.j0 k a2 true t182 t183) = some (r1, r2, r3) := H
    have A27 := Aside0.mk A270
    clear A270
    have H' := Aside0.mk H
    clear H
    have hnb28 := NB174_175.out
    have hnc28 := NB175_174.out
    have hnb29 := NB174_176.out
    have hnc29 := NB176_174.out
    have hnb30 := NB174_177.out
    have hnc30 := NB177_174.out
    have hcz31_0 : w10.cell? ⟨gb174, 0, none⟩ = some (.int .u64 a1_0) := (blk_cell BK174.out 0).trans rfl
    have hcz31_1 : w10.cell? ⟨gb174, 1, none⟩ = some (.int .u64 a1_1) := (blk_cell BK174.out 1).trans rfl
    have hfz31_0 := blk_frozen BK174.out 0
    have hfz31_1 := blk_frozen BK174.out 1
    have hnb32 := NB175_176.out
    have hnc32 := NB176_175.out
    have hnb33 := NB175_177.out
    have hnc33 := NB177_175.out
    have hcz34_0 : w10.cell? ⟨gb175, 0, none⟩ = some (.int .u64 a3_0) := (blk_cell BK175.out 0).trans rfl
    have hcz34_1 : w10.cell? ⟨gb175, 1, none⟩ = some (.int .u64 a3_1) := (blk_cell BK175.out 1).trans rfl
    have hfz34_0 := blk_frozen BK175.out 0
    have hfz34_1 := blk_frozen BK175.out 1
    go_wp2_with (first | ((with_reducible refine gate_callee (f := 59) rfl ?_); refine goesL_ (some 33) rfl rfl Tryd.func59 (by kernel_rfl) rfl #[.agg #[.int .u64 a1_0, .int .u64 a1_1], .agg #[.int .u64 a3_0, .int .u64 a3_1]] rfl ql_ ?_; (with_reducible refine (corebankref01_Less.calls a1_0 a1_1 a3_0 a3_1 true _ A25.out).mono ?_); rintro e w35 ⟨rfl, hb⟩; refine ⟨_, rfl, ?_⟩; have n0_ := Aside0.mk (blk_below (g := gb174) (o := .cells #[.int .u64 a1_0, .int .u64 a1_1] 54 (0, 0)) (qff_ NB174_177.out NB174_177.out BK174.out) hb); have n1_ := Aside0.mk (blk_below (g := gb175) (o := .cells #[.int .u64 a3_0, .int .u64 a3_1] 54 (0, 0)) (qff_ NB175_177.out NB175_177.out BK175.out) hb); have n2_ := Aside0.mk (blk_below (g := gb176) (o := .cells #[.int .i64 0, .int .u64 0] 24 (0, 0)) (qff_ NB176_177.out NB176_177.out BK176.out) hb); have n3_ := Aside0.mk (blk_below (g := gb177) (o := .cells #[.int .u64 a1_0, .int .u64 a1_1] 54 (0, 0)) (qpp_ #[.int .u64 a1_0, .int .u64 0] 1 #[.int .u64 0, .int .u64 0] 0 BK177.out) hb); have n4_ := Aside0.mk (below_step (qb4_ GE174.out GE175.out GE176.out GE177.out HB.out) hb); clear BK174; clear BK175; clear BK176; clear BK177; clear HB; have BK174 := n0_; have BK175 := n1_; have BK176 := n2_; have BK177 := n3_; have HB := n4_; clear n0_ n1_ n2_ n3_ n4_; (try clear hb); (try clear hb2); (try clear hk); (try clear hi); have hcz36_0 : w35.cell? ⟨gb175, 0, none⟩ = some (.int .u64 a3_0) := (blk_cell BK175.out 0).trans rfl; have hcz36_1 : w35.cell? ⟨gb175, 1, none⟩ = some (.int .u64 a3_1) := (blk_cell BK175.out 1).trans rfl; have hfz36_0 := blk_frozen BK175.out 0; have hfz36_1 := blk_frozen BK175.out 1; have hcz37_0 : w35.cell? ⟨gb174, 0, none⟩ = some (.int .u64 a1_0) := (blk_cell BK174.out 0).trans rfl; have hcz37_1 : w35.cell? ⟨gb174, 1, none⟩ = some (.int .u64 a1_1) := (blk_cell BK174.out 1).trans rfl; have hfz37_0 := blk_frozen BK174.out 0; have hfz37_1 := blk_frozen BK174.out 1) | ((with_reducible refine gate_callee (f := 60) rfl ?_); refine goesL_ (some 37) rfl rfl Tryd.func60 (by kernel_rfl) rfl #[.agg #[.int .u64 a3_0, .int .u64 a3_1], .agg #[.int .u64 a1_0, .int .u64 a1_1]] rfl ql_ ?_; (with_reducible refine (corebankref01_minus.calls a3_0 a3_1 a1_0 a1_1 t182 t183 _ A27.out).mono ?_); rintro e w38 ⟨rfl, hb⟩; refine ⟨_, rfl, ?_⟩; have n0_ := Aside0.mk (blk_below (qk_ BK174.out) hb); have n1_ := Aside0.mk (blk_below (qk_ BK175.out) hb); have n2_ := Aside0.mk (blk_below (qk_ BK176.out) hb); have n3_ := Aside0.mk (blk_below (qk_ BK177.out) hb); have n4_ := Aside0.mk (below_step (qb4_ GE174.out GE175.out GE176.out GE177.out HB.out) hb); clear BK174; clear BK175; clear BK176; clear BK177; clear HB; have BK174 := n0_; have BK175 := n1_; have BK176 := n2_; have BK177 := n3_; have HB := n4_; clear n0_ n1_ n2_ n3_ n4_; (try clear hb); (try clear hb2); (try clear hk); (try clear hi); have hnb39 := NB177_176.out; have hnc39 := NB176_177.out; have hcz40_0 : w38.cell? ⟨gb177, 0, none⟩ = some (.int .u64 a1_0) := (blk_cell BK177.out 0).trans rfl; have hcz40_1 : w38.cell? ⟨gb177, 1, none⟩ = some (.int .u64 a1_1) := (blk_cell BK177.out 1).trans rfl; have hfz40_0 := blk_frozen BK177.out 0; have hfz40_1 := blk_frozen BK177.out 1))
    go_meet
    case rel => exact ⟨_, (a2), (true), (t182), (t183), qs_, qs_, H', ⟨qo_⟩, ⟨qff_ NB174_177.out NB174_177.out BK174.out⟩, ⟨qff_ NB175_177.out NB175_177.out BK175.out⟩, ⟨qff_ NB176_177.out NB176_177.out BK176.out⟩, ⟨qpp_ #[.int .u64 t182, .int .u64 a1_1] 1 #[.int .u64 a1_0, .int .u64 a1_1] 0 BK177.out⟩, ⟨qb4_ GE174.out GE175.out GE176.out GE177.out HB.out⟩⟩
   ·replace c26 := Bool.eq_false_iff.mpr c26
    subst c26
    have H1 : ((corebankref01_minus.f a1_0 a1_1 a3_0 a3_1).bind fun bt184 => (corebankref01_sumP.j0 k a0 true bt184.1 bt184.2)) = some (r1, r2, r3) := by rw [if_neg (show ¬ (false = true) by decide)] at H; exact H
    clear H
    have H := H1
    clear H1
    replace H := Option.bind_eq_some_iff.mp H
    obtain ⟨⟨t184, t185⟩, A410, H⟩ := H
    replace H : (corebankref01_sumP.j0 k a0 true t184 t185) = some (r1, r2, r3) := H
    have A41 := Aside0.mk A410
    clear A410
    have H' := Aside0.mk H
    clear H
    have hnb42 := NB174_175.out
    have hnc42 := NB175_174.out
    have hnb43 := NB174_176.out
    have hnc43 := NB176_174.out
    have hnb44 := NB174_177.out
    have hnc44 := NB177_174.out
    have hcz45_0 : w10.cell? ⟨gb174, 0, none⟩ = some (.int .u64 a1_0) := (blk_cell BK174.out 0).trans rfl
    have hcz45_1 : w10.cell? ⟨gb174, 1, none⟩ = some (.int .u64 a1_1) := (blk_cell BK174.out 1).trans rfl
    have hfz45_0 := blk_frozen BK174.out 0
    have hfz45_1 := blk_frozen BK174.out 1
    have hnb46 := NB175_176.out
    have hnc46 := NB176_175.out
    have hnb47 := NB175_177.out
    have hnc47 := NB177_175.out
    have hcz48_0 : w10.cell? ⟨gb175, 0, none⟩ = some (.int .u64 a3_0) := (blk_cell BK175.out 0).trans rfl
    have hcz48_1 : w10.cell? ⟨gb175, 1, none⟩ = some (.int .u64 a3_1) := (blk_cell BK175.out 1).trans rfl
    have hfz48_0 := blk_frozen BK175.out 0
    have hfz48_1 := blk_frozen BK175.out 1
    go_wp2_with (first | ((with_reducible refine gate_callee (f := 59) rfl ?_); refine goesL_ (some 33) rfl rfl Tryd.func59 (by kernel_rfl) rfl #[.agg #[.int .u64 a1_0, .int .u64 a1_1], .agg #[.int .u64 a3_0, .int .u64 a3_1]] rfl ql_ ?_; (with_reducible refine (corebankref01_Less.calls a1_0 a1_1 a3_0 a3_1 false _ A25.out).mono ?_); rintro e w49 ⟨rfl, hb⟩; refine ⟨_, rfl, ?_⟩; have n0_ := Aside0.mk (blk_below (g := gb174) (o := .cells #[.int .u64 a1_0, .int .u64 a1_1] 54 (0, 0)) (qff_ NB174_177.out NB174_177.out BK174.out) hb); have n1_ := Aside0.mk (blk_below (g := gb175) (o := .cells #[.int .u64 a3_0, .int .u64 a3_1] 54 (0, 0)) (qff_ NB175_177.out NB175_177.out BK175.out) hb); have n2_ := Aside0.mk (blk_below (g := gb176) (o := .cells #[.int .i64 0, .int .u64 0] 24 (0, 0)) (qff_ NB176_177.out NB176_177.out BK176.out) hb); have n3_ := Aside0.mk (blk_below (g := gb177) (o := .cells #[.int .u64 a1_0, .int .u64 a1_1] 54 (0, 0)) (qpp_ #[.int .u64 a1_0, .int .u64 0] 1 #[.int .u64 0, .int .u64 0] 0 BK177.out) hb); have n4_ := Aside0.mk (below_step (qb4_ GE174.out GE175.out GE176.out GE177.out HB.out) hb); clear BK174; clear BK175; clear BK176; clear BK177; clear HB; have BK174 := n0_; have BK175 := n1_; have BK176 := n2_; have BK177 := n3_; have HB := n4_; clear n0_ n1_ n2_ n3_ n4_; (try clear hb); (try clear hb2); (try clear hk); (try clear hi); have hcz50_0 : w49.cell? ⟨gb174, 0, none⟩ = some (.int .u64 a1_0) := (blk_cell BK174.out 0).trans rfl; have hcz50_1 : w49.cell? ⟨gb174, 1, none⟩ = some (.int .u64 a1_1) := (blk_cell BK174.out 1).trans rfl; have hfz50_0 := blk_frozen BK174.out 0; have hfz50_1 := blk_frozen BK174.out 1; have hcz51_0 : w49.cell? ⟨gb175, 0, none⟩ = some (.int .u64 a3_0) := (blk_cell BK175.out 0).trans rfl; have hcz51_1 : w49.cell? ⟨gb175, 1, none⟩ = some (.int .u64 a3_1) := (blk_cell BK175.out 1).trans rfl; have hfz51_0 := blk_frozen BK175.out 0; have hfz51_1 := blk_frozen BK175.out 1) | ((with_reducible refine gate_callee (f := 60) rfl ?_); refine goesL_ (some 19) rfl rfl Tryd.func60 (by kernel_rfl) rfl #[.agg #[.int .u64 a1_0, .int .u64 a1_1], .agg #[.int .u64 a3_0, .int .u64 a3_1]] rfl ql_ ?_; (with_reducible refine (corebankref01_minus.calls a1_0 a1_1 a3_0 a3_1 t184 t185 _ A41.out).mono ?_); rintro e w52 ⟨rfl, hb⟩; refine ⟨_, rfl, ?_⟩; have n0_ := Aside0.mk (blk_below (qk_ BK174.out) hb); have n1_ := Aside0.mk (blk_below (qk_ BK175.out) hb); have n2_ := Aside0.mk (blk_below (qk_ BK176.out) hb); have n3_ := Aside0.mk (blk_below (qk_ BK177.out) hb); have n4_ := Aside0.mk (below_step (qb4_ GE174.out GE175.out GE176.out GE177.out HB.out) hb); clear BK174; clear BK175; clear BK176; clear BK177; clear HB; have BK174 := n0_; have BK175 := n1_; have BK176 := n2_; have BK177 := n3_; have HB := n4_; clear n0_ n1_ n2_ n3_ n4_; (try clear hb); (try clear hb2); (try clear hk); (try clear hi); have hnb53 := NB177_176.out; have hnc53 := NB176_177.out; have hcz54_0 : w52.cell? ⟨gb177, 0, none⟩ = some (.int .u64 a1_0) := (blk_cell BK177.out 0).trans rfl; have hcz54_1 : w52.cell? ⟨gb177, 1, none⟩ = some (.int .u64 a1_1) := (blk_cell BK177.out 1).trans rfl; have hfz54_0 := blk_frozen BK177.out 0; have hfz54_1 := blk_frozen BK177.out 1))
    go_meet
    case rel => exact ⟨_, (a0), (true), (t184), (t185), qs_, qs_, H', ⟨qo_⟩, ⟨qff_ NB174_177.out NB174_177.out BK174.out⟩, ⟨qff_ NB175_177.out NB175_177.out BK175.out⟩, ⟨qff_ NB176_177.out NB176_177.out BK176.out⟩, ⟨qpp_ #[.int .u64 t184, .int .u64 a1_1] 1 #[.int .u64 a1_0, .int .u64 a1_1] 0 BK177.out⟩, ⟨qb4_ GE174.out GE175.out GE176.out GE177.out HB.out⟩⟩
 case rest =>
  clear HC5
  try clear c1
  try clear c2
  try clear p2
  try clear c3
  try clear c4
  try clear c5
  try clear c6
  try clear c13
  try clear c13b0
  try clear c13b1
  try clear c13b2
  try clear c15
  try clear c16
  try clear c17
  try clear c19
  try clear c20
  try clear c23
  try clear c26
  try clear c28
  try clear c29
  try clear c30
  try clear c32
  try clear c33
  try clear c39
  try clear c42
  try clear c43
  try clear c44
  try clear c46
  try clear c47
  try clear c48
  try clear c53
  try clear hcz18_0
  try clear hcz18_1
  try clear hcz21_0
  try clear hcz21_1
  try clear hcz24_0
  try clear hcz24_1
  try clear hcz31_0
  try clear hcz31_1
  try clear hcz34_0
  try clear hcz34_1
  try clear hcz36_0
  try clear hcz36_1
  try clear hcz37_0
  try clear hcz37_1
  try clear hcz40_0
  try clear hcz40_1
  try clear hcz45_0
  try clear hcz45_1
  try clear hcz48_0
  try clear hcz48_1
  try clear hcz50_0
  try clear hcz50_1
  try clear hcz51_0
  try clear hcz51_1
  try clear hcz54_0
  try clear hcz54_1
  try clear hfz18_0
  try clear hfz18_1
  try clear hfz21_0
  try clear hfz21_1
  try clear hfz24_0
  try clear hfz24_1
  try clear hfz31_0
  try clear hfz31_1
  try clear hfz34_0
  try clear hfz34_1
  try clear hfz36_0
  try clear hfz36_1
  try clear hfz37_0
  try clear hfz37_1
  try clear hfz40_0
  try clear hfz40_1
  try clear hfz45_0
  try clear hfz45_1
  try clear hfz48_0
  try clear hfz48_1
  try clear hfz50_0
  try clear hfz50_1
  try clear hfz51_0
  try clear hfz51_1
  try clear hfz54_0
  try clear hfz54_1
  obtain ⟨kq, x10_4, x12_4, x178000_4, x178001_4, rfl, rfl, HA, HJ4, BK174, BK175, BK176, BK177, HB⟩ := hcut
  cases kq with
  | zero => exact absurd HA.out (by simp [corebankref01_sumP.j0])
  | succ kj4 =>
   have H := HA.out
   clear HA
   simp only [corebankref01_sumP.j0] at H
   replace H := Option.bind_eq_some_iff.mp H
   obtain ⟨⟨t186, t187, t188⟩, A550, H⟩ := H
   replace H : (if x12_4 = true then (corebankref01_sumP.j1 kj4 (!t188) t186 t187) else (corebankref01_sumP.j1 kj4 true t186 t187)) = some (r1, r2, r3) := H
   have A55 := Aside0.mk A550
   clear A550
   have HC56 := Aside0.mk H
   clear H
   have hnb57 := NB177_174.out
   have hnc57 := NB174_177.out
   have hnb58 := NB177_175.out
   have hnc58 := NB175_177.out
   have hnb59 := NB177_176.out
   have hnc59 := NB176_177.out
   have hcz60_0 : wc.cell? ⟨gb177, 0, none⟩ = some (.int .u64 x178000_4) := (blk_cell BK177.out 0).trans rfl
   have hcz60_1 : wc.cell? ⟨gb177, 1, none⟩ = some (.int .u64 x178001_4) := (blk_cell BK177.out 1).trans rfl
   have hfz60_0 := blk_frozen BK177.out 0
   have hfz60_1 := blk_frozen BK177.out 1
   go_upto_region 9 with (first | ((with_reducible refine gate_callee (f := 49) rfl ?_); refine goesL_ (some 41) rfl rfl Tryd.func49 (by kernel_rfl) rfl #[.bool x10_4, .agg #[.int .u64 x178000_4, .int .u64 x178001_4]] rfl ql_ ?_; (with_reducible refine (corebankref01_Join.calls x10_4 x178000_4 x178001_4 t186 t187 t188 _ A55.out).mono ?_); rintro e w61 ⟨rfl, hb⟩; refine ⟨_, rfl, ?_⟩; have n0_ := Aside0.mk (blk_below (qk_ BK174.out) hb); have n1_ := Aside0.mk (blk_below (qk_ BK175.out) hb); have n2_ := Aside0.mk (blk_below (qk_ BK176.out) hb); have n3_ := Aside0.mk (blk_below (qk_ BK177.out) hb); have n4_ := Aside0.mk (below_step (qb4_ GE174.out GE175.out GE176.out GE177.out HB.out) hb); clear BK174; clear BK175; clear BK176; clear BK177; clear HB; have BK174 := n0_; have BK175 := n1_; have BK176 := n2_; have BK177 := n3_; have HB := n4_; clear n0_ n1_ n2_ n3_ n4_; (try clear hb); (try clear hb2); (try clear hk); (try clear hi)) | ((with_reducible refine gate_dst (N := 13) rfl ?_); refine be_ (N := 13) (cs := #[.int .i64 0, .int .u64 0]) (t := 24) ?_; intro gb189 hg w62 hbox hb; have n0_ := Aside0.mk (blk_below (qk_ BK174.out) hb); have n1_ := Aside0.mk (blk_below (qk_ BK175.out) hb); have n2_ := Aside0.mk (blk_below (qk_ BK176.out) hb); have n3_ := Aside0.mk (blk_below (qk_ BK177.out) hb); have n4_ := Aside0.mk (below_step (qb4_ GE174.out GE175.out GE176.out GE177.out HB.out) hb); have n5_ := Aside0.mk (hbox); have n6_ := Aside0.mk (bz_ hg (qb4_ GE174.out GE175.out GE176.out GE177.out HB.out) : w.heap.size ≤ gb189); have n7_ := n6_; have n8_ := Aside0.mk (nl_ hg (qk_ BK174.out) : gb174 ≠ gb189); have n9_ := Aside0.mk (ng_ hg (qk_ BK174.out) : gb189 ≠ gb174); have n10_ := Aside0.mk (nl_ hg (qk_ BK175.out) : gb175 ≠ gb189); have n11_ := Aside0.mk (ng_ hg (qk_ BK175.out) : gb189 ≠ gb175); have n12_ := Aside0.mk (nl_ hg (qk_ BK176.out) : gb176 ≠ gb189); have n13_ := Aside0.mk (ng_ hg (qk_ BK176.out) : gb189 ≠ gb176); have n14_ := Aside0.mk (nl_ hg (qk_ BK177.out) : gb177 ≠ gb189); have n15_ := Aside0.mk (ng_ hg (qk_ BK177.out) : gb189 ≠ gb177); clear BK174; clear BK175; clear BK176; clear BK177; clear HB; have BK174 := n0_; have BK175 := n1_; have BK176 := n2_; have BK177 := n3_; have HB := n4_; have BK189 := n5_; have GW189 := n6_; have GE189 := n7_; have NB174_189 := n8_; have NB189_174 := n9_; have NB175_189 := n10_; have NB189_175 := n11_; have NB176_189 := n12_; have NB189_176 := n13_; have NB177_189 := n14_; have NB189_177 := n15_; clear n0_ n1_ n2_ n3_ n4_ n5_ n6_ n7_ n8_ n9_ n10_ n11_ n12_ n13_ n14_ n15_; clear hb hbox hg; have hnb63 := NB189_174.out; have hnc63 := NB174_189.out; have hnb64 := NB189_175.out; have hnc64 := NB175_189.out; have hnb65 := NB189_176.out; have hnc65 := NB176_189.out; have hnb66 := NB189_177.out; have hnc66 := NB177_189.out; have hcz67_0 : w62.cell? ⟨gb189, 0, none⟩ = some (.int .i64 0) := (blk_cell BK189.out 0).trans rfl; have hcz67_1 : w62.cell? ⟨gb189, 1, none⟩ = some (.int .u64 0) := (blk_cell BK189.out 1).trans rfl; have hfz67_0 := blk_frozen BK189.out 0; have hfz67_1 := blk_frozen BK189.out 1))
   (try simp only [Act.put, List.setIfInBounds_toArray, List.set_cons_zero, List.set_cons_succ])
   go_cut [49] (fun v49 wc => ∃ (kq : Nat) (x49_55 : Bool), v49 = .bool x49_55 ∧ Aside0 (corebankref01_sumP.j1 kq x49_55 t186 t187 = some (r1, r2, r3)) ∧ Aside0 (kq ≤ kj4) ∧ Aside0 (wc.heap[gb174]? = some (.cells #[.int .u64 a1_0, .int .u64 a1_1] 54 (0, 0))) ∧ Aside0 (wc.heap[gb175]? = some (.cells #[.int .u64 a3_0, .int .u64 a3_1] 54 (0, 0))) ∧ Aside0 (wc.heap[gb176]? = some (.cells #[.int .i64 0, .int .u64 0] 24 (0, 0))) ∧ Aside0 (wc.heap[gb177]? = some (.cells #[.int .u64 x178000_4, .int .u64 x178001_4] 54 (0, 0))) ∧ Aside0 (wc.heap[gb189]? = some (.cells #[.int .i64 t186, .int .u64 t187] 24 (0, 0))) ∧ Aside0 (Below w.heap.size w wc))
   case first =>
    have H := HC56.out
    clear HC56
    by_cases c68 : x12_4 = true
    ·subst c68
     have H1 : (corebankref01_sumP.j1 kj4 (!t188) t186 t187) = some (r1, r2, r3) := by rw [if_pos rfl] at H; exact H
     clear H
     have H := H1
     clear H1
     have H' := Aside0.mk H
     clear H
     go_wp2
     go_meet
     case rel => exact ⟨_, (!t188), qs_, H', ⟨by have := HJ4.out; first | omega | exact Nat.le_refl _⟩, ⟨qff_ NB174_189.out NB174_189.out BK174.out⟩, ⟨qff_ NB175_189.out NB175_189.out BK175.out⟩, ⟨qff_ NB176_189.out NB176_189.out BK176.out⟩, ⟨qff_ NB177_189.out NB177_189.out BK177.out⟩, ⟨qpp_ #[.int .i64 t186, .int .u64 0] 1 #[.int .i64 0, .int .u64 0] 0 BK189.out⟩, ⟨qb5_ GE174.out GE175.out GE176.out GE177.out GE189.out HB.out⟩⟩
    ·replace c68 := Bool.eq_false_iff.mpr c68
     subst c68
     have H1 : (corebankref01_sumP.j1 kj4 true t186 t187) = some (r1, r2, r3) := by rw [if_neg (show ¬ (false = true) by decide)] at H; exact H
     clear H
     have H := H1
     clear H1
     have H' := Aside0.mk H
     clear H
     go_wp2
     go_meet
     case rel => exact ⟨_, (true), qs_, H', ⟨by have := HJ4.out; first | omega | exact Nat.le_refl _⟩, ⟨qff_ NB174_189.out NB174_189.out BK174.out⟩, ⟨qff_ NB175_189.out NB175_189.out BK175.out⟩, ⟨qff_ NB176_189.out NB176_189.out BK176.out⟩, ⟨qff_ NB177_189.out NB177_189.out BK177.out⟩, ⟨qpp_ #[.int .i64 t186, .int .u64 0] 1 #[.int .i64 0, .int .u64 0] 0 BK189.out⟩, ⟨qb5_ GE174.out GE175.out GE176.out GE177.out GE189.out HB.out⟩⟩
   case rest =>
    clear HC56
    try clear c1
    try clear c2
    try clear p2
    try clear c3
    try clear c4
    try clear c5
    try clear c6
    try clear c13
    try clear c13b0
    try clear c13b1
    try clear c13b2
    try clear c15
    try clear c16
    try clear c17
    try clear c19
    try clear c20
    try clear c23
    try clear c26
    try clear c28
    try clear c29
    try clear c30
    try clear c32
    try clear c33
    try clear c39
    try clear c42
    try clear c43
    try clear c44
    try clear c46
    try clear c47
    try clear c48
    try clear c49
    try clear c53
    try clear c57
    try clear c58
    try clear c59
    try clear c60
    try clear c63
    try clear c64
    try clear c65
    try clear c66
    try clear c68
    try clear hcz18_0
    try clear hcz18_1
    try clear hcz21_0
    try clear hcz21_1
    try clear hcz24_0
    try clear hcz24_1
    try clear hcz31_0
    try clear hcz31_1
    try clear hcz34_0
    try clear hcz34_1
    try clear hcz36_0
    try clear hcz36_1
    try clear hcz37_0
    try clear hcz37_1
    try clear hcz40_0
    try clear hcz40_1
    try clear hcz45_0
    try clear hcz45_1
    try clear hcz48_0
    try clear hcz48_1
    try clear hcz50_0
    try clear hcz50_1
    try clear hcz51_0
    try clear hcz51_1
    try clear hcz54_0
    try clear hcz54_1
    try clear hcz60_0
    try clear hcz60_1
    try clear hcz67_0
    try clear hcz67_1
    try clear hfz18_0
    try clear hfz18_1
    try clear hfz21_0
    try clear hfz21_1
    try clear hfz24_0
    try clear hfz24_1
    try clear hfz31_0
    try clear hfz31_1
    try clear hfz34_0
    try clear hfz34_1
    try clear hfz36_0
    try clear hfz36_1
    try clear hfz37_0
    try clear hfz37_1
    try clear hfz40_0
    try clear hfz40_1
    try clear hfz45_0
    try clear hfz45_1
    try clear hfz48_0
    try clear hfz48_1
    try clear hfz50_0
    try clear hfz50_1
    try clear hfz51_0
    try clear hfz51_1
    try clear hfz54_0
    try clear hfz54_1
    try clear hfz60_0
    try clear hfz60_1
    try clear hfz67_0
    try clear hfz67_1
    try clear p2
    obtain ⟨kq, x49_55, rfl, HA, HJ55, BK174, BK175, BK176, BK177, BK189, HB⟩ := hcut
    cases kq with
    | zero => exact absurd HA.out (by simp [corebankref01_sumP.j1])
    | succ kj55 =>
     have H := HA.out
     clear HA
     simp only [corebankref01_sumP.j1] at H
     by_cases c69 : x49_55 = true
     ·subst c69
      have H1 : (some (0, 0, 6)) = some (r1, r2, r3) := by rw [if_pos rfl] at H; exact H
      clear H
      have H := H1
      clear H1
      simp only [Option.some.injEq, Prod.mk.injEq] at H
      obtain ⟨rfl, rfl, rfl⟩ := H
      have hnb70 := NB176_174.out
      have hnc70 := NB174_176.out
      have hnb71 := NB176_175.out
      have hnc71 := NB175_176.out
      have hnb72 := NB176_177.out
      have hnc72 := NB177_176.out
      have hnb73 := NB176_189.out
      have hnc73 := NB189_176.out
      have hcz74_0 : wc.cell? ⟨gb176, 0, none⟩ = some (.int .i64 0) := (blk_cell BK176.out 0).trans rfl
      have hcz74_1 : wc.cell? ⟨gb176, 1, none⟩ = some (.int .u64 0) := (blk_cell BK176.out 1).trans rfl
      have hfz74_0 := blk_frozen BK176.out 0
      have hfz74_1 := blk_frozen BK176.out 1
      go_wp2
      refine bodyPost_ret (results_ct rfl _ _ gb176 24 #[.int .i64 0, .int .u64 0] (0, 0) _ rfl (qpp_ #[.int .i64 0, .int .u64 0] 1 #[.int .i64 0, .int .u64 0] 0 BK176.out) Tryd.underlying24 rfl (by kernel_rfl)) rfl ?_
      exact ⟨qe_, qb5_ GE174.out GE175.out GE176.out GE177.out GE189.out HB.out⟩
     ·replace c69 := Bool.eq_false_iff.mpr c69
      subst c69
      have H1 : (some (t186, t187, 0)) = some (r1, r2, r3) := by rw [if_neg (show ¬ (false = true) by decide)] at H; exact H
      clear H
      have H := H1
      clear H1
      simp only [Option.some.injEq, Prod.mk.injEq] at H
      obtain ⟨rfl, rfl, rfl⟩ := H
      have hnb75 := NB189_174.out
      have hnc75 := NB174_189.out
      have hnb76 := NB189_175.out
      have hnc76 := NB175_189.out
      have hnb77 := NB189_176.out
      have hnc77 := NB176_189.out
      have hnb78 := NB189_177.out
      have hnc78 := NB177_189.out
      have hcz79_0 : wc.cell? ⟨gb189, 0, none⟩ = some (.int .i64 t186) := (blk_cell BK189.out 0).trans rfl
      have hcz79_1 : wc.cell? ⟨gb189, 1, none⟩ = some (.int .u64 t187) := (blk_cell BK189.out 1).trans rfl
      have hfz79_0 := blk_frozen BK189.out 0
      have hfz79_1 := blk_frozen BK189.out 1
      have hnb80 := NB176_174.out
      have hnc80 := NB174_176.out
      have hnb81 := NB176_175.out
      have hnc81 := NB175_176.out
      have hnb82 := NB176_177.out
      have hnc82 := NB177_176.out
      have hcz83_0 : wc.cell? ⟨gb176, 0, none⟩ = some (.int .i64 0) := (blk_cell BK176.out 0).trans rfl
      have hcz83_1 : wc.cell? ⟨gb176, 1, none⟩ = some (.int .u64 0) := (blk_cell BK176.out 1).trans rfl
      have hfz83_0 := blk_frozen BK176.out 0
      have hfz83_1 := blk_frozen BK176.out 1
      go_wp2
      refine bodyPost_ret (results_ct rfl _ _ gb176 24 #[.int .i64 t186, .int .u64 t187] (0, 0) _ rfl (qpp_ #[.int .i64 t186, .int .u64 0] 1 #[.int .i64 0, .int .u64 0] 0 BK176.out) Tryd.underlying24 rfl (by kernel_rfl)) rfl ?_
      exact ⟨qe_, qb5_ GE174.out GE175.out GE176.out GE177.out GE189.out HB.out⟩
end Go.Proofs.YtkdhippoibjfkaaDoor.PR
end
section
namespace Go.Proofs.YtkdhippoibjfkaaDoor.PR
open Go.RowKit Go.Proofs.YtkdhippoibjfkaaDoorW.PrintWords Go.Proofs.YtkdhippoibjfkaaDoorW.PrintLast
set_option linter.unusedVariables false
set_option linter.unusedSimpArgs false
def sgn (n : Bool) (m : Int) : Int := if n = true then -m else m
def corebankref01_sum.f (a0 : Bool) (a1_0 a1_1 : Int) (a2 : Bool) (a3_0 a3_1 : Int) : Option (Int × Int × Int) :=
 if (inU a1_0 ∧ inU a1_1) ∧ inU a3_0 ∧ inU a3_1 then
  some (if in128 (sgn a0 (wv a1_0 a1_1) + sgn a2 (wv a3_0 a3_1)) then ((sgn a0 (wv a1_0 a1_1) + sgn a2 (wv a3_0 a3_1)) / 18446744073709551616, (sgn a0 (wv a1_0 a1_1) + sgn a2 (wv a3_0 a3_1)) % 18446744073709551616, 0) else (0, 0, 6)) else none
theorem sum_end (n ok : Bool) (m S : Int) (m0 : 0 ≤ m) (m1 : m < 340282366920938463463374607431768211456) (hS : ok = true → sgn n m = S) (hno : ok = false → ¬ in128 S) :
  corebankref01_sumP.j0 2 n ok (m / 18446744073709551616 % 18446744073709551616) (m % 18446744073709551616) = some (if in128 S then (S / 18446744073709551616, S % 18446744073709551616, 0) else (0, 0, 6)) := by
 simp only [corebankref01_sumP.j0]
 unfold corebankref01_Join.f
 have hU : inU (m / 18446744073709551616 % 18446744073709551616) ∧ inU (m % 18446744073709551616) := ⟨by unfold inU; omega, by unfold inU; omega⟩
 have hw : wv (m / 18446744073709551616 % 18446744073709551616) (m % 18446744073709551616) = m := by unfold wv; omega
 rw [if_pos hU, hw]
 simp only [Option.bind_some, corebankref01_sumP.j1]
 cases ok with
 | true =>
  have hs := hS rfl
  unfold sgn at hs
  rw [if_pos rfl, hs]
  by_cases hin : in128 S
  ·rw [if_pos hin, decide_eq_true hin, if_neg (by decide)]
   rw [i64_id _ (by unfold in128 at hin; omega) (by unfold in128 at hin; omega)]
  ·rw [if_neg hin, decide_eq_false hin, if_pos (by decide)]
 | false => rw [if_neg (by decide), if_pos trivial, if_neg (hno rfl)]
theorem corebankref01_sum.eq {x y : Bool} {a b c d : Int} {r : Int × Int × Int} (h : corebankref01_sum.f x a b y c d = some r) : ∃ k, corebankref01_sumP.f k x a b y c d = some r := by
 unfold corebankref01_sum.f at h
 split at h
 ·rename_i q
  injection h with h
  subst h
  refine ⟨2, ?_⟩
  obtain ⟨⟨⟨a0, a1⟩, b0, b1⟩, ⟨c0, c1⟩, d0, d1⟩ := id q
  have hA : 0 ≤ wv a b ∧ wv a b < 340282366920938463463374607431768211456 := by unfold wv; omega
  have hB : 0 ≤ wv c d ∧ wv c d < 340282366920938463463374607431768211456 := by unfold wv; omega
  unfold corebankref01_sumP.f
  by_cases hxy : x = y
  ·subst hxy
   rw [if_pos (by simp)]
   unfold corebankref01_plus.f
   rw [if_pos q]
   simp only [Option.bind_some]
   generalize wv a b = A at *
   generalize wv c d = B at *
   have e1 : (A + B) / 18446744073709551616 % 18446744073709551616 = (A + B) % 340282366920938463463374607431768211456 / 18446744073709551616 % 18446744073709551616 := by omega
   have e2 : (A + B) % 18446744073709551616 = (A + B) % 340282366920938463463374607431768211456 % 18446744073709551616 := by omega
   rw [e1, e2]
   refine sum_end x _ _ _ (by omega) (by omega) (fun ho => ?_) (fun ho => ?_)
   ·have := of_decide_eq_true ho
    rw [Int.emod_eq_of_lt (by omega) this]
    unfold sgn; split <;> omega
   ·have := of_decide_eq_false ho
    unfold in128 sgn; split <;> omega
  ·rw [if_neg (by simpa using hxy)]
   unfold corebankref01_Less.f
   rw [if_pos q]
   simp only [Option.bind_some]
   unfold corebankref01_minus.f
   by_cases hlt : wv a b < wv c d
   ·rw [decide_eq_true hlt, if_pos rfl, if_pos ⟨⟨q.2, q.1⟩, by omega⟩]
    simp only [Option.bind_some]
    generalize wv a b = A at *
    generalize wv c d = B at *
    rw [show (B - A) / 18446744073709551616 = (B - A) / 18446744073709551616 % 18446744073709551616 by omega]
    refine sum_end y true _ _ (by omega) (by omega) (fun _ => ?_) (fun ho => by cases ho)
    cases x <;> cases y <;> simp [sgn] at hxy ⊢ <;> omega
   ·rw [decide_eq_false hlt, if_neg (by decide), if_pos ⟨q, by omega⟩]
    simp only [Option.bind_some]
    generalize wv a b = A at *
    generalize wv c d = B at *
    rw [show (A - B) / 18446744073709551616 = (A - B) / 18446744073709551616 % 18446744073709551616 by omega]
    refine sum_end x true _ _ (by omega) (by omega) (fun _ => ?_) (fun ho => by cases ho)
    cases x <;> cases y <;> simp [sgn] at hxy ⊢ <;> omega
 ·cases h
theorem corebankref01_sum.calls (a0 : Bool) (a1_0 : Int) (a1_1 : Int) (a2 : Bool) (a3_0 : Int) (a3_1 : Int) (r1 : Int) (r2 : Int) (r3 : Int) (w : World) (h : corebankref01_sum.f a0 a1_0 a1_1 a2 a3_0 a3_1 = some (r1, r2, r3)) :
  Calls Tryd.prog 44 #[.bool a0, .agg #[.int .u64 a1_0, .int .u64 a1_1], .bool a2, .agg #[.int .u64 a3_0, .int .u64 a3_1]] w fun e w' => e = .returned (.tuple #[.agg #[.int .i64 r1, .int .u64 r2], .int .i64 r3]) ∧ Below w.heap.size w w' := by
 obtain ⟨k, h⟩ := corebankref01_sum.eq h
 exact corebankref01_sumP.calls k a0 a1_0 a1_1 a2 a3_0 a3_1 r1 r2 r3 w h
def corebankref01_AddP.f (a0_0 : Int) (a0_1 : Int) (a1_0 : Int) (a1_1 : Int) : Option (Int × Int × Int) := (corebankref01_Split.f a0_0 a0_1).bind fun bt193 => ((corebankref01_Split.f a1_0 a1_1).bind fun bt197 => ((corebankref01_sum.f bt193.1 bt193.2.1 bt193.2.2 bt197.1 bt197.2.1 bt197.2.2).bind fun bt201 => (some (bt201.1, bt201.2.1, bt201.2.2))))
set_option maxHeartbeats 8000000 in
set_option maxRecDepth 100000 in
theorem corebankref01_AddP.calls (a0_0 : Int) (a0_1 : Int) (a1_0 : Int) (a1_1 : Int) (r1 : Int) (r2 : Int) (r3 : Int) (w : World) (h : corebankref01_AddP.f a0_0 a0_1 a1_0 a1_1 = some (r1, r2, r3)) :
  Calls Tryd.prog 18 #[.agg #[.int .i64 a0_0, .int .u64 a0_1], .agg #[.int .i64 a1_0, .int .u64 a1_1]] w fun e w' => e = .returned (.tuple #[.agg #[.int .i64 r1, .int .u64 r2], .int .i64 r3]) ∧ Below w.heap.size w w' := by
 have hu24 := Tryd.underlying24
 have hu54 := Tryd.underlying54
 have HB := Aside0.mk (Below.refl w.heap.size w)
 have H : ((corebankref01_Split.f a0_0 a0_1).bind fun bt193 => ((corebankref01_Split.f a1_0 a1_1).bind fun bt197 => ((corebankref01_sum.f bt193.1 bt193.2.1 bt193.2.2 bt197.1 bt197.2.1 bt197.2.2).bind fun bt201 => (some (bt201.1, bt201.2.1, bt201.2.2))))) = some (r1, r2, r3) := h
 clear h
 replace H := Option.bind_eq_some_iff.mp H
 obtain ⟨⟨t193, t194, t195⟩, A30, H⟩ := H
 replace H : ((corebankref01_Split.f a1_0 a1_1).bind fun bt197 => ((corebankref01_sum.f t193 t194 t195 bt197.1 bt197.2.1 bt197.2.2).bind fun bt201 => (some (bt201.1, bt201.2.1, bt201.2.2)))) = some (r1, r2, r3) := H
 have A3 := Aside0.mk A30
 clear A30
 replace H := Option.bind_eq_some_iff.mp H
 obtain ⟨⟨t197, t198, t199⟩, A40, H⟩ := H
 replace H : ((corebankref01_sum.f t193 t194 t195 t197 t198 t199).bind fun bt201 => (some (bt201.1, bt201.2.1, bt201.2.2))) = some (r1, r2, r3) := H
 have A4 := Aside0.mk A40
 clear A40
 replace H := Option.bind_eq_some_iff.mp H
 obtain ⟨⟨t201, t202, t203⟩, A50, H⟩ := H
 replace H : (some (t201, t202, t203)) = some (r1, r2, r3) := H
 have A5 := Aside0.mk A50
 clear A50
 simp only [Option.some.injEq, Prod.mk.injEq] at H
 obtain ⟨rfl, rfl, rfl⟩ := H
 go_enter Tryd.func18, Tryd.ntmps18
 go_wp2_with (first | ((with_reducible refine gate_dst (N := 2) rfl ?_); refine be_ (N := 2) (cs := #[.int .i64 a0_0, .int .u64 a0_1]) (t := 24) ?_; intro gb190 hg w6 hbox hb; have n0_ := Aside0.mk (below_step (qb_ HB.out) hb); have n1_ := Aside0.mk (hbox); have n2_ := Aside0.mk (bz_ hg (qb_ HB.out) : w.heap.size ≤ gb190); have n3_ := n2_; clear HB; have HB := n0_; have BK190 := n1_; have GW190 := n2_; have GE190 := n3_; clear n0_ n1_ n2_ n3_; clear hb hbox hg) | ((with_reducible refine gate_dst (N := 3) rfl ?_); refine be_ (N := 3) (cs := #[.int .i64 a1_0, .int .u64 a1_1]) (t := 24) ?_; intro gb191 hg w7 hbox hb; have n0_ := Aside0.mk (blk_below (qk_ BK190.out) hb); have n1_ := Aside0.mk (below_step (qb1_ GE190.out HB.out) hb); have n2_ := Aside0.mk (hbox); have n3_ := Aside0.mk (bz_ hg (qb1_ GE190.out HB.out) : w.heap.size ≤ gb191); have n4_ := n3_; have n5_ := Aside0.mk (nl_ hg (qk_ BK190.out) : gb190 ≠ gb191); have n6_ := Aside0.mk (ng_ hg (qk_ BK190.out) : gb191 ≠ gb190); clear BK190; clear HB; have BK190 := n0_; have HB := n1_; have BK191 := n2_; have GW191 := n3_; have GE191 := n4_; have NB190_191 := n5_; have NB191_190 := n6_; clear n0_ n1_ n2_ n3_ n4_ n5_ n6_; clear hb hbox hg) | ((with_reducible refine gate_dst (N := 4) rfl ?_); refine be_ (N := 4) (cs := #[.int .i64 0, .int .u64 0]) (t := 24) ?_; intro gb192 hg w8 hbox hb; have n0_ := Aside0.mk (blk_below (qk_ BK190.out) hb); have n1_ := Aside0.mk (blk_below (qk_ BK191.out) hb); have n2_ := Aside0.mk (below_step (qb2_ GE190.out GE191.out HB.out) hb); have n3_ := Aside0.mk (hbox); have n4_ := Aside0.mk (bz_ hg (qb2_ GE190.out GE191.out HB.out) : w.heap.size ≤ gb192); have n5_ := n4_; have n6_ := Aside0.mk (nl_ hg (qk_ BK190.out) : gb190 ≠ gb192); have n7_ := Aside0.mk (ng_ hg (qk_ BK190.out) : gb192 ≠ gb190); have n8_ := Aside0.mk (nl_ hg (qk_ BK191.out) : gb191 ≠ gb192); have n9_ := Aside0.mk (ng_ hg (qk_ BK191.out) : gb192 ≠ gb191); clear BK190; clear BK191; clear HB; have BK190 := n0_; have BK191 := n1_; have HB := n2_; have BK192 := n3_; have GW192 := n4_; have GE192 := n5_; have NB190_192 := n6_; have NB192_190 := n7_; have NB191_192 := n8_; have NB192_191 := n9_; clear n0_ n1_ n2_ n3_ n4_ n5_ n6_ n7_ n8_ n9_; clear hb hbox hg; have hnb9 := NB190_191.out; have hnc9 := NB191_190.out; have hnb10 := NB190_192.out; have hnc10 := NB192_190.out; have hcz11_0 : w8.cell? ⟨gb190, 0, none⟩ = some (.int .i64 a0_0) := (blk_cell BK190.out 0).trans rfl; have hcz11_1 : w8.cell? ⟨gb190, 1, none⟩ = some (.int .u64 a0_1) := (blk_cell BK190.out 1).trans rfl; have hfz11_0 := blk_frozen BK190.out 0; have hfz11_1 := blk_frozen BK190.out 1) | ((with_reducible refine gate_callee (f := 43) rfl ?_); refine goesL_ (some 12) rfl rfl Tryd.func43 (by kernel_rfl) rfl #[.agg #[.int .i64 a0_0, .int .u64 a0_1]] rfl ql_ ?_; (with_reducible refine (corebankref01_Split.calls a0_0 a0_1 t193 t194 t195 _ A3.out).mono ?_); rintro e w12 ⟨rfl, hb⟩; refine ⟨_, rfl, ?_⟩; have n0_ := Aside0.mk (blk_below (qk_ BK190.out) hb); have n1_ := Aside0.mk (blk_below (qk_ BK191.out) hb); have n2_ := Aside0.mk (blk_below (qk_ BK192.out) hb); have n3_ := Aside0.mk (below_step (qb3_ GE190.out GE191.out GE192.out HB.out) hb); clear BK190; clear BK191; clear BK192; clear HB; have BK190 := n0_; have BK191 := n1_; have BK192 := n2_; have HB := n3_; clear n0_ n1_ n2_ n3_; (try clear hb); (try clear hb2); (try clear hk); (try clear hi)) | ((with_reducible refine gate_dst (N := 7) rfl ?_); refine be_ (N := 7) (cs := #[.int .u64 0, .int .u64 0]) (t := 54) ?_; intro gb196 hg w13 hbox hb; have n0_ := Aside0.mk (blk_below (qk_ BK190.out) hb); have n1_ := Aside0.mk (blk_below (qk_ BK191.out) hb); have n2_ := Aside0.mk (blk_below (qk_ BK192.out) hb); have n3_ := Aside0.mk (below_step (qb3_ GE190.out GE191.out GE192.out HB.out) hb); have n4_ := Aside0.mk (hbox); have n5_ := Aside0.mk (bz_ hg (qb3_ GE190.out GE191.out GE192.out HB.out) : w.heap.size ≤ gb196); have n6_ := n5_; have n7_ := Aside0.mk (nl_ hg (qk_ BK190.out) : gb190 ≠ gb196); have n8_ := Aside0.mk (ng_ hg (qk_ BK190.out) : gb196 ≠ gb190); have n9_ := Aside0.mk (nl_ hg (qk_ BK191.out) : gb191 ≠ gb196); have n10_ := Aside0.mk (ng_ hg (qk_ BK191.out) : gb196 ≠ gb191); have n11_ := Aside0.mk (nl_ hg (qk_ BK192.out) : gb192 ≠ gb196); have n12_ := Aside0.mk (ng_ hg (qk_ BK192.out) : gb196 ≠ gb192); clear BK190; clear BK191; clear BK192; clear HB; have BK190 := n0_; have BK191 := n1_; have BK192 := n2_; have HB := n3_; have BK196 := n4_; have GW196 := n5_; have GE196 := n6_; have NB190_196 := n7_; have NB196_190 := n8_; have NB191_196 := n9_; have NB196_191 := n10_; have NB192_196 := n11_; have NB196_192 := n12_; clear n0_ n1_ n2_ n3_ n4_ n5_ n6_ n7_ n8_ n9_ n10_ n11_ n12_; clear hb hbox hg; have hnb14 := NB196_190.out; have hnc14 := NB190_196.out; have hnb15 := NB196_191.out; have hnc15 := NB191_196.out; have hnb16 := NB196_192.out; have hnc16 := NB192_196.out; have hcz17_0 : w13.cell? ⟨gb196, 0, none⟩ = some (.int .u64 0) := (blk_cell BK196.out 0).trans rfl; have hcz17_1 : w13.cell? ⟨gb196, 1, none⟩ = some (.int .u64 0) := (blk_cell BK196.out 1).trans rfl; have hfz17_0 := blk_frozen BK196.out 0; have hfz17_1 := blk_frozen BK196.out 1; have hnb18 := NB191_192.out; have hnc18 := NB192_191.out; have hcz19_0 : w13.cell? ⟨gb191, 0, none⟩ = some (.int .i64 a1_0) := (blk_cell BK191.out 0).trans rfl; have hcz19_1 : w13.cell? ⟨gb191, 1, none⟩ = some (.int .u64 a1_1) := (blk_cell BK191.out 1).trans rfl; have hfz19_0 := blk_frozen BK191.out 0; have hfz19_1 := blk_frozen BK191.out 1) | ((with_reducible refine gate_callee (f := 43) rfl ?_); refine goesL_ (some 17) rfl rfl Tryd.func43 (by kernel_rfl) rfl #[.agg #[.int .i64 a1_0, .int .u64 a1_1]] rfl ql_ ?_; (with_reducible refine (corebankref01_Split.calls a1_0 a1_1 t197 t198 t199 _ A4.out).mono ?_); rintro e w20 ⟨rfl, hb⟩; refine ⟨_, rfl, ?_⟩; have n0_ := Aside0.mk (blk_below (g := gb190) (o := .cells #[.int .i64 a0_0, .int .u64 a0_1] 24 (0, 0)) (qff_ NB190_196.out NB190_196.out BK190.out) hb); have n1_ := Aside0.mk (blk_below (g := gb191) (o := .cells #[.int .i64 a1_0, .int .u64 a1_1] 24 (0, 0)) (qff_ NB191_196.out NB191_196.out BK191.out) hb); have n2_ := Aside0.mk (blk_below (g := gb192) (o := .cells #[.int .i64 0, .int .u64 0] 24 (0, 0)) (qff_ NB192_196.out NB192_196.out BK192.out) hb); have n3_ := Aside0.mk (blk_below (g := gb196) (o := .cells #[.int .u64 t194, .int .u64 t195] 54 (0, 0)) (qpp_ #[.int .u64 t194, .int .u64 0] 1 #[.int .u64 0, .int .u64 0] 0 BK196.out) hb); have n4_ := Aside0.mk (below_step (qb4_ GE190.out GE191.out GE192.out GE196.out HB.out) hb); clear BK190; clear BK191; clear BK192; clear BK196; clear HB; have BK190 := n0_; have BK191 := n1_; have BK192 := n2_; have BK196 := n3_; have HB := n4_; clear n0_ n1_ n2_ n3_ n4_; (try clear hb); (try clear hb2); (try clear hk); (try clear hi)) | ((with_reducible refine gate_dst (N := 9) rfl ?_); refine be_ (N := 9) (cs := #[.int .u64 0, .int .u64 0]) (t := 54) ?_; intro gb200 hg w21 hbox hb; have n0_ := Aside0.mk (blk_below (qk_ BK190.out) hb); have n1_ := Aside0.mk (blk_below (qk_ BK191.out) hb); have n2_ := Aside0.mk (blk_below (qk_ BK192.out) hb); have n3_ := Aside0.mk (blk_below (qk_ BK196.out) hb); have n4_ := Aside0.mk (below_step (qb4_ GE190.out GE191.out GE192.out GE196.out HB.out) hb); have n5_ := Aside0.mk (hbox); have n6_ := Aside0.mk (bz_ hg (qb4_ GE190.out GE191.out GE192.out GE196.out HB.out) : w.heap.size ≤ gb200); have n7_ := n6_; have n8_ := Aside0.mk (nl_ hg (qk_ BK190.out) : gb190 ≠ gb200); have n9_ := Aside0.mk (ng_ hg (qk_ BK190.out) : gb200 ≠ gb190); have n10_ := Aside0.mk (nl_ hg (qk_ BK191.out) : gb191 ≠ gb200); have n11_ := Aside0.mk (ng_ hg (qk_ BK191.out) : gb200 ≠ gb191); have n12_ := Aside0.mk (nl_ hg (qk_ BK192.out) : gb192 ≠ gb200); have n13_ := Aside0.mk (ng_ hg (qk_ BK192.out) : gb200 ≠ gb192); have n14_ := Aside0.mk (nl_ hg (qk_ BK196.out) : gb196 ≠ gb200); have n15_ := Aside0.mk (ng_ hg (qk_ BK196.out) : gb200 ≠ gb196); clear BK190; clear BK191; clear BK192; clear BK196; clear HB; have BK190 := n0_; have BK191 := n1_; have BK192 := n2_; have BK196 := n3_; have HB := n4_; have BK200 := n5_; have GW200 := n6_; have GE200 := n7_; have NB190_200 := n8_; have NB200_190 := n9_; have NB191_200 := n10_; have NB200_191 := n11_; have NB192_200 := n12_; have NB200_192 := n13_; have NB196_200 := n14_; have NB200_196 := n15_; clear n0_ n1_ n2_ n3_ n4_ n5_ n6_ n7_ n8_ n9_ n10_ n11_ n12_ n13_ n14_ n15_; clear hb hbox hg; have hnb22 := NB200_190.out; have hnc22 := NB190_200.out; have hnb23 := NB200_191.out; have hnc23 := NB191_200.out; have hnb24 := NB200_192.out; have hnc24 := NB192_200.out; have hnb25 := NB200_196.out; have hnc25 := NB196_200.out; have hcz26_0 : w21.cell? ⟨gb200, 0, none⟩ = some (.int .u64 0) := (blk_cell BK200.out 0).trans rfl; have hcz26_1 : w21.cell? ⟨gb200, 1, none⟩ = some (.int .u64 0) := (blk_cell BK200.out 1).trans rfl; have hfz26_0 := blk_frozen BK200.out 0; have hfz26_1 := blk_frozen BK200.out 1; have hcz27_0 : w21.cell? ⟨gb196, 0, none⟩ = some (.int .u64 t194) := (blk_cell BK196.out 0).trans rfl; have hcz27_1 : w21.cell? ⟨gb196, 1, none⟩ = some (.int .u64 t195) := (blk_cell BK196.out 1).trans rfl; have hfz27_0 := blk_frozen BK196.out 0; have hfz27_1 := blk_frozen BK196.out 1) | ((with_reducible refine gate_callee (f := 44) rfl ?_); refine goesL_ (some 24) rfl rfl Tryd.func44 (by kernel_rfl) rfl #[.bool t193, .agg #[.int .u64 t194, .int .u64 t195], .bool t197, .agg #[.int .u64 t198, .int .u64 t199]] rfl ql_ ?_; (with_reducible refine (corebankref01_sum.calls t193 t194 t195 t197 t198 t199 t201 t202 t203 _ A5.out).mono ?_); rintro e w28 ⟨rfl, hb⟩; refine ⟨_, rfl, ?_⟩; have n0_ := Aside0.mk (blk_below (g := gb190) (o := .cells #[.int .i64 a0_0, .int .u64 a0_1] 24 (0, 0)) (qff_ NB190_200.out NB190_200.out BK190.out) hb); have n1_ := Aside0.mk (blk_below (g := gb191) (o := .cells #[.int .i64 a1_0, .int .u64 a1_1] 24 (0, 0)) (qff_ NB191_200.out NB191_200.out BK191.out) hb); have n2_ := Aside0.mk (blk_below (g := gb192) (o := .cells #[.int .i64 0, .int .u64 0] 24 (0, 0)) (qff_ NB192_200.out NB192_200.out BK192.out) hb); have n3_ := Aside0.mk (blk_below (g := gb196) (o := .cells #[.int .u64 t194, .int .u64 t195] 54 (0, 0)) (qff_ NB196_200.out NB196_200.out BK196.out) hb); have n4_ := Aside0.mk (blk_below (g := gb200) (o := .cells #[.int .u64 t198, .int .u64 t199] 54 (0, 0)) (qpp_ #[.int .u64 t198, .int .u64 0] 1 #[.int .u64 0, .int .u64 0] 0 BK200.out) hb); have n5_ := Aside0.mk (below_step (qb5_ GE190.out GE191.out GE192.out GE196.out GE200.out HB.out) hb); clear BK190; clear BK191; clear BK192; clear BK196; clear BK200; clear HB; have BK190 := n0_; have BK191 := n1_; have BK192 := n2_; have BK196 := n3_; have BK200 := n4_; have HB := n5_; clear n0_ n1_ n2_ n3_ n4_ n5_; (try clear hb); (try clear hb2); (try clear hk); (try clear hi); have hcz29_0 : w28.cell? ⟨gb192, 0, none⟩ = some (.int .i64 0) := (blk_cell BK192.out 0).trans rfl; have hcz29_1 : w28.cell? ⟨gb192, 1, none⟩ = some (.int .u64 0) := (blk_cell BK192.out 1).trans rfl; have hfz29_0 := blk_frozen BK192.out 0; have hfz29_1 := blk_frozen BK192.out 1))
 refine bodyPost_ret (results_ct rfl _ _ gb192 24 #[.int .i64 t201, .int .u64 t202] (0, 0) _ rfl (qpp_ #[.int .i64 t201, .int .u64 0] 1 #[.int .i64 0, .int .u64 0] 0 BK192.out) Tryd.underlying24 rfl (by kernel_rfl)) rfl ?_
 exact ⟨qe_, qb5_ GE190.out GE191.out GE192.out GE196.out GE200.out HB.out⟩
def corebankref01_Add.f (a0_0 a0_1 a1_0 a1_1 : Int) : Option (Int × Int × Int) :=
 if isW a0_0 a0_1 ∧ isW a1_0 a1_1 then
  some (if in128 (wv a0_0 a0_1 + wv a1_0 a1_1) then ((wv a0_0 a0_1 + wv a1_0 a1_1) / 18446744073709551616, (wv a0_0 a0_1 + wv a1_0 a1_1) % 18446744073709551616, 0) else (0, 0, 6)) else none
theorem corebankref01_Add.eq {a b c d : Int} {r : Int × Int × Int} (h : corebankref01_Add.f a b c d = some r) : corebankref01_AddP.f a b c d = some r := by
 unfold corebankref01_Add.f at h
 split at h
 ·rename_i q
  injection h with h
  subst h
  unfold corebankref01_AddP.f corebankref01_Split.f
  rw [if_pos q.1, if_pos q.2]
  simp only [Option.bind_some]
  obtain ⟨⟨⟨a0, a1⟩, b0, b1⟩, ⟨c0, c1⟩, d0, d1⟩ := id q
  have hA : wv a b = a * 18446744073709551616 + b := rfl
  have hB : wv c d = c * 18446744073709551616 + d := rfl
  have mA : 0 ≤ (if a < 0 then -(wv a b) else wv a b) ∧ (if a < 0 then -(wv a b) else wv a b) ≤ 170141183460469231731687303715884105728 := by split <;> omega
  have mB : 0 ≤ (if c < 0 then -(wv c d) else wv c d) ∧ (if c < 0 then -(wv c d) else wv c d) ≤ 170141183460469231731687303715884105728 := by split <;> omega
  have sA : sgn (decide (a < 0)) (if a < 0 then -(wv a b) else wv a b) = wv a b := by unfold sgn; by_cases h : a < 0 <;> simp [h]
  have sB : sgn (decide (c < 0)) (if c < 0 then -(wv c d) else wv c d) = wv c d := by unfold sgn; by_cases h : c < 0 <;> simp [h]
  generalize (if a < 0 then -(wv a b) else wv a b) = A at *
  generalize (if c < 0 then -(wv c d) else wv c d) = B at *
  have wA : wv (A / 18446744073709551616) (A % 18446744073709551616) = A := by unfold wv; omega
  have wB : wv (B / 18446744073709551616) (B % 18446744073709551616) = B := by unfold wv; omega
  have hU : (inU (A / 18446744073709551616) ∧ inU (A % 18446744073709551616)) ∧ inU (B / 18446744073709551616) ∧ inU (B % 18446744073709551616) := ⟨⟨by unfold inU; omega, by unfold inU; omega⟩, by unfold inU; omega, by unfold inU; omega⟩
  unfold corebankref01_sum.f
  rw [if_pos hU, wA, wB, sA, sB]
  simp only [Option.bind_some]
 ·cases h
theorem corebankref01_Add.calls (a0_0 : Int) (a0_1 : Int) (a1_0 : Int) (a1_1 : Int) (r1 : Int) (r2 : Int) (r3 : Int) (w : World) (h : corebankref01_Add.f a0_0 a0_1 a1_0 a1_1 = some (r1, r2, r3)) :
  Calls Tryd.prog 18 #[.agg #[.int .i64 a0_0, .int .u64 a0_1], .agg #[.int .i64 a1_0, .int .u64 a1_1]] w fun e w' => e = .returned (.tuple #[.agg #[.int .i64 r1, .int .u64 r2], .int .i64 r3]) ∧ Below w.heap.size w w' := by
 have h := corebankref01_Add.eq h
 exact corebankref01_AddP.calls a0_0 a0_1 a1_0 a1_1 r1 r2 r3 w h
def corebankref01_OfP.f (a0 : Int) : Option (Int × Int) := if a0 < 0 then (some ((-1), IntKind.u64.wrap (a0))) else (some (0, IntKind.u64.wrap (a0)))
set_option maxHeartbeats 8000000 in
set_option maxRecDepth 100000 in
theorem corebankref01_OfP.calls (a0 : Int) (r1 : Int) (r2 : Int) (w : World) (h : corebankref01_OfP.f a0 = some (r1, r2)) :
  Calls Tryd.prog 21 #[.int .i64 a0] w fun e w' => e = .returned (.agg #[.int .i64 r1, .int .u64 r2]) ∧ Below w.heap.size w w' := by
 have hu24 := Tryd.underlying24
 have HB := Aside0.mk (Below.refl w.heap.size w)
 have H : (if a0 < 0 then (some ((-1), IntKind.u64.wrap (a0))) else (some (0, IntKind.u64.wrap (a0)))) = some (r1, r2) := h
 clear h
 by_cases c2 : a0 < 0
 ·rw [if_pos c2] at H
  have c2b0 : decide (a0 < 0) = true := decide_eq_true c2
  clear c2
  simp only [Option.some.injEq, Prod.mk.injEq] at H
  obtain ⟨rfl, rfl⟩ := H
  go_enter Tryd.func21, Tryd.ntmps21
  go_wp2_with (first | ((with_reducible refine gate_dst (N := 2) rfl ?_); refine be_ (N := 2) (cs := #[.int .i64 0, .int .u64 0]) (t := 24) ?_; intro gb204 hg w3 hbox hb; have n0_ := Aside0.mk (below_step (qb_ HB.out) hb); have n1_ := Aside0.mk (hbox); have n2_ := Aside0.mk (bz_ hg (qb_ HB.out) : w.heap.size ≤ gb204); have n3_ := n2_; clear HB; have HB := n0_; have BK204 := n1_; have GW204 := n2_; have GE204 := n3_; clear n0_ n1_ n2_ n3_; clear hb hbox hg; have hcz4_0 : w3.cell? ⟨gb204, 0, none⟩ = some (.int .i64 0) := (blk_cell BK204.out 0).trans rfl; have hcz4_1 : w3.cell? ⟨gb204, 1, none⟩ = some (.int .u64 0) := (blk_cell BK204.out 1).trans rfl; have hfz4_0 := blk_frozen BK204.out 0; have hfz4_1 := blk_frozen BK204.out 1))
  refine bodyPost_ret (results_cell_row rfl _ _ gb204 24 #[.int .i64 (-1), .int .u64 (IntKind.u64.wrap (a0))] (0, 0) _ rfl (qpp_ #[.int .i64 (-1), .int .u64 0] 1 #[.int .i64 0, .int .u64 0] 0 BK204.out) Tryd.underlying24 rfl (by kernel_rfl)) rfl ?_
  exact ⟨qe_, qb1_ GE204.out HB.out⟩
 ·rw [if_neg c2] at H
  have c2b0 : decide (a0 < 0) = false := decide_eq_false c2
  clear c2
  simp only [Option.some.injEq, Prod.mk.injEq] at H
  obtain ⟨rfl, rfl⟩ := H
  go_enter Tryd.func21, Tryd.ntmps21
  go_wp2_with (first | ((with_reducible refine gate_dst (N := 2) rfl ?_); refine be_ (N := 2) (cs := #[.int .i64 0, .int .u64 0]) (t := 24) ?_; intro gb204 hg w5 hbox hb; have n0_ := Aside0.mk (below_step (qb_ HB.out) hb); have n1_ := Aside0.mk (hbox); have n2_ := Aside0.mk (bz_ hg (qb_ HB.out) : w.heap.size ≤ gb204); have n3_ := n2_; clear HB; have HB := n0_; have BK204 := n1_; have GW204 := n2_; have GE204 := n3_; clear n0_ n1_ n2_ n3_; clear hb hbox hg; have hcz6_0 : w5.cell? ⟨gb204, 0, none⟩ = some (.int .i64 0) := (blk_cell BK204.out 0).trans rfl; have hcz6_1 : w5.cell? ⟨gb204, 1, none⟩ = some (.int .u64 0) := (blk_cell BK204.out 1).trans rfl; have hfz6_0 := blk_frozen BK204.out 0; have hfz6_1 := blk_frozen BK204.out 1))
  refine bodyPost_ret (results_cell_row rfl _ _ gb204 24 #[.int .i64 0, .int .u64 (IntKind.u64.wrap (a0))] (0, 0) _ rfl (qpp_ #[.int .i64 0, .int .u64 0] 1 #[.int .i64 0, .int .u64 0] 0 BK204.out) Tryd.underlying24 rfl (by kernel_rfl)) rfl ?_
  exact ⟨qe_, qb1_ GE204.out HB.out⟩
def corebankref01_Of.f (a0 : Int) : Option (Int × Int) := if inI a0 then some (a0 / 18446744073709551616, a0 % 18446744073709551616) else none
theorem corebankref01_Of.eq {a : Int} {r : Int × Int} (h : corebankref01_Of.f a = some r) : corebankref01_OfP.f a = some r := by
 unfold corebankref01_Of.f at h
 split at h
 ·rename_i c
  obtain ⟨c0, c1⟩ := c
  injection h with h
  subst h
  unfold corebankref01_OfP.f
  simp only [IntKind.wrap_u64]
  split <;> (congr 2; omega)
 ·cases h
theorem corebankref01_Of.calls (a0 : Int) (r1 : Int) (r2 : Int) (w : World) (h : corebankref01_Of.f a0 = some (r1, r2)) :
  Calls Tryd.prog 21 #[.int .i64 a0] w fun e w' => e = .returned (.agg #[.int .i64 r1, .int .u64 r2]) ∧ Below w.heap.size w w' := by
 have h := corebankref01_Of.eq h
 exact corebankref01_OfP.calls a0 r1 r2 w h
def corebankref01_shiftedP.f (a0_0 : Int) (a0_1 : Int) : Option (Int × Int × Bool) := (corebankref01_plus.f a0_0 a0_1 a0_0 a0_1).bind fun bt207 => (some (bt207.1, bt207.2.1, bt207.2.2))
set_option maxHeartbeats 8000000 in
set_option maxRecDepth 100000 in
theorem corebankref01_shiftedP.calls (a0_0 : Int) (a0_1 : Int) (r1 : Int) (r2 : Int) (r3 : Bool) (w : World) (h : corebankref01_shiftedP.f a0_0 a0_1 = some (r1, r2, r3)) :
  Calls Tryd.prog 63 #[.agg #[.int .u64 a0_0, .int .u64 a0_1]] w fun e w' => e = .returned (.tuple #[.agg #[.int .u64 r1, .int .u64 r2], .bool r3]) ∧ Below w.heap.size w w' := by
 have hu54 := Tryd.underlying54
 have HB := Aside0.mk (Below.refl w.heap.size w)
 have H : ((corebankref01_plus.f a0_0 a0_1 a0_0 a0_1).bind fun bt207 => (some (bt207.1, bt207.2.1, bt207.2.2))) = some (r1, r2, r3) := h
 clear h
 replace H := Option.bind_eq_some_iff.mp H
 obtain ⟨⟨t207, t208, t209⟩, A20, H⟩ := H
 replace H : (some (t207, t208, t209)) = some (r1, r2, r3) := H
 have A2 := Aside0.mk A20
 clear A20
 simp only [Option.some.injEq, Prod.mk.injEq] at H
 obtain ⟨rfl, rfl, rfl⟩ := H
 go_enter Tryd.func63, Tryd.ntmps63
 go_wp2_with (first | ((with_reducible refine gate_dst (N := 1) rfl ?_); refine be_ (N := 1) (cs := #[.int .u64 a0_0, .int .u64 a0_1]) (t := 54) ?_; intro gb205 hg w3 hbox hb; have n0_ := Aside0.mk (below_step (qb_ HB.out) hb); have n1_ := Aside0.mk (hbox); have n2_ := Aside0.mk (bz_ hg (qb_ HB.out) : w.heap.size ≤ gb205); have n3_ := n2_; clear HB; have HB := n0_; have BK205 := n1_; have GW205 := n2_; have GE205 := n3_; clear n0_ n1_ n2_ n3_; clear hb hbox hg) | ((with_reducible refine gate_dst (N := 2) rfl ?_); refine be_ (N := 2) (cs := #[.int .u64 0, .int .u64 0]) (t := 54) ?_; intro gb206 hg w4 hbox hb; have n0_ := Aside0.mk (blk_below (qk_ BK205.out) hb); have n1_ := Aside0.mk (below_step (qb1_ GE205.out HB.out) hb); have n2_ := Aside0.mk (hbox); have n3_ := Aside0.mk (bz_ hg (qb1_ GE205.out HB.out) : w.heap.size ≤ gb206); have n4_ := n3_; have n5_ := Aside0.mk (nl_ hg (qk_ BK205.out) : gb205 ≠ gb206); have n6_ := Aside0.mk (ng_ hg (qk_ BK205.out) : gb206 ≠ gb205); clear BK205; clear HB; have BK205 := n0_; have HB := n1_; have BK206 := n2_; have GW206 := n3_; have GE206 := n4_; have NB205_206 := n5_; have NB206_205 := n6_; clear n0_ n1_ n2_ n3_ n4_ n5_ n6_; clear hb hbox hg; have hnb5 := NB205_206.out; have hnc5 := NB206_205.out; have hcz6_0 : w4.cell? ⟨gb205, 0, none⟩ = some (.int .u64 a0_0) := (blk_cell BK205.out 0).trans rfl; have hcz6_1 : w4.cell? ⟨gb205, 1, none⟩ = some (.int .u64 a0_1) := (blk_cell BK205.out 1).trans rfl; have hfz6_0 := blk_frozen BK205.out 0; have hfz6_1 := blk_frozen BK205.out 1) | ((with_reducible refine gate_callee (f := 48) rfl ?_); refine goesL_ (some 6) rfl rfl Tryd.func48 (by kernel_rfl) rfl #[.agg #[.int .u64 a0_0, .int .u64 a0_1], .agg #[.int .u64 a0_0, .int .u64 a0_1]] rfl ql_ ?_; (with_reducible refine (corebankref01_plus.calls a0_0 a0_1 a0_0 a0_1 t207 t208 t209 _ A2.out).mono ?_); rintro e w7 ⟨rfl, hb⟩; refine ⟨_, rfl, ?_⟩; have n0_ := Aside0.mk (blk_below (qk_ BK205.out) hb); have n1_ := Aside0.mk (blk_below (qk_ BK206.out) hb); have n2_ := Aside0.mk (below_step (qb2_ GE205.out GE206.out HB.out) hb); clear BK205; clear BK206; clear HB; have BK205 := n0_; have BK206 := n1_; have HB := n2_; clear n0_ n1_ n2_; (try clear hb); (try clear hb2); (try clear hk); (try clear hi); have hcz8_0 : w7.cell? ⟨gb206, 0, none⟩ = some (.int .u64 0) := (blk_cell BK206.out 0).trans rfl; have hcz8_1 : w7.cell? ⟨gb206, 1, none⟩ = some (.int .u64 0) := (blk_cell BK206.out 1).trans rfl; have hfz8_0 := blk_frozen BK206.out 0; have hfz8_1 := blk_frozen BK206.out 1))
 refine bodyPost_ret (results_ct rfl _ _ gb206 54 #[.int .u64 t207, .int .u64 t208] (0, 0) _ rfl (qpp_ #[.int .u64 t207, .int .u64 0] 1 #[.int .u64 0, .int .u64 0] 0 BK206.out) Tryd.underlying54 rfl (by kernel_rfl)) rfl ?_
 exact ⟨qe_, qb2_ GE205.out GE206.out HB.out⟩
def corebankref01_shifted.f (a0_0 a0_1 : Int) : Option (Int × Int × Bool) :=
 if inU a0_0 ∧ inU a0_1 then some (2 * wv a0_0 a0_1 / 18446744073709551616 % 18446744073709551616, 2 * wv a0_0 a0_1 % 18446744073709551616, decide (2 * wv a0_0 a0_1 < 340282366920938463463374607431768211456)) else none
theorem corebankref01_shifted.eq {a b : Int} {r : Int × Int × Bool} (h : corebankref01_shifted.f a b = some r) : corebankref01_shiftedP.f a b = some r := by
 unfold corebankref01_shifted.f at h
 split at h
 ·rename_i q
  injection h with h
  subst h
  unfold corebankref01_shiftedP.f corebankref01_plus.f
  rw [if_pos ⟨q, q⟩, show wv a b + wv a b = 2 * wv a b by omega]
  rfl
 ·cases h
theorem corebankref01_shifted.calls (a0_0 : Int) (a0_1 : Int) (r1 : Int) (r2 : Int) (r3 : Bool) (w : World) (h : corebankref01_shifted.f a0_0 a0_1 = some (r1, r2, r3)) :
  Calls Tryd.prog 63 #[.agg #[.int .u64 a0_0, .int .u64 a0_1]] w fun e w' => e = .returned (.tuple #[.agg #[.int .u64 r1, .int .u64 r2], .bool r3]) ∧ Below w.heap.size w w' := by
 have h := corebankref01_shifted.eq h
 exact corebankref01_shiftedP.calls a0_0 a0_1 r1 r2 r3 w h
end Go.Proofs.YtkdhippoibjfkaaDoor.PR
end
