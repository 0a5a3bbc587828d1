import Derived.Test.YtjkjiibhdpcpkaaDoorQRm2
namespace Go.Proofs.YtjkjiibhdpcpkaaDoor.PS
open Go.RowKit Go.Proofs.YtjkjiibhdpcpkaaDoorW.PrintWords Go.Proofs.YtjkjiibhdpcpkaaDoorW.PrintLast
set_option linter.unusedVariables false
set_option linter.unusedSimpArgs false
def corebankref01_JoinP.f (a0 : Bool) (a1_0 a1_1 : Int) : Option (Int × Int × Bool) := if a0 = true then (if (IntKind.u64.wrap ((Go.bits .xor .u64 IntKind.u64.max a1_1) + 1)) = 0 then (if a1_0 < 9223372036854775808 then (some (wrap64 (IntKind.u64.wrap ((Go.bits .xor .u64 IntKind.u64.max a1_0) + 1)), IntKind.u64.wrap ((Go.bits .xor .u64 IntKind.u64.max a1_1) + 1), true)) else (if a1_0 = 9223372036854775808 then (some (wrap64 (IntKind.u64.wrap ((Go.bits .xor .u64 IntKind.u64.max a1_0) + 1)), IntKind.u64.wrap ((Go.bits .xor .u64 IntKind.u64.max a1_1) + 1), (a1_1 == 0))) else (some (wrap64 (IntKind.u64.wrap ((Go.bits .xor .u64 IntKind.u64.max a1_0) + 1)), IntKind.u64.wrap ((Go.bits .xor .u64 IntKind.u64.max a1_1) + 1), false)))) else (if a1_0 < 9223372036854775808 then (some (wrap64 (Go.bits .xor .u64 IntKind.u64.max a1_0), IntKind.u64.wrap ((Go.bits .xor .u64 IntKind.u64.max a1_1) + 1), true)) else (if a1_0 = 9223372036854775808 then (some (wrap64 (Go.bits .xor .u64 IntKind.u64.max a1_0), IntKind.u64.wrap ((Go.bits .xor .u64 IntKind.u64.max a1_1) + 1), (a1_1 == 0))) else (some (wrap64 (Go.bits .xor .u64 IntKind.u64.max a1_0), IntKind.u64.wrap ((Go.bits .xor .u64 IntKind.u64.max a1_1) + 1), false))))) else (some (wrap64 (a1_0), a1_1, decide (a1_0 < 9223372036854775808)))
def corebankref01_JoinP.T2 : Bool × List (List Nat × List Nat) := (true, [([], []), ([0], [0]), ([1], [1]), ([], []), ([3], [3]), ([2, 4], [2, 4]), ([], []), ([6], [6]), ([7], [7]), ([5, 0, 1, 2, 3, 4, 5], [5]), ([8, 9, 0, 1, 2, 3, 4, 5, 6, 7, 8, 9], [8])])
def corebankref01_JoinP.B2 : List Nat := [0, 1, 3, 0, 8, 31, 0, 64, 192, 63, 1023]
theorem corebankref01_JoinP.tab2 : rtab .any (opsOf Tryd.f73 2) = corebankref01_JoinP.T2 := by kernel_rfl
theorem corebankref01_JoinP.bits2 : waitsOk corebankref01_JoinP.T2.2 corebankref01_JoinP.B2 = true := by kernel_rfl
def corebankref01_JoinP.T3 : Bool × List (List Nat × List Nat) := (true, [([], []), ([0], [0]), ([1], [1]), ([2], [2]), ([], []), ([4], [4]), ([5], [5]), ([3, 0, 1, 2, 3], [3]), ([6, 7, 0, 1, 2, 3, 4, 5, 6, 7], [6])])
def corebankref01_JoinP.B3 : List Nat := [0, 1, 3, 7, 0, 16, 48, 15, 255]
theorem corebankref01_JoinP.tab3 : rtab .any (opsOf Tryd.f73 3) = corebankref01_JoinP.T3 := by kernel_rfl
theorem corebankref01_JoinP.bits3 : waitsOk corebankref01_JoinP.T3.2 corebankref01_JoinP.B3 = true := by kernel_rfl
def corebankref01_JoinP.T6 : Bool × List (List Nat × List Nat) := (true, [([], []), ([0], [0]), ([], []), ([1, 2], [1, 2]), ([], []), ([4], [4]), ([5], [5]), ([6], [6]), ([7], [7]), ([8, 7], [7, 8]), ([9, 7], [7, 9]), ([10, 7, 7], [7, 10]), ([11], [11]), ([12, 11], [11, 12]), ([13, 11], [11, 13]), ([11, 14, 7], [7, 11, 14]), ([7, 15], [7, 15]), ([3, 11, 0, 1, 2, 3], [3]), ([16, 17, 0, 1, 2, 3, 4, 5, 6, 7, 8, 9, 10, 11, 12, 13, 14, 15, 16, 17], [16])])
def corebankref01_JoinP.B6 : List Nat := [0, 1, 0, 7, 0, 16, 48, 112, 240, 496, 1008, 2032, 4080, 8176, 16368, 32752, 65520, 4095, 262143]
theorem corebankref01_JoinP.tab6 : rtab .any (opsOf Tryd.f73 6) = corebankref01_JoinP.T6 := by kernel_rfl
theorem corebankref01_JoinP.bits6 : waitsOk corebankref01_JoinP.T6.2 corebankref01_JoinP.B6 = true := by kernel_rfl
set_option maxHeartbeats 8000000 in
set_option maxRecDepth 100000 in
theorem corebankref01_JoinP.calls (a0 : Bool) (a1_0 a1_1 r1 r2 : Int) (r3 : Bool) (w : World) (h : corebankref01_JoinP.f a0 a1_0 a1_1 = some (r1, r2, r3)) :
  Calls Tryd.prog 73 #[.bool a0, .agg #[.int .u64 a1_0, .int .u64 a1_1]] w fun e w' => e = .returned (.tuple #[.agg #[.int .i64 r1, .int .u64 r2], .bool r3]) ∧ Below w.heap.size w w' := by
 have hu96 := Tryd.underlying96
 have hu63 := Tryd.underlying63
 have hsgn : IntKind.u64.signed = false := rfl
 have HB := Aside0.mk (Below.refl w.heap.size w)
 have H : (if a0 = true then (if (IntKind.u64.wrap ((Go.bits .xor .u64 IntKind.u64.max a1_1) + 1)) = 0 then (if a1_0 < 9223372036854775808 then (some (wrap64 (IntKind.u64.wrap ((Go.bits .xor .u64 IntKind.u64.max a1_0) + 1)), IntKind.u64.wrap ((Go.bits .xor .u64 IntKind.u64.max a1_1) + 1), true)) else (if a1_0 = 9223372036854775808 then (some (wrap64 (IntKind.u64.wrap ((Go.bits .xor .u64 IntKind.u64.max a1_0) + 1)), IntKind.u64.wrap ((Go.bits .xor .u64 IntKind.u64.max a1_1) + 1), (a1_1 == 0))) else (some (wrap64 (IntKind.u64.wrap ((Go.bits .xor .u64 IntKind.u64.max a1_0) + 1)), IntKind.u64.wrap ((Go.bits .xor .u64 IntKind.u64.max a1_1) + 1), false)))) else (if a1_0 < 9223372036854775808 then (some (wrap64 (Go.bits .xor .u64 IntKind.u64.max a1_0), IntKind.u64.wrap ((Go.bits .xor .u64 IntKind.u64.max a1_1) + 1), true)) else (if a1_0 = 9223372036854775808 then (some (wrap64 (Go.bits .xor .u64 IntKind.u64.max a1_0), IntKind.u64.wrap ((Go.bits .xor .u64 IntKind.u64.max a1_1) + 1), (a1_1 == 0))) else (some (wrap64 (Go.bits .xor .u64 IntKind.u64.max a1_0), IntKind.u64.wrap ((Go.bits .xor .u64 IntKind.u64.max a1_1) + 1), false))))) else (some (wrap64 (a1_0), a1_1, decide (a1_0 < 9223372036854775808)))) = some (r1, r2, r3) := h
 clear h
 by_cases c3 : a0 = true
 ·subst c3
  have H1 : (if (IntKind.u64.wrap ((Go.bits .xor .u64 IntKind.u64.max a1_1) + 1)) = 0 then (if a1_0 < 9223372036854775808 then (some (wrap64 (IntKind.u64.wrap ((Go.bits .xor .u64 IntKind.u64.max a1_0) + 1)), IntKind.u64.wrap ((Go.bits .xor .u64 IntKind.u64.max a1_1) + 1), true)) else (if a1_0 = 9223372036854775808 then (some (wrap64 (IntKind.u64.wrap ((Go.bits .xor .u64 IntKind.u64.max a1_0) + 1)), IntKind.u64.wrap ((Go.bits .xor .u64 IntKind.u64.max a1_1) + 1), (a1_1 == 0))) else (some (wrap64 (IntKind.u64.wrap ((Go.bits .xor .u64 IntKind.u64.max a1_0) + 1)), IntKind.u64.wrap ((Go.bits .xor .u64 IntKind.u64.max a1_1) + 1), false)))) else (if a1_0 < 9223372036854775808 then (some (wrap64 (Go.bits .xor .u64 IntKind.u64.max a1_0), IntKind.u64.wrap ((Go.bits .xor .u64 IntKind.u64.max a1_1) + 1), true)) else (if a1_0 = 9223372036854775808 then (some (wrap64 (Go.bits .xor .u64 IntKind.u64.max a1_0), IntKind.u64.wrap ((Go.bits .xor .u64 IntKind.u64.max a1_1) + 1), (a1_1 == 0))) else (some (wrap64 (Go.bits .xor .u64 IntKind.u64.max a1_0), IntKind.u64.wrap ((Go.bits .xor .u64 IntKind.u64.max a1_1) + 1), false))))) = some (r1, r2, r3) := by rw [if_pos rfl] at H; exact H
  clear H
  have H := H1
  clear H1
  by_cases c4 : (IntKind.u64.wrap ((Go.bits .xor .u64 IntKind.u64.max a1_1) + 1)) = 0
  ·rw [if_pos c4] at H
   have c4b0 : ((IntKind.u64.wrap ((Go.bits .xor .u64 IntKind.u64.max a1_1) + 1)) == 0) = true := beq_iff_eq.mpr c4
   have c4b1 : ((IntKind.u64.wrap ((Go.bits .xor .u64 IntKind.u64.max a1_1) + 1)) != 0) = false := bne_eq_false_iff_eq.mpr c4
   clear c4
   by_cases c5 : a1_0 < 9223372036854775808
   ·rw [if_pos c5] at H
    have c5b0 : decide (a1_0 < 9223372036854775808) = true := decide_eq_true c5
    clear c5
    simp only [Option.some.injEq, Prod.mk.injEq] at H
    obtain ⟨rfl, rfl, rfl⟩ := H
    go_enter Tryd.func73, Tryd.ntmps73
    try go_wp2_with (first | ((with_reducible refine gate_dst (N := 3) rfl ?_); refine be_ (N := 3) (cs := #[.int .u64 a1_0, .int .u64 a1_1]) (t := 96) ?_; intro gb300 hg w6 hbox hb; have n0_ := Aside0.mk (below_step (qb_ HB.out) hb); have n1_ := Aside0.mk (hbox); have n2_ := Aside0.mk (bz_ hg (qb_ HB.out) : w.heap.size ≤ gb300); have n3_ := n2_; clear HB; have HB := n0_; have BK300 := n1_; have GW300 := n2_; have GE300 := n3_; clear n0_ n1_ n2_ n3_; clear hb hbox hg) | ((with_reducible refine gate_dst (N := 4) rfl ?_); refine be_ (N := 4) (cs := #[.int .i64 0, .int .u64 0]) (t := 63) ?_; intro gb301 hg w7 hbox hb; have n0_ := Aside0.mk (blk_below (qk_ BK300.out) hb); have n1_ := Aside0.mk (below_step (qb1_ GE300.out HB.out) hb); have n2_ := Aside0.mk (hbox); have n3_ := Aside0.mk (bz_ hg (qb1_ GE300.out HB.out) : w.heap.size ≤ gb301); have n4_ := n3_; have n5_ := Aside0.mk (nl_ hg (qk_ BK300.out) : gb300 ≠ gb301); have n6_ := Aside0.mk (ng_ hg (qk_ BK300.out) : gb301 ≠ gb300); clear BK300; clear HB; have BK300 := n0_; have HB := n1_; have BK301 := n2_; have GW301 := n3_; have GE301 := n4_; have NB300_301 := n5_; have NB301_300 := n6_; clear n0_ n1_ n2_ n3_ n4_ n5_ n6_; clear hb hbox hg))
    have n0_ := Aside0.mk (blk_drew BK300.out)
    have n1_ := Aside0.mk (blk_drew BK301.out)
    have n2_ := Aside0.mk (below_drew1 HB.out)
    clear BK300
    clear BK301
    clear HB
    have BK300 := n0_
    have BK301 := n1_
    have HB := n2_
    clear n0_ n1_ n2_
    refine start_ (n := 9) (S := fun w' => w'.cell? ⟨gb300, 0, none⟩ = some (.int .u64 a1_0) ∧ w'.cell? ⟨gb300, 1, none⟩ = some (.int .u64 a1_1)) (ds := []) (nb_ 9 0) (by kernel_rfl) rfl rfl (cc2_ BK300.out) (fun hHeld => ?_); refine with_tabW corebankref01_JoinP.tab3 corebankref01_JoinP.bits3 (fun HT_ HW_ => ?_)
    generalize w7.drew = w8 at BK300 BK301 HB hHeld ⊢
    refine pz_ 0 19 (nb_ 9 1) HT_.out ?_
    refine pz_ 4 23 (nb_ 9 17) HT_.out ?_
    refine tk2_ 1 20 (nb_ 9 19) HT_.out HW_.out hHeld ?_
    refine pz_ 2 21 (nb_ 9 23) HT_.out ?_
    refine pz_ 3 22 (nb_ 9 31) HT_.out ?_
    refine pz_ 7 6 (nb_ 9 159) HT_.out ?_
    refine tk2_ 5 24 (nb_ 9 191) HT_.out HW_.out hHeld ?_
    refine pz_ 6 25 (nb_ 9 255) HT_.out ?_
    refine pz_ 8 7 (nb_ 9 511) HT_.out ?_
    refine done_ (done_of HT_.out (by kernel_rfl)) ?_
    try go_wp2
    have n0_ := Aside0.mk (blk_drew BK300.out)
    have n1_ := Aside0.mk (blk_drew BK301.out)
    have n2_ := Aside0.mk (below_drew1 HB.out)
    clear BK300
    clear BK301
    clear HB
    have BK300 := n0_
    have BK301 := n1_
    have HB := n2_
    clear n0_ n1_ n2_
    refine start_ (n := 19) (S := fun w' => w'.cell? ⟨gb300, 0, none⟩ = some (.int .u64 a1_0) ∧ w'.cell? ⟨gb300, 1, none⟩ = some (.int .u64 a1_1)) (ds := []) (nb_ 19 0) (by kernel_rfl) rfl rfl (cc2_ BK300.out) (fun hHeld => ?_); refine with_tabW corebankref01_JoinP.tab6 corebankref01_JoinP.bits6 (fun HT_ HW_ => ?_)
    generalize w8.drew = w9 at BK300 BK301 HB hHeld ⊢
    refine pz_ 0 30 (nb_ 19 1) HT_.out ?_
    refine pz_ 1 31 (nb_ 19 3) HT_.out ?_
    refine pz_ 2 32 (nb_ 19 7) HT_.out ?_
    refine pz_ 3 33 (nb_ 19 15) HT_.out ?_
    refine pz_ 4 34 (nb_ 19 31) HT_.out ?_
    refine tk2_ 5 35 (nb_ 19 63) HT_.out HW_.out hHeld ?_
    refine pz_ 6 36 (nb_ 19 127) HT_.out ?_
    refine pz_ 7 37 (nb_ 19 255) HT_.out ?_
    refine pu_ 8 38 (nb_ 19 511) HT_.out ?_
    refine pu_ 9 39 (nb_ 19 1023) HT_.out ?_
    refine pu_ 10 40 (nb_ 19 2047) HT_.out ?_
    refine pu_ 11 41 (nb_ 19 4095) HT_.out ?_
    refine pu_ 12 42 (nb_ 19 8191) HT_.out ?_
    refine pu_ 13 43 (nb_ 19 16383) HT_.out ?_
    refine pu_ 14 44 (nb_ 19 32767) HT_.out ?_
    refine pu_ 15 45 (nb_ 19 65535) HT_.out ?_
    refine pz_ 16 46 (nb_ 19 131071) HT_.out ?_
    refine one_ (i := 17) (N := none) (nb_ 19 262143) rfl rfl (one_of HT_.out (by kernel_rfl)) (by decide) (fun K hK => ?_)
    have hs10 : w9.cell? ⟨gb301, 0, none⟩ = some (.int .i64 0) := (blk_cell BK301.out 0).trans rfl
    have hfs10 := blk_frozen BK301.out 0
    have hns10_0 := NB300_301.out
    have hms10_0 := NB301_300.out
    have hs11 : w9.cell? ⟨gb301, 1, none⟩ = some (.int .u64 0) := (blk_cell BK301.out 1).trans rfl
    have hfs11 := blk_frozen BK301.out 1
    have hns11_0 := NB300_301.out
    have hms11_0 := NB301_300.out
    refine skip_ (w1 := ?_) (by rfl) rfl ?_ ?_
    rotate_left
    ·go_simp
     rfl
    refine hK.out _ _ ⟨((cell_far (p := ⟨gb301, _, none⟩) NB300_301.out _).trans (((cell_far (p := ⟨gb301, _, none⟩) NB300_301.out _).trans (hHeld.1)))), ((cell_far (p := ⟨gb301, _, none⟩) NB300_301.out _).trans (((cell_far (p := ⟨gb301, _, none⟩) NB300_301.out _).trans (hHeld.2))))⟩ (fun hHeld => ?_)
    clear hK K
    refine pz_ 18 5 (nb_ 19 524287) HT_.out ?_
    refine done_ (done_of HT_.out (by kernel_rfl)) ?_
    try go_wp2
    refine bodyPost_ret (results_ct rfl _ _ gb301 63 #[.int .i64 (wrap64 (IntKind.u64.wrap ((Go.bits .xor .u64 IntKind.u64.max a1_0) + 1))), .int .u64 (IntKind.u64.wrap ((Go.bits .xor .u64 IntKind.u64.max a1_1) + 1))] (0, 0) _ rfl (qpp_ #[.int .i64 (wrap64 (IntKind.u64.wrap ((Go.bits .xor .u64 IntKind.u64.max a1_0) + 1))), .int .u64 0] 1 #[.int .i64 0, .int .u64 0] 0 BK301.out) Tryd.underlying63 rfl (by kernel_rfl)) rfl ?_
    exact ⟨qe_, qb2_ GE300.out GE301.out HB.out⟩
   ·rw [if_neg c5] at H
    have c5b0 : decide (a1_0 < 9223372036854775808) = false := decide_eq_false c5
    clear c5
    by_cases c12 : a1_0 = 9223372036854775808
    ·rw [if_pos c12] at H
     have c12b0 : (a1_0 == 9223372036854775808) = true := beq_iff_eq.mpr c12
     have c12b1 : (a1_0 != 9223372036854775808) = false := bne_eq_false_iff_eq.mpr c12
     clear c12
     simp only [Option.some.injEq, Prod.mk.injEq] at H
     obtain ⟨rfl, rfl, rfl⟩ := H
     go_enter Tryd.func73, Tryd.ntmps73
     try go_wp2_with (first | ((with_reducible refine gate_dst (N := 3) rfl ?_); refine be_ (N := 3) (cs := #[.int .u64 a1_0, .int .u64 a1_1]) (t := 96) ?_; intro gb300 hg w13 hbox hb; have n0_ := Aside0.mk (below_step (qb_ HB.out) hb); have n1_ := Aside0.mk (hbox); have n2_ := Aside0.mk (bz_ hg (qb_ HB.out) : w.heap.size ≤ gb300); have n3_ := n2_; clear HB; have HB := n0_; have BK300 := n1_; have GW300 := n2_; have GE300 := n3_; clear n0_ n1_ n2_ n3_; clear hb hbox hg) | ((with_reducible refine gate_dst (N := 4) rfl ?_); refine be_ (N := 4) (cs := #[.int .i64 0, .int .u64 0]) (t := 63) ?_; intro gb301 hg w14 hbox hb; have n0_ := Aside0.mk (blk_below (qk_ BK300.out) hb); have n1_ := Aside0.mk (below_step (qb1_ GE300.out HB.out) hb); have n2_ := Aside0.mk (hbox); have n3_ := Aside0.mk (bz_ hg (qb1_ GE300.out HB.out) : w.heap.size ≤ gb301); have n4_ := n3_; have n5_ := Aside0.mk (nl_ hg (qk_ BK300.out) : gb300 ≠ gb301); have n6_ := Aside0.mk (ng_ hg (qk_ BK300.out) : gb301 ≠ gb300); clear BK300; clear HB; have BK300 := n0_; have HB := n1_; have BK301 := n2_; have GW301 := n3_; have GE301 := n4_; have NB300_301 := n5_; have NB301_300 := n6_; clear n0_ n1_ n2_ n3_ n4_ n5_ n6_; clear hb hbox hg))
     have n0_ := Aside0.mk (blk_drew BK300.out)
     have n1_ := Aside0.mk (blk_drew BK301.out)
     have n2_ := Aside0.mk (below_drew1 HB.out)
     clear BK300
     clear BK301
     clear HB
     have BK300 := n0_
     have BK301 := n1_
     have HB := n2_
     clear n0_ n1_ n2_
     refine start_ (n := 9) (S := fun w' => w'.cell? ⟨gb300, 0, none⟩ = some (.int .u64 a1_0) ∧ w'.cell? ⟨gb300, 1, none⟩ = some (.int .u64 a1_1)) (ds := []) (nb_ 9 0) (by kernel_rfl) rfl rfl (cc2_ BK300.out) (fun hHeld => ?_); refine with_tabW corebankref01_JoinP.tab3 corebankref01_JoinP.bits3 (fun HT_ HW_ => ?_)
     generalize w14.drew = w15 at BK300 BK301 HB hHeld ⊢
     refine pz_ 0 19 (nb_ 9 1) HT_.out ?_
     refine pz_ 4 23 (nb_ 9 17) HT_.out ?_
     refine tk2_ 1 20 (nb_ 9 19) HT_.out HW_.out hHeld ?_
     refine pz_ 2 21 (nb_ 9 23) HT_.out ?_
     refine pz_ 3 22 (nb_ 9 31) HT_.out ?_
     refine pz_ 7 6 (nb_ 9 159) HT_.out ?_
     refine tk2_ 5 24 (nb_ 9 191) HT_.out HW_.out hHeld ?_
     refine pz_ 6 25 (nb_ 9 255) HT_.out ?_
     refine pz_ 8 7 (nb_ 9 511) HT_.out ?_
     refine done_ (done_of HT_.out (by kernel_rfl)) ?_
     try go_wp2
     have n0_ := Aside0.mk (blk_drew BK300.out)
     have n1_ := Aside0.mk (blk_drew BK301.out)
     have n2_ := Aside0.mk (below_drew1 HB.out)
     clear BK300
     clear BK301
     clear HB
     have BK300 := n0_
     have BK301 := n1_
     have HB := n2_
     clear n0_ n1_ n2_
     refine start_ (n := 19) (S := fun w' => w'.cell? ⟨gb300, 0, none⟩ = some (.int .u64 a1_0) ∧ w'.cell? ⟨gb300, 1, none⟩ = some (.int .u64 a1_1)) (ds := []) (nb_ 19 0) (by kernel_rfl) rfl rfl (cc2_ BK300.out) (fun hHeld => ?_); refine with_tabW corebankref01_JoinP.tab6 corebankref01_JoinP.bits6 (fun HT_ HW_ => ?_)
     generalize w15.drew = w16 at BK300 BK301 HB hHeld ⊢
     refine pz_ 0 30 (nb_ 19 1) HT_.out ?_
     refine pz_ 1 31 (nb_ 19 3) HT_.out ?_
     refine pz_ 2 32 (nb_ 19 7) HT_.out ?_
     refine pz_ 3 33 (nb_ 19 15) HT_.out ?_
     refine pz_ 4 34 (nb_ 19 31) HT_.out ?_
     refine tk2_ 5 35 (nb_ 19 63) HT_.out HW_.out hHeld ?_
     refine pz_ 6 36 (nb_ 19 127) HT_.out ?_
     refine pz_ 7 37 (nb_ 19 255) HT_.out ?_
     refine pz_ 8 38 (nb_ 19 511) HT_.out ?_
     refine tk2_ 9 39 (nb_ 19 1023) HT_.out HW_.out hHeld ?_
     refine pz_ 10 40 (nb_ 19 2047) HT_.out ?_
     refine pz_ 11 41 (nb_ 19 4095) HT_.out ?_
     refine pz_ 12 42 (nb_ 19 8191) HT_.out ?_
     refine tk2_ 13 43 (nb_ 19 16383) HT_.out HW_.out hHeld ?_
     refine pz_ 14 44 (nb_ 19 32767) HT_.out ?_
     refine pz_ 15 45 (nb_ 19 65535) HT_.out ?_
     refine pz_ 16 46 (nb_ 19 131071) HT_.out ?_
     refine one_ (i := 17) (N := none) (nb_ 19 262143) rfl rfl (one_of HT_.out (by kernel_rfl)) (by decide) (fun K hK => ?_)
     have hs17 : w16.cell? ⟨gb301, 0, none⟩ = some (.int .i64 0) := (blk_cell BK301.out 0).trans rfl
     have hfs17 := blk_frozen BK301.out 0
     have hns17_0 := NB300_301.out
     have hms17_0 := NB301_300.out
     have hs18 : w16.cell? ⟨gb301, 1, none⟩ = some (.int .u64 0) := (blk_cell BK301.out 1).trans rfl
     have hfs18 := blk_frozen BK301.out 1
     have hns18_0 := NB300_301.out
     have hms18_0 := NB301_300.out
     refine skip_ (w1 := ?_) (by rfl) rfl ?_ ?_
     rotate_left
     ·go_simp
      rfl
     refine hK.out _ _ ⟨((cell_far (p := ⟨gb301, _, none⟩) NB300_301.out _).trans (((cell_far (p := ⟨gb301, _, none⟩) NB300_301.out _).trans (hHeld.1)))), ((cell_far (p := ⟨gb301, _, none⟩) NB300_301.out _).trans (((cell_far (p := ⟨gb301, _, none⟩) NB300_301.out _).trans (hHeld.2))))⟩ (fun hHeld => ?_)
     clear hK K
     refine pz_ 18 5 (nb_ 19 524287) HT_.out ?_
     refine done_ (done_of HT_.out (by kernel_rfl)) ?_
     try go_wp2
     refine bodyPost_ret (results_ct rfl _ _ gb301 63 #[.int .i64 (wrap64 (IntKind.u64.wrap ((Go.bits .xor .u64 IntKind.u64.max a1_0) + 1))), .int .u64 (IntKind.u64.wrap ((Go.bits .xor .u64 IntKind.u64.max a1_1) + 1))] (0, 0) _ rfl (qpp_ #[.int .i64 (wrap64 (IntKind.u64.wrap ((Go.bits .xor .u64 IntKind.u64.max a1_0) + 1))), .int .u64 0] 1 #[.int .i64 0, .int .u64 0] 0 BK301.out) Tryd.underlying63 rfl (by kernel_rfl)) rfl ?_
     exact ⟨qe_, qb2_ GE300.out GE301.out HB.out⟩
    ·rw [if_neg c12] at H
     have c12b0 : (a1_0 == 9223372036854775808) = false := beq_eq_false_iff_ne.mpr c12
     have c12b1 : (a1_0 != 9223372036854775808) = true := bne_iff_ne.mpr c12
     simp only [Option.some.injEq, Prod.mk.injEq] at H
     obtain ⟨rfl, rfl, rfl⟩ := H
     go_enter Tryd.func73, Tryd.ntmps73
     try go_wp2_with (first | ((with_reducible refine gate_dst (N := 3) rfl ?_); refine be_ (N := 3) (cs := #[.int .u64 a1_0, .int .u64 a1_1]) (t := 96) ?_; intro gb300 hg w19 hbox hb; have n0_ := Aside0.mk (below_step (qb_ HB.out) hb); have n1_ := Aside0.mk (hbox); have n2_ := Aside0.mk (bz_ hg (qb_ HB.out) : w.heap.size ≤ gb300); have n3_ := n2_; clear HB; have HB := n0_; have BK300 := n1_; have GW300 := n2_; have GE300 := n3_; clear n0_ n1_ n2_ n3_; clear hb hbox hg) | ((with_reducible refine gate_dst (N := 4) rfl ?_); refine be_ (N := 4) (cs := #[.int .i64 0, .int .u64 0]) (t := 63) ?_; intro gb301 hg w20 hbox hb; have n0_ := Aside0.mk (blk_below (qk_ BK300.out) hb); have n1_ := Aside0.mk (below_step (qb1_ GE300.out HB.out) hb); have n2_ := Aside0.mk (hbox); have n3_ := Aside0.mk (bz_ hg (qb1_ GE300.out HB.out) : w.heap.size ≤ gb301); have n4_ := n3_; have n5_ := Aside0.mk (nl_ hg (qk_ BK300.out) : gb300 ≠ gb301); have n6_ := Aside0.mk (ng_ hg (qk_ BK300.out) : gb301 ≠ gb300); clear BK300; clear HB; have BK300 := n0_; have HB := n1_; have BK301 := n2_; have GW301 := n3_; have GE301 := n4_; have NB300_301 := n5_; have NB301_300 := n6_; clear n0_ n1_ n2_ n3_ n4_ n5_ n6_; clear hb hbox hg))
     have n0_ := Aside0.mk (blk_drew BK300.out)
     have n1_ := Aside0.mk (blk_drew BK301.out)
     have n2_ := Aside0.mk (below_drew1 HB.out)
     clear BK300
     clear BK301
     clear HB
     have BK300 := n0_
     have BK301 := n1_
     have HB := n2_
     clear n0_ n1_ n2_
     refine start_ (n := 9) (S := fun w' => w'.cell? ⟨gb300, 0, none⟩ = some (.int .u64 a1_0) ∧ w'.cell? ⟨gb300, 1, none⟩ = some (.int .u64 a1_1)) (ds := []) (nb_ 9 0) (by kernel_rfl) rfl rfl (cc2_ BK300.out) (fun hHeld => ?_); refine with_tabW corebankref01_JoinP.tab3 corebankref01_JoinP.bits3 (fun HT_ HW_ => ?_)
     generalize w20.drew = w21 at BK300 BK301 HB hHeld ⊢
     refine pz_ 0 19 (nb_ 9 1) HT_.out ?_
     refine pz_ 4 23 (nb_ 9 17) HT_.out ?_
     refine tk2_ 1 20 (nb_ 9 19) HT_.out HW_.out hHeld ?_
     refine pz_ 2 21 (nb_ 9 23) HT_.out ?_
     refine pz_ 3 22 (nb_ 9 31) HT_.out ?_
     refine pz_ 7 6 (nb_ 9 159) HT_.out ?_
     refine tk2_ 5 24 (nb_ 9 191) HT_.out HW_.out hHeld ?_
     refine pz_ 6 25 (nb_ 9 255) HT_.out ?_
     refine pz_ 8 7 (nb_ 9 511) HT_.out ?_
     refine done_ (done_of HT_.out (by kernel_rfl)) ?_
     try go_wp2
     have n0_ := Aside0.mk (blk_drew BK300.out)
     have n1_ := Aside0.mk (blk_drew BK301.out)
     have n2_ := Aside0.mk (below_drew1 HB.out)
     clear BK300
     clear BK301
     clear HB
     have BK300 := n0_
     have BK301 := n1_
     have HB := n2_
     clear n0_ n1_ n2_
     refine start_ (n := 19) (S := fun w' => w'.cell? ⟨gb300, 0, none⟩ = some (.int .u64 a1_0) ∧ w'.cell? ⟨gb300, 1, none⟩ = some (.int .u64 a1_1)) (ds := []) (nb_ 19 0) (by kernel_rfl) rfl rfl (cc2_ BK300.out) (fun hHeld => ?_); refine with_tabW corebankref01_JoinP.tab6 corebankref01_JoinP.bits6 (fun HT_ HW_ => ?_)
     generalize w21.drew = w22 at BK300 BK301 HB hHeld ⊢
     refine pz_ 0 30 (nb_ 19 1) HT_.out ?_
     refine pz_ 1 31 (nb_ 19 3) HT_.out ?_
     refine pz_ 2 32 (nb_ 19 7) HT_.out ?_
     refine pz_ 3 33 (nb_ 19 15) HT_.out ?_
     refine pz_ 4 34 (nb_ 19 31) HT_.out ?_
     refine tk2_ 5 35 (nb_ 19 63) HT_.out HW_.out hHeld ?_
     refine pz_ 6 36 (nb_ 19 127) HT_.out ?_
     refine pz_ 7 37 (nb_ 19 255) HT_.out ?_
     refine pz_ 8 38 (nb_ 19 511) HT_.out ?_
     refine tk2_ 9 39 (nb_ 19 1023) HT_.out HW_.out hHeld ?_
     refine pz_ 10 40 (nb_ 19 2047) HT_.out ?_
     refine pz_ 11 41 (nb_ 19 4095) HT_.out ?_
     refine pu_ 12 42 (nb_ 19 8191) HT_.out ?_
     refine pu_ 13 43 (nb_ 19 16383) HT_.out ?_
     refine pu_ 14 44 (nb_ 19 32767) HT_.out ?_
     refine pz_ 15 45 (nb_ 19 65535) HT_.out ?_
     refine pz_ 16 46 (nb_ 19 131071) HT_.out ?_
     refine one_ (i := 17) (N := none) (nb_ 19 262143) rfl rfl (one_of HT_.out (by kernel_rfl)) (by decide) (fun K hK => ?_)
     have hs23 : w22.cell? ⟨gb301, 0, none⟩ = some (.int .i64 0) := (blk_cell BK301.out 0).trans rfl
     have hfs23 := blk_frozen BK301.out 0
     have hns23_0 := NB300_301.out
     have hms23_0 := NB301_300.out
     have hs24 : w22.cell? ⟨gb301, 1, none⟩ = some (.int .u64 0) := (blk_cell BK301.out 1).trans rfl
     have hfs24 := blk_frozen BK301.out 1
     have hns24_0 := NB300_301.out
     have hms24_0 := NB301_300.out
     refine skip_ (w1 := ?_) (by rfl) rfl ?_ ?_
     rotate_left
     ·go_simp
      rfl
     refine hK.out _ _ ⟨((cell_far (p := ⟨gb301, _, none⟩) NB300_301.out _).trans (((cell_far (p := ⟨gb301, _, none⟩) NB300_301.out _).trans (hHeld.1)))), ((cell_far (p := ⟨gb301, _, none⟩) NB300_301.out _).trans (((cell_far (p := ⟨gb301, _, none⟩) NB300_301.out _).trans (hHeld.2))))⟩ (fun hHeld => ?_)
     clear hK K
     refine pz_ 18 5 (nb_ 19 524287) HT_.out ?_
     refine done_ (done_of HT_.out (by kernel_rfl)) ?_
     try go_wp2
     refine bodyPost_ret (results_ct rfl _ _ gb301 63 #[.int .i64 (wrap64 (IntKind.u64.wrap ((Go.bits .xor .u64 IntKind.u64.max a1_0) + 1))), .int .u64 (IntKind.u64.wrap ((Go.bits .xor .u64 IntKind.u64.max a1_1) + 1))] (0, 0) _ rfl (qpp_ #[.int .i64 (wrap64 (IntKind.u64.wrap ((Go.bits .xor .u64 IntKind.u64.max a1_0) + 1))), .int .u64 0] 1 #[.int .i64 0, .int .u64 0] 0 BK301.out) Tryd.underlying63 rfl (by kernel_rfl)) rfl ?_
     exact ⟨qe_, qb2_ GE300.out GE301.out HB.out⟩
  ·rw [if_neg c4] at H
   have c4b0 : ((IntKind.u64.wrap ((Go.bits .xor .u64 IntKind.u64.max a1_1) + 1)) == 0) = false := beq_eq_false_iff_ne.mpr c4
   have c4b1 : ((IntKind.u64.wrap ((Go.bits .xor .u64 IntKind.u64.max a1_1) + 1)) != 0) = true := bne_iff_ne.mpr c4
   by_cases c25 : a1_0 < 9223372036854775808
   ·rw [if_pos c25] at H
    have c25b0 : decide (a1_0 < 9223372036854775808) = true := decide_eq_true c25
    clear c25
    simp only [Option.some.injEq, Prod.mk.injEq] at H
    obtain ⟨rfl, rfl, rfl⟩ := H
    go_enter Tryd.func73, Tryd.ntmps73
    try go_wp2_with (first | ((with_reducible refine gate_dst (N := 3) rfl ?_); refine be_ (N := 3) (cs := #[.int .u64 a1_0, .int .u64 a1_1]) (t := 96) ?_; intro gb300 hg w26 hbox hb; have n0_ := Aside0.mk (below_step (qb_ HB.out) hb); have n1_ := Aside0.mk (hbox); have n2_ := Aside0.mk (bz_ hg (qb_ HB.out) : w.heap.size ≤ gb300); have n3_ := n2_; clear HB; have HB := n0_; have BK300 := n1_; have GW300 := n2_; have GE300 := n3_; clear n0_ n1_ n2_ n3_; clear hb hbox hg) | ((with_reducible refine gate_dst (N := 4) rfl ?_); refine be_ (N := 4) (cs := #[.int .i64 0, .int .u64 0]) (t := 63) ?_; intro gb301 hg w27 hbox hb; have n0_ := Aside0.mk (blk_below (qk_ BK300.out) hb); have n1_ := Aside0.mk (below_step (qb1_ GE300.out HB.out) hb); have n2_ := Aside0.mk (hbox); have n3_ := Aside0.mk (bz_ hg (qb1_ GE300.out HB.out) : w.heap.size ≤ gb301); have n4_ := n3_; have n5_ := Aside0.mk (nl_ hg (qk_ BK300.out) : gb300 ≠ gb301); have n6_ := Aside0.mk (ng_ hg (qk_ BK300.out) : gb301 ≠ gb300); clear BK300; clear HB; have BK300 := n0_; have HB := n1_; have BK301 := n2_; have GW301 := n3_; have GE301 := n4_; have NB300_301 := n5_; have NB301_300 := n6_; clear n0_ n1_ n2_ n3_ n4_ n5_ n6_; clear hb hbox hg))
    have n0_ := Aside0.mk (blk_drew BK300.out)
    have n1_ := Aside0.mk (blk_drew BK301.out)
    have n2_ := Aside0.mk (below_drew1 HB.out)
    clear BK300
    clear BK301
    clear HB
    have BK300 := n0_
    have BK301 := n1_
    have HB := n2_
    clear n0_ n1_ n2_
    refine start_ (n := 9) (S := fun w' => w'.cell? ⟨gb300, 0, none⟩ = some (.int .u64 a1_0) ∧ w'.cell? ⟨gb300, 1, none⟩ = some (.int .u64 a1_1)) (ds := []) (nb_ 9 0) (by kernel_rfl) rfl rfl (cc2_ BK300.out) (fun hHeld => ?_); refine with_tabW corebankref01_JoinP.tab3 corebankref01_JoinP.bits3 (fun HT_ HW_ => ?_)
    generalize w27.drew = w28 at BK300 BK301 HB hHeld ⊢
    refine pz_ 0 19 (nb_ 9 1) HT_.out ?_
    refine pz_ 4 23 (nb_ 9 17) HT_.out ?_
    refine tk2_ 1 20 (nb_ 9 19) HT_.out HW_.out hHeld ?_
    refine pz_ 2 21 (nb_ 9 23) HT_.out ?_
    refine pz_ 3 22 (nb_ 9 31) HT_.out ?_
    refine pz_ 7 6 (nb_ 9 159) HT_.out ?_
    refine tk2_ 5 24 (nb_ 9 191) HT_.out HW_.out hHeld ?_
    refine pz_ 6 25 (nb_ 9 255) HT_.out ?_
    refine pz_ 8 7 (nb_ 9 511) HT_.out ?_
    refine done_ (done_of HT_.out (by kernel_rfl)) ?_
    try go_wp2
    have n0_ := Aside0.mk (blk_drew BK300.out)
    have n1_ := Aside0.mk (blk_drew BK301.out)
    have n2_ := Aside0.mk (below_drew1 HB.out)
    clear BK300
    clear BK301
    clear HB
    have BK300 := n0_
    have BK301 := n1_
    have HB := n2_
    clear n0_ n1_ n2_
    refine start_ (n := 19) (S := fun w' => w'.cell? ⟨gb300, 0, none⟩ = some (.int .u64 a1_0) ∧ w'.cell? ⟨gb300, 1, none⟩ = some (.int .u64 a1_1)) (ds := []) (nb_ 19 0) (by kernel_rfl) rfl rfl (cc2_ BK300.out) (fun hHeld => ?_); refine with_tabW corebankref01_JoinP.tab6 corebankref01_JoinP.bits6 (fun HT_ HW_ => ?_)
    generalize w28.drew = w29 at BK300 BK301 HB hHeld ⊢
    refine pz_ 0 30 (nb_ 19 1) HT_.out ?_
    refine pz_ 1 31 (nb_ 19 3) HT_.out ?_
    refine pz_ 2 32 (nb_ 19 7) HT_.out ?_
    refine pz_ 3 33 (nb_ 19 15) HT_.out ?_
    refine pz_ 4 34 (nb_ 19 31) HT_.out ?_
    refine tk2_ 5 35 (nb_ 19 63) HT_.out HW_.out hHeld ?_
    refine pz_ 6 36 (nb_ 19 127) HT_.out ?_
    refine pz_ 7 37 (nb_ 19 255) HT_.out ?_
    refine pu_ 8 38 (nb_ 19 511) HT_.out ?_
    refine pu_ 9 39 (nb_ 19 1023) HT_.out ?_
    refine pu_ 10 40 (nb_ 19 2047) HT_.out ?_
    refine pu_ 11 41 (nb_ 19 4095) HT_.out ?_
    refine pu_ 12 42 (nb_ 19 8191) HT_.out ?_
    refine pu_ 13 43 (nb_ 19 16383) HT_.out ?_
    refine pu_ 14 44 (nb_ 19 32767) HT_.out ?_
    refine pu_ 15 45 (nb_ 19 65535) HT_.out ?_
    refine pz_ 16 46 (nb_ 19 131071) HT_.out ?_
    refine one_ (i := 17) (N := none) (nb_ 19 262143) rfl rfl (one_of HT_.out (by kernel_rfl)) (by decide) (fun K hK => ?_)
    have hs30 : w29.cell? ⟨gb301, 0, none⟩ = some (.int .i64 0) := (blk_cell BK301.out 0).trans rfl
    have hfs30 := blk_frozen BK301.out 0
    have hns30_0 := NB300_301.out
    have hms30_0 := NB301_300.out
    have hs31 : w29.cell? ⟨gb301, 1, none⟩ = some (.int .u64 0) := (blk_cell BK301.out 1).trans rfl
    have hfs31 := blk_frozen BK301.out 1
    have hns31_0 := NB300_301.out
    have hms31_0 := NB301_300.out
    refine skip_ (w1 := ?_) (by rfl) rfl ?_ ?_
    rotate_left
    ·go_simp
     rfl
    refine hK.out _ _ ⟨((cell_far (p := ⟨gb301, _, none⟩) NB300_301.out _).trans (((cell_far (p := ⟨gb301, _, none⟩) NB300_301.out _).trans (hHeld.1)))), ((cell_far (p := ⟨gb301, _, none⟩) NB300_301.out _).trans (((cell_far (p := ⟨gb301, _, none⟩) NB300_301.out _).trans (hHeld.2))))⟩ (fun hHeld => ?_)
    clear hK K
    refine pz_ 18 5 (nb_ 19 524287) HT_.out ?_
    refine done_ (done_of HT_.out (by kernel_rfl)) ?_
    try go_wp2
    refine bodyPost_ret (results_ct rfl _ _ gb301 63 #[.int .i64 (wrap64 (Go.bits .xor .u64 IntKind.u64.max a1_0)), .int .u64 (IntKind.u64.wrap ((Go.bits .xor .u64 IntKind.u64.max a1_1) + 1))] (0, 0) _ rfl (qpp_ #[.int .i64 (wrap64 (Go.bits .xor .u64 IntKind.u64.max a1_0)), .int .u64 0] 1 #[.int .i64 0, .int .u64 0] 0 BK301.out) Tryd.underlying63 rfl (by kernel_rfl)) rfl ?_
    exact ⟨qe_, qb2_ GE300.out GE301.out HB.out⟩
   ·rw [if_neg c25] at H
    have c25b0 : decide (a1_0 < 9223372036854775808) = false := decide_eq_false c25
    clear c25
    by_cases c32 : a1_0 = 9223372036854775808
    ·rw [if_pos c32] at H
     have c32b0 : (a1_0 == 9223372036854775808) = true := beq_iff_eq.mpr c32
     have c32b1 : (a1_0 != 9223372036854775808) = false := bne_eq_false_iff_eq.mpr c32
     clear c32
     simp only [Option.some.injEq, Prod.mk.injEq] at H
     obtain ⟨rfl, rfl, rfl⟩ := H
     go_enter Tryd.func73, Tryd.ntmps73
     try go_wp2_with (first | ((with_reducible refine gate_dst (N := 3) rfl ?_); refine be_ (N := 3) (cs := #[.int .u64 a1_0, .int .u64 a1_1]) (t := 96) ?_; intro gb300 hg w33 hbox hb; have n0_ := Aside0.mk (below_step (qb_ HB.out) hb); have n1_ := Aside0.mk (hbox); have n2_ := Aside0.mk (bz_ hg (qb_ HB.out) : w.heap.size ≤ gb300); have n3_ := n2_; clear HB; have HB := n0_; have BK300 := n1_; have GW300 := n2_; have GE300 := n3_; clear n0_ n1_ n2_ n3_; clear hb hbox hg) | ((with_reducible refine gate_dst (N := 4) rfl ?_); refine be_ (N := 4) (cs := #[.int .i64 0, .int .u64 0]) (t := 63) ?_; intro gb301 hg w34 hbox hb; have n0_ := Aside0.mk (blk_below (qk_ BK300.out) hb); have n1_ := Aside0.mk (below_step (qb1_ GE300.out HB.out) hb); have n2_ := Aside0.mk (hbox); have n3_ := Aside0.mk (bz_ hg (qb1_ GE300.out HB.out) : w.heap.size ≤ gb301); have n4_ := n3_; have n5_ := Aside0.mk (nl_ hg (qk_ BK300.out) : gb300 ≠ gb301); have n6_ := Aside0.mk (ng_ hg (qk_ BK300.out) : gb301 ≠ gb300); clear BK300; clear HB; have BK300 := n0_; have HB := n1_; have BK301 := n2_; have GW301 := n3_; have GE301 := n4_; have NB300_301 := n5_; have NB301_300 := n6_; clear n0_ n1_ n2_ n3_ n4_ n5_ n6_; clear hb hbox hg))
     have n0_ := Aside0.mk (blk_drew BK300.out)
     have n1_ := Aside0.mk (blk_drew BK301.out)
     have n2_ := Aside0.mk (below_drew1 HB.out)
     clear BK300
     clear BK301
     clear HB
     have BK300 := n0_
     have BK301 := n1_
     have HB := n2_
     clear n0_ n1_ n2_
     refine start_ (n := 9) (S := fun w' => w'.cell? ⟨gb300, 0, none⟩ = some (.int .u64 a1_0) ∧ w'.cell? ⟨gb300, 1, none⟩ = some (.int .u64 a1_1)) (ds := []) (nb_ 9 0) (by kernel_rfl) rfl rfl (cc2_ BK300.out) (fun hHeld => ?_); refine with_tabW corebankref01_JoinP.tab3 corebankref01_JoinP.bits3 (fun HT_ HW_ => ?_)
     generalize w34.drew = w35 at BK300 BK301 HB hHeld ⊢
     refine pz_ 0 19 (nb_ 9 1) HT_.out ?_
     refine pz_ 4 23 (nb_ 9 17) HT_.out ?_
     refine tk2_ 1 20 (nb_ 9 19) HT_.out HW_.out hHeld ?_
     refine pz_ 2 21 (nb_ 9 23) HT_.out ?_
     refine pz_ 3 22 (nb_ 9 31) HT_.out ?_
     refine pz_ 7 6 (nb_ 9 159) HT_.out ?_
     refine tk2_ 5 24 (nb_ 9 191) HT_.out HW_.out hHeld ?_
     refine pz_ 6 25 (nb_ 9 255) HT_.out ?_
     refine pz_ 8 7 (nb_ 9 511) HT_.out ?_
     refine done_ (done_of HT_.out (by kernel_rfl)) ?_
     try go_wp2
     have n0_ := Aside0.mk (blk_drew BK300.out)
     have n1_ := Aside0.mk (blk_drew BK301.out)
     have n2_ := Aside0.mk (below_drew1 HB.out)
     clear BK300
     clear BK301
     clear HB
     have BK300 := n0_
     have BK301 := n1_
     have HB := n2_
     clear n0_ n1_ n2_
     refine start_ (n := 19) (S := fun w' => w'.cell? ⟨gb300, 0, none⟩ = some (.int .u64 a1_0) ∧ w'.cell? ⟨gb300, 1, none⟩ = some (.int .u64 a1_1)) (ds := []) (nb_ 19 0) (by kernel_rfl) rfl rfl (cc2_ BK300.out) (fun hHeld => ?_); refine with_tabW corebankref01_JoinP.tab6 corebankref01_JoinP.bits6 (fun HT_ HW_ => ?_)
     generalize w35.drew = w36 at BK300 BK301 HB hHeld ⊢
     refine pz_ 0 30 (nb_ 19 1) HT_.out ?_
     refine pz_ 1 31 (nb_ 19 3) HT_.out ?_
     refine pz_ 2 32 (nb_ 19 7) HT_.out ?_
     refine pz_ 3 33 (nb_ 19 15) HT_.out ?_
     refine pz_ 4 34 (nb_ 19 31) HT_.out ?_
     refine tk2_ 5 35 (nb_ 19 63) HT_.out HW_.out hHeld ?_
     refine pz_ 6 36 (nb_ 19 127) HT_.out ?_
     refine pz_ 7 37 (nb_ 19 255) HT_.out ?_
     refine pz_ 8 38 (nb_ 19 511) HT_.out ?_
     refine tk2_ 9 39 (nb_ 19 1023) HT_.out HW_.out hHeld ?_
     refine pz_ 10 40 (nb_ 19 2047) HT_.out ?_
     refine pz_ 11 41 (nb_ 19 4095) HT_.out ?_
     refine pz_ 12 42 (nb_ 19 8191) HT_.out ?_
     refine tk2_ 13 43 (nb_ 19 16383) HT_.out HW_.out hHeld ?_
     refine pz_ 14 44 (nb_ 19 32767) HT_.out ?_
     refine pz_ 15 45 (nb_ 19 65535) HT_.out ?_
     refine pz_ 16 46 (nb_ 19 131071) HT_.out ?_
     refine one_ (i := 17) (N := none) (nb_ 19 262143) rfl rfl (one_of HT_.out (by kernel_rfl)) (by decide) (fun K hK => ?_)
     have hs37 : w36.cell? ⟨gb301, 0, none⟩ = some (.int .i64 0) := (blk_cell BK301.out 0).trans rfl
     have hfs37 := blk_frozen BK301.out 0
     have hns37_0 := NB300_301.out
     have hms37_0 := NB301_300.out
     have hs38 : w36.cell? ⟨gb301, 1, none⟩ = some (.int .u64 0) := (blk_cell BK301.out 1).trans rfl
     have hfs38 := blk_frozen BK301.out 1
     have hns38_0 := NB300_301.out
     have hms38_0 := NB301_300.out
     refine skip_ (w1 := ?_) (by rfl) rfl ?_ ?_
     rotate_left
     ·go_simp
      rfl
     refine hK.out _ _ ⟨((cell_far (p := ⟨gb301, _, none⟩) NB300_301.out _).trans (((cell_far (p := ⟨gb301, _, none⟩) NB300_301.out _).trans (hHeld.1)))), ((cell_far (p := ⟨gb301, _, none⟩) NB300_301.out _).trans (((cell_far (p := ⟨gb301, _, none⟩) NB300_301.out _).trans (hHeld.2))))⟩ (fun hHeld => ?_)
     clear hK K
     refine pz_ 18 5 (nb_ 19 524287) HT_.out ?_
     refine done_ (done_of HT_.out (by kernel_rfl)) ?_
     try go_wp2
     refine bodyPost_ret (results_ct rfl _ _ gb301 63 #[.int .i64 (wrap64 (Go.bits .xor .u64 IntKind.u64.max a1_0)), .int .u64 (IntKind.u64.wrap ((Go.bits .xor .u64 IntKind.u64.max a1_1) + 1))] (0, 0) _ rfl (qpp_ #[.int .i64 (wrap64 (Go.bits .xor .u64 IntKind.u64.max a1_0)), .int .u64 0] 1 #[.int .i64 0, .int .u64 0] 0 BK301.out) Tryd.underlying63 rfl (by kernel_rfl)) rfl ?_
     exact ⟨qe_, qb2_ GE300.out GE301.out HB.out⟩
    ·rw [if_neg c32] at H
     have c32b0 : (a1_0 == 9223372036854775808) = false := beq_eq_false_iff_ne.mpr c32
     have c32b1 : (a1_0 != 9223372036854775808) = true := bne_iff_ne.mpr c32
     simp only [Option.some.injEq, Prod.mk.injEq] at H
     obtain ⟨rfl, rfl, rfl⟩ := H
     go_enter Tryd.func73, Tryd.ntmps73
     try go_wp2_with (first | ((with_reducible refine gate_dst (N := 3) rfl ?_); refine be_ (N := 3) (cs := #[.int .u64 a1_0, .int .u64 a1_1]) (t := 96) ?_; intro gb300 hg w39 hbox hb; have n0_ := Aside0.mk (below_step (qb_ HB.out) hb); have n1_ := Aside0.mk (hbox); have n2_ := Aside0.mk (bz_ hg (qb_ HB.out) : w.heap.size ≤ gb300); have n3_ := n2_; clear HB; have HB := n0_; have BK300 := n1_; have GW300 := n2_; have GE300 := n3_; clear n0_ n1_ n2_ n3_; clear hb hbox hg) | ((with_reducible refine gate_dst (N := 4) rfl ?_); refine be_ (N := 4) (cs := #[.int .i64 0, .int .u64 0]) (t := 63) ?_; intro gb301 hg w40 hbox hb; have n0_ := Aside0.mk (blk_below (qk_ BK300.out) hb); have n1_ := Aside0.mk (below_step (qb1_ GE300.out HB.out) hb); have n2_ := Aside0.mk (hbox); have n3_ := Aside0.mk (bz_ hg (qb1_ GE300.out HB.out) : w.heap.size ≤ gb301); have n4_ := n3_; have n5_ := Aside0.mk (nl_ hg (qk_ BK300.out) : gb300 ≠ gb301); have n6_ := Aside0.mk (ng_ hg (qk_ BK300.out) : gb301 ≠ gb300); clear BK300; clear HB; have BK300 := n0_; have HB := n1_; have BK301 := n2_; have GW301 := n3_; have GE301 := n4_; have NB300_301 := n5_; have NB301_300 := n6_; clear n0_ n1_ n2_ n3_ n4_ n5_ n6_; clear hb hbox hg))
     have n0_ := Aside0.mk (blk_drew BK300.out)
     have n1_ := Aside0.mk (blk_drew BK301.out)
     have n2_ := Aside0.mk (below_drew1 HB.out)
     clear BK300
     clear BK301
     clear HB
     have BK300 := n0_
     have BK301 := n1_
     have HB := n2_
     clear n0_ n1_ n2_
     refine start_ (n := 9) (S := fun w' => w'.cell? ⟨gb300, 0, none⟩ = some (.int .u64 a1_0) ∧ w'.cell? ⟨gb300, 1, none⟩ = some (.int .u64 a1_1)) (ds := []) (nb_ 9 0) (by kernel_rfl) rfl rfl (cc2_ BK300.out) (fun hHeld => ?_); refine with_tabW corebankref01_JoinP.tab3 corebankref01_JoinP.bits3 (fun HT_ HW_ => ?_)
     generalize w40.drew = w41 at BK300 BK301 HB hHeld ⊢
     refine pz_ 0 19 (nb_ 9 1) HT_.out ?_
     refine pz_ 4 23 (nb_ 9 17) HT_.out ?_
     refine tk2_ 1 20 (nb_ 9 19) HT_.out HW_.out hHeld ?_
     refine pz_ 2 21 (nb_ 9 23) HT_.out ?_
     refine pz_ 3 22 (nb_ 9 31) HT_.out ?_
     refine pz_ 7 6 (nb_ 9 159) HT_.out ?_
     refine tk2_ 5 24 (nb_ 9 191) HT_.out HW_.out hHeld ?_
     refine pz_ 6 25 (nb_ 9 255) HT_.out ?_
     refine pz_ 8 7 (nb_ 9 511) HT_.out ?_
     refine done_ (done_of HT_.out (by kernel_rfl)) ?_
     try go_wp2
     have n0_ := Aside0.mk (blk_drew BK300.out)
     have n1_ := Aside0.mk (blk_drew BK301.out)
     have n2_ := Aside0.mk (below_drew1 HB.out)
     clear BK300
     clear BK301
     clear HB
     have BK300 := n0_
     have BK301 := n1_
     have HB := n2_
     clear n0_ n1_ n2_
     refine start_ (n := 19) (S := fun w' => w'.cell? ⟨gb300, 0, none⟩ = some (.int .u64 a1_0) ∧ w'.cell? ⟨gb300, 1, none⟩ = some (.int .u64 a1_1)) (ds := []) (nb_ 19 0) (by kernel_rfl) rfl rfl (cc2_ BK300.out) (fun hHeld => ?_); refine with_tabW corebankref01_JoinP.tab6 corebankref01_JoinP.bits6 (fun HT_ HW_ => ?_)
     generalize w41.drew = w42 at BK300 BK301 HB hHeld ⊢
     refine pz_ 0 30 (nb_ 19 1) HT_.out ?_
     refine pz_ 1 31 (nb_ 19 3) HT_.out ?_
     refine pz_ 2 32 (nb_ 19 7) HT_.out ?_
     refine pz_ 3 33 (nb_ 19 15) HT_.out ?_
     refine pz_ 4 34 (nb_ 19 31) HT_.out ?_
     refine tk2_ 5 35 (nb_ 19 63) HT_.out HW_.out hHeld ?_
     refine pz_ 6 36 (nb_ 19 127) HT_.out ?_
     refine pz_ 7 37 (nb_ 19 255) HT_.out ?_
     refine pz_ 8 38 (nb_ 19 511) HT_.out ?_
     refine tk2_ 9 39 (nb_ 19 1023) HT_.out HW_.out hHeld ?_
     refine pz_ 10 40 (nb_ 19 2047) HT_.out ?_
     refine pz_ 11 41 (nb_ 19 4095) HT_.out ?_
     refine pu_ 12 42 (nb_ 19 8191) HT_.out ?_
     refine pu_ 13 43 (nb_ 19 16383) HT_.out ?_
     refine pu_ 14 44 (nb_ 19 32767) HT_.out ?_
     refine pz_ 15 45 (nb_ 19 65535) HT_.out ?_
     refine pz_ 16 46 (nb_ 19 131071) HT_.out ?_
     refine one_ (i := 17) (N := none) (nb_ 19 262143) rfl rfl (one_of HT_.out (by kernel_rfl)) (by decide) (fun K hK => ?_)
     have hs43 : w42.cell? ⟨gb301, 0, none⟩ = some (.int .i64 0) := (blk_cell BK301.out 0).trans rfl
     have hfs43 := blk_frozen BK301.out 0
     have hns43_0 := NB300_301.out
     have hms43_0 := NB301_300.out
     have hs44 : w42.cell? ⟨gb301, 1, none⟩ = some (.int .u64 0) := (blk_cell BK301.out 1).trans rfl
     have hfs44 := blk_frozen BK301.out 1
     have hns44_0 := NB300_301.out
     have hms44_0 := NB301_300.out
     refine skip_ (w1 := ?_) (by rfl) rfl ?_ ?_
     rotate_left
     ·go_simp
      rfl
     refine hK.out _ _ ⟨((cell_far (p := ⟨gb301, _, none⟩) NB300_301.out _).trans (((cell_far (p := ⟨gb301, _, none⟩) NB300_301.out _).trans (hHeld.1)))), ((cell_far (p := ⟨gb301, _, none⟩) NB300_301.out _).trans (((cell_far (p := ⟨gb301, _, none⟩) NB300_301.out _).trans (hHeld.2))))⟩ (fun hHeld => ?_)
     clear hK K
     refine pz_ 18 5 (nb_ 19 524287) HT_.out ?_
     refine done_ (done_of HT_.out (by kernel_rfl)) ?_
     try go_wp2
     refine bodyPost_ret (results_ct rfl _ _ gb301 63 #[.int .i64 (wrap64 (Go.bits .xor .u64 IntKind.u64.max a1_0)), .int .u64 (IntKind.u64.wrap ((Go.bits .xor .u64 IntKind.u64.max a1_1) + 1))] (0, 0) _ rfl (qpp_ #[.int .i64 (wrap64 (Go.bits .xor .u64 IntKind.u64.max a1_0)), .int .u64 0] 1 #[.int .i64 0, .int .u64 0] 0 BK301.out) Tryd.underlying63 rfl (by kernel_rfl)) rfl ?_
     exact ⟨qe_, qb2_ GE300.out GE301.out HB.out⟩
 ·replace c3 := Bool.eq_false_iff.mpr c3
  subst c3
  have H1 : (some (wrap64 (a1_0), a1_1, decide (a1_0 < 9223372036854775808))) = some (r1, r2, r3) := by rw [if_neg (show ¬ (false = true) by decide)] at H; exact H
  clear H
  have H := H1
  clear H1
  simp only [Option.some.injEq, Prod.mk.injEq] at H
  obtain ⟨rfl, rfl, rfl⟩ := H
  go_enter Tryd.func73, Tryd.ntmps73
  try go_wp2_with (first | ((with_reducible refine gate_dst (N := 3) rfl ?_); refine be_ (N := 3) (cs := #[.int .u64 a1_0, .int .u64 a1_1]) (t := 96) ?_; intro gb300 hg w45 hbox hb; have n0_ := Aside0.mk (below_step (qb_ HB.out) hb); have n1_ := Aside0.mk (hbox); have n2_ := Aside0.mk (bz_ hg (qb_ HB.out) : w.heap.size ≤ gb300); have n3_ := n2_; clear HB; have HB := n0_; have BK300 := n1_; have GW300 := n2_; have GE300 := n3_; clear n0_ n1_ n2_ n3_; clear hb hbox hg) | ((with_reducible refine gate_dst (N := 4) rfl ?_); refine be_ (N := 4) (cs := #[.int .i64 0, .int .u64 0]) (t := 63) ?_; intro gb301 hg w46 hbox hb; have n0_ := Aside0.mk (blk_below (qk_ BK300.out) hb); have n1_ := Aside0.mk (below_step (qb1_ GE300.out HB.out) hb); have n2_ := Aside0.mk (hbox); have n3_ := Aside0.mk (bz_ hg (qb1_ GE300.out HB.out) : w.heap.size ≤ gb301); have n4_ := n3_; have n5_ := Aside0.mk (nl_ hg (qk_ BK300.out) : gb300 ≠ gb301); have n6_ := Aside0.mk (ng_ hg (qk_ BK300.out) : gb301 ≠ gb300); clear BK300; clear HB; have BK300 := n0_; have HB := n1_; have BK301 := n2_; have GW301 := n3_; have GE301 := n4_; have NB300_301 := n5_; have NB301_300 := n6_; clear n0_ n1_ n2_ n3_ n4_ n5_ n6_; clear hb hbox hg))
  have n0_ := Aside0.mk (blk_drew BK300.out)
  have n1_ := Aside0.mk (blk_drew BK301.out)
  have n2_ := Aside0.mk (below_drew1 HB.out)
  clear BK300
  clear BK301
  clear HB
  have BK300 := n0_
  have BK301 := n1_
  have HB := n2_
  clear n0_ n1_ n2_
  refine start_ (n := 11) (S := fun w' => w'.cell? ⟨gb300, 0, none⟩ = some (.int .u64 a1_0) ∧ w'.cell? ⟨gb300, 1, none⟩ = some (.int .u64 a1_1)) (ds := []) (nb_ 11 0) (by kernel_rfl) rfl rfl (cc2_ BK300.out) (fun hHeld => ?_); refine with_tabW corebankref01_JoinP.tab2 corebankref01_JoinP.bits2 (fun HT_ HW_ => ?_)
  generalize w46.drew = w47 at BK300 BK301 HB hHeld ⊢
  refine pz_ 0 10 (nb_ 11 1) HT_.out ?_
  refine pz_ 3 13 (nb_ 11 9) HT_.out ?_
  refine pz_ 6 16 (nb_ 11 73) HT_.out ?_
  refine tk2_ 1 11 (nb_ 11 75) HT_.out HW_.out hHeld ?_
  refine pz_ 2 12 (nb_ 11 79) HT_.out ?_
  refine tk2_ 4 14 (nb_ 11 95) HT_.out HW_.out hHeld ?_
  refine pz_ 5 15 (nb_ 11 127) HT_.out ?_
  refine tk2_ 7 17 (nb_ 11 255) HT_.out HW_.out hHeld ?_
  refine pz_ 8 18 (nb_ 11 511) HT_.out ?_
  refine one_ (i := 9) (N := none) (nb_ 11 1023) rfl rfl (one_of HT_.out (by kernel_rfl)) (by decide) (fun K hK => ?_)
  have hs48 : w47.cell? ⟨gb301, 0, none⟩ = some (.int .i64 0) := (blk_cell BK301.out 0).trans rfl
  have hfs48 := blk_frozen BK301.out 0
  have hns48_0 := NB300_301.out
  have hms48_0 := NB301_300.out
  have hs49 : w47.cell? ⟨gb301, 1, none⟩ = some (.int .u64 0) := (blk_cell BK301.out 1).trans rfl
  have hfs49 := blk_frozen BK301.out 1
  have hns49_0 := NB300_301.out
  have hms49_0 := NB301_300.out
  refine skip_ (w1 := ?_) (by rfl) rfl ?_ ?_
  rotate_left
  ·go_simp
   rfl
  refine hK.out _ _ ⟨((cell_far (p := ⟨gb301, _, none⟩) NB300_301.out _).trans (((cell_far (p := ⟨gb301, _, none⟩) NB300_301.out _).trans (hHeld.1)))), ((cell_far (p := ⟨gb301, _, none⟩) NB300_301.out _).trans (((cell_far (p := ⟨gb301, _, none⟩) NB300_301.out _).trans (hHeld.2))))⟩ (fun hHeld => ?_)
  clear hK K
  refine pz_ 10 5 (nb_ 11 2047) HT_.out ?_
  refine done_ (done_of HT_.out (by kernel_rfl)) ?_
  try go_wp2
  refine bodyPost_ret (results_ct rfl _ _ gb301 63 #[.int .i64 (wrap64 (a1_0)), .int .u64 a1_1] (0, 0) _ rfl (qpp_ #[.int .i64 (wrap64 (a1_0)), .int .u64 0] 1 #[.int .i64 0, .int .u64 0] 0 BK301.out) Tryd.underlying63 rfl (by kernel_rfl)) rfl ?_
  exact ⟨qe_, qb2_ GE300.out GE301.out HB.out⟩
end Go.Proofs.YtjkjiibhdpcpkaaDoor.PS
