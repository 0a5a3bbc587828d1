import Derived.Test.YtogcdcjbleafdaaDoorQRm2
import Derived.Test.YtogcdcjbleafdaaDoorQRm12
section
namespace Go.Proofs.YtogcdcjbleafdaaDoor.PS
open Go.RowKit Go.Proofs.YtogcdcjbleafdaaDoorW.PrintWords Go.Proofs.YtogcdcjbleafdaaDoorW.PrintLast Go.Proofs.YtogcdcjbleafdaaDoorW.PrintMore
attribute [local go_sem] max2_int min2_int max_two min_two
set_option linter.unusedVariables false
set_option linter.unusedSimpArgs false
def r01_ScaleP.j0 : Nat → Bool → Int → Int → Option (Int × Int × Int)
 | 0, _, _, _ => none
 | k + 1, x38, x331000, x331001 => if x38 = true then (some (0, 0, 6)) else (some (x331000, x331001, 0))
def r01_ScaleP.f (k : Nat) (a0_0 a0_1 a1 : Int) : Option (Int × Int × Int) := (r01_Split.f a0_0 a0_1).bind fun bt318 => ((r01_size.f a1).bind fun t322 => ((r01_times.f bt318.2.1 bt318.2.2 t322).bind fun bt323 => ((r01_Join.f (bt318.1 != (decide (a1 < 0))) bt323.1 bt323.2.1).bind fun bt327 => (if bt323.2.2 = true then (r01_ScaleP.j0 k (!bt327.2.2) bt327.1 bt327.2.1) else (r01_ScaleP.j0 k true bt327.1 bt327.2.1)))))
def r01_ScaleP.T2 : Bool × List (List Nat × List Nat) := (true, [([], []), ([], []), ([1], [1]), ([0, 2, 2], [0, 2]), ([3], [3]), ([4], [4]), ([4], [4]), ([], []), ([7, 5, 3, 0, 1, 2, 3, 4, 5, 7], [5, 7]), ([6, 8, 0, 1, 2, 3, 4, 5, 6, 7, 8], [6])])
def r01_ScaleP.B2 : List Nat := [0, 0, 2, 7, 15, 31, 31, 0, 191, 511]
theorem r01_ScaleP.tab2 : rtab .any (opsOf Tryd.f53 2) = r01_ScaleP.T2 := by kernel_rfl
theorem r01_ScaleP.bits2 : waitsOk r01_ScaleP.T2.2 r01_ScaleP.B2 = true := by kernel_rfl
set_option maxHeartbeats 8000000 in
set_option maxRecDepth 100000 in
theorem r01_ScaleP.calls (k : Nat) (a0_0 a0_1 a1 r1 r2 r3 : Int) (w : World) (h : r01_ScaleP.f k a0_0 a0_1 a1 = some (r1, r2, r3)) :
  Calls Tryd.prog 53 #[.agg #[.int .i64 a0_0, .int .u64 a0_1], .int .i64 a1] w fun e w' => e = .returned (.tuple #[.agg #[.int .i64 r1, .int .u64 r2], .int .i64 r3]) ∧ Below w.heap.size w w' := by
 have hu32 := Tryd.underlying32
 have hu59 := Tryd.underlying59
 have HB := am_ (Below.refl w.heap.size w)
 have H := h
 clear h
 unfold r01_ScaleP.f at H
 replace H := Option.bind_eq_some_iff.mp H
 obtain ⟨⟨t318, t319, t320⟩, A30, H⟩ := H
 (try dsimp only at H)
 have A3 := am_ A30
 clear A30
 replace H := Option.bind_eq_some_iff.mp H
 obtain ⟨t322, A40, H⟩ := H
 (try dsimp only at H)
 have A4 := am_ A40
 clear A40
 replace H := Option.bind_eq_some_iff.mp H
 obtain ⟨⟨t323, t324, t325⟩, A50, H⟩ := H
 (try dsimp only at H)
 have A5 := am_ A50
 clear A50
 replace H := Option.bind_eq_some_iff.mp H
 obtain ⟨⟨t327, t328, t329⟩, A60, H⟩ := H
 (try dsimp only at H)
 have A6 := am_ A60
 clear A60
 have HC7 := am_ H
 clear H
 go_enter Tryd.func53, Tryd.ntmps53
 try go_wp2_with (first | ((with_reducible refine gate_dst (N := 2) rfl ?_); refine be_ (N := 2) (cs := #[.int .i64 a0_0, .int .u64 a0_1]) (t := 32) ?_; intro gb316 hg w8 hbox hb; have BK316 := am_ (hbox); have GE316 := am_ (bz_ hg (qb_ HB.out) : w.heap.size ≤ gb316); replace HB := am_ (below_step (qb_ HB.out) hb); clear hb hbox hg) | ((with_reducible refine gate_dst (N := 4) rfl ?_); refine be_ (N := 4) (cs := #[.int .i64 0, .int .u64 0]) (t := 32) ?_; intro gb317 hg w9 hbox hb; have BK317 := am_ (hbox); have GE317 := am_ (bz_ hg (qb1_ GE316.out HB.out) : w.heap.size ≤ gb317); replace HB := am_ (below_step (qb1_ GE316.out HB.out) hb); have NB316_317 := am_ (nl_ hg (qk_ BK316.out) : gb316 ≠ gb317); have NB317_316 := am_ (ng_ hg (qk_ BK316.out) : gb317 ≠ gb316); replace BK316 := am_ (blk_below (qk_ BK316.out) hb); clear hb hbox hg; have hnb10 := NB316_317.out; have hnc10 := NB317_316.out; obtain ⟨Z11_0, Z11_1, Y11_0, Y11_1⟩ := cz2_ BK316.out) | ((with_reducible refine gate_callee (f := 31) rfl ?_); refine goesL_ (some 14) rfl rfl Tryd.func31 (by kernel_rfl) rfl #[.agg #[.int .i64 a0_0, .int .u64 a0_1]] rfl ql_ ?_; (with_reducible refine (r01_Split.calls a0_0 a0_1 t318 t319 t320 _ A3.out).mono ?_); rintro e w12 ⟨rfl, hb⟩; refine ⟨_, rfl, ?_⟩; replace BK316 := am_ (blk_below (qk_ BK316.out) hb); replace BK317 := am_ (blk_below (qk_ BK317.out) hb); replace HB := am_ (below_step (qb2_ GE316.out GE317.out HB.out) hb); (try clear hb)) | ((with_reducible refine gate_dst (N := 7) rfl ?_); refine be_ (N := 7) (cs := #[.int .u64 0, .int .u64 0]) (t := 59) ?_; intro gb321 hg w13 hbox hb; have BK321 := am_ (hbox); have GE321 := am_ (bz_ hg (qb2_ GE316.out GE317.out HB.out) : w.heap.size ≤ gb321); replace HB := am_ (below_step (qb2_ GE316.out GE317.out HB.out) hb); have NB316_321 := am_ (nl_ hg (qk_ BK316.out) : gb316 ≠ gb321); have NB321_316 := am_ (ng_ hg (qk_ BK316.out) : gb321 ≠ gb316); replace BK316 := am_ (blk_below (qk_ BK316.out) hb); have NB317_321 := am_ (nl_ hg (qk_ BK317.out) : gb317 ≠ gb321); have NB321_317 := am_ (ng_ hg (qk_ BK317.out) : gb321 ≠ gb317); replace BK317 := am_ (blk_below (qk_ BK317.out) hb); clear hb hbox hg; have hnb14 := NB321_316.out; have hnc14 := NB316_321.out; have hnb15 := NB321_317.out; have hnc15 := NB317_321.out; obtain ⟨Z16_0, Z16_1, Y16_0, Y16_1⟩ := cz2_ BK321.out))
 have n0_ : Aside0 (((w13.setCell ⟨gb321, 0, none⟩ (.int .u64 t319)).setCell ⟨gb321, 1, none⟩ (.int .u64 t320)).heap[gb316]? = some (.cells #[.int .i64 a0_0, .int .u64 a0_1] 32 (0, 0))) := ⟨qff_ NB316_321.out NB316_321.out BK316.out⟩
 have n1_ : Aside0 (((w13.setCell ⟨gb321, 0, none⟩ (.int .u64 t319)).setCell ⟨gb321, 1, none⟩ (.int .u64 t320)).heap[gb317]? = some (.cells #[.int .i64 0, .int .u64 0] 32 (0, 0))) := ⟨qff_ NB317_321.out NB317_321.out BK317.out⟩
 have n2_ : Aside0 (((w13.setCell ⟨gb321, 0, none⟩ (.int .u64 t319)).setCell ⟨gb321, 1, none⟩ (.int .u64 t320)).heap[gb321]? = some (.cells #[.int .u64 t319, .int .u64 t320] 59 (0, 0))) := ⟨qpp_ #[.int .u64 t319, .int .u64 0] 1 #[.int .u64 0, .int .u64 0] 0 BK321.out⟩
 have n3_ : Aside0 (Below w.heap.size w ((w13.setCell ⟨gb321, 0, none⟩ (.int .u64 t319)).setCell ⟨gb321, 1, none⟩ (.int .u64 t320))) := ⟨qb3_ GE316.out GE317.out GE321.out HB.out⟩
 (try clear BK316)
 (try clear BK317)
 (try clear BK321)
 (try clear HB)
 generalize ((w13.setCell ⟨gb321, 0, none⟩ (.int .u64 t319)).setCell ⟨gb321, 1, none⟩ (.int .u64 t320)) = w17 at n0_ n1_ n2_ n3_ ⊢
 have BK316 := n0_
 have BK317 := n1_
 have BK321 := n2_
 have HB := n3_
 clear n0_ n1_ n2_ n3_
 replace BK316 := am_ (blk_drew BK316.out)
 replace BK317 := am_ (blk_drew BK317.out)
 replace BK321 := am_ (blk_drew BK321.out)
 replace HB := am_ (below_drew1 HB.out)
 refine start_ (n := 10) (S := cS2_ gb321 (.int .u64 t319) (.int .u64 t320)) (ds := []) (nb_ 10 0) (by kernel_rfl) rfl rfl (cc2_ BK321.out) (fun hHeld => ?_); refine with_tabW r01_ScaleP.tab2 r01_ScaleP.bits2 (fun HT_ HW_ => ?_)
 generalize w17.drew = w18 at BK316 BK317 BK321 HB hHeld ⊢
 refine pz_ 1 19 (nb_ 10 2) HT_.out ?_
 refine tk2_ 0 18 (nb_ 10 3) HT_.out HW_.out hHeld ?_
 refine join_ (σ := Nat) 2 (nb_ 10 255) (fun s_ => [(20, .int .u64 t322), (21, .tuple #[.agg #[.int .u64 t323, .int .u64 t324], .bool t325]), (8, .pointer (some ⟨s_, 0, none⟩)), (17, .tuple #[.agg #[.int .u64 t323, .int .u64 t324], .bool t325]), (22, .agg #[.int .u64 t323, .int .u64 t324]), (23, .bool t325)]) (fun s_ w' => (cS2_ gb321 (.int .u64 t319) (.int .u64 t320) w') ∧ (w'.heap[gb316]? = some (.cells #[.int .i64 a0_0, .int .u64 a0_1] 32 (0, 0))) ∧ (w'.heap[gb317]? = some (.cells #[.int .i64 0, .int .u64 0] 32 (0, 0))) ∧ (w'.heap[gb321]? = some (.cells #[.int .u64 t319, .int .u64 t320] 59 (0, 0))) ∧ (w'.heap[s_]? = some (.cells #[.int .u64 0, .int .u64 0] 59 (0, 0))) ∧ (w.heap.size ≤ s_) ∧ (w.heap.size ≤ s_) ∧ (gb316 ≠ s_) ∧ (s_ ≠ gb316) ∧ (gb317 ≠ s_) ∧ (s_ ≠ gb317) ∧ (gb321 ≠ s_) ∧ (s_ ≠ gb321) ∧ (Below w.heap.size w w')) ?_ ?_
 rotate_left
 ·intro hCont
  refine two_ (i := 2) (j := 7) (Ni := some 20) (Nj := some 8) (nb_ 10 7) (nb_ 10 131) rfl rfl rfl rfl (two_of HT_.out (by kernel_rfl)) (by decide) (by decide) (fun K hK => ?_) (fun K hK => ?_)
  ·skip
   refine goes_ Tryd.func87 (by kernel_rfl) rfl #[.int .i64 a1] (by rfl) rfl rfl ql_ ?_
   with_reducible refine (r01_size.calls a1 t322 _ A4.out).mono ?_
   rintro e w' ⟨rfl, ⟨nd, rfl⟩⟩
   refine ⟨_, rfl, ?_⟩
   refine hK.out _ _ (cc2_ BK321.out) (fun hHeld => ?_)
   clear hK K
   refine no_ ?_
   refine two_ (i := 3) (j := 7) (Ni := some 21) (Nj := some 8) (nb_ 10 15) (nb_ 10 135) rfl rfl rfl rfl (two_of HT_.out (by kernel_rfl)) (by decide) (by decide) (fun K hK => ?_) (fun K hK => ?_)
   ·skip
    refine goes_ Tryd.func86 (by kernel_rfl) rfl #[.agg #[.int .u64 t319, .int .u64 t320], .int .u64 t322] (by rfl) rfl rfl ql_ ?_
    with_reducible refine (r01_times.calls t319 t320 t322 t323 t324 t325 _ A5.out).mono ?_
    rintro e w19 ⟨rfl, hb⟩
    refine ⟨_, rfl, ?_⟩
    replace BK316 := am_ (blk_below (qk_ BK316.out) hb)
    replace BK317 := am_ (blk_below (qk_ BK317.out) hb)
    replace BK321 := am_ (blk_below (qk_ BK321.out) hb)
    replace HB := am_ (below_step (qb3_ GE316.out GE317.out GE321.out HB.out) hb)
    (try clear hb)
    refine hK.out _ _ (cc2_ BK321.out) (fun hHeld => ?_)
    clear hK K
    refine no_ ?_
    refine pz_ 4 17 (nb_ 10 31) HT_.out ?_
    refine pz_ 5 22 (nb_ 10 63) HT_.out ?_
    refine pz_ 6 23 (nb_ 10 127) HT_.out ?_
    refine on_ 7 8 (nb_ 10 255) HT_.out (fun K hK => ?_)
    refine box_step ?hg (N := 8) ?hd (cs := #[.int .u64 0, .int .u64 0]) (t := 59) ?hr ?_; (case hd => rfl); (case hg => rfl); (case hr => first | (go_simp; done) | (go_simp; rfl))
    intro gb326 hg w20 hbox hb
    have BK326 := am_ (hbox)
    have GW326 := am_ (bz_ hg (qb3_ GE316.out GE317.out GE321.out HB.out) : w.heap.size ≤ gb326)
    have GE326 := am_ (bz_ hg (qb3_ GE316.out GE317.out GE321.out HB.out) : w.heap.size ≤ gb326)
    replace HB := am_ (below_step (qb3_ GE316.out GE317.out GE321.out HB.out) hb)
    have NB316_326 := am_ (nl_ hg (qk_ BK316.out) : gb316 ≠ gb326)
    have NB326_316 := am_ (ng_ hg (qk_ BK316.out) : gb326 ≠ gb316)
    replace BK316 := am_ (blk_below (qk_ BK316.out) hb)
    have NB317_326 := am_ (nl_ hg (qk_ BK317.out) : gb317 ≠ gb326)
    have NB326_317 := am_ (ng_ hg (qk_ BK317.out) : gb326 ≠ gb317)
    replace BK317 := am_ (blk_below (qk_ BK317.out) hb)
    have NB321_326 := am_ (nl_ hg (qk_ BK321.out) : gb321 ≠ gb326)
    have NB326_321 := am_ (ng_ hg (qk_ BK321.out) : gb326 ≠ gb321)
    replace BK321 := am_ (blk_below (qk_ BK321.out) hb)
    clear hb hbox hg
    refine hK.out _ _ (cc2_ BK321.out) (fun hHeld => ?_)
    clear hK K
    refine no_ ?_
    exact norm_ (by simp only [putAll, Act.put, List.setIfInBounds_toArray, List.set_cons_zero, List.set_cons_succ]) (hCont (gb326) _ ⟨hHeld, (qk_ BK316.out), (qk_ BK317.out), (qk_ BK321.out), (qk_ BK326.out), GW326.out, GE326.out, NB316_326.out, NB326_316.out, NB317_326.out, NB326_317.out, NB321_326.out, NB326_321.out, (qb4_ GE316.out GE317.out GE321.out GE326.out HB.out)⟩)
   ·skip
    refine box_step ?hg (N := 8) ?hd (cs := #[.int .u64 0, .int .u64 0]) (t := 59) ?hr ?_; (case hd => rfl); (case hg => rfl); (case hr => first | (go_simp; done) | (go_simp; rfl))
    intro gb326 hg w19 hbox hb
    have BK326 := am_ (hbox)
    have GW326 := am_ (bz_ hg (qb3_ GE316.out GE317.out GE321.out HB.out) : w.heap.size ≤ gb326)
    have GE326 := am_ (bz_ hg (qb3_ GE316.out GE317.out GE321.out HB.out) : w.heap.size ≤ gb326)
    replace HB := am_ (below_step (qb3_ GE316.out GE317.out GE321.out HB.out) hb)
    have NB316_326 := am_ (nl_ hg (qk_ BK316.out) : gb316 ≠ gb326)
    have NB326_316 := am_ (ng_ hg (qk_ BK316.out) : gb326 ≠ gb316)
    replace BK316 := am_ (blk_below (qk_ BK316.out) hb)
    have NB317_326 := am_ (nl_ hg (qk_ BK317.out) : gb317 ≠ gb326)
    have NB326_317 := am_ (ng_ hg (qk_ BK317.out) : gb326 ≠ gb317)
    replace BK317 := am_ (blk_below (qk_ BK317.out) hb)
    have NB321_326 := am_ (nl_ hg (qk_ BK321.out) : gb321 ≠ gb326)
    have NB326_321 := am_ (ng_ hg (qk_ BK321.out) : gb326 ≠ gb321)
    replace BK321 := am_ (blk_below (qk_ BK321.out) hb)
    clear hb hbox hg
    refine hK.out _ _ (cc2_ BK321.out) (fun hHeld => ?_)
    clear hK K
    refine no_ ?_
    refine on_ 3 21 (nb_ 10 143) HT_.out (fun K hK => ?_)
    refine goes_ Tryd.func86 (by kernel_rfl) rfl #[.agg #[.int .u64 t319, .int .u64 t320], .int .u64 t322] (by rfl) rfl rfl ql_ ?_
    with_reducible refine (r01_times.calls t319 t320 t322 t323 t324 t325 _ A5.out).mono ?_
    rintro e w20 ⟨rfl, hb⟩
    refine ⟨_, rfl, ?_⟩
    replace BK316 := am_ (blk_below (qk_ BK316.out) hb)
    replace BK317 := am_ (blk_below (qk_ BK317.out) hb)
    replace BK321 := am_ (blk_below (qk_ BK321.out) hb)
    replace BK326 := am_ (blk_below (qk_ BK326.out) hb)
    replace HB := am_ (below_step (qb4_ GE316.out GE317.out GE321.out GE326.out HB.out) hb)
    (try clear hb)
    refine hK.out _ _ (cc2_ BK321.out) (fun hHeld => ?_)
    clear hK K
    refine no_ ?_
    refine pz_ 4 17 (nb_ 10 159) HT_.out ?_
    refine pz_ 5 22 (nb_ 10 191) HT_.out ?_
    refine pz_ 6 23 (nb_ 10 255) HT_.out ?_
    exact norm_ (by simp only [putAll, Act.put, List.setIfInBounds_toArray, List.set_cons_zero, List.set_cons_succ]) (hCont (gb326) _ ⟨hHeld, (qk_ BK316.out), (qk_ BK317.out), (qk_ BK321.out), (qk_ BK326.out), GW326.out, GE326.out, NB316_326.out, NB326_316.out, NB317_326.out, NB326_317.out, NB321_326.out, NB326_321.out, (qb4_ GE316.out GE317.out GE321.out GE326.out HB.out)⟩)
  ·skip
   refine box_step ?hg (N := 8) ?hd (cs := #[.int .u64 0, .int .u64 0]) (t := 59) ?hr ?_; (case hd => rfl); (case hg => rfl); (case hr => first | (go_simp; done) | (go_simp; rfl))
   intro gb326 hg w19 hbox hb
   have BK326 := am_ (hbox)
   have GW326 := am_ (bz_ hg (qb3_ GE316.out GE317.out GE321.out HB.out) : w.heap.size ≤ gb326)
   have GE326 := am_ (bz_ hg (qb3_ GE316.out GE317.out GE321.out HB.out) : w.heap.size ≤ gb326)
   replace HB := am_ (below_step (qb3_ GE316.out GE317.out GE321.out HB.out) hb)
   have NB316_326 := am_ (nl_ hg (qk_ BK316.out) : gb316 ≠ gb326)
   have NB326_316 := am_ (ng_ hg (qk_ BK316.out) : gb326 ≠ gb316)
   replace BK316 := am_ (blk_below (qk_ BK316.out) hb)
   have NB317_326 := am_ (nl_ hg (qk_ BK317.out) : gb317 ≠ gb326)
   have NB326_317 := am_ (ng_ hg (qk_ BK317.out) : gb326 ≠ gb317)
   replace BK317 := am_ (blk_below (qk_ BK317.out) hb)
   have NB321_326 := am_ (nl_ hg (qk_ BK321.out) : gb321 ≠ gb326)
   have NB326_321 := am_ (ng_ hg (qk_ BK321.out) : gb326 ≠ gb321)
   replace BK321 := am_ (blk_below (qk_ BK321.out) hb)
   clear hb hbox hg
   refine hK.out _ _ (cc2_ BK321.out) (fun hHeld => ?_)
   clear hK K
   refine no_ ?_
   refine on_ 2 20 (nb_ 10 135) HT_.out (fun K hK => ?_)
   refine goes_ Tryd.func87 (by kernel_rfl) rfl #[.int .i64 a1] (by rfl) rfl rfl ql_ ?_
   with_reducible refine (r01_size.calls a1 t322 _ A4.out).mono ?_
   rintro e w' ⟨rfl, ⟨nd, rfl⟩⟩
   refine ⟨_, rfl, ?_⟩
   refine hK.out _ _ (cc2_ BK321.out) (fun hHeld => ?_)
   clear hK K
   refine no_ ?_
   refine on_ 3 21 (nb_ 10 143) HT_.out (fun K hK => ?_)
   refine goes_ Tryd.func86 (by kernel_rfl) rfl #[.agg #[.int .u64 t319, .int .u64 t320], .int .u64 t322] (by rfl) rfl rfl ql_ ?_
   with_reducible refine (r01_times.calls t319 t320 t322 t323 t324 t325 _ A5.out).mono ?_
   rintro e w20 ⟨rfl, hb⟩
   refine ⟨_, rfl, ?_⟩
   replace BK316 := am_ (blk_below (qk_ BK316.out) hb)
   replace BK317 := am_ (blk_below (qk_ BK317.out) hb)
   replace BK321 := am_ (blk_below (qk_ BK321.out) hb)
   replace BK326 := am_ (blk_below (qk_ BK326.out) hb)
   replace HB := am_ (below_step (qb4_ GE316.out GE317.out GE321.out GE326.out HB.out) hb)
   (try clear hb)
   refine hK.out _ _ (cc2_ BK321.out) (fun hHeld => ?_)
   clear hK K
   refine no_ ?_
   refine pz_ 4 17 (nb_ 10 159) HT_.out ?_
   refine pz_ 5 22 (nb_ 10 191) HT_.out ?_
   refine pz_ 6 23 (nb_ 10 255) HT_.out ?_
   exact norm_ (by simp only [putAll, Act.put, List.setIfInBounds_toArray, List.set_cons_zero, List.set_cons_succ]) (hCont (gb326) _ ⟨hHeld, (qk_ BK316.out), (qk_ BK317.out), (qk_ BK321.out), (qk_ BK326.out), GW326.out, GE326.out, NB316_326.out, NB326_316.out, NB317_326.out, NB326_317.out, NB321_326.out, NB326_321.out, (qb4_ GE316.out GE317.out GE321.out GE326.out HB.out)⟩)
 rintro gb326 w21 ⟨hS_, h0_, h1_, h2_, h3_, h4_, h5_, h6_, h7_, h8_, h9_, h10_, h11_, h12_⟩
 replace BK316 := am_ h0_
 replace BK317 := am_ h1_
 replace BK321 := am_ h2_
 have BK326 := am_ h3_
 have GE326 := am_ h5_
 have NB316_326 := am_ h6_
 have NB326_316 := am_ h7_
 have NB317_326 := am_ h8_
 have NB326_317 := am_ h9_
 have NB321_326 := am_ h10_
 have NB326_321 := am_ h11_
 replace HB := am_ h12_
 clear h0_ h1_ h2_ h3_ h4_ h5_ h6_ h7_ h8_ h9_ h10_ h11_ h12_
 have hHeld := hS_
 refine norm_ (a' := ?_) ?_ ?_
 rotate_left
 ·simp only [putAll, Act.put, List.setIfInBounds_toArray, List.set_cons_zero, List.set_cons_succ]
  rfl
 refine one_ (i := 8) (N := none) (nb_ 10 511) rfl rfl (one_of HT_.out (by kernel_rfl)) (by decide) (fun K hK => ?_)
 have hs22 : w21.cell? ⟨gb326, 0, none⟩ = some (.int .u64 0) := (blk_cell BK326.out 0).trans rfl
 have hfs22 := blk_frozen BK326.out 0
 have hns22_0 := NB316_326.out
 have hns22_1 := NB317_326.out
 have hns22_2 := NB321_326.out
 have hms22_0 := NB326_316.out
 have hms22_1 := NB326_317.out
 have hms22_2 := NB326_321.out
 have hs23 : w21.cell? ⟨gb326, 1, none⟩ = some (.int .u64 0) := (blk_cell BK326.out 1).trans rfl
 have hfs23 := blk_frozen BK326.out 1
 have hns23_0 := NB316_326.out
 have hns23_1 := NB317_326.out
 have hns23_2 := NB321_326.out
 have hms23_0 := NB326_316.out
 have hms23_1 := NB326_317.out
 have hms23_2 := NB326_321.out
 refine skip_ (w1 := ?_) (by rfl) rfl ?_ ?_
 rotate_left
 ·go_simp
  rfl
 refine hK.out _ _ ⟨((cell_far (p := ⟨gb326, _, none⟩) NB321_326.out _).trans (((cell_far (p := ⟨gb326, _, none⟩) NB321_326.out _).trans (hHeld.1)))), ((cell_far (p := ⟨gb326, _, none⟩) NB321_326.out _).trans (((cell_far (p := ⟨gb326, _, none⟩) NB321_326.out _).trans (hHeld.2))))⟩ (fun hHeld => ?_)
 clear hK K
 refine pz_ 9 9 (nb_ 10 1023) HT_.out ?_
 refine done_ (done_of HT_.out (by kernel_rfl)) ?_
 have hnb24 := NB326_316.out
 have hnc24 := NB316_326.out
 have hnb25 := NB326_317.out
 have hnc25 := NB317_326.out
 have hnb26 := NB326_321.out
 have hnc26 := NB321_326.out
 obtain ⟨Z27_0, Z27_1, Y27_0, Y27_1⟩ := cz2_ BK326.out
 go_upto_region 4 with (first | ((with_reducible refine gate_callee (f := 70) rfl ?_); refine goesL_ (some 30) rfl rfl Tryd.func70 (by kernel_rfl) rfl #[.bool (t318 != (decide (a1 < 0))), .agg #[.int .u64 t323, .int .u64 t324]] rfl ql_ ?_; (with_reducible refine (r01_Join.calls (t318 != (decide (a1 < 0))) t323 t324 t327 t328 t329 _ A6.out).mono ?_); rintro e w28 ⟨rfl, hb⟩; refine ⟨_, rfl, ?_⟩; replace BK316 := am_ (blk_below (g := gb316) (o := .cells #[.int .i64 a0_0, .int .u64 a0_1] 32 (0, 0)) (qff_ NB316_326.out NB316_326.out BK316.out) hb); replace BK317 := am_ (blk_below (g := gb317) (o := .cells #[.int .i64 0, .int .u64 0] 32 (0, 0)) (qff_ NB317_326.out NB317_326.out BK317.out) hb); replace BK321 := am_ (blk_below (g := gb321) (o := .cells #[.int .u64 t319, .int .u64 t320] 59 (0, 0)) (qff_ NB321_326.out NB321_326.out BK321.out) hb); replace BK326 := am_ (blk_below (g := gb326) (o := .cells #[.int .u64 t323, .int .u64 t324] 59 (0, 0)) (qpp_ #[.int .u64 t323, .int .u64 0] 1 #[.int .u64 0, .int .u64 0] 0 BK326.out) hb); replace HB := am_ (below_step (qb4_ GE316.out GE317.out GE321.out GE326.out HB.out) hb); (try clear hb)) | ((with_reducible refine gate_dst (N := 10) rfl ?_); refine be_ (N := 10) (cs := #[.int .i64 0, .int .u64 0]) (t := 32) ?_; intro gb330 hg w29 hbox hb; have BK330 := am_ (hbox); have GE330 := am_ (bz_ hg (qb4_ GE316.out GE317.out GE321.out GE326.out HB.out) : w.heap.size ≤ gb330); replace HB := am_ (below_step (qb4_ GE316.out GE317.out GE321.out GE326.out HB.out) hb); have NB316_330 := am_ (nl_ hg (qk_ BK316.out) : gb316 ≠ gb330); have NB330_316 := am_ (ng_ hg (qk_ BK316.out) : gb330 ≠ gb316); replace BK316 := am_ (blk_below (qk_ BK316.out) hb); have NB317_330 := am_ (nl_ hg (qk_ BK317.out) : gb317 ≠ gb330); have NB330_317 := am_ (ng_ hg (qk_ BK317.out) : gb330 ≠ gb317); replace BK317 := am_ (blk_below (qk_ BK317.out) hb); have NB321_330 := am_ (nl_ hg (qk_ BK321.out) : gb321 ≠ gb330); have NB330_321 := am_ (ng_ hg (qk_ BK321.out) : gb330 ≠ gb321); replace BK321 := am_ (blk_below (qk_ BK321.out) hb); have NB326_330 := am_ (nl_ hg (qk_ BK326.out) : gb326 ≠ gb330); have NB330_326 := am_ (ng_ hg (qk_ BK326.out) : gb330 ≠ gb326); replace BK326 := am_ (blk_below (qk_ BK326.out) hb); clear hb hbox hg; have hnb30 := NB330_316.out; have hnc30 := NB316_330.out; have hnb31 := NB330_317.out; have hnc31 := NB317_330.out; have hnb32 := NB330_321.out; have hnc32 := NB321_330.out; have hnb33 := NB330_326.out; have hnc33 := NB326_330.out; obtain ⟨Z34_0, Z34_1, Y34_0, Y34_1⟩ := cz2_ BK330.out))
 (try simp only [Act.put, List.setIfInBounds_toArray, List.set_cons_zero, List.set_cons_succ])
 go_cut [38] (fun v38 wc => ∃ (kq : Nat) (x38_6 : Bool), v38 = .bool x38_6 ∧ Aside0 (r01_ScaleP.j0 kq x38_6 t327 t328 = some (r1, r2, r3)) ∧ Aside0 (kq ≤ k) ∧ Aside0 (wc.heap[gb316]? = some (.cells #[.int .i64 a0_0, .int .u64 a0_1] 32 (0, 0))) ∧ Aside0 (wc.heap[gb317]? = some (.cells #[.int .i64 0, .int .u64 0] 32 (0, 0))) ∧ Aside0 (wc.heap[gb321]? = some (.cells #[.int .u64 t319, .int .u64 t320] 59 (0, 0))) ∧ Aside0 (wc.heap[gb326]? = some (.cells #[.int .u64 t323, .int .u64 t324] 59 (0, 0))) ∧ Aside0 (wc.heap[gb330]? = some (.cells #[.int .i64 t327, .int .u64 t328] 32 (0, 0))) ∧ Aside0 (Below w.heap.size w wc))
 case first =>
  have H := HC7.out
  clear HC7
  by_cases c35 : t325 = true
  ·subst c35
   rw [if_pos rfl] at H
   have H' := am_ H
   clear H
   go_wp2
   go_meet
   case rel => exact ⟨_, (!t329), qs_, H', ⟨qo_⟩, ⟨qff_ NB316_330.out NB316_330.out BK316.out⟩, ⟨qff_ NB317_330.out NB317_330.out BK317.out⟩, ⟨qff_ NB321_330.out NB321_330.out BK321.out⟩, ⟨qff_ NB326_330.out NB326_330.out BK326.out⟩, ⟨qpp_ #[.int .i64 t327, .int .u64 0] 1 #[.int .i64 0, .int .u64 0] 0 BK330.out⟩, ⟨qb5_ GE316.out GE317.out GE321.out GE326.out GE330.out HB.out⟩⟩
  ·replace c35 := Bool.eq_false_iff.mpr c35
   subst c35
   rw [if_neg (show ¬ (false = true) by decide)] at H
   have H' := am_ H
   clear H
   go_wp2
   go_meet
   case rel => exact ⟨_, (true), qs_, H', ⟨qo_⟩, ⟨qff_ NB316_330.out NB316_330.out BK316.out⟩, ⟨qff_ NB317_330.out NB317_330.out BK317.out⟩, ⟨qff_ NB321_330.out NB321_330.out BK321.out⟩, ⟨qff_ NB326_330.out NB326_330.out BK326.out⟩, ⟨qpp_ #[.int .i64 t327, .int .u64 0] 1 #[.int .i64 0, .int .u64 0] 0 BK330.out⟩, ⟨qb5_ GE316.out GE317.out GE321.out GE326.out GE330.out HB.out⟩⟩
 case rest =>
  clear HC7
  try clear c1
  try clear c2
  try clear p2
  try clear c3
  try clear c5
  try clear c7
  try clear c8
  try clear c10
  try clear c14
  try clear c15
  try clear c24
  try clear c25
  try clear c26
  try clear c30
  try clear c31
  try clear c32
  try clear c33
  try clear c35
  (try clear Z11_0 Z11_1 Y11_0 Y11_1)
  (try clear Z16_0 Z16_1 Y16_0 Y16_1)
  (try clear Z27_0 Z27_1 Y27_0 Y27_1)
  (try clear Z34_0 Z34_1 Y34_0 Y34_1)
  obtain ⟨kq, x38_6, rfl, HA, HJ6, BK316, BK317, BK321, BK326, BK330, HB⟩ := hcut
  cases kq with
  | zero => exact absurd HA.out (by simp [r01_ScaleP.j0])
  | succ kj6 =>
   have H := HA.out
   clear HA
   simp only [r01_ScaleP.j0] at H
   by_cases c36 : x38_6 = true
   ·subst c36
    rw [if_pos rfl] at H
    simp only [Option.some.injEq, Prod.mk.injEq] at H
    obtain ⟨rfl, rfl, rfl⟩ := H
    have hnb37 := NB317_316.out
    have hnc37 := NB316_317.out
    have hnb38 := NB317_321.out
    have hnc38 := NB321_317.out
    have hnb39 := NB317_326.out
    have hnc39 := NB326_317.out
    have hnb40 := NB317_330.out
    have hnc40 := NB330_317.out
    obtain ⟨Z41_0, Z41_1, Y41_0, Y41_1⟩ := cz2_ BK317.out
    go_wp2
    refine bodyPost_ret (results_ct rfl _ _ gb317 32 #[.int .i64 0, .int .u64 0] (0, 0) _ rfl (qpp_ #[.int .i64 0, .int .u64 0] 1 #[.int .i64 0, .int .u64 0] 0 BK317.out) Tryd.underlying32 rfl (by kernel_rfl)) rfl ?_
    exact ⟨qe_, qb5_ GE316.out GE317.out GE321.out GE326.out GE330.out HB.out⟩
   ·replace c36 := Bool.eq_false_iff.mpr c36
    subst c36
    rw [if_neg (show ¬ (false = true) by decide)] at H
    simp only [Option.some.injEq, Prod.mk.injEq] at H
    obtain ⟨rfl, rfl, rfl⟩ := H
    have hnb42 := NB330_316.out
    have hnc42 := NB316_330.out
    have hnb43 := NB330_317.out
    have hnc43 := NB317_330.out
    have hnb44 := NB330_321.out
    have hnc44 := NB321_330.out
    have hnb45 := NB330_326.out
    have hnc45 := NB326_330.out
    obtain ⟨Z46_0, Z46_1, Y46_0, Y46_1⟩ := cz2_ BK330.out
    have hnb47 := NB317_316.out
    have hnc47 := NB316_317.out
    have hnb48 := NB317_321.out
    have hnc48 := NB321_317.out
    have hnb49 := NB317_326.out
    have hnc49 := NB326_317.out
    obtain ⟨Z50_0, Z50_1, Y50_0, Y50_1⟩ := cz2_ BK317.out
    go_wp2
    refine bodyPost_ret (results_ct rfl _ _ gb317 32 #[.int .i64 t327, .int .u64 t328] (0, 0) _ rfl (qpp_ #[.int .i64 t327, .int .u64 0] 1 #[.int .i64 0, .int .u64 0] 0 BK317.out) Tryd.underlying32 rfl (by kernel_rfl)) rfl ?_
    exact ⟨qe_, qb5_ GE316.out GE317.out GE321.out GE326.out GE330.out HB.out⟩
def r01_Scale.f (a0_0 a0_1 a1 : Int) : Option (Int × Int × Int) :=
 if isW a0_0 a0_1 ∧ inI a1 then some (if in128 (wv a0_0 a0_1 * a1) then (wv a0_0 a0_1 * a1 / 18446744073709551616, wv a0_0 a0_1 * a1 % 18446744073709551616, 0) else (0, 0, 6)) else none
theorem mul_abs' (v n : Int) : (if v < 0 then -v else v) * (if n < 0 then -n else n) = (if (decide (v < 0) != decide (n < 0)) = true then -(v * n) else v * n) ∧ 0 ≤ (if v < 0 then -v else v) * (if n < 0 then -n else n) := by
 have h0 : 0 ≤ (if v < 0 then -v else v) := by split <;> omega
 have h1 : 0 ≤ (if n < 0 then -n else n) := by split <;> omega
 refine ⟨?_, Int.mul_nonneg h0 h1⟩
 by_cases ha : v < 0 <;> by_cases hb : n < 0 <;> simp [ha, hb, Int.neg_mul, Int.mul_neg]
theorem r01_Scale.eq {a b n : Int} {r : Int × Int × Int} (h : r01_Scale.f a b n = some r) : ∃ k, r01_ScaleP.f k a b n = some r := by
 unfold r01_Scale.f at h
 split at h
 ·rename_i q
  obtain ⟨⟨⟨a0, a1⟩, b0, b1⟩, n0, n1⟩ := q
  injection h with h
  subst h
  refine ⟨1, ?_⟩
  unfold r01_ScaleP.f r01_Split.f r01_size.f
  have hW : isW a b := ⟨⟨a0, a1⟩, b0, b1⟩
  have hI : inI n := ⟨n0, n1⟩
  rw [if_pos hW, if_pos hI]
  simp only [Option.bind_some]
  have hv : wv a b = a * 18446744073709551616 + b := rfl
  have hs : decide (a < 0) = decide (wv a b < 0) := by apply decide_eq_decide.mpr; omega
  have hm : (if a < 0 then -(wv a b) else wv a b) = (if wv a b < 0 then -(wv a b) else wv a b) := by split <;> split <;> omega
  rw [hm, hs]
  have mr : 0 ≤ (if wv a b < 0 then -(wv a b) else wv a b) ∧ (if wv a b < 0 then -(wv a b) else wv a b) ≤ 170141183460469231731687303715884105728 := by split <;> omega
  have nr : 0 ≤ (if n < 0 then -n else n) ∧ (if n < 0 then -n else n) ≤ 9223372036854775808 := by split <;> omega
  obtain ⟨z1, z2⟩ := mul_abs' (wv a b) n
  generalize wv a b = v at *
  generalize (if v < 0 then -v else v) = M at *
  generalize (if n < 0 then -n else n) = N at *
  have hU : (inU (M / 18446744073709551616) ∧ inU (M % 18446744073709551616)) ∧ inU N := ⟨⟨by unfold inU; omega, by unfold inU; omega⟩, by unfold inU; omega⟩
  have hwM : wv (M / 18446744073709551616) (M % 18446744073709551616) = M := by unfold wv; omega
  unfold r01_times.f
  rw [if_pos hU, hwM]
  simp only [Option.bind_some]
  unfold r01_Join.f
  have hU2 : inU (M * N / 18446744073709551616 % 18446744073709551616) ∧ inU (M * N % 18446744073709551616) := ⟨by unfold inU; omega, by unfold inU; omega⟩
  have hw2 : wv (M * N / 18446744073709551616 % 18446744073709551616) (M * N % 18446744073709551616) = M * N % 340282366920938463463374607431768211456 := by unfold wv; omega
  rw [if_pos hU2, hw2]
  simp only [Option.bind_some]
  generalize (decide (v < 0) != decide (n < 0)) = sg at *
  have hvn : v * n = if sg = true then -(M * N) else M * N := by split at z1 <;> split <;> simp_all
  rw [hvn]
  generalize M * N = V at *
  by_cases hV : V < 340282366920938463463374607431768211456
  ·rw [if_pos (decide_eq_true hV), Int.emod_eq_of_lt z2 hV]
   simp only [r01_ScaleP.j0]
   by_cases hin : in128 (if sg = true then -V else V)
   ·rw [if_pos hin, decide_eq_true hin, if_neg (by decide)]
    have : wrap64 ((if sg = true then -V else V) / 18446744073709551616) = (if sg = true then -V else V) / 18446744073709551616 := i64_id _ (by unfold in128 at hin; omega) (by unfold in128 at hin; omega)
    rw [this]
   ·rw [if_neg hin, decide_eq_false hin, if_pos (by decide)]
  ·rw [if_neg (by simpa using hV)]
   simp only [r01_ScaleP.j0]
   rw [if_pos trivial, if_neg (by unfold in128; split <;> omega)]
 ·cases h
theorem r01_Scale.calls (a0_0 a0_1 a1 r1 r2 r3 : Int) (w : World) (h : r01_Scale.f a0_0 a0_1 a1 = some (r1, r2, r3)) :
  Calls Tryd.prog 53 #[.agg #[.int .i64 a0_0, .int .u64 a0_1], .int .i64 a1] w fun e w' => e = .returned (.tuple #[.agg #[.int .i64 r1, .int .u64 r2], .int .i64 r3]) ∧ Below w.heap.size w w' := by
 obtain ⟨k, h⟩ := r01_Scale.eq h
 exact r01_ScaleP.calls k a0_0 a0_1 a1 r1 r2 r3 w h
def r01_OfP.f (a0 : Int) : Option (Int × Int) := if a0 < 0 then (some ((-1), IntKind.u64.wrap (a0))) else (some (0, IntKind.u64.wrap (a0)))
set_option maxHeartbeats 8000000 in
set_option maxRecDepth 100000 in
theorem r01_OfP.calls (a0 r1 r2 : Int) (w : World) (h : r01_OfP.f a0 = some (r1, r2)) :
  Calls Tryd.prog 74 #[.int .i64 a0] w fun e w' => e = .returned (.agg #[.int .i64 r1, .int .u64 r2]) ∧ Below w.heap.size w w' := by
 have hu32 := Tryd.underlying32
 have HB := am_ (Below.refl w.heap.size w)
 have H := h
 clear h
 unfold r01_OfP.f at H
 by_cases c2 : a0 < 0
 ·rw [if_pos c2] at H
  have c2b0 : decide (a0 < 0) = true := decide_eq_true c2
  clear c2
  simp only [Option.some.injEq, Prod.mk.injEq] at H
  obtain ⟨rfl, rfl⟩ := H
  go_enter Tryd.func74, Tryd.ntmps74
  go_wp2_with (first | ((with_reducible refine gate_dst (N := 2) rfl ?_); refine be_ (N := 2) (cs := #[.int .i64 0, .int .u64 0]) (t := 32) ?_; intro gb331 hg w3 hbox hb; have BK331 := am_ (hbox); have GE331 := am_ (bz_ hg (qb_ HB.out) : w.heap.size ≤ gb331); replace HB := am_ (below_step (qb_ HB.out) hb); clear hb hbox hg; obtain ⟨Z4_0, Z4_1, Y4_0, Y4_1⟩ := cz2_ BK331.out))
  refine bodyPost_ret (results_cell_row rfl _ _ gb331 32 #[.int .i64 (-1), .int .u64 (IntKind.u64.wrap (a0))] (0, 0) _ rfl (qpp_ #[.int .i64 (-1), .int .u64 0] 1 #[.int .i64 0, .int .u64 0] 0 BK331.out) Tryd.underlying32 rfl (by kernel_rfl)) rfl ?_
  exact ⟨qe_, qb1_ GE331.out HB.out⟩
 ·rw [if_neg c2] at H
  have c2b0 : decide (a0 < 0) = false := decide_eq_false c2
  clear c2
  simp only [Option.some.injEq, Prod.mk.injEq] at H
  obtain ⟨rfl, rfl⟩ := H
  go_enter Tryd.func74, Tryd.ntmps74
  go_wp2_with (first | ((with_reducible refine gate_dst (N := 2) rfl ?_); refine be_ (N := 2) (cs := #[.int .i64 0, .int .u64 0]) (t := 32) ?_; intro gb331 hg w5 hbox hb; have BK331 := am_ (hbox); have GE331 := am_ (bz_ hg (qb_ HB.out) : w.heap.size ≤ gb331); replace HB := am_ (below_step (qb_ HB.out) hb); clear hb hbox hg; obtain ⟨Z6_0, Z6_1, Y6_0, Y6_1⟩ := cz2_ BK331.out))
  refine bodyPost_ret (results_cell_row rfl _ _ gb331 32 #[.int .i64 0, .int .u64 (IntKind.u64.wrap (a0))] (0, 0) _ rfl (qpp_ #[.int .i64 0, .int .u64 0] 1 #[.int .i64 0, .int .u64 0] 0 BK331.out) Tryd.underlying32 rfl (by kernel_rfl)) rfl ?_
  exact ⟨qe_, qb1_ GE331.out HB.out⟩
def r01_Of.f (a0 : Int) : Option (Int × Int) := if inI a0 then some (a0 / 18446744073709551616, a0 % 18446744073709551616) else none
theorem r01_Of.eq {a : Int} {r : Int × Int} (h : r01_Of.f a = some r) : r01_OfP.f a = some r := by
 unfold r01_Of.f at h
 split at h
 ·rename_i c
  obtain ⟨c0, c1⟩ := c
  injection h with h
  subst h
  unfold r01_OfP.f
  simp only [IntKind.wrap_u64]
  split <;> (congr 2; omega)
 ·cases h
theorem r01_Of.calls (a0 r1 r2 : Int) (w : World) (h : r01_Of.f a0 = some (r1, r2)) :
  Calls Tryd.prog 74 #[.int .i64 a0] w fun e w' => e = .returned (.agg #[.int .i64 r1, .int .u64 r2]) ∧ Below w.heap.size w w' := by
 have h := r01_Of.eq h
 exact r01_OfP.calls a0 r1 r2 w h
def r01_MulP.f (a0 a1 : Int) : Option (Int × Int) := (r01_Of.f a0).bind fun bt333 => ((r01_Scale.f bt333.1 bt333.2 a1).bind fun bt335 => (some (bt335.1, bt335.2.1)))
set_option maxHeartbeats 8000000 in
set_option maxRecDepth 100000 in
theorem r01_MulP.calls (a0 a1 r1 r2 : Int) (w : World) (h : r01_MulP.f a0 a1 = some (r1, r2)) :
  Calls Tryd.prog 37 #[.int .i64 a0, .int .i64 a1] w fun e w' => e = .returned (.agg #[.int .i64 r1, .int .u64 r2]) ∧ Below w.heap.size w w' := by
 have hu32 := Tryd.underlying32
 have HB := am_ (Below.refl w.heap.size w)
 have H := h
 clear h
 unfold r01_MulP.f at H
 replace H := Option.bind_eq_some_iff.mp H
 obtain ⟨⟨t333, t334⟩, A30, H⟩ := H
 (try dsimp only at H)
 have A3 := am_ A30
 clear A30
 replace H := Option.bind_eq_some_iff.mp H
 obtain ⟨⟨t335, t336, t337⟩, A40, H⟩ := H
 (try dsimp only at H)
 have A4 := am_ A40
 clear A40
 simp only [Option.some.injEq, Prod.mk.injEq] at H
 obtain ⟨rfl, rfl⟩ := H
 go_enter Tryd.func37, Tryd.ntmps37
 go_wp2_with (first | ((with_reducible refine gate_dst (N := 4) rfl ?_); refine be_ (N := 4) (cs := #[.int .i64 0, .int .u64 0]) (t := 32) ?_; intro gb332 hg w5 hbox hb; have BK332 := am_ (hbox); have GE332 := am_ (bz_ hg (qb_ HB.out) : w.heap.size ≤ gb332); replace HB := am_ (below_step (qb_ HB.out) hb); clear hb hbox hg) | ((with_reducible refine gate_callee (f := 74) rfl ?_); refine goesL_ (some 9) rfl rfl Tryd.func74 (by kernel_rfl) rfl #[.int .i64 a0] rfl ql_ ?_; (with_reducible refine (r01_Of.calls a0 t333 t334 _ A3.out).mono ?_); rintro e w6 ⟨rfl, hb⟩; refine ⟨_, rfl, ?_⟩; replace BK332 := am_ (blk_below (qk_ BK332.out) hb); replace HB := am_ (below_step (qb1_ GE332.out HB.out) hb); (try clear hb)) | ((with_reducible refine gate_callee (f := 53) rfl ?_); refine goesL_ (some 11) rfl rfl Tryd.func53 (by kernel_rfl) rfl #[.agg #[.int .i64 t333, .int .u64 t334], .int .i64 a1] rfl ql_ ?_; (with_reducible refine (r01_Scale.calls t333 t334 a1 t335 t336 t337 _ A4.out).mono ?_); rintro e w7 ⟨rfl, hb⟩; refine ⟨_, rfl, ?_⟩; replace BK332 := am_ (blk_below (qk_ BK332.out) hb); replace HB := am_ (below_step (qb1_ GE332.out HB.out) hb); (try clear hb)) | ((with_reducible refine gate_dst (N := 5) rfl ?_); refine be_ (N := 5) (cs := #[.int .i64 0, .int .u64 0]) (t := 32) ?_; intro gb338 hg w8 hbox hb; have BK338 := am_ (hbox); have GE338 := am_ (bz_ hg (qb1_ GE332.out HB.out) : w.heap.size ≤ gb338); replace HB := am_ (below_step (qb1_ GE332.out HB.out) hb); have NB332_338 := am_ (nl_ hg (qk_ BK332.out) : gb332 ≠ gb338); have NB338_332 := am_ (ng_ hg (qk_ BK332.out) : gb338 ≠ gb332); replace BK332 := am_ (blk_below (qk_ BK332.out) hb); clear hb hbox hg; have hnb9 := NB338_332.out; have hnc9 := NB332_338.out; obtain ⟨Z10_0, Z10_1, Y10_0, Y10_1⟩ := cz2_ BK338.out; obtain ⟨Z11_0, Z11_1, Y11_0, Y11_1⟩ := cz2_ BK332.out))
 refine bodyPost_ret (results_cell_row rfl _ _ gb332 32 #[.int .i64 t335, .int .u64 t336] (0, 0) _ rfl (qppff_ #[.int .i64 t335, .int .u64 0] 1 #[.int .i64 0, .int .u64 0] 0 NB332_338.out NB332_338.out BK332.out) Tryd.underlying32 rfl (by kernel_rfl)) rfl ?_
 exact ⟨qe_, qb2_ GE332.out GE338.out HB.out⟩
def r01_Mul.f (a0 a1 : Int) : Option (Int × Int) := if inI a0 ∧ inI a1 then some (a0 * a1 / 18446744073709551616, a0 * a1 % 18446744073709551616) else none
theorem r01_Mul.eq {a b : Int} {r : Int × Int} (h : r01_Mul.f a b = some r) : r01_MulP.f a b = some r := by
 unfold r01_Mul.f at h
 split at h
 ·rename_i q
  obtain ⟨⟨a0, a1⟩, b0, b1⟩ := q
  injection h with h
  subst h
  unfold r01_MulP.f r01_Of.f
  have hA : inI a := ⟨a0, a1⟩
  have hB : inI b := ⟨b0, b1⟩
  rw [if_pos hA]
  simp only [Option.bind_some]
  have hw : wv (a / 18446744073709551616) (a % 18446744073709551616) = a := by unfold wv; omega
  have hW : isW (a / 18446744073709551616) (a % 18446744073709551616) := ⟨by unfold inI; omega, by unfold inU; omega⟩
  obtain ⟨z1, z2, z3⟩ := mul_abs a b a0 a1 b0 b1
  generalize (if a < 0 then -a else a) * (if b < 0 then -b else b) = e at z1 z2 z3
  have hin : in128 (a * b) := by unfold in128; split at z1 <;> omega
  unfold r01_Scale.f
  rw [if_pos ⟨hW, hB⟩, hw, if_pos hin]
  rfl
 ·cases h
theorem r01_Mul.calls (a0 a1 r1 r2 : Int) (w : World) (h : r01_Mul.f a0 a1 = some (r1, r2)) :
  Calls Tryd.prog 37 #[.int .i64 a0, .int .i64 a1] w fun e w' => e = .returned (.agg #[.int .i64 r1, .int .u64 r2]) ∧ Below w.heap.size w w' := by
 have h := r01_Mul.eq h
 exact r01_MulP.calls a0 a1 r1 r2 w h
end Go.Proofs.YtogcdcjbleafdaaDoor.PS
end
