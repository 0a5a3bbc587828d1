import Derived.Test.YtjkjiibhdpcpkaaDoorQRm2
import Derived.Test.YtjkjiibhdpcpkaaDoorQRm3
import Derived.Test.YtjkjiibhdpcpkaaDoorQRm4
import Derived.Test.YtjkjiibhdpcpkaaDoorQRm8
import Derived.Test.YtjkjiibhdpcpkaaDoorQRm9
namespace Go.Proofs.YtjkjiibhdpcpkaaDoor.PS
open Go.RowKit Go.Proofs.YtjkjiibhdpcpkaaDoorW.PrintWords Go.Proofs.YtjkjiibhdpcpkaaDoorW.PrintLast
set_option linter.unusedVariables false
set_option linter.unusedSimpArgs false
theorem ldg27_ {P : Program} {ops : Array Oper} {rest : List Oper} {o : Oper} {a : Act} {Q : Exit → Act → World → Prop} {W : World} {t : TypeId} {b : Tmp} {g : Nat} {cs : Array Value} {d : TypeDesc} (hu : P.underlying t = some d) (ho : o.op = .load t (.tmp b)) (hw : Region.wanted o (yielded ops a.tmps) = true)
  (hx : a.eval (.tmp b) = .pointer (some ⟨g, 0, none⟩)) (hb : W.heap[g]? = some (.cells cs t (0, 0))) (hd : (match d with | .struct _ | .array _ _ => true | _ => false) = true) (hi : (P.info? t).map (·.size) = some cs.size)
  (h : wpList P ops Q rest (a.put o.dst (.agg cs)) W) : wpList P ops Q (o :: rest) a W := by
  refine BigFrame.wpList_want hw fun K hK => ?_
  have hl := ld_of_cells (P := P) (w := W) (g := g) (t := t) cs.toList (fun j v hv => by rw [cell_of_row W g j cs t (0, 0) hb]; simpa using hv) hu hd (by simpa using hi)
  have hr : (execOp a.eval o).run P W = .ok (.value (.agg cs)) W := ldx_ ho hx (by simpa using hl)
  unfold Oper.wp
  rw [hr]
  exact hK _ _ h
def corebanklaw38_ProvisionStages.f (k : Nat) (a0_0 a0_1 a0_2 a0_3 a0_4 a0_5 a0_6 a0_7 a0_8 a0_9 a0_10 a0_11 a0_12 a0_13 a0_14 a0_15 a0_16 a0_17 a0_18 a0_19 a0_20 : Int) (a0_21 a0_22 : ByteArray) (l0_23 : List (S54)) (l0_24 : List (S50)) (a1 a2 : Int) : Option (Bool) := (corebankref38_Great.f k a0_0 a0_1 a0_2 a0_3 a0_4 a0_5 a0_6 a0_7 a0_8 a0_9 a0_10 a0_11 a0_12 a0_13 a0_14 a0_15 a0_16 a0_17 a0_18 a0_19 a0_20 a0_21 a0_22 l0_23 l0_24).bind fun t272 => (if t272 = true then ((corebanklaw38_Live.f k).bind fun t273 => (some t273)) else ((provision_Stage.f k a0_0 a0_1 a0_2 a0_3 a0_4 a0_5 a0_6 a0_7 a0_8 a0_9 a0_10 a0_11 a0_12 a0_13 a0_14 a0_15 a0_16 a0_17 a0_18 a0_19 a0_20 a0_21 a0_22 l0_23 l0_24 a1).bind fun t274 => ((corebankref38_Stage.f k a0_0 a0_1 a0_2 a0_3 a0_4 a0_5 a0_6 a0_7 a0_8 a0_9 a0_10 a0_11 a0_12 a0_13 a0_14 a0_15 a0_16 a0_17 a0_18 a0_19 a0_20 a0_21 a0_22 l0_23 l0_24 a1).bind fun t275 => (if t274 = t275 then ((provision_Rate.f a2).bind fun t276 => ((corebankref38_Rate.f a2).bind fun t277 => (if t276 = t277 then ((corebanklaw38_Live.f k).bind fun t278 => (some t278)) else (some false)))) else (some false)))))
theorem corebanklaw38_ProvisionStages.mono : ∀ a0 a1 a2 a3 a4 a5 a6 a7 a8 a9 a10 a11 a12 a13 a14 a15 a16 a17 a18 a19 a20 a21 a22 a23 a24 a25 a26 k, LeO (corebanklaw38_ProvisionStages.f k a0 a1 a2 a3 a4 a5 a6 a7 a8 a9 a10 a11 a12 a13 a14 a15 a16 a17 a18 a19 a20 a21 a22 a23 a24 a25 a26) (corebanklaw38_ProvisionStages.f (k + 1) a0 a1 a2 a3 a4 a5 a6 a7 a8 a9 a10 a11 a12 a13 a14 a15 a16 a17 a18 a19 a20 a21 a22 a23 a24 a25 a26) := by
 intro a0 a1 a2 a3 a4 a5 a6 a7 a8 a9 a10 a11 a12 a13 a14 a15 a16 a17 a18 a19 a20 a21 a22 a23 a24 a25 a26 k
 unfold corebanklaw38_ProvisionStages.f
 repeat' first
   | (with_reducible exact corebanklaw38_Live.mono _)
   | (with_reducible exact corebankref38_Great.mono _ _ _ _ _ _ _ _ _ _ _ _ _ _ _ _ _ _ _ _ _ _ _ _ _ _)
   | (with_reducible exact corebankref38_Stage.mono _ _ _ _ _ _ _ _ _ _ _ _ _ _ _ _ _ _ _ _ _ _ _ _ _ _ _)
   | (with_reducible exact provision_Stage.mono _ _ _ _ _ _ _ _ _ _ _ _ _ _ _ _ _ _ _ _ _ _ _ _ _ _ _)
   | (with_reducible exact LeO.refl _)
   | (with_reducible exact LeO.none _)
   | (with_reducible refine LeO.ite ?_ ?_)
   | (with_reducible refine LeO.bind ?_ (fun _ => ?_))
   | exact corebanklaw38_Live.mono _
   | exact corebankref38_Great.mono _ _ _ _ _ _ _ _ _ _ _ _ _ _ _ _ _ _ _ _ _ _ _ _ _ _
   | exact corebankref38_Stage.mono _ _ _ _ _ _ _ _ _ _ _ _ _ _ _ _ _ _ _ _ _ _ _ _ _ _ _
   | exact provision_Stage.mono _ _ _ _ _ _ _ _ _ _ _ _ _ _ _ _ _ _ _ _ _ _ _ _ _ _ _
   | exact LeO.none _
   | refine LeO.ite ?_ ?_
   | refine LeO.bind ?_ (fun _ => ?_)
def corebanklaw38_ProvisionStages.T1 : Bool × List (List Nat × List Nat) := (true, [([], []), ([0], [0]), ([1, 1], [1]), ([2], [2]), ([2], [2]), ([3, 4, 2, 2], [2, 3, 4]), ([2], [2]), ([2], [2]), ([6, 7, 5, 2], [2, 6, 7]), ([5, 8, 2], [2, 5, 8]), ([9, 8, 2], [2, 9]), ([10], [10]), ([11, 10, 10], [10, 11]), ([10], [10]), ([13, 12, 10], [10, 13]), ([12, 14, 10], [10, 12, 14]), ([10, 15, 2], [2, 10, 15]), ([2, 16], [2, 16]), ([17, 14], [17]), ([18, 18], [18]), ([18, 19], [18, 19]), ([20, 19, 0, 1, 2, 3, 4, 5, 6, 7, 8, 9, 10, 11, 12, 13, 14, 15, 16, 17, 18, 19, 20], [20])])
def corebanklaw38_ProvisionStages.B1 : List Nat := [0, 1, 3, 7, 7, 31, 7, 7, 255, 511, 1023, 2047, 4095, 2047, 16383, 32767, 65535, 131071, 262143, 524287, 1048575, 2097151]
theorem corebanklaw38_ProvisionStages.tab1 : rtab .any (opsOf Tryd.f3 1) = corebanklaw38_ProvisionStages.T1 := by kernel_rfl
theorem corebanklaw38_ProvisionStages.bits1 : waitsOk corebanklaw38_ProvisionStages.T1.2 corebanklaw38_ProvisionStages.B1 = true := by kernel_rfl
set_option maxHeartbeats 8000000 in
set_option maxRecDepth 100000 in
theorem corebanklaw38_ProvisionStages.calls1 (k : Nat) (a0_0 a0_1 a0_2 a0_3 a0_4 a0_5 a0_6 a0_7 a0_8 a0_9 a0_10 a0_11 a0_12 a0_13 a0_14 a0_15 a0_16 a0_17 a0_18 a0_19 a0_20 : Int) (a0_21 a0_22 : ByteArray) (A0_23 : Option Addr) (c0_23 : Nat) (l0_23 : List (S54)) (A0_24 : Option Addr) (c0_24 : Nat) (l0_24 : List (S50)) (a1 a2 : Int) (w : World) (hG : GW w) (hr0_23 : Kd.C k54 w A0_23 l0_23.length l0_23) (hc0_23 : l0_23.length ≤ c0_23) (hr0_24 : Kd.C k50 w A0_24 l0_24.length l0_24) (hc0_24 : l0_24.length ≤ c0_24) (h : corebanklaw38_ProvisionStages.f k a0_0 a0_1 a0_2 a0_3 a0_4 a0_5 a0_6 a0_7 a0_8 a0_9 a0_10 a0_11 a0_12 a0_13 a0_14 a0_15 a0_16 a0_17 a0_18 a0_19 a0_20 a0_21 a0_22 l0_23 l0_24 a1 a2 = some true) :
  Calls Tryd.prog 3 #[.agg #[.int .i64 a0_0, .int .i64 a0_1, .int .i64 a0_2, .int .i64 a0_3, .int .i64 a0_4, .int .i64 a0_5, .int .i64 a0_6, .int .i64 a0_7, .int .i64 a0_8, .int .i64 a0_9, .int .i64 a0_10, .int .i64 a0_11, .int .i64 a0_12, .int .i64 a0_13, .int .i64 a0_14, .int .i64 a0_15, .int .i64 a0_16, .int .i64 a0_17, .int .i64 a0_18, .int .i64 a0_19, .int .i64 a0_20, .string a0_21, .string a0_22, .slice A0_23 l0_23.length c0_23, .slice A0_24 l0_24.length c0_24], .int .i64 a1, .int .i64 a2] w fun e w' => e = .returned (.bool true) ∧ Below w.heap.size w w' := by
 have hu27 := Tryd.underlying27
 have HR0_23 := Aside0.mk hr0_23
 have HC0_23 := Aside0.mk hc0_23
 clear hr0_23 hc0_23
 have HR0_24 := Aside0.mk hr0_24
 have HC0_24 := Aside0.mk hc0_24
 clear hr0_24 hc0_24
 have HB := Aside0.mk (Below.refl w.heap.size w)
 have H : ((corebankref38_Great.f k a0_0 a0_1 a0_2 a0_3 a0_4 a0_5 a0_6 a0_7 a0_8 a0_9 a0_10 a0_11 a0_12 a0_13 a0_14 a0_15 a0_16 a0_17 a0_18 a0_19 a0_20 a0_21 a0_22 l0_23 l0_24).bind fun t272 => (if t272 = true then ((corebanklaw38_Live.f k).bind fun t273 => (some t273)) else ((provision_Stage.f k a0_0 a0_1 a0_2 a0_3 a0_4 a0_5 a0_6 a0_7 a0_8 a0_9 a0_10 a0_11 a0_12 a0_13 a0_14 a0_15 a0_16 a0_17 a0_18 a0_19 a0_20 a0_21 a0_22 l0_23 l0_24 a1).bind fun t274 => ((corebankref38_Stage.f k a0_0 a0_1 a0_2 a0_3 a0_4 a0_5 a0_6 a0_7 a0_8 a0_9 a0_10 a0_11 a0_12 a0_13 a0_14 a0_15 a0_16 a0_17 a0_18 a0_19 a0_20 a0_21 a0_22 l0_23 l0_24 a1).bind fun t275 => (if t274 = t275 then ((provision_Rate.f a2).bind fun t276 => ((corebankref38_Rate.f a2).bind fun t277 => (if t276 = t277 then ((corebanklaw38_Live.f k).bind fun t278 => (some t278)) else (some false)))) else (some false)))))) = some true := h
 clear h
 replace H := Option.bind_eq_some_iff.mp H
 obtain ⟨t272, A40, H⟩ := H
 replace H : (if t272 = true then ((corebanklaw38_Live.f k).bind fun t273 => (some t273)) else ((provision_Stage.f k a0_0 a0_1 a0_2 a0_3 a0_4 a0_5 a0_6 a0_7 a0_8 a0_9 a0_10 a0_11 a0_12 a0_13 a0_14 a0_15 a0_16 a0_17 a0_18 a0_19 a0_20 a0_21 a0_22 l0_23 l0_24 a1).bind fun t274 => ((corebankref38_Stage.f k a0_0 a0_1 a0_2 a0_3 a0_4 a0_5 a0_6 a0_7 a0_8 a0_9 a0_10 a0_11 a0_12 a0_13 a0_14 a0_15 a0_16 a0_17 a0_18 a0_19 a0_20 a0_21 a0_22 l0_23 l0_24 a1).bind fun t275 => (if t274 = t275 then ((provision_Rate.f a2).bind fun t276 => ((corebankref38_Rate.f a2).bind fun t277 => (if t276 = t277 then ((corebanklaw38_Live.f k).bind fun t278 => (some t278)) else (some false)))) else (some false))))) = some true := H
 have A4 := Aside0.mk A40
 clear A40
 by_cases c5 : t272 = true
 ·subst c5
  have H1 : ((corebanklaw38_Live.f k).bind fun t273 => (some t273)) = some true := by rw [if_pos rfl] at H; exact H
  clear H
  have H := H1
  clear H1
  replace H := Option.bind_eq_some_iff.mp H
  obtain ⟨t273, A60, H⟩ := H
  replace H : (some t273) = some true := H
  have A6 := Aside0.mk A60
  clear A60
  have HL_ := Option.some.inj H
  go_enter Tryd.func3, Tryd.ntmps3
  try go_wp2_with (first | ((with_reducible refine gate_load_ (t := 27) rfl ?_); refine ld_ (t := 27) Tryd.underlying27 rfl rfl rfl (by (repeat (first | (with_reducible first | refine blk_drewN ?_ _ | refine blk_drew ?_ | refine blk_alloc ?_ _) | refine blk_set ?_ _ _)); (with_reducible first | exact BK271.out)) rfl (by kernel_rfl) ?_) | ((with_reducible refine gate_load_ (t := 27) rfl ?_); refine ldg27_ (t := 27) Tryd.underlying27 rfl (by rfl) rfl (by (repeat (first | (with_reducible first | refine blk_drewN ?_ _ | refine blk_drew ?_ | refine blk_alloc ?_ _) | refine blk_set ?_ _ _)); (with_reducible first | exact BK271.out)) rfl (by kernel_rfl) ?_) | ((with_reducible refine gate_dst (N := 3) rfl ?_); refine be_ (N := 3) (cs := #[.int .i64 a0_0, .int .i64 a0_1, .int .i64 a0_2, .int .i64 a0_3, .int .i64 a0_4, .int .i64 a0_5, .int .i64 a0_6, .int .i64 a0_7, .int .i64 a0_8, .int .i64 a0_9, .int .i64 a0_10, .int .i64 a0_11, .int .i64 a0_12, .int .i64 a0_13, .int .i64 a0_14, .int .i64 a0_15, .int .i64 a0_16, .int .i64 a0_17, .int .i64 a0_18, .int .i64 a0_19, .int .i64 a0_20, .string a0_21, .string a0_22, .slice A0_23 l0_23.length c0_23, .slice A0_24 l0_24.length c0_24]) (t := 27) ?_; intro gb271 hg w7 hbox hb; have n0_ := Aside0.mk (below_step (qb_ HB.out) hb); have n1_ := Aside0.mk (hbox); have n2_ := Aside0.mk (bz_ hg (qb_ HB.out) : w.heap.size ≤ gb271); have n3_ := n2_; clear HB; have HB := n0_; have BK271 := n1_; have GW271 := n2_; have GE271 := n3_; clear n0_ n1_ n2_ n3_; clear hb hbox hg))
  have n0_ := Aside0.mk (blk_drew BK271.out)
  have n1_ := Aside0.mk (below_drew1 HB.out)
  clear BK271
  clear HB
  have BK271 := n0_
  have HB := n1_
  clear n0_ n1_
  refine start_ (n := 22) (S := fun w' => w'.cell? ⟨gb271, 0, none⟩ = some (.int .i64 a0_0) ∧ w'.cell? ⟨gb271, 1, none⟩ = some (.int .i64 a0_1) ∧ w'.cell? ⟨gb271, 2, none⟩ = some (.int .i64 a0_2) ∧ w'.cell? ⟨gb271, 3, none⟩ = some (.int .i64 a0_3) ∧ w'.cell? ⟨gb271, 4, none⟩ = some (.int .i64 a0_4) ∧ w'.cell? ⟨gb271, 5, none⟩ = some (.int .i64 a0_5) ∧ w'.cell? ⟨gb271, 6, none⟩ = some (.int .i64 a0_6) ∧ w'.cell? ⟨gb271, 7, none⟩ = some (.int .i64 a0_7) ∧ w'.cell? ⟨gb271, 8, none⟩ = some (.int .i64 a0_8) ∧ w'.cell? ⟨gb271, 9, none⟩ = some (.int .i64 a0_9) ∧ w'.cell? ⟨gb271, 10, none⟩ = some (.int .i64 a0_10) ∧ w'.cell? ⟨gb271, 11, none⟩ = some (.int .i64 a0_11) ∧ w'.cell? ⟨gb271, 12, none⟩ = some (.int .i64 a0_12) ∧ w'.cell? ⟨gb271, 13, none⟩ = some (.int .i64 a0_13) ∧ w'.cell? ⟨gb271, 14, none⟩ = some (.int .i64 a0_14) ∧ w'.cell? ⟨gb271, 15, none⟩ = some (.int .i64 a0_15) ∧ w'.cell? ⟨gb271, 16, none⟩ = some (.int .i64 a0_16) ∧ w'.cell? ⟨gb271, 17, none⟩ = some (.int .i64 a0_17) ∧ w'.cell? ⟨gb271, 18, none⟩ = some (.int .i64 a0_18) ∧ w'.cell? ⟨gb271, 19, none⟩ = some (.int .i64 a0_19) ∧ w'.cell? ⟨gb271, 20, none⟩ = some (.int .i64 a0_20) ∧ w'.cell? ⟨gb271, 21, none⟩ = some (.string a0_21) ∧ w'.cell? ⟨gb271, 22, none⟩ = some (.string a0_22) ∧ w'.cell? ⟨gb271, 23, none⟩ = some (.slice A0_23 l0_23.length c0_23) ∧ w'.cell? ⟨gb271, 24, none⟩ = some (.slice A0_24 l0_24.length c0_24)) (ds := []) (nb_ 22 0) (by kernel_rfl) rfl rfl (cc25_ BK271.out) (fun hHeld => ?_); refine with_tabW corebanklaw38_ProvisionStages.tab1 corebanklaw38_ProvisionStages.bits1 (fun HT_ HW_ => ?_)
  generalize w7.drew = w8 at BK271 HB hHeld ⊢
  refine take_ (i := 0) (N := some 7) (v := .agg #[.int .i64 a0_0, .int .i64 a0_1, .int .i64 a0_2, .int .i64 a0_3, .int .i64 a0_4, .int .i64 a0_5, .int .i64 a0_6, .int .i64 a0_7, .int .i64 a0_8, .int .i64 a0_9, .int .i64 a0_10, .int .i64 a0_11, .int .i64 a0_12, .int .i64 a0_13, .int .i64 a0_14, .int .i64 a0_15, .int .i64 a0_16, .int .i64 a0_17, .int .i64 a0_18, .int .i64 a0_19, .int .i64 a0_20, .string a0_21, .string a0_22, .slice A0_23 l0_23.length c0_23, .slice A0_24 l0_24.length c0_24]) (a' := ?_) (nb_ 22 1) rfl rfl (take_ofW HT_.out HW_.out (by kernel_rfl)) (fun _ _ _ h => h) (Or.inl ⟨by rfl, ?_⟩) hHeld ?_ ?_
  skip
  ·rintro w' hs_
   first
   | (exact ldx_ (by rfl) (by rfl) (ldS_ hs_))
   | (obtain ⟨s0, s1, s2, s3, s4, s5, s6, s7, s8, s9, s10, s11, s12, s13, s14, s15, s16, s17, s18, s19, s20, s21, s22, s23, s24⟩ := hs_; go_simp; with_reducible rfl)
  rotate_left
  ·simp only [Act.put, List.setIfInBounds_toArray, List.set_cons_zero, List.set_cons_succ, i64_w, i32_w]
   rfl
  refine on_ 1 8 (nb_ 22 3) HT_.out (fun K hK => ?_)
  refine goes_ Tryd.func8 (by kernel_rfl) rfl #[.agg #[.int .i64 a0_0, .int .i64 a0_1, .int .i64 a0_2, .int .i64 a0_3, .int .i64 a0_4, .int .i64 a0_5, .int .i64 a0_6, .int .i64 a0_7, .int .i64 a0_8, .int .i64 a0_9, .int .i64 a0_10, .int .i64 a0_11, .int .i64 a0_12, .int .i64 a0_13, .int .i64 a0_14, .int .i64 a0_15, .int .i64 a0_16, .int .i64 a0_17, .int .i64 a0_18, .int .i64 a0_19, .int .i64 a0_20, .string a0_21, .string a0_22, .slice A0_23 l0_23.length c0_23, .slice A0_24 l0_24.length c0_24]] (by rfl) rfl rfl ql_ ?_
  with_reducible refine (corebankref38_Great.calls k a0_0 a0_1 a0_2 a0_3 a0_4 a0_5 a0_6 a0_7 a0_8 a0_9 a0_10 a0_11 a0_12 a0_13 a0_14 a0_15 a0_16 a0_17 a0_18 a0_19 a0_20 a0_21 a0_22 _ _ l0_23 _ _ l0_24 true _ ?side1 ?side2 ?side3 ?side4 A4.out).mono ?_
  (case side1 => repeat (first | exact (Kd.C_below HR0_23.out HB.out) | (with_reducible refine Kd.C_alloc ?_ _) | (with_reducible refine Kd.C_drewN ?_ _) | (with_reducible refine Kd.C_drew ?_)))
  (case side2 => exact HC0_23.out)
  (case side3 => repeat (first | exact (Kd.C_below HR0_24.out HB.out) | (with_reducible refine Kd.C_alloc ?_ _) | (with_reducible refine Kd.C_drewN ?_ _) | (with_reducible refine Kd.C_drew ?_)))
  (case side4 => exact HC0_24.out)
  rintro e w9 ⟨rfl, hb⟩
  refine ⟨_, rfl, ?_⟩
  have n0_ := Aside0.mk (blk_below (qk_ BK271.out) hb)
  have n1_ := Aside0.mk (below_step (qb1_ GE271.out HB.out) hb)
  clear BK271
  clear HB
  have BK271 := n0_
  have HB := n1_
  clear n0_ n1_
  (try clear hb)
  (try clear hb2)
  (try clear hk)
  (try clear hi)
  refine hK.out _ _ (cc25_ BK271.out) (fun hHeld => ?_)
  clear hK K
  refine no_ ?_
  refine pz_ 2 9 (nb_ 22 7) HT_.out ?_
  refine pu_ 3 10 (nb_ 22 15) HT_.out ?_
  refine pu_ 4 11 (nb_ 22 31) HT_.out ?_
  refine pu_ 5 12 (nb_ 22 63) HT_.out ?_
  refine pu_ 6 13 (nb_ 22 127) HT_.out ?_
  refine pu_ 7 14 (nb_ 22 255) HT_.out ?_
  refine pu_ 8 15 (nb_ 22 511) HT_.out ?_
  refine pu_ 9 16 (nb_ 22 1023) HT_.out ?_
  refine pu_ 10 17 (nb_ 22 2047) HT_.out ?_
  refine pu_ 11 18 (nb_ 22 4095) HT_.out ?_
  refine pu_ 12 19 (nb_ 22 8191) HT_.out ?_
  refine pu_ 13 20 (nb_ 22 16383) HT_.out ?_
  refine pu_ 14 21 (nb_ 22 32767) HT_.out ?_
  refine pu_ 15 22 (nb_ 22 65535) HT_.out ?_
  refine pu_ 16 23 (nb_ 22 131071) HT_.out ?_
  refine pz_ 17 24 (nb_ 22 262143) HT_.out ?_
  refine pz_ 18 25 (nb_ 22 524287) HT_.out ?_
  refine on_ 19 26 (nb_ 22 1048575) HT_.out (fun K hK => ?_)
  refine goes_ Tryd.func13 (by kernel_rfl) rfl #[] (by rfl) rfl rfl ql_ ?_
  with_reducible refine (corebanklaw38_Live.calls (hG := by first | exact hG | (with_reducible exact GW.below hG (qb1_ GE271.out HB.out)) | (with_reducible repeat (first | exact hG | apply GW.drewN | apply GW.drew))) k  t273 _ A6.out).mono ?_
  rintro e w10 ⟨rfl, hb⟩
  refine ⟨_, rfl, ?_⟩
  have n0_ := Aside0.mk (blk_below (qk_ BK271.out) hb)
  have n1_ := Aside0.mk (below_step (qb1_ GE271.out HB.out) hb)
  clear BK271
  clear HB
  have BK271 := n0_
  have HB := n1_
  clear n0_ n1_
  (try clear hb)
  (try clear hb2)
  (try clear hk)
  (try clear hi)
  refine hK.out _ _ (cc25_ BK271.out) (fun hHeld => ?_)
  clear hK K
  refine no_ ?_
  refine pz_ 20 27 (nb_ 22 2097151) HT_.out ?_
  refine pz_ 21 6 (nb_ 22 4194303) HT_.out ?_
  refine done_ (done_of HT_.out (by kernel_rfl)) ?_
  try go_wp2
  go_ret
  exact ⟨qe_, qb1_ GE271.out HB.out⟩
 ·replace c5 := Bool.eq_false_iff.mpr c5
  subst c5
  have H1 : ((provision_Stage.f k a0_0 a0_1 a0_2 a0_3 a0_4 a0_5 a0_6 a0_7 a0_8 a0_9 a0_10 a0_11 a0_12 a0_13 a0_14 a0_15 a0_16 a0_17 a0_18 a0_19 a0_20 a0_21 a0_22 l0_23 l0_24 a1).bind fun t274 => ((corebankref38_Stage.f k a0_0 a0_1 a0_2 a0_3 a0_4 a0_5 a0_6 a0_7 a0_8 a0_9 a0_10 a0_11 a0_12 a0_13 a0_14 a0_15 a0_16 a0_17 a0_18 a0_19 a0_20 a0_21 a0_22 l0_23 l0_24 a1).bind fun t275 => (if t274 = t275 then ((provision_Rate.f a2).bind fun t276 => ((corebankref38_Rate.f a2).bind fun t277 => (if t276 = t277 then ((corebanklaw38_Live.f k).bind fun t278 => (some t278)) else (some false)))) else (some false)))) = some true := by rw [if_neg (show ¬ (false = true) by decide)] at H; exact H
  clear H
  have H := H1
  clear H1
  replace H := Option.bind_eq_some_iff.mp H
  obtain ⟨t274, A110, H⟩ := H
  replace H : ((corebankref38_Stage.f k a0_0 a0_1 a0_2 a0_3 a0_4 a0_5 a0_6 a0_7 a0_8 a0_9 a0_10 a0_11 a0_12 a0_13 a0_14 a0_15 a0_16 a0_17 a0_18 a0_19 a0_20 a0_21 a0_22 l0_23 l0_24 a1).bind fun t275 => (if t274 = t275 then ((provision_Rate.f a2).bind fun t276 => ((corebankref38_Rate.f a2).bind fun t277 => (if t276 = t277 then ((corebanklaw38_Live.f k).bind fun t278 => (some t278)) else (some false)))) else (some false))) = some true := H
  have A11 := Aside0.mk A110
  clear A110
  replace H := Option.bind_eq_some_iff.mp H
  obtain ⟨t275, A120, H⟩ := H
  replace H : (if t274 = t275 then ((provision_Rate.f a2).bind fun t276 => ((corebankref38_Rate.f a2).bind fun t277 => (if t276 = t277 then ((corebanklaw38_Live.f k).bind fun t278 => (some t278)) else (some false)))) else (some false)) = some true := H
  have A12 := Aside0.mk A120
  clear A120
  by_cases c13 : t274 = t275
  ·rw [if_pos c13] at H
   have c13b0 : (t274 == t275) = true := beq_iff_eq.mpr c13
   have c13b1 : (t274 != t275) = false := bne_eq_false_iff_eq.mpr c13
   clear c13
   replace H := Option.bind_eq_some_iff.mp H
   obtain ⟨t276, A140, H⟩ := H
   replace H : ((corebankref38_Rate.f a2).bind fun t277 => (if t276 = t277 then ((corebanklaw38_Live.f k).bind fun t278 => (some t278)) else (some false))) = some true := H
   have A14 := Aside0.mk A140
   clear A140
   replace H := Option.bind_eq_some_iff.mp H
   obtain ⟨t277, A150, H⟩ := H
   replace H : (if t276 = t277 then ((corebanklaw38_Live.f k).bind fun t278 => (some t278)) else (some false)) = some true := H
   have A15 := Aside0.mk A150
   clear A150
   by_cases c16 : t276 = t277
   ·rw [if_pos c16] at H
    have c16b0 : (t276 == t277) = true := beq_iff_eq.mpr c16
    have c16b1 : (t276 != t277) = false := bne_eq_false_iff_eq.mpr c16
    clear c16
    replace H := Option.bind_eq_some_iff.mp H
    obtain ⟨t278, A170, H⟩ := H
    replace H : (some t278) = some true := H
    have A17 := Aside0.mk A170
    clear A170
    have HL_ := Option.some.inj H
    go_enter Tryd.func3, Tryd.ntmps3
    try go_wp2_with (first | ((with_reducible refine gate_load_ (t := 27) rfl ?_); refine ld_ (t := 27) Tryd.underlying27 rfl rfl rfl (by (repeat (first | (with_reducible first | refine blk_drewN ?_ _ | refine blk_drew ?_ | refine blk_alloc ?_ _) | refine blk_set ?_ _ _)); (with_reducible first | exact BK271.out)) rfl (by kernel_rfl) ?_) | ((with_reducible refine gate_load_ (t := 27) rfl ?_); refine ldg27_ (t := 27) Tryd.underlying27 rfl (by rfl) rfl (by (repeat (first | (with_reducible first | refine blk_drewN ?_ _ | refine blk_drew ?_ | refine blk_alloc ?_ _) | refine blk_set ?_ _ _)); (with_reducible first | exact BK271.out)) rfl (by kernel_rfl) ?_) | ((with_reducible refine gate_dst (N := 3) rfl ?_); refine be_ (N := 3) (cs := #[.int .i64 a0_0, .int .i64 a0_1, .int .i64 a0_2, .int .i64 a0_3, .int .i64 a0_4, .int .i64 a0_5, .int .i64 a0_6, .int .i64 a0_7, .int .i64 a0_8, .int .i64 a0_9, .int .i64 a0_10, .int .i64 a0_11, .int .i64 a0_12, .int .i64 a0_13, .int .i64 a0_14, .int .i64 a0_15, .int .i64 a0_16, .int .i64 a0_17, .int .i64 a0_18, .int .i64 a0_19, .int .i64 a0_20, .string a0_21, .string a0_22, .slice A0_23 l0_23.length c0_23, .slice A0_24 l0_24.length c0_24]) (t := 27) ?_; intro gb271 hg w18 hbox hb; have n0_ := Aside0.mk (below_step (qb_ HB.out) hb); have n1_ := Aside0.mk (hbox); have n2_ := Aside0.mk (bz_ hg (qb_ HB.out) : w.heap.size ≤ gb271); have n3_ := n2_; clear HB; have HB := n0_; have BK271 := n1_; have GW271 := n2_; have GE271 := n3_; clear n0_ n1_ n2_ n3_; clear hb hbox hg))
    have n0_ := Aside0.mk (blk_drew BK271.out)
    have n1_ := Aside0.mk (below_drew1 HB.out)
    clear BK271
    clear HB
    have BK271 := n0_
    have HB := n1_
    clear n0_ n1_
    refine start_ (n := 22) (S := fun w' => w'.cell? ⟨gb271, 0, none⟩ = some (.int .i64 a0_0) ∧ w'.cell? ⟨gb271, 1, none⟩ = some (.int .i64 a0_1) ∧ w'.cell? ⟨gb271, 2, none⟩ = some (.int .i64 a0_2) ∧ w'.cell? ⟨gb271, 3, none⟩ = some (.int .i64 a0_3) ∧ w'.cell? ⟨gb271, 4, none⟩ = some (.int .i64 a0_4) ∧ w'.cell? ⟨gb271, 5, none⟩ = some (.int .i64 a0_5) ∧ w'.cell? ⟨gb271, 6, none⟩ = some (.int .i64 a0_6) ∧ w'.cell? ⟨gb271, 7, none⟩ = some (.int .i64 a0_7) ∧ w'.cell? ⟨gb271, 8, none⟩ = some (.int .i64 a0_8) ∧ w'.cell? ⟨gb271, 9, none⟩ = some (.int .i64 a0_9) ∧ w'.cell? ⟨gb271, 10, none⟩ = some (.int .i64 a0_10) ∧ w'.cell? ⟨gb271, 11, none⟩ = some (.int .i64 a0_11) ∧ w'.cell? ⟨gb271, 12, none⟩ = some (.int .i64 a0_12) ∧ w'.cell? ⟨gb271, 13, none⟩ = some (.int .i64 a0_13) ∧ w'.cell? ⟨gb271, 14, none⟩ = some (.int .i64 a0_14) ∧ w'.cell? ⟨gb271, 15, none⟩ = some (.int .i64 a0_15) ∧ w'.cell? ⟨gb271, 16, none⟩ = some (.int .i64 a0_16) ∧ w'.cell? ⟨gb271, 17, none⟩ = some (.int .i64 a0_17) ∧ w'.cell? ⟨gb271, 18, none⟩ = some (.int .i64 a0_18) ∧ w'.cell? ⟨gb271, 19, none⟩ = some (.int .i64 a0_19) ∧ w'.cell? ⟨gb271, 20, none⟩ = some (.int .i64 a0_20) ∧ w'.cell? ⟨gb271, 21, none⟩ = some (.string a0_21) ∧ w'.cell? ⟨gb271, 22, none⟩ = some (.string a0_22) ∧ w'.cell? ⟨gb271, 23, none⟩ = some (.slice A0_23 l0_23.length c0_23) ∧ w'.cell? ⟨gb271, 24, none⟩ = some (.slice A0_24 l0_24.length c0_24)) (ds := []) (nb_ 22 0) (by kernel_rfl) rfl rfl (cc25_ BK271.out) (fun hHeld => ?_); refine with_tabW corebanklaw38_ProvisionStages.tab1 corebanklaw38_ProvisionStages.bits1 (fun HT_ HW_ => ?_)
    generalize w18.drew = w19 at BK271 HB hHeld ⊢
    refine take_ (i := 0) (N := some 7) (v := .agg #[.int .i64 a0_0, .int .i64 a0_1, .int .i64 a0_2, .int .i64 a0_3, .int .i64 a0_4, .int .i64 a0_5, .int .i64 a0_6, .int .i64 a0_7, .int .i64 a0_8, .int .i64 a0_9, .int .i64 a0_10, .int .i64 a0_11, .int .i64 a0_12, .int .i64 a0_13, .int .i64 a0_14, .int .i64 a0_15, .int .i64 a0_16, .int .i64 a0_17, .int .i64 a0_18, .int .i64 a0_19, .int .i64 a0_20, .string a0_21, .string a0_22, .slice A0_23 l0_23.length c0_23, .slice A0_24 l0_24.length c0_24]) (a' := ?_) (nb_ 22 1) rfl rfl (take_ofW HT_.out HW_.out (by kernel_rfl)) (fun _ _ _ h => h) (Or.inl ⟨by rfl, ?_⟩) hHeld ?_ ?_
    skip
    ·rintro w' hs_
     first
     | (exact ldx_ (by rfl) (by rfl) (ldS_ hs_))
     | (obtain ⟨s0, s1, s2, s3, s4, s5, s6, s7, s8, s9, s10, s11, s12, s13, s14, s15, s16, s17, s18, s19, s20, s21, s22, s23, s24⟩ := hs_; go_simp; with_reducible rfl)
    rotate_left
    ·simp only [Act.put, List.setIfInBounds_toArray, List.set_cons_zero, List.set_cons_succ, i64_w, i32_w]
     rfl
    refine on_ 1 8 (nb_ 22 3) HT_.out (fun K hK => ?_)
    refine goes_ Tryd.func8 (by kernel_rfl) rfl #[.agg #[.int .i64 a0_0, .int .i64 a0_1, .int .i64 a0_2, .int .i64 a0_3, .int .i64 a0_4, .int .i64 a0_5, .int .i64 a0_6, .int .i64 a0_7, .int .i64 a0_8, .int .i64 a0_9, .int .i64 a0_10, .int .i64 a0_11, .int .i64 a0_12, .int .i64 a0_13, .int .i64 a0_14, .int .i64 a0_15, .int .i64 a0_16, .int .i64 a0_17, .int .i64 a0_18, .int .i64 a0_19, .int .i64 a0_20, .string a0_21, .string a0_22, .slice A0_23 l0_23.length c0_23, .slice A0_24 l0_24.length c0_24]] (by rfl) rfl rfl ql_ ?_
    with_reducible refine (corebankref38_Great.calls k a0_0 a0_1 a0_2 a0_3 a0_4 a0_5 a0_6 a0_7 a0_8 a0_9 a0_10 a0_11 a0_12 a0_13 a0_14 a0_15 a0_16 a0_17 a0_18 a0_19 a0_20 a0_21 a0_22 _ _ l0_23 _ _ l0_24 false _ ?side1 ?side2 ?side3 ?side4 A4.out).mono ?_
    (case side1 => repeat (first | exact (Kd.C_below HR0_23.out HB.out) | (with_reducible refine Kd.C_alloc ?_ _) | (with_reducible refine Kd.C_drewN ?_ _) | (with_reducible refine Kd.C_drew ?_)))
    (case side2 => exact HC0_23.out)
    (case side3 => repeat (first | exact (Kd.C_below HR0_24.out HB.out) | (with_reducible refine Kd.C_alloc ?_ _) | (with_reducible refine Kd.C_drewN ?_ _) | (with_reducible refine Kd.C_drew ?_)))
    (case side4 => exact HC0_24.out)
    rintro e w20 ⟨rfl, hb⟩
    refine ⟨_, rfl, ?_⟩
    have n0_ := Aside0.mk (blk_below (qk_ BK271.out) hb)
    have n1_ := Aside0.mk (below_step (qb1_ GE271.out HB.out) hb)
    clear BK271
    clear HB
    have BK271 := n0_
    have HB := n1_
    clear n0_ n1_
    (try clear hb)
    (try clear hb2)
    (try clear hk)
    (try clear hi)
    refine hK.out _ _ (cc25_ BK271.out) (fun hHeld => ?_)
    clear hK K
    refine no_ ?_
    refine pz_ 2 9 (nb_ 22 7) HT_.out ?_
    refine pz_ 4 11 (nb_ 22 23) HT_.out ?_
    refine pz_ 7 14 (nb_ 22 151) HT_.out ?_
    refine take_ (i := 3) (N := some 10) (v := .agg #[.int .i64 a0_0, .int .i64 a0_1, .int .i64 a0_2, .int .i64 a0_3, .int .i64 a0_4, .int .i64 a0_5, .int .i64 a0_6, .int .i64 a0_7, .int .i64 a0_8, .int .i64 a0_9, .int .i64 a0_10, .int .i64 a0_11, .int .i64 a0_12, .int .i64 a0_13, .int .i64 a0_14, .int .i64 a0_15, .int .i64 a0_16, .int .i64 a0_17, .int .i64 a0_18, .int .i64 a0_19, .int .i64 a0_20, .string a0_21, .string a0_22, .slice A0_23 l0_23.length c0_23, .slice A0_24 l0_24.length c0_24]) (a' := ?_) (nb_ 22 159) rfl rfl (take_ofW HT_.out HW_.out (by kernel_rfl)) (fun _ _ _ h => h) (Or.inl ⟨by rfl, ?_⟩) hHeld ?_ ?_
    skip
    ·rintro w' hs_
     first
     | (exact ldx_ (by rfl) (by rfl) (ldS_ hs_))
     | (obtain ⟨s0, s1, s2, s3, s4, s5, s6, s7, s8, s9, s10, s11, s12, s13, s14, s15, s16, s17, s18, s19, s20, s21, s22, s23, s24⟩ := hs_; go_simp; with_reducible rfl)
    rotate_left
    ·simp only [Act.put, List.setIfInBounds_toArray, List.set_cons_zero, List.set_cons_succ, i64_w, i32_w]
     rfl
    refine take_ (i := 6) (N := some 13) (v := .agg #[.int .i64 a0_0, .int .i64 a0_1, .int .i64 a0_2, .int .i64 a0_3, .int .i64 a0_4, .int .i64 a0_5, .int .i64 a0_6, .int .i64 a0_7, .int .i64 a0_8, .int .i64 a0_9, .int .i64 a0_10, .int .i64 a0_11, .int .i64 a0_12, .int .i64 a0_13, .int .i64 a0_14, .int .i64 a0_15, .int .i64 a0_16, .int .i64 a0_17, .int .i64 a0_18, .int .i64 a0_19, .int .i64 a0_20, .string a0_21, .string a0_22, .slice A0_23 l0_23.length c0_23, .slice A0_24 l0_24.length c0_24]) (a' := ?_) (nb_ 22 223) rfl rfl (take_ofW HT_.out HW_.out (by kernel_rfl)) (fun _ _ _ h => h) (Or.inl ⟨by rfl, ?_⟩) hHeld ?_ ?_
    skip
    ·rintro w' hs_
     first
     | (exact ldx_ (by rfl) (by rfl) (ldS_ hs_))
     | (obtain ⟨s0, s1, s2, s3, s4, s5, s6, s7, s8, s9, s10, s11, s12, s13, s14, s15, s16, s17, s18, s19, s20, s21, s22, s23, s24⟩ := hs_; go_simp; with_reducible rfl)
    rotate_left
    ·simp only [Act.put, List.setIfInBounds_toArray, List.set_cons_zero, List.set_cons_succ, i64_w, i32_w]
     rfl
    refine on_ 5 12 (nb_ 22 255) HT_.out (fun K hK => ?_)
    refine goes_ Tryd.func9 (by kernel_rfl) rfl #[.agg #[.int .i64 a0_0, .int .i64 a0_1, .int .i64 a0_2, .int .i64 a0_3, .int .i64 a0_4, .int .i64 a0_5, .int .i64 a0_6, .int .i64 a0_7, .int .i64 a0_8, .int .i64 a0_9, .int .i64 a0_10, .int .i64 a0_11, .int .i64 a0_12, .int .i64 a0_13, .int .i64 a0_14, .int .i64 a0_15, .int .i64 a0_16, .int .i64 a0_17, .int .i64 a0_18, .int .i64 a0_19, .int .i64 a0_20, .string a0_21, .string a0_22, .slice A0_23 l0_23.length c0_23, .slice A0_24 l0_24.length c0_24], .int .i64 a1] (by rfl) rfl rfl ql_ ?_
    with_reducible refine (provision_Stage.calls (hG := by first | exact hG | (with_reducible exact GW.below hG (qb1_ GE271.out HB.out)) | (with_reducible repeat (first | exact hG | apply GW.drewN | apply GW.drew))) k a0_0 a0_1 a0_2 a0_3 a0_4 a0_5 a0_6 a0_7 a0_8 a0_9 a0_10 a0_11 a0_12 a0_13 a0_14 a0_15 a0_16 a0_17 a0_18 a0_19 a0_20 a0_21 a0_22 _ _ l0_23 _ _ l0_24 a1 t274 _ ?side1 ?side2 ?side3 ?side4 A11.out).mono ?_
    (case side1 => repeat (first | exact (Kd.C_below HR0_23.out HB.out) | (with_reducible refine Kd.C_alloc ?_ _) | (with_reducible refine Kd.C_drewN ?_ _) | (with_reducible refine Kd.C_drew ?_)))
    (case side2 => exact HC0_23.out)
    (case side3 => repeat (first | exact (Kd.C_below HR0_24.out HB.out) | (with_reducible refine Kd.C_alloc ?_ _) | (with_reducible refine Kd.C_drewN ?_ _) | (with_reducible refine Kd.C_drew ?_)))
    (case side4 => exact HC0_24.out)
    rintro e w21 ⟨rfl, hb⟩
    refine ⟨_, rfl, ?_⟩
    have n0_ := Aside0.mk (blk_below (qk_ BK271.out) hb)
    have n1_ := Aside0.mk (below_step (qb1_ GE271.out HB.out) hb)
    clear BK271
    clear HB
    have BK271 := n0_
    have HB := n1_
    clear n0_ n1_
    (try clear hb)
    (try clear hb2)
    (try clear hk)
    (try clear hi)
    refine hK.out _ _ (cc25_ BK271.out) (fun hHeld => ?_)
    clear hK K
    refine no_ ?_
    refine on_ 8 15 (nb_ 22 511) HT_.out (fun K hK => ?_)
    refine goes_ Tryd.func10 (by kernel_rfl) rfl #[.agg #[.int .i64 a0_0, .int .i64 a0_1, .int .i64 a0_2, .int .i64 a0_3, .int .i64 a0_4, .int .i64 a0_5, .int .i64 a0_6, .int .i64 a0_7, .int .i64 a0_8, .int .i64 a0_9, .int .i64 a0_10, .int .i64 a0_11, .int .i64 a0_12, .int .i64 a0_13, .int .i64 a0_14, .int .i64 a0_15, .int .i64 a0_16, .int .i64 a0_17, .int .i64 a0_18, .int .i64 a0_19, .int .i64 a0_20, .string a0_21, .string a0_22, .slice A0_23 l0_23.length c0_23, .slice A0_24 l0_24.length c0_24], .int .i64 a1] (by rfl) rfl rfl ql_ ?_
    with_reducible refine (corebankref38_Stage.calls k a0_0 a0_1 a0_2 a0_3 a0_4 a0_5 a0_6 a0_7 a0_8 a0_9 a0_10 a0_11 a0_12 a0_13 a0_14 a0_15 a0_16 a0_17 a0_18 a0_19 a0_20 a0_21 a0_22 _ _ l0_23 _ _ l0_24 a1 t275 _ ?side1 ?side2 ?side3 ?side4 A12.out).mono ?_
    (case side1 => repeat (first | exact (Kd.C_below HR0_23.out HB.out) | (with_reducible refine Kd.C_alloc ?_ _) | (with_reducible refine Kd.C_drewN ?_ _) | (with_reducible refine Kd.C_drew ?_)))
    (case side2 => exact HC0_23.out)
    (case side3 => repeat (first | exact (Kd.C_below HR0_24.out HB.out) | (with_reducible refine Kd.C_alloc ?_ _) | (with_reducible refine Kd.C_drewN ?_ _) | (with_reducible refine Kd.C_drew ?_)))
    (case side4 => exact HC0_24.out)
    rintro e w22 ⟨rfl, hb⟩
    refine ⟨_, rfl, ?_⟩
    have n0_ := Aside0.mk (blk_below (qk_ BK271.out) hb)
    have n1_ := Aside0.mk (below_step (qb1_ GE271.out HB.out) hb)
    clear BK271
    clear HB
    have BK271 := n0_
    have HB := n1_
    clear n0_ n1_
    (try clear hb)
    (try clear hb2)
    (try clear hk)
    (try clear hi)
    refine hK.out _ _ (cc25_ BK271.out) (fun hHeld => ?_)
    clear hK K
    refine no_ ?_
    refine pz_ 9 16 (nb_ 22 1023) HT_.out ?_
    refine pz_ 10 17 (nb_ 22 2047) HT_.out ?_
    refine pz_ 11 18 (nb_ 22 4095) HT_.out ?_
    refine pz_ 13 20 (nb_ 22 12287) HT_.out ?_
    refine on_ 12 19 (nb_ 22 16383) HT_.out (fun K hK => ?_)
    refine goes_ Tryd.func11 (by kernel_rfl) rfl #[.int .i64 a2] (by rfl) rfl rfl ql_ ?_
    with_reducible refine (provision_Rate.calls a2 t276 _ A14.out).mono ?_
    rintro e w23 ⟨rfl, hb⟩
    refine ⟨_, rfl, ?_⟩
    have n0_ := Aside0.mk (blk_below (qk_ BK271.out) hb)
    have n1_ := Aside0.mk (below_step (qb1_ GE271.out HB.out) hb)
    clear BK271
    clear HB
    have BK271 := n0_
    have HB := n1_
    clear n0_ n1_
    (try clear hb)
    (try clear hb2)
    (try clear hk)
    (try clear hi)
    refine hK.out _ _ (cc25_ BK271.out) (fun hHeld => ?_)
    clear hK K
    refine no_ ?_
    refine on_ 14 21 (nb_ 22 32767) HT_.out (fun K hK => ?_)
    refine goes_ Tryd.func12 (by kernel_rfl) rfl #[.int .i64 a2] (by rfl) rfl rfl ql_ ?_
    with_reducible refine (corebankref38_Rate.calls a2 t277 _ A15.out).mono ?_
    rintro e w' ⟨rfl, ⟨nd, rfl⟩⟩
    refine ⟨_, rfl, ?_⟩
    refine hK.out _ _ (cc25_ BK271.out) (fun hHeld => ?_)
    clear hK K
    refine no_ ?_
    refine pz_ 15 22 (nb_ 22 65535) HT_.out ?_
    refine pz_ 16 23 (nb_ 22 131071) HT_.out ?_
    refine pz_ 17 24 (nb_ 22 262143) HT_.out ?_
    refine pz_ 18 25 (nb_ 22 524287) HT_.out ?_
    refine on_ 19 26 (nb_ 22 1048575) HT_.out (fun K hK => ?_)
    refine goes_ Tryd.func13 (by kernel_rfl) rfl #[] (by rfl) rfl rfl ql_ ?_
    with_reducible refine (corebanklaw38_Live.calls (hG := by first | exact hG | (with_reducible exact GW.below hG (qb1_ GE271.out HB.out)) | (with_reducible repeat (first | exact hG | apply GW.drewN | apply GW.drew))) k  t278 _ A17.out).mono ?_
    rintro e w24 ⟨rfl, hb⟩
    refine ⟨_, rfl, ?_⟩
    have n0_ := Aside0.mk (blk_below (qk_ BK271.out) hb)
    have n1_ := Aside0.mk (below_step (qb1_ GE271.out HB.out) hb)
    clear BK271
    clear HB
    have BK271 := n0_
    have HB := n1_
    clear n0_ n1_
    (try clear hb)
    (try clear hb2)
    (try clear hk)
    (try clear hi)
    refine hK.out _ _ (cc25_ BK271.out) (fun hHeld => ?_)
    clear hK K
    refine no_ ?_
    refine pz_ 20 27 (nb_ 22 2097151) HT_.out ?_
    refine pz_ 21 6 (nb_ 22 4194303) HT_.out ?_
    refine done_ (done_of HT_.out (by kernel_rfl)) ?_
    try go_wp2
    go_ret
    exact ⟨qe_, qb1_ GE271.out HB.out⟩
   ·rw [if_neg c16] at H
    have c16b0 : (t276 == t277) = false := beq_eq_false_iff_ne.mpr c16
    have c16b1 : (t276 != t277) = true := bne_iff_ne.mpr c16
    exact absurd H (by simp)
  ·rw [if_neg c13] at H
   have c13b0 : (t274 == t275) = false := beq_eq_false_iff_ne.mpr c13
   have c13b1 : (t274 != t275) = true := bne_iff_ne.mpr c13
   exact absurd H (by simp)
end Go.Proofs.YtjkjiibhdpcpkaaDoor.PS
