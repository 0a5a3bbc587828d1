import Derived.Deep.Slices
import Derived.Test.YtjkjiibhdpcpkaaDoorQRm2
import Derived.Test.YtjkjiibhdpcpkaaDoorQRm6
section
namespace Go.Proofs.YtjkjiibhdpcpkaaDoor.PS
open Go.RowKit Go.Proofs.YtjkjiibhdpcpkaaDoorW.PrintWords Go.Proofs.YtjkjiibhdpcpkaaDoorW.PrintLast
set_option linter.unusedVariables false
set_option linter.unusedSimpArgs false
theorem st24b_ {B g : Nat} {w0 w : World} (hb : Below B w0 w) (hBg : B ≤ g) (cs : Array Value) : Below B w0 (w.setRow g cs) :=
  hb.trans ⟨rfl, rfl, rfl, by simp [World.setRow], fun k hk => setRow_other w g k cs (by omega)⟩
theorem st24_ {P : Program} {ops : Array Oper} {rest : List Oper} {o : Oper} {a : Act} {Q : Exit → Act → World → Prop} {W : World} {t : TypeId} {p : Tmp} {v : Operand} {g : Nat} {old : Array Value} (cs : Array Value)
  (ho : o.op = .store t (.tmp p) v) (hgd : o.guard = none) (hN : o.dst = none) (hx : a.eval (.tmp p) = .pointer (some ⟨g, 0, none⟩)) (hv : a.eval v = .agg cs) (hb : W.heap[g]? = some (.cells old t (0, 0)))
  (hi : (P.info? t).map (·.size) = some cs.size) (hs : old.size = cs.size) (h1 : cs.toList.all (·.oneCell') = true)
  (h : ∀ w', w'.heap[g]? = some (.cells cs t (0, 0)) → (∀ k, k ≠ g → w'.heap[k]? = W.heap[k]?) → (∀ (B : Nat) (w0 : World), Below B w0 W → B ≤ g → Below B w0 w') → wpList P ops Q rest a w') : wpList P ops Q (o :: rest) a W := by
  have hl := run_storeVar_row (P := P) W g t t old cs hb hi hs (by simpa using h1)
  refine store_event (t := t) (p := p) (v := v) (w1 := W.setRow g cs) hgd ho hN ?_ (fun w' e => by subst e; exact h _ (setRow_heap W g old cs t (0, 0) hb) (fun k hk => setRow_other W g k cs hk) (fun B w0 hB hg => st24b_ hB hg cs))
  unfold execOp
  simp only [ho, hx, hv]
  simp [Instr.storeAt, Instr.sureAddr, Sem.run_bind, hl, Result.andThen]
def provision_Move.j0 : Nat → Int → Bool → Int → Int → Int → Int → Int → Int → Int → Int → Int → Int → Int → Int → Int → Int → Int → Int → Int → Int → Int → Int → Int → ByteArray → ByteArray → List (S54) → List (S50) → Option (Int × Int × Int × Int × Int × Int × Int × Int × Int × Int × Int × Int × Int × Int × Int × Int × Int × Int × Int × Int × Int × ByteArray × ByteArray × (List (S54)) × (List (S50)) × Int × Int)
 | 0, _, _, _, _, _, _, _, _, _, _, _, _, _, _, _, _, _, _, _, _, _, _, _, _, _, _, _ => none
 | k + 1, x1, x18, x207000, x207001, x207002, x207003, x207004, x207005, x207006, x207007, x207008, x207009, x207010, x207011, x207012, x207013, x207014, x207015, x207016, x207017, x207018, x207019, x207020, x207021, x207022, x207023, x207024 => if x18 = true then (some (0, 0, 0, 0, 0, 0, 0, 0, 0, 0, 0, 0, 0, 0, 0, 0, 0, 0, 0, 0, 0, (⟨#[]⟩ : ByteArray), (⟨#[]⟩ : ByteArray), ([] : List (S54)), ([] : List (S50)), 0, 1)) else ((provision_Expected.f k x207000 x207001 x207002 x207003 x207004 x207005 x207006 x207007 x207008 x207009 x207010 x207011 x207012 x207013 x207014 x207015 x207016 x207017 x207018 x207019 x207020 x207021 x207022 x207023 x207024 x1).bind fun bt209 => (if bt209.2 = 0 then ((api_Due.f x207023).bind fun t211 => ((api_Change.f x207024).bind fun t214 => (some (x207000, x207001, x207002, x207003, x207004, x207005, x207006, x207007, bt209.1, x207009, x207010, x207011, x207012, x207013, x207014, x207015, x207016, x207017, x207018, x207019, x207020, x207021, x207022, t211, t214, wrap64 (bt209.1 - x207008), 0)))) else (some (0, 0, 0, 0, 0, 0, 0, 0, 0, 0, 0, 0, 0, 0, 0, 0, 0, 0, 0, 0, 0, (⟨#[]⟩ : ByteArray), (⟨#[]⟩ : ByteArray), ([] : List (S54)), ([] : List (S50)), 0, bt209.2))))
def provision_Move.f (k : Nat) (a0_0 a0_1 a0_2 a0_3 a0_4 a0_5 a0_6 a0_7 a0_8 a0_9 a0_10 a0_11 a0_12 a0_13 a0_14 a0_15 a0_16 a0_17 a0_18 a0_19 a0_20 : Int) (a0_21 a0_22 : ByteArray) (l0_23 : List (S54)) (l0_24 : List (S50)) (a1 : Int) : Option (Int × Int × Int × Int × Int × Int × Int × Int × Int × Int × Int × Int × Int × Int × Int × Int × Int × Int × Int × Int × Int × ByteArray × ByteArray × (List (S54)) × (List (S50)) × Int × Int) := if a0_8 < 0 then (provision_Move.j0 k a1 true a0_0 a0_1 a0_2 a0_3 a0_4 a0_5 a0_6 a0_7 a0_8 a0_9 a0_10 a0_11 a0_12 a0_13 a0_14 a0_15 a0_16 a0_17 a0_18 a0_19 a0_20 a0_21 a0_22 l0_23 l0_24) else ((money_Valid.f a0_8).bind fun t208 => (provision_Move.j0 k a1 (!t208) a0_0 a0_1 a0_2 a0_3 a0_4 a0_5 a0_6 a0_7 a0_8 a0_9 a0_10 a0_11 a0_12 a0_13 a0_14 a0_15 a0_16 a0_17 a0_18 a0_19 a0_20 a0_21 a0_22 l0_23 l0_24))
theorem provision_Move.mono_l : ∀ k, (∀ y0 y1 y2 y3 y4 y5 y6 y7 y8 y9 y10 y11 y12 y13 y14 y15 y16 y17 y18 y19 y20 y21 y22 y23 y24 y25 y26, LeO (provision_Move.j0 k y0 y1 y2 y3 y4 y5 y6 y7 y8 y9 y10 y11 y12 y13 y14 y15 y16 y17 y18 y19 y20 y21 y22 y23 y24 y25 y26) (provision_Move.j0 (k + 1) y0 y1 y2 y3 y4 y5 y6 y7 y8 y9 y10 y11 y12 y13 y14 y15 y16 y17 y18 y19 y20 y21 y22 y23 y24 y25 y26))
 | 0 => fun _ _ _ _ _ _ _ _ _ _ _ _ _ _ _ _ _ _ _ _ _ _ _ _ _ _ _ r h => by simp [provision_Move.j0] at h
 | k + 1 => by
  have ih0 := provision_Move.mono_l k
  ·intro y0 y1 y2 y3 y4 y5 y6 y7 y8 y9 y10 y11 y12 y13 y14 y15 y16 y17 y18 y19 y20 y21 y22 y23 y24 y25 y26
   unfold provision_Move.j0
   repeat' first
   | (with_reducible exact ih0 _ _ _ _ _ _ _ _ _ _ _ _ _ _ _ _ _ _ _ _ _ _ _ _ _ _ _)
   | (with_reducible exact provision_Expected.mono _ _ _ _ _ _ _ _ _ _ _ _ _ _ _ _ _ _ _ _ _ _ _ _ _ _ _)
   | (with_reducible exact LeO.refl _)
   | (with_reducible exact LeO.none _)
   | (with_reducible refine LeO.ite ?_ ?_)
   | (with_reducible refine LeO.bind ?_ (fun _ => ?_))
   | exact ih0 _ _ _ _ _ _ _ _ _ _ _ _ _ _ _ _ _ _ _ _ _ _ _ _ _ _ _
   | exact provision_Expected.mono _ _ _ _ _ _ _ _ _ _ _ _ _ _ _ _ _ _ _ _ _ _ _ _ _ _ _
   | exact LeO.none _
   | refine LeO.ite ?_ ?_
   | refine LeO.bind ?_ (fun _ => ?_)
theorem provision_Move.mono : ∀ a0 a1 a2 a3 a4 a5 a6 a7 a8 a9 a10 a11 a12 a13 a14 a15 a16 a17 a18 a19 a20 a21 a22 a23 a24 a25 k, LeO (provision_Move.f k a0 a1 a2 a3 a4 a5 a6 a7 a8 a9 a10 a11 a12 a13 a14 a15 a16 a17 a18 a19 a20 a21 a22 a23 a24 a25) (provision_Move.f (k + 1) a0 a1 a2 a3 a4 a5 a6 a7 a8 a9 a10 a11 a12 a13 a14 a15 a16 a17 a18 a19 a20 a21 a22 a23 a24 a25) := by
 intro a0 a1 a2 a3 a4 a5 a6 a7 a8 a9 a10 a11 a12 a13 a14 a15 a16 a17 a18 a19 a20 a21 a22 a23 a24 a25 k
 have ih0 := provision_Move.mono_l k
 unfold provision_Move.f
 repeat' first
   | (with_reducible exact ih0 _ _ _ _ _ _ _ _ _ _ _ _ _ _ _ _ _ _ _ _ _ _ _ _ _ _ _)
   | (with_reducible exact provision_Expected.mono _ _ _ _ _ _ _ _ _ _ _ _ _ _ _ _ _ _ _ _ _ _ _ _ _ _ _)
   | (with_reducible exact LeO.refl _)
   | (with_reducible exact LeO.none _)
   | (with_reducible refine LeO.ite ?_ ?_)
   | (with_reducible refine LeO.bind ?_ (fun _ => ?_))
   | exact ih0 _ _ _ _ _ _ _ _ _ _ _ _ _ _ _ _ _ _ _ _ _ _ _ _ _ _ _
   | exact provision_Expected.mono _ _ _ _ _ _ _ _ _ _ _ _ _ _ _ _ _ _ _ _ _ _ _ _ _ _ _
   | exact LeO.none _
   | refine LeO.ite ?_ ?_
   | refine LeO.bind ?_ (fun _ => ?_)
def provision_Move.T8 : Bool × List (List Nat × List Nat) := (true, [([], []), ([0], [0]), ([1], [1]), ([], []), ([3], [3]), ([4, 2], [4]), ([0, 1, 2, 3, 4], []), ([6, 2, 5, 0, 1, 2, 3, 4], [2, 6]), ([0, 1, 2, 3, 4, 5, 6, 7], []), ([8, 5, 7, 0, 1, 2, 3, 4, 5, 6, 7], [5, 8])])
def provision_Move.B8 : List Nat := [0, 1, 3, 0, 8, 31, 31, 127, 255, 511]
theorem provision_Move.tab8 : rtab .any (opsOf Tryd.f16 8) = provision_Move.T8 := by kernel_rfl
theorem provision_Move.bits8 : waitsOk provision_Move.T8.2 provision_Move.B8 = true := by kernel_rfl
set_option maxHeartbeats 8000000 in
set_option maxRecDepth 100000 in
theorem provision_Move.calls (k : Nat) (a0_0 a0_1 a0_2 a0_3 a0_4 a0_5 a0_6 a0_7 a0_8 a0_9 a0_10 a0_11 a0_12 a0_13 a0_14 a0_15 a0_16 a0_17 a0_18 a0_19 a0_20 : Int) (a0_21 a0_22 : ByteArray) (A0_23 : Option Addr) (c0_23 : Nat) (l0_23 : List (S54)) (A0_24 : Option Addr) (c0_24 : Nat) (l0_24 : List (S50)) (a1 r1 r2 r3 r4 r5 r6 r7 r8 r9 r10 r11 r12 r13 r14 r15 r16 r17 r18 r19 r20 r21 : Int) (r22 r23 : ByteArray) (r24 : List (S54)) (r25 : List (S50)) (r26 r27 : Int) (w : World) (hG : GW w) (hr0_23 : Kd.C k54 w A0_23 l0_23.length l0_23) (hc0_23 : l0_23.length ≤ c0_23) (hr0_24 : Kd.C k50 w A0_24 l0_24.length l0_24) (hc0_24 : l0_24.length ≤ c0_24) (h : provision_Move.f k a0_0 a0_1 a0_2 a0_3 a0_4 a0_5 a0_6 a0_7 a0_8 a0_9 a0_10 a0_11 a0_12 a0_13 a0_14 a0_15 a0_16 a0_17 a0_18 a0_19 a0_20 a0_21 a0_22 l0_23 l0_24 a1 = some (r1, r2, r3, r4, r5, r6, r7, r8, r9, r10, r11, r12, r13, r14, r15, r16, r17, r18, r19, r20, r21, r22, r23, r24, r25, r26, r27)) :
  Calls Tryd.prog 16 #[.agg #[.int .i64 a0_0, .int .i64 a0_1, .int .i64 a0_2, .int .i64 a0_3, .int .i64 a0_4, .int .i64 a0_5, .int .i64 a0_6, .int .i64 a0_7, .int .i64 a0_8, .int .i64 a0_9, .int .i64 a0_10, .int .i64 a0_11, .int .i64 a0_12, .int .i64 a0_13, .int .i64 a0_14, .int .i64 a0_15, .int .i64 a0_16, .int .i64 a0_17, .int .i64 a0_18, .int .i64 a0_19, .int .i64 a0_20, .string a0_21, .string a0_22, .slice A0_23 l0_23.length c0_23, .slice A0_24 l0_24.length c0_24], .int .i64 a1] w fun e w' => ∃ v23_ v24_ : Value, e = .returned (.tuple #[.agg #[.int .i64 r1, .int .i64 r2, .int .i64 r3, .int .i64 r4, .int .i64 r5, .int .i64 r6, .int .i64 r7, .int .i64 r8, .int .i64 r9, .int .i64 r10, .int .i64 r11, .int .i64 r12, .int .i64 r13, .int .i64 r14, .int .i64 r15, .int .i64 r16, .int .i64 r17, .int .i64 r18, .int .i64 r19, .int .i64 r20, .int .i64 r21, .string r22, .string r23, v23_, v24_], .int .i64 r26, .int .i64 r27]) ∧ Kd.R k54 54 w' w.heap.size (fun _ => True) v23_ r24 ∧ Kd.R k50 50 w' w.heap.size (fun _ => True) v24_ r25 ∧ Below w.heap.size w w' := by
 have hu27 := Tryd.underlying27
 have HR0_23 := Aside0.mk hr0_23
 have HC0_23 := Aside0.mk hc0_23
 clear hr0_23 hc0_23
 have HR0_24 := Aside0.mk hr0_24
 have HC0_24 := Aside0.mk hc0_24
 clear hr0_24 hc0_24
 have HB := Aside0.mk (Below.refl w.heap.size w)
 have H : (if a0_8 < 0 then (provision_Move.j0 k a1 true a0_0 a0_1 a0_2 a0_3 a0_4 a0_5 a0_6 a0_7 a0_8 a0_9 a0_10 a0_11 a0_12 a0_13 a0_14 a0_15 a0_16 a0_17 a0_18 a0_19 a0_20 a0_21 a0_22 l0_23 l0_24) else ((money_Valid.f a0_8).bind fun t208 => (provision_Move.j0 k a1 (!t208) a0_0 a0_1 a0_2 a0_3 a0_4 a0_5 a0_6 a0_7 a0_8 a0_9 a0_10 a0_11 a0_12 a0_13 a0_14 a0_15 a0_16 a0_17 a0_18 a0_19 a0_20 a0_21 a0_22 l0_23 l0_24))) = some (r1, r2, r3, r4, r5, r6, r7, r8, r9, r10, r11, r12, r13, r14, r15, r16, r17, r18, r19, r20, r21, r22, r23, r24, r25, r26, r27) := h
 clear h
 have HC3 := Aside0.mk H
 clear H
 go_enter Tryd.func16, Tryd.ntmps16
 go_upto_region 1 with (first | ((with_reducible refine gate_load_ (t := 27) rfl ?_); refine ld_ (t := 27) Tryd.underlying27 rfl rfl rfl (by (repeat (first | (with_reducible first | refine blk_drewN ?_ _ | refine blk_drew ?_ | refine blk_alloc ?_ _) | refine blk_far ?_ NB206_207.out _ | refine blk_far ?_ NB207_206.out _ | refine blk_set ?_ _ _)); (with_reducible first | exact BK206.out | exact BK207.out)) rfl (by kernel_rfl) ?_) | ((with_reducible refine gate_dst (N := 2) rfl ?_); refine be_ (N := 2) (cs := #[.int .i64 a0_0, .int .i64 a0_1, .int .i64 a0_2, .int .i64 a0_3, .int .i64 a0_4, .int .i64 a0_5, .int .i64 a0_6, .int .i64 a0_7, .int .i64 a0_8, .int .i64 a0_9, .int .i64 a0_10, .int .i64 a0_11, .int .i64 a0_12, .int .i64 a0_13, .int .i64 a0_14, .int .i64 a0_15, .int .i64 a0_16, .int .i64 a0_17, .int .i64 a0_18, .int .i64 a0_19, .int .i64 a0_20, .string a0_21, .string a0_22, .slice A0_23 l0_23.length c0_23, .slice A0_24 l0_24.length c0_24]) (t := 27) ?_; intro gb206 hg w4 hbox hb; have n0_ := Aside0.mk (below_step (qb_ HB.out) hb); have n1_ := Aside0.mk (hbox); have n2_ := Aside0.mk (bz_ hg (qb_ HB.out) : w.heap.size ≤ gb206); have n3_ := n2_; clear HB; have HB := n0_; have BK206 := n1_; have GW206 := n2_; have GE206 := n3_; clear n0_ n1_ n2_ n3_; clear hb hbox hg) | ((with_reducible refine gate_dst (N := 4) rfl ?_); refine be_ (N := 4) (cs := #[.int .i64 0, .int .i64 0, .int .i64 0, .int .i64 0, .int .i64 0, .int .i64 0, .int .i64 0, .int .i64 0, .int .i64 0, .int .i64 0, .int .i64 0, .int .i64 0, .int .i64 0, .int .i64 0, .int .i64 0, .int .i64 0, .int .i64 0, .int .i64 0, .int .i64 0, .int .i64 0, .int .i64 0, .string (⟨#[]⟩ : ByteArray), .string (⟨#[]⟩ : ByteArray), .slice none 0 0, .slice none 0 0]) (t := 27) ?_; intro gb207 hg w5 hbox hb; have n0_ := Aside0.mk (blk_below (qk_ BK206.out) hb); have n1_ := Aside0.mk (below_step (qb1_ GE206.out HB.out) hb); have n2_ := Aside0.mk (hbox); have n3_ := Aside0.mk (bz_ hg (qb1_ GE206.out HB.out) : w.heap.size ≤ gb207); have n4_ := n3_; have n5_ := Aside0.mk (nl_ hg (qk_ BK206.out) : gb206 ≠ gb207); have n6_ := Aside0.mk (ng_ hg (qk_ BK206.out) : gb207 ≠ gb206); clear BK206; clear HB; have BK206 := n0_; have HB := n1_; have BK207 := n2_; have GW207 := n3_; have GE207 := n4_; have NB206_207 := n5_; have NB207_206 := n6_; clear n0_ n1_ n2_ n3_ n4_ n5_ n6_; clear hb hbox hg))
 (try simp only [Act.put, List.setIfInBounds_toArray, List.set_cons_zero, List.set_cons_succ])
 go_cut [18] (fun v18 wc => ∃ (kq : Nat) (x18_2 : Bool), v18 = .bool x18_2 ∧ Aside0 (provision_Move.j0 kq a1 x18_2 a0_0 a0_1 a0_2 a0_3 a0_4 a0_5 a0_6 a0_7 a0_8 a0_9 a0_10 a0_11 a0_12 a0_13 a0_14 a0_15 a0_16 a0_17 a0_18 a0_19 a0_20 a0_21 a0_22 l0_23 l0_24 = some (r1, r2, r3, r4, r5, r6, r7, r8, r9, r10, r11, r12, r13, r14, r15, r16, r17, r18, r19, r20, r21, r22, r23, r24, r25, r26, r27)) ∧ Aside0 (kq ≤ k) ∧ Aside0 (wc.heap[gb206]? = some (.cells #[.int .i64 a0_0, .int .i64 a0_1, .int .i64 a0_2, .int .i64 a0_3, .int .i64 a0_4, .int .i64 a0_5, .int .i64 a0_6, .int .i64 a0_7, .int .i64 a0_8, .int .i64 a0_9, .int .i64 a0_10, .int .i64 a0_11, .int .i64 a0_12, .int .i64 a0_13, .int .i64 a0_14, .int .i64 a0_15, .int .i64 a0_16, .int .i64 a0_17, .int .i64 a0_18, .int .i64 a0_19, .int .i64 a0_20, .string a0_21, .string a0_22, (.slice A0_23 l0_23.length c0_23), (.slice A0_24 l0_24.length c0_24)] 27 (0, 0))) ∧ Aside0 (wc.heap[gb207]? = some (.cells #[.int .i64 0, .int .i64 0, .int .i64 0, .int .i64 0, .int .i64 0, .int .i64 0, .int .i64 0, .int .i64 0, .int .i64 0, .int .i64 0, .int .i64 0, .int .i64 0, .int .i64 0, .int .i64 0, .int .i64 0, .int .i64 0, .int .i64 0, .int .i64 0, .int .i64 0, .int .i64 0, .int .i64 0, .string (⟨#[]⟩ : ByteArray), .string (⟨#[]⟩ : ByteArray), (.slice none 0 0), (.slice none 0 0)] 27 (0, 0))) ∧ Aside0 (Below w.heap.size w wc))
 case first =>
  have H := HC3.out
  clear HC3
  by_cases c6 : a0_8 < 0
  ·rw [if_pos c6] at H
   have c6b0 : decide (a0_8 < 0) = true := decide_eq_true c6
   clear c6
   (first | rw [c6b0] | (simp only [i64_w, i32_w]; rw [c6b0]) | skip)
   have H' := Aside0.mk H
   clear H
   have hnb7 := NB206_207.out
   have hnc7 := NB207_206.out
   obtain ⟨Z8_0, Z8_1, Z8_2, Z8_3, Z8_4, Z8_5, Z8_6, Z8_7, Z8_8, Z8_9, Z8_10, Z8_11, Z8_12, Z8_13, Z8_14, Z8_15, Z8_16, Z8_17, Z8_18, Z8_19, Z8_20, Z8_21, Z8_22, Z8_23, Z8_24, Y8_0, Y8_1, Y8_2, Y8_3, Y8_4, Y8_5, Y8_6, Y8_7, Y8_8, Y8_9, Y8_10, Y8_11, Y8_12, Y8_13, Y8_14, Y8_15, Y8_16, Y8_17, Y8_18, Y8_19, Y8_20, Y8_21, Y8_22, Y8_23, Y8_24⟩ := cz25_ BK206.out
   go_wp2
   go_meet
   case rel => exact ⟨_, (true), qs_, H', ⟨qo_⟩, ⟨qk_ BK206.out⟩, ⟨qk_ BK207.out⟩, ⟨qb2_ GE206.out GE207.out HB.out⟩⟩
  ·rw [if_neg c6] at H
   have c6b0 : decide (a0_8 < 0) = false := decide_eq_false c6
   clear c6
   (first | rw [c6b0] | (simp only [i64_w, i32_w]; rw [c6b0]) | skip)
   replace H := Option.bind_eq_some_iff.mp H
   obtain ⟨t208, A90, H⟩ := H
   replace H : (provision_Move.j0 k a1 (!t208) a0_0 a0_1 a0_2 a0_3 a0_4 a0_5 a0_6 a0_7 a0_8 a0_9 a0_10 a0_11 a0_12 a0_13 a0_14 a0_15 a0_16 a0_17 a0_18 a0_19 a0_20 a0_21 a0_22 l0_23 l0_24) = some (r1, r2, r3, r4, r5, r6, r7, r8, r9, r10, r11, r12, r13, r14, r15, r16, r17, r18, r19, r20, r21, r22, r23, r24, r25, r26, r27) := H
   have A9 := Aside0.mk A90
   clear A90
   have H' := Aside0.mk H
   clear H
   have hnb10 := NB206_207.out
   have hnc10 := NB207_206.out
   obtain ⟨Z11_0, Z11_1, Z11_2, Z11_3, Z11_4, Z11_5, Z11_6, Z11_7, Z11_8, Z11_9, Z11_10, Z11_11, Z11_12, Z11_13, Z11_14, Z11_15, Z11_16, Z11_17, Z11_18, Z11_19, Z11_20, Z11_21, Z11_22, Z11_23, Z11_24, Y11_0, Y11_1, Y11_2, Y11_3, Y11_4, Y11_5, Y11_6, Y11_7, Y11_8, Y11_9, Y11_10, Y11_11, Y11_12, Y11_13, Y11_14, Y11_15, Y11_16, Y11_17, Y11_18, Y11_19, Y11_20, Y11_21, Y11_22, Y11_23, Y11_24⟩ := cz25_ BK206.out
   go_wp2_with (first | ((with_reducible refine gate_load_ (t := 27) rfl ?_); refine ld_ (t := 27) Tryd.underlying27 rfl rfl rfl (by (repeat (first | (with_reducible first | refine blk_drewN ?_ _ | refine blk_drew ?_ | refine blk_alloc ?_ _) | refine blk_far ?_ NB206_207.out _ | refine blk_far ?_ NB207_206.out _ | refine blk_set ?_ _ _)); (with_reducible first | exact BK206.out | exact BK207.out)) rfl (by kernel_rfl) ?_) | (go_at_call 32; (with_reducible refine (money_Valid.calls a0_8 t208 _ A9.out).mono ?_); rintro e w' ⟨rfl, ⟨nd, rfl⟩⟩))
   go_meet
   case rel => exact ⟨_, (!t208), qs_, H', ⟨qo_⟩, ⟨qk_ BK206.out⟩, ⟨qk_ BK207.out⟩, ⟨qb2_ GE206.out GE207.out HB.out⟩⟩
 case rest =>
  clear HC3
  try clear c1
  try clear p2
  try clear c6
  try clear c6b0
  try clear c7
  try clear c10
  (try clear Z11_0 Z11_1 Z11_10 Z11_11 Z11_12 Z11_13 Z11_14 Z11_15 Z11_16 Z11_17 Z11_18 Z11_19 Z11_2 Z11_20 Z11_21 Z11_22 Z11_23 Z11_24 Z11_3 Z11_4 Z11_5 Z11_6 Z11_7 Z11_8 Z11_9 Y11_0 Y11_1 Y11_10 Y11_11 Y11_12 Y11_13 Y11_14 Y11_15 Y11_16 Y11_17 Y11_18 Y11_19 Y11_2 Y11_20 Y11_21 Y11_22 Y11_23 Y11_24 Y11_3 Y11_4 Y11_5 Y11_6 Y11_7 Y11_8 Y11_9)
  (try clear Z8_0 Z8_1 Z8_10 Z8_11 Z8_12 Z8_13 Z8_14 Z8_15 Z8_16 Z8_17 Z8_18 Z8_19 Z8_2 Z8_20 Z8_21 Z8_22 Z8_23 Z8_24 Z8_3 Z8_4 Z8_5 Z8_6 Z8_7 Z8_8 Z8_9 Y8_0 Y8_1 Y8_10 Y8_11 Y8_12 Y8_13 Y8_14 Y8_15 Y8_16 Y8_17 Y8_18 Y8_19 Y8_2 Y8_20 Y8_21 Y8_22 Y8_23 Y8_24 Y8_3 Y8_4 Y8_5 Y8_6 Y8_7 Y8_8 Y8_9)
  obtain ⟨kq, x18_2, rfl, HA, HJ2, BK206, BK207, HB⟩ := hcut
  cases kq with
  | zero => exact absurd HA.out (by simp [provision_Move.j0])
  | succ kj2 =>
   have H := HA.out
   clear HA
   simp only [provision_Move.j0] at H
   by_cases c12 : x18_2 = true
   ·subst c12
    have H1 : (some (0, 0, 0, 0, 0, 0, 0, 0, 0, 0, 0, 0, 0, 0, 0, 0, 0, 0, 0, 0, 0, (⟨#[]⟩ : ByteArray), (⟨#[]⟩ : ByteArray), ([] : List (S54)), ([] : List (S50)), 0, 1)) = some (r1, r2, r3, r4, r5, r6, r7, r8, r9, r10, r11, r12, r13, r14, r15, r16, r17, r18, r19, r20, r21, r22, r23, r24, r25, r26, r27) := by rw [if_pos rfl] at H; exact H
    clear H
    have H := H1
    clear H1
    simp only [Option.some.injEq, Prod.mk.injEq] at H
    obtain ⟨rfl, rfl, rfl, rfl, rfl, rfl, rfl, rfl, rfl, rfl, rfl, rfl, rfl, rfl, rfl, rfl, rfl, rfl, rfl, rfl, rfl, rfl, rfl, rfl, rfl, rfl, rfl⟩ := H
    have hnb13 := NB207_206.out
    have hnc13 := NB206_207.out
    obtain ⟨Z14_0, Z14_1, Z14_2, Z14_3, Z14_4, Z14_5, Z14_6, Z14_7, Z14_8, Z14_9, Z14_10, Z14_11, Z14_12, Z14_13, Z14_14, Z14_15, Z14_16, Z14_17, Z14_18, Z14_19, Z14_20, Z14_21, Z14_22, Z14_23, Z14_24, Y14_0, Y14_1, Y14_2, Y14_3, Y14_4, Y14_5, Y14_6, Y14_7, Y14_8, Y14_9, Y14_10, Y14_11, Y14_12, Y14_13, Y14_14, Y14_15, Y14_16, Y14_17, Y14_18, Y14_19, Y14_20, Y14_21, Y14_22, Y14_23, Y14_24⟩ := cz25_ BK207.out
    go_wp2_with (first | ((with_reducible refine gate_load_ (t := 27) rfl ?_); refine ld_ (t := 27) Tryd.underlying27 rfl rfl rfl (by (repeat (first | (with_reducible first | refine blk_drewN ?_ _ | refine blk_drew ?_ | refine blk_alloc ?_ _) | refine blk_far ?_ NB206_207.out _ | refine blk_far ?_ NB207_206.out _ | refine blk_set ?_ _ _)); (with_reducible first | exact BK206.out | exact BK207.out)) rfl (by kernel_rfl) ?_) | ((with_reducible refine gate_store (t := 27) (p := 4) rfl ?_); refine st24_ #[.int .i64 0, .int .i64 0, .int .i64 0, .int .i64 0, .int .i64 0, .int .i64 0, .int .i64 0, .int .i64 0, .int .i64 0, .int .i64 0, .int .i64 0, .int .i64 0, .int .i64 0, .int .i64 0, .int .i64 0, .int .i64 0, .int .i64 0, .int .i64 0, .int .i64 0, .int .i64 0, .int .i64 0, .string (⟨#[]⟩ : ByteArray), .string (⟨#[]⟩ : ByteArray), .slice none 0 0, .slice none 0 0] rfl rfl rfl rfl rfl (by (repeat (first | (with_reducible first | refine blk_drewN ?_ _ | refine blk_drew ?_ | refine blk_alloc ?_ _) | refine blk_far ?_ NB207_206.out _)); (with_reducible exact BK207.out)) (by kernel_rfl) (by rfl) rfl ?_; intro w_ hnew_ hoth_ hbel_))
    refine bodyPost_ret (results_ctt rfl _ _ gb207 27 #[.int .i64 0, .int .i64 0, .int .i64 0, .int .i64 0, .int .i64 0, .int .i64 0, .int .i64 0, .int .i64 0, .int .i64 0, .int .i64 0, .int .i64 0, .int .i64 0, .int .i64 0, .int .i64 0, .int .i64 0, .int .i64 0, .int .i64 0, .int .i64 0, .int .i64 0, .int .i64 0, .int .i64 0, .string (⟨#[]⟩ : ByteArray), .string (⟨#[]⟩ : ByteArray), .slice none 0 0, .slice none 0 0] (0, 0) _ rfl hnew_ Tryd.underlying27 rfl (by kernel_rfl)) rfl ?_
    exact ⟨_, _, rfl, Kd.R_nil _ _ _ _ _, Kd.R_nil _ _ _ _ _, hbel_ _ _ (qb2_ GE206.out GE207.out HB.out) GE207.out⟩
   ·replace c12 := Bool.eq_false_iff.mpr c12
    subst c12
    have H1 : ((provision_Expected.f kj2 a0_0 a0_1 a0_2 a0_3 a0_4 a0_5 a0_6 a0_7 a0_8 a0_9 a0_10 a0_11 a0_12 a0_13 a0_14 a0_15 a0_16 a0_17 a0_18 a0_19 a0_20 a0_21 a0_22 l0_23 l0_24 a1).bind fun bt209 => (if bt209.2 = 0 then ((api_Due.f l0_23).bind fun t211 => ((api_Change.f l0_24).bind fun t214 => (some (a0_0, a0_1, a0_2, a0_3, a0_4, a0_5, a0_6, a0_7, bt209.1, a0_9, a0_10, a0_11, a0_12, a0_13, a0_14, a0_15, a0_16, a0_17, a0_18, a0_19, a0_20, a0_21, a0_22, t211, t214, wrap64 (bt209.1 - a0_8), 0)))) else (some (0, 0, 0, 0, 0, 0, 0, 0, 0, 0, 0, 0, 0, 0, 0, 0, 0, 0, 0, 0, 0, (⟨#[]⟩ : ByteArray), (⟨#[]⟩ : ByteArray), ([] : List (S54)), ([] : List (S50)), 0, bt209.2)))) = some (r1, r2, r3, r4, r5, r6, r7, r8, r9, r10, r11, r12, r13, r14, r15, r16, r17, r18, r19, r20, r21, r22, r23, r24, r25, r26, r27) := by rw [if_neg (show ¬ (false = true) by decide)] at H; exact H
    clear H
    have H := H1
    clear H1
    replace H := Option.bind_eq_some_iff.mp H
    obtain ⟨⟨t209, t210⟩, A150, H⟩ := H
    replace H : (if t210 = 0 then ((api_Due.f l0_23).bind fun t211 => ((api_Change.f l0_24).bind fun t214 => (some (a0_0, a0_1, a0_2, a0_3, a0_4, a0_5, a0_6, a0_7, t209, a0_9, a0_10, a0_11, a0_12, a0_13, a0_14, a0_15, a0_16, a0_17, a0_18, a0_19, a0_20, a0_21, a0_22, t211, t214, wrap64 (t209 - a0_8), 0)))) else (some (0, 0, 0, 0, 0, 0, 0, 0, 0, 0, 0, 0, 0, 0, 0, 0, 0, 0, 0, 0, 0, (⟨#[]⟩ : ByteArray), (⟨#[]⟩ : ByteArray), ([] : List (S54)), ([] : List (S50)), 0, t210))) = some (r1, r2, r3, r4, r5, r6, r7, r8, r9, r10, r11, r12, r13, r14, r15, r16, r17, r18, r19, r20, r21, r22, r23, r24, r25, r26, r27) := H
    have A15 := Aside0.mk A150
    clear A150
    by_cases c16 : t210 = 0
    ·rw [if_pos c16] at H
     have c16b0 : (t210 == 0) = true := beq_iff_eq.mpr c16
     have c16b1 : (t210 != 0) = false := bne_eq_false_iff_eq.mpr c16
     clear c16
     replace H := Option.bind_eq_some_iff.mp H
     obtain ⟨t211, A170, H⟩ := H
     replace H : ((api_Change.f l0_24).bind fun t214 => (some (a0_0, a0_1, a0_2, a0_3, a0_4, a0_5, a0_6, a0_7, t209, a0_9, a0_10, a0_11, a0_12, a0_13, a0_14, a0_15, a0_16, a0_17, a0_18, a0_19, a0_20, a0_21, a0_22, t211, t214, wrap64 (t209 - a0_8), 0))) = some (r1, r2, r3, r4, r5, r6, r7, r8, r9, r10, r11, r12, r13, r14, r15, r16, r17, r18, r19, r20, r21, r22, r23, r24, r25, r26, r27) := H
     have A17 := Aside0.mk A170
     clear A170
     replace H := Option.bind_eq_some_iff.mp H
     obtain ⟨t214, A180, H⟩ := H
     replace H : (some (a0_0, a0_1, a0_2, a0_3, a0_4, a0_5, a0_6, a0_7, t209, a0_9, a0_10, a0_11, a0_12, a0_13, a0_14, a0_15, a0_16, a0_17, a0_18, a0_19, a0_20, a0_21, a0_22, t211, t214, wrap64 (t209 - a0_8), 0)) = some (r1, r2, r3, r4, r5, r6, r7, r8, r9, r10, r11, r12, r13, r14, r15, r16, r17, r18, r19, r20, r21, r22, r23, r24, r25, r26, r27) := H
     have A18 := Aside0.mk A180
     clear A180
     simp only [Option.some.injEq, Prod.mk.injEq] at H
     obtain ⟨rfl, rfl, rfl, rfl, rfl, rfl, rfl, rfl, rfl, rfl, rfl, rfl, rfl, rfl, rfl, rfl, rfl, rfl, rfl, rfl, rfl, rfl, rfl, rfl, rfl, rfl, rfl⟩ := H
     have hnb19 := NB206_207.out
     have hnc19 := NB207_206.out
     obtain ⟨Z20_0, Z20_1, Z20_2, Z20_3, Z20_4, Z20_5, Z20_6, Z20_7, Z20_8, Z20_9, Z20_10, Z20_11, Z20_12, Z20_13, Z20_14, Z20_15, Z20_16, Z20_17, Z20_18, Z20_19, Z20_20, Z20_21, Z20_22, Z20_23, Z20_24, Y20_0, Y20_1, Y20_2, Y20_3, Y20_4, Y20_5, Y20_6, Y20_7, Y20_8, Y20_9, Y20_10, Y20_11, Y20_12, Y20_13, Y20_14, Y20_15, Y20_16, Y20_17, Y20_18, Y20_19, Y20_20, Y20_21, Y20_22, Y20_23, Y20_24⟩ := cz25_ BK206.out
     try go_wp2_with (first | ((with_reducible refine gate_load_ (t := 27) rfl ?_); refine ld_ (t := 27) Tryd.underlying27 rfl rfl rfl (by (repeat (first | (with_reducible first | refine blk_drewN ?_ _ | refine blk_drew ?_ | refine blk_alloc ?_ _) | refine blk_far ?_ NB206_207.out _ | refine blk_far ?_ NB207_206.out _ | refine blk_set ?_ _ _)); (with_reducible first | exact BK206.out | exact BK207.out)) rfl (by kernel_rfl) ?_) | ((with_reducible refine gate_callee (f := 14) rfl ?_); refine goesL_ (some 23) rfl rfl Tryd.func14 (by kernel_rfl) rfl #[.agg #[.int .i64 a0_0, .int .i64 a0_1, .int .i64 a0_2, .int .i64 a0_3, .int .i64 a0_4, .int .i64 a0_5, .int .i64 a0_6, .int .i64 a0_7, .int .i64 a0_8, .int .i64 a0_9, .int .i64 a0_10, .int .i64 a0_11, .int .i64 a0_12, .int .i64 a0_13, .int .i64 a0_14, .int .i64 a0_15, .int .i64 a0_16, .int .i64 a0_17, .int .i64 a0_18, .int .i64 a0_19, .int .i64 a0_20, .string a0_21, .string a0_22, .slice A0_23 l0_23.length c0_23, .slice A0_24 l0_24.length c0_24], .int .i64 a1] rfl ql_ ?_; (with_reducible refine (provision_Expected.calls (hG := by first | exact hG | (with_reducible exact GW.below hG (qb2_ GE206.out GE207.out HB.out)) | (with_reducible repeat (first | exact hG | apply GW.drewN | apply GW.drew))) kj2 a0_0 a0_1 a0_2 a0_3 a0_4 a0_5 a0_6 a0_7 a0_8 a0_9 a0_10 a0_11 a0_12 a0_13 a0_14 a0_15 a0_16 a0_17 a0_18 a0_19 a0_20 a0_21 a0_22 _ _ l0_23 _ _ l0_24 a1 t209 t210 _ ?side1 ?side2 ?side3 ?side4 A15.out).mono ?_); (case side1 => repeat (first | exact (Kd.C_below HR0_23.out HB.out) | (with_reducible refine Kd.C_alloc ?_ _) | (with_reducible refine Kd.C_drewN ?_ _) | (with_reducible refine Kd.C_drew ?_))); (case side2 => exact HC0_23.out); (case side3 => repeat (first | exact (Kd.C_below HR0_24.out HB.out) | (with_reducible refine Kd.C_alloc ?_ _) | (with_reducible refine Kd.C_drewN ?_ _) | (with_reducible refine Kd.C_drew ?_))); (case side4 => exact HC0_24.out); rintro e w21 ⟨rfl, hb⟩; refine ⟨_, rfl, ?_⟩; have n0_ := Aside0.mk (blk_below (qk_ BK206.out) hb); have n1_ := Aside0.mk (blk_below (qk_ BK207.out) hb); have n2_ := Aside0.mk (below_step (qb2_ GE206.out GE207.out HB.out) hb); clear BK206; clear BK207; clear HB; have BK206 := n0_; have BK207 := n1_; have HB := n2_; clear n0_ n1_ n2_; (try clear hb); (try clear hb2); (try clear hk); (try clear hi); obtain ⟨Z22_0, Z22_1, Z22_2, Z22_3, Z22_4, Z22_5, Z22_6, Z22_7, Z22_8, Z22_9, Z22_10, Z22_11, Z22_12, Z22_13, Z22_14, Z22_15, Z22_16, Z22_17, Z22_18, Z22_19, Z22_20, Z22_21, Z22_22, Z22_23, Z22_24, Y22_0, Y22_1, Y22_2, Y22_3, Y22_4, Y22_5, Y22_6, Y22_7, Y22_8, Y22_9, Y22_10, Y22_11, Y22_12, Y22_13, Y22_14, Y22_15, Y22_16, Y22_17, Y22_18, Y22_19, Y22_20, Y22_21, Y22_22, Y22_23, Y22_24⟩ := cz25_ BK206.out))
     have n0_ : Aside0 ((w21.setCell ⟨gb206, 8, none⟩ (.int .i64 t209)).heap[gb206]? = some (.cells #[.int .i64 a0_0, .int .i64 a0_1, .int .i64 a0_2, .int .i64 a0_3, .int .i64 a0_4, .int .i64 a0_5, .int .i64 a0_6, .int .i64 a0_7, .int .i64 t209, .int .i64 a0_9, .int .i64 a0_10, .int .i64 a0_11, .int .i64 a0_12, .int .i64 a0_13, .int .i64 a0_14, .int .i64 a0_15, .int .i64 a0_16, .int .i64 a0_17, .int .i64 a0_18, .int .i64 a0_19, .int .i64 a0_20, .string a0_21, .string a0_22, .slice A0_23 l0_23.length c0_23, .slice A0_24 l0_24.length c0_24] 27 (0, 0))) := ⟨by (with_reducible repeat (first | refine blk_drewN ?_ _ | refine blk_drew ?_ | refine blk_alloc ?_ _)); refine blk_put (cs := #[.int .i64 a0_0, .int .i64 a0_1, .int .i64 a0_2, .int .i64 a0_3, .int .i64 a0_4, .int .i64 a0_5, .int .i64 a0_6, .int .i64 a0_7, .int .i64 a0_8, .int .i64 a0_9, .int .i64 a0_10, .int .i64 a0_11, .int .i64 a0_12, .int .i64 a0_13, .int .i64 a0_14, .int .i64 a0_15, .int .i64 a0_16, .int .i64 a0_17, .int .i64 a0_18, .int .i64 a0_19, .int .i64 a0_20, .string a0_21, .string a0_22, .slice A0_23 l0_23.length c0_23, .slice A0_24 l0_24.length c0_24]) ?_ 8 _ rfl; (with_reducible repeat (first | refine blk_drewN ?_ _ | refine blk_drew ?_ | refine blk_alloc ?_ _)); exact BK206.out⟩
     have n1_ : Aside0 ((w21.setCell ⟨gb206, 8, none⟩ (.int .i64 t209)).heap[gb207]? = some (.cells #[.int .i64 0, .int .i64 0, .int .i64 0, .int .i64 0, .int .i64 0, .int .i64 0, .int .i64 0, .int .i64 0, .int .i64 0, .int .i64 0, .int .i64 0, .int .i64 0, .int .i64 0, .int .i64 0, .int .i64 0, .int .i64 0, .int .i64 0, .int .i64 0, .int .i64 0, .int .i64 0, .int .i64 0, .string (⟨#[]⟩ : ByteArray), .string (⟨#[]⟩ : ByteArray), .slice none 0 0, .slice none 0 0] 27 (0, 0))) := ⟨by (with_reducible repeat (first | refine blk_drewN ?_ _ | refine blk_drew ?_ | refine blk_alloc ?_ _)); refine blk_far ?_ NB207_206.out _; (with_reducible repeat (first | refine blk_drewN ?_ _ | refine blk_drew ?_ | refine blk_alloc ?_ _)); exact BK207.out⟩
     have n2_ : Aside0 (Below w.heap.size w (w21.setCell ⟨gb206, 8, none⟩ (.int .i64 t209))) := ⟨qb2_ GE206.out GE207.out HB.out⟩
     (try clear BK206)
     (try clear BK207)
     (try clear HB)
     generalize (w21.setCell ⟨gb206, 8, none⟩ (.int .i64 t209)) = w23 at n0_ n1_ n2_ ⊢
     have BK206 := n0_
     have BK207 := n1_
     have HB := n2_
     clear n0_ n1_ n2_
     have n0_ := Aside0.mk (blk_drew BK206.out)
     have n1_ := Aside0.mk (blk_drew BK207.out)
     have n2_ := Aside0.mk (below_drew1 HB.out)
     clear BK206
     clear BK207
     clear HB
     have BK206 := n0_
     have BK207 := n1_
     have HB := n2_
     clear n0_ n1_ n2_
     refine start_ (n := 10) (S := cS25_ gb206 (.int .i64 a0_0) (.int .i64 a0_1) (.int .i64 a0_2) (.int .i64 a0_3) (.int .i64 a0_4) (.int .i64 a0_5) (.int .i64 a0_6) (.int .i64 a0_7) (.int .i64 t209) (.int .i64 a0_9) (.int .i64 a0_10) (.int .i64 a0_11) (.int .i64 a0_12) (.int .i64 a0_13) (.int .i64 a0_14) (.int .i64 a0_15) (.int .i64 a0_16) (.int .i64 a0_17) (.int .i64 a0_18) (.int .i64 a0_19) (.int .i64 a0_20) (.string a0_21) (.string a0_22) (.slice A0_23 l0_23.length c0_23) (.slice A0_24 l0_24.length c0_24)) (ds := [7, 9]) (nb_ 10 0) (by kernel_rfl) rfl rfl (cc25_ BK206.out) (fun hHeld => ?_); refine with_tabW provision_Move.tab8 provision_Move.bits8 (fun HT_ HW_ => ?_)
     generalize w23.drew = w24 at BK206 BK207 HB hHeld ⊢
     refine pz_ 0 36 (nb_ 10 1) HT_.out ?_
     refine pz_ 3 39 (nb_ 10 9) HT_.out ?_
     refine take_ (i := 1) (N := some 37) (v := ?_) (a' := ?_) (nb_ 10 11) rfl rfl (take_ofW HT_.out HW_.out (by kernel_rfl)) (fun _ _ _ h => h) (Or.inl ⟨by rfl, ?_⟩) hHeld ?_ ?_
     rotate_left
     ·rintro w' hs_
      first
      | (exact ldx_ (by rfl) (by rfl) (ldS_ hs_))
      | (obtain ⟨s0, s1, s2, s3, s4, s5, s6, s7, s8, s9, s10, s11, s12, s13, s14, s15, s16, s17, s18, s19, s20, s21, s22, s23, s24⟩ := hs_; go_simp; with_reducible rfl)
     rotate_left
     ·simp only [Act.put, List.setIfInBounds_toArray, List.set_cons_zero, List.set_cons_succ, i64_w, i32_w]
      rfl
     refine take_ (i := 4) (N := some 40) (v := ?_) (a' := ?_) (nb_ 10 27) rfl rfl (take_ofW HT_.out HW_.out (by kernel_rfl)) (fun _ _ _ h => h) (Or.inl ⟨by rfl, ?_⟩) hHeld ?_ ?_
     rotate_left
     ·rintro w' hs_
      first
      | (exact ldx_ (by rfl) (by rfl) (ldS_ hs_))
      | (obtain ⟨s0, s1, s2, s3, s4, s5, s6, s7, s8, s9, s10, s11, s12, s13, s14, s15, s16, s17, s18, s19, s20, s21, s22, s23, s24⟩ := hs_; go_simp; with_reducible rfl)
     rotate_left
     ·simp only [Act.put, List.setIfInBounds_toArray, List.set_cons_zero, List.set_cons_succ, i64_w, i32_w]
      rfl
     refine on_ 2 38 (nb_ 10 31) HT_.out (fun K hK => ?_)
     refine goes_ Tryd.func33 (by kernel_rfl) rfl #[.slice A0_23 l0_23.length c0_23] (by rfl) rfl rfl ql_ ?_
     with_reducible refine (api_Due.calls _ _ l0_23 t211 _ ?side1 ?side2 A17.out).mono ?_
     (case side1 => repeat (first | exact (Kd.C_below HR0_23.out HB.out) | (with_reducible refine Kd.C_alloc ?_ _) | (with_reducible refine Kd.C_drewN ?_ _) | (with_reducible refine Kd.C_drew ?_)))
     (case side2 => exact HC0_23.out)
     rintro e w25 ⟨v212, rfl, ho0, hb⟩
     refine ⟨_, rfl, ?_⟩
     have n0_ := Aside0.mk (Kd.R_lower ho0 (below_size (qb2_ GE206.out GE207.out HB.out)))
     have n1_ := Aside0.mk (blk_below (qk_ BK206.out) hb)
     have n2_ := Aside0.mk (blk_below (qk_ BK207.out) hb)
     have n3_ := Aside0.mk (below_step (qb2_ GE206.out GE207.out HB.out) hb)
     clear BK206
     clear BK207
     clear HB
     have HO213 := n0_
     have BK206 := n1_
     have BK207 := n2_
     have HB := n3_
     clear n0_ n1_ n2_ n3_
     (try clear hb)
     (try clear hb2)
     (try clear hk)
     (try clear hi)
     (try clear ho0)
     refine hK.out _ _ (cc25_ BK206.out) (fun hHeld => ?_)
     clear hK K
     refine no_ ?_
     refine pz_ 6 42 (nb_ 10 95) HT_.out ?_
     refine on_ 5 41 (nb_ 10 127) HT_.out (fun K hK => ?_)
     refine goes_ Tryd.func34 (by kernel_rfl) rfl #[.slice A0_24 l0_24.length c0_24] (by rfl) rfl rfl ql_ ?_
     with_reducible refine (api_Change.calls _ _ l0_24 t214 _ ?side1 ?side2 A18.out).mono ?_
     (case side1 => repeat (first | exact (Kd.C_below HR0_24.out HB.out) | (with_reducible refine Kd.C_alloc ?_ _) | (with_reducible refine Kd.C_drewN ?_ _) | (with_reducible refine Kd.C_drew ?_)))
     (case side2 => exact HC0_24.out)
     rintro e w26 ⟨v215, rfl, ho0, hb⟩
     refine ⟨_, rfl, ?_⟩
     have n0_ := Aside0.mk (Kd.R_below (by (with_reducible repeat (first | apply Kd.R_alloc | apply Kd.R_drewN | apply Kd.R_drew)); exact HO213.out) hb)
     have n1_ := Aside0.mk (Kd.R_lower ho0 (below_size (qb2_ GE206.out GE207.out HB.out)))
     have n2_ := Aside0.mk (blk_below (qk_ BK206.out) hb)
     have n3_ := Aside0.mk (blk_below (qk_ BK207.out) hb)
     have n4_ := Aside0.mk (below_step (qb2_ GE206.out GE207.out HB.out) hb)
     clear HO213
     clear BK206
     clear BK207
     clear HB
     have HO213 := n0_
     have HO216 := n1_
     have BK206 := n2_
     have BK207 := n3_
     have HB := n4_
     clear n0_ n1_ n2_ n3_ n4_
     (try clear hb)
     (try clear hb2)
     (try clear hk)
     (try clear hi)
     (try clear ho0)
     obtain ⟨Ao27, co27, eo27⟩ := Kd.R_slice HO213.out
     (first | subst eo27 | (injection eo27 with f1_ f2_ f3_; have f4_ := f1_.symm; have f5_ := f3_.symm; clear f1_ f2_ f3_; subst f4_; subst f5_))
     obtain ⟨Ao29, co29, eo29⟩ := Kd.R_slice HO216.out
     (first | subst eo29 | (injection eo29 with f1_ f2_ f3_; have f4_ := f1_.symm; have f5_ := f3_.symm; clear f1_ f2_ f3_; subst f4_; subst f5_))
     refine hK.out _ _ (cc25_ BK206.out) (fun hHeld => ?_)
     clear hK K
     refine no_ ?_
     refine last_ (i := 7) (N := none) (nb_ 10 255) rfl rfl (one_of HT_.out (by kernel_rfl)) (by decide) (fun K hK => ?_)
     have hs28 : w26.cell? ⟨gb206, 23, none⟩ = some (.slice A0_23 l0_23.length c0_23) := (blk_cell BK206.out 23).trans rfl
     have hfs28 := blk_frozen BK206.out 23
     have hns28_1 := NB207_206.out
     have hms28_1 := NB206_207.out
     refine skip_ (w1 := ?_) (by rfl) rfl ?_ ?_
     rotate_left
     ·go_simp
      rfl
     refine hK.out _ _ ?_
     clear hK K
     refine pz_ 8 43 (nb_ 10 511) HT_.out ?_
     refine last_ (i := 9) (N := none) (nb_ 10 1023) rfl rfl (one_of HT_.out (by kernel_rfl)) (by decide) (fun K hK => ?_)
     have hs30 : w26.cell? ⟨gb206, 24, none⟩ = some (.slice A0_24 l0_24.length c0_24) := (blk_cell BK206.out 24).trans rfl
     have hfs30 := blk_frozen BK206.out 24
     have hns30_1 := NB207_206.out
     have hms30_1 := NB206_207.out
     refine skip_ (w1 := ?_) (by rfl) rfl ?_ ?_
     rotate_left
     ·go_simp
      rfl
     refine hK.out _ _ ?_
     clear hK K
     refine done_ (done_of HT_.out (by kernel_rfl)) ?_
     obtain ⟨Z31_0, Z31_1, Z31_2, Z31_3, Z31_4, Z31_5, Z31_6, Z31_7, Z31_8, Z31_9, Z31_10, Z31_11, Z31_12, Z31_13, Z31_14, Z31_15, Z31_16, Z31_17, Z31_18, Z31_19, Z31_20, Z31_21, Z31_22, Z31_23, Z31_24, Y31_0, Y31_1, Y31_2, Y31_3, Y31_4, Y31_5, Y31_6, Y31_7, Y31_8, Y31_9, Y31_10, Y31_11, Y31_12, Y31_13, Y31_14, Y31_15, Y31_16, Y31_17, Y31_18, Y31_19, Y31_20, Y31_21, Y31_22, Y31_23, Y31_24⟩ := cz25_ BK206.out
     obtain ⟨Z32_0, Z32_1, Z32_2, Z32_3, Z32_4, Z32_5, Z32_6, Z32_7, Z32_8, Z32_9, Z32_10, Z32_11, Z32_12, Z32_13, Z32_14, Z32_15, Z32_16, Z32_17, Z32_18, Z32_19, Z32_20, Z32_21, Z32_22, Z32_23, Z32_24, Y32_0, Y32_1, Y32_2, Y32_3, Y32_4, Y32_5, Y32_6, Y32_7, Y32_8, Y32_9, Y32_10, Y32_11, Y32_12, Y32_13, Y32_14, Y32_15, Y32_16, Y32_17, Y32_18, Y32_19, Y32_20, Y32_21, Y32_22, Y32_23, Y32_24⟩ := cz25_ BK207.out
     go_wp2_with (first | ((with_reducible refine gate_load_ (t := 27) rfl ?_); refine ld_ (t := 27) Tryd.underlying27 rfl rfl rfl (blk_set (blk_set BK206.out 23 _) 24 _) rfl (by kernel_rfl) ?_) | ((with_reducible refine gate_store (t := 27) (p := 4) rfl ?_); refine st24_ #[.int .i64 a0_0, .int .i64 a0_1, .int .i64 a0_2, .int .i64 a0_3, .int .i64 a0_4, .int .i64 a0_5, .int .i64 a0_6, .int .i64 a0_7, .int .i64 t209, .int .i64 a0_9, .int .i64 a0_10, .int .i64 a0_11, .int .i64 a0_12, .int .i64 a0_13, .int .i64 a0_14, .int .i64 a0_15, .int .i64 a0_16, .int .i64 a0_17, .int .i64 a0_18, .int .i64 a0_19, .int .i64 a0_20, .string a0_21, .string a0_22, .slice Ao27 t211.length co27, .slice Ao29 t214.length co29] rfl rfl rfl rfl rfl (blk_far (blk_far BK207.out NB207_206.out _) NB207_206.out _) (by kernel_rfl) (by rfl) rfl ?_; intro w_ hnew_ hoth_ hbel_))
     refine bodyPost_ret (results_ctt rfl _ _ gb207 27 #[.int .i64 a0_0, .int .i64 a0_1, .int .i64 a0_2, .int .i64 a0_3, .int .i64 a0_4, .int .i64 a0_5, .int .i64 a0_6, .int .i64 a0_7, .int .i64 t209, .int .i64 a0_9, .int .i64 a0_10, .int .i64 a0_11, .int .i64 a0_12, .int .i64 a0_13, .int .i64 a0_14, .int .i64 a0_15, .int .i64 a0_16, .int .i64 a0_17, .int .i64 a0_18, .int .i64 a0_19, .int .i64 a0_20, .string a0_21, .string a0_22, .slice Ao27 t211.length co27, .slice Ao29 t214.length co29] (0, 0) _ rfl hnew_ Tryd.underlying27 rfl (by kernel_rfl)) rfl ?_
     exact ⟨_, _, rfl, Kd.R_mono (Kd.R_move (Kd.R_far (p := ⟨gb206, 24, none⟩) (Kd.R_far (p := ⟨gb206, 23, none⟩) (Kd.R_types (Kd.R_types HO213.out BK206.out (by decide)) BK207.out (by decide)) (fun _ hk => hk.1.2) (.slice Ao27 t211.length co27)) (fun _ hk => hk.1.2) (.slice Ao29 t214.length co29)) (fun k hk => hoth_ k hk.2)) (fun _ _ => trivial), Kd.R_mono (Kd.R_move (Kd.R_far (p := ⟨gb206, 24, none⟩) (Kd.R_far (p := ⟨gb206, 23, none⟩) (Kd.R_types (Kd.R_types HO216.out BK206.out (by decide)) BK207.out (by decide)) (fun _ hk => hk.1.2) (.slice Ao27 t211.length co27)) (fun _ hk => hk.1.2) (.slice Ao29 t214.length co29)) (fun k hk => hoth_ k hk.2)) (fun _ _ => trivial), hbel_ _ _ (qb2_ GE206.out GE207.out HB.out) GE207.out⟩
    ·rw [if_neg c16] at H
     have c16b0 : (t210 == 0) = false := beq_eq_false_iff_ne.mpr c16
     have c16b1 : (t210 != 0) = true := bne_iff_ne.mpr c16
     simp only [Option.some.injEq, Prod.mk.injEq] at H
     obtain ⟨rfl, rfl, rfl, rfl, rfl, rfl, rfl, rfl, rfl, rfl, rfl, rfl, rfl, rfl, rfl, rfl, rfl, rfl, rfl, rfl, rfl, rfl, rfl, rfl, rfl, rfl, rfl⟩ := H
     have hnb33 := NB206_207.out
     have hnc33 := NB207_206.out
     obtain ⟨Z34_0, Z34_1, Z34_2, Z34_3, Z34_4, Z34_5, Z34_6, Z34_7, Z34_8, Z34_9, Z34_10, Z34_11, Z34_12, Z34_13, Z34_14, Z34_15, Z34_16, Z34_17, Z34_18, Z34_19, Z34_20, Z34_21, Z34_22, Z34_23, Z34_24, Y34_0, Y34_1, Y34_2, Y34_3, Y34_4, Y34_5, Y34_6, Y34_7, Y34_8, Y34_9, Y34_10, Y34_11, Y34_12, Y34_13, Y34_14, Y34_15, Y34_16, Y34_17, Y34_18, Y34_19, Y34_20, Y34_21, Y34_22, Y34_23, Y34_24⟩ := cz25_ BK206.out
     go_wp2_with (first | ((with_reducible refine gate_store (t := 27) (p := 4) rfl ?_); refine st24_ #[.int .i64 0, .int .i64 0, .int .i64 0, .int .i64 0, .int .i64 0, .int .i64 0, .int .i64 0, .int .i64 0, .int .i64 0, .int .i64 0, .int .i64 0, .int .i64 0, .int .i64 0, .int .i64 0, .int .i64 0, .int .i64 0, .int .i64 0, .int .i64 0, .int .i64 0, .int .i64 0, .int .i64 0, .string (⟨#[]⟩ : ByteArray), .string (⟨#[]⟩ : ByteArray), .slice none 0 0, .slice none 0 0] rfl rfl rfl rfl rfl (by (repeat (first | (with_reducible first | refine blk_drewN ?_ _ | refine blk_drew ?_ | refine blk_alloc ?_ _) | refine blk_far ?_ NB207_206.out _)); (with_reducible exact BK207.out)) (by kernel_rfl) (by rfl) rfl ?_; intro w_ hnew_ hoth_ hbel_) | ((with_reducible refine gate_load_ (t := 27) rfl ?_); refine ld_ (t := 27) Tryd.underlying27 rfl rfl rfl (by (repeat (first | (with_reducible first | refine blk_drewN ?_ _ | refine blk_drew ?_ | refine blk_alloc ?_ _) | refine blk_far ?_ NB206_207.out _ | refine blk_far ?_ NB207_206.out _ | refine blk_set ?_ _ _)); (with_reducible first | exact BK206.out | exact BK207.out)) rfl (by kernel_rfl) ?_) | ((with_reducible refine gate_callee (f := 14) rfl ?_); refine goesL_ (some 23) rfl rfl Tryd.func14 (by kernel_rfl) rfl #[.agg #[.int .i64 a0_0, .int .i64 a0_1, .int .i64 a0_2, .int .i64 a0_3, .int .i64 a0_4, .int .i64 a0_5, .int .i64 a0_6, .int .i64 a0_7, .int .i64 a0_8, .int .i64 a0_9, .int .i64 a0_10, .int .i64 a0_11, .int .i64 a0_12, .int .i64 a0_13, .int .i64 a0_14, .int .i64 a0_15, .int .i64 a0_16, .int .i64 a0_17, .int .i64 a0_18, .int .i64 a0_19, .int .i64 a0_20, .string a0_21, .string a0_22, .slice A0_23 l0_23.length c0_23, .slice A0_24 l0_24.length c0_24], .int .i64 a1] rfl ql_ ?_; (with_reducible refine (provision_Expected.calls (hG := by first | exact hG | (with_reducible exact GW.below hG (qb2_ GE206.out GE207.out HB.out)) | (with_reducible repeat (first | exact hG | apply GW.drewN | apply GW.drew))) kj2 a0_0 a0_1 a0_2 a0_3 a0_4 a0_5 a0_6 a0_7 a0_8 a0_9 a0_10 a0_11 a0_12 a0_13 a0_14 a0_15 a0_16 a0_17 a0_18 a0_19 a0_20 a0_21 a0_22 _ _ l0_23 _ _ l0_24 a1 t209 t210 _ ?side1 ?side2 ?side3 ?side4 A15.out).mono ?_); (case side1 => repeat (first | exact (Kd.C_below HR0_23.out HB.out) | (with_reducible refine Kd.C_alloc ?_ _) | (with_reducible refine Kd.C_drewN ?_ _) | (with_reducible refine Kd.C_drew ?_))); (case side2 => exact HC0_23.out); (case side3 => repeat (first | exact (Kd.C_below HR0_24.out HB.out) | (with_reducible refine Kd.C_alloc ?_ _) | (with_reducible refine Kd.C_drewN ?_ _) | (with_reducible refine Kd.C_drew ?_))); (case side4 => exact HC0_24.out); rintro e w35 ⟨rfl, hb⟩; refine ⟨_, rfl, ?_⟩; have n0_ := Aside0.mk (blk_below (qk_ BK206.out) hb); have n1_ := Aside0.mk (blk_below (qk_ BK207.out) hb); have n2_ := Aside0.mk (below_step (qb2_ GE206.out GE207.out HB.out) hb); clear BK206; clear BK207; clear HB; have BK206 := n0_; have BK207 := n1_; have HB := n2_; clear n0_ n1_ n2_; (try clear hb); (try clear hb2); (try clear hk); (try clear hi); obtain ⟨Z36_0, Z36_1, Z36_2, Z36_3, Z36_4, Z36_5, Z36_6, Z36_7, Z36_8, Z36_9, Z36_10, Z36_11, Z36_12, Z36_13, Z36_14, Z36_15, Z36_16, Z36_17, Z36_18, Z36_19, Z36_20, Z36_21, Z36_22, Z36_23, Z36_24, Y36_0, Y36_1, Y36_2, Y36_3, Y36_4, Y36_5, Y36_6, Y36_7, Y36_8, Y36_9, Y36_10, Y36_11, Y36_12, Y36_13, Y36_14, Y36_15, Y36_16, Y36_17, Y36_18, Y36_19, Y36_20, Y36_21, Y36_22, Y36_23, Y36_24⟩ := cz25_ BK207.out))
     refine bodyPost_ret (results_ctt rfl _ _ gb207 27 #[.int .i64 0, .int .i64 0, .int .i64 0, .int .i64 0, .int .i64 0, .int .i64 0, .int .i64 0, .int .i64 0, .int .i64 0, .int .i64 0, .int .i64 0, .int .i64 0, .int .i64 0, .int .i64 0, .int .i64 0, .int .i64 0, .int .i64 0, .int .i64 0, .int .i64 0, .int .i64 0, .int .i64 0, .string (⟨#[]⟩ : ByteArray), .string (⟨#[]⟩ : ByteArray), .slice none 0 0, .slice none 0 0] (0, 0) _ rfl hnew_ Tryd.underlying27 rfl (by kernel_rfl)) rfl ?_
     exact ⟨_, _, rfl, Kd.R_nil _ _ _ _ _, Kd.R_nil _ _ _ _ _, hbel_ _ _ (qb2_ GE206.out GE207.out HB.out) GE207.out⟩
theorem ldC25_ {P : Program} {w : World} {a : Addr} {t : TypeId} {d : TypeDesc} (cs : List Value) (hc : ∀ j v, cs[j]? = some v → w.cell? (a.add j) = some v) (hu : P.underlying t = some d)
    (hd : (match d with | .struct _ | .array _ _ => true | _ => false) = true) (hi : (P.info? t).map (·.size) = some cs.length) : (Instr.loadAt t (.pointer (some a))).run P w = .ok (.agg cs.toArray) w := by
  have hl : (loadCells a cs.length).run P w = .ok cs.toArray w := run_loadCells_list (P := P) w a cs hc
  cases hq : P.info? t with
  | none => simp [hq] at hi
  | some i =>
    have hs : i.size = cs.length := by simpa [hq] using hi
    have hagg : (isAgg t).run P w = .ok true w := by
      unfold isAgg
      rw [Sem.run_bind, run_underlying hu w]
      cases d <;> simp_all
    simp only [Instr.loadAt, Instr.sureAddr, Sem.run_bind, Sem.run_pure, Result.andThen]
    simp [loadVar, Sem.run_bind, hagg, sizeOf, typeInfo, hq, hs, hl]
theorem ldE25_ {ops : Array Oper} {rest : List Oper} {o : Oper} {a : Act} {Q : Exit → Act → World → Prop} {w : World} {b : Tmp} {ad : Addr} {m : Nat} {v0 v1 v2 v3 v4 v5 v6 v7 v8 v9 v10 v11 v12 v13 v14 v15 v16 v17 v18 v19 v20 v21 v22 v23 v24 : Value} (ho : o.op = .load 27 (.tmp b)) (hgd : o.guard = none) (hx : a.eval (.tmp b) = .pointer (some (ad.add m)))
    (s0 : w.cell? (ad.add m) = some v0) (s1 : w.cell? ⟨(ad.add m).block, (ad.add m).off + 1, none⟩ = some v1) (s2 : w.cell? ⟨(ad.add m).block, (ad.add m).off + 2, none⟩ = some v2) (s3 : w.cell? ⟨(ad.add m).block, (ad.add m).off + 3, none⟩ = some v3) (s4 : w.cell? ⟨(ad.add m).block, (ad.add m).off + 4, none⟩ = some v4) (s5 : w.cell? ⟨(ad.add m).block, (ad.add m).off + 5, none⟩ = some v5) (s6 : w.cell? ⟨(ad.add m).block, (ad.add m).off + 6, none⟩ = some v6) (s7 : w.cell? ⟨(ad.add m).block, (ad.add m).off + 7, none⟩ = some v7) (s8 : w.cell? ⟨(ad.add m).block, (ad.add m).off + 8, none⟩ = some v8) (s9 : w.cell? ⟨(ad.add m).block, (ad.add m).off + 9, none⟩ = some v9) (s10 : w.cell? ⟨(ad.add m).block, (ad.add m).off + 10, none⟩ = some v10) (s11 : w.cell? ⟨(ad.add m).block, (ad.add m).off + 11, none⟩ = some v11) (s12 : w.cell? ⟨(ad.add m).block, (ad.add m).off + 12, none⟩ = some v12) (s13 : w.cell? ⟨(ad.add m).block, (ad.add m).off + 13, none⟩ = some v13) (s14 : w.cell? ⟨(ad.add m).block, (ad.add m).off + 14, none⟩ = some v14) (s15 : w.cell? ⟨(ad.add m).block, (ad.add m).off + 15, none⟩ = some v15) (s16 : w.cell? ⟨(ad.add m).block, (ad.add m).off + 16, none⟩ = some v16) (s17 : w.cell? ⟨(ad.add m).block, (ad.add m).off + 17, none⟩ = some v17) (s18 : w.cell? ⟨(ad.add m).block, (ad.add m).off + 18, none⟩ = some v18) (s19 : w.cell? ⟨(ad.add m).block, (ad.add m).off + 19, none⟩ = some v19) (s20 : w.cell? ⟨(ad.add m).block, (ad.add m).off + 20, none⟩ = some v20) (s21 : w.cell? ⟨(ad.add m).block, (ad.add m).off + 21, none⟩ = some v21) (s22 : w.cell? ⟨(ad.add m).block, (ad.add m).off + 22, none⟩ = some v22) (s23 : w.cell? ⟨(ad.add m).block, (ad.add m).off + 23, none⟩ = some v23) (s24 : w.cell? ⟨(ad.add m).block, (ad.add m).off + 24, none⟩ = some v24)
    (h : wpList Tryd.prog ops Q rest (a.put o.dst (.agg #[v0, v1, v2, v3, v4, v5, v6, v7, v8, v9, v10, v11, v12, v13, v14, v15, v16, v17, v18, v19, v20, v21, v22, v23, v24])) w) : wpList Tryd.prog ops Q (o :: rest) a w := by
  have hc : ∀ j v, ([v0, v1, v2, v3, v4, v5, v6, v7, v8, v9, v10, v11, v12, v13, v14, v15, v16, v17, v18, v19, v20, v21, v22, v23, v24] : List Value)[j]? = some v → w.cell? ((ad.add m).add j) = some v := by
    intro j v hv
    rw [Go.Deep.add_add]
    match j, hv with
    | 0, hv => exact (Option.some.inj hv) ▸ s0
    | 1, hv => rw [add_field _ _ 1 (by omega)]; exact (Option.some.inj hv) ▸ s1
    | 2, hv => rw [add_field _ _ 2 (by omega)]; exact (Option.some.inj hv) ▸ s2
    | 3, hv => rw [add_field _ _ 3 (by omega)]; exact (Option.some.inj hv) ▸ s3
    | 4, hv => rw [add_field _ _ 4 (by omega)]; exact (Option.some.inj hv) ▸ s4
    | 5, hv => rw [add_field _ _ 5 (by omega)]; exact (Option.some.inj hv) ▸ s5
    | 6, hv => rw [add_field _ _ 6 (by omega)]; exact (Option.some.inj hv) ▸ s6
    | 7, hv => rw [add_field _ _ 7 (by omega)]; exact (Option.some.inj hv) ▸ s7
    | 8, hv => rw [add_field _ _ 8 (by omega)]; exact (Option.some.inj hv) ▸ s8
    | 9, hv => rw [add_field _ _ 9 (by omega)]; exact (Option.some.inj hv) ▸ s9
    | 10, hv => rw [add_field _ _ 10 (by omega)]; exact (Option.some.inj hv) ▸ s10
    | 11, hv => rw [add_field _ _ 11 (by omega)]; exact (Option.some.inj hv) ▸ s11
    | 12, hv => rw [add_field _ _ 12 (by omega)]; exact (Option.some.inj hv) ▸ s12
    | 13, hv => rw [add_field _ _ 13 (by omega)]; exact (Option.some.inj hv) ▸ s13
    | 14, hv => rw [add_field _ _ 14 (by omega)]; exact (Option.some.inj hv) ▸ s14
    | 15, hv => rw [add_field _ _ 15 (by omega)]; exact (Option.some.inj hv) ▸ s15
    | 16, hv => rw [add_field _ _ 16 (by omega)]; exact (Option.some.inj hv) ▸ s16
    | 17, hv => rw [add_field _ _ 17 (by omega)]; exact (Option.some.inj hv) ▸ s17
    | 18, hv => rw [add_field _ _ 18 (by omega)]; exact (Option.some.inj hv) ▸ s18
    | 19, hv => rw [add_field _ _ 19 (by omega)]; exact (Option.some.inj hv) ▸ s19
    | 20, hv => rw [add_field _ _ 20 (by omega)]; exact (Option.some.inj hv) ▸ s20
    | 21, hv => rw [add_field _ _ 21 (by omega)]; exact (Option.some.inj hv) ▸ s21
    | 22, hv => rw [add_field _ _ 22 (by omega)]; exact (Option.some.inj hv) ▸ s22
    | 23, hv => rw [add_field _ _ 23 (by omega)]; exact (Option.some.inj hv) ▸ s23
    | 24, hv => rw [add_field _ _ 24 (by omega)]; exact (Option.some.inj hv) ▸ s24
    | (j + 25), hv => simp at hv
  refine Kd.event_run hgd (v := .agg #[v0, v1, v2, v3, v4, v5, v6, v7, v8, v9, v10, v11, v12, v13, v14, v15, v16, v17, v18, v19, v20, v21, v22, v23, v24]) (w1 := w) ?_ h
  have hl := ldC25_ (P := Tryd.prog) (w := w) (a := ad.add m) (t := 27) [v0, v1, v2, v3, v4, v5, v6, v7, v8, v9, v10, v11, v12, v13, v14, v15, v16, v17, v18, v19, v20, v21, v22, v23, v24] hc Tryd.underlying27 rfl (by kernel_rfl)
  unfold execOp
  simp only [ho, hx]
  simp only [Sem.run_bind, hl, Result.andThen, Sem.run_pure]
theorem st25b_ {B g : Nat} {w0 w : World} (hb : Below B w0 w) (hBg : B ≤ g) (cs : Array Value) : Below B w0 (w.setRow g cs) :=
  hb.trans ⟨rfl, rfl, rfl, by simp [World.setRow], fun k hk => setRow_other w g k cs (by omega)⟩
theorem st25_ {P : Program} {ops : Array Oper} {rest : List Oper} {o : Oper} {a : Act} {Q : Exit → Act → World → Prop} {W : World} {t : TypeId} {p : Tmp} {v : Operand} {g : Nat} {old : Array Value} (cs : Array Value)
  (ho : o.op = .store t (.tmp p) v) (hgd : o.guard = none) (hN : o.dst = none) (hx : a.eval (.tmp p) = .pointer (some ⟨g, 0, none⟩)) (hv : a.eval v = .agg cs) (hb : W.heap[g]? = some (.cells old t (0, 0)))
  (hi : (P.info? t).map (·.size) = some cs.size) (hs : old.size = cs.size) (h1 : cs.toList.all (·.oneCell') = true)
  (h : ∀ w', w'.heap[g]? = some (.cells cs t (0, 0)) → (∀ k, k ≠ g → w'.heap[k]? = W.heap[k]?) → (∀ (B : Nat) (w0 : World), Below B w0 W → B ≤ g → Below B w0 w') → wpList P ops Q rest a w') : wpList P ops Q (o :: rest) a W := by
  have hl := run_storeVar_row (P := P) W g t t old cs hb hi hs (by simpa using h1)
  refine store_event (t := t) (p := p) (v := v) (w1 := W.setRow g cs) hgd ho hN ?_ (fun w' e => by subst e; exact h _ (setRow_heap W g old cs t (0, 0) hb) (fun k hk => setRow_other W g k cs hk) (fun B w0 hB hg => st25b_ hB hg cs))
  unfold execOp
  simp only [ho, hx, hv]
  simp [Instr.storeAt, Instr.sureAddr, Sem.run_bind, hl, Result.andThen]
mutual
def provision_Total.l0 : Nat → Int → Int → Bool → List (S27) → Int → Int → Option (Int × Int)
 | 0, _, _, _, _, _, _ => none
 | k + 1, x1, x6, x7, x12, x13, x14 => if x14 < x13 then (if 0 ≤ x14 then (if x14 < (x12.length : Int) then ((provision_Expected.f k ((rd_T27 x12 x14).f0) ((rd_T27 x12 x14).f1) ((rd_T27 x12 x14).f2) ((rd_T27 x12 x14).f3) ((rd_T27 x12 x14).f4) ((rd_T27 x12 x14).f5) ((rd_T27 x12 x14).f6) ((rd_T27 x12 x14).f7) ((rd_T27 x12 x14).f8) ((rd_T27 x12 x14).f9) ((rd_T27 x12 x14).f10) ((rd_T27 x12 x14).f11.f0) ((rd_T27 x12 x14).f11.f1) ((rd_T27 x12 x14).f11.f2) ((rd_T27 x12 x14).f11.f3) ((rd_T27 x12 x14).f11.f4) ((rd_T27 x12 x14).f11.f5) ((rd_T27 x12 x14).f11.f6) ((rd_T27 x12 x14).f11.f7) ((rd_T27 x12 x14).f11.f8) ((rd_T27 x12 x14).f11.f9) ((rd_T27 x12 x14).f11.f10) ((rd_T27 x12 x14).f11.f11) ((rd_T27 x12 x14).f12) ((rd_T27 x12 x14).f13) x1).bind fun bt219 => (if bt219.2 = 0 then (if x7 = true then (provision_Total.l0 k x1 (wrap64 (x6 + bt219.1)) true x12 x13 (wrap64 (x14 + 1))) else (if (wrap64 (x6 + bt219.1)) > 1152921504606846976 then (provision_Total.l0 k x1 (wrap64 (x6 + bt219.1)) true x12 x13 (wrap64 (x14 + 1))) else (provision_Total.l0 k x1 (wrap64 (x6 + bt219.1)) (decide ((wrap64 (x6 + bt219.1)) < (-1152921504606846976))) x12 x13 (wrap64 (x14 + 1))))) else (some (0, bt219.2)))) else (none)) else (none)) else (if x7 = true then (provision_Total.j1 k x6 true) else ((money_Valid.f x6).bind fun t221 => (provision_Total.j1 k x6 (!t221))))
def provision_Total.j1 : Nat → Int → Bool → Option (Int × Int)
 | 0, _, _ => none
 | k + 1, x6, x45 => if x45 = true then (some (0, 6)) else (some (x6, 0))
end
def provision_Total.f (k : Nat) (l0 : List (S27)) (a1 : Int) : Option (Int × Int) := provision_Total.l0 k a1 0 false l0 (l0.length : Int) 0
theorem provision_Total.mono_l : ∀ k, (∀ y0 y1 y2 y3 y4 y5, LeO (provision_Total.l0 k y0 y1 y2 y3 y4 y5) (provision_Total.l0 (k + 1) y0 y1 y2 y3 y4 y5)) ∧ (∀ y0 y1, LeO (provision_Total.j1 k y0 y1) (provision_Total.j1 (k + 1) y0 y1))
 | 0 => ⟨fun _ _ _ _ _ _ r h => by simp [provision_Total.l0] at h, fun _ _ r h => by simp [provision_Total.j1] at h⟩
 | k + 1 => by
  obtain ⟨ih0, ih1⟩ := provision_Total.mono_l k
  refine ⟨?_, ?_⟩
  ·intro y0 y1 y2 y3 y4 y5
   unfold provision_Total.l0
   repeat' first
   | (with_reducible exact ih0 _ _ _ _ _ _)
   | (with_reducible exact ih1 _ _)
   | (with_reducible exact provision_Expected.mono _ _ _ _ _ _ _ _ _ _ _ _ _ _ _ _ _ _ _ _ _ _ _ _ _ _ _)
   | (with_reducible exact LeO.refl _)
   | (with_reducible exact LeO.none _)
   | (with_reducible refine LeO.ite ?_ ?_)
   | (with_reducible refine LeO.bind ?_ (fun _ => ?_))
   | exact ih0 _ _ _ _ _ _
   | exact ih1 _ _
   | exact provision_Expected.mono _ _ _ _ _ _ _ _ _ _ _ _ _ _ _ _ _ _ _ _ _ _ _ _ _ _ _
   | exact LeO.none _
   | refine LeO.ite ?_ ?_
   | refine LeO.bind ?_ (fun _ => ?_)
  ·intro y0 y1
   unfold provision_Total.j1
   repeat' first
   | (with_reducible exact ih0 _ _ _ _ _ _)
   | (with_reducible exact ih1 _ _)
   | (with_reducible exact provision_Expected.mono _ _ _ _ _ _ _ _ _ _ _ _ _ _ _ _ _ _ _ _ _ _ _ _ _ _ _)
   | (with_reducible exact LeO.refl _)
   | (with_reducible exact LeO.none _)
   | (with_reducible refine LeO.ite ?_ ?_)
   | (with_reducible refine LeO.bind ?_ (fun _ => ?_))
   | exact ih0 _ _ _ _ _ _
   | exact ih1 _ _
   | exact provision_Expected.mono _ _ _ _ _ _ _ _ _ _ _ _ _ _ _ _ _ _ _ _ _ _ _ _ _ _ _
   | exact LeO.none _
   | refine LeO.ite ?_ ?_
   | refine LeO.bind ?_ (fun _ => ?_)
theorem provision_Total.mono : ∀ a0 a1 k, LeO (provision_Total.f k a0 a1) (provision_Total.f (k + 1) a0 a1) := by
 intro a0 a1 k
 obtain ⟨ih0, ih1⟩ := provision_Total.mono_l k
 unfold provision_Total.f
 repeat' first
   | (with_reducible exact ih0 _ _ _ _ _ _)
   | (with_reducible exact ih1 _ _)
   | (with_reducible exact provision_Expected.mono _ _ _ _ _ _ _ _ _ _ _ _ _ _ _ _ _ _ _ _ _ _ _ _ _ _ _)
   | (with_reducible exact LeO.refl _)
   | (with_reducible exact LeO.none _)
   | (with_reducible refine LeO.ite ?_ ?_)
   | (with_reducible refine LeO.bind ?_ (fun _ => ?_))
   | exact ih0 _ _ _ _ _ _
   | exact ih1 _ _
   | exact provision_Expected.mono _ _ _ _ _ _ _ _ _ _ _ _ _ _ _ _ _ _ _ _ _ _ _ _ _ _ _
   | exact LeO.none _
   | refine LeO.ite ?_ ?_
   | refine LeO.bind ?_ (fun _ => ?_)
set_option maxHeartbeats 8000000 in
set_option maxRecDepth 100000 in
theorem provision_Total.calls (k : Nat) (A0 : Option Addr) (c0 : Nat) (l0 : List (S27)) (a1 r1 r2 : Int) (w : World) (hG : GW w) (hr0 : Kd.C k27 w A0 l0.length l0) (hc0 : l0.length ≤ c0) (h : provision_Total.f k l0 a1 = some (r1, r2)) :
  Calls Tryd.prog 20 #[.slice A0 l0.length c0, .int .i64 a1] w fun e w' => e = .returned (.tuple #[.int .i64 r1, .int .i64 r2]) ∧ Below w.heap.size w w' := by
 have hu27 := Tryd.underlying27
 have HR0 := Aside0.mk hr0
 have HC0 := Aside0.mk hc0
 clear hr0 hc0
 have HB := Aside0.mk (Below.refl w.heap.size w)
 have H : (provision_Total.l0 k a1 0 false l0 (l0.length : Int) 0) = some (r1, r2) := h
 clear h
 have H' := Aside0.mk H
 clear H
 go_enter Tryd.func20, Tryd.ntmps20
 go_wp2
 go_loopg [6, 7, 14] k (fun kq v6 v7 v14 w' => ∃ (x6_1 : Int) (x7_1 : Bool) (x14_1 : Int), v6 = .int .i64 x6_1 ∧ v7 = .bool x7_1 ∧ v14 = .int .i64 x14_1 ∧ Aside0 (provision_Total.l0 kq a1 x6_1 x7_1 l0 (l0.length : Int) x14_1 = some (r1, r2)) ∧ Aside0 (kq ≤ k) ∧ Aside0 (Below w.heap.size w w'))
 case atStart => exact ⟨(0), (false), (0), qs_, qs_, qs_, H', ⟨Nat.le_refl _⟩, ⟨qb_ HB.out⟩⟩
 case round =>
  clear H'
  try clear c2
  try clear p2
  obtain ⟨x6_1, x7_1, x14_1, rfl, rfl, rfl, HA, HK1, HB⟩ := hrel
  cases gk with
  | zero => exact absurd HA.out (by simp [provision_Total.l0])
  | succ k1 =>
   have H := HA.out
   clear HA
   simp only [provision_Total.l0] at H
   by_cases c3 : x14_1 < (l0.length : Int)
   ·rw [if_pos c3] at H
    have c3b0 : decide (x14_1 < (l0.length : Int)) = true := decide_eq_true c3
    clear c3
    by_cases c4 : 0 ≤ x14_1
    ·rw [if_pos c4] at H
     have c4b0 : decide (0 ≤ x14_1) = true := decide_eq_true c4
     clear c4
     by_cases c5 : x14_1 < (l0.length : Int)
     ·rw [if_pos c5] at H
      have c5b0 : decide (x14_1 < (l0.length : Int)) = true := decide_eq_true c5
      clear c5
      replace H := Option.bind_eq_some_iff.mp H
      obtain ⟨⟨t219, t220⟩, A60, H⟩ := H
      replace H : (if t220 = 0 then (if x7_1 = true then (provision_Total.l0 k1 a1 (wrap64 (x6_1 + t219)) true l0 (l0.length : Int) (wrap64 (x14_1 + 1))) else (if (wrap64 (x6_1 + t219)) > 1152921504606846976 then (provision_Total.l0 k1 a1 (wrap64 (x6_1 + t219)) true l0 (l0.length : Int) (wrap64 (x14_1 + 1))) else (provision_Total.l0 k1 a1 (wrap64 (x6_1 + t219)) (decide ((wrap64 (x6_1 + t219)) < (-1152921504606846976))) l0 (l0.length : Int) (wrap64 (x14_1 + 1))))) else (some (0, t220))) = some (r1, r2) := H
      have A6 := Aside0.mk A60
      clear A60
      by_cases c7 : t220 = 0
      ·rw [if_pos c7] at H
       have c7b0 : (t220 == 0) = true := beq_iff_eq.mpr c7
       have c7b1 : (t220 != 0) = false := bne_eq_false_iff_eq.mpr c7
       clear c7
       by_cases c8 : x7_1 = true
       ·subst c8
        have H1 : (provision_Total.l0 k1 a1 (wrap64 (x6_1 + t219)) true l0 (l0.length : Int) (wrap64 (x14_1 + 1))) = some (r1, r2) := by rw [if_pos rfl] at H; exact H
        clear H
        have H := H1
        clear H1
        have H' := Aside0.mk H
        clear H
        have p217 : 0 ≤ (x14_1 : Int) := of_decide_eq_true (by first | (with_reducible assumption) | assumption)
        have q217 : x14_1 < (l0.length : Int) := of_decide_eq_true (by first | (with_reducible assumption) | assumption)
        obtain ⟨ad217, A217_23, c217_23, A217_24, c217_24, e217, hx217_0, hx217_1, hx217_2, hx217_3, hx217_4, hx217_5, hx217_6, hx217_7, hx217_8, hx217_9, hx217_10, hx217_11, hx217_12, hx217_13, hx217_14, hx217_15, hx217_16, hx217_17, hx217_18, hx217_19, hx217_20, hx217_21, hx217_22, hx217_23, hx217_24, hl217_23, hi217_23, hl217_24, hi217_24⟩ := at_T27 HR0.out x14_1 p217 q217
        cases e217
        replace hx217_0 := bx_ HB.out hx217_0
        replace hx217_1 := bx_ HB.out hx217_1
        replace hx217_2 := bx_ HB.out hx217_2
        replace hx217_3 := bx_ HB.out hx217_3
        replace hx217_4 := bx_ HB.out hx217_4
        replace hx217_5 := bx_ HB.out hx217_5
        replace hx217_6 := bx_ HB.out hx217_6
        replace hx217_7 := bx_ HB.out hx217_7
        replace hx217_8 := bx_ HB.out hx217_8
        replace hx217_9 := bx_ HB.out hx217_9
        replace hx217_10 := bx_ HB.out hx217_10
        replace hx217_11 := bx_ HB.out hx217_11
        replace hx217_12 := bx_ HB.out hx217_12
        replace hx217_13 := bx_ HB.out hx217_13
        replace hx217_14 := bx_ HB.out hx217_14
        replace hx217_15 := bx_ HB.out hx217_15
        replace hx217_16 := bx_ HB.out hx217_16
        replace hx217_17 := bx_ HB.out hx217_17
        replace hx217_18 := bx_ HB.out hx217_18
        replace hx217_19 := bx_ HB.out hx217_19
        replace hx217_20 := bx_ HB.out hx217_20
        replace hx217_21 := bx_ HB.out hx217_21
        replace hx217_22 := bx_ HB.out hx217_22
        replace hx217_23 := bx_ HB.out hx217_23
        replace hx217_24 := bx_ HB.out hx217_24
        have HR217_23 := Aside0.mk hi217_23
        have HC217_23 := Aside0.mk hl217_23
        clear hi217_23 hl217_23
        have HR217_24 := Aside0.mk hi217_24
        have HC217_24 := Aside0.mk hl217_24
        clear hi217_24 hl217_24
        replace p217 := eq_true p217
        replace q217 := eq_true q217
        go_wp2_with (first | ((with_reducible refine gate_store (t := 27) rfl ?_); refine st25_ (g := gb218) #[.int .i64 ((rd_T27 l0 x14_1).f0), .int .i64 ((rd_T27 l0 x14_1).f1), .int .i64 ((rd_T27 l0 x14_1).f2), .int .i64 ((rd_T27 l0 x14_1).f3), .int .i64 ((rd_T27 l0 x14_1).f4), .int .i64 ((rd_T27 l0 x14_1).f5), .int .i64 ((rd_T27 l0 x14_1).f6), .int .i64 ((rd_T27 l0 x14_1).f7), .int .i64 ((rd_T27 l0 x14_1).f8), .int .i64 ((rd_T27 l0 x14_1).f9), .int .i64 ((rd_T27 l0 x14_1).f10), .int .i64 ((rd_T27 l0 x14_1).f11.f0), .int .i64 ((rd_T27 l0 x14_1).f11.f1), .int .i64 ((rd_T27 l0 x14_1).f11.f2), .int .i64 ((rd_T27 l0 x14_1).f11.f3), .int .i64 ((rd_T27 l0 x14_1).f11.f4), .int .i64 ((rd_T27 l0 x14_1).f11.f5), .int .i64 ((rd_T27 l0 x14_1).f11.f6), .int .i64 ((rd_T27 l0 x14_1).f11.f7), .int .i64 ((rd_T27 l0 x14_1).f11.f8), .int .i64 ((rd_T27 l0 x14_1).f11.f9), .string ((rd_T27 l0 x14_1).f11.f10), .string ((rd_T27 l0 x14_1).f11.f11), .slice A217_23 ((rd_T27 l0 x14_1).f12).length c217_23, .slice A217_24 ((rd_T27 l0 x14_1).f13).length c217_24] rfl rfl rfl rfl rfl (qk_ BK218.out) (by kernel_rfl) (by rfl) rfl ?_; intro w_ hnew_ hoth_ hbel_; have n0_ := Aside0.mk hnew_; have n1_ := Aside0.mk (hbel_ _ _ (qb1_ GE218.out HB.out) GE218.out); clear BK218; clear HB; have BK218 := n0_; have HB := n1_; clear n0_ n1_ hnew_ hbel_ hoth_) | ((with_reducible refine gate_load_ (t := 27) rfl ?_); refine ldE25_ (ad := ad217) (by rfl) (by rfl) (by rfl) hx217_0 hx217_1 hx217_2 hx217_3 hx217_4 hx217_5 hx217_6 hx217_7 hx217_8 hx217_9 hx217_10 hx217_11 hx217_12 hx217_13 hx217_14 hx217_15 hx217_16 hx217_17 hx217_18 hx217_19 hx217_20 hx217_21 hx217_22 hx217_23 hx217_24 ?_) | ((with_reducible refine gate_load_ (t := 27) rfl ?_); refine ld_ (t := 27) Tryd.underlying27 rfl rfl rfl (by (repeat (first | (with_reducible first | refine blk_drewN ?_ _ | refine blk_drew ?_ | refine blk_alloc ?_ _) | refine blk_set ?_ _ _)); (with_reducible first | exact BK218.out)) rfl (by kernel_rfl) ?_) | ((with_reducible refine gate_dst (N := 9) rfl ?_); refine be_ (N := 9) (cs := #[.int .i64 0, .int .i64 0, .int .i64 0, .int .i64 0, .int .i64 0, .int .i64 0, .int .i64 0, .int .i64 0, .int .i64 0, .int .i64 0, .int .i64 0, .int .i64 0, .int .i64 0, .int .i64 0, .int .i64 0, .int .i64 0, .int .i64 0, .int .i64 0, .int .i64 0, .int .i64 0, .int .i64 0, .string (⟨#[]⟩ : ByteArray), .string (⟨#[]⟩ : ByteArray), .slice none 0 0, .slice none 0 0]) (t := 27) ?_; intro gb218 hg w9 hbox hb; have n0_ := Aside0.mk (below_step (qb_ HB.out) hb); have n1_ := Aside0.mk (hbox); have n2_ := Aside0.mk (bz_ hg (qb_ HB.out) : w.heap.size ≤ gb218); have n3_ := n2_; clear HB; have HB := n0_; have BK218 := n1_; have GW218 := n2_; have GE218 := n3_; clear n0_ n1_ n2_ n3_; clear hb hbox hg; obtain ⟨Z10_0, Z10_1, Z10_2, Z10_3, Z10_4, Z10_5, Z10_6, Z10_7, Z10_8, Z10_9, Z10_10, Z10_11, Z10_12, Z10_13, Z10_14, Z10_15, Z10_16, Z10_17, Z10_18, Z10_19, Z10_20, Z10_21, Z10_22, Z10_23, Z10_24, Y10_0, Y10_1, Y10_2, Y10_3, Y10_4, Y10_5, Y10_6, Y10_7, Y10_8, Y10_9, Y10_10, Y10_11, Y10_12, Y10_13, Y10_14, Y10_15, Y10_16, Y10_17, Y10_18, Y10_19, Y10_20, Y10_21, Y10_22, Y10_23, Y10_24⟩ := cz25_ BK218.out) | ((with_reducible refine gate_callee (f := 14) rfl ?_); refine goesL_ (some 21) rfl rfl Tryd.func14 (by kernel_rfl) rfl #[.agg #[.int .i64 ((rd_T27 l0 x14_1).f0), .int .i64 ((rd_T27 l0 x14_1).f1), .int .i64 ((rd_T27 l0 x14_1).f2), .int .i64 ((rd_T27 l0 x14_1).f3), .int .i64 ((rd_T27 l0 x14_1).f4), .int .i64 ((rd_T27 l0 x14_1).f5), .int .i64 ((rd_T27 l0 x14_1).f6), .int .i64 ((rd_T27 l0 x14_1).f7), .int .i64 ((rd_T27 l0 x14_1).f8), .int .i64 ((rd_T27 l0 x14_1).f9), .int .i64 ((rd_T27 l0 x14_1).f10), .int .i64 ((rd_T27 l0 x14_1).f11.f0), .int .i64 ((rd_T27 l0 x14_1).f11.f1), .int .i64 ((rd_T27 l0 x14_1).f11.f2), .int .i64 ((rd_T27 l0 x14_1).f11.f3), .int .i64 ((rd_T27 l0 x14_1).f11.f4), .int .i64 ((rd_T27 l0 x14_1).f11.f5), .int .i64 ((rd_T27 l0 x14_1).f11.f6), .int .i64 ((rd_T27 l0 x14_1).f11.f7), .int .i64 ((rd_T27 l0 x14_1).f11.f8), .int .i64 ((rd_T27 l0 x14_1).f11.f9), .string ((rd_T27 l0 x14_1).f11.f10), .string ((rd_T27 l0 x14_1).f11.f11), .slice A217_23 ((rd_T27 l0 x14_1).f12).length c217_23, .slice A217_24 ((rd_T27 l0 x14_1).f13).length c217_24], .int .i64 a1] rfl ql_ ?_; (with_reducible refine (provision_Expected.calls (hG := by first | exact hG | (with_reducible exact GW.below hG (qb1_ GE218.out HB.out)) | (with_reducible repeat (first | exact hG | apply GW.drewN | apply GW.drew))) k1 ((rd_T27 l0 x14_1).f0) ((rd_T27 l0 x14_1).f1) ((rd_T27 l0 x14_1).f2) ((rd_T27 l0 x14_1).f3) ((rd_T27 l0 x14_1).f4) ((rd_T27 l0 x14_1).f5) ((rd_T27 l0 x14_1).f6) ((rd_T27 l0 x14_1).f7) ((rd_T27 l0 x14_1).f8) ((rd_T27 l0 x14_1).f9) ((rd_T27 l0 x14_1).f10) ((rd_T27 l0 x14_1).f11.f0) ((rd_T27 l0 x14_1).f11.f1) ((rd_T27 l0 x14_1).f11.f2) ((rd_T27 l0 x14_1).f11.f3) ((rd_T27 l0 x14_1).f11.f4) ((rd_T27 l0 x14_1).f11.f5) ((rd_T27 l0 x14_1).f11.f6) ((rd_T27 l0 x14_1).f11.f7) ((rd_T27 l0 x14_1).f11.f8) ((rd_T27 l0 x14_1).f11.f9) ((rd_T27 l0 x14_1).f11.f10) ((rd_T27 l0 x14_1).f11.f11) _ _ ((rd_T27 l0 x14_1).f12) _ _ ((rd_T27 l0 x14_1).f13) a1 t219 t220 _ ?side1 ?side2 ?side3 ?side4 A6.out).mono ?_); (case side1 => exact Kd.C_below HR217_23.out (qb1_ GE218.out HB.out)); (case side2 => exact HC217_23.out); (case side3 => exact Kd.C_below HR217_24.out (qb1_ GE218.out HB.out)); (case side4 => exact HC217_24.out); rintro e w11 ⟨rfl, hb⟩; refine ⟨_, rfl, ?_⟩; have n0_ := Aside0.mk (blk_below (qk_ BK218.out) hb); have n1_ := Aside0.mk (below_step (qb1_ GE218.out HB.out) hb); clear BK218; clear HB; have BK218 := n0_; have HB := n1_; clear n0_ n1_; (try clear hb); (try clear hb2); (try clear hk); (try clear hi)))
        go_roundg k1
        case measure => have := HK1.out; omega
        case rel => exact ⟨(wrap64 (x6_1 + t219)), (true), (wrap64 (x14_1 + 1)), qs_, qs_, qs_, H', ⟨by have := HK1.out; omega⟩, ⟨qb1_ GE218.out HB.out⟩⟩
       ·replace c8 := Bool.eq_false_iff.mpr c8
        subst c8
        have H1 : (if (wrap64 (x6_1 + t219)) > 1152921504606846976 then (provision_Total.l0 k1 a1 (wrap64 (x6_1 + t219)) true l0 (l0.length : Int) (wrap64 (x14_1 + 1))) else (provision_Total.l0 k1 a1 (wrap64 (x6_1 + t219)) (decide ((wrap64 (x6_1 + t219)) < (-1152921504606846976))) l0 (l0.length : Int) (wrap64 (x14_1 + 1)))) = some (r1, r2) := by rw [if_neg (show ¬ (false = true) by decide)] at H; exact H
        clear H
        have H := H1
        clear H1
        by_cases c12 : (wrap64 (x6_1 + t219)) > 1152921504606846976
        ·rw [if_pos c12] at H
         have c12b0 : decide (1152921504606846976 < (wrap64 (x6_1 + t219))) = true := decide_eq_true c12
         clear c12
         have H' := Aside0.mk H
         clear H
         have p217 : 0 ≤ (x14_1 : Int) := of_decide_eq_true (by first | (with_reducible assumption) | assumption)
         have q217 : x14_1 < (l0.length : Int) := of_decide_eq_true (by first | (with_reducible assumption) | assumption)
         obtain ⟨ad217, A217_23, c217_23, A217_24, c217_24, e217, hx217_0, hx217_1, hx217_2, hx217_3, hx217_4, hx217_5, hx217_6, hx217_7, hx217_8, hx217_9, hx217_10, hx217_11, hx217_12, hx217_13, hx217_14, hx217_15, hx217_16, hx217_17, hx217_18, hx217_19, hx217_20, hx217_21, hx217_22, hx217_23, hx217_24, hl217_23, hi217_23, hl217_24, hi217_24⟩ := at_T27 HR0.out x14_1 p217 q217
         cases e217
         replace hx217_0 := bx_ HB.out hx217_0
         replace hx217_1 := bx_ HB.out hx217_1
         replace hx217_2 := bx_ HB.out hx217_2
         replace hx217_3 := bx_ HB.out hx217_3
         replace hx217_4 := bx_ HB.out hx217_4
         replace hx217_5 := bx_ HB.out hx217_5
         replace hx217_6 := bx_ HB.out hx217_6
         replace hx217_7 := bx_ HB.out hx217_7
         replace hx217_8 := bx_ HB.out hx217_8
         replace hx217_9 := bx_ HB.out hx217_9
         replace hx217_10 := bx_ HB.out hx217_10
         replace hx217_11 := bx_ HB.out hx217_11
         replace hx217_12 := bx_ HB.out hx217_12
         replace hx217_13 := bx_ HB.out hx217_13
         replace hx217_14 := bx_ HB.out hx217_14
         replace hx217_15 := bx_ HB.out hx217_15
         replace hx217_16 := bx_ HB.out hx217_16
         replace hx217_17 := bx_ HB.out hx217_17
         replace hx217_18 := bx_ HB.out hx217_18
         replace hx217_19 := bx_ HB.out hx217_19
         replace hx217_20 := bx_ HB.out hx217_20
         replace hx217_21 := bx_ HB.out hx217_21
         replace hx217_22 := bx_ HB.out hx217_22
         replace hx217_23 := bx_ HB.out hx217_23
         replace hx217_24 := bx_ HB.out hx217_24
         have HR217_23 := Aside0.mk hi217_23
         have HC217_23 := Aside0.mk hl217_23
         clear hi217_23 hl217_23
         have HR217_24 := Aside0.mk hi217_24
         have HC217_24 := Aside0.mk hl217_24
         clear hi217_24 hl217_24
         replace p217 := eq_true p217
         replace q217 := eq_true q217
         go_wp2_with (first | ((with_reducible refine gate_store (t := 27) rfl ?_); refine st25_ (g := gb218) #[.int .i64 ((rd_T27 l0 x14_1).f0), .int .i64 ((rd_T27 l0 x14_1).f1), .int .i64 ((rd_T27 l0 x14_1).f2), .int .i64 ((rd_T27 l0 x14_1).f3), .int .i64 ((rd_T27 l0 x14_1).f4), .int .i64 ((rd_T27 l0 x14_1).f5), .int .i64 ((rd_T27 l0 x14_1).f6), .int .i64 ((rd_T27 l0 x14_1).f7), .int .i64 ((rd_T27 l0 x14_1).f8), .int .i64 ((rd_T27 l0 x14_1).f9), .int .i64 ((rd_T27 l0 x14_1).f10), .int .i64 ((rd_T27 l0 x14_1).f11.f0), .int .i64 ((rd_T27 l0 x14_1).f11.f1), .int .i64 ((rd_T27 l0 x14_1).f11.f2), .int .i64 ((rd_T27 l0 x14_1).f11.f3), .int .i64 ((rd_T27 l0 x14_1).f11.f4), .int .i64 ((rd_T27 l0 x14_1).f11.f5), .int .i64 ((rd_T27 l0 x14_1).f11.f6), .int .i64 ((rd_T27 l0 x14_1).f11.f7), .int .i64 ((rd_T27 l0 x14_1).f11.f8), .int .i64 ((rd_T27 l0 x14_1).f11.f9), .string ((rd_T27 l0 x14_1).f11.f10), .string ((rd_T27 l0 x14_1).f11.f11), .slice A217_23 ((rd_T27 l0 x14_1).f12).length c217_23, .slice A217_24 ((rd_T27 l0 x14_1).f13).length c217_24] rfl rfl rfl rfl rfl (qk_ BK218.out) (by kernel_rfl) (by rfl) rfl ?_; intro w_ hnew_ hoth_ hbel_; have n0_ := Aside0.mk hnew_; have n1_ := Aside0.mk (hbel_ _ _ (qb1_ GE218.out HB.out) GE218.out); clear BK218; clear HB; have BK218 := n0_; have HB := n1_; clear n0_ n1_ hnew_ hbel_ hoth_) | ((with_reducible refine gate_load_ (t := 27) rfl ?_); refine ldE25_ (ad := ad217) (by rfl) (by rfl) (by rfl) hx217_0 hx217_1 hx217_2 hx217_3 hx217_4 hx217_5 hx217_6 hx217_7 hx217_8 hx217_9 hx217_10 hx217_11 hx217_12 hx217_13 hx217_14 hx217_15 hx217_16 hx217_17 hx217_18 hx217_19 hx217_20 hx217_21 hx217_22 hx217_23 hx217_24 ?_) | ((with_reducible refine gate_load_ (t := 27) rfl ?_); refine ld_ (t := 27) Tryd.underlying27 rfl rfl rfl (by (repeat (first | (with_reducible first | refine blk_drewN ?_ _ | refine blk_drew ?_ | refine blk_alloc ?_ _) | refine blk_set ?_ _ _)); (with_reducible first | exact BK218.out)) rfl (by kernel_rfl) ?_) | ((with_reducible refine gate_dst (N := 9) rfl ?_); refine be_ (N := 9) (cs := #[.int .i64 0, .int .i64 0, .int .i64 0, .int .i64 0, .int .i64 0, .int .i64 0, .int .i64 0, .int .i64 0, .int .i64 0, .int .i64 0, .int .i64 0, .int .i64 0, .int .i64 0, .int .i64 0, .int .i64 0, .int .i64 0, .int .i64 0, .int .i64 0, .int .i64 0, .int .i64 0, .int .i64 0, .string (⟨#[]⟩ : ByteArray), .string (⟨#[]⟩ : ByteArray), .slice none 0 0, .slice none 0 0]) (t := 27) ?_; intro gb218 hg w13 hbox hb; have n0_ := Aside0.mk (below_step (qb_ HB.out) hb); have n1_ := Aside0.mk (hbox); have n2_ := Aside0.mk (bz_ hg (qb_ HB.out) : w.heap.size ≤ gb218); have n3_ := n2_; clear HB; have HB := n0_; have BK218 := n1_; have GW218 := n2_; have GE218 := n3_; clear n0_ n1_ n2_ n3_; clear hb hbox hg; obtain ⟨Z14_0, Z14_1, Z14_2, Z14_3, Z14_4, Z14_5, Z14_6, Z14_7, Z14_8, Z14_9, Z14_10, Z14_11, Z14_12, Z14_13, Z14_14, Z14_15, Z14_16, Z14_17, Z14_18, Z14_19, Z14_20, Z14_21, Z14_22, Z14_23, Z14_24, Y14_0, Y14_1, Y14_2, Y14_3, Y14_4, Y14_5, Y14_6, Y14_7, Y14_8, Y14_9, Y14_10, Y14_11, Y14_12, Y14_13, Y14_14, Y14_15, Y14_16, Y14_17, Y14_18, Y14_19, Y14_20, Y14_21, Y14_22, Y14_23, Y14_24⟩ := cz25_ BK218.out) | ((with_reducible refine gate_callee (f := 14) rfl ?_); refine goesL_ (some 21) rfl rfl Tryd.func14 (by kernel_rfl) rfl #[.agg #[.int .i64 ((rd_T27 l0 x14_1).f0), .int .i64 ((rd_T27 l0 x14_1).f1), .int .i64 ((rd_T27 l0 x14_1).f2), .int .i64 ((rd_T27 l0 x14_1).f3), .int .i64 ((rd_T27 l0 x14_1).f4), .int .i64 ((rd_T27 l0 x14_1).f5), .int .i64 ((rd_T27 l0 x14_1).f6), .int .i64 ((rd_T27 l0 x14_1).f7), .int .i64 ((rd_T27 l0 x14_1).f8), .int .i64 ((rd_T27 l0 x14_1).f9), .int .i64 ((rd_T27 l0 x14_1).f10), .int .i64 ((rd_T27 l0 x14_1).f11.f0), .int .i64 ((rd_T27 l0 x14_1).f11.f1), .int .i64 ((rd_T27 l0 x14_1).f11.f2), .int .i64 ((rd_T27 l0 x14_1).f11.f3), .int .i64 ((rd_T27 l0 x14_1).f11.f4), .int .i64 ((rd_T27 l0 x14_1).f11.f5), .int .i64 ((rd_T27 l0 x14_1).f11.f6), .int .i64 ((rd_T27 l0 x14_1).f11.f7), .int .i64 ((rd_T27 l0 x14_1).f11.f8), .int .i64 ((rd_T27 l0 x14_1).f11.f9), .string ((rd_T27 l0 x14_1).f11.f10), .string ((rd_T27 l0 x14_1).f11.f11), .slice A217_23 ((rd_T27 l0 x14_1).f12).length c217_23, .slice A217_24 ((rd_T27 l0 x14_1).f13).length c217_24], .int .i64 a1] rfl ql_ ?_; (with_reducible refine (provision_Expected.calls (hG := by first | exact hG | (with_reducible exact GW.below hG (qb1_ GE218.out HB.out)) | (with_reducible repeat (first | exact hG | apply GW.drewN | apply GW.drew))) k1 ((rd_T27 l0 x14_1).f0) ((rd_T27 l0 x14_1).f1) ((rd_T27 l0 x14_1).f2) ((rd_T27 l0 x14_1).f3) ((rd_T27 l0 x14_1).f4) ((rd_T27 l0 x14_1).f5) ((rd_T27 l0 x14_1).f6) ((rd_T27 l0 x14_1).f7) ((rd_T27 l0 x14_1).f8) ((rd_T27 l0 x14_1).f9) ((rd_T27 l0 x14_1).f10) ((rd_T27 l0 x14_1).f11.f0) ((rd_T27 l0 x14_1).f11.f1) ((rd_T27 l0 x14_1).f11.f2) ((rd_T27 l0 x14_1).f11.f3) ((rd_T27 l0 x14_1).f11.f4) ((rd_T27 l0 x14_1).f11.f5) ((rd_T27 l0 x14_1).f11.f6) ((rd_T27 l0 x14_1).f11.f7) ((rd_T27 l0 x14_1).f11.f8) ((rd_T27 l0 x14_1).f11.f9) ((rd_T27 l0 x14_1).f11.f10) ((rd_T27 l0 x14_1).f11.f11) _ _ ((rd_T27 l0 x14_1).f12) _ _ ((rd_T27 l0 x14_1).f13) a1 t219 t220 _ ?side1 ?side2 ?side3 ?side4 A6.out).mono ?_); (case side1 => exact Kd.C_below HR217_23.out (qb1_ GE218.out HB.out)); (case side2 => exact HC217_23.out); (case side3 => exact Kd.C_below HR217_24.out (qb1_ GE218.out HB.out)); (case side4 => exact HC217_24.out); rintro e w15 ⟨rfl, hb⟩; refine ⟨_, rfl, ?_⟩; have n0_ := Aside0.mk (blk_below (qk_ BK218.out) hb); have n1_ := Aside0.mk (below_step (qb1_ GE218.out HB.out) hb); clear BK218; clear HB; have BK218 := n0_; have HB := n1_; clear n0_ n1_; (try clear hb); (try clear hb2); (try clear hk); (try clear hi)))
         go_roundg k1
         case measure => have := HK1.out; omega
         case rel => exact ⟨(wrap64 (x6_1 + t219)), (true), (wrap64 (x14_1 + 1)), qs_, qs_, qs_, H', ⟨by have := HK1.out; omega⟩, ⟨qb1_ GE218.out HB.out⟩⟩
        ·rw [if_neg c12] at H
         have c12b0 : decide (1152921504606846976 < (wrap64 (x6_1 + t219))) = false := decide_eq_false c12
         clear c12
         have H' := Aside0.mk H
         clear H
         have p217 : 0 ≤ (x14_1 : Int) := of_decide_eq_true (by first | (with_reducible assumption) | assumption)
         have q217 : x14_1 < (l0.length : Int) := of_decide_eq_true (by first | (with_reducible assumption) | assumption)
         obtain ⟨ad217, A217_23, c217_23, A217_24, c217_24, e217, hx217_0, hx217_1, hx217_2, hx217_3, hx217_4, hx217_5, hx217_6, hx217_7, hx217_8, hx217_9, hx217_10, hx217_11, hx217_12, hx217_13, hx217_14, hx217_15, hx217_16, hx217_17, hx217_18, hx217_19, hx217_20, hx217_21, hx217_22, hx217_23, hx217_24, hl217_23, hi217_23, hl217_24, hi217_24⟩ := at_T27 HR0.out x14_1 p217 q217
         cases e217
         replace hx217_0 := bx_ HB.out hx217_0
         replace hx217_1 := bx_ HB.out hx217_1
         replace hx217_2 := bx_ HB.out hx217_2
         replace hx217_3 := bx_ HB.out hx217_3
         replace hx217_4 := bx_ HB.out hx217_4
         replace hx217_5 := bx_ HB.out hx217_5
         replace hx217_6 := bx_ HB.out hx217_6
         replace hx217_7 := bx_ HB.out hx217_7
         replace hx217_8 := bx_ HB.out hx217_8
         replace hx217_9 := bx_ HB.out hx217_9
         replace hx217_10 := bx_ HB.out hx217_10
         replace hx217_11 := bx_ HB.out hx217_11
         replace hx217_12 := bx_ HB.out hx217_12
         replace hx217_13 := bx_ HB.out hx217_13
         replace hx217_14 := bx_ HB.out hx217_14
         replace hx217_15 := bx_ HB.out hx217_15
         replace hx217_16 := bx_ HB.out hx217_16
         replace hx217_17 := bx_ HB.out hx217_17
         replace hx217_18 := bx_ HB.out hx217_18
         replace hx217_19 := bx_ HB.out hx217_19
         replace hx217_20 := bx_ HB.out hx217_20
         replace hx217_21 := bx_ HB.out hx217_21
         replace hx217_22 := bx_ HB.out hx217_22
         replace hx217_23 := bx_ HB.out hx217_23
         replace hx217_24 := bx_ HB.out hx217_24
         have HR217_23 := Aside0.mk hi217_23
         have HC217_23 := Aside0.mk hl217_23
         clear hi217_23 hl217_23
         have HR217_24 := Aside0.mk hi217_24
         have HC217_24 := Aside0.mk hl217_24
         clear hi217_24 hl217_24
         replace p217 := eq_true p217
         replace q217 := eq_true q217
         go_wp2_with (first | ((with_reducible refine gate_store (t := 27) rfl ?_); refine st25_ (g := gb218) #[.int .i64 ((rd_T27 l0 x14_1).f0), .int .i64 ((rd_T27 l0 x14_1).f1), .int .i64 ((rd_T27 l0 x14_1).f2), .int .i64 ((rd_T27 l0 x14_1).f3), .int .i64 ((rd_T27 l0 x14_1).f4), .int .i64 ((rd_T27 l0 x14_1).f5), .int .i64 ((rd_T27 l0 x14_1).f6), .int .i64 ((rd_T27 l0 x14_1).f7), .int .i64 ((rd_T27 l0 x14_1).f8), .int .i64 ((rd_T27 l0 x14_1).f9), .int .i64 ((rd_T27 l0 x14_1).f10), .int .i64 ((rd_T27 l0 x14_1).f11.f0), .int .i64 ((rd_T27 l0 x14_1).f11.f1), .int .i64 ((rd_T27 l0 x14_1).f11.f2), .int .i64 ((rd_T27 l0 x14_1).f11.f3), .int .i64 ((rd_T27 l0 x14_1).f11.f4), .int .i64 ((rd_T27 l0 x14_1).f11.f5), .int .i64 ((rd_T27 l0 x14_1).f11.f6), .int .i64 ((rd_T27 l0 x14_1).f11.f7), .int .i64 ((rd_T27 l0 x14_1).f11.f8), .int .i64 ((rd_T27 l0 x14_1).f11.f9), .string ((rd_T27 l0 x14_1).f11.f10), .string ((rd_T27 l0 x14_1).f11.f11), .slice A217_23 ((rd_T27 l0 x14_1).f12).length c217_23, .slice A217_24 ((rd_T27 l0 x14_1).f13).length c217_24] rfl rfl rfl rfl rfl (qk_ BK218.out) (by kernel_rfl) (by rfl) rfl ?_; intro w_ hnew_ hoth_ hbel_; have n0_ := Aside0.mk hnew_; have n1_ := Aside0.mk (hbel_ _ _ (qb1_ GE218.out HB.out) GE218.out); clear BK218; clear HB; have BK218 := n0_; have HB := n1_; clear n0_ n1_ hnew_ hbel_ hoth_) | ((with_reducible refine gate_load_ (t := 27) rfl ?_); refine ldE25_ (ad := ad217) (by rfl) (by rfl) (by rfl) hx217_0 hx217_1 hx217_2 hx217_3 hx217_4 hx217_5 hx217_6 hx217_7 hx217_8 hx217_9 hx217_10 hx217_11 hx217_12 hx217_13 hx217_14 hx217_15 hx217_16 hx217_17 hx217_18 hx217_19 hx217_20 hx217_21 hx217_22 hx217_23 hx217_24 ?_) | ((with_reducible refine gate_load_ (t := 27) rfl ?_); refine ld_ (t := 27) Tryd.underlying27 rfl rfl rfl (by (repeat (first | (with_reducible first | refine blk_drewN ?_ _ | refine blk_drew ?_ | refine blk_alloc ?_ _) | refine blk_set ?_ _ _)); (with_reducible first | exact BK218.out)) rfl (by kernel_rfl) ?_) | ((with_reducible refine gate_dst (N := 9) rfl ?_); refine be_ (N := 9) (cs := #[.int .i64 0, .int .i64 0, .int .i64 0, .int .i64 0, .int .i64 0, .int .i64 0, .int .i64 0, .int .i64 0, .int .i64 0, .int .i64 0, .int .i64 0, .int .i64 0, .int .i64 0, .int .i64 0, .int .i64 0, .int .i64 0, .int .i64 0, .int .i64 0, .int .i64 0, .int .i64 0, .int .i64 0, .string (⟨#[]⟩ : ByteArray), .string (⟨#[]⟩ : ByteArray), .slice none 0 0, .slice none 0 0]) (t := 27) ?_; intro gb218 hg w16 hbox hb; have n0_ := Aside0.mk (below_step (qb_ HB.out) hb); have n1_ := Aside0.mk (hbox); have n2_ := Aside0.mk (bz_ hg (qb_ HB.out) : w.heap.size ≤ gb218); have n3_ := n2_; clear HB; have HB := n0_; have BK218 := n1_; have GW218 := n2_; have GE218 := n3_; clear n0_ n1_ n2_ n3_; clear hb hbox hg; obtain ⟨Z17_0, Z17_1, Z17_2, Z17_3, Z17_4, Z17_5, Z17_6, Z17_7, Z17_8, Z17_9, Z17_10, Z17_11, Z17_12, Z17_13, Z17_14, Z17_15, Z17_16, Z17_17, Z17_18, Z17_19, Z17_20, Z17_21, Z17_22, Z17_23, Z17_24, Y17_0, Y17_1, Y17_2, Y17_3, Y17_4, Y17_5, Y17_6, Y17_7, Y17_8, Y17_9, Y17_10, Y17_11, Y17_12, Y17_13, Y17_14, Y17_15, Y17_16, Y17_17, Y17_18, Y17_19, Y17_20, Y17_21, Y17_22, Y17_23, Y17_24⟩ := cz25_ BK218.out) | ((with_reducible refine gate_callee (f := 14) rfl ?_); refine goesL_ (some 21) rfl rfl Tryd.func14 (by kernel_rfl) rfl #[.agg #[.int .i64 ((rd_T27 l0 x14_1).f0), .int .i64 ((rd_T27 l0 x14_1).f1), .int .i64 ((rd_T27 l0 x14_1).f2), .int .i64 ((rd_T27 l0 x14_1).f3), .int .i64 ((rd_T27 l0 x14_1).f4), .int .i64 ((rd_T27 l0 x14_1).f5), .int .i64 ((rd_T27 l0 x14_1).f6), .int .i64 ((rd_T27 l0 x14_1).f7), .int .i64 ((rd_T27 l0 x14_1).f8), .int .i64 ((rd_T27 l0 x14_1).f9), .int .i64 ((rd_T27 l0 x14_1).f10), .int .i64 ((rd_T27 l0 x14_1).f11.f0), .int .i64 ((rd_T27 l0 x14_1).f11.f1), .int .i64 ((rd_T27 l0 x14_1).f11.f2), .int .i64 ((rd_T27 l0 x14_1).f11.f3), .int .i64 ((rd_T27 l0 x14_1).f11.f4), .int .i64 ((rd_T27 l0 x14_1).f11.f5), .int .i64 ((rd_T27 l0 x14_1).f11.f6), .int .i64 ((rd_T27 l0 x14_1).f11.f7), .int .i64 ((rd_T27 l0 x14_1).f11.f8), .int .i64 ((rd_T27 l0 x14_1).f11.f9), .string ((rd_T27 l0 x14_1).f11.f10), .string ((rd_T27 l0 x14_1).f11.f11), .slice A217_23 ((rd_T27 l0 x14_1).f12).length c217_23, .slice A217_24 ((rd_T27 l0 x14_1).f13).length c217_24], .int .i64 a1] rfl ql_ ?_; (with_reducible refine (provision_Expected.calls (hG := by first | exact hG | (with_reducible exact GW.below hG (qb1_ GE218.out HB.out)) | (with_reducible repeat (first | exact hG | apply GW.drewN | apply GW.drew))) k1 ((rd_T27 l0 x14_1).f0) ((rd_T27 l0 x14_1).f1) ((rd_T27 l0 x14_1).f2) ((rd_T27 l0 x14_1).f3) ((rd_T27 l0 x14_1).f4) ((rd_T27 l0 x14_1).f5) ((rd_T27 l0 x14_1).f6) ((rd_T27 l0 x14_1).f7) ((rd_T27 l0 x14_1).f8) ((rd_T27 l0 x14_1).f9) ((rd_T27 l0 x14_1).f10) ((rd_T27 l0 x14_1).f11.f0) ((rd_T27 l0 x14_1).f11.f1) ((rd_T27 l0 x14_1).f11.f2) ((rd_T27 l0 x14_1).f11.f3) ((rd_T27 l0 x14_1).f11.f4) ((rd_T27 l0 x14_1).f11.f5) ((rd_T27 l0 x14_1).f11.f6) ((rd_T27 l0 x14_1).f11.f7) ((rd_T27 l0 x14_1).f11.f8) ((rd_T27 l0 x14_1).f11.f9) ((rd_T27 l0 x14_1).f11.f10) ((rd_T27 l0 x14_1).f11.f11) _ _ ((rd_T27 l0 x14_1).f12) _ _ ((rd_T27 l0 x14_1).f13) a1 t219 t220 _ ?side1 ?side2 ?side3 ?side4 A6.out).mono ?_); (case side1 => exact Kd.C_below HR217_23.out (qb1_ GE218.out HB.out)); (case side2 => exact HC217_23.out); (case side3 => exact Kd.C_below HR217_24.out (qb1_ GE218.out HB.out)); (case side4 => exact HC217_24.out); rintro e w18 ⟨rfl, hb⟩; refine ⟨_, rfl, ?_⟩; have n0_ := Aside0.mk (blk_below (qk_ BK218.out) hb); have n1_ := Aside0.mk (below_step (qb1_ GE218.out HB.out) hb); clear BK218; clear HB; have BK218 := n0_; have HB := n1_; clear n0_ n1_; (try clear hb); (try clear hb2); (try clear hk); (try clear hi)))
         go_roundg k1
         case measure => have := HK1.out; omega
         case rel => exact ⟨(wrap64 (x6_1 + t219)), (decide ((wrap64 (x6_1 + t219)) < (-1152921504606846976))), (wrap64 (x14_1 + 1)), qs_, qs_, qs_, H', ⟨by have := HK1.out; omega⟩, ⟨qb1_ GE218.out HB.out⟩⟩
      ·rw [if_neg c7] at H
       have c7b0 : (t220 == 0) = false := beq_eq_false_iff_ne.mpr c7
       have c7b1 : (t220 != 0) = true := bne_iff_ne.mpr c7
       simp only [Option.some.injEq, Prod.mk.injEq] at H
       obtain ⟨rfl, rfl⟩ := H
       have p217 : 0 ≤ (x14_1 : Int) := of_decide_eq_true (by first | (with_reducible assumption) | assumption)
       have q217 : x14_1 < (l0.length : Int) := of_decide_eq_true (by first | (with_reducible assumption) | assumption)
       obtain ⟨ad217, A217_23, c217_23, A217_24, c217_24, e217, hx217_0, hx217_1, hx217_2, hx217_3, hx217_4, hx217_5, hx217_6, hx217_7, hx217_8, hx217_9, hx217_10, hx217_11, hx217_12, hx217_13, hx217_14, hx217_15, hx217_16, hx217_17, hx217_18, hx217_19, hx217_20, hx217_21, hx217_22, hx217_23, hx217_24, hl217_23, hi217_23, hl217_24, hi217_24⟩ := at_T27 HR0.out x14_1 p217 q217
       cases e217
       replace hx217_0 := bx_ HB.out hx217_0
       replace hx217_1 := bx_ HB.out hx217_1
       replace hx217_2 := bx_ HB.out hx217_2
       replace hx217_3 := bx_ HB.out hx217_3
       replace hx217_4 := bx_ HB.out hx217_4
       replace hx217_5 := bx_ HB.out hx217_5
       replace hx217_6 := bx_ HB.out hx217_6
       replace hx217_7 := bx_ HB.out hx217_7
       replace hx217_8 := bx_ HB.out hx217_8
       replace hx217_9 := bx_ HB.out hx217_9
       replace hx217_10 := bx_ HB.out hx217_10
       replace hx217_11 := bx_ HB.out hx217_11
       replace hx217_12 := bx_ HB.out hx217_12
       replace hx217_13 := bx_ HB.out hx217_13
       replace hx217_14 := bx_ HB.out hx217_14
       replace hx217_15 := bx_ HB.out hx217_15
       replace hx217_16 := bx_ HB.out hx217_16
       replace hx217_17 := bx_ HB.out hx217_17
       replace hx217_18 := bx_ HB.out hx217_18
       replace hx217_19 := bx_ HB.out hx217_19
       replace hx217_20 := bx_ HB.out hx217_20
       replace hx217_21 := bx_ HB.out hx217_21
       replace hx217_22 := bx_ HB.out hx217_22
       replace hx217_23 := bx_ HB.out hx217_23
       replace hx217_24 := bx_ HB.out hx217_24
       have HR217_23 := Aside0.mk hi217_23
       have HC217_23 := Aside0.mk hl217_23
       clear hi217_23 hl217_23
       have HR217_24 := Aside0.mk hi217_24
       have HC217_24 := Aside0.mk hl217_24
       clear hi217_24 hl217_24
       replace p217 := eq_true p217
       replace q217 := eq_true q217
       go_wp2_with (first | ((with_reducible refine gate_store (t := 27) rfl ?_); refine st25_ (g := gb218) #[.int .i64 ((rd_T27 l0 x14_1).f0), .int .i64 ((rd_T27 l0 x14_1).f1), .int .i64 ((rd_T27 l0 x14_1).f2), .int .i64 ((rd_T27 l0 x14_1).f3), .int .i64 ((rd_T27 l0 x14_1).f4), .int .i64 ((rd_T27 l0 x14_1).f5), .int .i64 ((rd_T27 l0 x14_1).f6), .int .i64 ((rd_T27 l0 x14_1).f7), .int .i64 ((rd_T27 l0 x14_1).f8), .int .i64 ((rd_T27 l0 x14_1).f9), .int .i64 ((rd_T27 l0 x14_1).f10), .int .i64 ((rd_T27 l0 x14_1).f11.f0), .int .i64 ((rd_T27 l0 x14_1).f11.f1), .int .i64 ((rd_T27 l0 x14_1).f11.f2), .int .i64 ((rd_T27 l0 x14_1).f11.f3), .int .i64 ((rd_T27 l0 x14_1).f11.f4), .int .i64 ((rd_T27 l0 x14_1).f11.f5), .int .i64 ((rd_T27 l0 x14_1).f11.f6), .int .i64 ((rd_T27 l0 x14_1).f11.f7), .int .i64 ((rd_T27 l0 x14_1).f11.f8), .int .i64 ((rd_T27 l0 x14_1).f11.f9), .string ((rd_T27 l0 x14_1).f11.f10), .string ((rd_T27 l0 x14_1).f11.f11), .slice A217_23 ((rd_T27 l0 x14_1).f12).length c217_23, .slice A217_24 ((rd_T27 l0 x14_1).f13).length c217_24] rfl rfl rfl rfl rfl (qk_ BK218.out) (by kernel_rfl) (by rfl) rfl ?_; intro w_ hnew_ hoth_ hbel_; have n0_ := Aside0.mk hnew_; have n1_ := Aside0.mk (hbel_ _ _ (qb1_ GE218.out HB.out) GE218.out); clear BK218; clear HB; have BK218 := n0_; have HB := n1_; clear n0_ n1_ hnew_ hbel_ hoth_) | ((with_reducible refine gate_load_ (t := 27) rfl ?_); refine ldE25_ (ad := ad217) (by rfl) (by rfl) (by rfl) hx217_0 hx217_1 hx217_2 hx217_3 hx217_4 hx217_5 hx217_6 hx217_7 hx217_8 hx217_9 hx217_10 hx217_11 hx217_12 hx217_13 hx217_14 hx217_15 hx217_16 hx217_17 hx217_18 hx217_19 hx217_20 hx217_21 hx217_22 hx217_23 hx217_24 ?_) | ((with_reducible refine gate_load_ (t := 27) rfl ?_); refine ld_ (t := 27) Tryd.underlying27 rfl rfl rfl (by (repeat (first | (with_reducible first | refine blk_drewN ?_ _ | refine blk_drew ?_ | refine blk_alloc ?_ _) | refine blk_set ?_ _ _)); (with_reducible first | exact BK218.out)) rfl (by kernel_rfl) ?_) | ((with_reducible refine gate_dst (N := 9) rfl ?_); refine be_ (N := 9) (cs := #[.int .i64 0, .int .i64 0, .int .i64 0, .int .i64 0, .int .i64 0, .int .i64 0, .int .i64 0, .int .i64 0, .int .i64 0, .int .i64 0, .int .i64 0, .int .i64 0, .int .i64 0, .int .i64 0, .int .i64 0, .int .i64 0, .int .i64 0, .int .i64 0, .int .i64 0, .int .i64 0, .int .i64 0, .string (⟨#[]⟩ : ByteArray), .string (⟨#[]⟩ : ByteArray), .slice none 0 0, .slice none 0 0]) (t := 27) ?_; intro gb218 hg w19 hbox hb; have n0_ := Aside0.mk (below_step (qb_ HB.out) hb); have n1_ := Aside0.mk (hbox); have n2_ := Aside0.mk (bz_ hg (qb_ HB.out) : w.heap.size ≤ gb218); have n3_ := n2_; clear HB; have HB := n0_; have BK218 := n1_; have GW218 := n2_; have GE218 := n3_; clear n0_ n1_ n2_ n3_; clear hb hbox hg; obtain ⟨Z20_0, Z20_1, Z20_2, Z20_3, Z20_4, Z20_5, Z20_6, Z20_7, Z20_8, Z20_9, Z20_10, Z20_11, Z20_12, Z20_13, Z20_14, Z20_15, Z20_16, Z20_17, Z20_18, Z20_19, Z20_20, Z20_21, Z20_22, Z20_23, Z20_24, Y20_0, Y20_1, Y20_2, Y20_3, Y20_4, Y20_5, Y20_6, Y20_7, Y20_8, Y20_9, Y20_10, Y20_11, Y20_12, Y20_13, Y20_14, Y20_15, Y20_16, Y20_17, Y20_18, Y20_19, Y20_20, Y20_21, Y20_22, Y20_23, Y20_24⟩ := cz25_ BK218.out) | ((with_reducible refine gate_callee (f := 14) rfl ?_); refine goesL_ (some 21) rfl rfl Tryd.func14 (by kernel_rfl) rfl #[.agg #[.int .i64 ((rd_T27 l0 x14_1).f0), .int .i64 ((rd_T27 l0 x14_1).f1), .int .i64 ((rd_T27 l0 x14_1).f2), .int .i64 ((rd_T27 l0 x14_1).f3), .int .i64 ((rd_T27 l0 x14_1).f4), .int .i64 ((rd_T27 l0 x14_1).f5), .int .i64 ((rd_T27 l0 x14_1).f6), .int .i64 ((rd_T27 l0 x14_1).f7), .int .i64 ((rd_T27 l0 x14_1).f8), .int .i64 ((rd_T27 l0 x14_1).f9), .int .i64 ((rd_T27 l0 x14_1).f10), .int .i64 ((rd_T27 l0 x14_1).f11.f0), .int .i64 ((rd_T27 l0 x14_1).f11.f1), .int .i64 ((rd_T27 l0 x14_1).f11.f2), .int .i64 ((rd_T27 l0 x14_1).f11.f3), .int .i64 ((rd_T27 l0 x14_1).f11.f4), .int .i64 ((rd_T27 l0 x14_1).f11.f5), .int .i64 ((rd_T27 l0 x14_1).f11.f6), .int .i64 ((rd_T27 l0 x14_1).f11.f7), .int .i64 ((rd_T27 l0 x14_1).f11.f8), .int .i64 ((rd_T27 l0 x14_1).f11.f9), .string ((rd_T27 l0 x14_1).f11.f10), .string ((rd_T27 l0 x14_1).f11.f11), .slice A217_23 ((rd_T27 l0 x14_1).f12).length c217_23, .slice A217_24 ((rd_T27 l0 x14_1).f13).length c217_24], .int .i64 a1] rfl ql_ ?_; (with_reducible refine (provision_Expected.calls (hG := by first | exact hG | (with_reducible exact GW.below hG (qb1_ GE218.out HB.out)) | (with_reducible repeat (first | exact hG | apply GW.drewN | apply GW.drew))) k1 ((rd_T27 l0 x14_1).f0) ((rd_T27 l0 x14_1).f1) ((rd_T27 l0 x14_1).f2) ((rd_T27 l0 x14_1).f3) ((rd_T27 l0 x14_1).f4) ((rd_T27 l0 x14_1).f5) ((rd_T27 l0 x14_1).f6) ((rd_T27 l0 x14_1).f7) ((rd_T27 l0 x14_1).f8) ((rd_T27 l0 x14_1).f9) ((rd_T27 l0 x14_1).f10) ((rd_T27 l0 x14_1).f11.f0) ((rd_T27 l0 x14_1).f11.f1) ((rd_T27 l0 x14_1).f11.f2) ((rd_T27 l0 x14_1).f11.f3) ((rd_T27 l0 x14_1).f11.f4) ((rd_T27 l0 x14_1).f11.f5) ((rd_T27 l0 x14_1).f11.f6) ((rd_T27 l0 x14_1).f11.f7) ((rd_T27 l0 x14_1).f11.f8) ((rd_T27 l0 x14_1).f11.f9) ((rd_T27 l0 x14_1).f11.f10) ((rd_T27 l0 x14_1).f11.f11) _ _ ((rd_T27 l0 x14_1).f12) _ _ ((rd_T27 l0 x14_1).f13) a1 t219 t220 _ ?side1 ?side2 ?side3 ?side4 A6.out).mono ?_); (case side1 => exact Kd.C_below HR217_23.out (qb1_ GE218.out HB.out)); (case side2 => exact HC217_23.out); (case side3 => exact Kd.C_below HR217_24.out (qb1_ GE218.out HB.out)); (case side4 => exact HC217_24.out); rintro e w21 ⟨rfl, hb⟩; refine ⟨_, rfl, ?_⟩; have n0_ := Aside0.mk (blk_below (qk_ BK218.out) hb); have n1_ := Aside0.mk (below_step (qb1_ GE218.out HB.out) hb); clear BK218; clear HB; have BK218 := n0_; have HB := n1_; clear n0_ n1_; (try clear hb); (try clear hb2); (try clear hk); (try clear hi)))
       go_ret2
       exact ⟨qe_, qb1_ GE218.out HB.out⟩
     ·rw [if_neg c5] at H
      exact absurd H (by simp)
    ·rw [if_neg c4] at H
     exact absurd H (by simp)
   ·rw [if_neg c3] at H
    have c3b0 : decide (x14_1 < (l0.length : Int)) = false := decide_eq_false c3
    clear c3
    have HC22 := Aside0.mk H
    clear H
    go_upto_region 11 with (fail)
    go_cut [45] (fun v45 wc => ∃ (kq : Nat) (x45_21 : Bool), v45 = .bool x45_21 ∧ Aside0 (provision_Total.j1 kq x6_1 x45_21 = some (r1, r2)) ∧ Aside0 (kq ≤ k1) ∧ Aside0 (Below w.heap.size w wc))
    case first =>
     have H := HC22.out
     clear HC22
     by_cases c23 : x7_1 = true
     ·subst c23
      have H1 : (provision_Total.j1 k1 x6_1 true) = some (r1, r2) := by rw [if_pos rfl] at H; exact H
      clear H
      have H := H1
      clear H1
      have H' := Aside0.mk H
      clear H
      go_wp2
      go_meet
      case rel => exact ⟨_, (true), qs_, H', ⟨by have := HK1.out; first | omega | exact Nat.le_refl _⟩, ⟨qb_ HB.out⟩⟩
     ·replace c23 := Bool.eq_false_iff.mpr c23
      subst c23
      have H1 : ((money_Valid.f x6_1).bind fun t221 => (provision_Total.j1 k1 x6_1 (!t221))) = some (r1, r2) := by rw [if_neg (show ¬ (false = true) by decide)] at H; exact H
      clear H
      have H := H1
      clear H1
      replace H := Option.bind_eq_some_iff.mp H
      obtain ⟨t221, A240, H⟩ := H
      replace H : (provision_Total.j1 k1 x6_1 (!t221)) = some (r1, r2) := H
      have A24 := Aside0.mk A240
      clear A240
      have H' := Aside0.mk H
      clear H
      go_wp2_with (first | ((with_reducible refine gate_load_ (t := 27) rfl ?_); refine ldE25_ (ad := ad217) (by rfl) (by rfl) (by rfl) hx217_0 hx217_1 hx217_2 hx217_3 hx217_4 hx217_5 hx217_6 hx217_7 hx217_8 hx217_9 hx217_10 hx217_11 hx217_12 hx217_13 hx217_14 hx217_15 hx217_16 hx217_17 hx217_18 hx217_19 hx217_20 hx217_21 hx217_22 hx217_23 hx217_24 ?_) | ((with_reducible refine gate_load_ (t := 27) rfl ?_); refine ld_ (t := 27) Tryd.underlying27 rfl rfl rfl (by (repeat (first | (with_reducible first | refine blk_drewN ?_ _ | refine blk_drew ?_ | refine blk_alloc ?_ _) | refine blk_set ?_ _ _)); (with_reducible first | exact BK218.out)) rfl (by kernel_rfl) ?_) | (go_at_call 32; (with_reducible refine (money_Valid.calls x6_1 t221 _ A24.out).mono ?_); rintro e w' ⟨rfl, ⟨nd, rfl⟩⟩))
      go_meet
      case rel => exact ⟨_, (!t221), qs_, H', ⟨by have := HK1.out; first | omega | exact Nat.le_refl _⟩, ⟨qb_ HB.out⟩⟩
    case rest =>
     clear HC22
     try clear c1
     try clear c2
     try clear p2
     try clear q2
     try clear hx2
     try clear c3
     try clear c3b0
     try clear c4
     try clear c4b0
     try clear c5
     try clear c5b0
     try clear p6
     try clear c7
     try clear c7b0
     try clear c7b1
     try clear c8
     try clear c12
     try clear c12b0
     try clear c14
     try clear c20
     try clear c21
     try clear p21
     try clear q21
     try clear hx21
     try clear c23
     (try clear Z10_0 Z10_1 Z10_10 Z10_11 Z10_12 Z10_13 Z10_14 Z10_15 Z10_16 Z10_17 Z10_18 Z10_19 Z10_2 Z10_20 Z10_21 Z10_22 Z10_23 Z10_24 Z10_3 Z10_4 Z10_5 Z10_6 Z10_7 Z10_8 Z10_9 Y10_0 Y10_1 Y10_10 Y10_11 Y10_12 Y10_13 Y10_14 Y10_15 Y10_16 Y10_17 Y10_18 Y10_19 Y10_2 Y10_20 Y10_21 Y10_22 Y10_23 Y10_24 Y10_3 Y10_4 Y10_5 Y10_6 Y10_7 Y10_8 Y10_9)
     (try clear Z14_0 Z14_1 Z14_10 Z14_11 Z14_12 Z14_13 Z14_14 Z14_15 Z14_16 Z14_17 Z14_18 Z14_19 Z14_2 Z14_20 Z14_21 Z14_22 Z14_23 Z14_24 Z14_3 Z14_4 Z14_5 Z14_6 Z14_7 Z14_8 Z14_9 Y14_0 Y14_1 Y14_10 Y14_11 Y14_12 Y14_13 Y14_14 Y14_15 Y14_16 Y14_17 Y14_18 Y14_19 Y14_2 Y14_20 Y14_21 Y14_22 Y14_23 Y14_24 Y14_3 Y14_4 Y14_5 Y14_6 Y14_7 Y14_8 Y14_9)
     (try clear Z17_0 Z17_1 Z17_10 Z17_11 Z17_12 Z17_13 Z17_14 Z17_15 Z17_16 Z17_17 Z17_18 Z17_19 Z17_2 Z17_20 Z17_21 Z17_22 Z17_23 Z17_24 Z17_3 Z17_4 Z17_5 Z17_6 Z17_7 Z17_8 Z17_9 Y17_0 Y17_1 Y17_10 Y17_11 Y17_12 Y17_13 Y17_14 Y17_15 Y17_16 Y17_17 Y17_18 Y17_19 Y17_2 Y17_20 Y17_21 Y17_22 Y17_23 Y17_24 Y17_3 Y17_4 Y17_5 Y17_6 Y17_7 Y17_8 Y17_9)
     (try clear Z20_0 Z20_1 Z20_10 Z20_11 Z20_12 Z20_13 Z20_14 Z20_15 Z20_16 Z20_17 Z20_18 Z20_19 Z20_2 Z20_20 Z20_21 Z20_22 Z20_23 Z20_24 Z20_3 Z20_4 Z20_5 Z20_6 Z20_7 Z20_8 Z20_9 Y20_0 Y20_1 Y20_10 Y20_11 Y20_12 Y20_13 Y20_14 Y20_15 Y20_16 Y20_17 Y20_18 Y20_19 Y20_2 Y20_20 Y20_21 Y20_22 Y20_23 Y20_24 Y20_3 Y20_4 Y20_5 Y20_6 Y20_7 Y20_8 Y20_9)
     try clear hx217_0
     try clear hx217_1
     try clear hx217_10
     try clear hx217_11
     try clear hx217_12
     try clear hx217_13
     try clear hx217_14
     try clear hx217_15
     try clear hx217_16
     try clear hx217_17
     try clear hx217_18
     try clear hx217_19
     try clear hx217_2
     try clear hx217_20
     try clear hx217_21
     try clear hx217_22
     try clear hx217_23
     try clear hx217_24
     try clear hx217_3
     try clear hx217_4
     try clear hx217_5
     try clear hx217_6
     try clear hx217_7
     try clear hx217_8
     try clear hx217_9
     try clear p2
     try clear p217
     try clear q217
     obtain ⟨kq, x45_21, rfl, HA, HJ21, HB⟩ := hcut
     cases kq with
     | zero => exact absurd HA.out (by simp [provision_Total.j1])
     | succ kj21 =>
      have H := HA.out
      clear HA
      simp only [provision_Total.j1] at H
      by_cases c25 : x45_21 = true
      ·subst c25
       have H1 : (some (0, 6)) = some (r1, r2) := by rw [if_pos rfl] at H; exact H
       clear H
       have H := H1
       clear H1
       simp only [Option.some.injEq, Prod.mk.injEq] at H
       obtain ⟨rfl, rfl⟩ := H
       go_wp2
       go_ret2
       exact ⟨qe_, qb_ HB.out⟩
      ·replace c25 := Bool.eq_false_iff.mpr c25
       subst c25
       have H1 : (some (x6_1, 0)) = some (r1, r2) := by rw [if_neg (show ¬ (false = true) by decide)] at H; exact H
       clear H
       have H := H1
       clear H1
       simp only [Option.some.injEq, Prod.mk.injEq] at H
       obtain ⟨rfl, rfl⟩ := H
       go_wp2
       go_ret2
       exact ⟨qe_, qb_ HB.out⟩
end Go.Proofs.YtjkjiibhdpcpkaaDoor.PS
end
