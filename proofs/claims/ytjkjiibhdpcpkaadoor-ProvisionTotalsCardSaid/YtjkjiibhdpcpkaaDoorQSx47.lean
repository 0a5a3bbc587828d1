import Derived.Deep.Slices
import Derived.Test.YtjkjiibhdpcpkaaDoorQRm2
import Derived.Test.YtjkjiibhdpcpkaaDoorQRm7
import Derived.Test.YtjkjiibhdpcpkaaDoorQRm8
import Derived.Test.YtjkjiibhdpcpkaaDoorQSx29
import Derived.Test.YtjkjiibhdpcpkaaDoorQSx42
import Derived.Test.YtjkjiibhdpcpkaaDoorQSx46
namespace Go.Proofs.YtjkjiibhdpcpkaaDoor.PS
open Go.RowKit Go.Proofs.YtjkjiibhdpcpkaaDoorW.PrintWords Go.Proofs.YtjkjiibhdpcpkaaDoorW.PrintLast
set_option linter.unusedVariables false
set_option linter.unusedSimpArgs false
theorem ldC47_ {P : Program} {w : World} {a : Addr} {t : TypeId} {d : TypeDesc} (cs : List Value) (hc : ∀ j v, cs[j]? = some v → w.cell? (a.add j) = some v) (hu : P.underlying t = some d)
    (hd : (match d with | .struct _ | .array _ _ => true | _ => false) = true) (hi : (P.info? t).map (·.size) = some cs.length) : (Instr.loadAt t (.pointer (some a))).run P w = .ok (.agg cs.toArray) w := by
  have hl : (loadCells a cs.length).run P w = .ok cs.toArray w := run_loadCells_list (P := P) w a cs hc
  cases hq : P.info? t with
  | none => simp [hq] at hi
  | some i =>
    have hs : i.size = cs.length := by simpa [hq] using hi
    have hagg : (isAgg t).run P w = .ok true w := by
      unfold isAgg
      rw [Sem.run_bind, run_underlying hu w]
      cases d <;> simp_all
    simp only [Instr.loadAt, Instr.sureAddr, Sem.run_bind, Sem.run_pure, Result.andThen]
    simp [loadVar, Sem.run_bind, hagg, sizeOf, typeInfo, hq, hs, hl]
theorem ldE47_ {ops : Array Oper} {rest : List Oper} {o : Oper} {a : Act} {Q : Exit → Act → World → Prop} {w : World} {b : Tmp} {ad : Addr} {m : Nat} {v0 v1 v2 v3 v4 v5 v6 v7 v8 v9 v10 v11 v12 v13 v14 v15 v16 v17 v18 v19 v20 v21 v22 v23 v24 : Value} (ho : o.op = .load 27 (.tmp b)) (hgd : o.guard = none) (hx : a.eval (.tmp b) = .pointer (some (ad.add m)))
    (s0 : w.cell? (ad.add m) = some v0) (s1 : w.cell? ⟨(ad.add m).block, (ad.add m).off + 1, none⟩ = some v1) (s2 : w.cell? ⟨(ad.add m).block, (ad.add m).off + 2, none⟩ = some v2) (s3 : w.cell? ⟨(ad.add m).block, (ad.add m).off + 3, none⟩ = some v3) (s4 : w.cell? ⟨(ad.add m).block, (ad.add m).off + 4, none⟩ = some v4) (s5 : w.cell? ⟨(ad.add m).block, (ad.add m).off + 5, none⟩ = some v5) (s6 : w.cell? ⟨(ad.add m).block, (ad.add m).off + 6, none⟩ = some v6) (s7 : w.cell? ⟨(ad.add m).block, (ad.add m).off + 7, none⟩ = some v7) (s8 : w.cell? ⟨(ad.add m).block, (ad.add m).off + 8, none⟩ = some v8) (s9 : w.cell? ⟨(ad.add m).block, (ad.add m).off + 9, none⟩ = some v9) (s10 : w.cell? ⟨(ad.add m).block, (ad.add m).off + 10, none⟩ = some v10) (s11 : w.cell? ⟨(ad.add m).block, (ad.add m).off + 11, none⟩ = some v11) (s12 : w.cell? ⟨(ad.add m).block, (ad.add m).off + 12, none⟩ = some v12) (s13 : w.cell? ⟨(ad.add m).block, (ad.add m).off + 13, none⟩ = some v13) (s14 : w.cell? ⟨(ad.add m).block, (ad.add m).off + 14, none⟩ = some v14) (s15 : w.cell? ⟨(ad.add m).block, (ad.add m).off + 15, none⟩ = some v15) (s16 : w.cell? ⟨(ad.add m).block, (ad.add m).off + 16, none⟩ = some v16) (s17 : w.cell? ⟨(ad.add m).block, (ad.add m).off + 17, none⟩ = some v17) (s18 : w.cell? ⟨(ad.add m).block, (ad.add m).off + 18, none⟩ = some v18) (s19 : w.cell? ⟨(ad.add m).block, (ad.add m).off + 19, none⟩ = some v19) (s20 : w.cell? ⟨(ad.add m).block, (ad.add m).off + 20, none⟩ = some v20) (s21 : w.cell? ⟨(ad.add m).block, (ad.add m).off + 21, none⟩ = some v21) (s22 : w.cell? ⟨(ad.add m).block, (ad.add m).off + 22, none⟩ = some v22) (s23 : w.cell? ⟨(ad.add m).block, (ad.add m).off + 23, none⟩ = some v23) (s24 : w.cell? ⟨(ad.add m).block, (ad.add m).off + 24, none⟩ = some v24)
    (h : wpList Tryd.prog ops Q rest (a.put o.dst (.agg #[v0, v1, v2, v3, v4, v5, v6, v7, v8, v9, v10, v11, v12, v13, v14, v15, v16, v17, v18, v19, v20, v21, v22, v23, v24])) w) : wpList Tryd.prog ops Q (o :: rest) a w := by
  have hc : ∀ j v, ([v0, v1, v2, v3, v4, v5, v6, v7, v8, v9, v10, v11, v12, v13, v14, v15, v16, v17, v18, v19, v20, v21, v22, v23, v24] : List Value)[j]? = some v → w.cell? ((ad.add m).add j) = some v := by
    intro j v hv
    rw [Go.Deep.add_add]
    match j, hv with
    | 0, hv => exact (Option.some.inj hv) ▸ s0
    | 1, hv => rw [add_field _ _ 1 (by omega)]; exact (Option.some.inj hv) ▸ s1
    | 2, hv => rw [add_field _ _ 2 (by omega)]; exact (Option.some.inj hv) ▸ s2
    | 3, hv => rw [add_field _ _ 3 (by omega)]; exact (Option.some.inj hv) ▸ s3
    | 4, hv => rw [add_field _ _ 4 (by omega)]; exact (Option.some.inj hv) ▸ s4
    | 5, hv => rw [add_field _ _ 5 (by omega)]; exact (Option.some.inj hv) ▸ s5
    | 6, hv => rw [add_field _ _ 6 (by omega)]; exact (Option.some.inj hv) ▸ s6
    | 7, hv => rw [add_field _ _ 7 (by omega)]; exact (Option.some.inj hv) ▸ s7
    | 8, hv => rw [add_field _ _ 8 (by omega)]; exact (Option.some.inj hv) ▸ s8
    | 9, hv => rw [add_field _ _ 9 (by omega)]; exact (Option.some.inj hv) ▸ s9
    | 10, hv => rw [add_field _ _ 10 (by omega)]; exact (Option.some.inj hv) ▸ s10
    | 11, hv => rw [add_field _ _ 11 (by omega)]; exact (Option.some.inj hv) ▸ s11
    | 12, hv => rw [add_field _ _ 12 (by omega)]; exact (Option.some.inj hv) ▸ s12
    | 13, hv => rw [add_field _ _ 13 (by omega)]; exact (Option.some.inj hv) ▸ s13
    | 14, hv => rw [add_field _ _ 14 (by omega)]; exact (Option.some.inj hv) ▸ s14
    | 15, hv => rw [add_field _ _ 15 (by omega)]; exact (Option.some.inj hv) ▸ s15
    | 16, hv => rw [add_field _ _ 16 (by omega)]; exact (Option.some.inj hv) ▸ s16
    | 17, hv => rw [add_field _ _ 17 (by omega)]; exact (Option.some.inj hv) ▸ s17
    | 18, hv => rw [add_field _ _ 18 (by omega)]; exact (Option.some.inj hv) ▸ s18
    | 19, hv => rw [add_field _ _ 19 (by omega)]; exact (Option.some.inj hv) ▸ s19
    | 20, hv => rw [add_field _ _ 20 (by omega)]; exact (Option.some.inj hv) ▸ s20
    | 21, hv => rw [add_field _ _ 21 (by omega)]; exact (Option.some.inj hv) ▸ s21
    | 22, hv => rw [add_field _ _ 22 (by omega)]; exact (Option.some.inj hv) ▸ s22
    | 23, hv => rw [add_field _ _ 23 (by omega)]; exact (Option.some.inj hv) ▸ s23
    | 24, hv => rw [add_field _ _ 24 (by omega)]; exact (Option.some.inj hv) ▸ s24
    | (j + 25), hv => simp at hv
  refine Kd.event_run hgd (v := .agg #[v0, v1, v2, v3, v4, v5, v6, v7, v8, v9, v10, v11, v12, v13, v14, v15, v16, v17, v18, v19, v20, v21, v22, v23, v24]) (w1 := w) ?_ h
  have hl := ldC47_ (P := Tryd.prog) (w := w) (a := ad.add m) (t := 27) [v0, v1, v2, v3, v4, v5, v6, v7, v8, v9, v10, v11, v12, v13, v14, v15, v16, v17, v18, v19, v20, v21, v22, v23, v24] hc Tryd.underlying27 rfl (by kernel_rfl)
  unfold execOp
  simp only [ho, hx]
  simp only [Sem.run_bind, hl, Result.andThen, Sem.run_pure]
def corebankref38_Total.l0 : Nat → List (S27) → Int → Int → Int → Option (Int × Int)
 | 0, _, _, _, _ => none
 | k + 1, x0, x1, x6, x7 => if x7 < (x0.length : Int) then (if 0 ≤ x7 then ((corebankref38_Expected.f k ((rd_T27 x0 x7).f0) ((rd_T27 x0 x7).f1) ((rd_T27 x0 x7).f2) ((rd_T27 x0 x7).f3) ((rd_T27 x0 x7).f4) ((rd_T27 x0 x7).f5) ((rd_T27 x0 x7).f6) ((rd_T27 x0 x7).f7) ((rd_T27 x0 x7).f8) ((rd_T27 x0 x7).f9) ((rd_T27 x0 x7).f10) ((rd_T27 x0 x7).f11.f0) ((rd_T27 x0 x7).f11.f1) ((rd_T27 x0 x7).f11.f2) ((rd_T27 x0 x7).f11.f3) ((rd_T27 x0 x7).f11.f4) ((rd_T27 x0 x7).f11.f5) ((rd_T27 x0 x7).f11.f6) ((rd_T27 x0 x7).f11.f7) ((rd_T27 x0 x7).f11.f8) ((rd_T27 x0 x7).f11.f9) ((rd_T27 x0 x7).f11.f10) ((rd_T27 x0 x7).f11.f11) ((rd_T27 x0 x7).f12) ((rd_T27 x0 x7).f13) x1).bind fun bt471 => (if bt471.2 = 0 then (corebankref38_Total.l0 k x0 x1 (wrap64 (x6 + bt471.1)) (wrap64 (x7 + 1))) else (some (0, bt471.2)))) else (none)) else ((corebankref02_Good.f x6).bind fun t473 => (if t473 = true then (some (x6, 0)) else (some (0, 6))))
def corebankref38_Total.f (k : Nat) (l0 : List (S27)) (a1 : Int) : Option (Int × Int) := corebankref38_Total.l0 k l0 a1 0 0
theorem corebankref38_Total.mono_l : ∀ k, (∀ y0 y1 y2 y3, LeO (corebankref38_Total.l0 k y0 y1 y2 y3) (corebankref38_Total.l0 (k + 1) y0 y1 y2 y3))
 | 0 => fun _ _ _ _ r h => by simp [corebankref38_Total.l0] at h
 | k + 1 => by
  have ih0 := corebankref38_Total.mono_l k
  ·intro y0 y1 y2 y3
   unfold corebankref38_Total.l0
   repeat' first
   | (with_reducible exact ih0 _ _ _ _)
   | (with_reducible exact corebankref38_Expected.mono _ _ _ _ _ _ _ _ _ _ _ _ _ _ _ _ _ _ _ _ _ _ _ _ _ _ _)
   | (with_reducible exact LeO.refl _)
   | (with_reducible exact LeO.none _)
   | (with_reducible refine LeO.ite ?_ ?_)
   | (with_reducible refine LeO.bind ?_ (fun _ => ?_))
   | exact ih0 _ _ _ _
   | exact corebankref38_Expected.mono _ _ _ _ _ _ _ _ _ _ _ _ _ _ _ _ _ _ _ _ _ _ _ _ _ _ _
   | exact LeO.none _
   | refine LeO.ite ?_ ?_
   | refine LeO.bind ?_ (fun _ => ?_)
theorem corebankref38_Total.mono : ∀ a0 a1 k, LeO (corebankref38_Total.f k a0 a1) (corebankref38_Total.f (k + 1) a0 a1) := by
 intro a0 a1 k
 have ih0 := corebankref38_Total.mono_l k
 unfold corebankref38_Total.f
 repeat' first
   | (with_reducible exact ih0 _ _ _ _)
   | (with_reducible exact corebankref38_Expected.mono _ _ _ _ _ _ _ _ _ _ _ _ _ _ _ _ _ _ _ _ _ _ _ _ _ _ _)
   | (with_reducible exact LeO.refl _)
   | (with_reducible exact LeO.none _)
   | (with_reducible refine LeO.ite ?_ ?_)
   | (with_reducible refine LeO.bind ?_ (fun _ => ?_))
   | exact ih0 _ _ _ _
   | exact corebankref38_Expected.mono _ _ _ _ _ _ _ _ _ _ _ _ _ _ _ _ _ _ _ _ _ _ _ _ _ _ _
   | exact LeO.none _
   | refine LeO.ite ?_ ?_
   | refine LeO.bind ?_ (fun _ => ?_)
set_option maxHeartbeats 8000000 in
set_option maxRecDepth 100000 in
theorem corebankref38_Total.calls (k : Nat) (A0 : Option Addr) (c0 : Nat) (l0 : List (S27)) (a1 r1 r2 : Int) (w : World) (hr0 : Kd.C k27 w A0 l0.length l0) (hc0 : l0.length ≤ c0) (h : corebankref38_Total.f k l0 a1 = some (r1, r2)) :
  Calls Tryd.prog 21 #[.slice A0 l0.length c0, .int .i64 a1] w fun e w' => e = .returned (.tuple #[.int .i64 r1, .int .i64 r2]) ∧ Below w.heap.size w w' := by
 have hu27 := Tryd.underlying27
 have HR0 := Aside0.mk hr0
 have HC0 := Aside0.mk hc0
 clear hr0 hc0
 have HB := Aside0.mk (Below.refl w.heap.size w)
 have H : (corebankref38_Total.l0 k l0 a1 0 0) = some (r1, r2) := h
 clear h
 have H' := Aside0.mk H
 clear H
 go_enter Tryd.func21, Tryd.ntmps21
 go_wp2
 go_loopg [6, 7] k (fun kq v6 v7 w' => ∃ (x6_1 x7_1 : Int), v6 = .int .i64 x6_1 ∧ v7 = .int .i64 x7_1 ∧ Aside0 (corebankref38_Total.l0 kq l0 a1 x6_1 x7_1 = some (r1, r2)) ∧ Aside0 (kq ≤ k) ∧ Aside0 (Below w.heap.size w w'))
 case atStart => exact ⟨(0), (0), qs_, qs_, H', ⟨Nat.le_refl _⟩, ⟨qb_ HB.out⟩⟩
 case round =>
  clear H'
  try clear c2
  try clear p2
  obtain ⟨x6_1, x7_1, rfl, rfl, HA, HK1, HB⟩ := hrel
  cases gk with
  | zero => exact absurd HA.out (by simp [corebankref38_Total.l0])
  | succ k1 =>
   have H := HA.out
   clear HA
   simp only [corebankref38_Total.l0] at H
   by_cases c3 : x7_1 < (l0.length : Int)
   ·rw [if_pos c3] at H
    have c3b0 : decide (x7_1 < (l0.length : Int)) = true := decide_eq_true c3
    clear c3
    by_cases c4 : 0 ≤ x7_1
    ·rw [if_pos c4] at H
     have c4b0 : decide (0 ≤ x7_1) = true := decide_eq_true c4
     clear c4
     replace H := Option.bind_eq_some_iff.mp H
     obtain ⟨⟨t471, t472⟩, A50, H⟩ := H
     replace H : (if t472 = 0 then (corebankref38_Total.l0 k1 l0 a1 (wrap64 (x6_1 + t471)) (wrap64 (x7_1 + 1))) else (some (0, t472))) = some (r1, r2) := H
     have A5 := Aside0.mk A50
     clear A50
     by_cases c6 : t472 = 0
     ·rw [if_pos c6] at H
      have c6b0 : (t472 == 0) = true := beq_iff_eq.mpr c6
      have c6b1 : (t472 != 0) = false := bne_eq_false_iff_eq.mpr c6
      clear c6
      have H' := Aside0.mk H
      clear H
      have p470 : 0 ≤ (x7_1 : Int) := of_decide_eq_true (by first | (with_reducible assumption) | assumption)
      have q470 : x7_1 < (l0.length : Int) := of_decide_eq_true (by first | (with_reducible assumption) | assumption)
      obtain ⟨ad470, A470_23, c470_23, A470_24, c470_24, e470, hx470_0, hx470_1, hx470_2, hx470_3, hx470_4, hx470_5, hx470_6, hx470_7, hx470_8, hx470_9, hx470_10, hx470_11, hx470_12, hx470_13, hx470_14, hx470_15, hx470_16, hx470_17, hx470_18, hx470_19, hx470_20, hx470_21, hx470_22, hx470_23, hx470_24, hl470_23, hi470_23, hl470_24, hi470_24⟩ := at_T27 HR0.out x7_1 p470 q470
      cases e470
      replace hx470_0 := bx_ HB.out hx470_0
      replace hx470_1 := bx_ HB.out hx470_1
      replace hx470_2 := bx_ HB.out hx470_2
      replace hx470_3 := bx_ HB.out hx470_3
      replace hx470_4 := bx_ HB.out hx470_4
      replace hx470_5 := bx_ HB.out hx470_5
      replace hx470_6 := bx_ HB.out hx470_6
      replace hx470_7 := bx_ HB.out hx470_7
      replace hx470_8 := bx_ HB.out hx470_8
      replace hx470_9 := bx_ HB.out hx470_9
      replace hx470_10 := bx_ HB.out hx470_10
      replace hx470_11 := bx_ HB.out hx470_11
      replace hx470_12 := bx_ HB.out hx470_12
      replace hx470_13 := bx_ HB.out hx470_13
      replace hx470_14 := bx_ HB.out hx470_14
      replace hx470_15 := bx_ HB.out hx470_15
      replace hx470_16 := bx_ HB.out hx470_16
      replace hx470_17 := bx_ HB.out hx470_17
      replace hx470_18 := bx_ HB.out hx470_18
      replace hx470_19 := bx_ HB.out hx470_19
      replace hx470_20 := bx_ HB.out hx470_20
      replace hx470_21 := bx_ HB.out hx470_21
      replace hx470_22 := bx_ HB.out hx470_22
      replace hx470_23 := bx_ HB.out hx470_23
      replace hx470_24 := bx_ HB.out hx470_24
      have HR470_23 := Aside0.mk hi470_23
      have HC470_23 := Aside0.mk hl470_23
      clear hi470_23 hl470_23
      have HR470_24 := Aside0.mk hi470_24
      have HC470_24 := Aside0.mk hl470_24
      clear hi470_24 hl470_24
      replace p470 := eq_true p470
      replace q470 := eq_true q470
      go_wp2_with (first | ((with_reducible refine gate_load_ (t := 27) rfl ?_); refine ldE47_ (ad := ad470) (by rfl) (by rfl) (by rfl) hx470_0 hx470_1 hx470_2 hx470_3 hx470_4 hx470_5 hx470_6 hx470_7 hx470_8 hx470_9 hx470_10 hx470_11 hx470_12 hx470_13 hx470_14 hx470_15 hx470_16 hx470_17 hx470_18 hx470_19 hx470_20 hx470_21 hx470_22 hx470_23 hx470_24 ?_) | ((with_reducible refine gate_callee (f := 15) rfl ?_); refine goesL_ (some 22) rfl rfl Tryd.func15 (by kernel_rfl) rfl #[.agg #[.int .i64 ((rd_T27 l0 x7_1).f0), .int .i64 ((rd_T27 l0 x7_1).f1), .int .i64 ((rd_T27 l0 x7_1).f2), .int .i64 ((rd_T27 l0 x7_1).f3), .int .i64 ((rd_T27 l0 x7_1).f4), .int .i64 ((rd_T27 l0 x7_1).f5), .int .i64 ((rd_T27 l0 x7_1).f6), .int .i64 ((rd_T27 l0 x7_1).f7), .int .i64 ((rd_T27 l0 x7_1).f8), .int .i64 ((rd_T27 l0 x7_1).f9), .int .i64 ((rd_T27 l0 x7_1).f10), .int .i64 ((rd_T27 l0 x7_1).f11.f0), .int .i64 ((rd_T27 l0 x7_1).f11.f1), .int .i64 ((rd_T27 l0 x7_1).f11.f2), .int .i64 ((rd_T27 l0 x7_1).f11.f3), .int .i64 ((rd_T27 l0 x7_1).f11.f4), .int .i64 ((rd_T27 l0 x7_1).f11.f5), .int .i64 ((rd_T27 l0 x7_1).f11.f6), .int .i64 ((rd_T27 l0 x7_1).f11.f7), .int .i64 ((rd_T27 l0 x7_1).f11.f8), .int .i64 ((rd_T27 l0 x7_1).f11.f9), .string ((rd_T27 l0 x7_1).f11.f10), .string ((rd_T27 l0 x7_1).f11.f11), .slice A470_23 ((rd_T27 l0 x7_1).f12).length c470_23, .slice A470_24 ((rd_T27 l0 x7_1).f13).length c470_24], .int .i64 a1] rfl ql_ ?_; (with_reducible refine (corebankref38_Expected.calls k1 ((rd_T27 l0 x7_1).f0) ((rd_T27 l0 x7_1).f1) ((rd_T27 l0 x7_1).f2) ((rd_T27 l0 x7_1).f3) ((rd_T27 l0 x7_1).f4) ((rd_T27 l0 x7_1).f5) ((rd_T27 l0 x7_1).f6) ((rd_T27 l0 x7_1).f7) ((rd_T27 l0 x7_1).f8) ((rd_T27 l0 x7_1).f9) ((rd_T27 l0 x7_1).f10) ((rd_T27 l0 x7_1).f11.f0) ((rd_T27 l0 x7_1).f11.f1) ((rd_T27 l0 x7_1).f11.f2) ((rd_T27 l0 x7_1).f11.f3) ((rd_T27 l0 x7_1).f11.f4) ((rd_T27 l0 x7_1).f11.f5) ((rd_T27 l0 x7_1).f11.f6) ((rd_T27 l0 x7_1).f11.f7) ((rd_T27 l0 x7_1).f11.f8) ((rd_T27 l0 x7_1).f11.f9) ((rd_T27 l0 x7_1).f11.f10) ((rd_T27 l0 x7_1).f11.f11) _ _ ((rd_T27 l0 x7_1).f12) _ _ ((rd_T27 l0 x7_1).f13) a1 t471 t472 _ ?side1 ?side2 ?side3 ?side4 A5.out).mono ?_); (case side1 => repeat (first | exact (Kd.C_below HR470_23.out HB.out) | (with_reducible refine Kd.C_alloc ?_ _) | (with_reducible refine Kd.C_drewN ?_ _) | (with_reducible refine Kd.C_drew ?_))); (case side2 => exact HC470_23.out); (case side3 => repeat (first | exact (Kd.C_below HR470_24.out HB.out) | (with_reducible refine Kd.C_alloc ?_ _) | (with_reducible refine Kd.C_drewN ?_ _) | (with_reducible refine Kd.C_drew ?_))); (case side4 => exact HC470_24.out); rintro e w7 ⟨rfl, hb⟩; refine ⟨_, rfl, ?_⟩; have n0_ := Aside0.mk (below_step (qb_ HB.out) hb); clear HB; have HB := n0_; clear n0_; (try clear hb); (try clear hb2); (try clear hk); (try clear hi)))
      go_roundg k1
      case measure => have := HK1.out; omega
      case rel => exact ⟨(wrap64 (x6_1 + t471)), (wrap64 (x7_1 + 1)), qs_, qs_, H', ⟨by have := HK1.out; omega⟩, ⟨qb_ HB.out⟩⟩
     ·rw [if_neg c6] at H
      have c6b0 : (t472 == 0) = false := beq_eq_false_iff_ne.mpr c6
      have c6b1 : (t472 != 0) = true := bne_iff_ne.mpr c6
      simp only [Option.some.injEq, Prod.mk.injEq] at H
      obtain ⟨rfl, rfl⟩ := H
      have p470 : 0 ≤ (x7_1 : Int) := of_decide_eq_true (by first | (with_reducible assumption) | assumption)
      have q470 : x7_1 < (l0.length : Int) := of_decide_eq_true (by first | (with_reducible assumption) | assumption)
      obtain ⟨ad470, A470_23, c470_23, A470_24, c470_24, e470, hx470_0, hx470_1, hx470_2, hx470_3, hx470_4, hx470_5, hx470_6, hx470_7, hx470_8, hx470_9, hx470_10, hx470_11, hx470_12, hx470_13, hx470_14, hx470_15, hx470_16, hx470_17, hx470_18, hx470_19, hx470_20, hx470_21, hx470_22, hx470_23, hx470_24, hl470_23, hi470_23, hl470_24, hi470_24⟩ := at_T27 HR0.out x7_1 p470 q470
      cases e470
      replace hx470_0 := bx_ HB.out hx470_0
      replace hx470_1 := bx_ HB.out hx470_1
      replace hx470_2 := bx_ HB.out hx470_2
      replace hx470_3 := bx_ HB.out hx470_3
      replace hx470_4 := bx_ HB.out hx470_4
      replace hx470_5 := bx_ HB.out hx470_5
      replace hx470_6 := bx_ HB.out hx470_6
      replace hx470_7 := bx_ HB.out hx470_7
      replace hx470_8 := bx_ HB.out hx470_8
      replace hx470_9 := bx_ HB.out hx470_9
      replace hx470_10 := bx_ HB.out hx470_10
      replace hx470_11 := bx_ HB.out hx470_11
      replace hx470_12 := bx_ HB.out hx470_12
      replace hx470_13 := bx_ HB.out hx470_13
      replace hx470_14 := bx_ HB.out hx470_14
      replace hx470_15 := bx_ HB.out hx470_15
      replace hx470_16 := bx_ HB.out hx470_16
      replace hx470_17 := bx_ HB.out hx470_17
      replace hx470_18 := bx_ HB.out hx470_18
      replace hx470_19 := bx_ HB.out hx470_19
      replace hx470_20 := bx_ HB.out hx470_20
      replace hx470_21 := bx_ HB.out hx470_21
      replace hx470_22 := bx_ HB.out hx470_22
      replace hx470_23 := bx_ HB.out hx470_23
      replace hx470_24 := bx_ HB.out hx470_24
      have HR470_23 := Aside0.mk hi470_23
      have HC470_23 := Aside0.mk hl470_23
      clear hi470_23 hl470_23
      have HR470_24 := Aside0.mk hi470_24
      have HC470_24 := Aside0.mk hl470_24
      clear hi470_24 hl470_24
      replace p470 := eq_true p470
      replace q470 := eq_true q470
      go_wp2_with (first | ((with_reducible refine gate_load_ (t := 27) rfl ?_); refine ldE47_ (ad := ad470) (by rfl) (by rfl) (by rfl) hx470_0 hx470_1 hx470_2 hx470_3 hx470_4 hx470_5 hx470_6 hx470_7 hx470_8 hx470_9 hx470_10 hx470_11 hx470_12 hx470_13 hx470_14 hx470_15 hx470_16 hx470_17 hx470_18 hx470_19 hx470_20 hx470_21 hx470_22 hx470_23 hx470_24 ?_) | ((with_reducible refine gate_callee (f := 15) rfl ?_); refine goesL_ (some 22) rfl rfl Tryd.func15 (by kernel_rfl) rfl #[.agg #[.int .i64 ((rd_T27 l0 x7_1).f0), .int .i64 ((rd_T27 l0 x7_1).f1), .int .i64 ((rd_T27 l0 x7_1).f2), .int .i64 ((rd_T27 l0 x7_1).f3), .int .i64 ((rd_T27 l0 x7_1).f4), .int .i64 ((rd_T27 l0 x7_1).f5), .int .i64 ((rd_T27 l0 x7_1).f6), .int .i64 ((rd_T27 l0 x7_1).f7), .int .i64 ((rd_T27 l0 x7_1).f8), .int .i64 ((rd_T27 l0 x7_1).f9), .int .i64 ((rd_T27 l0 x7_1).f10), .int .i64 ((rd_T27 l0 x7_1).f11.f0), .int .i64 ((rd_T27 l0 x7_1).f11.f1), .int .i64 ((rd_T27 l0 x7_1).f11.f2), .int .i64 ((rd_T27 l0 x7_1).f11.f3), .int .i64 ((rd_T27 l0 x7_1).f11.f4), .int .i64 ((rd_T27 l0 x7_1).f11.f5), .int .i64 ((rd_T27 l0 x7_1).f11.f6), .int .i64 ((rd_T27 l0 x7_1).f11.f7), .int .i64 ((rd_T27 l0 x7_1).f11.f8), .int .i64 ((rd_T27 l0 x7_1).f11.f9), .string ((rd_T27 l0 x7_1).f11.f10), .string ((rd_T27 l0 x7_1).f11.f11), .slice A470_23 ((rd_T27 l0 x7_1).f12).length c470_23, .slice A470_24 ((rd_T27 l0 x7_1).f13).length c470_24], .int .i64 a1] rfl ql_ ?_; (with_reducible refine (corebankref38_Expected.calls k1 ((rd_T27 l0 x7_1).f0) ((rd_T27 l0 x7_1).f1) ((rd_T27 l0 x7_1).f2) ((rd_T27 l0 x7_1).f3) ((rd_T27 l0 x7_1).f4) ((rd_T27 l0 x7_1).f5) ((rd_T27 l0 x7_1).f6) ((rd_T27 l0 x7_1).f7) ((rd_T27 l0 x7_1).f8) ((rd_T27 l0 x7_1).f9) ((rd_T27 l0 x7_1).f10) ((rd_T27 l0 x7_1).f11.f0) ((rd_T27 l0 x7_1).f11.f1) ((rd_T27 l0 x7_1).f11.f2) ((rd_T27 l0 x7_1).f11.f3) ((rd_T27 l0 x7_1).f11.f4) ((rd_T27 l0 x7_1).f11.f5) ((rd_T27 l0 x7_1).f11.f6) ((rd_T27 l0 x7_1).f11.f7) ((rd_T27 l0 x7_1).f11.f8) ((rd_T27 l0 x7_1).f11.f9) ((rd_T27 l0 x7_1).f11.f10) ((rd_T27 l0 x7_1).f11.f11) _ _ ((rd_T27 l0 x7_1).f12) _ _ ((rd_T27 l0 x7_1).f13) a1 t471 t472 _ ?side1 ?side2 ?side3 ?side4 A5.out).mono ?_); (case side1 => repeat (first | exact (Kd.C_below HR470_23.out HB.out) | (with_reducible refine Kd.C_alloc ?_ _) | (with_reducible refine Kd.C_drewN ?_ _) | (with_reducible refine Kd.C_drew ?_))); (case side2 => exact HC470_23.out); (case side3 => repeat (first | exact (Kd.C_below HR470_24.out HB.out) | (with_reducible refine Kd.C_alloc ?_ _) | (with_reducible refine Kd.C_drewN ?_ _) | (with_reducible refine Kd.C_drew ?_))); (case side4 => exact HC470_24.out); rintro e w8 ⟨rfl, hb⟩; refine ⟨_, rfl, ?_⟩; have n0_ := Aside0.mk (below_step (qb_ HB.out) hb); clear HB; have HB := n0_; clear n0_; (try clear hb); (try clear hb2); (try clear hk); (try clear hi)))
      go_ret2
      exact ⟨qe_, qb_ HB.out⟩
    ·rw [if_neg c4] at H
     exact absurd H (by simp)
   ·rw [if_neg c3] at H
    have c3b0 : decide (x7_1 < (l0.length : Int)) = false := decide_eq_false c3
    clear c3
    replace H := Option.bind_eq_some_iff.mp H
    obtain ⟨t473, A90, H⟩ := H
    replace H : (if t473 = true then (some (x6_1, 0)) else (some (0, 6))) = some (r1, r2) := H
    have A9 := Aside0.mk A90
    clear A90
    by_cases c10 : t473 = true
    ·subst c10
     have H1 : (some (x6_1, 0)) = some (r1, r2) := by rw [if_pos rfl] at H; exact H
     clear H
     have H := H1
     clear H1
     simp only [Option.some.injEq, Prod.mk.injEq] at H
     obtain ⟨rfl, rfl⟩ := H
     go_wp2_with (first | ((with_reducible refine gate_load_ (t := 27) rfl ?_); refine ldE47_ (ad := ad470) (by rfl) (by rfl) (by rfl) hx470_0 hx470_1 hx470_2 hx470_3 hx470_4 hx470_5 hx470_6 hx470_7 hx470_8 hx470_9 hx470_10 hx470_11 hx470_12 hx470_13 hx470_14 hx470_15 hx470_16 hx470_17 hx470_18 hx470_19 hx470_20 hx470_21 hx470_22 hx470_23 hx470_24 ?_) | ((with_reducible refine gate_callee (f := 23) rfl ?_); refine goesL_ (some 32) rfl rfl Tryd.func23 (by kernel_rfl) rfl #[.int .i64 x6_1] rfl ql_ ?_; (with_reducible refine (corebankref02_Good.calls x6_1 true _ A9.out).mono ?_); rintro e w' ⟨rfl, ⟨nd, rfl⟩⟩; refine ⟨_, rfl, ?_⟩))
     go_ret2
     exact ⟨qe_, qb_ HB.out⟩
    ·replace c10 := Bool.eq_false_iff.mpr c10
     subst c10
     have H1 : (some (0, 6)) = some (r1, r2) := by rw [if_neg (show ¬ (false = true) by decide)] at H; exact H
     clear H
     have H := H1
     clear H1
     simp only [Option.some.injEq, Prod.mk.injEq] at H
     obtain ⟨rfl, rfl⟩ := H
     go_wp2_with (first | ((with_reducible refine gate_load_ (t := 27) rfl ?_); refine ldE47_ (ad := ad470) (by rfl) (by rfl) (by rfl) hx470_0 hx470_1 hx470_2 hx470_3 hx470_4 hx470_5 hx470_6 hx470_7 hx470_8 hx470_9 hx470_10 hx470_11 hx470_12 hx470_13 hx470_14 hx470_15 hx470_16 hx470_17 hx470_18 hx470_19 hx470_20 hx470_21 hx470_22 hx470_23 hx470_24 ?_) | ((with_reducible refine gate_callee (f := 23) rfl ?_); refine goesL_ (some 32) rfl rfl Tryd.func23 (by kernel_rfl) rfl #[.int .i64 x6_1] rfl ql_ ?_; (with_reducible refine (corebankref02_Good.calls x6_1 false _ A9.out).mono ?_); rintro e w' ⟨rfl, ⟨nd, rfl⟩⟩; refine ⟨_, rfl, ?_⟩))
     go_ret2
     exact ⟨qe_, qb_ HB.out⟩
def corebanklaw38_ProvisionTotals.f (k : Nat) (l0 : List (S27)) (a1 : Int) : Option (Bool) := (corebankref38_GreatList.f k l0).bind fun t474 => (if t474 = true then ((corebanklaw38_Live.f k).bind fun t475 => (some t475)) else ((provision_Total.f k l0 a1).bind fun bt476 => ((corebankref38_Total.f k l0 a1).bind fun bt478 => (if bt476.1 = bt478.1 then (if bt476.2 = bt478.2 then ((corebanklaw38_Live.f k).bind fun t480 => (some t480)) else (some false)) else (some false)))))
theorem corebanklaw38_ProvisionTotals.mono : ∀ a0 a1 k, LeO (corebanklaw38_ProvisionTotals.f k a0 a1) (corebanklaw38_ProvisionTotals.f (k + 1) a0 a1) := by
 intro a0 a1 k
 unfold corebanklaw38_ProvisionTotals.f
 repeat' first
   | (with_reducible exact corebanklaw38_Live.mono _)
   | (with_reducible exact corebankref38_GreatList.mono _ _)
   | (with_reducible exact corebankref38_Total.mono _ _ _)
   | (with_reducible exact provision_Total.mono _ _ _)
   | (with_reducible exact LeO.refl _)
   | (with_reducible exact LeO.none _)
   | (with_reducible refine LeO.ite ?_ ?_)
   | (with_reducible refine LeO.bind ?_ (fun _ => ?_))
   | exact corebanklaw38_Live.mono _
   | exact corebankref38_GreatList.mono _ _
   | exact corebankref38_Total.mono _ _ _
   | exact provision_Total.mono _ _ _
   | exact LeO.none _
   | refine LeO.ite ?_ ?_
   | refine LeO.bind ?_ (fun _ => ?_)
set_option maxHeartbeats 8000000 in
set_option maxRecDepth 100000 in
theorem corebanklaw38_ProvisionTotals.calls1 (k : Nat) (A0 : Option Addr) (c0 : Nat) (l0 : List (S27)) (a1 : Int) (w : World) (hG : GW w) (hr0 : Kd.C k27 w A0 l0.length l0) (hc0 : l0.length ≤ c0) (h : corebanklaw38_ProvisionTotals.f k l0 a1 = some true) :
  Calls Tryd.prog 5 #[.slice A0 l0.length c0, .int .i64 a1] w fun e w' => e = .returned (.bool true) ∧ Below w.heap.size w w' := by
 have HR0 := Aside0.mk hr0
 have HC0 := Aside0.mk hc0
 clear hr0 hc0
 have HB := Aside0.mk (Below.refl w.heap.size w)
 have H : ((corebankref38_GreatList.f k l0).bind fun t474 => (if t474 = true then ((corebanklaw38_Live.f k).bind fun t475 => (some t475)) else ((provision_Total.f k l0 a1).bind fun bt476 => ((corebankref38_Total.f k l0 a1).bind fun bt478 => (if bt476.1 = bt478.1 then (if bt476.2 = bt478.2 then ((corebanklaw38_Live.f k).bind fun t480 => (some t480)) else (some false)) else (some false)))))) = some true := h
 clear h
 replace H := Option.bind_eq_some_iff.mp H
 obtain ⟨t474, A30, H⟩ := H
 replace H : (if t474 = true then ((corebanklaw38_Live.f k).bind fun t475 => (some t475)) else ((provision_Total.f k l0 a1).bind fun bt476 => ((corebankref38_Total.f k l0 a1).bind fun bt478 => (if bt476.1 = bt478.1 then (if bt476.2 = bt478.2 then ((corebanklaw38_Live.f k).bind fun t480 => (some t480)) else (some false)) else (some false))))) = some true := H
 have A3 := Aside0.mk A30
 clear A30
 by_cases c4 : t474 = true
 ·subst c4
  have H1 : ((corebanklaw38_Live.f k).bind fun t475 => (some t475)) = some true := by rw [if_pos rfl] at H; exact H
  clear H
  have H := H1
  clear H1
  replace H := Option.bind_eq_some_iff.mp H
  obtain ⟨t475, A50, H⟩ := H
  replace H : (some t475) = some true := H
  have A5 := Aside0.mk A50
  clear A50
  have HL_ := Option.some.inj H
  go_enter Tryd.func5, Tryd.ntmps5
  go_wp2_with (first | ((with_reducible refine gate_callee (f := 19) rfl ?_); refine goesL_ (some 10) rfl rfl Tryd.func19 (by kernel_rfl) rfl #[.slice A0 l0.length c0] rfl ql_ ?_; (with_reducible refine (corebankref38_GreatList.calls k _ _ l0 true _ ?side1 ?side2 A3.out).mono ?_); (case side1 => repeat (first | exact HR0.out | (with_reducible refine Kd.C_alloc ?_ _) | (with_reducible refine Kd.C_drewN ?_ _) | (with_reducible refine Kd.C_drew ?_))); (case side2 => exact HC0.out); rintro e w6 ⟨rfl, hb⟩; refine ⟨_, rfl, ?_⟩; have n0_ := Aside0.mk (below_step (qb_ HB.out) hb); clear HB; have HB := n0_; clear n0_; (try clear hb); (try clear hb2); (try clear hk); (try clear hi)) | ((with_reducible refine gate_callee (f := 13) rfl ?_); refine goesL_ (some 11) rfl rfl Tryd.func13 (by kernel_rfl) rfl #[] rfl ql_ ?_; (with_reducible refine (corebanklaw38_Live.calls (hG := by first | exact hG | (with_reducible exact GW.below hG (qb_ HB.out)) | (with_reducible repeat (first | exact hG | apply GW.drewN | apply GW.drew))) k  t475 _ A5.out).mono ?_); rintro e w7 ⟨rfl, hb⟩; refine ⟨_, rfl, ?_⟩; have n0_ := Aside0.mk (below_step (qb_ HB.out) hb); clear HB; have HB := n0_; clear n0_; (try clear hb); (try clear hb2); (try clear hk); (try clear hi)))
  go_ret
  exact ⟨qe_, qb_ HB.out⟩
 ·replace c4 := Bool.eq_false_iff.mpr c4
  subst c4
  have H1 : ((provision_Total.f k l0 a1).bind fun bt476 => ((corebankref38_Total.f k l0 a1).bind fun bt478 => (if bt476.1 = bt478.1 then (if bt476.2 = bt478.2 then ((corebanklaw38_Live.f k).bind fun t480 => (some t480)) else (some false)) else (some false)))) = some true := by rw [if_neg (show ¬ (false = true) by decide)] at H; exact H
  clear H
  have H := H1
  clear H1
  replace H := Option.bind_eq_some_iff.mp H
  obtain ⟨⟨t476, t477⟩, A80, H⟩ := H
  replace H : ((corebankref38_Total.f k l0 a1).bind fun bt478 => (if t476 = bt478.1 then (if t477 = bt478.2 then ((corebanklaw38_Live.f k).bind fun t480 => (some t480)) else (some false)) else (some false))) = some true := H
  have A8 := Aside0.mk A80
  clear A80
  replace H := Option.bind_eq_some_iff.mp H
  obtain ⟨⟨t478, t479⟩, A90, H⟩ := H
  replace H : (if t476 = t478 then (if t477 = t479 then ((corebanklaw38_Live.f k).bind fun t480 => (some t480)) else (some false)) else (some false)) = some true := H
  have A9 := Aside0.mk A90
  clear A90
  by_cases c10 : t476 = t478
  ·rw [if_pos c10] at H
   have c10b0 : (t476 == t478) = true := beq_iff_eq.mpr c10
   have c10b1 : (t476 != t478) = false := bne_eq_false_iff_eq.mpr c10
   clear c10
   by_cases c11 : t477 = t479
   ·rw [if_pos c11] at H
    have c11b0 : (t477 == t479) = true := beq_iff_eq.mpr c11
    have c11b1 : (t477 != t479) = false := bne_eq_false_iff_eq.mpr c11
    clear c11
    replace H := Option.bind_eq_some_iff.mp H
    obtain ⟨t480, A120, H⟩ := H
    replace H : (some t480) = some true := H
    have A12 := Aside0.mk A120
    clear A120
    have HL_ := Option.some.inj H
    go_enter Tryd.func5, Tryd.ntmps5
    go_wp2_with (first | ((with_reducible refine gate_callee (f := 19) rfl ?_); refine goesL_ (some 10) rfl rfl Tryd.func19 (by kernel_rfl) rfl #[.slice A0 l0.length c0] rfl ql_ ?_; (with_reducible refine (corebankref38_GreatList.calls k _ _ l0 false _ ?side1 ?side2 A3.out).mono ?_); (case side1 => repeat (first | exact HR0.out | (with_reducible refine Kd.C_alloc ?_ _) | (with_reducible refine Kd.C_drewN ?_ _) | (with_reducible refine Kd.C_drew ?_))); (case side2 => exact HC0.out); rintro e w13 ⟨rfl, hb⟩; refine ⟨_, rfl, ?_⟩; have n0_ := Aside0.mk (below_step (qb_ HB.out) hb); clear HB; have HB := n0_; clear n0_; (try clear hb); (try clear hb2); (try clear hk); (try clear hi)) | ((with_reducible refine gate_callee (f := 20) rfl ?_); refine goesL_ (some 15) rfl rfl Tryd.func20 (by kernel_rfl) rfl #[.slice A0 l0.length c0, .int .i64 a1] rfl ql_ ?_; (with_reducible refine (provision_Total.calls (hG := by first | exact hG | (with_reducible exact GW.below hG (qb_ HB.out)) | (with_reducible repeat (first | exact hG | apply GW.drewN | apply GW.drew))) k _ _ l0 a1 t476 t477 _ ?side1 ?side2 A8.out).mono ?_); (case side1 => repeat (first | exact (Kd.C_below HR0.out HB.out) | (with_reducible refine Kd.C_alloc ?_ _) | (with_reducible refine Kd.C_drewN ?_ _) | (with_reducible refine Kd.C_drew ?_))); (case side2 => exact HC0.out); rintro e w14 ⟨rfl, hb⟩; refine ⟨_, rfl, ?_⟩; have n0_ := Aside0.mk (below_step (qb_ HB.out) hb); clear HB; have HB := n0_; clear n0_; (try clear hb); (try clear hb2); (try clear hk); (try clear hi)) | ((with_reducible refine gate_callee (f := 21) rfl ?_); refine goesL_ (some 21) rfl rfl Tryd.func21 (by kernel_rfl) rfl #[.slice A0 l0.length c0, .int .i64 a1] rfl ql_ ?_; (with_reducible refine (corebankref38_Total.calls k _ _ l0 a1 t478 t479 _ ?side1 ?side2 A9.out).mono ?_); (case side1 => repeat (first | exact (Kd.C_below HR0.out HB.out) | (with_reducible refine Kd.C_alloc ?_ _) | (with_reducible refine Kd.C_drewN ?_ _) | (with_reducible refine Kd.C_drew ?_))); (case side2 => exact HC0.out); rintro e w15 ⟨rfl, hb⟩; refine ⟨_, rfl, ?_⟩; have n0_ := Aside0.mk (below_step (qb_ HB.out) hb); clear HB; have HB := n0_; clear n0_; (try clear hb); (try clear hb2); (try clear hk); (try clear hi)) | (go_at_call 13; (with_reducible refine (corebanklaw38_Live.calls (hG := by first | exact hG | (with_reducible exact GW.below hG (qb_ HB.out)) | (with_reducible repeat (first | exact hG | apply GW.drewN | apply GW.drew))) k  t480 _ A12.out).mono ?_); rintro e w16 ⟨rfl, hb⟩; have n0_ := Aside0.mk (below_step (qb_ HB.out) hb); clear HB; have HB := n0_; clear n0_; (try clear hb); (try clear hb2); (try clear hk); (try clear hi)))
    go_ret
    exact ⟨qe_, qb_ HB.out⟩
   ·rw [if_neg c11] at H
    have c11b0 : (t477 == t479) = false := beq_eq_false_iff_ne.mpr c11
    have c11b1 : (t477 != t479) = true := bne_iff_ne.mpr c11
    exact absurd H (by simp)
  ·rw [if_neg c10] at H
   have c10b0 : (t476 == t478) = false := beq_eq_false_iff_ne.mpr c10
   have c10b1 : (t476 != t478) = true := bne_iff_ne.mpr c10
   exact absurd H (by simp)
def corebankref34_within.f (a0 a1 : Int) : Option (Bool) := if a0 ≥ 0 then (some (decide (a0 ≤ a1))) else (some false)
set_option maxHeartbeats 8000000 in
set_option maxRecDepth 100000 in
theorem corebankref34_within.calls (a0 a1 : Int) (r : Bool) (w : World) (h : corebankref34_within.f a0 a1 = some r) :
  Calls Tryd.prog 48 #[.int .i64 a0, .int .i64 a1] w fun e w' => e = .returned (.bool r) ∧ Drawn0 w w' := by
 have H : (if a0 ≥ 0 then (some (decide (a0 ≤ a1))) else (some false)) = some r := h
 clear h
 by_cases c3 : a0 ≥ 0
 ·rw [if_pos c3] at H
  have c3b0 : decide (0 ≤ a0) = true := decide_eq_true c3
  clear c3
  obtain rfl := Option.some.inj H
  go_enter Tryd.func48, Tryd.ntmps48
  go_wp2
  go_ret
  exact ⟨by first | rfl | (simp; done) | (simp [*]; done), by repeat (first | exact Drawn0.refl _ | apply Drawn0.step)⟩
 ·rw [if_neg c3] at H
  have c3b0 : decide (0 ≤ a0) = false := decide_eq_false c3
  clear c3
  obtain rfl := Option.some.inj H
  go_enter Tryd.func48, Tryd.ntmps48
  go_wp2
  go_ret
  exact ⟨by first | rfl | (simp; done) | (simp [*]; done), by repeat (first | exact Drawn0.refl _ | apply Drawn0.step)⟩
def corebankref04_Valid.f (a0 : Int) : Option (Bool) := if a0 ≥ 0 then (some (decide (a0 ≤ 73048))) else (some false)
set_option maxHeartbeats 8000000 in
set_option maxRecDepth 100000 in
theorem corebankref04_Valid.calls (a0 : Int) (r : Bool) (w : World) (h : corebankref04_Valid.f a0 = some r) :
  Calls Tryd.prog 49 #[.int .i64 a0] w fun e w' => e = .returned (.bool r) ∧ Drawn0 w w' := by
 have H : (if a0 ≥ 0 then (some (decide (a0 ≤ 73048))) else (some false)) = some r := h
 clear h
 by_cases c2 : a0 ≥ 0
 ·rw [if_pos c2] at H
  have c2b0 : decide (0 ≤ a0) = true := decide_eq_true c2
  clear c2
  obtain rfl := Option.some.inj H
  go_enter Tryd.func49, Tryd.ntmps49
  go_wp2
  go_ret
  exact ⟨by first | rfl | (simp; done) | (simp [*]; done), by repeat (first | exact Drawn0.refl _ | apply Drawn0.step)⟩
 ·rw [if_neg c2] at H
  have c2b0 : decide (0 ≤ a0) = false := decide_eq_false c2
  clear c2
  obtain rfl := Option.some.inj H
  go_enter Tryd.func49, Tryd.ntmps49
  go_wp2
  go_ret
  exact ⟨by first | rfl | (simp; done) | (simp [*]; done), by repeat (first | exact Drawn0.refl _ | apply Drawn0.step)⟩
end Go.Proofs.YtjkjiibhdpcpkaaDoor.PS
