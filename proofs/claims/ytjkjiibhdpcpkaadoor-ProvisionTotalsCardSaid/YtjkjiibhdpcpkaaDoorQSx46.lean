import Derived.Deep.Slices
import Derived.Test.YtjkjiibhdpcpkaaDoorQRm2
import Derived.Test.YtjkjiibhdpcpkaaDoorQRm9
namespace Go.Proofs.YtjkjiibhdpcpkaaDoor.PS
open Go.RowKit Go.Proofs.YtjkjiibhdpcpkaaDoorW.PrintWords Go.Proofs.YtjkjiibhdpcpkaaDoorW.PrintLast
set_option linter.unusedVariables false
set_option linter.unusedSimpArgs false
theorem ldC46_ {P : Program} {w : World} {a : Addr} {t : TypeId} {d : TypeDesc} (cs : List Value) (hc : ∀ j v, cs[j]? = some v → w.cell? (a.add j) = some v) (hu : P.underlying t = some d)
    (hd : (match d with | .struct _ | .array _ _ => true | _ => false) = true) (hi : (P.info? t).map (·.size) = some cs.length) : (Instr.loadAt t (.pointer (some a))).run P w = .ok (.agg cs.toArray) w := by
  have hl : (loadCells a cs.length).run P w = .ok cs.toArray w := run_loadCells_list (P := P) w a cs hc
  cases hq : P.info? t with
  | none => simp [hq] at hi
  | some i =>
    have hs : i.size = cs.length := by simpa [hq] using hi
    have hagg : (isAgg t).run P w = .ok true w := by
      unfold isAgg
      rw [Sem.run_bind, run_underlying hu w]
      cases d <;> simp_all
    simp only [Instr.loadAt, Instr.sureAddr, Sem.run_bind, Sem.run_pure, Result.andThen]
    simp [loadVar, Sem.run_bind, hagg, sizeOf, typeInfo, hq, hs, hl]
theorem ldE46_ {ops : Array Oper} {rest : List Oper} {o : Oper} {a : Act} {Q : Exit → Act → World → Prop} {w : World} {b : Tmp} {ad : Addr} {m : Nat} {v0 v1 v2 v3 v4 v5 v6 v7 v8 v9 v10 v11 v12 v13 v14 v15 v16 v17 v18 v19 v20 v21 v22 v23 v24 : Value} (ho : o.op = .load 27 (.tmp b)) (hgd : o.guard = none) (hx : a.eval (.tmp b) = .pointer (some (ad.add m)))
    (s0 : w.cell? (ad.add m) = some v0) (s1 : w.cell? ⟨(ad.add m).block, (ad.add m).off + 1, none⟩ = some v1) (s2 : w.cell? ⟨(ad.add m).block, (ad.add m).off + 2, none⟩ = some v2) (s3 : w.cell? ⟨(ad.add m).block, (ad.add m).off + 3, none⟩ = some v3) (s4 : w.cell? ⟨(ad.add m).block, (ad.add m).off + 4, none⟩ = some v4) (s5 : w.cell? ⟨(ad.add m).block, (ad.add m).off + 5, none⟩ = some v5) (s6 : w.cell? ⟨(ad.add m).block, (ad.add m).off + 6, none⟩ = some v6) (s7 : w.cell? ⟨(ad.add m).block, (ad.add m).off + 7, none⟩ = some v7) (s8 : w.cell? ⟨(ad.add m).block, (ad.add m).off + 8, none⟩ = some v8) (s9 : w.cell? ⟨(ad.add m).block, (ad.add m).off + 9, none⟩ = some v9) (s10 : w.cell? ⟨(ad.add m).block, (ad.add m).off + 10, none⟩ = some v10) (s11 : w.cell? ⟨(ad.add m).block, (ad.add m).off + 11, none⟩ = some v11) (s12 : w.cell? ⟨(ad.add m).block, (ad.add m).off + 12, none⟩ = some v12) (s13 : w.cell? ⟨(ad.add m).block, (ad.add m).off + 13, none⟩ = some v13) (s14 : w.cell? ⟨(ad.add m).block, (ad.add m).off + 14, none⟩ = some v14) (s15 : w.cell? ⟨(ad.add m).block, (ad.add m).off + 15, none⟩ = some v15) (s16 : w.cell? ⟨(ad.add m).block, (ad.add m).off + 16, none⟩ = some v16) (s17 : w.cell? ⟨(ad.add m).block, (ad.add m).off + 17, none⟩ = some v17) (s18 : w.cell? ⟨(ad.add m).block, (ad.add m).off + 18, none⟩ = some v18) (s19 : w.cell? ⟨(ad.add m).block, (ad.add m).off + 19, none⟩ = some v19) (s20 : w.cell? ⟨(ad.add m).block, (ad.add m).off + 20, none⟩ = some v20) (s21 : w.cell? ⟨(ad.add m).block, (ad.add m).off + 21, none⟩ = some v21) (s22 : w.cell? ⟨(ad.add m).block, (ad.add m).off + 22, none⟩ = some v22) (s23 : w.cell? ⟨(ad.add m).block, (ad.add m).off + 23, none⟩ = some v23) (s24 : w.cell? ⟨(ad.add m).block, (ad.add m).off + 24, none⟩ = some v24)
    (h : wpList Tryd.prog ops Q rest (a.put o.dst (.agg #[v0, v1, v2, v3, v4, v5, v6, v7, v8, v9, v10, v11, v12, v13, v14, v15, v16, v17, v18, v19, v20, v21, v22, v23, v24])) w) : wpList Tryd.prog ops Q (o :: rest) a w := by
  have hc : ∀ j v, ([v0, v1, v2, v3, v4, v5, v6, v7, v8, v9, v10, v11, v12, v13, v14, v15, v16, v17, v18, v19, v20, v21, v22, v23, v24] : List Value)[j]? = some v → w.cell? ((ad.add m).add j) = some v := by
    intro j v hv
    rw [Go.Deep.add_add]
    match j, hv with
    | 0, hv => exact (Option.some.inj hv) ▸ s0
    | 1, hv => rw [add_field _ _ 1 (by omega)]; exact (Option.some.inj hv) ▸ s1
    | 2, hv => rw [add_field _ _ 2 (by omega)]; exact (Option.some.inj hv) ▸ s2
    | 3, hv => rw [add_field _ _ 3 (by omega)]; exact (Option.some.inj hv) ▸ s3
    | 4, hv => rw [add_field _ _ 4 (by omega)]; exact (Option.some.inj hv) ▸ s4
    | 5, hv => rw [add_field _ _ 5 (by omega)]; exact (Option.some.inj hv) ▸ s5
    | 6, hv => rw [add_field _ _ 6 (by omega)]; exact (Option.some.inj hv) ▸ s6
    | 7, hv => rw [add_field _ _ 7 (by omega)]; exact (Option.some.inj hv) ▸ s7
    | 8, hv => rw [add_field _ _ 8 (by omega)]; exact (Option.some.inj hv) ▸ s8
    | 9, hv => rw [add_field _ _ 9 (by omega)]; exact (Option.some.inj hv) ▸ s9
    | 10, hv => rw [add_field _ _ 10 (by omega)]; exact (Option.some.inj hv) ▸ s10
    | 11, hv => rw [add_field _ _ 11 (by omega)]; exact (Option.some.inj hv) ▸ s11
    | 12, hv => rw [add_field _ _ 12 (by omega)]; exact (Option.some.inj hv) ▸ s12
    | 13, hv => rw [add_field _ _ 13 (by omega)]; exact (Option.some.inj hv) ▸ s13
    | 14, hv => rw [add_field _ _ 14 (by omega)]; exact (Option.some.inj hv) ▸ s14
    | 15, hv => rw [add_field _ _ 15 (by omega)]; exact (Option.some.inj hv) ▸ s15
    | 16, hv => rw [add_field _ _ 16 (by omega)]; exact (Option.some.inj hv) ▸ s16
    | 17, hv => rw [add_field _ _ 17 (by omega)]; exact (Option.some.inj hv) ▸ s17
    | 18, hv => rw [add_field _ _ 18 (by omega)]; exact (Option.some.inj hv) ▸ s18
    | 19, hv => rw [add_field _ _ 19 (by omega)]; exact (Option.some.inj hv) ▸ s19
    | 20, hv => rw [add_field _ _ 20 (by omega)]; exact (Option.some.inj hv) ▸ s20
    | 21, hv => rw [add_field _ _ 21 (by omega)]; exact (Option.some.inj hv) ▸ s21
    | 22, hv => rw [add_field _ _ 22 (by omega)]; exact (Option.some.inj hv) ▸ s22
    | 23, hv => rw [add_field _ _ 23 (by omega)]; exact (Option.some.inj hv) ▸ s23
    | 24, hv => rw [add_field _ _ 24 (by omega)]; exact (Option.some.inj hv) ▸ s24
    | (j + 25), hv => simp at hv
  refine Kd.event_run hgd (v := .agg #[v0, v1, v2, v3, v4, v5, v6, v7, v8, v9, v10, v11, v12, v13, v14, v15, v16, v17, v18, v19, v20, v21, v22, v23, v24]) (w1 := w) ?_ h
  have hl := ldC46_ (P := Tryd.prog) (w := w) (a := ad.add m) (t := 27) [v0, v1, v2, v3, v4, v5, v6, v7, v8, v9, v10, v11, v12, v13, v14, v15, v16, v17, v18, v19, v20, v21, v22, v23, v24] hc Tryd.underlying27 rfl (by kernel_rfl)
  unfold execOp
  simp only [ho, hx]
  simp only [Sem.run_bind, hl, Result.andThen, Sem.run_pure]
mutual
def corebankref38_GreatList.l0 : Nat → List (S27) → Int → Option (Bool)
 | 0, _, _ => none
 | k + 1, x0, x3 => if x3 < (x0.length : Int) then (corebankref38_GreatList.j1 k x0 x3 (decide (x3 ≤ 12))) else (corebankref38_GreatList.j1 k x0 x3 false)
def corebankref38_GreatList.j1 : Nat → List (S27) → Int → Bool → Option (Bool)
 | 0, _, _, _ => none
 | k + 1, x0, x3, x11 => if x11 = true then (if 0 ≤ x3 then (if x3 < (x0.length : Int) then ((corebankref38_Great.f k ((rd_T27 x0 x3).f0) ((rd_T27 x0 x3).f1) ((rd_T27 x0 x3).f2) ((rd_T27 x0 x3).f3) ((rd_T27 x0 x3).f4) ((rd_T27 x0 x3).f5) ((rd_T27 x0 x3).f6) ((rd_T27 x0 x3).f7) ((rd_T27 x0 x3).f8) ((rd_T27 x0 x3).f9) ((rd_T27 x0 x3).f10) ((rd_T27 x0 x3).f11.f0) ((rd_T27 x0 x3).f11.f1) ((rd_T27 x0 x3).f11.f2) ((rd_T27 x0 x3).f11.f3) ((rd_T27 x0 x3).f11.f4) ((rd_T27 x0 x3).f11.f5) ((rd_T27 x0 x3).f11.f6) ((rd_T27 x0 x3).f11.f7) ((rd_T27 x0 x3).f11.f8) ((rd_T27 x0 x3).f11.f9) ((rd_T27 x0 x3).f11.f10) ((rd_T27 x0 x3).f11.f11) ((rd_T27 x0 x3).f12) ((rd_T27 x0 x3).f13)).bind fun t469 => (if t469 = true then (some true) else (corebankref38_GreatList.l0 k x0 (wrap64 (x3 + 1))))) else (none)) else (none)) else (some (decide ((x0.length : Int) > 12)))
end
def corebankref38_GreatList.f (k : Nat) (l0 : List (S27)) : Option (Bool) := corebankref38_GreatList.l0 k l0 0
theorem corebankref38_GreatList.mono_l : ∀ k, (∀ y0 y1, LeO (corebankref38_GreatList.l0 k y0 y1) (corebankref38_GreatList.l0 (k + 1) y0 y1)) ∧ (∀ y0 y1 y2, LeO (corebankref38_GreatList.j1 k y0 y1 y2) (corebankref38_GreatList.j1 (k + 1) y0 y1 y2))
 | 0 => ⟨fun _ _ r h => by simp [corebankref38_GreatList.l0] at h, fun _ _ _ r h => by simp [corebankref38_GreatList.j1] at h⟩
 | k + 1 => by
  obtain ⟨ih0, ih1⟩ := corebankref38_GreatList.mono_l k
  refine ⟨?_, ?_⟩
  ·intro y0 y1
   unfold corebankref38_GreatList.l0
   repeat' first
   | (with_reducible exact ih0 _ _)
   | (with_reducible exact ih1 _ _ _)
   | (with_reducible exact corebankref38_Great.mono _ _ _ _ _ _ _ _ _ _ _ _ _ _ _ _ _ _ _ _ _ _ _ _ _ _)
   | (with_reducible exact LeO.refl _)
   | (with_reducible exact LeO.none _)
   | (with_reducible refine LeO.ite ?_ ?_)
   | (with_reducible refine LeO.bind ?_ (fun _ => ?_))
   | exact ih0 _ _
   | exact ih1 _ _ _
   | exact corebankref38_Great.mono _ _ _ _ _ _ _ _ _ _ _ _ _ _ _ _ _ _ _ _ _ _ _ _ _ _
   | exact LeO.none _
   | refine LeO.ite ?_ ?_
   | refine LeO.bind ?_ (fun _ => ?_)
  ·intro y0 y1 y2
   unfold corebankref38_GreatList.j1
   repeat' first
   | (with_reducible exact ih0 _ _)
   | (with_reducible exact ih1 _ _ _)
   | (with_reducible exact corebankref38_Great.mono _ _ _ _ _ _ _ _ _ _ _ _ _ _ _ _ _ _ _ _ _ _ _ _ _ _)
   | (with_reducible exact LeO.refl _)
   | (with_reducible exact LeO.none _)
   | (with_reducible refine LeO.ite ?_ ?_)
   | (with_reducible refine LeO.bind ?_ (fun _ => ?_))
   | exact ih0 _ _
   | exact ih1 _ _ _
   | exact corebankref38_Great.mono _ _ _ _ _ _ _ _ _ _ _ _ _ _ _ _ _ _ _ _ _ _ _ _ _ _
   | exact LeO.none _
   | refine LeO.ite ?_ ?_
   | refine LeO.bind ?_ (fun _ => ?_)
theorem corebankref38_GreatList.mono : ∀ a0 k, LeO (corebankref38_GreatList.f k a0) (corebankref38_GreatList.f (k + 1) a0) := by
 intro a0 k
 obtain ⟨ih0, ih1⟩ := corebankref38_GreatList.mono_l k
 unfold corebankref38_GreatList.f
 repeat' first
   | (with_reducible exact ih0 _ _)
   | (with_reducible exact ih1 _ _ _)
   | (with_reducible exact corebankref38_Great.mono _ _ _ _ _ _ _ _ _ _ _ _ _ _ _ _ _ _ _ _ _ _ _ _ _ _)
   | (with_reducible exact LeO.refl _)
   | (with_reducible exact LeO.none _)
   | (with_reducible refine LeO.ite ?_ ?_)
   | (with_reducible refine LeO.bind ?_ (fun _ => ?_))
   | exact ih0 _ _
   | exact ih1 _ _ _
   | exact corebankref38_Great.mono _ _ _ _ _ _ _ _ _ _ _ _ _ _ _ _ _ _ _ _ _ _ _ _ _ _
   | exact LeO.none _
   | refine LeO.ite ?_ ?_
   | refine LeO.bind ?_ (fun _ => ?_)
set_option maxHeartbeats 8000000 in
set_option maxRecDepth 100000 in
theorem corebankref38_GreatList.calls (k : Nat) (A0 : Option Addr) (c0 : Nat) (l0 : List (S27)) (r : Bool) (w : World) (hr0 : Kd.C k27 w A0 l0.length l0) (hc0 : l0.length ≤ c0) (h : corebankref38_GreatList.f k l0 = some r) :
  Calls Tryd.prog 19 #[.slice A0 l0.length c0] w fun e w' => e = .returned (.bool r) ∧ Below w.heap.size w w' := by
 have hu27 := Tryd.underlying27
 have HR0 := Aside0.mk hr0
 have HC0 := Aside0.mk hc0
 clear hr0 hc0
 have HB := Aside0.mk (Below.refl w.heap.size w)
 have H : (corebankref38_GreatList.l0 k l0 0) = some r := h
 clear h
 have H' := Aside0.mk H
 clear H
 go_enter Tryd.func19, Tryd.ntmps19
 go_wp2
 go_loopg [3] k (fun kq v3 w' => ∃ (x3_1 : Int), v3 = .int .i64 x3_1 ∧ Aside0 (corebankref38_GreatList.l0 kq l0 x3_1 = some r) ∧ Aside0 (kq ≤ k) ∧ Aside0 (Below w.heap.size w w'))
 case atStart => exact ⟨(0), qs_, H', ⟨Nat.le_refl _⟩, ⟨qb_ HB.out⟩⟩
 case round =>
  clear H'
  try clear c1
  obtain ⟨x3_1, rfl, HA, HK1, HB⟩ := hrel
  cases gk with
  | zero => exact absurd HA.out (by simp [corebankref38_GreatList.l0])
  | succ k1 =>
   have H := HA.out
   clear HA
   simp only [corebankref38_GreatList.l0] at H
   have HC2 := Aside0.mk H
   clear H
   go_upto_region 2 with (fail)
   go_cut [11] (fun v11 wc => ∃ (kq : Nat) (x11_1 : Bool), v11 = .bool x11_1 ∧ Aside0 (corebankref38_GreatList.j1 kq l0 x3_1 x11_1 = some r) ∧ Aside0 (kq ≤ k1) ∧ Aside0 (Below w.heap.size w wc))
   case first =>
    have H := HC2.out
    clear HC2
    by_cases c3 : x3_1 < (l0.length : Int)
    ·rw [if_pos c3] at H
     have c3b0 : decide (x3_1 < (l0.length : Int)) = true := decide_eq_true c3
     clear c3
     (first | rw [c3b0] | (simp only [i64_w, i32_w]; rw [c3b0]) | skip)
     have H' := Aside0.mk H
     clear H
     go_wp2
     go_meet
     case rel => exact ⟨_, (decide (x3_1 ≤ 12)), qs_, H', ⟨by have := HK1.out; first | omega | exact Nat.le_refl _⟩, ⟨qb_ HB.out⟩⟩
    ·rw [if_neg c3] at H
     have c3b0 : decide (x3_1 < (l0.length : Int)) = false := decide_eq_false c3
     clear c3
     (first | rw [c3b0] | (simp only [i64_w, i32_w]; rw [c3b0]) | skip)
     have H' := Aside0.mk H
     clear H
     go_wp2
     go_meet
     case rel => exact ⟨_, (false), qs_, H', ⟨by have := HK1.out; first | omega | exact Nat.le_refl _⟩, ⟨qb_ HB.out⟩⟩
   case rest =>
    clear HC2
    try clear c1
    try clear p2
    try clear c3
    try clear c3b0
    obtain ⟨kq, x11_1, rfl, HA, HJ1, HB⟩ := hcut
    cases kq with
    | zero => exact absurd HA.out (by simp [corebankref38_GreatList.j1])
    | succ kj1 =>
     have H := HA.out
     clear HA
     simp only [corebankref38_GreatList.j1] at H
     by_cases c4 : x11_1 = true
     ·subst c4
      have H1 : (if 0 ≤ x3_1 then (if x3_1 < (l0.length : Int) then ((corebankref38_Great.f kj1 ((rd_T27 l0 x3_1).f0) ((rd_T27 l0 x3_1).f1) ((rd_T27 l0 x3_1).f2) ((rd_T27 l0 x3_1).f3) ((rd_T27 l0 x3_1).f4) ((rd_T27 l0 x3_1).f5) ((rd_T27 l0 x3_1).f6) ((rd_T27 l0 x3_1).f7) ((rd_T27 l0 x3_1).f8) ((rd_T27 l0 x3_1).f9) ((rd_T27 l0 x3_1).f10) ((rd_T27 l0 x3_1).f11.f0) ((rd_T27 l0 x3_1).f11.f1) ((rd_T27 l0 x3_1).f11.f2) ((rd_T27 l0 x3_1).f11.f3) ((rd_T27 l0 x3_1).f11.f4) ((rd_T27 l0 x3_1).f11.f5) ((rd_T27 l0 x3_1).f11.f6) ((rd_T27 l0 x3_1).f11.f7) ((rd_T27 l0 x3_1).f11.f8) ((rd_T27 l0 x3_1).f11.f9) ((rd_T27 l0 x3_1).f11.f10) ((rd_T27 l0 x3_1).f11.f11) ((rd_T27 l0 x3_1).f12) ((rd_T27 l0 x3_1).f13)).bind fun t469 => (if t469 = true then (some true) else (corebankref38_GreatList.l0 kj1 l0 (wrap64 (x3_1 + 1))))) else (none)) else (none)) = some r := by rw [if_pos rfl] at H; exact H
      clear H
      have H := H1
      clear H1
      by_cases c5 : 0 ≤ x3_1
      ·rw [if_pos c5] at H
       have c5b0 : decide (0 ≤ x3_1) = true := decide_eq_true c5
       clear c5
       by_cases c6 : x3_1 < (l0.length : Int)
       ·rw [if_pos c6] at H
        have c6b0 : decide (x3_1 < (l0.length : Int)) = true := decide_eq_true c6
        clear c6
        replace H := Option.bind_eq_some_iff.mp H
        obtain ⟨t469, A70, H⟩ := H
        replace H : (if t469 = true then (some true) else (corebankref38_GreatList.l0 kj1 l0 (wrap64 (x3_1 + 1)))) = some r := H
        have A7 := Aside0.mk A70
        clear A70
        by_cases c8 : t469 = true
        ·subst c8
         have H1 : (some true) = some r := by rw [if_pos rfl] at H; exact H
         clear H
         have H := H1
         clear H1
         obtain rfl := Option.some.inj H
         have p468 : 0 ≤ (x3_1 : Int) := of_decide_eq_true (by first | (with_reducible assumption) | assumption)
         have q468 : x3_1 < (l0.length : Int) := of_decide_eq_true (by first | (with_reducible assumption) | assumption)
         obtain ⟨ad468, A468_23, c468_23, A468_24, c468_24, e468, hx468_0, hx468_1, hx468_2, hx468_3, hx468_4, hx468_5, hx468_6, hx468_7, hx468_8, hx468_9, hx468_10, hx468_11, hx468_12, hx468_13, hx468_14, hx468_15, hx468_16, hx468_17, hx468_18, hx468_19, hx468_20, hx468_21, hx468_22, hx468_23, hx468_24, hl468_23, hi468_23, hl468_24, hi468_24⟩ := at_T27 HR0.out x3_1 p468 q468
         cases e468
         replace hx468_0 := bx_ HB.out hx468_0
         replace hx468_1 := bx_ HB.out hx468_1
         replace hx468_2 := bx_ HB.out hx468_2
         replace hx468_3 := bx_ HB.out hx468_3
         replace hx468_4 := bx_ HB.out hx468_4
         replace hx468_5 := bx_ HB.out hx468_5
         replace hx468_6 := bx_ HB.out hx468_6
         replace hx468_7 := bx_ HB.out hx468_7
         replace hx468_8 := bx_ HB.out hx468_8
         replace hx468_9 := bx_ HB.out hx468_9
         replace hx468_10 := bx_ HB.out hx468_10
         replace hx468_11 := bx_ HB.out hx468_11
         replace hx468_12 := bx_ HB.out hx468_12
         replace hx468_13 := bx_ HB.out hx468_13
         replace hx468_14 := bx_ HB.out hx468_14
         replace hx468_15 := bx_ HB.out hx468_15
         replace hx468_16 := bx_ HB.out hx468_16
         replace hx468_17 := bx_ HB.out hx468_17
         replace hx468_18 := bx_ HB.out hx468_18
         replace hx468_19 := bx_ HB.out hx468_19
         replace hx468_20 := bx_ HB.out hx468_20
         replace hx468_21 := bx_ HB.out hx468_21
         replace hx468_22 := bx_ HB.out hx468_22
         replace hx468_23 := bx_ HB.out hx468_23
         replace hx468_24 := bx_ HB.out hx468_24
         have HR468_23 := Aside0.mk hi468_23
         have HC468_23 := Aside0.mk hl468_23
         clear hi468_23 hl468_23
         have HR468_24 := Aside0.mk hi468_24
         have HC468_24 := Aside0.mk hl468_24
         clear hi468_24 hl468_24
         replace p468 := eq_true p468
         replace q468 := eq_true q468
         go_wp2_with (first | ((with_reducible refine gate_load_ (t := 27) rfl ?_); refine ldE46_ (ad := ad468) (by rfl) (by rfl) (by rfl) hx468_0 hx468_1 hx468_2 hx468_3 hx468_4 hx468_5 hx468_6 hx468_7 hx468_8 hx468_9 hx468_10 hx468_11 hx468_12 hx468_13 hx468_14 hx468_15 hx468_16 hx468_17 hx468_18 hx468_19 hx468_20 hx468_21 hx468_22 hx468_23 hx468_24 ?_) | ((with_reducible refine gate_callee (f := 8) rfl ?_); refine goesL_ (some 18) rfl rfl Tryd.func8 (by kernel_rfl) rfl #[.agg #[.int .i64 ((rd_T27 l0 x3_1).f0), .int .i64 ((rd_T27 l0 x3_1).f1), .int .i64 ((rd_T27 l0 x3_1).f2), .int .i64 ((rd_T27 l0 x3_1).f3), .int .i64 ((rd_T27 l0 x3_1).f4), .int .i64 ((rd_T27 l0 x3_1).f5), .int .i64 ((rd_T27 l0 x3_1).f6), .int .i64 ((rd_T27 l0 x3_1).f7), .int .i64 ((rd_T27 l0 x3_1).f8), .int .i64 ((rd_T27 l0 x3_1).f9), .int .i64 ((rd_T27 l0 x3_1).f10), .int .i64 ((rd_T27 l0 x3_1).f11.f0), .int .i64 ((rd_T27 l0 x3_1).f11.f1), .int .i64 ((rd_T27 l0 x3_1).f11.f2), .int .i64 ((rd_T27 l0 x3_1).f11.f3), .int .i64 ((rd_T27 l0 x3_1).f11.f4), .int .i64 ((rd_T27 l0 x3_1).f11.f5), .int .i64 ((rd_T27 l0 x3_1).f11.f6), .int .i64 ((rd_T27 l0 x3_1).f11.f7), .int .i64 ((rd_T27 l0 x3_1).f11.f8), .int .i64 ((rd_T27 l0 x3_1).f11.f9), .string ((rd_T27 l0 x3_1).f11.f10), .string ((rd_T27 l0 x3_1).f11.f11), .slice A468_23 ((rd_T27 l0 x3_1).f12).length c468_23, .slice A468_24 ((rd_T27 l0 x3_1).f13).length c468_24]] rfl ql_ ?_; (with_reducible refine (corebankref38_Great.calls kj1 ((rd_T27 l0 x3_1).f0) ((rd_T27 l0 x3_1).f1) ((rd_T27 l0 x3_1).f2) ((rd_T27 l0 x3_1).f3) ((rd_T27 l0 x3_1).f4) ((rd_T27 l0 x3_1).f5) ((rd_T27 l0 x3_1).f6) ((rd_T27 l0 x3_1).f7) ((rd_T27 l0 x3_1).f8) ((rd_T27 l0 x3_1).f9) ((rd_T27 l0 x3_1).f10) ((rd_T27 l0 x3_1).f11.f0) ((rd_T27 l0 x3_1).f11.f1) ((rd_T27 l0 x3_1).f11.f2) ((rd_T27 l0 x3_1).f11.f3) ((rd_T27 l0 x3_1).f11.f4) ((rd_T27 l0 x3_1).f11.f5) ((rd_T27 l0 x3_1).f11.f6) ((rd_T27 l0 x3_1).f11.f7) ((rd_T27 l0 x3_1).f11.f8) ((rd_T27 l0 x3_1).f11.f9) ((rd_T27 l0 x3_1).f11.f10) ((rd_T27 l0 x3_1).f11.f11) _ _ ((rd_T27 l0 x3_1).f12) _ _ ((rd_T27 l0 x3_1).f13) true _ ?side1 ?side2 ?side3 ?side4 A7.out).mono ?_); (case side1 => repeat (first | exact (Kd.C_below HR468_23.out HB.out) | (with_reducible refine Kd.C_alloc ?_ _) | (with_reducible refine Kd.C_drewN ?_ _) | (with_reducible refine Kd.C_drew ?_))); (case side2 => exact HC468_23.out); (case side3 => repeat (first | exact (Kd.C_below HR468_24.out HB.out) | (with_reducible refine Kd.C_alloc ?_ _) | (with_reducible refine Kd.C_drewN ?_ _) | (with_reducible refine Kd.C_drew ?_))); (case side4 => exact HC468_24.out); rintro e w9 ⟨rfl, hb⟩; refine ⟨_, rfl, ?_⟩; have n0_ := Aside0.mk (below_step (qb_ HB.out) hb); clear HB; have HB := n0_; clear n0_; (try clear hb); (try clear hb2); (try clear hk); (try clear hi)))
         go_ret
         exact ⟨qe_, qb_ HB.out⟩
        ·replace c8 := Bool.eq_false_iff.mpr c8
         subst c8
         have H1 : (corebankref38_GreatList.l0 kj1 l0 (wrap64 (x3_1 + 1))) = some r := by rw [if_neg (show ¬ (false = true) by decide)] at H; exact H
         clear H
         have H := H1
         clear H1
         have H' := Aside0.mk H
         clear H
         have p468 : 0 ≤ (x3_1 : Int) := of_decide_eq_true (by first | (with_reducible assumption) | assumption)
         have q468 : x3_1 < (l0.length : Int) := of_decide_eq_true (by first | (with_reducible assumption) | assumption)
         obtain ⟨ad468, A468_23, c468_23, A468_24, c468_24, e468, hx468_0, hx468_1, hx468_2, hx468_3, hx468_4, hx468_5, hx468_6, hx468_7, hx468_8, hx468_9, hx468_10, hx468_11, hx468_12, hx468_13, hx468_14, hx468_15, hx468_16, hx468_17, hx468_18, hx468_19, hx468_20, hx468_21, hx468_22, hx468_23, hx468_24, hl468_23, hi468_23, hl468_24, hi468_24⟩ := at_T27 HR0.out x3_1 p468 q468
         cases e468
         replace hx468_0 := bx_ HB.out hx468_0
         replace hx468_1 := bx_ HB.out hx468_1
         replace hx468_2 := bx_ HB.out hx468_2
         replace hx468_3 := bx_ HB.out hx468_3
         replace hx468_4 := bx_ HB.out hx468_4
         replace hx468_5 := bx_ HB.out hx468_5
         replace hx468_6 := bx_ HB.out hx468_6
         replace hx468_7 := bx_ HB.out hx468_7
         replace hx468_8 := bx_ HB.out hx468_8
         replace hx468_9 := bx_ HB.out hx468_9
         replace hx468_10 := bx_ HB.out hx468_10
         replace hx468_11 := bx_ HB.out hx468_11
         replace hx468_12 := bx_ HB.out hx468_12
         replace hx468_13 := bx_ HB.out hx468_13
         replace hx468_14 := bx_ HB.out hx468_14
         replace hx468_15 := bx_ HB.out hx468_15
         replace hx468_16 := bx_ HB.out hx468_16
         replace hx468_17 := bx_ HB.out hx468_17
         replace hx468_18 := bx_ HB.out hx468_18
         replace hx468_19 := bx_ HB.out hx468_19
         replace hx468_20 := bx_ HB.out hx468_20
         replace hx468_21 := bx_ HB.out hx468_21
         replace hx468_22 := bx_ HB.out hx468_22
         replace hx468_23 := bx_ HB.out hx468_23
         replace hx468_24 := bx_ HB.out hx468_24
         have HR468_23 := Aside0.mk hi468_23
         have HC468_23 := Aside0.mk hl468_23
         clear hi468_23 hl468_23
         have HR468_24 := Aside0.mk hi468_24
         have HC468_24 := Aside0.mk hl468_24
         clear hi468_24 hl468_24
         replace p468 := eq_true p468
         replace q468 := eq_true q468
         go_wp2_with (first | ((with_reducible refine gate_load_ (t := 27) rfl ?_); refine ldE46_ (ad := ad468) (by rfl) (by rfl) (by rfl) hx468_0 hx468_1 hx468_2 hx468_3 hx468_4 hx468_5 hx468_6 hx468_7 hx468_8 hx468_9 hx468_10 hx468_11 hx468_12 hx468_13 hx468_14 hx468_15 hx468_16 hx468_17 hx468_18 hx468_19 hx468_20 hx468_21 hx468_22 hx468_23 hx468_24 ?_) | ((with_reducible refine gate_callee (f := 8) rfl ?_); refine goesL_ (some 18) rfl rfl Tryd.func8 (by kernel_rfl) rfl #[.agg #[.int .i64 ((rd_T27 l0 x3_1).f0), .int .i64 ((rd_T27 l0 x3_1).f1), .int .i64 ((rd_T27 l0 x3_1).f2), .int .i64 ((rd_T27 l0 x3_1).f3), .int .i64 ((rd_T27 l0 x3_1).f4), .int .i64 ((rd_T27 l0 x3_1).f5), .int .i64 ((rd_T27 l0 x3_1).f6), .int .i64 ((rd_T27 l0 x3_1).f7), .int .i64 ((rd_T27 l0 x3_1).f8), .int .i64 ((rd_T27 l0 x3_1).f9), .int .i64 ((rd_T27 l0 x3_1).f10), .int .i64 ((rd_T27 l0 x3_1).f11.f0), .int .i64 ((rd_T27 l0 x3_1).f11.f1), .int .i64 ((rd_T27 l0 x3_1).f11.f2), .int .i64 ((rd_T27 l0 x3_1).f11.f3), .int .i64 ((rd_T27 l0 x3_1).f11.f4), .int .i64 ((rd_T27 l0 x3_1).f11.f5), .int .i64 ((rd_T27 l0 x3_1).f11.f6), .int .i64 ((rd_T27 l0 x3_1).f11.f7), .int .i64 ((rd_T27 l0 x3_1).f11.f8), .int .i64 ((rd_T27 l0 x3_1).f11.f9), .string ((rd_T27 l0 x3_1).f11.f10), .string ((rd_T27 l0 x3_1).f11.f11), .slice A468_23 ((rd_T27 l0 x3_1).f12).length c468_23, .slice A468_24 ((rd_T27 l0 x3_1).f13).length c468_24]] rfl ql_ ?_; (with_reducible refine (corebankref38_Great.calls kj1 ((rd_T27 l0 x3_1).f0) ((rd_T27 l0 x3_1).f1) ((rd_T27 l0 x3_1).f2) ((rd_T27 l0 x3_1).f3) ((rd_T27 l0 x3_1).f4) ((rd_T27 l0 x3_1).f5) ((rd_T27 l0 x3_1).f6) ((rd_T27 l0 x3_1).f7) ((rd_T27 l0 x3_1).f8) ((rd_T27 l0 x3_1).f9) ((rd_T27 l0 x3_1).f10) ((rd_T27 l0 x3_1).f11.f0) ((rd_T27 l0 x3_1).f11.f1) ((rd_T27 l0 x3_1).f11.f2) ((rd_T27 l0 x3_1).f11.f3) ((rd_T27 l0 x3_1).f11.f4) ((rd_T27 l0 x3_1).f11.f5) ((rd_T27 l0 x3_1).f11.f6) ((rd_T27 l0 x3_1).f11.f7) ((rd_T27 l0 x3_1).f11.f8) ((rd_T27 l0 x3_1).f11.f9) ((rd_T27 l0 x3_1).f11.f10) ((rd_T27 l0 x3_1).f11.f11) _ _ ((rd_T27 l0 x3_1).f12) _ _ ((rd_T27 l0 x3_1).f13) false _ ?side1 ?side2 ?side3 ?side4 A7.out).mono ?_); (case side1 => repeat (first | exact (Kd.C_below HR468_23.out HB.out) | (with_reducible refine Kd.C_alloc ?_ _) | (with_reducible refine Kd.C_drewN ?_ _) | (with_reducible refine Kd.C_drew ?_))); (case side2 => exact HC468_23.out); (case side3 => repeat (first | exact (Kd.C_below HR468_24.out HB.out) | (with_reducible refine Kd.C_alloc ?_ _) | (with_reducible refine Kd.C_drewN ?_ _) | (with_reducible refine Kd.C_drew ?_))); (case side4 => exact HC468_24.out); rintro e w10 ⟨rfl, hb⟩; refine ⟨_, rfl, ?_⟩; have n0_ := Aside0.mk (below_step (qb_ HB.out) hb); clear HB; have HB := n0_; clear n0_; (try clear hb); (try clear hb2); (try clear hk); (try clear hi)))
         go_roundg kj1
         case measure => have := HK1.out; have := HJ1.out; omega
         case rel => exact ⟨(wrap64 (x3_1 + 1)), qs_, H', ⟨by have := HK1.out; have := HJ1.out; omega⟩, ⟨qb_ HB.out⟩⟩
       ·rw [if_neg c6] at H
        exact absurd H (by simp)
      ·rw [if_neg c5] at H
       exact absurd H (by simp)
     ·replace c4 := Bool.eq_false_iff.mpr c4
      subst c4
      have H1 : (some (decide ((l0.length : Int) > 12))) = some r := by rw [if_neg (show ¬ (false = true) by decide)] at H; exact H
      clear H
      have H := H1
      clear H1
      obtain rfl := Option.some.inj H
      go_wp2
      go_ret
      exact ⟨qe_, qb_ HB.out⟩
end Go.Proofs.YtjkjiibhdpcpkaaDoor.PS
